import PyProof.Rows.All
import Wide.All
import OpenK.AllK
import Wide.FinOn
import HandS.ForMost
import HandS.ForExc
import HandS.Walk
import HandS.Deep
import HandS.WordsDict
import HandS.DictComp
import KE.SortData
import KE.DataEq
import KE.DataFind
import KE.DataIsa
import KE.DataAny
import HandS.TupAny
import HandS.TupMul
import KE.DataCmp
import HandS.IsInst
import HandS.Conv
import HandS.Style
import HandS.More
import HandS.Zip
import HandS.CallSlots
import KE.KDictSum
import HandS.SetFor
import KE.KDictZip
import KE.KItemsList
import PySem.Challenge.RW_tielooks_k01_forms_of_any_values
set_option Elab.async false
set_option linter.all false
set_option maxRecDepth 100000
set_option maxHeartbeats 4000000
/-! DLa: data, the persistent part of the heap, what a slot holds -/
namespace DL
open PySem PySem.Spec PyProof.Rows L2

def kD : Key → PyData
  | .inl i => .int i
  | .inr x => .str x

mutual
/-- the value v shows the datum d, by what stands in P -/
inductive Rp (K : PySem.W.Frag) (P : Hp) : V → PyData → Prop
  | non : Rp K P .non .none
  | bl (b : Bool) : Rp K P (.bl b) (.bool b)
  | int (i : Int) : Rp K P (.int i) (.int i)
  | str (x : Str) : Rp K P (.str x) (.str x)
  | lst {a : Addr} {xs : List V} {ds : List PyData} : SqL K P a xs → RpAll K P xs ds → Rp K P (.ref a) (.list ds)
  | tup {a : Addr} {xs : List V} {ds : List PyData} : SqT K P a xs → RpAll K P xs ds → Rp K P (.ref a) (.tuple ds)
  | dic {a : Addr} {kvs : List (Key × V)} {es : List (PyData × PyData)} : P a = some (.dK kvs) → kvs.map (fun p => kD p.1) = es.map (·.1) → RpAll K P (kvs.map (·.2)) (es.map (·.2)) → Rp K P (.ref a) (.dict es)
inductive RpAll (K : PySem.W.Frag) (P : Hp) : List V → List PyData → Prop
  | nil : RpAll K P [] []
  | cons {v : V} {vs : List V} {d : PyData} {ds : List PyData} : Rp K P v d → RpAll K P vs ds → RpAll K P (v :: vs) (d :: ds)
end

theorem _root_.L2.Rd.mono {H H' : Hp} {a : Addr} {u : HO} (e : Same H H') (h : Rd H a u) : Rd H' a u := by
  rcases h with h | ⟨o, h⟩
  · exact .inl (e _ _ h)
  · exact .inr ⟨o, e _ _ h⟩
theorem _root_.L2.Same.sqt {K : PySem.W.Frag} {H H' : Hp} {a : Addr} {xs : List V} (e : Same H H') (h : SqT K H a xs) : SqT K H' a xs := by
  rcases h with (h | ⟨o, h⟩) | h
  · exact .inl (.inl (e _ _ h))
  · exact .inl (.inr ⟨o, e _ _ h⟩)
  · exact .inr h

theorem _root_.L2.Same.sql {K : PySem.W.Frag} {H H' : Hp} {a : Addr} {xs : List V} (e : Same H H') (h : SqL K H a xs) : SqL K H' a xs := by
  rcases h with (h | ⟨o, h⟩) | h
  · exact .inl (.inl (e _ _ h))
  · exact .inl (.inr ⟨o, e _ _ h⟩)
  · exact .inr h

section
variable {K : PySem.W.Frag} {P P' : Hp}
mutual
theorem Rp.mono (e : Same P P') : ∀ {v : V} {d : PyData}, Rp K P v d → Rp K P' v d
  | _, _, .non => .non
  | _, _, .bl b => .bl b
  | _, _, .int i => .int i
  | _, _, .str x => .str x
  | _, _, .lst h q => .lst (e.sql h) (RpAll.mono e q)
  | _, _, .tup h q => .tup (e.sqt h) (RpAll.mono e q)
  | _, _, .dic h q1 q2 => .dic (e _ _ h) q1 (RpAll.mono e q2)
theorem RpAll.mono (e : Same P P') : ∀ {vs : List V} {ds : List PyData}, RpAll K P vs ds → RpAll K P' vs ds
  | _, _, .nil => .nil
  | _, _, .cons h q => .cons (Rp.mono e h) (RpAll.mono e q)
end
theorem RpAll.length : ∀ {vs : List V} {ds : List PyData}, RpAll K P vs ds → vs.length = ds.length
  | _, _, .nil => rfl
  | _, _, .cons _ q => by rw [List.length_cons, List.length_cons, RpAll.length q]
theorem RpAll.get : ∀ {vs : List V} {ds : List PyData} {i : Nat} {d : PyData}, RpAll K P vs ds → ds[i]? = some d → ∃ v, vs[i]? = some v ∧ Rp K P v d
  | _, _, _, _, .nil, e => by simp at e
  | _, _, 0, _, .cons h _, e => by simp at e; subst e; exact ⟨_, rfl, h⟩
  | _, _, i + 1, _, .cons _ q, e => by
    obtain ⟨v, h1, h2⟩ := RpAll.get (i := i) q (by simpa using e)
    exact ⟨v, by simpa using h1, h2⟩
theorem RpAll.getV : ∀ {vs : List V} {ds : List PyData} {i : Nat} {v : V}, RpAll K P vs ds → vs[i]? = some v → ∃ d, ds[i]? = some d ∧ Rp K P v d
  | _, _, _, _, .nil, e => by simp at e
  | _, _, 0, _, .cons h _, e => by simp at e; subst e; exact ⟨_, rfl, h⟩
  | _, _, i + 1, _, .cons _ q, e => by
    obtain ⟨v, h1, h2⟩ := RpAll.getV (i := i) q (by simpa using e)
    exact ⟨v, by simpa using h1, h2⟩
theorem RpAll.append : ∀ {vs ws : List V} {ds es : List PyData}, RpAll K P vs ds → RpAll K P ws es → RpAll K P (vs ++ ws) (ds ++ es)
  | _, _, _, _, .nil, q => q
  | _, _, _, _, .cons h t, q => .cons h (RpAll.append t q)
theorem RpAll.take (n : Nat) : ∀ {vs : List V} {ds : List PyData}, RpAll K P vs ds → RpAll K P (vs.take n) (ds.take n) := by
  induction n with
  | zero => intro vs ds _; exact .nil
  | succ n ih =>
    intro vs ds h
    cases h with
    | nil => exact .nil
    | cons a b => exact .cons a (ih b)
theorem RpAll.drop (n : Nat) : ∀ {vs : List V} {ds : List PyData}, RpAll K P vs ds → RpAll K P (vs.drop n) (ds.drop n) := by
  induction n with
  | zero => intro vs ds h; exact h
  | succ n ih =>
    intro vs ds h
    cases h with
    | nil => exact .nil
    | cons a b => exact ih b
theorem RpAll.reverse : ∀ {vs : List V} {ds : List PyData}, RpAll K P vs ds → RpAll K P vs.reverse ds.reverse
  | _, _, .nil => .nil
  | _, _, .cons h t => by
    rw [List.reverse_cons, List.reverse_cons]
    exact (RpAll.reverse t).append (.cons h .nil)
theorem RpAll.set {v : V} {d : PyData} (h : Rp K P v d) : ∀ (i : Nat) {vs : List V} {ds : List PyData}, RpAll K P vs ds → RpAll K P (vs.set i v) (ds.set i d)
  | _, _, _, .nil => .nil
  | 0, _, _, .cons _ t => .cons h t
  | i + 1, _, _, .cons a t => .cons a (RpAll.set h i t)
theorem RpAll.eraseIdx : ∀ (i : Nat) {vs : List V} {ds : List PyData}, RpAll K P vs ds → RpAll K P (vs.eraseIdx i) (ds.eraseIdx i)
  | _, _, _, .nil => .nil
  | 0, _, _, .cons _ t => t
  | i + 1, _, _, .cons a t => .cons a (RpAll.eraseIdx i t)
theorem RpAll.ints : ∀ (ns : List Int), RpAll K P (ns.map V.int) (ns.map PyData.int)
  | [] => .nil
  | n :: r => .cons (.int n) (RpAll.ints r)
end

section
variable {X : Cx} {pins : List (Addr × Obj)} {σ : L2.St} {H P : Hp} {s : Shared}
theorem kv_vals : ∀ {kvs : List (Key × V)} {vs : List (Key × Value)}, KV kvs vs → Vals (kvs.map (·.2)) (vs.map (·.2))
  | _, _, .nil => .nil
  | _, _, .cons r t => .cons r.2 (kv_vals t)
theorem pairs_vals {prog : Program} {w : World} : ∀ {es : List DictEntry} {vs : List (Key × Value)}, PySem.Pairs (mixKind prog w) es vs → es.map (·.val) = vs.map (·.2)
  | _, _, .nil => rfl
  | _, _, .cons _ e t => by rw [List.map_cons, List.map_cons, pairs_vals t, e]
theorem pairs_keys {prog : Program} {w : World} {h : Heap} : ∀ {es : List DictEntry} {vs : List (Key × Value)} {kvs : List (Key × V)}, PySem.Pairs (mixKind prog w) es vs → KV kvs vs → ∃ as, ReadsAll h (es.map (·.key)) (kvs.map (fun p => kD p.1)) as
  | _, _, _, .nil, .nil => ⟨_, .nil⟩
  | _, _, _, .cons h1 _ t, .cons r t' => by
    obtain ⟨as, q⟩ := pairs_keys (h := h) t t'
    have h1 := keyIs_shape h1
    rw [← r.1] at h1
    rcases h1 with ⟨i, tk, e1, e2⟩ | ⟨x, tk, e1, e2⟩
    · rw [List.map_cons, List.map_cons, e1, e2]
      exact ⟨_, .cons (.int i tk) q⟩
    · rw [List.map_cons, List.map_cons, e1, e2]
      exact ⟨_, .cons (.str x tk) q⟩
mutual
theorem Rp.reads (I : Inv X pins σ H s) (e : Same P H) : ∀ {v : V} {d : PyData} {u : Value}, Rp X.K P v d → RelV v u → ∃ as, Reads s.heap u d as
  | _, _, _, .non, r => by cases r; exact ⟨_, Reads.none⟩
  | _, _, _, .bl b, r => by cases r; exact ⟨_, Reads.bool b⟩
  | _, _, _, .int i, r => by obtain ⟨t, rfl⟩ := r; exact ⟨_, Reads.int i t⟩
  | _, _, _, .str x, r => by obtain ⟨t, rfl⟩ := r; exact ⟨_, Reads.str x t⟩
  | _, _, _, .lst h q, r => by
    cases r
    obtain ⟨its, rv, ⟨o, n, ho, hc, _, hd⟩, _⟩ := I.list (e.sql h)
    obtain ⟨as, hr⟩ := RpAll.reads I e q rv
    exact ⟨_, Reads.list ho hc hd hr⟩
  | _, _, _, .tup h q, r => by
    cases r
    obtain ⟨its, rv, ⟨o, ho, hc, n, hd⟩, _⟩ := I.tuple (e.sqt h)
    obtain ⟨as, hr⟩ := RpAll.reads I e q rv
    exact ⟨_, Reads.tuple ho hc hd hr⟩
  | _, _, _, .dic h q1 q2, r => by
    cases r
    obtain ⟨_, _, vs, rk, o, es, ep, ho, hex, hd, hk, hp, _⟩ := (show ObjOk X.prog X.w H s.heap _ (.dK _) from I.hok _ _ (e _ _ h))
    obtain ⟨as, ra⟩ := pairs_keys (h := s.heap) hp rk
    obtain ⟨bs, rb⟩ := RpAll.reads I e q2 (kv_vals rk)
    rw [q1] at ra
    exact ⟨_, Reads.dict ho hex.1 hd ra (by rw [pairs_vals hp]; exact rb)⟩
theorem RpAll.reads (I : Inv X pins σ H s) (e : Same P H) : ∀ {vs : List V} {ds : List PyData} {us : List Value}, RpAll X.K P vs ds → Vals vs us → ∃ as, ReadsAll s.heap us ds as
  | _, _, _, .nil, r => by cases r; exact ⟨_, ReadsAll.nil⟩
  | _, _, _, .cons h q, r => by
    cases r with
    | cons r1 r2 =>
      obtain ⟨as, q1⟩ := Rp.reads I e h r1
      obtain ⟨bs, q2⟩ := RpAll.reads I e q r2
      exact ⟨_, ReadsAll.cons q1 q2⟩
end
end

/-! ### what is new -/
/-- all but the tables of code objects stands as it was -/
def Sam (H H' : Hp) : Prop := ∀ b o, H b = some o → (∀ ps, o ≠ .tbl ps) → H' b = some o
theorem Sam.of {H H' : Hp} (e : Same H H') : Sam H H' := fun b o h _ => e b o h
theorem Sam.refl (H : Hp) : Sam H H := fun _ _ h _ => h
theorem Sam.trans {H H1 H2 : Hp} (a : Sam H H1) (b : Sam H1 H2) : Sam H H2 := fun c o h n => b c o (a c o h n) n
/-- P and H have grown to P' and H': what was known stands, what P' has more is new -/
structure Gro (P H P' H' : Hp) : Prop where
  p : Same P P'
  h : Sam H H'
  tr : ∀ a o, H a = some o → ∃ o', H' a = some o'
  sub : Same P' H'
  new : ∀ a o, P' a = some o → P a = some o ∨ (H a = none ∧ ∀ ps, o ≠ .tbl ps)
theorem Gro.refl {P H : Hp} (e : Same P H) : Gro P H P H := ⟨Same.refl _, Sam.refl _, fun _ o h => ⟨o, h⟩, e, fun _ _ h => .inl h⟩
theorem Gro.free {P H P' H' : Hp} (g : Gro P H P' H') {a : Addr} (h : H' a = none) : H a = none := by
  cases q : H a with
  | none => rfl
  | some o =>
    obtain ⟨o', e⟩ := g.tr a o q
    rw [h] at e
    cases e
theorem Gro.trans {P H P1 H1 P2 H2 : Hp} (a : Gro P H P1 H1) (b : Gro P1 H1 P2 H2) : Gro P H P2 H2 :=
  ⟨a.p.trans b.p, a.h.trans b.h, fun x o h => by
    obtain ⟨o', h'⟩ := a.tr x o h
    exact b.tr x o' h', b.sub, fun x o h => by
    rcases b.new x o h with q | ⟨q, n⟩
    · exact a.new x o q
    · exact .inr ⟨a.free q, n⟩⟩
theorem same_upd {H : Hp} {p : Addr} {o : HO} (h : H p = none) : Same H (upd H p o) := fun b x e => by
  rw [upd_ne (ne_of_none e h)]
  exact e
theorem same_upd2 {P H : Hp} {p : Addr} {o : HO} (e : Same P H) : Same (upd P p o) (upd H p o) := fun b x h => by
  by_cases hb : b = p
  · subst hb
    rw [upd_same] at h ⊢
    exact h
  · rw [upd_ne hb] at h ⊢
    exact e _ _ h
/-- a new object is laid and known for good -/
theorem Gro.laid {P H : Hp} {p : Addr} {o : HO} (e : Same P H) (h : H p = none) (n : ∀ ps, o ≠ .tbl ps) : Gro P H (upd P p o) (upd H p o) :=
  ⟨same_upd (e.free h), Sam.of (same_upd h), fun a x q => ⟨x, same_upd h _ _ q⟩, same_upd2 e, fun a x q => by
    by_cases ha : a = p
    · subst ha
      rw [upd_same] at q
      cases q
      exact .inr ⟨h, n⟩
    · rw [upd_ne ha] at q; exact .inl q⟩
/-- a new object is laid, and not known -/
theorem Gro.loose {P H : Hp} {p : Addr} {o : HO} (e : Same P H) (h : H p = none) : Gro P H P (upd H p o) :=
  ⟨Same.refl _, Sam.of (same_upd h), fun a x q => ⟨x, same_upd h _ _ q⟩, e.trans (same_upd h), fun a x q => .inl q⟩
theorem Gro.tup {P H : Hp} {p : Addr} {xs : List V} (e : Same P H) (h : H p = none) : Gro P H (upd P p (.tup xs)) (upd H p (.tup xs)) := Gro.laid e h fun _ z => nomatch z
theorem Gro.lst {P H : Hp} {p : Addr} {xs : List V} (e : Same P H) (h : H p = none) : Gro P H (upd P p (.lst xs)) (upd H p (.lst xs)) := Gro.laid e h fun _ z => nomatch z
theorem Rp.newTup {K : PySem.W.Frag} {P : Hp} {p : Addr} {xs : List V} {ds : List PyData} (h : P p = none) (q : RpAll K P xs ds) : Rp K (upd P p (.tup xs)) (.ref p) (.tuple ds) := .tup (.inl (.inl upd_same)) (q.mono (same_upd h))
theorem Rp.newLst {K : PySem.W.Frag} {P : Hp} {p : Addr} {xs : List V} {ds : List PyData} (h : P p = none) (q : RpAll K P xs ds) : Rp K (upd P p (.lst xs)) (.ref p) (.list ds) := .lst (SqL.of upd_same) (q.mono (same_upd h))

end DL
/-! DLb: what a slot holds; the judgements -/
namespace DL
open PySem PySem.Spec PyProof.Rows L2

/-- an exception: its class's name, its fields -/
structure Exc where
  cls : Str
  fs : List (Str × PyData)
/-- what a slot holds: nothing known, a datum, a list of the def's own, a list handed in that may be changed -/
inductive Ent
  | un
  | dat (d : PyData)
  | own (ds : List PyData)
  | io (ds : List PyData)
abbrev Sl := List Ent
/-- what comes of a step: a value and the slots, an exception and the slots, nothing told -/
inductive Out (α : Type)
  | ok (a : α) (ε : Sl)
  | exc (x : Exc) (ε : Sl)
  | stuck
/-- a value that is used at once: a datum, the list in a slot -/
inductive Tk
  | dat (d : PyData)
  | at (i : Nat)
namespace Out
variable {α β : Type}
def bind (o : Out α) (f : α → Sl → Out β) : Out β := match o with
  | ok a ε => f a ε
  | exc x ε => exc x ε
  | stuck => stuck
def map (g : α → β) (o : Out α) : Out β := match o with
  | ok a ε => ok (g a) ε
  | exc x ε => exc x ε
  | stuck => stuck
@[simp] theorem bind_ok {a : α} {ε : Sl} {f : α → Sl → Out β} : (ok a ε).bind f = f a ε := rfl
@[simp] theorem bind_exc {x : Exc} {ε : Sl} {f : α → Sl → Out β} : (exc x ε : Out α).bind f = exc x ε := rfl
@[simp] theorem bind_stuck {f : α → Sl → Out β} : (stuck : Out α).bind f = stuck := rfl
@[simp] theorem map_ok {a : α} {ε : Sl} {g : α → β} : (ok a ε).map g = ok (g a) ε := rfl
@[simp] theorem map_exc {x : Exc} {ε : Sl} {g : α → β} : (exc x ε : Out α).map g = exc x ε := rfl
@[simp] theorem map_stuck {g : α → β} : (stuck : Out α).map g = stuck := rfl
end Out

/-- the def's entry: the heap, the lists handed in, what was known, where the lists handed in by the slots lie -/
structure Sta where
  H0 : Hp
  O : Addr → Prop
  P0 : Hp
  B : Nat → Addr
def EntOk (K : PySem.W.Frag) (S : Sta) (P : Hp) (A : Nat → Addr) (H : Hp) (σ : L2.St) (i : Nat) : Ent → Prop
  | .un => True
  | .dat d => ∃ v, σ[i]? = some (some v) ∧ Rp K P v d
  | .own ds => σ[i]? = some (some (.ref (A i))) ∧ P (A i) = none ∧ S.H0 (A i) = none ∧ ∃ vs, H (A i) = some (.lst vs) ∧ RpAll K P vs ds
  | .io ds => σ[i]? = some (some (.ref (A i))) ∧ P (A i) = none ∧ (S.O (A i) ∧ A i = S.B i) ∧ ∃ vs, H (A i) = some (.lst vs) ∧ RpAll K P vs ds
def Ent.isList : Ent → Bool
  | .own _ => true
  | .io _ => true
  | _ => false
/-- new lists that a step still holds -/
inductive TOb
  | lst (vs : List V)
  | dK (kvs : List (Key × V))
def TOb.ho : TOb → HO
  | .lst vs => .lst vs
  | .dK kvs => .dK kvs
theorem TOb.nt : ∀ (o : TOb) (ps : Array Value), o.ho ≠ .tbl ps
  | .lst _, _ => fun z => nomatch z
  | .dK _, _ => fun z => nomatch z
abbrev Tmp := List (Addr × TOb)
structure Rel (K : PySem.W.Frag) (S : Sta) (T : Tmp) (P : Hp) (A : Nat → Addr) (σ : L2.St) (H : Hp) (ε : Sl) : Prop where
  len : ε.length = σ.length
  sub : Same P H
  pt : ∀ a ps, P a ≠ some (.tbl ps)
  old : Same S.P0 P
  new : ∀ a o, P a = some o → S.P0 a = some o ∨ S.H0 a = none
  fr : ∀ a o, S.H0 a = some o → ¬ S.O a → (∀ ps, o ≠ .tbl ps) → H a = some o
  tr : ∀ a o, S.H0 a = some o → ∃ o', H a = some o'
  io : ∀ a, S.O a → ∃ o, S.H0 a = some o
  ent : ∀ (i : Nat) (e : Ent), ε[i]? = some e → EntOk K S P A H σ i e
  sep : ∀ (i j : Nat) (e u : Ent), i ≠ j → ε[i]? = some e → ε[j]? = some u → e.isList = true → u.isList = true → A i ≠ A j
  tmp : ∀ p ∈ T, H p.1 = some p.2.ho ∧ P p.1 = none ∧ S.H0 p.1 = none ∧ ∀ (i : Nat) (e : Ent), ε[i]? = some e → e.isList = true → A i ≠ p.1
  tnd : (T.map (·.1)).Nodup
section
variable {K : PySem.W.Frag} {S : Sta} {T : Tmp} {P P' : Hp} {A : Nat → Addr} {σ : L2.St} {H H' : Hp} {ε : Sl}
theorem Rel.grow (r : Rel K S T P A σ H ε) (g : Gro P H P' H') : Rel K S T P' A σ H' ε := by
  have pn : ∀ {a : Addr} {o : HO}, P a = none → H a = some o → P' a = none := fun {a o} h q => by
    cases e : P' a with
    | none => rfl
    | some u =>
      rcases g.new a u e with z | ⟨z, _⟩
      · rw [h] at z; cases z
      · rw [q] at z; cases z
  refine ⟨r.len, g.sub, fun a ps e => ?_, r.old.trans g.p, fun a o e => ?_, fun a o h1 h2 h3 => g.h a o (r.fr a o h1 h2 h3) h3, fun a o h => ?_, r.io, fun i e he => ?_, r.sep, fun p hp => ?_, r.tnd⟩
  · rcases g.new a _ e with z | ⟨_, z⟩
    · exact r.pt a ps z
    · exact z ps rfl
  · rcases g.new a o e with z | ⟨z, _⟩
    · exact r.new a o z
    · cases q : S.H0 a with
      | none => exact .inr rfl
      | some u =>
        obtain ⟨u', e'⟩ := r.tr a u q
        rw [z] at e'
        cases e'
  · obtain ⟨o', e⟩ := r.tr a o h
    exact g.tr a o' e
  · have q := r.ent i e he
    cases e with
    | un => trivial
    | dat d =>
      obtain ⟨v, h1, h2⟩ := q
      exact ⟨v, h1, h2.mono g.p⟩
    | own ds =>
      obtain ⟨h1, h2, h3, vs, h4, h5⟩ := q
      exact ⟨h1, pn h2 h4, h3, vs, g.h _ _ h4 (fun _ z => nomatch z), h5.mono g.p⟩
    | io ds =>
      obtain ⟨h1, h2, h3, vs, h4, h5⟩ := q
      exact ⟨h1, pn h2 h4, h3, vs, g.h _ _ h4 (fun _ z => nomatch z), h5.mono g.p⟩
  · obtain ⟨h1, h2, h3, h4⟩ := r.tmp p hp
    exact ⟨g.h _ _ h1 p.2.nt, pn h2 h1, h3, h4⟩
end

/-- the token τ is the value v -/
def TkOk (K : PySem.W.Frag) (P : Hp) (A : Nat → Addr) (v : V) : Tk → Prop
  | .dat d => Rp K P v d
  | .at i => v = .ref (A i)
theorem TkOk.mono {K : PySem.W.Frag} {P P' : Hp} {A : Nat → Addr} {v : V} {τ : Tk} (e : Same P P') (h : TkOk K P A v τ) : TkOk K P' A v τ := by
  cases τ with
  | dat d => exact Rp.mono e h
  | «at» i => exact h
/-- what may be read now: known for good, or a list of the def's own -/
def Rb (K : PySem.W.Frag) (P H : Hp) (v : V) (d : PyData) : Prop := Rp K P v d ∨ ∃ a vs ds, v = .ref a ∧ d = .list ds ∧ H a = some (.lst vs) ∧ RpAll K P vs ds
theorem Rb.rp {K : PySem.W.Frag} {P H : Hp} {v : V} {d : PyData} (e : Same P H) (h : Rb K P H v d) : Rp K H v d := by
  rcases h with h | ⟨a, vs, ds, rfl, rfl, h1, h2⟩
  · exact h.mono e
  · exact .lst (SqL.of h1) (h2.mono e)
def rd (ε : Sl) : Tk → Option PyData
  | .dat d => some d
  | .at i => match ε[i]? with
    | some (.own ds) => some (.list ds)
    | some (.io ds) => some (.list ds)
    | _ => none
@[simp] theorem rd_dat {ε : Sl} {d : PyData} : rd ε (.dat d) = some d := rfl
theorem Rel.rd {K : PySem.W.Frag} {S : Sta} {T : Tmp} {P : Hp} {A : Nat → Addr} {σ : L2.St} {H : Hp} {ε : Sl} (r : Rel K S T P A σ H ε) {τ : Tk} {v : V} {d : PyData} (h : TkOk K P A v τ) (e : rd ε τ = some d) : Rb K P H v d := by
  cases τ with
  | dat d' =>
    cases e
    exact .inl h
  | «at» i =>
    cases h
    unfold DL.rd at e
    dsimp only at e
    split at e
    · rename_i ds q
      cases e
      obtain ⟨_, _, _, vs, h4, h5⟩ := r.ent i _ q
      exact .inr ⟨_, vs, ds, rfl, rfl, h4, h5⟩
    · rename_i ds q
      cases e
      obtain ⟨_, _, _, vs, h4, h5⟩ := r.ent i _ q
      exact .inr ⟨_, vs, ds, rfl, rfl, h4, h5⟩
    · cases e

/-! ### exceptions -/
/-- at d, in H: the own dict of an exception x of the class cls -/
def ExcAt (K : PySem.W.Frag) (mg : Str → Option Value) (P H : Hp) (cls : Value) (d : Option Addr) (x : Exc) : Prop :=
  ∃ (C dd : Addr) (fs : List (Str × V)), cls = .ref C ∧ mg x.cls = some (.ref C) ∧ d = some dd ∧ H dd = some (.xd fs) ∧ fs.map (·.1) = x.fs.map (·.1) ∧ RpAll K P (fs.map (·.2)) (x.fs.map (·.2))
/-- what X does of an exception that R lets out -/
def Acc (X : Cx) (S : Sta) (R : Exc → Sl → Prop) : Prop :=
  ∃ W : WX, Takes X W ∧ ∀ x ε T P A σ H cls d, R x ε → Rel X.K S T P A σ H ε → ExcAt X.K X.mg P H cls d x → W cls d σ H

/-! ### the judgements -/
/-- how a step ends: as φ wishes, or by an exception that R lets out -/
def Wish {α : Type} (R : Exc → Sl → Prop) (o : Out α) (φ : α → Sl → Prop) : Prop := match o with
  | .ok a ε => φ a ε
  | .exc x ε => R x ε
  | .stuck => False
theorem Wish.bind {α β : Type} {R : Exc → Sl → Prop} {o : Out α} {f : α → Sl → Out β} {φ : β → Sl → Prop} (h : Wish R (o.bind f) φ) : Wish R o fun a ε => Wish R (f a ε) φ := by
  cases o <;> exact h
theorem Wish.map {α β : Type} {R : Exc → Sl → Prop} {o : Out α} {g : α → β} {φ : β → Sl → Prop} (h : Wish R (o.map g) φ) : Wish R o fun a ε => φ (g a) ε := by
  cases o <;> exact h
theorem Wish.imp {α : Type} {R : Exc → Sl → Prop} {o : Out α} {φ ψ : α → Sl → Prop} (h : Wish R o φ) (k : ∀ a ε, φ a ε → ψ a ε) : Wish R o ψ := by
  cases o with
  | ok a ε => exact k a ε h
  | exc x ε => exact h
  | stuck => exact h
section
variable (X : Cx) (S : Sta) (R : Exc → Sl → Prop)
abbrev PoT (T : Tmp) (P : Hp) (A : Nat → Addr) (σ : L2.St) (Q : VK) (τ : Tk) (ε' : Sl) : Prop := ∀ v P' H', Rel X.K S T P' A σ H' ε' → Same P P' → TkOk X.K P' A v τ → Q v H'
abbrev PoP (T : Tmp) (P : Hp) (A : Nat → Addr) (σ : L2.St) (Q : VK) (d : PyData) (ε' : Sl) : Prop := ∀ v P' H', Rel X.K S T P' A σ H' ε' → Same P P' → Rp X.K P' v d → Q v H'
abbrev PoN (T : Tmp) (P : Hp) (A : Nat → Addr) (σ : L2.St) (Q : VK) (ds : List PyData) (ε' : Sl) : Prop :=
  ∀ a vs P' H', Rel X.K S T P' A σ H' ε' → Same P P' → H' a = some (.lst vs) → RpAll X.K P' vs ds → P' a = none → S.H0 a = none → (∀ i e, ε'[i]? = some e → e.isList = true → A i ≠ a) → (∀ p ∈ T, p.1 ≠ a) → Q (.ref a) H'
abbrev PoB (T : Tmp) (P : Hp) (A : Nat → Addr) (σ : L2.St) (Q : Bool → Hp → Prop) (b : Bool) (ε' : Sl) : Prop := ∀ P' H', Rel X.K S T P' A σ H' ε' → Same P P' → Q b H'
abbrev PoA (T : Tmp) (P : Hp) (A : Nat → Addr) (σ : L2.St) (Q : List V → Hp → Prop) (τs : List Tk) (ε' : Sl) : Prop := ∀ vs P' H', Rel X.K S T P' A σ H' ε' → Same P P' → Paired (TkOk X.K P' A) vs τs → Q vs H'
/-- an expression: a value used at once; a datum; a new list; a test; arguments -/
def DE (e : Expr) (f : Sl → Out Tk) : Prop := ∃ t : TE, PE X e t ∧ ∀ T P A σ H ε Q, Rel X.K S T P A σ H ε → Wish R (f ε) (PoT X S T P A σ Q) → t σ H Q
def DP (e : Expr) (f : Sl → Out PyData) : Prop := ∃ t : TE, PE X e t ∧ ∀ T P A σ H ε Q, Rel X.K S T P A σ H ε → Wish R (f ε) (PoP X S T P A σ Q) → t σ H Q
def DN (e : Expr) (f : Sl → Out (List PyData)) : Prop := ∃ t : TE, PE X e t ∧ ∀ T P A σ H ε Q, Rel X.K S T P A σ H ε → Wish R (f ε) (PoN X S T P A σ Q) → t σ H Q
def DT (e : Expr) (f : Sl → Out Bool) : Prop := ∃ t : TT, PT X e t ∧ ∀ T P A σ H ε Q, Rel X.K S T P A σ H ε → Wish R (f ε) (PoB X S T P A σ Q) → t σ H Q
def DA (es : List Expr) (f : Sl → Out (List Tk)) : Prop := ∃ t : TA, PA X es t ∧ ∀ T P A σ H ε Q, Rel X.K S T P A σ H ε → Wish R (f ε) (PoA X S T P A σ Q) → t σ H Q
end

/-! ### freezing -/
/-- for good: the list in a slot is frozen -/
def per : Tk → Sl → Out PyData
  | .dat d, ε => .ok d ε
  | .at i, ε => match ε[i]? with
    | some (.own ds) => .ok (.list ds) (ε.set i (.dat (.list ds)))
    | _ => .stuck
@[simp] theorem per_dat {d : PyData} {ε : Sl} : per (.dat d) ε = .ok d ε := rfl
section
variable {K : PySem.W.Frag} {S : Sta} {T : Tmp} {P : Hp} {A : Nat → Addr} {σ : L2.St} {H : Hp} {ε : Sl}
theorem getElem?_set_or {α : Type} {l : List α} {i j : Nat} {a b : α} (h : (l.set i a)[j]? = some b) : (i = j ∧ a = b) ∨ (i ≠ j ∧ l[j]? = some b) := by
  by_cases e : i = j
  · subst e
    by_cases hl : i < l.length
    · rw [List.getElem?_set_self hl] at h
      exact .inl ⟨rfl, Option.some.inj h⟩
    · rw [List.getElem?_eq_none (by simpa using hl)] at h
      cases h
  · rw [List.getElem?_set_ne e] at h
    exact .inr ⟨e, h⟩
/-- an own list in slot i becomes known -/
theorem Rel.freeze (r : Rel K S T P A σ H ε) {i : Nat} {ds : List PyData} (e : ε[i]? = some (.own ds)) : ∃ P', Rel K S T P' A σ H (ε.set i (.dat (.list ds))) ∧ Same P P' ∧ Rp K P' (.ref (A i)) (.list ds) := by
  obtain ⟨h1, h2, h3, vs, h4, h5⟩ := r.ent i _ e
  have sm : Same P (upd P (A i) (.lst vs)) := same_upd h2
  have rp : Rp K (upd P (A i) (.lst vs)) (.ref (A i)) (.list ds) := Rp.newLst h2 h5
  refine ⟨upd P (A i) (.lst vs), ⟨by rw [List.length_set]; exact r.len, fun b o q => ?_, fun a ps q => ?_, r.old.trans sm, fun a o q => ?_, r.fr, r.tr, r.io, fun j u q => ?_, fun j k u w hjk q1 q2 b1 b2 => ?_, fun p hp => ?_, r.tnd⟩, sm, rp⟩
  · by_cases hb : b = A i
    · subst hb
      rw [upd_same] at q
      cases q
      exact h4
    · rw [upd_ne hb] at q
      exact r.sub _ _ q
  · by_cases hb : a = A i
    · subst hb
      rw [upd_same] at q
      cases q
    · rw [upd_ne hb] at q
      exact r.pt _ _ q
  · by_cases hb : a = A i
    · subst hb
      exact .inr h3
    · rw [upd_ne hb] at q
      exact r.new _ _ q
  · rcases getElem?_set_or q with ⟨rfl, rfl⟩ | ⟨ne, q⟩
    · exact ⟨_, h1, rp⟩
    · have z := r.ent j u q
      cases u with
      | un => trivial
      | dat d =>
        obtain ⟨v, z1, z2⟩ := z
        exact ⟨v, z1, z2.mono sm⟩
      | own es =>
        obtain ⟨z1, z2, z3, ws, z4, z5⟩ := z
        exact ⟨z1, by rw [upd_ne (r.sep j i _ _ (Ne.symm ne) q e rfl rfl)]; exact z2, z3, ws, z4, z5.mono sm⟩
      | io es =>
        obtain ⟨z1, z2, z3, ws, z4, z5⟩ := z
        exact ⟨z1, by rw [upd_ne (r.sep j i _ _ (Ne.symm ne) q e rfl rfl)]; exact z2, z3, ws, z4, z5.mono sm⟩
  · rcases getElem?_set_or q1 with ⟨rfl, rfl⟩ | ⟨_, q1⟩
    · cases b1
    · rcases getElem?_set_or q2 with ⟨rfl, rfl⟩ | ⟨_, q2⟩
      · cases b2
      · exact r.sep j k u w hjk q1 q2 b1 b2
  · obtain ⟨t1, t2, t3, t4⟩ := r.tmp p hp
    refine ⟨t1, by rw [upd_ne (Ne.symm (t4 i _ e rfl))]; exact t2, t3, fun j u q b => ?_⟩
    rcases getElem?_set_or q with ⟨rfl, rfl⟩ | ⟨_, q⟩
    · cases b
    · exact t4 j u q b
end
section
variable {X : Cx} {S : Sta} {T : Tmp} {R : Exc → Sl → Prop} {e : Expr}
theorem DE.per {f : Sl → Out Tk} (h : DE X S R e f) : DP X S R e (fun ε => (f ε).bind per) := by
  obtain ⟨t, hp, hq⟩ := h
  refine ⟨t, hp, fun T P A σ H ε Q r w => hq T P A σ H ε Q r (w.bind.imp fun τ ε' w v P' H' r' sm tk => ?_)⟩
  cases τ with
  | dat d => exact w v P' H' r' sm tk
  | «at» i =>
    unfold DL.per at w
    dsimp only at w
    split at w
    · rename_i ds q
      cases tk
      obtain ⟨P2, r2, s2, rp⟩ := r'.freeze q
      exact w _ P2 H' r2 (sm.trans s2) rp
    · exact w.elim
theorem DP.de {f : Sl → Out PyData} (h : DP X S R e f) : DE X S R e (fun ε => (f ε).map .dat) := by
  obtain ⟨t, hp, hq⟩ := h
  exact ⟨t, hp, fun T P A σ H ε Q r w => hq T P A σ H ε Q r (w.map.imp fun d ε' w v P' H' r' sm tk => w v P' H' r' sm tk)⟩
theorem Rel.learn {K : PySem.W.Frag} {S : Sta} {T : Tmp} {P : Hp} {A : Nat → Addr} {σ : L2.St} {H : Hp} {ε : Sl} {a : Addr} {vs : List V} (r : Rel K S T P A σ H ε) (ha : H a = some (.lst vs)) (hp : P a = none) (h0 : S.H0 a = none) (hA : ∀ i e, ε[i]? = some e → e.isList = true → A i ≠ a) (hT : ∀ p ∈ T, p.1 ≠ a) :
    Rel K S T (upd P a (.lst vs)) A σ H ε := by
  have s2 : Same P (upd P a (.lst vs)) := same_upd hp
  refine ⟨r.len, fun b o q => ?_, fun b ps q => ?_, r.old.trans s2, fun b o q => ?_, r.fr, r.tr, r.io, fun j u q => ?_, r.sep, fun p hp => ?_, r.tnd⟩
  · by_cases hb : b = a
    · subst hb
      rw [upd_same] at q
      cases q
      exact ha
    · rw [upd_ne hb] at q
      exact r.sub _ _ q
  · by_cases hb : b = a
    · subst hb
      rw [upd_same] at q
      cases q
    · rw [upd_ne hb] at q
      exact r.pt _ _ q
  · by_cases hb : b = a
    · subst hb
      exact .inr h0
    · rw [upd_ne hb] at q
      exact r.new _ _ q
  · have z := r.ent j u q
    cases u with
    | un => trivial
    | dat d =>
      obtain ⟨v, z1, z2⟩ := z
      exact ⟨v, z1, z2.mono s2⟩
    | own es =>
      obtain ⟨z1, z2, z3, ws, z4, z5⟩ := z
      exact ⟨z1, by rw [upd_ne (hA j _ q rfl)]; exact z2, z3, ws, z4, z5.mono s2⟩
    | io es =>
      obtain ⟨z1, z2, z3, ws, z4, z5⟩ := z
      exact ⟨z1, by rw [upd_ne (hA j _ q rfl)]; exact z2, z3, ws, z4, z5.mono s2⟩
  · obtain ⟨t1, t2, t3, t4⟩ := r.tmp p hp
    exact ⟨t1, by rw [upd_ne (hT p hp)]; exact t2, t3, t4⟩
/-- a new list becomes known -/
theorem DN.dp {f : Sl → Out (List PyData)} (h : DN X S R e f) : DP X S R e (fun ε => (f ε).map .list) := by
  obtain ⟨t, hp, hq⟩ := h
  refine ⟨t, hp, fun T P A σ H ε Q r w => hq T P A σ H ε Q r (w.map.imp fun ds ε' w a vs P' H' r' sm ha hr hp h0 hA hT => ?_)⟩
  exact w _ (upd P' a (.lst vs)) H' (r'.learn ha hp h0 hA hT) (sm.trans (same_upd hp)) (Rp.newLst hp hr)
end
end DL
/-! DLc: operators over data -/
namespace DL
open PySem PySem.Spec PyProof.Rows L2

section
variable {K : PySem.W.Frag} {P H : Hp} {v : V}
theorem Rb.intI {i : Int} (h : Rb K P H v (.int i)) : v = .int i := by
  rcases h with h | ⟨_, _, _, _, e, _⟩
  · cases h; rfl
  · cases e
theorem Rb.boolI {i : Bool} (h : Rb K P H v (.bool i)) : v = .bl i := by
  rcases h with h | ⟨_, _, _, _, e, _⟩
  · cases h; rfl
  · cases e
theorem Rb.strI {i : Str} (h : Rb K P H v (.str i)) : v = .str i := by
  rcases h with h | ⟨_, _, _, _, e, _⟩
  · cases h; rfl
  · cases e
theorem Rb.nonI (h : Rb K P H v .none) : v = .non := by
  rcases h with h | ⟨_, _, _, _, e, _⟩
  · cases h; rfl
  · cases e
theorem Rb.tupI {ds : List PyData} (h : Rb K P H v (.tuple ds)) : ∃ a xs, v = .ref a ∧ SqT K P a xs ∧ RpAll K P xs ds := by
  rcases h with h | ⟨_, _, _, _, e, _⟩
  · cases h with
    | tup h1 h2 => exact ⟨_, _, rfl, h1, h2⟩
  · cases e
theorem Rb.dicI {es : List (PyData × PyData)} (h : Rb K P H v (.dict es)) : ∃ a kvs, v = .ref a ∧ P a = some (.dK kvs) ∧ kvs.map (fun p => kD p.1) = es.map (·.1) ∧ RpAll K P (kvs.map (·.2)) (es.map (·.2)) := by
  rcases h with h | ⟨_, _, _, _, e, _⟩
  · cases h with
    | dic h1 h2 h3 => exact ⟨_, _, rfl, h1, h2, h3⟩
  · cases e
theorem Rb.lstI {ds : List PyData} (e : Same P H) (h : Rb K P H v (.list ds)) : ∃ a xs, v = .ref a ∧ SqL K H a xs ∧ RpAll K P xs ds := by
  rcases h with h | ⟨a, vs, es, rfl, e', h1, h2⟩
  · cases h with
    | lst h1 h2 => exact ⟨_, _, rfl, e.sql h1, h2⟩
  · cases e'
    exact ⟨a, vs, rfl, SqL.of h1, h2⟩
theorem Rp.intI {i : Int} (h : Rp K P v (.int i)) : v = .int i := by cases h; rfl
theorem Rp.boolI {i : Bool} (h : Rp K P v (.bool i)) : v = .bl i := by cases h; rfl
end

/-- a two-place operation on data -/
def OpD (X : Cx) (F : Value → Value → Sem Value) (g : PyData → PyData → Option PyData) : Prop :=
  ∀ P, OpR X F (fun x y H Q => ∃ d e r, Same P H ∧ Rb X.K P H x d ∧ Rb X.K P H y e ∧ g d e = some r ∧ ∀ v P' H', Gro P H P' H' → Rp X.K P' v r → Q v H')
section
variable {X : Cx} {pins : List (Addr × Obj)} {σ : L2.St} {H P : Hp} {s : Shared} {Q : VK}
/-- a plain value as an operation's end -/
theorem fin_val {v : V} {u : Value} {d : PyData} (I : Inv X pins σ H s) (sm : Same P H) (r : RelV v u) (rp : Rp X.K P v d) (q : ∀ v P' H', Gro P H P' H' → Rp X.K P' v d → Q v H') : EP X pins σ Q u s := ⟨v, H, I, r, q v P H (Gro.refl sm) rp⟩
theorem fin_bool {b : Bool} (I : Inv X pins σ H s) (sm : Same P H) (q : ∀ v P' H', Gro P H P' H' → Rp X.K P' v (.bool b) → Q v H') : EP X pins σ Q (.bool b) s := fin_val (v := .bl b) I sm rfl (.bl b) q

/-! ### + - * // % ** << >> & -/
def addD : PyData → PyData → Option PyData
  | .int i, .int j => some (.int (i + j))
  | .str a, .str b => if a.length + b.length ≤ 16777216 then some (.str (a ++ b)) else none
  | .tuple a, .tuple b => if a.length + b.length ≤ 16777216 then some (.tuple (a ++ b)) else none
  | .list a, .list b => if a.length + b.length ≤ 16777216 then some (.list (a ++ b)) else none
  | _, _ => none
theorem add_listG {M : Model} {l b : Addr} {vs ws : Array Value} {E : Value → Shared → Prop} {A : Around} {prog : Program} {w : World} {Q : Value → Shared → Prop} (hl : PlainL s.heap l vs) (hb : PlainL s.heap b ws) (hsz : vs.size + ws.size ≤ sizeLine)
    (h : Q (.ref s.heap.objs.size) { s with heap := s.heap.push { cls := .type "list", data := .seq (vs ++ ws) } }) : wpAny (model prog w) A (binaryOp .Add (.ref l) (.ref b)) Q E s := by
  obtain ⟨o, n, ho, hc, hd, hdt⟩ := hl
  obtain ⟨o2, n2, ho2, hc2, hd2, hdt2⟩ := hb
  obtain ⟨cls, dd, data, sl⟩ := o
  obtain ⟨cls2, dd2, data2, sl2⟩ := o2
  simp only at hc hd hdt hc2 hd2 hdt2
  subst hc hd hdt hc2 hd2 hdt2
  exact concat_meets ⟨_, ho, rfl⟩ ⟨_, ho2, rfl⟩ noFill_list_add seq_list_add PySem.F.slot_list_add PySem.F.entry_list_add (PySem.F.args_list_add_2 _ _) (list_addW l b vs ws n n2 none none sl sl2 hsz) ⟨ho, ho2, h⟩
theorem opd_add : OpD X (binaryOp .Add) addD := by
  intro P pins s σ H x y v u Q I rx ry h
  obtain ⟨d, e, r, sm, hx, hy, hg, q⟩ := h
  unfold addD at hg
  split at hg
  · cases hg
    cases hx.intI
    cases hy.intI
    exact op_add pins s σ H _ _ v u Q I rx ry ⟨_, _, rfl, rfl, q _ _ _ (Gro.refl sm) (.int _)⟩
  · split at hg
    · rename_i hz
      cases hg
      cases hx.strI
      cases hy.strI
      exact op_add_str pins s σ H _ _ v u Q I rx ry ⟨_, _, rfl, rfl, by rw [sizeLine_eq]; exact hz, q _ _ _ (Gro.refl sm) (.str _)⟩
    · cases hg
  · split at hg
    · rename_i hz
      cases hg
      obtain ⟨a, xs, rfl, ha, ra⟩ := hx.tupI
      obtain ⟨b, ys, rfl, hb, rb⟩ := hy.tupI
      have l1 := ra.length
      have l2 := rb.length
      refine op_catA pins s σ H _ _ v u Q I rx ry ⟨a, b, xs, ys, rfl, rfl, sm.sqt ha, sm.sqt hb, by rw [sizeLine_eq, l1, l2]; exact hz, fun z => ?_, fun _ z => ?_, fun _ _ p hp => ?_⟩
      · subst z
        cases ra
        exact q _ _ _ (Gro.refl sm) (.tup hb rb)
      · subst z
        cases rb
        rw [List.append_nil] at q
        exact q _ _ _ (Gro.refl sm) (.tup ha ra)
      · exact q _ _ _ (Gro.tup sm hp) (Rp.newTup (sm.free hp) (ra.append rb))
    · cases hg
  · split at hg
    · rename_i hz
      cases hg
      obtain ⟨a, xs, rfl, ha, ra⟩ := hx.lstI sm
      obtain ⟨b, ys, rfl, hb, rb⟩ := hy.lstI sm
      have l1 := ra.length
      have l2 := rb.length
      cases rx
      cases ry
      obtain ⟨its, r1, p1, _⟩ := I.list ha
      obtain ⟨its2, r2, p2, _⟩ := I.list hb
      have k1 := r1.length
      have k2 := r2.length
      refine add_listG (M := model X.prog X.w) p1 p2 (by rw [List.size_toArray, List.size_toArray, sizeLine_eq]; omega) ?_
      have ea : its.toArray ++ its2.toArray = (its ++ its2).toArray := by simp
      rw [ea]
      exact ⟨.ref _, _, I.lnew (t' := s.toks) (r1.append r2) (by rw [List.length_append, sizeLine_eq]; omega), rfl, q _ _ _ (Gro.lst sm I.fresh) (Rp.newLst (sm.free I.fresh) (ra.append rb))⟩
    · cases hg
  · cases hg
def subD : PyData → PyData → Option PyData
  | .int i, .int j => some (.int (i - j))
  | _, _ => none
theorem opd_sub : OpD X (binaryOp .Sub) subD := by
  intro P pins s σ H x y v u Q I rx ry h
  obtain ⟨d, e, r, sm, hx, hy, hg, q⟩ := h
  unfold subD at hg
  split at hg
  · cases hg
    cases hx.intI
    cases hy.intI
    exact op_sub pins s σ H _ _ v u Q I rx ry ⟨_, _, rfl, rfl, q _ _ _ (Gro.refl sm) (.int _)⟩
  · cases hg
/-- a product of ints, one of them below 2 ^ 64; a list or a tuple so many times -/
def mulD : PyData → PyData → Option PyData
  | .int i, .int j => if (-(2 ^ 64) < i ∧ i < 2 ^ 64) ∨ (-(2 ^ 64) < j ∧ j < 2 ^ 64) then some (.int (i * j)) else none
  | _, _ => none
theorem opd_mul : OpD X (binaryOp .Mult) mulD := by
  intro P pins s σ H x y v u Q I rx ry h
  obtain ⟨d, e, r, sm, hx, hy, hg, q⟩ := h
  unfold mulD at hg
  split at hg
  · split at hg
    · rename_i hz
      cases hg
      cases hx.intI
      cases hy.intI
      exact op_mul pins s σ H _ _ v u Q I rx ry ⟨_, _, rfl, rfl, hz, q _ _ _ (Gro.refl sm) (.int _)⟩
    · cases hg
  · cases hg
def modD : PyData → PyData → Option PyData
  | .int i, .int j => if 0 < j then some (.int (i % j)) else none
  | _, _ => none
theorem opd_mod : OpD X (binaryOp .Mod) modD := by
  intro P pins s σ H x y v u Q I rx ry h
  obtain ⟨d, e, r, sm, hx, hy, hg, q⟩ := h
  unfold modD at hg
  split at hg
  · split at hg
    · rename_i hz
      cases hg
      cases hx.intI
      cases hy.intI
      exact op_mod pins s σ H _ _ v u Q I rx ry ⟨_, _, rfl, rfl, hz, q _ _ _ (Gro.refl sm) (.int _)⟩
    · cases hg
  · cases hg
def divD : PyData → PyData → Option PyData
  | .int i, .int j => if 0 < j ∧ j < 1073741824 then some (.int (i / j)) else none
  | _, _ => none
theorem opd_div : OpD X (binaryOp .FloorDiv) divD := by
  intro P pins s σ H x y v u Q I rx ry h
  obtain ⟨d, e, r, sm, hx, hy, hg, q⟩ := h
  unfold divD at hg
  split at hg
  · split at hg
    · rename_i hz
      cases hg
      cases hx.intI
      cases hy.intI
      exact op_fdiv pins s σ H _ _ v u Q I rx ry ⟨_, _, rfl, rfl, hz, q _ _ _ (Gro.refl sm) (.int _)⟩
    · cases hg
  · cases hg
def powD : PyData → PyData → Option PyData
  | .int i, .int j => if 0 ≤ j ∧ j ≤ 1000000 ∧ i.natAbs < 2 ^ 64 then some (.int (i ^ j.toNat)) else none
  | _, _ => none
theorem opd_pow : OpD X (binaryOp .Pow) powD := by
  intro P pins s σ H x y v u Q I rx ry h
  obtain ⟨d, e, r, sm, hx, hy, hg, q⟩ := h
  unfold powD at hg
  split at hg
  · split at hg
    · rename_i hz
      cases hg
      cases hx.intI
      cases hy.intI
      exact op_pow pins s σ H _ _ v u Q I rx ry ⟨_, _, rfl, rfl, hz, q _ _ _ (Gro.refl sm) (.int _)⟩
    · cases hg
  · cases hg

/-! ### == != -/
def eqD (d e : PyData) : Option PyData := if d.plain = true ∧ e.plain = true ∧ min d.depth e.depth ≤ 60 then some (.bool (PyData.eqv d e)) else none
def neD (d e : PyData) : Option PyData := if d.plain = true ∧ e.plain = true ∧ min d.depth e.depth ≤ 60 then some (.bool (!PyData.eqv d e)) else none
theorem opd_eq (hu : X.A.units + 64 < cLine) : OpD X (compareOp .Eq) eqD := by
  intro P pins s σ H x y v u Q I rx ry h
  obtain ⟨d, e, r, sm, hx, hy, hg, q⟩ := h
  unfold eqD at hg
  split at hg
  · rename_i hz
    cases hg
    obtain ⟨as, r1⟩ := Rp.reads I (Same.refl H) (hx.rp sm) rx
    obtain ⟨bs, r2⟩ := Rp.reads I (Same.refl H) (hy.rp sm) ry
    exact PySem.SeqAt.eq_plain r1 r2 hz.1 hz.2.1 (by omega) (fin_bool I sm q)
  · cases hg
theorem opd_ne (hu : X.A.units + 64 < cLine) : OpD X (compareOp .NotEq) neD := by
  intro P pins s σ H x y v u Q I rx ry h
  obtain ⟨d, e, r, sm, hx, hy, hg, q⟩ := h
  unfold neD at hg
  split at hg
  · rename_i hz
    cases hg
    obtain ⟨as, r1⟩ := Rp.reads I (Same.refl H) (hx.rp sm) rx
    obtain ⟨bs, r2⟩ := Rp.reads I (Same.refl H) (hy.rp sm) ry
    exact PySem.SeqAt.ne_plain r1 r2 hz.1 hz.2.1 (by omega) (fin_bool I sm q)
  · cases hg

/-! ### < <= > >= -/
def isNon : PyData → Bool
  | .none => true
  | _ => false
theorem isNon_ne {d : PyData} (h : isNon d = false) : d ≠ .none := fun e => by subst e; cases h
def ltD : PyData → PyData → Option PyData
  | .int i, .int j => some (.bool (decide (i < j)))
  | d, e => if PySem.W.alike d e = true ∧ isNon d = false ∧ min d.depth e.depth ≤ 60 then some (.bool (PySem.W.dataLt d e)) else none
def gtD : PyData → PyData → Option PyData
  | .int i, .int j => some (.bool (decide (j < i)))
  | d, e => if PySem.W.alike d e = true ∧ isNon d = false ∧ min d.depth e.depth ≤ 60 then some (.bool (PySem.W.dataLt e d)) else none
def leD : PyData → PyData → Option PyData
  | .int i, .int j => some (.bool (decide (i ≤ j)))
  | d, e => if PySem.W.alike d e = true ∧ isNon d = false ∧ min d.depth e.depth ≤ 60 then some (.bool (!PySem.W.dataLt e d)) else none
def geD : PyData → PyData → Option PyData
  | .int i, .int j => some (.bool (decide (j ≤ i)))
  | d, e => if PySem.W.alike d e = true ∧ isNon d = false ∧ min d.depth e.depth ≤ 60 then some (.bool (!PySem.W.dataLt d e)) else none
theorem opd_lt (hu : X.A.units + 64 < cLine) : OpD X (compareOp .Lt) ltD := by
  intro P pins s σ H x y v u Q I rx ry h
  obtain ⟨d, e, r, sm, hx, hy, hg, q⟩ := h
  unfold ltD at hg
  split at hg
  · cases hg
    cases hx.intI
    cases hy.intI
    obtain ⟨t, rfl⟩ := rx
    obtain ⟨t', rfl⟩ := ry
    exact PyProof.Rows.lt_int (fin_bool I sm q)
  · split at hg
    · rename_i hz
      cases hg
      obtain ⟨as, r1⟩ := Rp.reads I (Same.refl H) (hx.rp sm) rx
      obtain ⟨bs, r2⟩ := Rp.reads I (Same.refl H) (hy.rp sm) ry
      exact PySem.W.lt_data r1 r2 hz.1 (isNon_ne hz.2.1) (by omega) (fin_bool I sm q)
    · cases hg
theorem opd_gt (hu : X.A.units + 64 < cLine) : OpD X (compareOp .Gt) gtD := by
  intro P pins s σ H x y v u Q I rx ry h
  obtain ⟨d, e, r, sm, hx, hy, hg, q⟩ := h
  unfold gtD at hg
  split at hg
  · cases hg
    cases hx.intI
    cases hy.intI
    obtain ⟨t, rfl⟩ := rx
    obtain ⟨t', rfl⟩ := ry
    exact PyProof.Rows.gt_int (fin_bool I sm q)
  · split at hg
    · rename_i hz
      cases hg
      obtain ⟨as, r1⟩ := Rp.reads I (Same.refl H) (hx.rp sm) rx
      obtain ⟨bs, r2⟩ := Rp.reads I (Same.refl H) (hy.rp sm) ry
      exact PySem.W.gt_data r1 r2 hz.1 (isNon_ne hz.2.1) (by omega) (fin_bool I sm q)
    · cases hg
theorem opd_le (hu : X.A.units + 64 < cLine) : OpD X (compareOp .LtE) leD := by
  intro P pins s σ H x y v u Q I rx ry h
  obtain ⟨d, e, r, sm, hx, hy, hg, q⟩ := h
  unfold leD at hg
  split at hg
  · cases hg
    cases hx.intI
    cases hy.intI
    obtain ⟨t, rfl⟩ := rx
    obtain ⟨t', rfl⟩ := ry
    exact PyProof.Rows.le_int (fin_bool I sm q)
  · split at hg
    · rename_i hz
      cases hg
      obtain ⟨as, r1⟩ := Rp.reads I (Same.refl H) (hx.rp sm) rx
      obtain ⟨bs, r2⟩ := Rp.reads I (Same.refl H) (hy.rp sm) ry
      exact PySem.W.le_data r1 r2 hz.1 (isNon_ne hz.2.1) (by omega) (fin_bool I sm q)
    · cases hg
theorem opd_ge (hu : X.A.units + 64 < cLine) : OpD X (compareOp .GtE) geD := by
  intro P pins s σ H x y v u Q I rx ry h
  obtain ⟨d, e, r, sm, hx, hy, hg, q⟩ := h
  unfold geD at hg
  split at hg
  · cases hg
    cases hx.intI
    cases hy.intI
    obtain ⟨t, rfl⟩ := rx
    obtain ⟨t', rfl⟩ := ry
    exact PyProof.Rows.ge_int (fin_bool I sm q)
  · split at hg
    · rename_i hz
      cases hg
      obtain ⟨as, r1⟩ := Rp.reads I (Same.refl H) (hx.rp sm) rx
      obtain ⟨bs, r2⟩ := Rp.reads I (Same.refl H) (hy.rp sm) ry
      exact PySem.W.ge_data r1 r2 hz.1 (isNon_ne hz.2.1) (by omega) (fin_bool I sm q)
    · cases hg
end
end DL
/-! DLd: expressions -/
namespace DL
open PySem PySem.Spec PyProof.Rows L2

/-! ### in -/
def inD : PyData → PyData → Option PyData
  | d, .list xs => if PyData.plainAll xs = true ∧ d.plain = true ∧ min (PyData.depthAll xs) d.depth ≤ 60 then some (.bool (xs.any fun y => PyData.eqv y d)) else none
  | d, .tuple xs => if PyData.plainAll xs = true ∧ d.plain = true ∧ min (PyData.depthAll xs) d.depth ≤ 60 then some (.bool (xs.any fun y => PyData.eqv y d)) else none
  | .str a, .str b => match a.cps.toList with
    | [c] => some (.bool (decide (c ∈ b.cps.toList)))
    | _ => none
  | _, _ => none
def notInD : PyData → PyData → Option PyData
  | d, .list xs => if PyData.plainAll xs = true ∧ d.plain = true ∧ min (PyData.depthAll xs) d.depth ≤ 60 then some (.bool (!xs.any fun y => PyData.eqv y d)) else none
  | d, .tuple xs => if PyData.plainAll xs = true ∧ d.plain = true ∧ min (PyData.depthAll xs) d.depth ≤ 60 then some (.bool (!xs.any fun y => PyData.eqv y d)) else none
  | .str a, .str b => match a.cps.toList with
    | [c] => some (.bool (!decide (c ∈ b.cps.toList)))
    | _ => none
  | _, _ => none
theorem str_one {a : Str} {c : Nat} (h : a.cps.toList = [c]) : a = ⟨#[c]⟩ := by
  obtain ⟨cps⟩ := a
  have : cps = #[c] := by
    apply Array.ext'
    simpa using h
  rw [this]
section
variable {X : Cx}
theorem opd_in (hu : X.A.units + 64 < cLine) : OpD X (compareOp .In) inD := by
  intro P pins s σ H x y v u Q I rx ry h
  obtain ⟨d, e, r, sm, hx, hy, hg, q⟩ := h
  obtain ⟨as, r1⟩ := Rp.reads I (Same.refl H) (hx.rp sm) rx
  obtain ⟨bs, r2⟩ := Rp.reads I (Same.refl H) (hy.rp sm) ry
  unfold inD at hg
  split at hg
  · split at hg
    · rename_i hz
      cases hg
      exact SeqAt.in_list_data r2 r1 hz.1 hz.2.1 (by omega) (fin_bool I sm q)
    · cases hg
  · split at hg
    · rename_i hz
      cases hg
      exact SeqAt.in_tuple_data r2 r1 hz.1 hz.2.1 (by omega) (fin_bool I sm q)
    · cases hg
  · split at hg
    · rename_i hz
      cases hg
      cases hx.strI
      cases hy.strI
      have e := str_one hz
      subst e
      exact op_in_sign pins s σ H _ _ v u Q I rx ry ⟨_, _, rfl, rfl, q _ _ _ (Gro.refl sm) (.bl _)⟩
    · cases hg
  · cases hg
theorem opd_notIn (hu : X.A.units + 64 < cLine) : OpD X (compareOp .NotIn) notInD := by
  intro P pins s σ H x y v u Q I rx ry h
  obtain ⟨d, e, r, sm, hx, hy, hg, q⟩ := h
  obtain ⟨as, r1⟩ := Rp.reads I (Same.refl H) (hx.rp sm) rx
  obtain ⟨bs, r2⟩ := Rp.reads I (Same.refl H) (hy.rp sm) ry
  unfold notInD at hg
  split at hg
  · split at hg
    · rename_i hz
      cases hg
      exact SeqAt.notIn_list_data r2 r1 hz.1 hz.2.1 (by omega) (fin_bool I sm q)
    · cases hg
  · split at hg
    · rename_i hz
      cases hg
      exact SeqAt.notIn_tuple_data r2 r1 hz.1 hz.2.1 (by omega) (fin_bool I sm q)
    · cases hg
  · split at hg
    · rename_i hz
      cases hg
      cases hx.strI
      cases hy.strI
      have e := str_one hz
      subst e
      exact op_notIn_sign pins s σ H _ _ v u Q I rx ry ⟨_, _, rfl, rfl, q _ _ _ (Gro.refl sm) (.bl _)⟩
    · cases hg
  · cases hg
/-! ### shifts, masks -/
def shlD : PyData → PyData → Option PyData
  | .int i, .int j => if 0 ≤ j ∧ j ≤ 1000000 ∧ i.natAbs < 2 ^ 64 then some (.int (i * 2 ^ j.toNat)) else none
  | _, _ => none
theorem opd_shl : OpD X (binaryOp .LShift) shlD := by
  intro P pins s σ H x y v u Q I rx ry h
  obtain ⟨d, e, r, sm, hx, hy, hg, q⟩ := h
  unfold shlD at hg
  split at hg
  · split at hg
    · rename_i hz
      cases hg
      cases hx.intI
      cases hy.intI
      exact op_shl pins s σ H _ _ v u Q I rx ry ⟨_, _, rfl, rfl, hz, q _ _ _ (Gro.refl sm) (.int _)⟩
    · cases hg
  · cases hg
def shrD : PyData → PyData → Option PyData
  | .int i, .int j => if 0 ≤ j then some (.int (i / 2 ^ j.toNat)) else none
  | _, _ => none
theorem opd_shr : OpD X (binaryOp .RShift) shrD := by
  intro P pins s σ H x y v u Q I rx ry h
  obtain ⟨d, e, r, sm, hx, hy, hg, q⟩ := h
  unfold shrD at hg
  split at hg
  · split at hg
    · rename_i hz
      cases hg
      cases hx.intI
      cases hy.intI
      exact op_shr pins s σ H _ _ v u Q I rx ry ⟨_, _, rfl, rfl, hz, q _ _ _ (Gro.refl sm) (.int _)⟩
    · cases hg
  · cases hg
def andD : PyData → PyData → Option PyData
  | .int i, .int j => some (.int (Builtin.bitAnd i j))
  | _, _ => none
theorem opd_and : OpD X (binaryOp .BitAnd) andD := by
  intro P pins s σ H x y v u Q I rx ry h
  obtain ⟨d, e, r, sm, hx, hy, hg, q⟩ := h
  unfold andD at hg
  split at hg
  · cases hg
    cases hx.intI
    cases hy.intI
    exact op_and pins s σ H _ _ v u Q I rx ry ⟨_, _, rfl, rfl, q _ _ _ (Gro.refl sm) (.int _)⟩
  · cases hg
end

/-! ### names, constants -/
section
variable {X : Cx} {S : Sta} {T : Tmp} {R : Exc → Sl → Prop} {e a b c : Expr} {es : List Expr} {pos : Pos}
def kConst (d : PyData) : Sl → Out PyData := fun ε => .ok d ε
theorem dp_const {v : V} {d : PyData} (h : PE X e (tC v)) (hr : ∀ P, Rp X.K P v d) : DP X S R e (kConst d) :=
  ⟨_, h, fun T P A σ H ε Q r w => w v P H r (Same.refl _) (hr P)⟩
theorem dp_int {i : Int} {j pos} : DP X S R (.Constant (.int i) j pos) (kConst (.int i)) := dp_const pe_int fun _ => .int i
theorem dp_bool {i : Bool} {j pos} : DP X S R (.Constant (.bool i) j pos) (kConst (.bool i)) := dp_const pe_bl fun _ => .bl i
theorem dp_none {j pos} : DP X S R (.Constant .none j pos) (kConst .none) := dp_const pe_non fun _ => .non
theorem dp_str {i : Str} {j pos} : DP X S R (.Constant (.str i) j pos) (kConst (.str i)) := dp_const pe_str fun _ => .str i
/-- a module's constant -/
def Glo (K : PySem.W.Frag) (mg : Str → Option Value) (x : Str) (d : PyData) : Prop := ∃ u v, mg x = some u ∧ RelV v u ∧ Rp K (fun _ => none) v d
theorem dp_glob {x : Str} {d : PyData} {pos : Pos} (g : Glo X.K X.mg x d) (hg : Gl X x) (hd : (x == ("__debug__" : Str)) = false := by decide) : DP X S R (.Name x pos) (kConst d) := by
  obtain ⟨u, v, h1, h2, h3⟩ := g
  exact dp_const (pe_glob hg h1 h2 hd) fun P => h3.mono fun b o z => by cases (show (none : Option HO) = some o from z)
/-- a name of the def -/
def kVar (i : Nat) : Sl → Out Tk := fun ε => match ε[i]? with
  | some (.dat d) => .ok (.dat d) ε
  | some (.own _) => .ok (.at i) ε
  | some (.io _) => .ok (.at i) ε
  | _ => .stuck
theorem de_var (i : Nat) {x : Str} {pos : Pos} (hN : X.N[i]? = some x := by rfl) (hv : Vis X.env.scope x := by first | exact Or.inl rfl | exact Or.inr (Or.inl rfl) | exact Or.inr (Or.inr rfl)) (hd : (x == ("__debug__" : Str)) = false := by decide)
    (hcd : (x == ("__classdict__" : Str)) = false := by decide) : DE X S R (.Name x pos) (kVar i) := by
  refine ⟨_, pe_var hN hv hd hcd, fun T P A σ H ε Q r w => ?_⟩
  unfold kVar at w
  split at w
  · rename_i d q
    obtain ⟨v, h1, h2⟩ := r.ent i _ q
    exact ⟨v, h1, w v P H r (Same.refl _) h2⟩
  · rename_i d q
    obtain ⟨h1, _⟩ := r.ent i _ q
    exact ⟨_, h1, w _ P H r (Same.refl _) rfl⟩
  · rename_i d q
    obtain ⟨h1, _⟩ := r.ent i _ q
    exact ⟨_, h1, w _ P H r (Same.refl _) rfl⟩
  · exact w.elim

/-! ### operators -/
def op2 (g : PyData → PyData → Option PyData) (f1 f2 : Sl → Out Tk) : Sl → Out PyData := fun ε => (f1 ε).bind fun τ1 ε1 => (f2 ε1).bind fun τ2 ε2 => match rd ε2 τ1, rd ε2 τ2 with
  | some d1, some d2 => match g d1 d2 with
    | some r => .ok r ε2
    | none => .stuck
  | _, _ => .stuck
theorem op2_run {F : Value → Value → Sem Value} {g : PyData → PyData → Option PyData} {f1 f2 : Sl → Out Tk} (h1 : DE X S R a f1) (h2 : DE X S R b f2) {mk : ∀ {ta tb : TE}, PE X a ta → PE X b tb → ∀ {r : R2}, OpR X F r → PE X e (tOp r ta tb)} (ho : OpD X F g) : DP X S R e (op2 g f1 f2) := by
  obtain ⟨t1, p1, q1⟩ := h1
  obtain ⟨t2, p2, q2⟩ := h2
  refine ⟨_, mk p1 p2 (r := fun x y H Q => ∃ P, ∃ d e r, Same P H ∧ Rb X.K P H x d ∧ Rb X.K P H y e ∧ g d e = some r ∧ ∀ v P' H', Gro P H P' H' → Rp X.K P' v r → Q v H') ?_, fun T P A σ H ε Q r w => ?_⟩
  · intro pins s σ H x y v u Q I rx ry h
    obtain ⟨P, h⟩ := h
    exact ho P pins s σ H x y v u Q I rx ry h
  · refine q1 T P A σ H ε _ r (w.bind.imp fun τ1 ε1 w x P1 H1 r1 s1 k1 => ?_)
    refine q2 T P1 A σ H1 ε1 _ r1 (w.bind.imp fun τ2 ε2 w y P2 H2 r2 s2 k2 => ?_)
    split at w
    · rename_i d1 d2 e1 e2
      split at w
      · rename_i z hz
        exact ⟨P2, d1, d2, z, r2.sub, r2.rd (k1.mono s2) e1, r2.rd k2 e2, hz, fun v P' H' g rp => w v P' H' (r2.grow g) ((s1.trans s2).trans g.p) rp⟩
      · exact w.elim
    · exact w.elim
theorem dp_bin {op : Operator} {g : PyData → PyData → Option PyData} {f1 f2 : Sl → Out Tk} (ho : OpD X (binaryOp op) g) (h1 : DE X S R a f1) (h2 : DE X S R b f2) : DP X S R (.BinOp a op b pos) (op2 g f1 f2) :=
  op2_run h1 h2 (mk := fun p1 p2 _ o => pe_op o p1 p2) ho
theorem dp_cmp {op : CmpOp} {g : PyData → PyData → Option PyData} {f1 f2 : Sl → Out Tk} (ho : OpD X (compareOp op) g) (h1 : DE X S R a f1) (h2 : DE X S R b f2) (hm : behindInMarks op b = false := by first | exact nomark _ | rfl) : DP X S R (.Compare a [op] [b] pos) (op2 g f1 f2) :=
  op2_run h1 h2 (mk := fun p1 p2 _ o => pe_cmpR o p1 p2 hm) ho
/-- a value as a truth -/
def toB (o : Out PyData) : Out Bool := o.bind fun d ε => match d with
  | .bool b => .ok b ε
  | _ => .stuck
theorem dt_val {f : Sl → Out PyData} (h : DP X S R e f) (he : ∀ whole, isTrue e X.env whole = (do let v ← whole; standAt e.pos; holding [v] (truthy v)) := by intro _; rfl) : DT X S R e (fun ε => toB (f ε)) := by
  obtain ⟨t, p, q⟩ := h
  refine ⟨_, pt_val p he, fun T P A σ H ε Q r w => q T P A σ H ε _ r (w.bind.imp fun d ε' w v P' H' r' s' rp => ?_)⟩
  split at w
  · cases rp
    exact ⟨_, rfl, w P' H' r' s'⟩
  · exact w.elim
theorem dt_cmp {op : CmpOp} {g : PyData → PyData → Option PyData} {f1 f2 : Sl → Out Tk} (ho : OpD X (compareOp op) g) (h1 : DE X S R a f1) (h2 : DE X S R b f2) (hm : behindInMarks op b = false := by first | exact nomark _ | rfl) : DT X S R (.Compare a [op] [b] pos) (fun ε => toB (op2 g f1 f2 ε)) := by
  obtain ⟨t1, p1, q1⟩ := h1
  obtain ⟨t2, p2, q2⟩ := h2
  refine ⟨_, pt_cmpR (r := fun x y H Q => ∃ P, ∃ d e r, Same P H ∧ Rb X.K P H x d ∧ Rb X.K P H y e ∧ g d e = some r ∧ ∀ v P' H', Gro P H P' H' → Rp X.K P' v r → Q v H') ?_ p1 p2 hm, fun T P A σ H ε Q r w => ?_⟩
  · intro pins s σ H x y v u Q I rx ry h
    obtain ⟨P, h⟩ := h
    exact ho P pins s σ H x y v u Q I rx ry h
  · refine q1 T P A σ H ε _ r (w.bind.bind.imp fun τ1 ε1 w x P1 H1 r1 s1 k1 => ?_)
    refine q2 T P1 A σ H1 ε1 _ r1 (w.bind.imp fun τ2 ε2 w y P2 H2 r2 s2 k2 => ?_)
    split at w
    · rename_i d1 d2 e1 e2
      split at w
      · rename_i z hz
        refine ⟨P2, d1, d2, z, r2.sub, r2.rd (k1.mono s2) e1, r2.rd k2 e2, hz, fun v P' H' g rp => ?_⟩
        have w : Wish R (match z with | .bool b => Out.ok b ε2 | _ => .stuck) (PoB X S T P A σ Q) := w
        cases z with
        | bool k =>
          cases rp
          exact ⟨_, rfl, w P' H' (r2.grow g) ((s1.trans s2).trans g.p)⟩
        | _ => exact w.elim
      · exact w.elim
    · exact w.elim
/-- is None, is not None -/
def kIsN (f : Sl → Out Tk) : Sl → Out PyData := fun ε => (f ε).bind fun τ ε' => match rd ε' τ with
  | some d => .ok (.bool (isNon d)) ε'
  | none => .stuck
def kNotN (f : Sl → Out Tk) : Sl → Out PyData := fun ε => (f ε).bind fun τ ε' => match rd ε' τ with
  | some d => .ok (.bool (!isNon d)) ε'
  | none => .stuck
theorem rb_none {K : PySem.W.Frag} {P H : Hp} {v : V} {d : PyData} (h : Rb K P H v d) : decide (v = .non) = isNon d := by
  rcases h with h | ⟨a, vs, ds, rfl, rfl, _, _⟩
  · cases h <;> rfl
  · rfl
theorem dp_isN {f : Sl → Out Tk} {j pos'} (h : DE X S R a f) : DP X S R (.Compare a [.Is] [.Constant .none j pos'] pos) (kIsN f) := by
  obtain ⟨t, p, q⟩ := h
  refine ⟨_, pe_cmp (pc_isN p) rfl, fun T P A σ H ε Q r w => q T P A σ H ε _ r (w.bind.imp fun τ ε' w v P' H' r' s' k => ?_)⟩
  split at w
  · rename_i d hd
    rw [rb_none (r'.rd k hd)]
    exact w _ P' H' r' s' (.bl _)
  · exact w.elim
theorem dp_notN {f : Sl → Out Tk} {j pos'} (h : DE X S R a f) : DP X S R (.Compare a [.IsNot] [.Constant .none j pos'] pos) (kNotN f) := by
  obtain ⟨t, p, q⟩ := h
  refine ⟨_, pe_cmp (pc_notN p) rfl, fun T P A σ H ε Q r w => q T P A σ H ε _ r (w.bind.imp fun τ ε' w v P' H' r' s' k => ?_)⟩
  split at w
  · rename_i d hd
    rw [rb_none (r'.rd k hd)]
    exact w _ P' H' r' s' (.bl _)
  · exact w.elim
theorem dt_isN {f : Sl → Out Tk} {j pos'} (h : DE X S R a f) : DT X S R (.Compare a [.Is] [.Constant .none j pos'] pos) (fun ε => toB (kIsN f ε)) := by
  obtain ⟨t, p, q⟩ := h
  refine ⟨_, pt_cmp (pc_isN p) rfl, fun T P A σ H ε Q r w => q T P A σ H ε _ r (w.bind.bind.imp fun τ ε' w v P' H' r' s' k => ?_)⟩
  split at w
  · rename_i d hd
    rw [rb_none (r'.rd k hd)]
    exact ⟨_, rfl, w P' H' r' s'⟩
  · exact w.elim
theorem dt_notN {f : Sl → Out Tk} {j pos'} (h : DE X S R a f) : DT X S R (.Compare a [.IsNot] [.Constant .none j pos'] pos) (fun ε => toB (kNotN f ε)) := by
  obtain ⟨t, p, q⟩ := h
  refine ⟨_, pt_cmp (pc_notN p) rfl, fun T P A σ H ε Q r w => q T P A σ H ε _ r (w.bind.bind.imp fun τ ε' w v P' H' r' s' k => ?_)⟩
  split at w
  · rename_i d hd
    rw [rb_none (r'.rd k hd)]
    exact ⟨_, rfl, w P' H' r' s'⟩
  · exact w.elim
/-- a < b < c -/
def kChain (g g' : PyData → PyData → Option PyData) (f1 f2 f3 : Sl → Out Tk) : Sl → Out PyData := fun ε => (f1 ε).bind fun τ1 ε1 => (f2 ε1).bind fun τ2 ε2 => match rd ε2 τ1, rd ε2 τ2 with
  | some d1, some d2 => match g d1 d2 with
    | some (.bool true) => (f3 ε2).bind fun τ3 ε3 => match rd ε3 τ2, rd ε3 τ3 with
      | some d2, some d3 => match g' d2 d3 with
        | some (.bool b) => .ok (.bool b) ε3
        | _ => .stuck
      | _, _ => .stuck
    | some (.bool false) => .ok (.bool false) ε2
    | _ => .stuck
  | _, _ => .stuck
end
end DL
/-! DLe: chains, truth, displays, items, slices, calls of built-ins -/
namespace DL
open PySem PySem.Spec PyProof.Rows L2

def rP (K : PySem.W.Frag) (g : PyData → PyData → Option PyData) : R2 := fun x y H Q => ∃ P d e r, Same P H ∧ Rb K P H x d ∧ Rb K P H y e ∧ g d e = some r ∧ ∀ v P' H', Gro P H P' H' → Rp K P' v r → Q v H'
theorem OpD.op {X : Cx} {F : Value → Value → Sem Value} {g : PyData → PyData → Option PyData} (ho : OpD X F g) : OpR X F (rP X.K g) := by
  intro pins s σ H x y v u Q I rx ry h
  obtain ⟨P, h⟩ := h
  exact ho P pins s σ H x y v u Q I rx ry h
section
variable {X : Cx} {S : Sta} {T : Tmp} {R : Exc → Sl → Prop} {e a b c : Expr} {es : List Expr} {pos : Pos} {f1 f2 f3 : Sl → Out Tk}
theorem dp_chain {op op' : CmpOp} {g g' : PyData → PyData → Option PyData} (ho : OpD X (compareOp op) g) (ho' : OpD X (compareOp op') g') (h1 : DE X S R a f1) (h2 : DE X S R b f2) (h3 : DE X S R c f3)
    (hm : lastMarks [op, op'] [b, c] = false := by with_unfolding_all rfl) : DP X S R (.Compare a [op, op'] [b, c] pos) (kChain g g' f1 f2 f3) := by
  obtain ⟨t1, p1, q1⟩ := h1
  obtain ⟨t2, p2, q2⟩ := h2
  obtain ⟨t3, p3, q3⟩ := h3
  refine ⟨_, pe_chain ho.op ho'.op p1 p2 p3 hm, fun T P A σ H ε Q r w => ?_⟩
  refine q1 T P A σ H ε _ r (w.bind.imp fun τ1 ε1 w x P1 H1 r1 s1 k1 => ?_)
  refine q2 T P1 A σ H1 ε1 _ r1 (w.bind.imp fun τ2 ε2 w y P2 H2 r2 s2 k2 => ?_)
  split at w
  · rename_i d1 d2 e1 e2
    cases hg : g d1 d2 with
    | none => rw [hg] at w; exact w.elim
    | some z =>
      rw [hg] at w
      refine ⟨P2, d1, d2, z, r2.sub, r2.rd (k1.mono s2) e1, r2.rd k2 e2, hg, fun v P3 H3 gr rp => ?_⟩
      have r3 := r2.grow gr
      cases z with
      | bool k =>
        cases rp
        refine ⟨k, rfl, ?_⟩
        cases k with
        | false => exact w _ P3 H3 r3 ((s1.trans s2).trans gr.p) (.bl false)
        | true =>
          refine q3 T P3 A σ H3 ε2 _ r3 ((show Wish R ((f3 ε2).bind _) _ from w).bind.imp fun τ3 ε3 w z P4 H4 r4 s4 k4 => ?_)
          split at w
          · rename_i d2' d3 e2' e3
            cases hg' : g' d2' d3 with
            | none => rw [hg'] at w; exact w.elim
            | some z' =>
              rw [hg'] at w
              refine ⟨P4, d2', d3, z', r4.sub, r4.rd ((k2.mono gr.p).mono s4) e2', r4.rd k4 e3, hg', fun v P5 H5 g5 rp => ?_⟩
              cases z' with
              | bool k' => exact w v P5 H5 (r4.grow g5) ((((s1.trans s2).trans gr.p).trans s4).trans g5.p) rp
              | _ => exact w.elim
          · exact w.elim
      | _ => exact w.elim
  · exact w.elim
theorem dt_chain {op op' : CmpOp} {g g' : PyData → PyData → Option PyData} (ho : OpD X (compareOp op) g) (ho' : OpD X (compareOp op') g') (h1 : DE X S R a f1) (h2 : DE X S R b f2) (h3 : DE X S R c f3)
    (hm : lastMarks [op, op'] [b, c] = false := by with_unfolding_all rfl) : DT X S R (.Compare a [op, op'] [b, c] pos) (fun ε => toB (kChain g g' f1 f2 f3 ε)) := by
  obtain ⟨t1, p1, q1⟩ := h1
  obtain ⟨t2, p2, q2⟩ := h2
  obtain ⟨t3, p3, q3⟩ := h3
  refine ⟨_, pt_chain ho.op ho'.op p1 p2 p3 hm, fun T P A σ H ε Q r w => ?_⟩
  refine q1 T P A σ H ε _ r (w.bind.bind.imp fun τ1 ε1 w x P1 H1 r1 s1 k1 => ?_)
  refine q2 T P1 A σ H1 ε1 _ r1 (w.bind.imp fun τ2 ε2 w y P2 H2 r2 s2 k2 => ?_)
  split at w
  · rename_i d1 d2 e1 e2
    cases hg : g d1 d2 with
    | none => rw [hg] at w; exact w.elim
    | some z =>
      rw [hg] at w
      refine ⟨P2, d1, d2, z, r2.sub, r2.rd (k1.mono s2) e1, r2.rd k2 e2, hg, fun v P3 H3 gr rp => ?_⟩
      have r3 := r2.grow gr
      cases z with
      | bool k =>
        cases rp
        refine ⟨k, rfl, ?_⟩
        cases k with
        | false => exact ⟨_, rfl, w P3 H3 r3 ((s1.trans s2).trans gr.p)⟩
        | true =>
          refine q3 T P3 A σ H3 ε2 _ r3 ((show Wish R ((f3 ε2).bind _) _ from w).bind.imp fun τ3 ε3 w z P4 H4 r4 s4 k4 => ?_)
          split at w
          · rename_i d2' d3 e2' e3
            cases hg' : g' d2' d3 with
            | none => rw [hg'] at w; exact w.elim
            | some z' =>
              rw [hg'] at w
              refine ⟨P4, d2', d3, z', r4.sub, r4.rd ((k2.mono gr.p).mono s4) e2', r4.rd k4 e3, hg', fun v P5 H5 g5 rp => ?_⟩
              cases z' with
              | bool k' =>
                cases rp
                exact ⟨_, rfl, w P5 H5 (r4.grow g5) ((((s1.trans s2).trans gr.p).trans s4).trans g5.p)⟩
              | _ => exact w.elim
          · exact w.elim
      | _ => exact w.elim
  · exact w.elim

/-! ### and, or, not, a if t else b -/
def kAnd (f g : Sl → Out PyData) : Sl → Out PyData := fun ε => (f ε).bind fun d ε1 => match d with
  | .bool true => g ε1
  | .bool false => .ok (.bool false) ε1
  | _ => .stuck
def kOr (f g : Sl → Out PyData) : Sl → Out PyData := fun ε => (f ε).bind fun d ε1 => match d with
  | .bool true => .ok (.bool true) ε1
  | .bool false => g ε1
  | _ => .stuck
def kNot (f : Sl → Out PyData) : Sl → Out PyData := fun ε => (f ε).bind fun d ε1 => match d with
  | .bool b => .ok (.bool (!b)) ε1
  | _ => .stuck
variable {f g : Sl → Out PyData} {rest : List Expr}
theorem dp_one {op} (h : DP X S R a f) : DP X S R (.BoolOp op [a] pos) f := by
  obtain ⟨t, p, q⟩ := h
  exact ⟨t, pe_one p, q⟩
theorem dp_and (h1 : DP X S R a f) (h2 : DP X S R (.BoolOp .And (b :: rest) pos) g) : DP X S R (.BoolOp .And (a :: b :: rest) pos) (kAnd f g) := by
  obtain ⟨t1, p1, q1⟩ := h1
  obtain ⟨t2, p2, q2⟩ := h2
  refine ⟨_, pe_and p1 p2, fun T P A σ H ε Q r w => q1 T P A σ H ε _ r (w.bind.imp fun d ε1 w v P1 H1 r1 s1 rp => ?_)⟩
  cases d with
  | bool k =>
    cases rp
    refine ⟨k, rfl, ?_⟩
    cases k with
    | false => exact w _ P1 H1 r1 s1 (.bl false)
    | true => exact q2 T P1 A σ H1 ε1 Q r1 (Wish.imp w fun d ε' w v P' H' r' s' rp => w v P' H' r' (s1.trans s') rp)
  | _ => exact w.elim
theorem dp_or (h1 : DP X S R a f) (h2 : DP X S R (.BoolOp .Or (b :: rest) pos) g) : DP X S R (.BoolOp .Or (a :: b :: rest) pos) (kOr f g) := by
  obtain ⟨t1, p1, q1⟩ := h1
  obtain ⟨t2, p2, q2⟩ := h2
  refine ⟨_, pe_or p1 p2, fun T P A σ H ε Q r w => q1 T P A σ H ε _ r (w.bind.imp fun d ε1 w v P1 H1 r1 s1 rp => ?_)⟩
  cases d with
  | bool k =>
    cases rp
    refine ⟨k, rfl, ?_⟩
    cases k with
    | true => exact w _ P1 H1 r1 s1 (.bl true)
    | false => exact q2 T P1 A σ H1 ε1 Q r1 (Wish.imp w fun d ε' w v P' H' r' s' rp => w v P' H' r' (s1.trans s') rp)
  | _ => exact w.elim
theorem dp_not (h1 : DP X S R a f) : DP X S R (.UnaryOp .Not a pos) (kNot f) := by
  obtain ⟨t1, p1, q1⟩ := h1
  refine ⟨_, pe_not p1, fun T P A σ H ε Q r w => q1 T P A σ H ε _ r (w.bind.imp fun d ε1 w v P1 H1 r1 s1 rp => ?_)⟩
  cases d with
  | bool k =>
    cases rp
    exact ⟨k, rfl, w _ P1 H1 r1 s1 (.bl _)⟩
  | _ => exact w.elim
/-- tests -/
def DW (X : Cx) (S : Sta) (R : Exc → Sl → Prop) (e : Expr) (f : Sl → Out Bool) : Prop := ∃ t : TT, PW X e t ∧ ∀ T P A σ H ε Q, Rel X.K S T P A σ H ε → Wish R (f ε) (PoB X S T P A σ Q) → t σ H Q
def jAnd (f g : Sl → Out Bool) : Sl → Out Bool := fun ε => (f ε).bind fun b ε1 => match b with
  | true => g ε1
  | false => .ok false ε1
def jOr (f g : Sl → Out Bool) : Sl → Out Bool := fun ε => (f ε).bind fun b ε1 => match b with
  | true => .ok true ε1
  | false => g ε1
def jNot (f : Sl → Out Bool) : Sl → Out Bool := fun ε => (f ε).map (!·)
variable {k l : Sl → Out Bool}
theorem DW.dt (h : DW X S R e k) : DT X S R e k := by
  obtain ⟨t, p, q⟩ := h
  exact ⟨t, p.pt, q⟩
theorem dw_and1 (h : DT X S R a k) : DW X S R (.BoolOp .And [a] pos) k := by
  obtain ⟨t, p, q⟩ := h
  exact ⟨t, pw_and1 p, q⟩
theorem dw_or1 (h : DT X S R a k) : DW X S R (.BoolOp .Or [a] pos) k := by
  obtain ⟨t, p, q⟩ := h
  exact ⟨t, pw_or1 p, q⟩
theorem dw_and (h1 : DT X S R a k) (h2 : DW X S R (.BoolOp .And (b :: rest) pos) l) : DW X S R (.BoolOp .And (a :: b :: rest) pos) (jAnd k l) := by
  obtain ⟨t1, p1, q1⟩ := h1
  obtain ⟨t2, p2, q2⟩ := h2
  refine ⟨_, pw_and p1 p2, fun T P A σ H ε Q r w => q1 T P A σ H ε _ r (w.bind.imp fun d ε1 w P1 H1 r1 s1 => ?_)⟩
  cases d with
  | true => exact q2 T P1 A σ H1 ε1 Q r1 (Wish.imp w fun d ε' w P' H' r' s' => w P' H' r' (s1.trans s'))
  | false => exact w P1 H1 r1 s1
theorem dw_or (h1 : DT X S R a k) (h2 : DW X S R (.BoolOp .Or (b :: rest) pos) l) : DW X S R (.BoolOp .Or (a :: b :: rest) pos) (jOr k l) := by
  obtain ⟨t1, p1, q1⟩ := h1
  obtain ⟨t2, p2, q2⟩ := h2
  refine ⟨_, pw_or p1 p2, fun T P A σ H ε Q r w => q1 T P A σ H ε _ r (w.bind.imp fun d ε1 w P1 H1 r1 s1 => ?_)⟩
  cases d with
  | false => exact q2 T P1 A σ H1 ε1 Q r1 (Wish.imp w fun d ε' w P' H' r' s' => w P' H' r' (s1.trans s'))
  | true => exact w P1 H1 r1 s1
theorem dt_not (h1 : DT X S R a k) : DT X S R (.UnaryOp .Not a pos) (jNot k) := by
  obtain ⟨t1, p1, q1⟩ := h1
  exact ⟨_, pt_not p1, fun T P A σ H ε Q r w => q1 T P A σ H ε _ r (w.map.imp fun d ε1 w P1 H1 r1 s1 => w P1 H1 r1 s1)⟩
def kIf (k : Sl → Out Bool) (f g : Sl → Out PyData) : Sl → Out PyData := fun ε => (k ε).bind fun b ε1 => match b with
  | true => f ε1
  | false => g ε1
theorem dp_if (h : DT X S R c k) (h1 : DP X S R a f) (h2 : DP X S R b g) : DP X S R (.IfExp c a b pos) (kIf k f g) := by
  obtain ⟨t, p, q⟩ := h
  obtain ⟨t1, p1, q1⟩ := h1
  obtain ⟨t2, p2, q2⟩ := h2
  refine ⟨_, pe_ifExp p p1 p2, fun T P A σ H ε Q r w => q T P A σ H ε _ r (w.bind.imp fun d ε1 w P1 H1 r1 s1 => ?_)⟩
  cases d with
  | true => exact q1 T P1 A σ H1 ε1 Q r1 (Wish.imp w fun d ε' w v P' H' r' s' rp => w v P' H' r' (s1.trans s') rp)
  | false => exact q2 T P1 A σ H1 ε1 Q r1 (Wish.imp w fun d ε' w v P' H' r' s' rp => w v P' H' r' (s1.trans s') rp)

/-! ### argument lists, displays -/
def aNil : Sl → Out (List Tk) := fun ε => .ok [] ε
def aCons (f : Sl → Out Tk) (g : Sl → Out (List Tk)) : Sl → Out (List Tk) := fun ε => (f ε).bind fun τ ε1 => (g ε1).map (τ :: ·)
theorem da_nil : DA X S R [] aNil := ⟨_, pa_nil, fun T P A σ H ε Q r w => w [] P H r (Same.refl _) .nil⟩
theorem da_cons {g : Sl → Out (List Tk)} (h : DE X S R e f1) (hr : DA X S R es g) (hs : starEach (e :: es) X.env = (false, eval e X.env) :: starEach es X.env := by rfl) : DA X S R (e :: es) (aCons f1 g) := by
  obtain ⟨t1, p1, q1⟩ := h
  obtain ⟨t2, p2, q2⟩ := hr
  refine ⟨_, pa_cons p1 p2 hs, fun T P A σ H ε Q r w => q1 T P A σ H ε _ r (w.bind.imp fun τ ε1 w v P1 H1 r1 s1 k1 => ?_)⟩
  exact q2 T P1 A σ H1 ε1 _ r1 (w.map.imp fun τs ε2 w vs P2 H2 r2 s2 ks => w _ P2 H2 r2 (s1.trans s2) (.cons (k1.mono s2) ks))
def dats : List Tk → Option (List PyData)
  | [] => some []
  | .dat d :: r => (dats r).map (d :: ·)
  | .at _ :: _ => none
theorem dats_rp {K : PySem.W.Frag} {P : Hp} {A : Nat → Addr} : ∀ {τs : List Tk} {ds : List PyData} {vs : List V}, dats τs = some ds → Paired (TkOk K P A) vs τs → RpAll K P vs ds
  | [], _, _, h, q => by cases h; cases q; exact .nil
  | .dat d :: r, ds, _, h, q => by
    cases q with
    | cons q1 q2 =>
      unfold dats at h
      cases e : dats r with
      | none => rw [e] at h; cases h
      | some es =>
        rw [e] at h
        cases h
        exact .cons q1 (dats_rp e q2)
  | .at _ :: _, _, _, h, _ => by cases h
def kTup (g : Sl → Out (List Tk)) : Sl → Out PyData := fun ε => (g ε).bind fun τs ε' => match dats τs with
  | some ds => if ds.length ≤ 1000 then .ok (.tuple ds) ε' else .stuck
  | none => .stuck
theorem dp_tup {g : Sl → Out (List Tk)} {x1} (h : DA X S R es g) : DP X S R (.Tuple es x1 pos) (kTup g) := by
  obtain ⟨t, p, q⟩ := h
  refine ⟨_, pe_tup p, fun T P A σ H ε Q r w => q T P A σ H ε _ r (w.bind.imp fun τs ε' w vs P' H' r' s' ks => ?_)⟩
  split at w
  · rename_i ds hd
    split at w
    · rename_i hz
      have rp := dats_rp hd ks
      have hl := rp.length
      refine ⟨by rw [sizeLine_eq]; omega, fun p hp => ?_⟩
      have g := Gro.tup (xs := vs) r'.sub hp
      exact w _ _ _ (r'.grow g) (s'.trans g.p) (Rp.newTup (r'.sub.free hp) rp)
    · exact w.elim
  · exact w.elim
def nLst (g : Sl → Out (List Tk)) : Sl → Out (List PyData) := fun ε => (g ε).bind fun τs ε' => match dats τs with
  | some ds => if ds.length ≤ 1000 then .ok ds ε' else .stuck
  | none => .stuck
/-- what a new list at p brings -/
theorem fin_new {P P' : Hp} {A : Nat → Addr} {σ : L2.St} {H' : Hp} {ε' : Sl} {Q : VK} {p : Addr} {vs : List V} {ds : List PyData} (w : PoN X S T P A σ Q ds ε') (r' : Rel X.K S T P' A σ H' ε') (s' : Same P P') (hp : H' p = none) (rp : RpAll X.K P' vs ds) :
    Q (.ref p) (upd H' p (.lst vs)) := by
  have g := Gro.loose (o := .lst vs) r'.sub hp
  refine w p vs P' _ (r'.grow g) s' upd_same rp (r'.sub.free hp) ?_ (fun i u hi hu e => ?_) fun q hq e => ?_
  · cases q : S.H0 p with
    | none => rfl
    | some o =>
      obtain ⟨o', z⟩ := r'.tr p o q
      rw [hp] at z
      cases z
  · have z := r'.ent i u hi
    cases u with
    | un => cases hu
    | dat _ => cases hu
    | own ds =>
      obtain ⟨_, _, _, vs, h4, _⟩ := z
      rw [e, hp] at h4
      cases h4
    | io ds =>
      obtain ⟨_, _, _, vs, h4, _⟩ := z
      rw [e, hp] at h4
      cases h4
  · obtain ⟨t1, _⟩ := r'.tmp q hq
    rw [e, hp] at t1
    cases t1
theorem dn_lst {g : Sl → Out (List Tk)} (h : DA X S R es g) : DN X S R (.List es pos) (nLst g) := by
  obtain ⟨t, p, q⟩ := h
  refine ⟨_, pe_lst p, fun T P A σ H ε Q r w => q T P A σ H ε _ r (w.bind.imp fun τs ε' w vs P' H' r' s' ks => ?_)⟩
  split at w
  · rename_i ds hd
    split at w
    · rename_i hz
      have rp := dats_rp hd ks
      have hl := rp.length
      exact ⟨by rw [sizeLine_eq]; omega, fun p hp => fin_new w r' s' hp rp⟩
    · exact w.elim
  · exact w.elim

/-! ### a[b] -/
theorem RpAll.atI {K : PySem.W.Frag} {P : Hp} {xs : List V} {ds : List PyData} {i : Int} {d : PyData} (h : RpAll K P xs ds) (e : atI ds i = some d) : ∃ v, atI xs i = some v ∧ Rp K P v d := by
  unfold L2.atI at e ⊢
  rw [h.length]
  cases q : ixN ds.length i with
  | none => rw [q] at e; cases e
  | some j =>
    rw [q] at e
    exact h.get e
def ixD : PyData → PyData → Option PyData
  | .list xs, .int i => atI xs i
  | .tuple xs, .int i => atI xs i
  | .str z, .int i => if z.length ≤ 16777216 then (atI z.cps.toList i).map fun c => .str ⟨#[c]⟩ else none
  | _, _ => none
theorem dp_ix (h1 : DE X S R a f1) (h2 : DE X S R b f2) (hs : PlainIx b := by exact fun _ _ => rfl) : DP X S R (.Subscript a b pos) (op2 ixD f1 f2) := by
  obtain ⟨t1, p1, q1⟩ := h1
  obtain ⟨t2, p2, q2⟩ := h2
  refine ⟨_, pe_ix ix_seq p1 p2 hs, fun T P A σ H ε Q r w => ?_⟩
  refine q1 T P A σ H ε _ r (w.bind.imp fun τ1 ε1 w x P1 H1 r1 s1 k1 => ?_)
  refine q2 T P1 A σ H1 ε1 _ r1 (w.bind.imp fun τ2 ε2 w y P2 H2 r2 s2 k2 => ?_)
  split at w
  · rename_i d1 d2 e1 e2
    have b1 := r2.rd (k1.mono s2) e1
    have b2 := r2.rd k2 e2
    split at w
    · rename_i z hz
      unfold ixD at hz
      split at hz
      · obtain ⟨p, xs, rfl, hq, ra⟩ := b1.lstI r2.sub
        cases b2.intI
        obtain ⟨v, hv, rp⟩ := ra.atI hz
        exact .inl ⟨p, xs, _, v, rfl, rfl, hq, hv, w v P2 H2 r2 (s1.trans s2) rp⟩
      · obtain ⟨p, xs, rfl, hq, ra⟩ := b1.tupI
        cases b2.intI
        obtain ⟨v, hv, rp⟩ := ra.atI hz
        exact .inr (.inl ⟨p, xs, _, v, rfl, rfl, r2.sub.sqt hq, hv, w v P2 H2 r2 (s1.trans s2) rp⟩)
      · cases b1.strI
        cases b2.intI
        split at hz
        · rename_i hl
          rename_i z' i
          cases hc : atI z'.cps.toList i with
          | none => rw [hc] at hz; cases hz
          | some c =>
            rw [hc] at hz
            cases hz
            exact .inr (.inr ⟨z', i, c, rfl, rfl, by rw [sizeLine_eq]; exact hl, hc, w _ P2 H2 r2 (s1.trans s2) (.str _)⟩)
        · cases hz
      · cases hz
    · exact w.elim
  · exact w.elim

/-! ### a[i:j] -/
def DO (X : Cx) (S : Sta) (R : Exc → Sl → Prop) (e : Option Expr) (f : Sl → Out (Option Int)) : Prop := ∃ t : TO, PO X e t ∧ ∀ T P A σ H ε Q, Rel X.K S T P A σ H ε → Wish R (f ε) (fun i ε' => ∀ P' H', Rel X.K S T P' A σ H' ε' → Same P P' → Q i H') → t σ H Q
def oNone : Sl → Out (Option Int) := fun ε => .ok none ε
def oSome (f : Sl → Out PyData) : Sl → Out (Option Int) := fun ε => (f ε).bind fun d ε' => match d with
  | .int i => .ok (some i) ε'
  | _ => .stuck
theorem do_none : DO X S R none oNone := ⟨_, po_none, fun T P A σ H ε Q r w => w P H r (Same.refl _)⟩
theorem do_some (h : DP X S R e f) : DO X S R (some e) (oSome f) := by
  obtain ⟨t, p, q⟩ := h
  refine ⟨_, po_some p, fun T P A σ H ε Q r w => q T P A σ H ε _ r (w.bind.imp fun d ε' w v P' H' r' s' rp => ?_)⟩
  cases d with
  | int i => cases rp; exact ⟨i, rfl, w P' H' r' s'⟩
  | _ => exact w.elim
def cutD {α : Type} (xs : List α) (lo hi : Option Int) : List α := (xs.drop (HT.sIx xs.length 0 lo)).take (HT.sIx xs.length xs.length hi - HT.sIx xs.length 0 lo)
def slD : PyData → Option Int → Option Int → Option PyData
  | .list xs, lo, hi => some (.list (cutD xs lo hi))
  | .tuple xs, lo, hi => some (.tuple (cutD xs lo hi))
  | .str z, lo, hi => if z.length ≤ 16777216 then some (.str (cutS z lo hi)) else none
  | _, _, _ => none
theorem RpAll.cut {K : PySem.W.Frag} {P : Hp} {xs : List V} {ds : List PyData} (h : RpAll K P xs ds) (lo hi : Option Int) : RpAll K P (cutV xs lo hi) (cutD ds lo hi) := by
  unfold cutV cutD
  rw [h.length]
  exact (h.drop _).take _
def kSl (f : Sl → Out Tk) (l u : Sl → Out (Option Int)) : Sl → Out PyData := fun ε => (f ε).bind fun τ ε1 => (l ε1).bind fun lo ε2 => (u ε2).bind fun hi ε3 => match rd ε3 τ with
  | some d => match slD d lo hi with
    | some r => .ok r ε3
    | none => .stuck
  | none => .stuck
theorem cut_whole {α : Type} {xs : List α} {lo hi : Option Int} (h : HT.sIx xs.length 0 lo = 0 ∧ HT.sIx xs.length xs.length hi = xs.length) : cutD xs lo hi = xs := by
  unfold cutD
  rw [h.1, h.2]
  simp
theorem dp_sl {lo hi : Option Expr} {l u : Sl → Out (Option Int)} {p2 : Pos} (h : DE X S R a f1) (hl : DO X S R lo l) (hu : DO X S R hi u) : DP X S R (.Subscript a (.Slice lo hi none p2) pos) (kSl f1 l u) := by
  obtain ⟨t1, p1, q1⟩ := h
  obtain ⟨t2, p2, q2⟩ := hl
  obtain ⟨t3, p3, q3⟩ := hu
  refine ⟨_, pe_slice (sl_list.or (sl_tupA.or sl_str)) p1 p2 p3, fun T P A σ H ε Q r w => ?_⟩
  refine q1 T P A σ H ε _ r (w.bind.imp fun τ1 ε1 w x P1 H1 r1 s1 k1 => ?_)
  refine q2 T P1 A σ H1 ε1 _ r1 (w.bind.imp fun lo ε2 w P2 H2 r2 s2 => ?_)
  refine q3 T P2 A σ H2 ε2 _ r2 (w.bind.imp fun hi ε3 w P3 H3 r3 s3 => ?_)
  split at w
  · rename_i d hd
    have b := r3.rd ((k1.mono s2).mono s3) hd
    split at w
    · rename_i z hz
      unfold slD at hz
      split at hz
      · cases hz
        obtain ⟨p, xs, rfl, hq, ra⟩ := b.lstI r3.sub
        refine .inl ⟨p, xs, rfl, hq, fun n hn => ?_⟩
        have g := Gro.lst (xs := cutV xs lo hi) r3.sub hn
        exact w _ _ _ (r3.grow g) (((s1.trans s2).trans s3).trans g.p) (Rp.newLst (r3.sub.free hn) (ra.cut lo hi))
      · cases hz
        obtain ⟨p, xs, rfl, hq, ra⟩ := b.tupI
        refine .inr (.inl ⟨p, xs, rfl, r3.sub.sqt hq, fun hw => ?_, fun hw n hn => ?_⟩)
        · rw [cut_whole (by rw [← ra.length]; exact hw)] at w
          exact w _ P3 H3 r3 ((s1.trans s2).trans s3) (.tup hq ra)
        · have g := Gro.tup (xs := cutV xs lo hi) r3.sub hn
          exact w _ _ _ (r3.grow g) (((s1.trans s2).trans s3).trans g.p) (Rp.newTup (r3.sub.free hn) (ra.cut lo hi))
      · split at hz
        · rename_i hl
          cases hz
          cases b.strI
          exact .inr (.inr ⟨_, rfl, by rw [sizeLine_eq]; exact hl, w _ P3 H3 r3 ((s1.trans s2).trans s3) (.str _)⟩)
        · cases hz
      · cases hz
    · exact w.elim
  · exact w.elim
end
end DL
/-! DLf: calls of built-ins -/
namespace DL
open PySem PySem.Spec PyProof.Rows L2

def rds (ε : Sl) : List Tk → Option (List PyData)
  | [] => some []
  | τ :: r => match rd ε τ, rds ε r with
    | some d, some ds => some (d :: ds)
    | _, _ => none
theorem rds_rb {K : PySem.W.Frag} {S : Sta} {T : Tmp} {P : Hp} {A : Nat → Addr} {σ : L2.St} {H : Hp} {ε : Sl} (r : Rel K S T P A σ H ε) : ∀ {τs : List Tk} {vs : List V} {ds : List PyData}, Paired (TkOk K P A) vs τs → rds ε τs = some ds → Paired (Rb K P H) vs ds
  | [], _, _, q, h => by cases h; cases q; exact .nil
  | τ :: t, _, _, q, h => by
    cases q with
    | cons q1 q2 =>
      unfold rds at h
      split at h
      · rename_i d ds e1 e2
        cases h
        exact .cons (r.rd q1 e1) (rds_rb r q2 e2)
      · cases h
/-- a built-in's call by data -/
def CallD (X : Cx) (f : Value) (g : List PyData → Option PyData) : Prop :=
  CallR X f fun xs H Q => ∃ P ds r, Same P H ∧ Paired (Rb X.K P H) xs ds ∧ g ds = some r ∧ ∀ v P' H', Gro P H P' H' → Rp X.K P' v r → Q v H'
/-- .. that gives a new list -/
def CallN (X : Cx) (f : Value) (g : List PyData → Option (List PyData)) : Prop :=
  CallR X f fun xs H Q => ∃ P ds r, Same P H ∧ Paired (Rb X.K P H) xs ds ∧ g ds = some r ∧ ∀ p vs, H p = none → RpAll X.K P vs r → Q (.ref p) (upd H p (.lst vs))
def kCall (g : List PyData → Option PyData) (f : Sl → Out (List Tk)) : Sl → Out PyData := fun ε => (f ε).bind fun τs ε' => match rds ε' τs with
  | some ds => match g ds with
    | some r => .ok r ε'
    | none => .stuck
  | none => .stuck
def nCall (g : List PyData → Option (List PyData)) (f : Sl → Out (List Tk)) : Sl → Out (List PyData) := fun ε => (f ε).bind fun τs ε' => match rds ε' τs with
  | some ds => match g ds with
    | some r => .ok r ε'
    | none => .stuck
  | none => .stuck
section
variable {X : Cx} {S : Sta} {T : Tmp} {R : Exc → Sl → Prop} {e a b c : Expr} {es : List Expr} {pos p : Pos} {x : Str} {id T : String}
theorem call_run {F : Value} {g : List PyData → Option PyData} {f : Sl → Out (List Tk)} (ho : CallD X F g) (ha : DA X S R es f) {mk : ∀ {r : List V → Hp → VK → Prop} {t : TA}, CallR X F r → PA X es t → PE X e (tCB r t)} : DP X S R e (kCall g f) := by
  obtain ⟨t, pa, q⟩ := ha
  refine ⟨_, mk ho pa, fun T P A σ H ε Q r w => q T P A σ H ε _ r (w.bind.imp fun τs ε' w vs P' H' r' s' ks => ?_)⟩
  split at w
  · rename_i ds hd
    split at w
    · rename_i z hz
      exact ⟨P', ds, z, r'.sub, rds_rb r' ks hd, hz, fun v P2 H2 g rp => w v P2 H2 (r'.grow g) (s'.trans g.p) rp⟩
    · exact w.elim
  · exact w.elim
theorem calln_run {F : Value} {g : List PyData → Option (List PyData)} {f : Sl → Out (List Tk)} (ho : CallN X F g) (ha : DA X S R es f) {mk : ∀ {r : List V → Hp → VK → Prop} {t : TA}, CallR X F r → PA X es t → PE X e (tCB r t)} : DN X S R e (nCall g f) := by
  obtain ⟨t, pa, q⟩ := ha
  refine ⟨_, mk ho pa, fun T P A σ H ε Q r w => q T P A σ H ε _ r (w.bind.imp fun τs ε' w vs P' H' r' s' ks => ?_)⟩
  split at w
  · rename_i ds hd
    split at w
    · rename_i z hz
      exact ⟨P', ds, z, r'.sub, rds_rb r' ks hd, hz, fun n vs hn rp => fin_new w r' s' hn rp⟩
    · exact w.elim
  · exact w.elim
theorem dp_callB {g : List PyData → Option PyData} {f : Sl → Out (List Tk)} (ho : CallD X (.builtin id) g) (hg : Gl X x) (hm : X.mg x = none) (hv : bootBuiltins x = some (.builtin id)) (ha : DA X S R (e :: es) f) (hn : x ≠ "__name__" := by decide) (hdb : (x == ("__debug__" : Str)) = false := by decide)
    (he : starEach (e :: es) X.env = (false, eval e X.env) :: starEach es X.env := by rfl) (hpl : (backTo pos (starEach es X.env)).any (·.1) = false := by rfl) : DP X S R (.Call (.Name x p) (e :: es) [] pos) (kCall g f) :=
  call_run ho ha (mk := fun o pa => pe_callB o hg hm hv pa hn hdb he hpl)
theorem dp_callT {g : List PyData → Option PyData} {f : Sl → Out (List Tk)} (ho : CallD X (.type T) g) (hg : Gl X x) (hm : X.mg x = none) (hv : bootBuiltins x = some (.type T)) (ha : DA X S R (e :: es) f) (hn : x ≠ "__name__" := by decide) (hdb : (x == ("__debug__" : Str)) = false := by decide)
    (he : starEach (e :: es) X.env = (false, eval e X.env) :: starEach es X.env := by rfl) (hpl : (backTo pos (starEach es X.env)).any (·.1) = false := by rfl) : DP X S R (.Call (.Name x p) (e :: es) [] pos) (kCall g f) :=
  call_run ho ha (mk := fun o pa => pe_callTy o hg hm hv pa hn hdb he hpl)
theorem dn_callB {g : List PyData → Option (List PyData)} {f : Sl → Out (List Tk)} (ho : CallN X (.builtin id) g) (hg : Gl X x) (hm : X.mg x = none) (hv : bootBuiltins x = some (.builtin id)) (ha : DA X S R (e :: es) f) (hn : x ≠ "__name__" := by decide) (hdb : (x == ("__debug__" : Str)) = false := by decide)
    (he : starEach (e :: es) X.env = (false, eval e X.env) :: starEach es X.env := by rfl) (hpl : (backTo pos (starEach es X.env)).any (·.1) = false := by rfl) : DN X S R (.Call (.Name x p) (e :: es) [] pos) (nCall g f) :=
  calln_run ho ha (mk := fun o pa => pe_callB o hg hm hv pa hn hdb he hpl)
theorem dn_callT {g : List PyData → Option (List PyData)} {f : Sl → Out (List Tk)} (ho : CallN X (.type T) g) (hg : Gl X x) (hm : X.mg x = none) (hv : bootBuiltins x = some (.type T)) (ha : DA X S R (e :: es) f) (hn : x ≠ "__name__" := by decide) (hdb : (x == ("__debug__" : Str)) = false := by decide)
    (he : starEach (e :: es) X.env = (false, eval e X.env) :: starEach es X.env := by rfl) (hpl : (backTo pos (starEach es X.env)).any (·.1) = false := by rfl) : DN X S R (.Call (.Name x p) (e :: es) [] pos) (nCall g f) :=
  calln_run ho ha (mk := fun o pa => pe_callTy o hg hm hv pa hn hdb he hpl)

/-! ### len, list, tuple, abs, int -/
def lenD : List PyData → Option PyData
  | [.list xs] => some (.int xs.length)
  | [.tuple xs] => some (.int xs.length)
  | [.str z] => if z.length ≤ 16777216 then some (.int z.length) else none
  | [.dict es] => some (.int es.length)
  | _ => none
theorem cd_len : CallD X (.builtin "len") lenD := by
  intro pins s σ H xs us Q I r h
  obtain ⟨P, ds, z, sm, hr, hg, q⟩ := h
  unfold lenD at hg
  split at hg
  · cases hg
    cases hr with
    | cons h1 h2 =>
      cases h2
      obtain ⟨a, xs, rfl, ha, ra⟩ := h1.lstI sm
      exact call_len_seq pins s σ H _ us Q I r ⟨a, xs, rfl, .inl ha, by rw [ra.length]; exact q _ _ _ (Gro.refl sm) (.int _)⟩
  · cases hg
    cases hr with
    | cons h1 h2 =>
      cases h2
      obtain ⟨a, xs, rfl, ha, ra⟩ := h1.tupI
      exact call_len_seq pins s σ H _ us Q I r ⟨a, xs, rfl, .inr (sm.sqt ha), by rw [ra.length]; exact q _ _ _ (Gro.refl sm) (.int _)⟩
  · split at hg
    · rename_i hz
      cases hg
      cases hr with
      | cons h1 h2 =>
        cases h2
        cases h1.strI
        exact call_len_str pins s σ H _ us Q I r ⟨_, rfl, by rw [sizeLine_eq]; exact hz, q _ _ _ (Gro.refl sm) (.int _)⟩
    · cases hg
  · cases hg
    cases hr with
    | cons h1 h2 =>
      cases h2
      obtain ⟨a, kvs, rfl, ha, hk, _⟩ := h1.dicI
      have e := congrArg List.length hk
      rw [List.length_map, List.length_map] at e
      exact call_lenD pins s σ H _ us Q I r ⟨a, kvs, rfl, sm _ _ ha, by rw [e]; exact q _ _ _ (Gro.refl sm) (.int _)⟩
  · cases hg
def listN : List PyData → Option (List PyData)
  | [.list xs] => some xs
  | [.tuple xs] => some xs
  | _ => none
theorem cn_list : CallN X (.type "list") listN := by
  intro pins s σ H xs us Q I r h
  obtain ⟨P, ds, z, sm, hr, hg, q⟩ := h
  unfold listN at hg
  split at hg
  · cases hg
    cases hr with
    | cons h1 h2 =>
      cases h2
      obtain ⟨a, xs, rfl, ha, ra⟩ := h1.lstI sm
      exact call_list_of pins s σ H _ us Q I r ⟨a, xs, rfl, .inl ha, fun l hl => q l xs hl ra⟩
  · cases hg
    cases hr with
    | cons h1 h2 =>
      cases h2
      obtain ⟨a, xs, rfl, ha, ra⟩ := h1.tupI
      exact call_list_of pins s σ H _ us Q I r ⟨a, xs, rfl, .inr (sm.sqt ha), fun l hl => q l xs hl ra⟩
  · cases hg
def tupleD : List PyData → Option PyData
  | [.list xs] => some (.tuple xs)
  | [.tuple xs] => some (.tuple xs)
  | _ => none
theorem cd_tuple : CallD X (.type "tuple") tupleD := by
  intro pins s σ H xs us Q I r h
  obtain ⟨P, ds, z, sm, hr, hg, q⟩ := h
  unfold tupleD at hg
  split at hg
  · cases hg
    cases hr with
    | cons h1 h2 =>
      cases h2
      obtain ⟨a, xs, rfl, ha, ra⟩ := h1.lstI sm
      exact call_tuple_of pins s σ H _ us Q I r ⟨a, xs, rfl, .inl ⟨ha, fun l hl => q _ _ _ (Gro.tup sm hl) (Rp.newTup (sm.free hl) ra)⟩⟩
  · cases hg
    cases hr with
    | cons h1 h2 =>
      cases h2
      obtain ⟨a, xs, rfl, ha, ra⟩ := h1.tupI
      exact call_tuple_of pins s σ H _ us Q I r ⟨a, xs, rfl, .inr ⟨sm.sqt ha, q _ _ _ (Gro.refl sm) (.tup ha ra)⟩⟩
  · cases hg
def absD : List PyData → Option PyData
  | [.int i] => some (.int (if i < 0 then -i else i))
  | _ => none
theorem cd_abs : CallD X (.builtin "abs") absD := by
  intro pins s σ H xs us Q I r h
  obtain ⟨P, ds, z, sm, hr, hg, q⟩ := h
  unfold absD at hg
  split at hg
  · cases hg
    cases hr with
    | cons h1 h2 =>
      cases h2
      cases h1.intI
      exact call_abs pins s σ H _ us Q I r ⟨_, rfl, q _ _ _ (Gro.refl sm) (.int _)⟩
  · cases hg
def intD : List PyData → Option PyData
  | [.int i] => some (.int i)
  | [.bool b] => some (.int (if b then 1 else 0))
  | _ => none
theorem cd_int : CallD X (.type "int") intD := by
  intro pins s σ H xs us Q I r h
  obtain ⟨P, ds, z, sm, hr, hg, q⟩ := h
  unfold intD at hg
  split at hg
  · cases hg
    cases hr with
    | cons h1 h2 =>
      cases h2
      cases h1.intI
      exact call_int1 pins s σ H _ us Q I r (.inl ⟨_, rfl, q _ _ _ (Gro.refl sm) (.int _)⟩)
  · cases hg
    cases hr with
    | cons h1 h2 =>
      cases h2
      cases h1.boolI
      exact call_int1 pins s σ H _ us Q I r (.inr ⟨_, rfl, q _ _ _ (Gro.refl sm) (.int _)⟩)
  · cases hg
/-! ### sum, all, any -/
def intsOf : List PyData → Option (List Int)
  | [] => some []
  | .int i :: r => (intsOf r).map (i :: ·)
  | _ :: _ => none
def boolsOf : List PyData → Option (List Bool)
  | [] => some []
  | .bool i :: r => (boolsOf r).map (i :: ·)
  | _ :: _ => none
theorem intsOf_v {K : PySem.W.Frag} {P : Hp} : ∀ {ds : List PyData} {ns : List Int} {vs : List V}, intsOf ds = some ns → RpAll K P vs ds → vs = ns.map V.int
  | [], _, _, h, q => by cases h; cases q; rfl
  | .int i :: r, ns, _, h, q => by
    cases q with
    | cons q1 q2 =>
      unfold intsOf at h
      cases e : intsOf r with
      | none => rw [e] at h; cases h
      | some es =>
        rw [e] at h
        cases h
        cases q1
        rw [intsOf_v e q2]
        rfl
  | .none :: _, _, _, h, _ => by cases h
  | .bool _ :: _, _, _, h, _ => by cases h
  | .str _ :: _, _, _, h, _ => by cases h
  | .list _ :: _, _, _, h, _ => by cases h
  | .tuple _ :: _, _, _, h, _ => by cases h
  | .dict _ :: _, _, _, h, _ => by cases h
theorem boolsOf_v {K : PySem.W.Frag} {P : Hp} : ∀ {ds : List PyData} {ns : List Bool} {vs : List V}, boolsOf ds = some ns → RpAll K P vs ds → vs = ns.map V.bl
  | [], _, _, h, q => by cases h; cases q; rfl
  | .bool i :: r, ns, _, h, q => by
    cases q with
    | cons q1 q2 =>
      unfold boolsOf at h
      cases e : boolsOf r with
      | none => rw [e] at h; cases h
      | some es =>
        rw [e] at h
        cases h
        cases q1
        rw [boolsOf_v e q2]
        rfl
  | .none :: _, _, _, h, _ => by cases h
  | .int _ :: _, _, _, h, _ => by cases h
  | .str _ :: _, _, _, h, _ => by cases h
  | .list _ :: _, _, _, h, _ => by cases h
  | .tuple _ :: _, _, _, h, _ => by cases h
  | .dict _ :: _, _, _, h, _ => by cases h
def sumD : List PyData → Option PyData
  | [.list xs] => (intsOf xs).map fun ns => .int ns.sum
  | _ => none
def allD : List PyData → Option PyData
  | [.list xs] => (boolsOf xs).map fun bs => .bool (bs.all _root_.id)
  | _ => none
def anyD : List PyData → Option PyData
  | [.list xs] => (boolsOf xs).map fun bs => .bool (bs.any _root_.id)
  | _ => none
theorem cd_sum (hc : X.calm = true) : CallD X (.builtin "sum") sumD := by
  intro pins s σ H xs us Q I r h
  obtain ⟨P, ds, z, sm, hr, hg, q⟩ := h
  unfold sumD at hg
  split at hg
  · rename_i ys
    cases e : intsOf ys with
    | none => rw [e] at hg; cases hg
    | some ns =>
      rw [e] at hg
      cases hg
      cases hr with
      | cons h1 h2 =>
        cases h2
        obtain ⟨a, xs, rfl, ha, ra⟩ := h1.lstI sm
        rw [intsOf_v e ra] at ha
        exact cr_sum hc pins s σ H _ us Q I r ⟨a, ns, rfl, ha, q _ _ _ (Gro.refl sm) (.int _)⟩
  · cases hg
theorem cd_all (hc : X.calm = true) : CallD X (.builtin "all") allD := by
  intro pins s σ H xs us Q I r h
  obtain ⟨P, ds, z, sm, hr, hg, q⟩ := h
  unfold allD at hg
  split at hg
  · rename_i ys
    cases e : boolsOf ys with
    | none => rw [e] at hg; cases hg
    | some ns =>
      rw [e] at hg
      cases hg
      cases hr with
      | cons h1 h2 =>
        cases h2
        obtain ⟨a, xs, rfl, ha, ra⟩ := h1.lstI sm
        rw [boolsOf_v e ra] at ha
        exact cr_all hc pins s σ H _ us Q I r ⟨a, ns, rfl, ha, q _ _ _ (Gro.refl sm) (.bl _)⟩
  · cases hg
theorem cd_any (hc : X.calm = true) : CallD X (.builtin "any") anyD := by
  intro pins s σ H xs us Q I r h
  obtain ⟨P, ds, z, sm, hr, hg, q⟩ := h
  unfold anyD at hg
  split at hg
  · rename_i ys
    cases e : boolsOf ys with
    | none => rw [e] at hg; cases hg
    | some ns =>
      rw [e] at hg
      cases hg
      cases hr with
      | cons h1 h2 =>
        cases h2
        obtain ⟨a, xs, rfl, ha, ra⟩ := h1.lstI sm
        rw [boolsOf_v e ra] at ha
        exact cr_any hc pins s σ H _ us Q I r ⟨a, ns, rfl, ha, q _ _ _ (Gro.refl sm) (.bl _)⟩
  · cases hg

/-! ### isinstance -/
def tyN : PyData → String
  | .none => "NoneType"
  | .bool _ => "bool"
  | .int _ => "int"
  | .str _ => "str"
  | .list _ => "list"
  | .tuple _ => "tuple"
  | .dict _ => "dict"
theorem tyx_of {K : PySem.W.Frag} {H : Hp} {v : V} {d : PyData} (h : Rp K H v d) : TyX K H v (.type (tyN d)) := by
  cases h with
  | non => exact .base .non
  | bl b => exact .base (.bl b)
  | int i => exact .base (.int i)
  | str x => exact .base (.str x)
  | lst h _ =>
    rcases h with (h | ⟨o, h⟩) | ⟨o, its, n, hk, hc, _⟩
    · exact .base (.lst h)
    · exact .base (.frz h)
    · exact .kList hk hc
  | tup h _ =>
    rcases h with (h | ⟨o, h⟩) | ⟨o, its, n, hk, hc, _⟩
    · exact .base (.tup h)
    · exact .fTuple h
    · exact .kTuple hk hc
  | dic h _ _ => exact .base (.dK h)
/-- isinstance(d, T) for a built-in class T -/
def isaB (T : String) (d : PyData) : Bool := tyN d == T || (T == "int" && tyN d == "bool")
def Typ (T : String) : Prop := ∀ d : PyData, kitB (tyN d) T = some (isaB T d)
theorem typ_of {T : String} (h : (["NoneType", "bool", "int", "str", "list", "tuple", "dict"].all fun n => kitB n T == some (n == T || (T == "int" && n == "bool"))) = true) : Typ T := by
  simp only [List.all_cons, List.all_nil, Bool.and_true, Bool.and_eq_true, beq_iff_eq] at h
  obtain ⟨h1, h2, h3, h4, h5, h6, h7⟩ := h
  intro d
  cases d <;> assumption
theorem typ_int : Typ "int" := typ_of (by decide +kernel)
theorem typ_bool : Typ "bool" := typ_of (by decide +kernel)
theorem typ_str : Typ "str" := typ_of (by decide +kernel)
theorem typ_list : Typ "list" := typ_of (by decide +kernel)
theorem typ_tuple : Typ "tuple" := typ_of (by decide +kernel)
theorem typ_dict : Typ "dict" := typ_of (by decide +kernel)
def kIsa (T : String) (f : Sl → Out Tk) : Sl → Out PyData := fun ε => (f ε).bind fun τ ε' => match rd ε' τ with
  | some d => .ok (.bool (isaB T d)) ε'
  | none => .stuck
theorem dp_isa {f : Sl → Out Tk} {xt : Str} {p1 p2 : Pos} (ht : Typ T) (h : DE X S R a f) (hg : Gl X "isinstance") (hm : X.mg "isinstance" = none) (hg2 : Gl X xt) (hm2 : X.mg xt = none) (hv : bootBuiltins xt = some (.type T)) (hn : xt ≠ "__name__" := by decide) (hd : (xt == ("__debug__" : Str)) = false := by decide)
    (hs : starEach [a, .Name xt p2] X.env = (false, eval a X.env) :: starEach [.Name xt p2] X.env := by rfl) (hpl : (backTo pos (starEach [.Name xt p2] X.env)).any (·.1) = false := by rfl) (hs2 : starEach [.Name xt p2] X.env = (false, eval (.Name xt p2) X.env) :: starEach [] X.env := by rfl) :
    DP X S R (.Call (.Name "isinstance" p1) [a, .Name xt p2] [] pos) (kIsa T f) := by
  obtain ⟨t, pe, q⟩ := h
  refine ⟨_, pe_callB call_isi hg hm (by decide +kernel) (pa_cons pe (pa_cons (pe_bltn (v := .ty T) hg2 hm2 hv rfl hn hd) pa_nil hs2) hs) (he := hs) (hpl := hpl), fun Tm P A σ H ε Q r w => q Tm P A σ H ε _ r (w.bind.imp fun τ ε' w v P' H' r' s' k => ?_)⟩
  split at w
  · rename_i d hd'
    exact ⟨v, .ty T, _, _, _, rfl, .ty T, tyx_of ((r'.rd k hd').rp r'.sub), kit_ty (ht d), w _ P' H' r' s' (.bl _)⟩
  · exact w.elim
/-- isinstance(x, (T, U)) -/
def kIsa2 (T U : String) (f : Sl → Out Tk) : Sl → Out PyData := fun ε => (f ε).bind fun τ ε' => match rd ε' τ with
  | some d => .ok (.bool (isaB T d || isaB U d)) ε'
  | none => .stuck
theorem dp_isa2 {f : Sl → Out Tk} {xt xu : Str} {U : String} {p1 p2 p3 p4 : Pos} {k1} (ht : Typ T) (hu : Typ U) (h : DE X S R a f) (hg : Gl X "isinstance") (hm : X.mg "isinstance" = none) (hg2 : Gl X xt) (hm2 : X.mg xt = none) (hv : bootBuiltins xt = some (.type T))
    (hg3 : Gl X xu) (hm3 : X.mg xu = none) (hv3 : bootBuiltins xu = some (.type U)) (hn : xt ≠ "__name__" := by decide) (hd : (xt == ("__debug__" : Str)) = false := by decide) (hn3 : xu ≠ "__name__" := by decide) (hd3 : (xu == ("__debug__" : Str)) = false := by decide)
    (hs : starEach [a, .Tuple [.Name xt p2, .Name xu p3] k1 p4] X.env = (false, eval a X.env) :: starEach [.Tuple [.Name xt p2, .Name xu p3] k1 p4] X.env := by rfl) (hpl : (backTo pos (starEach [.Tuple [.Name xt p2, .Name xu p3] k1 p4] X.env)).any (·.1) = false := by rfl)
    (hs2 : starEach [.Tuple [.Name xt p2, .Name xu p3] k1 p4] X.env = (false, eval (.Tuple [.Name xt p2, .Name xu p3] k1 p4) X.env) :: starEach [] X.env := by rfl)
    (hs3 : starEach [.Name xt p2, .Name xu p3] X.env = (false, eval (.Name xt p2) X.env) :: starEach [.Name xu p3] X.env := by rfl) (hs4 : starEach [.Name xu p3] X.env = (false, eval (.Name xu p3) X.env) :: starEach [] X.env := by rfl) :
    DP X S R (.Call (.Name "isinstance" p1) [a, .Tuple [.Name xt p2, .Name xu p3] k1 p4] [] pos) (kIsa2 T U f) := by
  obtain ⟨t, pe, q⟩ := h
  refine ⟨_, pe_callB call_isiT hg hm (by decide +kernel) (pa_cons pe (pa_cons (pe_tup (pa_cons (pe_bltn (v := .ty T) hg2 hm2 hv rfl hn hd) (pa_cons (pe_bltn (v := .ty U) hg3 hm3 hv3 rfl hn3 hd3) pa_nil hs4) hs3)) pa_nil hs2) hs) (he := hs) (hpl := hpl),
    fun Tm P A σ H ε Q r w => q Tm P A σ H ε _ r (w.bind.imp fun τ ε' w v P' H' r' s' k => ?_)⟩
  split at w
  · rename_i d hd'
    refine ⟨(by decide : 2 ≤ sizeLine), fun p hp => ?_⟩
    have g := Gro.loose (o := .tup [.ty T, .ty U]) r'.sub hp
    have rb := ((r'.rd k hd').rp r'.sub).mono (same_upd (o := .tup [.ty T, .ty U]) hp)
    refine ⟨v, p, _, _, _, isaB T d || isaB U d, rfl, upd_same, .cons (.ty T) (.cons (.ty U) .nil), tyx_of rb, ?_, w _ P' _ (r'.grow g) s' (.bl _)⟩
    refine kitAny_cons (kit_ty (ht d)) (fun e => ?_) (fun e => by rw [e]; rfl)
    rw [e, Bool.false_or]
    refine kitAny_cons (kit_ty (hu d)) (fun e => ?_) (fun e => e)
    rw [e]
    exact kitAny_nil
  · exact w.elim
end
end DL
/-! DLg: statements -/
namespace DL
open PySem PySem.Spec PyProof.Rows L2

/-- what a def returns: a datum, a new list that is the caller's own -/
inductive Rv
  | dat (d : PyData)
  | lst (ds : List PyData)
inductive SO
  | nx (ε : Sl)
  | rt (r : Rv) (ε : Sl)
  | bk (ε : Sl)
  | ct (ε : Sl)
  | exc (x : Exc) (ε : Sl)
  | stuck
def Out.so {α : Type} (o : Out α) (f : α → Sl → SO) : SO := match o with
  | .ok a ε => f a ε
  | .exc x ε => .exc x ε
  | .stuck => .stuck
@[simp] theorem Out.so_ok {α : Type} {a : α} {ε : Sl} {f : α → Sl → SO} : (Out.ok a ε).so f = f a ε := rfl
@[simp] theorem Out.so_exc {α : Type} {x : Exc} {ε : Sl} {f : α → Sl → SO} : (Out.exc x ε : Out α).so f = .exc x ε := rfl
@[simp] theorem Out.so_stuck {α : Type} {f : α → Sl → SO} : (Out.stuck : Out α).so f = .stuck := rfl
/-- the value v, by what stands in H, is what is returned -/
def RvOk (K : PySem.W.Frag) (S : Sta) (T : Tmp) (P : Hp) (A : Nat → Addr) (H : Hp) (ε : Sl) (v : V) : Rv → Prop
  | .dat d => Rp K P v d
  | .lst ds => ∃ a vs, v = .ref a ∧ H a = some (.lst vs) ∧ RpAll K P vs ds ∧ P a = none ∧ S.H0 a = none ∧ (∀ (i : Nat) (e : Ent), ε[i]? = some e → e.isList = true → A i ≠ a) ∧ ∀ p ∈ T, p.1 ≠ a
section
variable (X : Cx) (S : Sta) (R : Exc → Sl → Prop)
def WishS (T : Tmp) (P : Hp) (D : Ends) : SO → Prop
  | .nx ε' => ∀ P' A' σ' H', Rel X.K S T P' A' σ' H' ε' → Same P P' → D.nx σ' H'
  | .rt r ε' => ∀ v P' A' σ' H', Rel X.K S T P' A' σ' H' ε' → Same P P' → RvOk X.K S T P' A' H' ε' v r → D.rt v H'
  | .bk ε' => ∀ P' A' σ' H', Rel X.K S T P' A' σ' H' ε' → Same P P' → D.bk σ' H'
  | .ct ε' => ∀ P' A' σ' H', Rel X.K S T P' A' σ' H' ε' → Same P P' → D.ct σ' H'
  | .exc x ε' => R x ε'
  | .stuck => False
def DS (st : Stmt) (F : Sl → SO) : Prop := ∃ t : TS, PS X st t ∧ ∀ T P A σ H ε D, Rel X.K S T P A σ H ε → WishS X S R T P D (F ε) → t D σ H
def DSs (st : List Stmt) (F : Sl → SO) : Prop := ∃ t : TS, PSs X st t ∧ ∀ T P A σ H ε D, Rel X.K S T P A σ H ε → WishS X S R T P D (F ε) → t D σ H
end
def sNil : Sl → SO := fun ε => .nx ε
def sSeq (F G : Sl → SO) : Sl → SO := fun ε => match F ε with
  | .nx ε' => G ε'
  | .rt r ε' => .rt r ε'
  | .bk ε' => .bk ε'
  | .ct ε' => .ct ε'
  | .exc x ε' => .exc x ε'
  | .stuck => .stuck
section
variable {X : Cx} {S : Sta} {T : Tmp} {R : Exc → Sl → Prop} {e a b c : Expr} {es : List Expr} {pos : Pos} {st : Stmt} {sts : List Stmt} {F G : Sl → SO}
theorem WishS.so {α : Type} {P : Hp} {D : Ends} {o : Out α} {f : α → Sl → SO} (h : WishS X S R T P D (o.so f)) : Wish R o fun a ε => WishS X S R T P D (f a ε) := by
  cases o <;> exact h
/-- from a greater P -/
theorem WishS.grow {P P' : Hp} {D : Ends} {o : SO} (h : WishS X S R T P D o) (s : Same P P') : WishS X S R T P' D o := by
  cases o with
  | nx ε => exact fun P2 A2 σ2 H2 r z => h P2 A2 σ2 H2 r (s.trans z)
  | rt r ε => exact fun v P2 A2 σ2 H2 r z k => h v P2 A2 σ2 H2 r (s.trans z) k
  | bk ε => exact fun P2 A2 σ2 H2 r z => h P2 A2 σ2 H2 r (s.trans z)
  | ct ε => exact fun P2 A2 σ2 H2 r z => h P2 A2 σ2 H2 r (s.trans z)
  | exc x ε => exact h
  | stuck => exact h
theorem dss_nil : DSs X S R [] sNil := ⟨_, pss_nil, fun T P A σ H ε D r w => w P A σ H r (Same.refl _)⟩
theorem wish_seq {P A σ H ε D} {t : TS} (q1 : ∀ T P A σ H ε D, Rel X.K S T P A σ H ε → WishS X S R T P D (F ε) → t D σ H) {u : TS} (q2 : ∀ T P A σ H ε D, Rel X.K S T P A σ H ε → WishS X S R T P D (G ε) → u D σ H) (r : Rel X.K S T P A σ H ε) (w : WishS X S R T P D (sSeq F G ε)) :
    t { D with nx := u D } σ H := by
  refine q1 T P A σ H ε _ r ?_
  unfold sSeq at w
  cases hF : F ε with
  | nx ε1 =>
    rw [hF] at w
    exact fun P' A' σ' H' r' s' => q2 T P' A' σ' H' ε1 D r' (w.grow s')
  | rt v ε1 => rw [hF] at w; exact w
  | bk ε1 => rw [hF] at w; exact w
  | ct ε1 => rw [hF] at w; exact w
  | exc x ε1 => rw [hF] at w; exact w
  | stuck => rw [hF] at w; exact w
theorem dss_cons (h1 : DS X S R st F) (h2 : DSs X S R sts G) : DSs X S R (st :: sts) (sSeq F G) := by
  obtain ⟨t1, p1, q1⟩ := h1
  obtain ⟨t2, p2, q2⟩ := h2
  exact ⟨_, pss_cons p1 p2, fun T P A σ H ε D r w => wish_seq q1 q2 r w⟩
theorem dss_one (h1 : DS X S R st F) : DSs X S R [st] F := by
  obtain ⟨t1, p1, q1⟩ := h1
  exact ⟨_, pss_one p1, q1⟩
theorem ds_pass : DS X S R (.Pass pos) sNil := ⟨_, ps_pass, fun T P A σ H ε D r w => w P A σ H r (Same.refl _)⟩
theorem ds_doc {x j pos'} : DS X S R (.Expr (.Constant (.str x) j pos) pos') sNil := ⟨_, ps_doc, fun T P A σ H ε D r w => w P A σ H r (Same.refl _)⟩
def sBreak : Sl → SO := fun ε => .bk ε
def sCont : Sl → SO := fun ε => .ct ε
theorem ds_break : DS X S R (.Break pos) sBreak := ⟨_, ps_break, fun T P A σ H ε D r w => w P A σ H r (Same.refl _)⟩
theorem ds_continue : DS X S R (.Continue pos) sCont := ⟨_, ps_continue, fun T P A σ H ε D r w => w P A σ H r (Same.refl _)⟩
def sExpr (f : Sl → Out Tk) : Sl → SO := fun ε => (f ε).so fun _ ε' => .nx ε'
theorem ds_expr {f : Sl → Out Tk} (h : DE X S R e f) (hs : swapsWith e none pos.line X.env = pure false := by rfl) : DS X S R (.Expr e pos) (sExpr f) := by
  obtain ⟨t, p, q⟩ := h
  exact ⟨_, ps_expr p hs, fun T P A σ H ε D r w => q T P A σ H ε _ r (w.so.imp fun τ ε' w v P' H' r' s' _ => w P' A σ H' r' s')⟩
def sRet (f : Sl → Out PyData) : Sl → SO := fun ε => (f ε).so fun d ε' => .rt (.dat d) ε'
def sRetNew (f : Sl → Out (List PyData)) : Sl → SO := fun ε => (f ε).so fun ds ε' => .rt (.lst ds) ε'
def sRetN : Sl → SO := fun ε => .rt (.dat .none) ε
theorem ds_ret {f : Sl → Out PyData} (h : DP X S R e f) : DS X S R (.Return (some e) pos) (sRet f) := by
  obtain ⟨t, p, q⟩ := h
  exact ⟨_, ps_ret p, fun T P A σ H ε D r w => q T P A σ H ε _ r (w.so.imp fun d ε' w v P' H' r' s' k => w v P' A σ H' r' s' k)⟩
theorem ds_retNew {f : Sl → Out (List PyData)} (h : DN X S R e f) : DS X S R (.Return (some e) pos) (sRetNew f) := by
  obtain ⟨t, p, q⟩ := h
  exact ⟨_, ps_ret p, fun T P A σ H ε D r w => q T P A σ H ε _ r (w.so.imp fun d ε' w a vs P' H' r' s' h1 h2 h3 h4 h5 h6 => w (.ref a) P' A σ H' r' s' ⟨a, vs, rfl, h1, h2, h3, h4, h5, h6⟩)⟩
theorem ds_retN : DS X S R (.Return none pos) sRetN := ⟨_, ps_retN, fun T P A σ H ε D r w => w .non P A σ H r (Same.refl _) .non⟩
def sIf (k : Sl → Out Bool) (F G : Sl → SO) : Sl → SO := fun ε => (k ε).so fun b ε' => match b with
  | true => F ε'
  | false => G ε'
theorem ds_if {k : Sl → Out Bool} {u v : List Stmt} (h : DT X S R c k) (h1 : DSs X S R u F) (h2 : DSs X S R v G) : DS X S R (.If c u v pos) (sIf k F G) := by
  obtain ⟨t, p, q⟩ := h
  obtain ⟨t1, p1, q1⟩ := h1
  obtain ⟨t2, p2, q2⟩ := h2
  refine ⟨_, ps_if p p1 p2, fun T P A σ H ε D r w => q T P A σ H ε _ r (w.so.imp fun d ε' w P' H' r' s' => ?_)⟩
  cases d with
  | true => exact q1 T P' A σ H' ε' D r' (WishS.grow w s')
  | false => exact q2 T P' A σ H' ε' D r' (WishS.grow w s')

/-! ### stores to names -/
theorem Rel.setDat {K : PySem.W.Frag} {P : Hp} {A : Nat → Addr} {σ : L2.St} {H : Hp} {ε : Sl} {i : Nat} {v : V} {d : PyData} (r : Rel K S T P A σ H ε) (hi : i < ε.length) (rp : Rp K P v d) : Rel K S T P A (σ.set i (some v)) H (ε.set i (.dat d)) := by
  have hl := r.len
  refine ⟨by rw [List.length_set, List.length_set]; exact hl, r.sub, r.pt, r.old, r.new, r.fr, r.tr, r.io, fun j u q => ?_, fun j k u w hjk q1 q2 b1 b2 => ?_, fun p hp => ?_, r.tnd⟩
  · rcases getElem?_set_or q with ⟨rfl, rfl⟩ | ⟨ne, q⟩
    · exact ⟨v, List.getElem?_set_self (by omega), rp⟩
    · have z := r.ent j u q
      cases u with
      | un => trivial
      | dat d =>
        obtain ⟨v, z1, z2⟩ := z
        exact ⟨v, by rw [List.getElem?_set_ne ne]; exact z1, z2⟩
      | own es =>
        obtain ⟨z1, z2⟩ := z
        exact ⟨by rw [List.getElem?_set_ne ne]; exact z1, z2⟩
      | io es =>
        obtain ⟨z1, z2⟩ := z
        exact ⟨by rw [List.getElem?_set_ne ne]; exact z1, z2⟩
  · rcases getElem?_set_or q1 with ⟨rfl, rfl⟩ | ⟨_, q1⟩
    · cases b1
    · rcases getElem?_set_or q2 with ⟨rfl, rfl⟩ | ⟨_, q2⟩
      · cases b2
      · exact r.sep j k u w hjk q1 q2 b1 b2
  · obtain ⟨t1, t2, t3, t4⟩ := r.tmp p hp
    refine ⟨t1, t2, t3, fun j u q b => ?_⟩
    rcases getElem?_set_or q with ⟨rfl, rfl⟩ | ⟨_, q⟩
    · cases b
    · exact t4 j u q b
/-- a new list gets a name -/
def put (A : Nat → Addr) (i : Nat) (a : Addr) : Nat → Addr := fun j => if j = i then a else A j
theorem put_same {A : Nat → Addr} {i : Nat} {a : Addr} : put A i a i = a := if_pos rfl
theorem put_ne {A : Nat → Addr} {i j : Nat} {a : Addr} (h : i ≠ j) : put A i a j = A j := if_neg (Ne.symm h)
theorem Rel.setOwn {K : PySem.W.Frag} {P : Hp} {A : Nat → Addr} {σ : L2.St} {H : Hp} {ε : Sl} {i : Nat} {a : Addr} {vs : List V} {ds : List PyData} (r : Rel K S T P A σ H ε) (hi : i < ε.length) (ha : H a = some (.lst vs)) (rp : RpAll K P vs ds) (hp : P a = none) (h0 : S.H0 a = none)
    (hA : ∀ (j : Nat) (e : Ent), ε[j]? = some e → e.isList = true → A j ≠ a) (hT : ∀ p ∈ T, p.1 ≠ a) : Rel K S T P (put A i a) (σ.set i (some (.ref a))) H (ε.set i (.own ds)) := by
  have hl := r.len
  refine ⟨by rw [List.length_set, List.length_set]; exact hl, r.sub, r.pt, r.old, r.new, r.fr, r.tr, r.io, fun j u q => ?_, fun j k u w hjk q1 q2 b1 b2 => ?_, fun p hp => ?_, r.tnd⟩
  · rcases getElem?_set_or q with ⟨rfl, rfl⟩ | ⟨ne, q⟩
    · unfold EntOk
      dsimp only
      rw [put_same]
      exact ⟨List.getElem?_set_self (by omega), hp, h0, vs, ha, rp⟩
    · have z := r.ent j u q
      cases u with
      | un => trivial
      | dat d =>
        obtain ⟨v, z1, z2⟩ := z
        exact ⟨v, by rw [List.getElem?_set_ne ne]; exact z1, z2⟩
      | own es =>
        obtain ⟨z1, z2⟩ := z
        unfold EntOk
        dsimp only
        rw [put_ne ne, List.getElem?_set_ne ne]
        exact ⟨z1, z2⟩
      | io es =>
        obtain ⟨z1, z2⟩ := z
        unfold EntOk
        dsimp only
        rw [put_ne ne, List.getElem?_set_ne ne]
        exact ⟨z1, z2⟩
  · rcases getElem?_set_or q1 with ⟨rfl, rfl⟩ | ⟨n1, q1⟩
    · rcases getElem?_set_or q2 with ⟨rfl, rfl⟩ | ⟨n2, q2⟩
      · exact absurd rfl hjk
      · rw [put_same, put_ne n2]
        exact Ne.symm (hA k w q2 b2)
    · rcases getElem?_set_or q2 with ⟨rfl, rfl⟩ | ⟨n2, q2⟩
      · rw [put_same, put_ne n1]
        exact hA j u q1 b1
      · rw [put_ne n1, put_ne n2]
        exact r.sep j k u w hjk q1 q2 b1 b2
  · obtain ⟨t1, t2, t3, t4⟩ := r.tmp p hp
    refine ⟨t1, t2, t3, fun j u q b => ?_⟩
    rcases getElem?_set_or q with ⟨rfl, rfl⟩ | ⟨n, q⟩
    · rw [put_same]
      exact Ne.symm (hT p hp)
    · rw [put_ne n]
      exact t4 j u q b
/-- two rows of slots are one but for the slots ts -/
def OnlyAt (ts : List Nat) (σ σ' : L2.St) : Prop := σ'.length = σ.length ∧ ∀ i, i ∉ ts → σ'[i]? = σ[i]?
theorem OnlyAt.trans {ts us : List Nat} {σ σ' σ2 : L2.St} (a : OnlyAt ts σ σ') (b : OnlyAt us σ' σ2) : OnlyAt (ts ++ us) σ σ2 :=
  ⟨b.1.trans a.1, fun i h => (b.2 i fun z => h (List.mem_append_right _ z)).trans (a.2 i fun z => h (List.mem_append_left _ z))⟩
theorem OnlyAt.set {σ : L2.St} {i : Nat} {x : Option V} : OnlyAt [i] σ (σ.set i x) :=
  ⟨List.length_set, fun j h => List.getElem?_set_ne (fun z => h (by rw [z]; exact List.mem_singleton.mpr rfl))⟩
/-- a target of a store -/
def DG (X : Cx) (S : Sta) (ts : List Nat) (tg : Expr) (f : PyData → Sl → Option Sl) : Prop :=
  ∃ g : TG, PG X tg g ∧ ∀ T P A σ H ε v d ε' Q, Rel X.K S T P A σ H ε → Rp X.K P v d → f d ε = some ε' → (∀ σ', Rel X.K S T P A σ' H ε' → OnlyAt ts σ σ' → Q σ' H) → g v σ H Q
def gSet (i : Nat) : PyData → Sl → Option Sl := fun d ε => if i < ε.length then some (ε.set i (.dat d)) else none
theorem dg_name (i : Nat) {x : Str} (hN : X.N.Nodup) (hi : X.N[i]? = some x := by rfl) (hx : Loc X.env.scope x := by first | exact Or.inl rfl | exact Or.inr rfl) (hf : X.fn x = true ∨ X.env.scope.names.lookup x = some .local := by first | exact .inl rfl | exact .inr rfl | assumption) : DG X S [i] (.Name x pos) (gSet i) := by
  refine ⟨_, pg_name hN hi hx hf, fun T P A σ H ε v d ε' Q r rp hs q => ?_⟩
  unfold gSet at hs
  split at hs
  · rename_i hl
    cases hs
    exact q _ (r.setDat hl rp) OnlyAt.set
  · cases hs
/-- targets of a tuple's items -/
def DGs (X : Cx) (S : Sta) (ts : List Nat) (tgs : List Expr) (f : List PyData → Sl → Option Sl) : Prop :=
  ∃ g : TGs, PGs X tgs g ∧ ∀ T P A σ H ε vs ds ε' Q, Rel X.K S T P A σ H ε → RpAll X.K P vs ds → f ds ε = some ε' → (∀ σ', Rel X.K S T P A σ' H ε' → OnlyAt ts σ σ' → Q σ' H) → g vs σ H Q
def gsNil : List PyData → Sl → Option Sl := fun ds ε => match ds with
  | [] => some ε
  | _ => none
def gsCons (f : PyData → Sl → Option Sl) (g : List PyData → Sl → Option Sl) : List PyData → Sl → Option Sl := fun ds ε => match ds with
  | d :: r => (f d ε).bind fun ε' => g r ε'
  | [] => none
theorem dgs_nil : DGs X S [] [] gsNil := by
  refine ⟨_, pgs_nil, fun T P A σ H ε vs ds ε' Q r rp hs q => ?_⟩
  cases rp with
  | nil => cases hs; exact ⟨rfl, q _ r ⟨rfl, fun _ _ => rfl⟩⟩
  | cons _ _ => cases hs
theorem dgs_cons {f : PyData → Sl → Option Sl} {g : List PyData → Sl → Option Sl} {ts us : List Nat} (h1 : DG X S ts e f) (h2 : DGs X S us es g) (hs : (assignEach (e :: es) X.env).map (·.2) = assign e X.env :: (assignEach es X.env).map (·.2) := by rfl) : DGs X S (ts ++ us) (e :: es) (gsCons f g) := by
  obtain ⟨t1, p1, q1⟩ := h1
  obtain ⟨t2, p2, q2⟩ := h2
  refine ⟨_, pgs_cons p1 p2 hs, fun T P A σ H ε vs ds ε' Q r rp hf' q => ?_⟩
  cases rp with
  | nil => cases hf'
  | cons a b =>
    unfold gsCons at hf'
    dsimp only at hf'
    rename_i v vs d ds
    cases hf : f d ε with
    | none => rw [hf] at hf'; cases hf'
    | some ε1 =>
      rw [hf] at hf'
      exact ⟨_, _, rfl, q1 T P A σ H ε _ _ ε1 _ r a hf fun σ1 r1 o1 => q2 T P A σ1 H ε1 _ _ ε' Q r1 b hf' fun σ2 r2 o2 => q σ2 r2 (o1.trans o2)⟩
def gTupD (n : Nat) (g : List PyData → Sl → Option Sl) : PyData → Sl → Option Sl := fun d ε => match d with
  | .tuple ds => if ds.length = n then g ds ε else none
  | _ => none
theorem dg_tup {k : Nat} {n : Nat} {g : List PyData → Sl → Option Sl} {ts : List Nat} (hc : X.calm = true) (h : DGs X S ts es g) (hn : (assignEach es X.env).length = n := by rfl) (hst : (assignEach es X.env).findIdx? (·.1) = none := by rfl) : DG X S ts (.Tuple es k pos) (gTupD n g) := by
  obtain ⟨t, p, q⟩ := h
  refine ⟨_, pg_tup (n := n) hc p hn hst, fun T P A σ H ε v d ε' Q r rp hs q' => ?_⟩
  unfold gTupD at hs
  split at hs
  · split at hs
    · rename_i hl
      cases rp with
      | tup h1 h2 => exact ⟨_, _, rfl, r.sub.sqt h1, by rw [h2.length]; exact hl, q T P A σ H ε _ _ ε' Q r h2 hs q'⟩
    · cases hs
  · cases hs
def sAsg (f : Sl → Out PyData) (g : PyData → Sl → Option Sl) : Sl → SO := fun ε => (f ε).so fun d ε' => match g d ε' with
  | some ε2 => .nx ε2
  | none => .stuck
/-- target = e -/
theorem ds_asg {tg : Expr} {f : Sl → Out PyData} {g : PyData → Sl → Option Sl} {ts : List Nat} (h : DP X S R e f) (hg : DG X S ts tg g) (hs : swapsWithSole [tg] e pos.line X.env = pure false := by rfl) (hw : swappedStores [tg] e X.env = pure none := by rfl) (h1 : (assignEach [tg] X.env).map (·.2) = [assign tg X.env] := by rfl) : DS X S R (.Assign [tg] e pos) (sAsg f g) := by
  obtain ⟨t, p, q⟩ := h
  obtain ⟨t2, p2, q2⟩ := hg
  refine ⟨_, ps_asg p p2 hs hw h1, fun T P A σ H ε D r w => q T P A σ H ε _ r (w.so.imp fun d ε' w v P' H' r' s' k => ?_)⟩
  split at w
  · rename_i ε2 he
    exact q2 T P' A σ H' ε' v d ε2 _ r' k he fun σ' r2 _ => w P' A σ' H' r2 s'
  · exact w.elim
/-- x = e, e a new list that is to be changed -/
def sSetNew (i : Nat) (f : Sl → Out (List PyData)) : Sl → SO := fun ε => (f ε).so fun ds ε' => if i < ε'.length then .nx (ε'.set i (.own ds)) else .stuck
theorem ds_setNew (i : Nat) {x : Str} {pos' : Pos} {f : Sl → Out (List PyData)} (h : DN X S R e f) (hN : X.N.Nodup) (hi : X.N[i]? = some x := by rfl) (hx : Loc X.env.scope x := by first | exact Or.inl rfl | exact Or.inr rfl) (hs : swapsWith e (some (.Name x pos')) pos.line X.env = pure false := by rfl)
    (hf : X.fn x = true ∨ X.env.scope.names.lookup x = some .local := by first | exact .inl rfl | exact .inr rfl | assumption) : DS X S R (.Assign [.Name x pos'] e pos) (sSetNew i f) := by
  obtain ⟨t, p, q⟩ := h
  refine ⟨_, ps_set hN hi hx p hs hf, fun T P A σ H ε D r w => q T P A σ H ε _ r (w.so.imp fun ds ε' w a vs P' H' r' s' h1 h2 h3 h4 h5 h6 => ?_)⟩
  split at w
  · rename_i hl
    exact w P' _ _ H' (r'.setOwn hl h1 h2 h3 h4 h5 h6) s'
  · exact w.elim
end
end DL
/-! DLh: own lists changed; two and three stores at once; name op= e -/
namespace DL
open PySem PySem.Spec PyProof.Rows L2

/-- the list in a slot -/
def lsAt (ε : Sl) (i : Nat) : Option (List PyData) := match ε[i]? with
  | some (.own ds) => some ds
  | some (.io ds) => some ds
  | _ => none
/-- the list in a slot is another one now -/
def lsPut (ε : Sl) (i : Nat) (ds : List PyData) : Sl := match ε[i]? with
  | some (.own _) => ε.set i (.own ds)
  | some (.io _) => ε.set i (.io ds)
  | _ => ε
section
variable {X : Cx} {S : Sta} {T : Tmp} {R : Exc → Sl → Prop} {e a b c o : Expr} {es : List Expr} {pos : Pos}
variable {K : PySem.W.Frag} {P : Hp} {A : Nat → Addr} {σ : L2.St} {H : Hp} {ε : Sl}
theorem Rel.lsAt (r : Rel K S T P A σ H ε) {i : Nat} {ds : List PyData} (h : DL.lsAt ε i = some ds) : ∃ e, ε[i]? = some e ∧ e.isList = true ∧ σ[i]? = some (some (.ref (A i))) ∧ P (A i) = none ∧ ∃ vs, H (A i) = some (.lst vs) ∧ RpAll K P vs ds := by
  unfold DL.lsAt at h
  split at h
  · rename_i ds' q
    cases h
    obtain ⟨h1, h2, _, vs, h4, h5⟩ := r.ent i _ q
    exact ⟨_, q, rfl, h1, h2, vs, h4, h5⟩
  · rename_i ds' q
    cases h
    obtain ⟨h1, h2, _, vs, h4, h5⟩ := r.ent i _ q
    exact ⟨_, q, rfl, h1, h2, vs, h4, h5⟩
  · cases h
theorem Rel.lsPut (r : Rel K S T P A σ H ε) {i : Nat} {e : Ent} {ds : List PyData} {vs : List V} (he : ε[i]? = some e) (hl : e.isList = true) (rp : RpAll K P vs ds) : Rel K S T P A σ (upd H (A i) (.lst vs)) (DL.lsPut ε i ds) := by
  have hadr : P (A i) = none ∧ (S.H0 (A i) = none ∨ S.O (A i)) ∧ (∃ ws, H (A i) = some (.lst ws)) := by
    have z := r.ent i e he
    cases e with
    | un => cases hl
    | dat _ => cases hl
    | own es =>
      obtain ⟨_, h2, h3, ws, h4, _⟩ := z
      exact ⟨h2, .inl h3, ws, h4⟩
    | io es =>
      obtain ⟨_, h2, h3, ws, h4, _⟩ := z
      exact ⟨h2, .inr h3.1, ws, h4⟩
  obtain ⟨hp, hs, ws, hH⟩ := hadr
  have sl : ∀ (j : Nat) (u : Ent), (DL.lsPut ε i ds)[j]? = some u → (j = i ∧ ((∃ es, e = .own es ∧ u = .own ds) ∨ ∃ es, e = .io es ∧ u = .io ds)) ∨ (j ≠ i ∧ ε[j]? = some u) := by
    intro j u h
    unfold DL.lsPut at h
    rw [he] at h
    cases e with
    | un => cases hl
    | dat _ => cases hl
    | own es =>
      rcases getElem?_set_or h with ⟨rfl, rfl⟩ | ⟨n, q⟩
      · exact .inl ⟨rfl, .inl ⟨es, rfl, rfl⟩⟩
      · exact .inr ⟨Ne.symm n, q⟩
    | io es =>
      rcases getElem?_set_or h with ⟨rfl, rfl⟩ | ⟨n, q⟩
      · exact .inl ⟨rfl, .inr ⟨es, rfl, rfl⟩⟩
      · exact .inr ⟨Ne.symm n, q⟩
  have hlen : (DL.lsPut ε i ds).length = ε.length := by
    unfold DL.lsPut
    rw [he]
    cases e <;> first | rfl | exact List.length_set
  refine ⟨hlen.trans r.len, fun b u q => ?_, r.pt, r.old, r.new, fun b u q1 q2 q3 => ?_, fun b u q => ?_, r.io, fun j u q => ?_, fun j k u w hjk q1 q2 b1 b2 => ?_, fun p hp' => ?_, r.tnd⟩
  · have nb : b ≠ A i := fun z => by rw [z, hp] at q; cases q
    rw [upd_ne nb]
    exact r.sub _ _ q
  · have nb : b ≠ A i := fun z => by
      subst z
      rcases hs with z | z
      · rw [z] at q1; cases q1
      · exact q2 z
    rw [upd_ne nb]
    exact r.fr _ _ q1 q2 q3
  · by_cases hb : b = A i
    · subst hb
      exact ⟨_, upd_same⟩
    · rw [upd_ne hb]
      exact r.tr _ _ q
  · rcases sl j u q with ⟨rfl, hu⟩ | ⟨n, q⟩
    · have z := r.ent j e he
      rcases hu with ⟨es, rfl, rfl⟩ | ⟨es, rfl, rfl⟩
      · obtain ⟨h1, h2, h3, _⟩ := z
        exact ⟨h1, h2, h3, vs, upd_same, rp⟩
      · obtain ⟨h1, h2, h3, _⟩ := z
        exact ⟨h1, h2, h3, vs, upd_same, rp⟩
    · have z := r.ent j u q
      cases u with
      | un => trivial
      | dat d => exact z
      | own es =>
        obtain ⟨h1, h2, h3, ws', h4, h5⟩ := z
        exact ⟨h1, h2, h3, ws', by rw [upd_ne (r.sep j i _ _ n q he rfl hl)]; exact h4, h5⟩
      | io es =>
        obtain ⟨h1, h2, h3, ws', h4, h5⟩ := z
        exact ⟨h1, h2, h3, ws', by rw [upd_ne (r.sep j i _ _ n q he rfl hl)]; exact h4, h5⟩
  · have key : ∀ (j : Nat) (u : Ent), (DL.lsPut ε i ds)[j]? = some u → u.isList = true → ∃ u', ε[j]? = some u' ∧ u'.isList = true := by
      intro j u q hu
      rcases sl j u q with ⟨rfl, _⟩ | ⟨_, q⟩
      · exact ⟨e, he, hl⟩
      · exact ⟨u, q, hu⟩
    obtain ⟨u', y1, y2⟩ := key j u q1 b1
    obtain ⟨w', z1, z2⟩ := key k w q2 b2
    exact r.sep j k u' w' hjk y1 z1 y2 z2
  · obtain ⟨t1, t2, t3, t4⟩ := r.tmp p hp'
    refine ⟨by rw [upd_ne (Ne.symm (t4 i e he hl))]; exact t1, t2, t3, fun j u q b => ?_⟩
    rcases sl j u q with ⟨rfl, _⟩ | ⟨_, q⟩
    · exact t4 _ e he hl
    · exact t4 j u q b
/-- the name of an own list, as what it is -/
theorem own_name {x : Str} {pos : Pos} (i : Nat) (hN : X.N[i]? = some x) (hv : Vis X.env.scope x) (hd : (x == ("__debug__" : Str)) = false := by decide) (hcd : (x == ("__classdict__" : Str)) = false := by decide) : PE X (.Name x pos) (tVar i) := pe_var hN hv hd hcd

/-! ### append, extend, pop, insert -/
def kAppend (i : Nat) (f : Sl → Out PyData) : Sl → Out Tk := fun ε => match lsAt ε i with
  | some _ => (f ε).bind fun d ε' => match lsAt ε' i with
    | some ds => if ds.length < 16777216 then .ok (.dat .none) (lsPut ε' i (ds ++ [d])) else .stuck
    | none => .stuck
  | none => .stuck
def kExtend (i : Nat) (f : Sl → Out PyData) : Sl → Out Tk := fun ε => match lsAt ε i with
  | some _ => (f ε).bind fun d ε' => match lsAt ε' i, d with
    | some ds, .list es => if ds.length + es.length ≤ 16777216 then .ok (.dat .none) (lsPut ε' i (ds ++ es)) else .stuck
    | _, _ => .stuck
  | none => .stuck
def kPop (i : Nat) : Sl → Out PyData := fun ε => match lsAt ε i with
  | some ds => match ds[ds.length - 1]? with
    | some d => .ok d (lsPut ε i ds.dropLast)
    | none => .stuck
  | none => .stuck
def kPopAt (i : Nat) (f : Sl → Out PyData) : Sl → Out PyData := fun ε => match lsAt ε i with
  | some _ => (f ε).bind fun d ε' => match lsAt ε' i, d with
    | some ds, .int k => if 0 ≤ k ∧ k < ds.length ∧ ds.length ≤ 16777216 then match ds[k.toNat]? with
      | some d => .ok d (lsPut ε' i (ds.eraseIdx k.toNat))
      | none => .stuck else .stuck
    | _, _ => .stuck
  | none => .stuck
variable {x : Str} {apos npos : Pos}
theorem de_append (i : Nat) {f : Sl → Out PyData} (h : DP X S R e f) (hN : X.N[i]? = some x := by rfl) (hv : Vis X.env.scope x := by first | exact Or.inl rfl | exact Or.inr (Or.inl rfl) | exact Or.inr (Or.inr rfl)) (hd : (x == ("__debug__" : Str)) = false := by decide) (hcd : (x == ("__classdict__" : Str)) = false := by decide)
    (hbase : attributeBase (.Name x npos) "append" X.env (eval (.Name x npos) X.env) = eval (.Name x npos) X.env := by rfl)
    (hfew : ((backTo pos (starEach [e] X.env)).all (fun x => !x.1) && (backToKw pos (keywordEach [] X.env)).all (fun x => x.1.isSome) && decide ([e].length + ([] : List Keyword).length + (if ([] : List Keyword).isEmpty then 0 else 1) < 30)) = true := by rfl)
    (hline : (apos.endLine == pos.line) = true := by rfl) (hs : starEach [e] X.env = (false, eval e X.env) :: starEach [] X.env := by rfl) (hplain : (backTo pos (starEach [] X.env)).any (·.1) = false := by rfl) :
    DE X S R (.Call (.Attribute (.Name x npos) "append" apos) [e] [] pos) (kAppend i f) := by
  obtain ⟨t, p, q⟩ := h
  refine ⟨_, pe_bm PySem.F.plainAttrs_list PySem.F.slot_list_append PySem.F.type_list_append mt_append (own_name i hN hv hd hcd) (pa_cons p pa_nil hs) hbase hfew hline hs hplain, fun T P A σ H ε Q r w => ?_⟩
  unfold kAppend at w
  split at w
  · rename_i ds0 h0
    obtain ⟨_, _, _, hσ, _, vs0, hH0, _⟩ := r.lsAt h0
    refine ⟨_, hσ, .inl ⟨rfl, _, .inl (.inl hH0)⟩, q T P A σ H ε _ r (w.bind.imp fun d ε' w v P' H' r' s' k => ?_)⟩
    split at w
    · rename_i ds h1
      split at w
      · rename_i hz
        obtain ⟨u, hu, hl, _, _, vs, hH, ra⟩ := r'.lsAt h1
        exact ⟨A i, vs, v, rfl, rfl, hH, by rw [sizeLine_eq, ra.length]; exact hz, w .non P' _ (r'.lsPut hu hl (ra.append (.cons k .nil))) s' .non⟩
      · exact w.elim
    · exact w.elim
  · exact w.elim
theorem list_extendS (l : Addr) (items : Array Value) (n : Nat) (b : Addr) (items2 : Array Value) (o2 : Obj) (n2 : Nat) (hcl : o2.cls = .type "list") (hdi : o2.dict = none) (hda : o2.data = .seq items2 n2) (hc0 : ¬(!items.isEmpty && Builtin.List.listTooLong (items.size + items2.size)) = true) (hc1 : items.size ≤ sizeLine) (hs2 : items.size + items2.size ≤ sizeLine + 1) :
    Meets (Builtin.«list.extend» ⟨[.ref l, .ref b], []⟩) (fun _ R s => s.heap.get? l = some { cls := .type "list", dict := none, data := .seq items n, slots := #[] } ∧ s.heap.get? b = some o2 ∧ R (.ok (.ret Value.none)) { s with heap := s.heap.update l (Obj.mapSeq fun x => x ++ items2), toks := s.toks }) :=
  .of_wp fun prog w A R s h => by
    obtain ⟨c2, d2, da2, sl2⟩ := o2
    cases hcl; cases hdi; cases hda
    obtain ⟨hp, g, d, tk, os⟩ := s; obtain ⟨hl, hb, h⟩ := h; have f1 := AutoSeq1.idx_int; have f2 := AutoSeq1.sub_tuple_tuple; have f3 := AutoSeq1.sub_list_list; have f4 := AutoSeq1.sub_tuple_list; have f5 := AutoSeq1.sub_list_tuple;
    have hz' : (items ++ items2).size ≤ sizeLine + 1 := by rw [Array.size_append]; exact hs2
    wp_walk using (wpAny_updateSeq hl rfl (hz := hc1) (_hz' := hz')), AutoSeq1.wpAny_loadPart' hl, AutoSeq1.wpAny_loadPart' hb; exact ⟨_, rfl, h⟩
theorem mt_extendR : MtR X "list.extend" (fun x vs H Q => ∃ l b xs zs, x = .ref l ∧ vs = [.ref b] ∧ H l = some (.lst xs) ∧ SqL X.K H b zs ∧ xs.length + zs.length ≤ sizeLine ∧ Q .non (upd H l (.lst (xs ++ zs)))) := by
  intro pins s σ H x vs v us Q I rx rv h
  obtain ⟨l, b, xs, zs, rfl, rfl, hH, hB, hz, q⟩ := h
  cases rx
  obtain ⟨u, rfl, ru⟩ := rv.one
  cases ru
  obtain ⟨z, its, n, r, hl, e⟩ := I.lstM hH
  obtain ⟨its2, r2, ⟨o2, n2, e2, c2, d2, da2⟩, z2⟩ := I.list hB
  have hl2 := r2.length
  have hsz : its.toArray.size + its2.toArray.size ≤ sizeLine := by rw [List.size_toArray, List.size_toArray]; omega
  have hlong : ¬ (!its.toArray.isEmpty && Builtin.List.listTooLong (its.toArray.size + its2.toArray.size)) = true := by
    rw [notLongL hsz, Bool.and_false]
    exact Bool.false_ne_true
  refine call_meets F.slot_list_extend ⟨_, e, rfl⟩ F.entry_list_extend (F.args_list_extend_2 _ _)
    (list_extendS l its.toArray n b its2.toArray o2 n2 c2 d2 da2 hlong (by rw [List.size_toArray]; omega) (by omega)) ⟨e, e2, ?_⟩
  refine ⟨.non, _, I.lset (its' := its ++ its2) hH e (by simp) (r.append r2) ?_, rfl, q⟩
  rw [List.length_append]
  omega
theorem de_extend (i : Nat) {f : Sl → Out PyData} (h : DP X S R e f) (hN : X.N[i]? = some x := by rfl) (hv : Vis X.env.scope x := by first | exact Or.inl rfl | exact Or.inr (Or.inl rfl) | exact Or.inr (Or.inr rfl)) (hd : (x == ("__debug__" : Str)) = false := by decide) (hcd : (x == ("__classdict__" : Str)) = false := by decide)
    (hbase : attributeBase (.Name x npos) "extend" X.env (eval (.Name x npos) X.env) = eval (.Name x npos) X.env := by rfl)
    (hfew : ((backTo pos (starEach [e] X.env)).all (fun x => !x.1) && (backToKw pos (keywordEach [] X.env)).all (fun x => x.1.isSome) && decide ([e].length + ([] : List Keyword).length + (if ([] : List Keyword).isEmpty then 0 else 1) < 30)) = true := by rfl)
    (hline : (apos.endLine == pos.line) = true := by rfl) (hs : starEach [e] X.env = (false, eval e X.env) :: starEach [] X.env := by rfl) (hplain : (backTo pos (starEach [] X.env)).any (·.1) = false := by rfl) :
    DE X S R (.Call (.Attribute (.Name x npos) "extend" apos) [e] [] pos) (kExtend i f) := by
  obtain ⟨t, p, q⟩ := h
  refine ⟨_, pe_bm PySem.F.plainAttrs_list PySem.F.slot_list_extend PySem.F.type_list_extend mt_extendR (own_name i hN hv hd hcd) (pa_cons p pa_nil hs) hbase hfew hline hs hplain, fun T P A σ H ε Q r w => ?_⟩
  unfold kExtend at w
  split at w
  · rename_i ds0 h0
    obtain ⟨_, _, _, hσ, _, vs0, hH0, _⟩ := r.lsAt h0
    refine ⟨_, hσ, .inl ⟨rfl, _, .inl (.inl hH0)⟩, q T P A σ H ε _ r (w.bind.imp fun d ε' w v P' H' r' s' k => ?_)⟩
    split at w
    · rename_i ds es' h1
      split at w
      · rename_i hz
        obtain ⟨u, hu, hl, _, _, vs, hH, ra⟩ := r'.lsAt h1
        cases k with
        | lst k1 k2 => exact ⟨A i, _, vs, _, rfl, rfl, hH, r'.sub.sql k1, by rw [sizeLine_eq, ra.length, k2.length]; exact hz, w .non P' _ (r'.lsPut hu hl (ra.append k2)) s' .non⟩
      · exact w.elim
    · exact w.elim
  · exact w.elim
theorem dp_pop (i : Nat) (hN : X.N[i]? = some x := by rfl) (hv : Vis X.env.scope x := by first | exact Or.inl rfl | exact Or.inr (Or.inl rfl) | exact Or.inr (Or.inr rfl)) (hd : (x == ("__debug__" : Str)) = false := by decide) (hcd : (x == ("__classdict__" : Str)) = false := by decide)
    (hbase : attributeBase (.Name x npos) "pop" X.env (eval (.Name x npos) X.env) = eval (.Name x npos) X.env := by rfl) (hline : (apos.endLine == pos.line) = true := by rfl) :
    DP X S R (.Call (.Attribute (.Name x npos) "pop" apos) [] [] pos) (kPop i) := by
  refine ⟨_, pe_bm0 PySem.F.plainAttrs_list PySem.F.slot_list_pop PySem.F.type_list_pop mt_pop (own_name i hN hv hd hcd) hbase hline, fun T P A σ H ε Q r w => ?_⟩
  unfold kPop at w
  split at w
  · rename_i ds h0
    split at w
    · rename_i d hd'
      obtain ⟨u, hu, hl, hσ, _, vs, hH, ra⟩ := r.lsAt h0
      obtain ⟨v, hv', rp⟩ := ra.get hd'
      have rt : RpAll X.K P vs.dropLast ds.dropLast := by
        rw [List.dropLast_eq_take, List.dropLast_eq_take, ra.length]
        exact ra.take _
      exact ⟨_, hσ, .inl ⟨rfl, _, .inl (.inl hH)⟩, A i, vs, v, rfl, rfl, hH, by rw [ra.length]; exact hv', w v P _ (r.lsPut hu hl rt) (Same.refl _) rp⟩
    · exact w.elim
  · exact w.elim
theorem dp_popAt (i : Nat) {f : Sl → Out PyData} (h : DP X S R e f) (hN : X.N[i]? = some x := by rfl) (hv : Vis X.env.scope x := by first | exact Or.inl rfl | exact Or.inr (Or.inl rfl) | exact Or.inr (Or.inr rfl)) (hd : (x == ("__debug__" : Str)) = false := by decide) (hcd : (x == ("__classdict__" : Str)) = false := by decide)
    (hbase : attributeBase (.Name x npos) "pop" X.env (eval (.Name x npos) X.env) = eval (.Name x npos) X.env := by rfl)
    (hfew : ((backTo pos (starEach [e] X.env)).all (fun x => !x.1) && (backToKw pos (keywordEach [] X.env)).all (fun x => x.1.isSome) && decide ([e].length + ([] : List Keyword).length + (if ([] : List Keyword).isEmpty then 0 else 1) < 30)) = true := by rfl)
    (hline : (apos.endLine == pos.line) = true := by rfl) (hs : starEach [e] X.env = (false, eval e X.env) :: starEach [] X.env := by rfl) (hplain : (backTo pos (starEach [] X.env)).any (·.1) = false := by rfl) :
    DP X S R (.Call (.Attribute (.Name x npos) "pop" apos) [e] [] pos) (kPopAt i f) := by
  obtain ⟨t, p, q⟩ := h
  refine ⟨_, pe_bm PySem.F.plainAttrs_list PySem.F.slot_list_pop PySem.F.type_list_pop mt_popAt (own_name i hN hv hd hcd) (pa_cons p pa_nil hs) hbase hfew hline hs hplain, fun T P A σ H ε Q r w => ?_⟩
  unfold kPopAt at w
  split at w
  · rename_i ds0 h0
    obtain ⟨_, _, _, hσ, _, vs0, hH0, _⟩ := r.lsAt h0
    refine ⟨_, hσ, .inl ⟨rfl, _, .inl (.inl hH0)⟩, q T P A σ H ε _ r (w.bind.imp fun d ε' w v P' H' r' s' k => ?_)⟩
    split at w
    · rename_i ds j h1
      split at w
      · rename_i hz
        split at w
        · rename_i d hd'
          obtain ⟨u, hu, hl, _, _, vs, hH, ra⟩ := r'.lsAt h1
          obtain ⟨v', hv', rp⟩ := ra.get hd'
          cases k
          have hl' := ra.length
          exact ⟨A i, vs, j, j.toNat, v', rfl, rfl, hH, by omega, by omega, by rw [hl']; exact seqIndex_of hz.1 hz.2.1, hv', w v' P' _ (r'.lsPut hu hl (ra.eraseIdx _)) s' rp⟩
        · exact w.elim
      · exact w.elim
    · exact w.elim
  · exact w.elim

/-! ### x[k] = e, x[k] op= e, of an own list -/
def sSetIx (i : Nat) (fi f : Sl → Out PyData) : Sl → SO := fun ε => (f ε).so fun d ε1 => match lsAt ε1 i with
  | some _ => (fi ε1).so fun k ε2 => match lsAt ε2 i, k with
    | some ds, .int j => match ixN ds.length j with
      | some n => .nx (lsPut ε2 i (ds.set n d))
      | none => .stuck
    | _, _ => .stuck
  | none => .stuck
theorem ds_setIx (i : Nat) {y : Expr} {f fi : Sl → Out PyData} {p1 : Pos} (h : DP X S R e f) (h2 : DP X S R y fi) (hN : X.N[i]? = some x := by rfl) (hv : Vis X.env.scope x := by first | exact Or.inl rfl | exact Or.inr (Or.inl rfl) | exact Or.inr (Or.inr rfl)) (hd : (x == ("__debug__" : Str)) = false := by decide) (hcd : (x == ("__classdict__" : Str)) = false := by decide)
    (hs : swapsWithSole [.Subscript (.Name x npos) y p1] e pos.line X.env = pure false := by rfl) (hw : swappedStores [.Subscript (.Name x npos) y p1] e X.env = pure none := by rfl)
    (h1 : (assignEach [.Subscript (.Name x npos) y p1] X.env).map (·.2) = [assign (.Subscript (.Name x npos) y p1) X.env] := by rfl)
    (ha : ∀ u, assign (.Subscript (.Name x npos) y p1) X.env u = (do
      let ov ← holding [u] (eval (.Name x npos) X.env)
      let iv ← holding [u, ov] (eval y X.env)
      standAt p1
      holding [u, ov, iv] (setItem ov iv u)
      release [u, ov, iv] []) := by intros; rfl) : DS X S R (.Assign [.Subscript (.Name x npos) y p1] e pos) (sSetIx i fi f) := by
  obtain ⟨t, p, q⟩ := h
  obtain ⟨t2, p2, q2⟩ := h2
  refine ⟨_, ps_asg p (pg_sub (own_name i hN hv hd hcd) p2 set_list ha) hs hw h1, fun T P A σ H ε D r w => q T P A σ H ε _ r (w.so.imp fun d ε1 w v P1 H1 r1 s1 k1 => ?_)⟩
  split at w
  · rename_i ds0 h0
    obtain ⟨_, _, _, hσ, _, vs0, hH0, _⟩ := r1.lsAt h0
    refine ⟨_, hσ, q2 T P1 A σ H1 ε1 _ r1 (WishS.so w |>.imp fun k ε2 w v2 P2 H2 r2 s2 k2 => ?_)⟩
    split at w
    · rename_i ds j h1
      split at w
      · rename_i n hn
        obtain ⟨u, hu, hl, _, _, vs, hH, ra⟩ := r2.lsAt h1
        cases k2
        exact ⟨A i, vs, j, n, rfl, rfl, hH, by rw [ra.length]; exact hn, w P2 A σ _ (r2.lsPut hu hl (RpAll.set (k1.mono s2) n ra)) (s1.trans s2)⟩
      · exact w.elim
    · exact w.elim
  · exact w.elim
/-- an in-place operation on data -/
def IpD (X : Cx) (op : Operator) (g : PyData → PyData → Option PyData) : Prop := OpD X (inplaceOp op) g
def addI : PyData → PyData → Option PyData
  | .int i, .int j => some (.int (i + j))
  | _, _ => none
def subI : PyData → PyData → Option PyData
  | .int i, .int j => some (.int (i - j))
  | _, _ => none
theorem ipd_add : IpD X .Add addI := by
  intro P pins s σ H x y v u Q I rx ry h
  obtain ⟨d, e, r, sm, hx, hy, hg, q⟩ := h
  unfold addI at hg
  split at hg
  · cases hg
    cases hx.intI
    cases hy.intI
    exact ip_add pins s σ H _ _ v u Q I rx ry ⟨_, _, rfl, rfl, q _ _ _ (Gro.refl sm) (.int _)⟩
  · cases hg
theorem ipd_sub : IpD X .Sub subI := by
  intro P pins s σ H x y v u Q I rx ry h
  obtain ⟨d, e, r, sm, hx, hy, hg, q⟩ := h
  unfold subI at hg
  split at hg
  · cases hg
    cases hx.intI
    cases hy.intI
    exact ip_sub pins s σ H _ _ v u Q I rx ry ⟨_, _, rfl, rfl, q _ _ _ (Gro.refl sm) (.int _)⟩
  · cases hg
def getL : V → V → Hp → VK → Prop := fun o i H Q => ∃ l xs k v, o = .ref l ∧ i = .int k ∧ H l = some (.lst xs) ∧ 0 ≤ k ∧ k < 2 ^ 63 ∧ xs[k.toNat]? = some v ∧ Q v H
theorem pget_list : PGet X getL := by
  intro pins s σ H o i ov iv Q I ro ri h
  obtain ⟨l, xs, k, v, rfl, rfl, hH, h0, h1, hx, q⟩ := h
  cases ro
  obtain ⟨t, rfl⟩ := ri
  obtain ⟨its, n, r, ho, hz⟩ := I.lst hH
  obtain ⟨u, hu, ru⟩ := r.get hx
  exact wpAny_getItem_list ⟨_, ho, rfl, n, rfl⟩ h0 h1 (by simpa using hu) ⟨v, H, I, ru, q⟩
def sAugIx (i : Nat) (g : PyData → PyData → Option PyData) (fi f : Sl → Out PyData) : Sl → SO := fun ε => match lsAt ε i with
  | some _ => (fi ε).so fun k ε1 => match lsAt ε1 i, k with
    | some ds, .int j => if 0 ≤ j ∧ j < 16777216 then match ds[j.toNat]? with
      | some old => (f ε1).so fun d ε2 => match lsAt ε2 i, g old d with
        | some ds2, some z => if j.toNat < ds2.length then .nx (lsPut ε2 i (ds2.set j.toNat z)) else .stuck
        | _, _ => .stuck
      | none => .stuck else .stuck
    | _, _ => .stuck
  | none => .stuck
theorem ds_augIx (i : Nat) {y : Expr} {op : Operator} {g : PyData → PyData → Option PyData} {f fi : Sl → Out PyData} {p1 : Pos} (ho : IpD X op g) (h2 : DP X S R y fi) (h : DP X S R e f) (hN : X.N[i]? = some x := by rfl) (hv : Vis X.env.scope x := by first | exact Or.inl rfl | exact Or.inr (Or.inl rfl) | exact Or.inr (Or.inr rfl)) (hd : (x == ("__debug__" : Str)) = false := by decide) (hcd : (x == ("__classdict__" : Str)) = false := by decide)
    (ha : ∀ ov iv new, augStore y ov iv new = (do holding [new, ov, iv] (setItem ov iv new); release [new, ov, iv] []; pure .next) := by intros; rfl) : DS X S R (.AugAssign (.Subscript (.Name x npos) y p1) op e pos) (sAugIx i g fi f) := by
  obtain ⟨t, p, q⟩ := h
  obtain ⟨t2, p2, q2⟩ := h2
  refine ⟨_, ps_augS (own_name i hN hv hd hcd) p2 pget_list p (show PIp X op (rP X.K g) from OpD.op ho) set_list ha, fun T P A σ H ε D r w => ?_⟩
  unfold sAugIx at w
  split at w
  · rename_i ds0 h0
    obtain ⟨_, _, _, hσ, _, vs0, hH0, _⟩ := r.lsAt h0
    refine ⟨_, hσ, q2 T P A σ H ε _ r (WishS.so w |>.imp fun k ε1 w v1 P1 H1 r1 s1 k1 => ?_)⟩
    split at w
    · rename_i ds j h1
      split at w
      · rename_i hj
        split at w
        · rename_i old hold
          obtain ⟨u, hu, hl, _, _, vs, hH, ra⟩ := r1.lsAt h1
          obtain ⟨vo, hvo, rpo⟩ := ra.get hold
          cases k1
          refine ⟨A i, vs, j, vo, rfl, rfl, hH, hj.1, by omega, hvo, q T P1 A σ H1 ε1 _ r1 (WishS.so w |>.imp fun d ε2 w v2 P2 H2 r2 s2 k2 => ?_)⟩
          split at w
          · rename_i ds2 z h2 hz
            split at w
            · rename_i hj2
              refine ⟨P2, old, d, z, r2.sub, .inl (rpo.mono s2), .inl k2, hz, fun v3 P3 H3 g3 rp3 => ?_⟩
              have r3 := r2.grow g3
              obtain ⟨u, hu, hl, _, _, vs, hH, ra⟩ := r3.lsAt h2
              exact ⟨A i, vs, j, j.toNat, rfl, rfl, hH, by unfold ixN; rw [ra.length, if_pos hj.1, if_pos (by omega)], w P3 A σ _ (r3.lsPut hu hl (RpAll.set rp3 _ ra)) ((s1.trans s2).trans g3.p)⟩
            · exact w.elim
          · exact w.elim
        · exact w.elim
      · exact w.elim
    · exact w.elim
  · exact w.elim
/-- name op= e -/
def sAug (i : Nat) (g : PyData → PyData → Option PyData) (f : Sl → Out PyData) : Sl → SO := fun ε => match ε[i]? with
  | some (.dat old) => (f ε).so fun d ε' => match g old d with
    | some z => if i < ε'.length then .nx (ε'.set i (.dat z)) else .stuck
    | none => .stuck
  | _ => .stuck
theorem ds_aug (i : Nat) {op : Operator} {g : PyData → PyData → Option PyData} {f : Sl → Out PyData} (ho : IpD X op g) (h : DP X S R e f) (hN : X.N.Nodup) (hi : X.N[i]? = some x := by rfl) (hx : Loc X.env.scope x := by first | exact Or.inl rfl | exact Or.inr rfl)
    (hf : X.fn x = true ∨ X.env.scope.names.lookup x = some .local := by first | exact .inl rfl | exact .inr rfl | assumption) : DS X S R (.AugAssign (.Name x npos) op e pos) (sAug i g f) := by
  obtain ⟨t, p, q⟩ := h
  refine ⟨_, ps_aug hN hi hx p (show PIp X op (rP X.K g) from OpD.op ho) hf, fun T P A σ H ε D r w => ?_⟩
  unfold sAug at w
  split at w
  · rename_i old h0
    obtain ⟨v, hσ, rp⟩ := r.ent i _ h0
    refine ⟨v, hσ, q T P A σ H ε _ r (WishS.so w |>.imp fun d ε' w v' P' H' r' s' k => ?_)⟩
    split at w
    · rename_i z hz
      split at w
      · rename_i hl
        exact ⟨P', old, d, z, r'.sub, .inl (rp.mono s'), .inl k, hz, fun v3 P3 H3 g3 rp3 => w P3 A _ H3 ((r'.grow g3).setDat hl rp3) (s'.trans g3.p)⟩
      · exact w.elim
    · exact w.elim
  · exact w.elim

/-! ### a value or a new list; new lists held meanwhile -/
def DR (X : Cx) (S : Sta) (R : Exc → Sl → Prop) (e : Expr) (f : Sl → Out Rv) : Prop := ∃ t : TE, PE X e t ∧ ∀ T P A σ H ε Q, Rel X.K S T P A σ H ε → Wish R (f ε) (fun r ε' => ∀ v P' H', Rel X.K S T P' A σ H' ε' → Same P P' → RvOk X.K S T P' A H' ε' v r → Q v H') → t σ H Q
theorem DP.dr {f : Sl → Out PyData} (h : DP X S R e f) : DR X S R e (fun ε => (f ε).map .dat) := by
  obtain ⟨t, p, q⟩ := h
  exact ⟨t, p, fun T P A σ H ε Q r w => q T P A σ H ε Q r (w.map.imp fun d ε' w v P' H' r' s' k => w v P' H' r' s' k)⟩
theorem DN.dr {f : Sl → Out (List PyData)} (h : DN X S R e f) : DR X S R e (fun ε => (f ε).map .lst) := by
  obtain ⟨t, p, q⟩ := h
  exact ⟨t, p, fun T P A σ H ε Q r w => q T P A σ H ε Q r (w.map.imp fun ds ε' w a vs P' H' r' s' h1 h2 h3 h4 h5 h6 => w (.ref a) P' H' r' s' ⟨a, vs, rfl, h1, h2, h3, h4, h5, h6⟩)⟩
def Rv.put (ε : Sl) (i : Nat) : Rv → Sl
  | .dat d => ε.set i (.dat d)
  | .lst ds => ε.set i (.own ds)
theorem RvOk.put {v : V} {rv : Rv} (r : Rel K S T P A σ H ε) {i : Nat} (hi : i < ε.length) (h : RvOk K S T P A H ε v rv) : ∃ A', Rel K S T P A' (σ.set i (some v)) H (rv.put ε i) := by
  cases rv with
  | dat d => exact ⟨A, r.setDat hi h⟩
  | lst ds =>
    obtain ⟨a, vs, rfl, h1, h2, h3, h4, h5, h6⟩ := h
    exact ⟨_, r.setOwn hi h1 h2 h3 h4 h5 h6⟩
/-- a new list is held -/
theorem Rel.push {a : Addr} {o : TOb} (r : Rel K S T P A σ H ε) (ha : H a = some o.ho) (hp : P a = none) (h0 : S.H0 a = none) (hA : ∀ (i : Nat) (e : Ent), ε[i]? = some e → e.isList = true → A i ≠ a) (hT : ∀ p ∈ T, p.1 ≠ a) : Rel K S ((a, o) :: T) P A σ H ε :=
  ⟨r.len, r.sub, r.pt, r.old, r.new, r.fr, r.tr, r.io, r.ent, r.sep, fun p h => by
    rcases List.mem_cons.mp h with rfl | h
    · exact ⟨ha, hp, h0, hA⟩
    · exact r.tmp p h, by
    rw [List.map_cons, List.nodup_cons]
    refine ⟨fun h => ?_, r.tnd⟩
    obtain ⟨p, hp, e⟩ := List.mem_map.mp h
    exact hT p hp e⟩
theorem Rel.pop {p : Addr × TOb} (r : Rel K S (p :: T) P A σ H ε) : Rel K S T P A σ H ε ∧ H p.1 = some p.2.ho ∧ P p.1 = none ∧ S.H0 p.1 = none ∧ (∀ (i : Nat) (e : Ent), ε[i]? = some e → e.isList = true → A i ≠ p.1) ∧ ∀ q ∈ T, q.1 ≠ p.1 := by
  obtain ⟨h1, h2, h3, h4⟩ := r.tmp p List.mem_cons_self
  have nd := r.tnd
  rw [List.map_cons, List.nodup_cons] at nd
  exact ⟨⟨r.len, r.sub, r.pt, r.old, r.new, r.fr, r.tr, r.io, r.ent, r.sep, fun q h => r.tmp q (List.mem_cons_of_mem _ h), nd.2⟩, h1, h2, h3, h4, fun q hq e => nd.1 (e ▸ List.mem_map_of_mem hq)⟩
/-- what is held of a value -/
def Rv.tmp (v : V) (vs : List V) : Rv → Tmp
  | .dat _ => []
  | .lst _ => match v with
    | .ref a => [(a, .lst vs)]
    | _ => []
/-- hold a value, new list or not, through a further step -/
theorem RvOk.hold {v : V} {rv : Rv} (r : Rel K S T P A σ H ε) (h : RvOk K S T P A H ε v rv) : ∃ T', Rel K S (T' ++ T) P A σ H ε ∧ (∀ ds, rv = .lst ds → ∃ a vs, v = .ref a ∧ (a, TOb.lst vs) ∈ T' ++ T) ∧ ∀ {P2 : Hp} {A2 : Nat → Addr} {σ2 : L2.St} {H2 : Hp} {ε2 : Sl} {T2 : Tmp}, Rel K S (T2 ++ (T' ++ T)) P2 A2 σ2 H2 ε2 → Same P P2 → RvOk K S T P2 A2 H2 ε2 v rv ∧ Rel K S (T2 ++ T) P2 A2 σ2 H2 ε2 := by
  cases rv with
  | dat d => exact ⟨[], r, (fun _ z => nomatch z), fun r2 s => ⟨Rp.mono s h, r2⟩⟩
  | lst ds =>
    obtain ⟨a, vs, rfl, h1, h2, h3, h4, h5, h6⟩ := h
    refine ⟨[(a, .lst vs)], r.push (o := .lst vs) h1 h3 h4 h5 h6, (fun _ _ => ⟨a, vs, rfl, List.mem_cons_self⟩), fun {P2 A2 σ2 H2 ε2 T2} r2 s => ?_⟩
    have hm : (a, TOb.lst vs) ∈ T2 ++ ([(a, TOb.lst vs)] ++ T) := List.mem_append_right _ (List.mem_append_left _ (List.mem_singleton.mpr rfl))
    obtain ⟨k1, k2, k3, k4⟩ := r2.tmp _ hm
    have nd := r2.tnd
    rw [List.map_append, List.map_append, List.map_cons, List.map_nil] at nd
    refine ⟨⟨a, vs, rfl, k1, h2.mono s, k2, k3, k4, h6⟩, ⟨r2.len, r2.sub, r2.pt, r2.old, r2.new, r2.fr, r2.tr, r2.io, r2.ent, r2.sep, fun q hq => r2.tmp q ?_, ?_⟩⟩
    · rcases List.mem_append.mp hq with z | z
      · exact List.mem_append_left _ z
      · exact List.mem_append_right _ (List.mem_append_right _ z)
    · rw [List.map_append]
      refine nd.sublist ?_
      exact List.Sublist.append (List.Sublist.refl _) (List.sublist_append_right _ _)
/-- a slot is stored: the others' new lists stand -/
theorem RvOk.after {v : V} {rv rw' : Rv} {i : Nat} {A' : Nat → Addr} (h : RvOk K S T P A H ε v rv) (hA : ∀ j, j ≠ i → A' j = A j) (hi : ∀ ds es, rv = .lst ds → rw' = .lst es → v ≠ .ref (A' i)) : RvOk K S T P A' H (rw'.put ε i) v rv := by
  cases rv with
  | dat d => exact h
  | lst ds =>
    obtain ⟨a, vs, rfl, h1, h2, h3, h4, h5, h6⟩ := h
    refine ⟨a, vs, rfl, h1, h2, h3, h4, fun j u hj hu => ?_, h6⟩
    cases rw' with
    | dat d =>
      rcases getElem?_set_or (show (ε.set i (.dat d))[j]? = some u from hj) with ⟨rfl, rfl⟩ | ⟨n, q⟩
      · cases hu
      · rw [hA j (Ne.symm n)]
        exact h5 j u q hu
    | lst es =>
      rcases getElem?_set_or (show (ε.set i (.own es))[j]? = some u from hj) with ⟨rfl, rfl⟩ | ⟨n, q⟩
      · intro z
        exact hi ds es rfl rfl (by rw [z])
      · rw [hA j (Ne.symm n)]
        exact h5 j u q hu
/-- .. with what the place is -/
theorem RvOk.put' {v : V} {rv : Rv} (r : Rel K S T P A σ H ε) {i : Nat} (hi : i < ε.length) (h : RvOk K S T P A H ε v rv) : ∃ A', Rel K S T P A' (σ.set i (some v)) H (rv.put ε i) ∧ (∀ j, j ≠ i → A' j = A j) ∧ ∀ ds, rv = .lst ds → v = .ref (A' i) := by
  cases rv with
  | dat d => exact ⟨A, r.setDat hi h, fun _ _ => rfl, fun _ z => nomatch z⟩
  | lst ds =>
    obtain ⟨a, vs, rfl, h1, h2, h3, h4, h5, h6⟩ := h
    exact ⟨_, r.setOwn hi h1 h2 h3 h4 h5 h6, fun j hj => put_ne (Ne.symm hj), fun _ _ => by rw [put_same]⟩
theorem Rv.put_length {ε : Sl} {i : Nat} (rv : Rv) : (rv.put ε i).length = ε.length := by
  cases rv <;> exact List.length_set
/-- the address of a new list, apart from the other's -/
def Apart (v w : V) (rv rw' : Rv) : Prop := ∀ ds es, rv = .lst ds → rw' = .lst es → v ≠ w
theorem put2 {v w : V} {rv rw' : Rv} (r : Rel K S T P A σ H ε) {i j : Nat} (hi : i < ε.length) (hj : j < ε.length) (h1 : RvOk K S T P A H ε v rv) (h2 : RvOk K S T P A H ε w rw') (hd : Apart v w rv rw') :
    ∃ A', Rel K S T P A' ((σ.set i (some v)).set j (some w)) H (rw'.put (rv.put ε i) j) := by
  obtain ⟨A1, r1, e1, a1⟩ := RvOk.put' r hi h1
  have h2' := RvOk.after (i := i) (rw' := rv) h2 e1 fun ds es x y z => hd es ds y x (by rw [a1 es y, z])
  exact RvOk.put r1 (by rw [Rv.put_length]; exact hj) h2'
theorem put3 {u v w : V} {ru rv rw' : Rv} (r : Rel K S T P A σ H ε) {i j l : Nat} (hi : i < ε.length) (hj : j < ε.length) (hl : l < ε.length) (h0 : RvOk K S T P A H ε u ru) (h1 : RvOk K S T P A H ε v rv) (h2 : RvOk K S T P A H ε w rw') (d1 : Apart u v ru rv) (d2 : Apart u w ru rw') (d3 : Apart v w rv rw') :
    ∃ A', Rel K S T P A' (((σ.set i (some u)).set j (some v)).set l (some w)) H (rw'.put (rv.put (ru.put ε i) j) l) := by
  obtain ⟨A1, r1, e1, a1⟩ := RvOk.put' r hi h0
  have h1' := RvOk.after (i := i) (rw' := ru) h1 e1 fun ds es x y z => d1 es ds y x (by rw [a1 es y, z])
  have h2' := RvOk.after (i := i) (rw' := ru) h2 e1 fun ds es x y z => d2 es ds y x (by rw [a1 es y, z])
  obtain ⟨A2, r2, e2, a2⟩ := RvOk.put' r1 (by rw [Rv.put_length]; exact hj) h1'
  have h2'' := RvOk.after (i := j) (rw' := rv) h2' e2 fun ds es x y z => d3 es ds y x (by rw [a2 es y, z])
  exact RvOk.put r2 (by rw [Rv.put_length, Rv.put_length]; exact hl) h2''
/-- what holds of a held value's list and a newer one -/
theorem RvOk.apart {v w : V} {rv rw' : Rv} {T' : Tmp} (h : ∀ ds, rv = .lst ds → ∃ a vs, v = .ref a ∧ (a, TOb.lst vs) ∈ T') (h2 : RvOk K S T' P A H ε w rw') : Apart v w rv rw' := fun ds es e1 e2 z => by
  subst e1; subst e2
  obtain ⟨a, vs, rfl, hm⟩ := h ds rfl
  obtain ⟨b, ws, e3, _, _, _, _, _, q⟩ := h2
  rw [← z] at e3
  cases e3
  exact q _ hm rfl
end
end DL
/-! DLi: stores of several values; for, while, comprehensions -/
namespace DL
open PySem PySem.Spec PyProof.Rows L2

section
variable {X : Cx} {S : Sta} {T : Tmp} {R : Exc → Sl → Prop} {e a b c : Expr} {es : List Expr} {pos : Pos}
/-! ### a, b = x, y -/
theorem pa2 {ta tb : TE} (ha : PE X a ta) (hb : PE X b tb) (h1 : starEach [a, b] X.env = (false, eval a X.env) :: starEach [b] X.env := by rfl) (h2 : starEach [b] X.env = (false, eval b X.env) :: starEach [] X.env := by rfl) : PA X [a, b] (tCons ta (tCons tb tNil)) := pa_cons ha (pa_cons hb pa_nil h2) h1
theorem pa3 {ta tb tc : TE} (ha : PE X a ta) (hb : PE X b tb) (hc : PE X c tc) (h1 : starEach [a, b, c] X.env = (false, eval a X.env) :: starEach [b, c] X.env := by rfl) (h2 : starEach [b, c] X.env = (false, eval b X.env) :: starEach [c] X.env := by rfl) (h3 : starEach [c] X.env = (false, eval c X.env) :: starEach [] X.env := by rfl) :
    PA X [a, b, c] (tCons ta (tCons tb (tCons tc tNil))) := pa_cons ha (pa_cons hb (pa_cons hc pa_nil h3) h2) h1
def sPar2 (i j : Nat) (f g : Sl → Out Rv) : Sl → SO := fun ε => (f ε).so fun r ε1 => (g ε1).so fun q ε2 => if i < ε2.length ∧ j < ε2.length then .nx (q.put (r.put ε2 i) j) else .stuck
theorem ds_par2 (i j : Nat) {x y : Str} {px py pt pt2 : Pos} {kt k2} {f g : Sl → Out Rv} (hc : X.calm = true) (hN : X.N.Nodup) (ha : DR X S R a f) (hb : DR X S R b g) (hi : X.N[i]? = some x := by rfl) (hj : X.N[j]? = some y := by rfl) (hij : i ≠ j := by decide)
    (hx : X.env.scope.names.lookup x = some .local := by rfl) (hy : X.env.scope.names.lookup y = some .local := by rfl)
    (hw : swappedStores [.Tuple [.Name x px, .Name y py] kt pt] (.Tuple [a, b] k2 pt2) X.env = pure (some [x, y]) := by rfl)
    (hs : swapsWithSole [.Tuple [.Name x px, .Name y py] kt pt] (.Tuple [a, b] k2 pt2) pos.line X.env = pure false := by rfl)
    (h1 : starEach [a, b] X.env = (false, eval a X.env) :: starEach [b] X.env := by rfl) (h2 : starEach [b] X.env = (false, eval b X.env) :: starEach [] X.env := by rfl) : DS X S R (.Assign [.Tuple [.Name x px, .Name y py] kt pt] (.Tuple [a, b] k2 pt2) pos) (sPar2 i j f g) := by
  obtain ⟨t, p, q⟩ := ha
  obtain ⟨t2, p2, q2⟩ := hb
  refine ⟨_, ps_par hc hN hi hj hij hx hy (pa2 p p2 h1 h2) hw hs, fun T P A σ H ε D r w => q T P A σ H ε _ r (w.so.imp fun r1 ε1 w v P1 H1 rel1 s1 k1 => ?_)⟩
  obtain ⟨T1, rt1, hm1, hb1⟩ := k1.hold rel1
  refine q2 (T1 ++ T) P1 A σ H1 ε1 _ rt1 (WishS.so w |>.imp fun r2 ε2 w u P2 H2 rel2 s2 k2 => ?_)
  split at w
  · rename_i hl
    have ap : Apart v u r1 r2 := RvOk.apart hm1 k2
    obtain ⟨k1', rel3⟩ := hb1 (T2 := []) rel2 s2
    have k2' : RvOk X.K S T P2 A H2 ε2 u r2 := by
      cases r2 with
      | dat d => exact k2
      | lst ds =>
        obtain ⟨a, vs, e, y1, y2, y3, y4, y5, y6⟩ := k2
        exact ⟨a, vs, e, y1, y2, y3, y4, y5, fun p hp => y6 p (List.mem_append_right _ hp)⟩
    obtain ⟨A', r3⟩ := put2 rel3 hl.1 hl.2 k1' k2' ap
    exact ⟨v, u, rfl, w P2 A' _ H2 r3 (s1.trans s2)⟩
  · exact w.elim
/-! ### a, b, c = x, y, z -/
def sPar3 (i j l : Nat) (f g h : Sl → Out Rv) : Sl → SO := fun ε => (f ε).so fun r ε1 => (g ε1).so fun q ε2 => (h ε2).so fun z ε3 => if i < ε3.length ∧ j < ε3.length ∧ l < ε3.length then .nx (z.put (q.put (r.put ε3 i) j) l) else .stuck
theorem ds_par3 (i j l : Nat) {x y z : Str} {px py pz pt pt2 : Pos} {kt k2} {f g h : Sl → Out Rv} (hc : X.calm = true) (hN : X.N.Nodup) (ha : DR X S R a f) (hb : DR X S R b g) (hcc : DR X S R c h) (hi : X.N[i]? = some x := by rfl) (hj : X.N[j]? = some y := by rfl) (hl : X.N[l]? = some z := by rfl) (hij : i ≠ j := by decide) (hil : i ≠ l := by decide) (hjl : j ≠ l := by decide)
    (hx : X.env.scope.names.lookup x = some .local := by rfl) (hy : X.env.scope.names.lookup y = some .local := by rfl) (hz : X.env.scope.names.lookup z = some .local := by rfl)
    (hw : swappedStores [.Tuple [.Name x px, .Name y py, .Name z pz] kt pt] (.Tuple [a, b, c] k2 pt2) X.env = pure (some [x, y, z]) := by rfl)
    (hs : swapsWithSole [.Tuple [.Name x px, .Name y py, .Name z pz] kt pt] (.Tuple [a, b, c] k2 pt2) pos.line X.env = pure false := by rfl)
    (h1 : starEach [a, b, c] X.env = (false, eval a X.env) :: starEach [b, c] X.env := by rfl) (h2 : starEach [b, c] X.env = (false, eval b X.env) :: starEach [c] X.env := by rfl) (h3 : starEach [c] X.env = (false, eval c X.env) :: starEach [] X.env := by rfl) :
    DS X S R (.Assign [.Tuple [.Name x px, .Name y py, .Name z pz] kt pt] (.Tuple [a, b, c] k2 pt2) pos) (sPar3 i j l f g h) := by
  obtain ⟨t, p, q⟩ := ha
  obtain ⟨t2, p2, q2⟩ := hb
  obtain ⟨t3, p3, q3⟩ := hcc
  refine ⟨_, ps_par3 hc hN hi hj hl hij hil hjl hx hy hz (pa3 p p2 p3 h1 h2 h3) hw hs, fun T P A σ H ε D r w => q T P A σ H ε _ r (w.so.imp fun r1 ε1 w v P1 H1 rel1 s1 k1 => ?_)⟩
  obtain ⟨T1, rt1, hm1, hb1⟩ := k1.hold rel1
  refine q2 (T1 ++ T) P1 A σ H1 ε1 _ rt1 (WishS.so w |>.imp fun r2 ε2 w u P2 H2 rel2 s2 k2 => ?_)
  have ap : Apart v u r1 r2 := RvOk.apart hm1 k2
  obtain ⟨T2, rt2, hm2, hb2⟩ := k2.hold rel2
  refine q3 (T2 ++ (T1 ++ T)) P2 A σ H2 ε2 _ rt2 (WishS.so w |>.imp fun r3 ε3 w n P3 H3 rel3 s3 k3 => ?_)
  split at w
  · rename_i hn
    have ap3 : Apart u n r2 r3 := RvOk.apart hm2 k3
    have ap2 : Apart v n r1 r3 := RvOk.apart (fun ds e => by
      obtain ⟨a, vs, e1, e2⟩ := hm1 ds e
      exact ⟨a, vs, e1, List.mem_append_right _ e2⟩) k3
    obtain ⟨k2', rel4⟩ := hb2 (T2 := []) rel3 s3
    obtain ⟨k1', rel5⟩ := hb1 (T2 := []) rel4 (s2.trans s3)
    have k2'' : RvOk X.K S T P3 A H3 ε3 u r2 := by
      cases r2 with
      | dat d => exact k2'
      | lst ds =>
        obtain ⟨a, vs, e, y1, y2, y3, y4, y5, y6⟩ := k2'
        exact ⟨a, vs, e, y1, y2, y3, y4, y5, fun p hp => y6 p (List.mem_append_right _ hp)⟩
    have k3' : RvOk X.K S T P3 A H3 ε3 n r3 := by
      cases r3 with
      | dat d => exact k3
      | lst ds =>
        obtain ⟨a, vs, e, y1, y2, y3, y4, y5, y6⟩ := k3
        exact ⟨a, vs, e, y1, y2, y3, y4, y5, fun p hp => y6 p (List.mem_append_right _ (List.mem_append_right _ hp))⟩
    obtain ⟨A', r6⟩ := put3 rel5 hn.1 hn.2.1 hn.2.2 k1' k2'' k3' ap ap2 ap3
    exact ⟨v, u, n, rfl, w P3 A' _ H3 r6 ((s1.trans s2).trans s3)⟩
  · exact w.elim

/-! ### what is walked -/
def Wk (K : PySem.W.Frag) (J : It) (ds : List PyData) (Good : Hp → Hp → Prop) : Prop :=
  (∀ i P H, i < ds.length → Good P H → J.go i H) ∧ (∀ P H, Good P H → J.stop ds.length H) ∧ ∀ i P H x H', i < ds.length → Good P H → J.yld i H x H' → ∃ P' d, Gro P H P' H' ∧ ds[i]? = some d ∧ Rp K P' x d
/-- what a for or a comprehension walks, known for good -/
def DI (X : Cx) (S : Sta) (R : Exc → Sl → Prop) (tg iter : Expr) (f : Sl → Out (List PyData)) : Prop :=
  ∃ wi : TI, PI X tg iter wi ∧ ∀ T P A σ H ε (Q : It → Hp → Prop), Rel X.K S T P A σ H ε →
    Wish R (f ε) (fun ds ε' => ∀ P' H' J Good, Rel X.K S T P' A σ H' ε' → Same P P' → Wk X.K J ds Good → (∀ P2 H2, Same P' P2 → Same P2 H2 → Good P2 H2) → Q J H') → wi σ H Q
/-- the i-th items are there -/
theorem wk_list {K : PySem.W.Frag} {P : Hp} {a : Addr} {xs : List V} {ds : List PyData} (h : SqL K P a xs) (ra : RpAll K P xs ds) : Wk K (Itl K a) ds (fun P2 H2 => Same P P2 ∧ Same P2 H2) := by
  have q : ∀ {P2 H2 : Hp}, Same P P2 ∧ Same P2 H2 → SqL K H2 a xs := fun g => g.2.sql (g.1.sql h)
  have hl := ra.length
  refine ⟨fun i P2 H2 hi g => ⟨xs, xs[i]'(by omega), q g, by simp [show i < xs.length by omega]⟩, fun P2 H2 g => ⟨xs, q g, by omega⟩, fun i P2 H2 x H3 hi g y => ?_⟩
  obtain ⟨rfl, y⟩ := y
  obtain ⟨d, hd, rp⟩ := ra.getV (y xs (q g))
  exact ⟨P2, d, Gro.refl g.2, hd, rp.mono g.1⟩
theorem wk_tup {K : PySem.W.Frag} {P : Hp} {a : Addr} {xs : List V} {ds : List PyData} (h : SqT K P a xs) (ra : RpAll K P xs ds) : Wk K (Itt K a) ds (fun P2 H2 => Same P P2 ∧ Same P2 H2) := by
  have q : ∀ {P2 H2 : Hp}, Same P P2 ∧ Same P2 H2 → SqT K H2 a xs := fun g => g.2.sqt (g.1.sqt h)
  have hl := ra.length
  refine ⟨fun i P2 H2 hi g => ⟨xs, xs[i]'(by omega), q g, by simp [show i < xs.length by omega]⟩, fun P2 H2 g => ⟨xs, q g, by omega⟩, fun i P2 H2 x H3 hi g y => ?_⟩
  obtain ⟨rfl, y⟩ := y
  obtain ⟨d, hd, rp⟩ := ra.getV (y xs (q g))
  exact ⟨P2, d, Gro.refl g.2, hd, rp.mono g.1⟩
def signs (z : Str) : List PyData := z.cps.toList.map fun c => .str ⟨#[c]⟩
theorem wk_str {K : PySem.W.Frag} {z : Str} : Wk K (Its z) (signs z) (fun P2 H2 => Same P2 H2) := by
  have hl : (signs z).length = z.cps.size := by simp [signs]
  refine ⟨fun i P H hi _ => by rw [hl] at hi; exact hi, fun P H _ => by rw [hl]; exact Nat.le_refl _, fun i P H x H3 hi g y => ?_⟩
  obtain ⟨rfl, c, hc, rfl⟩ := y
  refine ⟨P, .str ⟨#[c]⟩, Gro.refl g, ?_, .str _⟩
  unfold signs
  rw [List.getElem?_map, Array.getElem?_toList, hc]
  rfl
def rangeD (lo : Int) (n : Nat) : List PyData := (List.range n).map fun (k : Nat) => .int (lo + (k : Int))
theorem wk_range {K : PySem.W.Frag} {lo : Int} {n : Nat} : Wk K (Itr lo n) (rangeD lo n) (fun P2 H2 => Same P2 H2) := by
  have hl : (rangeD lo n).length = n := by simp [rangeD]
  refine ⟨fun i P H hi _ => by rw [hl] at hi; exact hi, fun P H _ => by rw [hl]; exact Nat.le_refl _, fun i P H x H3 hi g y => ?_⟩
  obtain ⟨rfl, rfl⟩ := y
  refine ⟨P, .int (lo + i), Gro.refl g, ?_, .int _⟩
  unfold rangeD
  rw [hl] at hi
  rw [List.getElem?_map, List.getElem?_range hi]
  rfl
/-- a list, a tuple, a text -/
def itemsD : PyData → Option (List PyData)
  | .list xs => some xs
  | .tuple xs => some xs
  | .str z => some (signs z)
  | _ => none
def iAny (K : PySem.W.Frag) (tl : TE) : TI := fun σ H Q => tl σ H fun x H1 => (∃ a, x = .ref a ∧ (∃ xs, SqL K H1 a xs) ∧ Q (Itl K a) H1) ∨ (∃ a, x = .ref a ∧ (∃ xs, SqT K H1 a xs) ∧ Q (Itt K a) H1) ∨ ∃ z, x = .str z ∧ Q (Its z) H1
theorem pi_any {tg l : Expr} {tl : TE} (hl : PE X l tl) : PI X tg l (iAny X.K tl) := by
  refine ⟨fun pins s σ H Q I h => ?_⟩
  refine thn (hl.run pins s σ H _ I h) fun v s1 ⟨x, H1, I1, r1, q1⟩ => ?_
  rcases q1 with ⟨a, e, ⟨xs, hq⟩, q⟩ | ⟨a, e, ⟨xs, hq⟩, q⟩ | ⟨z, e, q⟩
  · subst e
    cases r1
    obtain ⟨its, rv, p, hz⟩ := I1.list hq
    refine wpAny_pyIter_list p.isList ?_
    refine ⟨s1.heap.objs.size, [s1.heap.objs.size], _, _, H1, rfl, I1.kept (t' := s1.toks) fun b o e => Heap.get?_push_of_some _ e, turn_list a _, ⟨_, Heap.get?_push_size _ rfl, rfl, rfl⟩, fun b hb => ?_, q⟩
    have e : b = s1.heap.objs.size := by simpa using hb
    subst e
    exact I1.fpOk (Nat.le_refl _) (I1.hok.fresh (Nat.le_refl _))
  · subst e
    cases r1
    obtain ⟨its, rv, p, hz⟩ := I1.tuple hq
    refine wpAny_pyIter_tuple (show s1.heap.IsTuple a its.toArray from p) ?_
    refine ⟨s1.heap.objs.size, [s1.heap.objs.size], _, _, H1, rfl, I1.kept (t' := s1.toks) fun b o e => Heap.get?_push_of_some _ e, turn_tuple a _, ⟨_, Heap.get?_push_size _ rfl, rfl, rfl⟩, fun b hb => ?_, q⟩
    have e : b = s1.heap.objs.size := by simpa using hb
    subst e
    exact I1.fpOk (Nat.le_refl _) (I1.hok.fresh (Nat.le_refl _))
  · subst e
    obtain ⟨t, rfl⟩ := r1
    cases ha : z.cps.all (· < 128)
    · exact wpAny_pyIter_wide ha (pi_one (tk := s1.toks) I1 _ (turn_str _ z t "str_iterator" (.inr rfl)) ⟨_, Heap.get?_push_size _ rfl, rfl, rfl⟩ q)
    · exact wpAny_pyIter_ascii ha (pi_one (tk := s1.toks) I1 _ (turn_str _ z t "str_ascii_iterator" (.inl rfl)) ⟨_, Heap.get?_push_size _ rfl, rfl, rfl⟩ q)
def wItems (f : Sl → Out PyData) : Sl → Out (List PyData) := fun ε => (f ε).bind fun d ε' => match itemsD d with
  | some ds => .ok ds ε'
  | none => .stuck
theorem di_any {tg l : Expr} {f : Sl → Out PyData} (h : DP X S R l f) : DI X S R tg l (wItems f) := by
  obtain ⟨t, p, q⟩ := h
  refine ⟨_, pi_any p, fun T P A σ H ε Q r w => q T P A σ H ε _ r (w.bind.imp fun d ε' w v P' H' r' s' k => ?_)⟩
  split at w
  · rename_i ds hd
    unfold itemsD at hd
    split at hd
    · cases hd
      cases k with
      | lst h1 h2 => exact .inl ⟨_, rfl, ⟨_, r'.sub.sql h1⟩, w P' H' _ _ r' s' (wk_list h1 h2) fun P2 H2 s1 s2 => ⟨s1, s2⟩⟩
    · cases hd
      cases k with
      | tup h1 h2 => exact .inr (.inl ⟨_, rfl, ⟨_, r'.sub.sqt h1⟩, w P' H' _ _ r' s' (wk_tup h1 h2) fun P2 H2 s1 s2 => ⟨s1, s2⟩⟩)
    · cases hd
      cases k
      exact .inr (.inr ⟨_, rfl, w P' H' _ _ r' s' wk_str fun P2 H2 s1 s2 => s2⟩)
    · cases hd
  · exact w.elim
def wRange1 (f : Sl → Out PyData) : Sl → Out (List PyData) := fun ε => (f ε).bind fun d ε' => match d with
  | .int n => if -(2 ^ 62) ≤ n ∧ n < 2 ^ 62 then .ok (rangeD 0 n.toNat) ε' else .stuck
  | _ => .stuck
theorem di_range1 {tg : Expr} {f : Sl → Out PyData} {p : Pos} (h : DP X S R a f) (hg : Gl X "range") (hm : X.mg "range" = none) (hs : starEach [a] X.env = (false, eval a X.env) :: starEach [] X.env := by rfl) : DI X S R tg (.Call (.Name "range" p) [a] [] pos) (wRange1 f) := by
  obtain ⟨t, pp, q⟩ := h
  refine ⟨_, pi_range1 hg hm (pa_cons pp pa_nil hs) hs, fun T P A σ H ε Q r w => q T P A σ H ε _ r (w.bind.imp fun d ε' w v P' H' r' s' k => ?_)⟩
  cases d with
  | int n =>
    cases k
    have w : Wish R (if -(2 ^ 62) ≤ n ∧ n < 2 ^ 62 then Out.ok (rangeD 0 n.toNat) ε' else .stuck) _ := w
    split at w
    · rename_i hn
      exact ⟨n, rfl, hn.1, hn.2, w P' H' _ _ r' s' wk_range fun P2 H2 s1 s2 => s2⟩
    · exact w.elim
  | _ => exact w.elim
def wRange2 (f g : Sl → Out PyData) : Sl → Out (List PyData) := fun ε => (f ε).bind fun d ε1 => (g ε1).bind fun d2 ε' => match d with
  | .int lo => match d2 with
    | .int hi => if (-(2 ^ 62) ≤ lo ∧ lo < 2 ^ 62) ∧ -(2 ^ 62) ≤ hi ∧ hi < 2 ^ 62 then .ok (rangeD lo (hi - lo).toNat) ε' else .stuck
    | _ => .stuck
  | _ => .stuck
theorem di_range2 {tg : Expr} {f g : Sl → Out PyData} {p : Pos} (h : DP X S R a f) (h2 : DP X S R b g) (hg : Gl X "range") (hm : X.mg "range" = none) (hs : starEach [a, b] X.env = (false, eval a X.env) :: starEach [b] X.env := by rfl) (hs2 : starEach [b] X.env = (false, eval b X.env) :: starEach [] X.env := by rfl) :
    DI X S R tg (.Call (.Name "range" p) [a, b] [] pos) (wRange2 f g) := by
  obtain ⟨t, pp, q⟩ := h
  obtain ⟨t2, pp2, q2⟩ := h2
  refine ⟨_, pi_range2 hg hm (pa_cons pp (pa_cons pp2 pa_nil hs2) hs) (by rw [hs, hs2]; rfl) hs2, fun T P A σ H ε Q r w => q T P A σ H ε _ r (w.bind.imp fun d ε1 w v P1 H1 r1 s1 k => ?_)⟩
  refine q2 T P1 A σ H1 ε1 _ r1 (w.bind.imp fun d2 ε' w v2 P' H' r' s' k2 => ?_)
  cases d with
  | int lo =>
    cases d2 with
    | int hi =>
      cases k
      cases k2
      have w : Wish R (if (-(2 ^ 62) ≤ lo ∧ lo < 2 ^ 62) ∧ -(2 ^ 62) ≤ hi ∧ hi < 2 ^ 62 then Out.ok (rangeD lo (hi - lo).toNat) ε' else .stuck) _ := w
      split at w
      · rename_i hn
        exact ⟨lo, hi, rfl, ⟨hn.1.1, hn.1.2, hn.2.1, hn.2.2⟩, w P' H' _ _ r' (s1.trans s') wk_range fun P2 H2 s1 s2 => s2⟩
      · exact w.elim
    | _ => exact w.elim
  | _ => exact w.elim

/-! ### for -/
def forL (g : PyData → Sl → Option Sl) (F : Sl → SO) : List PyData → Sl → SO
  | [], ε => .nx ε
  | d :: r, ε => match g d ε with
    | none => .stuck
    | some ε1 => match F ε1 with
      | .nx ε2 => forL g F r ε2
      | .ct ε2 => forL g F r ε2
      | .bk ε2 => .nx ε2
      | .rt v ε2 => .rt v ε2
      | .exc x ε2 => .exc x ε2
      | .stuck => .stuck
def sFor (it : Sl → Out (List PyData)) (g : PyData → Sl → Option Sl) (F : Sl → SO) : Sl → SO := fun ε => (it ε).so fun ds ε' => forL g F ds ε'
theorem drop_cons {α : Type} {l : List α} {i : Nat} {d : α} (h : l[i]? = some d) : l.drop i = d :: l.drop (i + 1) := by
  obtain ⟨hi, e⟩ := List.getElem?_eq_some_iff.mp h
  rw [List.drop_eq_getElem_cons hi, e]
theorem ds_for {tg iter : Expr} {body : List Stmt} {it : Sl → Out (List PyData)} {g : PyData → Sl → Option Sl} {F : Sl → SO} (hp : PassesOwn (model X.prog X.w) X.A X.env X.xe) (hc : X.calm = true) (hi : DI X S R tg iter it) {ts : List Nat} (hg : DG X S ts tg g) (hb : DSs X S R body F)
    (hs : ∀ x, foldedSetIterable iter X.env x = pure x := by intro _; rfl) : DS X S R (.For tg iter body [] pos) (sFor it g F) := by
  obtain ⟨wi, pi, qi⟩ := hi
  obtain ⟨tg', pg, qg⟩ := hg
  obtain ⟨tb, pb, qb⟩ := hb
  refine ⟨_, ps_for hp hc pi pg pb hs, fun T P A σ H ε D r w => qi T P A σ H ε _ r (w.so.imp fun ds ε' w P' H' J Good r' s' wk good => ?_)⟩
  refine ⟨fun i m σ H => m = ds.length - i ∧ i ≤ ds.length ∧ ∃ P2 A2 ε2, Rel X.K S T P2 A2 σ H ε2 ∧ Same P' P2 ∧ WishS X S R T P2 D (forL g F (ds.drop i) ε2), ⟨_, by rfl, Nat.zero_le _, P', A, ε', r', Same.refl _, w.grow s'⟩, ?_⟩
  rintro i m σ1 H1 ⟨rfl, hi, P2, A2, ε2, r2, s2, w2⟩
  have gd := good P2 H1 s2 r2.sub
  by_cases hlt : i < ds.length
  · refine .inr ⟨wk.1 i P2 H1 hlt gd, fun σ3 H3 => ∃ P3 A3 ε3, Rel X.K S T P3 A3 σ3 H3 ε3 ∧ Same P' P3 ∧ WishS X S R T P3 D (forL g F (ds.drop (i + 1)) ε3), fun σ3 H3 h3 => ⟨ds.length - (i + 1), by omega, rfl, hlt, h3⟩, fun x H3 y => ?_⟩
    obtain ⟨P3, d, gr, hd, rp⟩ := wk.2.2 i P2 H1 x H3 hlt gd y
    rw [drop_cons hd] at w2
    have r3 := r2.grow gr
    unfold forL at w2
    cases hgd : g d ε2 with
    | none => rw [hgd] at w2; exact w2.elim
    | some ε3 =>
      rw [hgd] at w2
      refine qg T P3 A2 σ1 H3 ε2 x d ε3 _ r3 rp hgd fun σ4 r4 _ => qb T P3 A2 σ4 H3 ε3 _ r4 ?_
      have s3 := s2.trans gr.p
      have w3 := w2.grow gr.p
      dsimp only at w3
      cases hF : F ε3 with
      | nx ε4 => rw [hF] at w3; exact fun P5 A5 σ5 H5 r5 s5 => ⟨P5, A5, ε4, r5, s3.trans s5, WishS.grow w3 s5⟩
      | ct ε4 => rw [hF] at w3; exact fun P5 A5 σ5 H5 r5 s5 => ⟨P5, A5, ε4, r5, s3.trans s5, WishS.grow w3 s5⟩
      | bk ε4 => rw [hF] at w3; exact w3
      | rt v ε4 => rw [hF] at w3; exact w3
      | exc x' ε4 => rw [hF] at w3; exact w3
      | stuck => rw [hF] at w3; exact w3
  · have e : i = ds.length := by omega
    subst e
    rw [List.drop_length] at w2
    exact .inl ⟨wk.2.1 P2 H1 gd, w2 P2 A2 σ1 H1 r2 (Same.refl _)⟩

/-! ### while -/
def whN (k : Sl → Out Bool) (F : Sl → SO) : Nat → Sl → SO
  | 0, _ => .stuck
  | n + 1, ε => (k ε).so fun b ε1 => match b with
    | false => .nx ε1
    | true => match F ε1 with
      | .nx ε2 => whN k F n ε2
      | .ct ε2 => whN k F n ε2
      | .bk ε2 => .nx ε2
      | .rt v ε2 => .rt v ε2
      | .exc x ε2 => .exc x ε2
      | .stuck => .stuck
open Classical in
noncomputable def sWhile (k : Sl → Out Bool) (F : Sl → SO) : Sl → SO := fun ε => if h : ∃ n, whN k F n ε ≠ .stuck then whN k F h.choose ε else .stuck
theorem ds_whN {test : Expr} {body : List Stmt} {k : Sl → Out Bool} {F : Sl → SO} (hp : PassesOwn (model X.prog X.w) X.A X.env X.xe) (hc : DT X S R test k) (hb : DSs X S R body F) : ∃ t : TS, PS X (.While test body [] pos) t ∧ ∀ n T P A σ H ε D, Rel X.K S T P A σ H ε → WishS X S R T P D (whN k F n ε) → t D σ H := by
  obtain ⟨tc, pc, qc⟩ := hc
  obtain ⟨tb, pb, qb⟩ := hb
  refine ⟨_, ps_while hp pc pb, fun n T P A σ H ε D r w => ?_⟩
  refine ⟨fun m σ H => ∃ P2 A2 ε2, Rel X.K S T P2 A2 σ H ε2 ∧ WishS X S R T P2 D (whN k F m ε2), ⟨n, P, A, ε, r, w⟩, ?_⟩
  rintro m σ1 H1 ⟨P2, A2, ε2, r2, w2⟩
  cases m with
  | zero => exact w2.elim
  | succ m =>
    refine qc T P2 A2 σ1 H1 ε2 _ r2 (WishS.so w2 |>.imp fun b ε3 w3 P3 H3 r3 s3 => ?_)
    cases b with
    | false => exact w3 P3 A2 σ1 H3 r3 s3
    | true =>
      refine ⟨fun σ' H' => ∃ P4 A4 ε4, Rel X.K S T P4 A4 σ' H' ε4 ∧ WishS X S R T P4 D (whN k F m ε4), fun σ' H' h' => ⟨m, Nat.lt_succ_self m, h'⟩, qb T P3 A2 σ1 H3 ε3 _ r3 ?_⟩
      have w4 := WishS.grow w3 s3
      dsimp only at w4
      cases hF : F ε3 with
      | nx ε4 => rw [hF] at w4; exact fun P5 A5 σ5 H5 r5 s5 => ⟨P5, A5, ε4, r5, WishS.grow w4 s5⟩
      | ct ε4 => rw [hF] at w4; exact fun P5 A5 σ5 H5 r5 s5 => ⟨P5, A5, ε4, r5, WishS.grow w4 s5⟩
      | bk ε4 => rw [hF] at w4; exact w4
      | rt v ε4 => rw [hF] at w4; exact w4
      | exc x' ε4 => rw [hF] at w4; exact w4
      | stuck => rw [hF] at w4; exact w4
theorem ds_while {test : Expr} {body : List Stmt} {k : Sl → Out Bool} {F : Sl → SO} (hp : PassesOwn (model X.prog X.w) X.A X.env X.xe) (hc : DT X S R test k) (hb : DSs X S R body F) : DS X S R (.While test body [] pos) (sWhile k F) := by
  obtain ⟨t, p, q⟩ := ds_whN hp hc hb (pos := pos)
  refine ⟨t, p, fun T P A σ H ε D r w => ?_⟩
  unfold sWhile at w
  split at w
  · exact q _ T P A σ H ε D r w
  · exact w.elim
theorem whN_mono {k : Sl → Out Bool} {F : Sl → SO} : ∀ {n m : Nat} {ε : Sl}, n ≤ m → whN k F n ε ≠ .stuck → whN k F m ε = whN k F n ε
  | 0, _, _, _, h => absurd rfl h
  | n + 1, 0, _, hl, _ => absurd hl (by omega)
  | n + 1, m + 1, ε, hl, h => by
    unfold whN at h ⊢
    cases hk : k ε with
    | ok b ε1 =>
      rw [hk] at h
      simp only [Out.so_ok] at h ⊢
      cases b with
      | false => rfl
      | true =>
        simp only at h ⊢
        cases hF : F ε1 with
        | nx ε2 => rw [hF] at h; exact whN_mono (by omega) h
        | ct ε2 => rw [hF] at h; exact whN_mono (by omega) h
        | bk ε2 => rfl
        | rt v ε2 => rfl
        | exc x ε2 => rfl
        | stuck => rfl
    | exc x ε1 => rfl
    | stuck => rfl
theorem sWhile_of {k : Sl → Out Bool} {F : Sl → SO} {n : Nat} {ε : Sl} {o : SO} (h : whN k F n ε = o) (ho : o ≠ .stuck) : sWhile k F ε = o := by
  unfold sWhile
  have hx : ∃ n, whN k F n ε ≠ .stuck := ⟨n, by rw [h]; exact ho⟩
  rw [dif_pos hx, ← h]
  rcases Nat.le_total n hx.choose with z | z
  · exact whN_mono z (by rw [h]; exact ho)
  · exact (whN_mono z hx.choose_spec).symm
end
end DL
/-! DLj: list comprehensions -/
namespace DL
open PySem PySem.Spec PyProof.Rows L2

/-! ### the judgements by one reading each -/
section
variable {X : Cx} {S : Sta} {R : Exc → Sl → Prop} {e : Expr}
def tP (K : PySem.W.Frag) (S : Sta) (R : Exc → Sl → Prop) (f : Sl → Out PyData) : TE := fun σ H Q => ∃ T P A ε, Rel K S T P A σ H ε ∧ Wish R (f ε) (fun d ε' => ∀ v P' H', Rel K S T P' A σ H' ε' → Same P P' → Rp K P' v d → Q v H')
theorem DP.pe {f : Sl → Out PyData} (h : DP X S R e f) : PE X e (tP X.K S R f) := by
  obtain ⟨t, p, q⟩ := h
  exact ⟨fun pins s σ H Q I ⟨T, P, A, ε, r, w⟩ => p.run pins s σ H Q I (q T P A σ H ε Q r w)⟩
def tB' (K : PySem.W.Frag) (S : Sta) (R : Exc → Sl → Prop) (f : Sl → Out Bool) : TT := fun σ H Q => ∃ T P A ε, Rel K S T P A σ H ε ∧ Wish R (f ε) (fun b ε' => ∀ P' H', Rel K S T P' A σ H' ε' → Same P P' → Q b H')
theorem DT.pt {f : Sl → Out Bool} (h : DT X S R e f) : PT X e (tB' X.K S R f) := by
  obtain ⟨t, p, q⟩ := h
  exact ⟨fun pins s σ H Q I ⟨T, P, A, ε, r, w⟩ => p.run pins s σ H Q I (q T P A σ H ε Q r w)⟩
def tG (K : PySem.W.Frag) (S : Sta) (ts : List Nat) (f : PyData → Sl → Option Sl) : TG := fun v σ H Q => ∃ T P A ε d ε', Rel K S T P A σ H ε ∧ Rp K P v d ∧ f d ε = some ε' ∧ ∀ σ', Rel K S T P A σ' H ε' → OnlyAt ts σ σ' → Q σ' H
theorem DG.pg {ts : List Nat} {f : PyData → Sl → Option Sl} (h : DG X S ts e f) : PG X e (tG X.K S ts f) := by
  obtain ⟨t, p, q⟩ := h
  exact ⟨fun pins s σ H v u Q I r ⟨T, P, A, ε, d, ε', rel, rp, hf, k⟩ => p.run pins s σ H v u Q I r (q T P A σ H ε v d ε' Q rel rp hf k)⟩
end
/-- a comprehension's tests -/
def DTs (X : Cx) (S : Sta) (R : Exc → Sl → Prop) (es : List Expr) (f : Sl → Out Bool) : Prop := PTs X es (tB' X.K S R f)
def jYes : Sl → Out Bool := fun ε => .ok true ε
theorem dts_nil {X : Cx} {S : Sta} {R : Exc → Sl → Prop} : DTs X S R [] jYes :=
  ⟨fun pins s σ H Q I ⟨T, P, A, ε, r, w⟩ => pts_nil.run pins s σ H Q I (w P H r (Same.refl _))⟩
theorem dts_one {X : Cx} {S : Sta} {R : Exc → Sl → Prop} {e : Expr} {f : Sl → Out Bool} (h : DT X S R e f) : DTs X S R [e] f := pts_one h.pt

/-! ### the block's own names -/
def wipeE (ε : Sl) : List Nat → Sl
  | [] => ε
  | v :: vs => (wipeE ε vs).set v .un
def restE (ε₀ ε : Sl) : List Nat → Sl
  | [] => ε
  | v :: vs => (restE ε₀ ε vs).set v (match ε₀[v]? with
    | some (.dat d) => .dat d
    | _ => .un)
section
variable {K : PySem.W.Frag} {S : Sta} {T : Tmp} {P : Hp} {A : Nat → Addr} {σ : L2.St} {H : Hp} {ε : Sl}
/-- a slot forgotten, whatever it holds -/
theorem Rel.unset (r : Rel K S T P A σ H ε) (i : Nat) (x : Option V) : Rel K S T P A (σ.set i x) H (ε.set i .un) := by
  refine ⟨by rw [List.length_set, List.length_set]; exact r.len, r.sub, r.pt, r.old, r.new, r.fr, r.tr, r.io, fun j u q => ?_, fun j k u w hjk q1 q2 b1 b2 => ?_, fun p hp => ?_, r.tnd⟩
  · rcases getElem?_set_or q with ⟨rfl, rfl⟩ | ⟨ne, q⟩
    · trivial
    · have z := r.ent j u q
      cases u with
      | un => trivial
      | dat d =>
        obtain ⟨v, z1, z2⟩ := z
        exact ⟨v, by rw [List.getElem?_set_ne ne]; exact z1, z2⟩
      | own es =>
        obtain ⟨z1, z2⟩ := z
        exact ⟨by rw [List.getElem?_set_ne ne]; exact z1, z2⟩
      | io es =>
        obtain ⟨z1, z2⟩ := z
        exact ⟨by rw [List.getElem?_set_ne ne]; exact z1, z2⟩
  · rcases getElem?_set_or q1 with ⟨rfl, rfl⟩ | ⟨_, q1⟩
    · cases b1
    · rcases getElem?_set_or q2 with ⟨rfl, rfl⟩ | ⟨_, q2⟩
      · cases b2
      · exact r.sep j k u w hjk q1 q2 b1 b2
  · obtain ⟨t1, t2, t3, t4⟩ := r.tmp p hp
    refine ⟨t1, t2, t3, fun j u q b => ?_⟩
    rcases getElem?_set_or q with ⟨rfl, rfl⟩ | ⟨_, q⟩
    · cases b
    · exact t4 j u q b
theorem Rel.wipe (r : Rel K S T P A σ H ε) : ∀ vs : List Nat, Rel K S T P A (L2.wipe σ vs) H (wipeE ε vs)
  | [] => r
  | v :: vs => (Rel.wipe r vs).unset v none
theorem wipe_at {σ : L2.St} {i : Nat} : ∀ {vs : List Nat}, i ∉ vs → (L2.wipe σ vs)[i]? = σ[i]?
  | [], _ => rfl
  | v :: vs, h => by
    unfold L2.wipe
    rw [List.getElem?_set_ne (fun z => h (by rw [z]; exact List.mem_cons_self))]
    exact wipe_at fun z => h (List.mem_cons_of_mem _ z)
theorem wipe_in {σ : L2.St} {i : Nat} : ∀ {vs : List Nat}, i ∈ vs → i < σ.length → (L2.wipe σ vs)[i]? = some none
  | [], h, _ => nomatch h
  | v :: vs, h, hl => by
    unfold L2.wipe
    by_cases e : v = i
    · subst e
      exact List.getElem?_set_self (by rw [wipe_length]; exact hl)
    · rw [List.getElem?_set_ne e]
      rcases List.mem_cons.mp h with z | z
      · exact absurd z.symm e
      · exact wipe_in z hl
theorem wipe_only {σ σ' : L2.St} {ts vs : List Nat} (h : OnlyAt ts (L2.wipe σ vs) σ') (hs : ∀ i ∈ ts, i ∈ vs) : L2.wipe σ' vs = L2.wipe σ vs := by
  have hl : σ'.length = σ.length := by rw [h.1, wipe_length]
  apply List.ext_getElem?
  intro i
  by_cases hi : i ∈ vs
  · by_cases hlt : i < σ.length
    · rw [wipe_in hi (by omega), wipe_in hi hlt]
    · rw [List.getElem?_eq_none (by rw [wipe_length]; omega), List.getElem?_eq_none (by rw [wipe_length]; omega)]
  · rw [wipe_at hi, h.2 i fun z => hi (hs i z), wipe_at hi]
theorem restE_length {ε₀ ε : Sl} : ∀ {vs : List Nat}, (restE ε₀ ε vs).length = ε.length
  | [] => rfl
  | v :: vs => by
    unfold restE
    rw [List.length_set]
    exact restE_length
theorem restE_get {ε₀ ε : Sl} {i : Nat} {u : Ent} : ∀ {vs : List Nat}, (restE ε₀ ε vs)[i]? = some u → (i ∈ vs ∧ (u = .un ∨ ∃ d, u = .dat d ∧ ε₀[i]? = some (.dat d))) ∨ (i ∉ vs ∧ ε[i]? = some u)
  | [], h => .inr ⟨by simp, h⟩
  | v :: vs, h => by
    unfold restE at h
    rcases getElem?_set_or h with ⟨rfl, e⟩ | ⟨n, h⟩
    · refine .inl ⟨List.mem_cons_self, ?_⟩
      split at e
      · rename_i d hd
        exact .inr ⟨d, e.symm, hd⟩
      · exact .inl e.symm
    · rcases restE_get h with ⟨a, b⟩ | ⟨a, b⟩
      · exact .inl ⟨List.mem_cons_of_mem _ a, b⟩
      · exact .inr ⟨fun z => (List.mem_cons.mp z).elim (fun q => n q.symm) a, b⟩
/-- behind a block: the slots of its own names hold what they held -/
theorem Rel.restore {P₀ H₀ : Hp} {ε₀ : Sl} {T₀ : Tmp} {A₀ : Nat → Addr} (r₀ : Rel K S T₀ P₀ A₀ σ H₀ ε₀) (s : Same P₀ P) {vs : List Nat} (r : Rel K S T P A (L2.wipe σ vs) H ε) : Rel K S T P A σ H (restE ε₀ ε vs) := by
  refine ⟨by rw [restE_length, r.len, wipe_length], r.sub, r.pt, r.old, r.new, r.fr, r.tr, r.io, fun j u q => ?_, fun j k u w hjk q1 q2 b1 b2 => ?_, fun p hp => ?_, r.tnd⟩
  · rcases restE_get q with ⟨_, rfl | ⟨d, rfl, hd⟩⟩ | ⟨hj, q⟩
    · trivial
    · obtain ⟨v, h1, h2⟩ := r₀.ent j _ hd
      exact ⟨v, h1, h2.mono s⟩
    · have z := r.ent j u q
      cases u with
      | un => trivial
      | dat d =>
        obtain ⟨v, z1, z2⟩ := z
        exact ⟨v, by rw [← wipe_at hj]; exact z1, z2⟩
      | own es =>
        obtain ⟨z1, z2⟩ := z
        exact ⟨by rw [← wipe_at hj]; exact z1, z2⟩
      | io es =>
        obtain ⟨z1, z2⟩ := z
        exact ⟨by rw [← wipe_at hj]; exact z1, z2⟩
  · rcases restE_get q1 with ⟨_, rfl | ⟨d, rfl, _⟩⟩ | ⟨_, q1⟩
    · cases b1
    · cases b1
    · rcases restE_get q2 with ⟨_, rfl | ⟨d, rfl, _⟩⟩ | ⟨_, q2⟩
      · cases b2
      · cases b2
      · exact r.sep j k u w hjk q1 q2 b1 b2
  · obtain ⟨t1, t2, t3, t4⟩ := r.tmp p hp
    refine ⟨t1, t2, t3, fun j u q b => ?_⟩
    rcases restE_get q with ⟨_, rfl | ⟨d, rfl, _⟩⟩ | ⟨_, q⟩
    · cases b
    · cases b
    · exact t4 j u q b
/-- the newest held list is another one now -/
theorem Rel.tmpSet {D : Addr} {vs ws : TOb} (r : Rel K S ((D, vs) :: T) P A σ H ε) : Rel K S ((D, ws) :: T) P A σ (upd H D ws.ho) ε := by
  obtain ⟨h1, h2, h3, h4⟩ := r.tmp _ List.mem_cons_self
  have nd := r.tnd
  rw [List.map_cons, List.nodup_cons] at nd
  refine ⟨r.len, fun b o q => ?_, r.pt, r.old, r.new, fun b o q1 q2 q3 => ?_, fun b o q => ?_, r.io, fun j u q => ?_, r.sep, fun p hp => ?_, r.tnd⟩
  · have nb : b ≠ D := fun z => by
      have : P D = none := h2
      rw [z, this] at q
      cases q
    rw [upd_ne nb]
    exact r.sub _ _ q
  · have nb : b ≠ D := fun z => by
      have : S.H0 D = none := h3
      rw [z, this] at q1
      cases q1
    rw [upd_ne nb]
    exact r.fr _ _ q1 q2 q3
  · by_cases hb : b = D
    · subst hb
      exact ⟨_, upd_same⟩
    · rw [upd_ne hb]
      exact r.tr _ _ q
  · have z := r.ent j u q
    cases u with
    | un => trivial
    | dat d => exact z
    | own es =>
      obtain ⟨z1, z2, z3, ws', z4, z5⟩ := z
      exact ⟨z1, z2, z3, ws', by rw [upd_ne (h4 j _ q rfl)]; exact z4, z5⟩
    | io es =>
      obtain ⟨z1, z2, z3, ws', z4, z5⟩ := z
      exact ⟨z1, z2, z3, ws', by rw [upd_ne (h4 j _ q rfl)]; exact z4, z5⟩
  · rcases List.mem_cons.mp hp with rfl | hp
    · exact ⟨upd_same, h2, h3, h4⟩
    · obtain ⟨t1, t2, t3, t4⟩ := r.tmp p (List.mem_cons_of_mem _ hp)
      have np : p.1 ≠ D := fun z => nd.1 (List.mem_map.mpr ⟨p, hp, z⟩)
      exact ⟨by rw [upd_ne np]; exact t1, t2, t3, t4⟩
end

/-! ### [elt for tg in iter if ..] -/
def compL (vs : List Nat) (g : PyData → Sl → Option Sl) (c : Sl → Out Bool) (f : Sl → Out PyData) : List PyData → Sl → Out (List PyData)
  | [], ε => .ok [] ε
  | d :: r, ε => match g d (wipeE ε vs) with
    | none => .stuck
    | some ε1 => (c ε1).bind fun b ε2 => match b with
      | true => (f ε2).bind fun y ε3 => (compL vs g c f r ε3).map (y :: ·)
      | false => compL vs g c f r ε2
/-- a comprehension lets no exception out -/
def calmO {α : Type} : Out α → Out α
  | .ok a ε => .ok a ε
  | _ => .stuck
def nLc (it : Sl → Out (List PyData)) (vs : List Nat) (g : PyData → Sl → Option Sl) (c : Sl → Out Bool) (f : Sl → Out PyData) : Sl → Out (List PyData) := fun ε => (it ε).bind fun ds ε1 =>
  if ds.length ≤ 16777216 then (calmO (compL vs g c f ds ε1)).bind fun ys ε2 => .ok ys (restE ε1 ε2 vs) else .stuck
theorem Wish.calm {α : Type} {R R' : Exc → Sl → Prop} {o : Out α} {φ : α → Sl → Prop} (h : Wish R (calmO o) φ) : Wish R' o φ := by
  cases o <;> first | exact h | exact h.elim
abbrev R0 : Exc → Sl → Prop := fun _ _ => False
section
variable {X : Cx} {S : Sta} {R : Exc → Sl → Prop}
abbrev PoNK (K : PySem.W.Frag) (S : Sta) (T : Tmp) (P : Hp) (A : Nat → Addr) (σ : L2.St) (Q : VK) (ds : List PyData) (ε' : Sl) : Prop :=
  ∀ a ws P' H', Rel K S T P' A σ H' ε' → Same P P' → H' a = some (.lst ws) → RpAll K P' ws ds → P' a = none → S.H0 a = none → (∀ (i : Nat) (e : Ent), ε'[i]? = some e → e.isList = true → A i ≠ a) → (∀ p ∈ T, p.1 ≠ a) → Q (.ref a) H'
theorem rest_wipe {ε1 ε2 : Sl} {vs : List Nat} : restE ε1 (wipeE ε2 vs) vs = restE ε1 ε2 vs := by
  apply List.ext_getElem?
  intro k
  have wl : ∀ (us : List Nat) (ε : Sl), (wipeE ε us).length = ε.length := fun us ε => by
    induction us with
    | nil => rfl
    | cons u us ih => unfold wipeE; rw [List.length_set]; exact ih
  have wa : ∀ (us : List Nat) (ε : Sl), k ∉ us → (wipeE ε us)[k]? = ε[k]? := fun us ε hk => by
    induction us with
    | nil => rfl
    | cons u us ih =>
      unfold wipeE
      rw [List.getElem?_set_ne (fun z => hk (by rw [z]; exact List.mem_cons_self))]
      exact ih fun z => hk (List.mem_cons_of_mem _ z)
  have ra' : ∀ (us : List Nat) (ε ε' : Sl), ε.length = ε'.length → (k ∈ us ∨ ε[k]? = ε'[k]?) → (restE ε1 ε us)[k]? = (restE ε1 ε' us)[k]? := fun us ε ε' hl h => by
    induction us with
    | nil => exact h.elim (fun z => nomatch z) id
    | cons u us ih =>
      unfold restE
      by_cases hk : u = k
      · subst hk
        by_cases hlt : u < ε.length
        · rw [List.getElem?_set_self (by rw [restE_length]; exact hlt), List.getElem?_set_self (by rw [restE_length]; omega)]
        · rw [List.getElem?_eq_none (by rw [List.length_set, restE_length]; omega), List.getElem?_eq_none (by rw [List.length_set, restE_length]; omega)]
      · rw [List.getElem?_set_ne hk, List.getElem?_set_ne hk]
        refine ih (h.imp (fun z => ?_) id)
        rcases List.mem_cons.mp z with z | z
        · exact absurd z.symm hk
        · exact z
  refine ra' vs _ _ (wl vs ε2) ?_
  by_cases hk : k ∈ vs
  · exact .inl hk
  · exact .inr (wa vs ε2 hk)
theorem lc_read {K : PySem.W.Frag} {wi : TI} {it : Sl → Out (List PyData)} {ts vs : List Nat} {g : PyData → Sl → Option Sl} {c : Sl → Out Bool} {f : Sl → Out PyData} (hts : ∀ i ∈ ts, i ∈ vs)
    (qi : ∀ T P A σ H ε (Q : It → Hp → Prop), Rel K S T P A σ H ε → Wish R (it ε) (fun ds ε' => ∀ P' H' J Good, Rel K S T P' A σ H' ε' → Same P P' → Wk K J ds Good → (∀ P2 H2, Same P' P2 → Same P2 H2 → Good P2 H2) → Q J H') → wi σ H Q)
    {T : Tmp} {P : Hp} {A : Nat → Addr} {σ : L2.St} {H : Hp} {ε : Sl} {Q : VK} (r : Rel K S T P A σ H ε)
    (w : Wish R (nLc it vs g c f ε) (PoNK K S T P A σ Q)) :
    tLc wi (tG K S ts g) (tB' K S R0 c) (tP K S R0 f) vs σ H Q := by
  refine qi T P A σ H ε _ r (w.bind.imp fun ds ε1 w P1 H1 J Good r1 s1 wk good => ?_)
  split at w
  · rename_i hlen
    intro D hD
    have w : Wish R0 (compL vs g c f ds ε1) (fun ys ε2 => PoNK K S T P A σ Q ys (restE ε1 ε2 vs)) := w.bind.calm
    refine ⟨fun i m H => m = ds.length - i ∧ i ≤ ds.length ∧ ∃ P2 ε2 acc es, Rel K S ((D, .lst acc) :: T) P2 A (L2.wipe σ vs) H (wipeE ε2 vs) ∧ Same P1 P2 ∧ RpAll K P2 acc es ∧ es.length ≤ i ∧
      Wish R0 (compL vs g c f (ds.drop i) ε2) (fun ys ε3 => PoNK K S T P A σ Q (es ++ ys) (restE ε1 ε3 vs)), ⟨_, by rfl, Nat.zero_le _, P1, ε1, [], [], ?_, Same.refl _, .nil, Nat.le_refl _, w⟩, ?_⟩
    · have g0 := Gro.loose (o := .lst []) r1.sub hD
      have r2 := (r1.grow g0).wipe vs
      refine r2.push upd_same (r1.sub.free hD) ?_ (fun j u hj hu e => ?_) fun p hp e => ?_
      · cases q : S.H0 D with
        | none => rfl
        | some o =>
          obtain ⟨o', z⟩ := r1.tr D o q
          rw [hD] at z
          cases z
      · have r1w := r1.wipe vs
        have z := r1w.ent j u hj
        cases u with
        | un => cases hu
        | dat _ => cases hu
        | own ds =>
          obtain ⟨_, _, _, vs, h4, _⟩ := z
          rw [e, hD] at h4
          cases h4
        | io ds =>
          obtain ⟨_, _, _, vs, h4, _⟩ := z
          rw [e, hD] at h4
          cases h4
      · obtain ⟨t1, _⟩ := r1.tmp p hp
        rw [e, hD] at t1
        cases t1
    · rintro i m H2 ⟨rfl, hi, P2, ε2, acc, es, r2, s2, ra, hes, w2⟩
      have gd := good P2 H2 s2 r2.sub
      by_cases hlt : i < ds.length
      · refine .inr ⟨wk.1 i P2 H2 hlt gd, fun H3 => ∃ P3 ε3 acc es, Rel K S ((D, .lst acc) :: T) P3 A (L2.wipe σ vs) H3 (wipeE ε3 vs) ∧ Same P1 P3 ∧ RpAll K P3 acc es ∧ es.length ≤ i + 1 ∧
          Wish R0 (compL vs g c f (ds.drop (i + 1)) ε3) (fun ys ε3 => PoNK K S T P A σ Q (es ++ ys) (restE ε1 ε3 vs)),
          fun H3 h3 => ⟨ds.length - (i + 1), by omega, rfl, hlt, h3⟩, fun x H3 y => ?_⟩
        obtain ⟨P3, d, gr, hd, rp⟩ := wk.2.2 i P2 H2 x H3 hlt gd y
        rw [drop_cons hd] at w2
        have r3 := r2.grow gr
        unfold compL at w2
        cases hgd : g d (wipeE ε2 vs) with
        | none => rw [hgd] at w2; exact w2.elim
        | some ε3 =>
          rw [hgd] at w2
          refine ⟨_, P3, A, _, d, ε3, r3, rp, hgd, fun σ4 r4 o4 => ?_⟩
          have e4 := wipe_only o4 hts
          refine ⟨e4, _, P3, A, ε3, r4, w2.bind.imp fun b ε4 w4 P5 H5 r5 s5 => ?_⟩
          cases b with
          | false =>
            rw [if_neg Bool.false_ne_true]
            have r6 := r5.wipe vs
            rw [e4] at r6
            exact ⟨P5, ε4, acc, es, r6, (s2.trans gr.p).trans s5, (ra.mono gr.p).mono s5, by omega, w4⟩
          | true =>
            rw [if_pos rfl]
            refine ⟨_, P5, A, ε4, r5, (show Wish R0 ((f ε4).bind _) _ from w4).bind.imp fun y ε5 w5 v P6 H6 r6 s6 rpv => ?_⟩
            obtain ⟨h1, h2, h3, h4⟩ := r6.tmp _ List.mem_cons_self
            have hal : acc.length = es.length := ra.length
            refine ⟨acc, h1, by rw [sizeLine_eq]; omega, P6, ε5, acc ++ [v], es ++ [y], ?_, ((s2.trans gr.p).trans s5).trans s6, (((ra.mono gr.p).mono s5).mono s6).append (.cons rpv .nil), by rw [List.length_append, List.length_singleton]; omega, w5.map.imp fun ys ε7 w7 => ?_⟩
            · have r7 := (r6.tmpSet (ws := .lst (acc ++ [v]))).wipe vs
              rw [e4] at r7
              exact r7
            · rw [List.append_assoc]
              exact w7
      · have e : i = ds.length := by omega
        subst e
        rw [List.drop_length] at w2
        refine .inl ⟨wk.2.1 P2 H2 gd, ?_⟩
        obtain ⟨r3, h1, h2, h3, h4, h5⟩ := r2.pop
        have w3 : PoNK K S T P A σ Q (es ++ []) (restE ε1 ε2 vs) := w2
        rw [List.append_nil] at w3
        have r4 : Rel K S T P2 A σ H2 (restE ε1 (wipeE ε2 vs) vs) := Rel.restore r1 s2 r3
        have e2 : restE ε1 (wipeE ε2 vs) vs = restE ε1 ε2 vs := rest_wipe
        rw [e2] at r4
        refine w3 D acc P2 H2 r4 (s1.trans s2) h1 ra h2 h3 (fun j u hj hu => ?_) h5
        rcases restE_get hj with ⟨_, rfl | ⟨d, rfl, _⟩⟩ | ⟨hjv, q⟩
        · cases hu
        · cases hu
        · have wa : ∀ (us : List Nat), j ∉ us → (wipeE ε2 us)[j]? = ε2[j]? := fun us hk => by
            induction us with
            | nil => rfl
            | cons u us ih =>
              unfold wipeE
              rw [List.getElem?_set_ne (fun z => hk (by rw [z]; exact List.mem_cons_self))]
              exact ih fun z => hk (List.mem_cons_of_mem _ z)
          exact h4 j u (by rw [wa vs hjv]; exact q) hu
  · exact w.elim
variable {e elt tg iter : Expr} {ifs : List Expr} {scope : Scope} {own : List (Str × Nat)} {pos : Pos}
theorem dn_lc {it : Sl → Out (List PyData)} {ts : List Nat} {g : PyData → Sl → Option Sl} {c : Sl → Out Bool} {f : Sl → Out PyData} (hc : X.calm = true) (hN : X.N.Nodup) (hi : DI X S R tg iter it) (ok : BlkOk X.N X.env.scope scope own)
    (hg : ∀ (s : Shared) (H : Hp) (C : Addr) (cl : List (Str × Addr)) (fp : List Addr), DG (X.blk s H scope (compEnvC scope cl C X.env) fp) S ts tg g) (ht : ∀ (s : Shared) (H : Hp) (C : Addr) (cl : List (Str × Addr)) (fp : List Addr), DTs (X.blk s H scope (compEnvC scope cl C X.env) fp) S R0 ifs c)
    (he : ∀ (s : Shared) (H : Hp) (C : Addr) (cl : List (Str × Addr)) (fp : List Addr), DP (X.blk s H scope (compEnvC scope cl C X.env) fp) S R0 elt f) (hts : ∀ i ∈ ts, i ∈ own.map (·.2) := by decide) (hs : ∀ x, foldedSetIterable iter X.env x = pure x := by intro _; rfl) :
    DN X S R (.ListComp elt [⟨tg, iter, ifs, 0⟩] scope pos) (nLc it (own.map (·.2)) g c f) := by
  obtain ⟨wi, pi, qi⟩ := hi
  exact ⟨_, pe_lc (g := tG X.K S ts g) (tt := tB' X.K S R0 c) (te := tP X.K S R0 f) hc hN pi ok (fun s H C cl fp => (hg s H C cl fp).pg) ht (fun s H C cl fp => (he s H C cl fp).pe) hs, fun T P A σ H ε Q r w => lc_read hts qi r w⟩
/-- x = [..] -/
theorem ds_setLc (i : Nat) {y : Str} {py spos : Pos} {it : Sl → Out (List PyData)} {ts : List Nat} {g : PyData → Sl → Option Sl} {c : Sl → Out Bool} {f : Sl → Out PyData} (hc : X.calm = true) (hN : X.N.Nodup) (hy : X.N[i]? = some y) (hyl : X.env.scope.names.lookup y = some .local)
    (hsw : swapsWith (.ListComp elt [⟨tg, iter, ifs, 0⟩] scope pos) (some (.Name y py)) spos.line X.env = pure true) (hi : DI X S R tg iter it) (ok : BlkOk X.N X.env.scope scope own)
    (hg : ∀ (s : Shared) (H : Hp) (C : Addr) (cl : List (Str × Addr)) (fp : List Addr), DG (X.blk s H scope (compEnvC scope cl C X.env) fp) S ts tg g) (ht : ∀ (s : Shared) (H : Hp) (C : Addr) (cl : List (Str × Addr)) (fp : List Addr), DTs (X.blk s H scope (compEnvC scope cl C X.env) fp) S R0 ifs c)
    (he : ∀ (s : Shared) (H : Hp) (C : Addr) (cl : List (Str × Addr)) (fp : List Addr), DP (X.blk s H scope (compEnvC scope cl C X.env) fp) S R0 elt f) (hts : ∀ i ∈ ts, i ∈ own.map (·.2) := by decide) (hs : ∀ x, foldedSetIterable iter X.env x = pure x := by intro _; rfl) :
    DS X S R (.Assign [.Name y py] (.ListComp elt [⟨tg, iter, ifs, 0⟩] scope pos) spos) (sSetNew i (nLc it (own.map (·.2)) g c f)) := by
  obtain ⟨wi, pi, qi⟩ := hi
  refine ⟨_, L2.ps_setLc (g := tG X.K S ts g) (tt := tB' X.K S R0 c) (te := tP X.K S R0 f) hc hN hy hyl hsw pi ok (fun s H C cl fp => (hg s H C cl fp).pg) ht (fun s H C cl fp => (he s H C cl fp).pe) hs, fun T P A σ H ε D r w => ?_⟩
  refine lc_read (Q := fun x H1 => gName i x σ H1 D.nx) hts qi r (w.so.imp fun ds ε' w a vs P' H' r' s' h1 h2 h3 h4 h5 h6 => ?_)
  split at w
  · rename_i hl
    exact w P' _ _ H' (r'.setOwn hl h1 h2 h3 h4 h5 h6) s'
  · exact w.elim
/-- x = [..], x not to be changed -/
theorem ds_setLcD (i : Nat) {y : Str} {py spos : Pos} {it : Sl → Out (List PyData)} {ts : List Nat} {g : PyData → Sl → Option Sl} {c : Sl → Out Bool} {f : Sl → Out PyData} (hc : X.calm = true) (hN : X.N.Nodup) (hy : X.N[i]? = some y) (hyl : X.env.scope.names.lookup y = some .local)
    (hsw : swapsWith (.ListComp elt [⟨tg, iter, ifs, 0⟩] scope pos) (some (.Name y py)) spos.line X.env = pure true) (hi : DI X S R tg iter it) (ok : BlkOk X.N X.env.scope scope own)
    (hg : ∀ (s : Shared) (H : Hp) (C : Addr) (cl : List (Str × Addr)) (fp : List Addr), DG (X.blk s H scope (compEnvC scope cl C X.env) fp) S ts tg g) (ht : ∀ (s : Shared) (H : Hp) (C : Addr) (cl : List (Str × Addr)) (fp : List Addr), DTs (X.blk s H scope (compEnvC scope cl C X.env) fp) S R0 ifs c)
    (he : ∀ (s : Shared) (H : Hp) (C : Addr) (cl : List (Str × Addr)) (fp : List Addr), DP (X.blk s H scope (compEnvC scope cl C X.env) fp) S R0 elt f) (hts : ∀ i ∈ ts, i ∈ own.map (·.2) := by decide) (hs : ∀ x, foldedSetIterable iter X.env x = pure x := by intro _; rfl) :
    DS X S R (.Assign [.Name y py] (.ListComp elt [⟨tg, iter, ifs, 0⟩] scope pos) spos) (sAsg (fun ε => (nLc it (own.map (·.2)) g c f ε).map .list) (gSet i)) := by
  obtain ⟨wi, pi, qi⟩ := hi
  refine ⟨_, L2.ps_setLc (g := tG X.K S ts g) (tt := tB' X.K S R0 c) (te := tP X.K S R0 f) hc hN hy hyl hsw pi ok (fun s H C cl fp => (hg s H C cl fp).pg) ht (fun s H C cl fp => (he s H C cl fp).pe) hs, fun T P A σ H ε D r w => ?_⟩
  refine lc_read (Q := fun x H1 => gName i x σ H1 D.nx) hts qi r (w.so.map.imp fun ds ε' w a vs P' H' r' s' h1 h2 h3 h4 h5 h6 => ?_)
  unfold gSet at w
  split at w
  · rename_i ε2 he
    split at he
    · rename_i hl
      cases he
      exact w _ A _ H' ((r'.learn h1 h3 h4 h5 h6).setDat hl (Rp.newLst h3 h2)) (s'.trans (same_upd h3))
    · cases he
  · exact w.elim
end
end DL
/-! DLk: what a def does, by data; calls -/
namespace DL
open PySem PySem.Spec PyProof.Rows L2

/-- how a def ends: what it returns or raises, and the lists handed in -/
inductive FO
  | ok (r : Rv) (outs : List Ent)
  | exc (x : Exc) (outs : List Ent)
  | stuck
def keepIo : List Ent → Sl → Option (List Ent)
  | [], _ => some []
  | .io _ :: r, .io ds :: s => (keepIo r s).map (.io ds :: ·)
  | .io _ :: _, _ => none
  | _ :: r, _ :: s => (keepIo r s).map (.un :: ·)
  | _ :: _, [] => none
/-- a def by its body, n slots -/
def mkFn (n : Nat) (F : Sl → SO) (ents : List Ent) : FO := match F (ents ++ List.replicate (n - ents.length) .un) with
  | .nx ε => match keepIo ents ε with
    | some outs => .ok (.dat .none) outs
    | none => .stuck
  | .rt r ε => match keepIo ents ε with
    | some outs => .ok r outs
    | none => .stuck
  | .exc x ε => match keepIo ents ε with
    | some outs => .exc x outs
    | none => .stuck
  | _ => .stuck
def ArgOk (K : PySem.W.Frag) (P H : Hp) (A : Nat → Addr) (vs : List V) (i : Nat) : Ent → Prop
  | .un => False
  | .dat d => ∃ v, vs[i]? = some v ∧ Rp K P v d
  | .own _ => False
  | .io ds => vs[i]? = some (.ref (A i)) ∧ P (A i) = none ∧ ∃ ws, H (A i) = some (.lst ws) ∧ RpAll K P ws ds
structure Aft (K : PySem.W.Frag) (P H : Hp) (A : Nat → Addr) (ents : List Ent) (P' H' : Hp) (outs : List Ent) : Prop where
  p : Same P P'
  sub : Same P' H'
  pt : ∀ a ps, P' a ≠ some (.tbl ps)
  new : ∀ a o, P' a = some o → P a = some o ∨ H a = none
  fr : ∀ a o, H a = some o → (∀ i ds, ents[i]? = some (.io ds) → a ≠ A i) → (∀ ps, o ≠ .tbl ps) → H' a = some o
  tr : ∀ a o, H a = some o → ∃ o', H' a = some o'
  io : ∀ i ds, ents[i]? = some (.io ds) → ∃ ds', outs[i]? = some (.io ds') ∧ P' (A i) = none ∧ ∃ ws, H' (A i) = some (.lst ws) ∧ RpAll K P' ws ds'
def RvRes (K : PySem.W.Frag) (H P' H' : Hp) (v : V) : Rv → Prop
  | .dat d => Rp K P' v d
  | .lst ds => ∃ a ws, v = .ref a ∧ H a = none ∧ H' a = some (.lst ws) ∧ RpAll K P' ws ds ∧ P' a = none
/-- the promise of a def that does m of n arguments -/
def spD (K : PySem.W.Frag) (mg : Str → Option Value) (n : Nat) (m : List Ent → FO) : Sp := fun vs H Q E => ∃ P A ents, Same P H ∧ (∀ a ps, P a ≠ some (.tbl ps)) ∧ vs.length = n ∧ ents.length = n ∧ (∀ i e, ents[i]? = some e → ArgOk K P H A vs i e) ∧
  (∀ i j ds es, i ≠ j → ents[i]? = some (.io ds) → ents[j]? = some (.io es) → A i ≠ A j) ∧ (match m ents with
    | .ok r outs => ∀ v H' P', Aft K P H A ents P' H' outs → RvRes K H P' H' v r → Q v H'
    | .exc x outs => ∀ cls d H' P', Aft K P H A ents P' H' outs → ExcAt K mg P' H' cls d x → E cls d H'
    | .stuck => False)

/-! ### from a body to a promise -/
theorem keepIo_get : ∀ {ents : List Ent} {ε : Sl} {outs : List Ent} {i : Nat} {ds : List PyData}, keepIo ents ε = some outs → ents[i]? = some (.io ds) → ∃ ds', ε[i]? = some (.io ds') ∧ outs[i]? = some (.io ds')
  | [], _, _, _, _, _, h => by simp at h
  | .io a :: r, .io b :: s, outs, i, ds, h, e => by
    unfold keepIo at h
    cases hk : keepIo r s with
    | none => rw [hk] at h; cases h
    | some os =>
      rw [hk] at h
      cases h
      cases i with
      | zero => exact ⟨b, rfl, rfl⟩
      | succ i =>
        obtain ⟨ds', h1, h2⟩ := keepIo_get (i := i) hk (by simpa using e)
        exact ⟨ds', by simpa using h1, by simpa using h2⟩
  | .io a :: r, [], _, _, _, h, _ => by cases h
  | .io a :: r, .un :: _, _, _, _, h, _ => by cases h
  | .io a :: r, .dat _ :: _, _, _, _, h, _ => by cases h
  | .io a :: r, .own _ :: _, _, _, _, h, _ => by cases h
  | .un :: r, [], _, _, _, h, _ => by cases h
  | .dat _ :: r, [], _, _, _, h, _ => by cases h
  | .own _ :: r, [], _, _, _, h, _ => by cases h
  | .un :: r, u :: s, outs, i, ds, h, e => by
    have h : (keepIo r s).map (.un :: ·) = some outs := by cases u <;> exact h
    cases hk : keepIo r s with
    | none => rw [hk] at h; cases h
    | some os =>
      rw [hk] at h
      cases h
      cases i with
      | zero => cases e
      | succ i =>
        obtain ⟨ds', h1, h2⟩ := keepIo_get (i := i) hk (by simpa using e)
        exact ⟨ds', by simpa using h1, by simpa using h2⟩
  | .dat _ :: r, u :: s, outs, i, ds, h, e => by
    have h : (keepIo r s).map (.un :: ·) = some outs := by cases u <;> exact h
    cases hk : keepIo r s with
    | none => rw [hk] at h; cases h
    | some os =>
      rw [hk] at h
      cases h
      cases i with
      | zero => cases e
      | succ i =>
        obtain ⟨ds', h1, h2⟩ := keepIo_get (i := i) hk (by simpa using e)
        exact ⟨ds', by simpa using h1, by simpa using h2⟩
  | .own _ :: r, u :: s, outs, i, ds, h, e => by
    have h : (keepIo r s).map (.un :: ·) = some outs := by cases u <;> exact h
    cases hk : keepIo r s with
    | none => rw [hk] at h; cases h
    | some os =>
      rw [hk] at h
      cases h
      cases i with
      | zero => cases e
      | succ i =>
        obtain ⟨ds', h1, h2⟩ := keepIo_get (i := i) hk (by simpa using e)
        exact ⟨ds', by simpa using h1, by simpa using h2⟩
/-- the entry of a def -/
def staOf (P H : Hp) (A : Nat → Addr) (ents : List Ent) : Sta := ⟨H, fun a => ∃ i ds, ents[i]? = some (.io ds) ∧ a = A i, P, A⟩
theorem rel_start {K : PySem.W.Frag} {P H : Hp} {A : Nat → Addr} {ents : List Ent} {vs : List V} {N : List Str} (sm : Same P H) (pt : ∀ a ps, P a ≠ some (.tbl ps)) (hl : vs.length = ents.length) (hN : ents.length ≤ N.length) (ha : ∀ i e, ents[i]? = some e → ArgOk K P H A vs i e)
    (hs : ∀ i j ds es, i ≠ j → ents[i]? = some (.io ds) → ents[j]? = some (.io es) → A i ≠ A j) : Rel K (staOf P H A ents) [] P A (L2.start N vs) H (ents ++ List.replicate (N.length - ents.length) .un) := by
  have get : ∀ (i : Nat) (e : Ent), (ents ++ List.replicate (N.length - ents.length) .un)[i]? = some e → (i < ents.length ∧ ents[i]? = some e) ∨ e = .un := by
    intro i e h
    by_cases hi : i < ents.length
    · rw [List.getElem?_append_left hi] at h
      exact .inl ⟨hi, h⟩
    · rw [List.getElem?_append_right (by omega)] at h
      exact .inr (List.eq_of_mem_replicate (List.mem_of_getElem? h))
  have sg : ∀ (i : Nat) (v : V), i < ents.length → vs[i]? = some v → (L2.start N vs)[i]? = some (some v) := by
    intro i v hi hv
    unfold L2.start
    rw [List.getElem?_append_left (by rw [List.length_map]; omega), List.getElem?_map, hv]
    rfl
  refine ⟨?_, sm, pt, Same.refl _, fun a o h => .inl h, fun a o h _ _ => h, fun a o h => ⟨o, h⟩, fun a h => ?_, fun i e h => ?_, fun i j e u hij h1 h2 b1 b2 => ?_, (fun p hp => nomatch hp), List.nodup_nil⟩
  · unfold L2.start
    simp only [List.length_append, List.length_map, List.length_replicate]
    omega
  · obtain ⟨i, ds, h1, rfl⟩ := h
    obtain ⟨_, _, ws, h4, _⟩ := ha i _ h1
    exact ⟨_, h4⟩
  · rcases get i e h with ⟨hi, h⟩ | rfl
    · have z := ha i e h
      cases e with
      | un => trivial
      | dat d =>
        obtain ⟨v, h1, h2⟩ := z
        exact ⟨v, sg i v hi h1, h2⟩
      | own ds => exact z.elim
      | io ds =>
        obtain ⟨h1, h2, ws, h3, h4⟩ := z
        exact ⟨sg i _ hi h1, h2, ⟨⟨i, ds, h, rfl⟩, rfl⟩, ws, h3, h4⟩
    · trivial
  · rcases get i e h1 with ⟨_, h1⟩ | rfl
    · rcases get j u h2 with ⟨_, h2⟩ | rfl
      · have z1 := ha i e h1
        have z2 := ha j u h2
        cases e with
        | un => cases b1
        | dat _ => cases b1
        | own _ => exact z1.elim
        | io ds =>
          cases u with
          | un => cases b2
          | dat _ => cases b2
          | own _ => exact z2.elim
          | io es => exact hs i j ds es hij h1 h2
      · cases b2
    · cases b1
theorem aft_of {K : PySem.W.Frag} {P H : Hp} {A A' : Nat → Addr} {ents : List Ent} {T : Tmp} {P' H' : Hp} {σ' : L2.St} {ε' : Sl} {outs : List Ent} (r : Rel K (staOf P H A ents) T P' A' σ' H' ε') (hk : keepIo ents ε' = some outs) : Aft K P H A ents P' H' outs := by
  refine ⟨r.old, r.sub, r.pt, r.new, fun a o h1 h2 h3 => r.fr a o h1 (fun ⟨i, ds, h4, h5⟩ => h2 i ds h4 h5) h3, r.tr, fun i ds h => ?_⟩
  obtain ⟨ds', h1, h2⟩ := keepIo_get hk h
  obtain ⟨_, y2, ⟨_, y3⟩, ws, y4, y5⟩ := r.ent i _ h1
  rw [y3] at y2 y4
  exact ⟨ds', h2, y2, ws, y4, y5⟩
section
variable {P : Program} {w : World} {K : PySem.W.Frag} {mg : Str → Option Value} {base : Heap}
/-- THE RULE for a def -/
theorem fn_okD {x qual : Str} {st : Stmt} {f : Addr} {fd : FuncData} {N ps : List Str} {k n : Nat} {F : Sl → SO} (Fd : Fun K x qual st f fd) (Sc : FnScope N ps (defScope st)) (hn : ps.length = n) (hnN : n ≤ N.length)
    (body : ∀ (cdv : Value) (A : Around) (outer : List Env) (s : Shared) (H : Hp) (E : XK) (S : Sta) (R : Exc → Sl → Prop), Room k (cxOf (L2.CX P w) P w K mg base N qual (defScope st) f cdv A outer s H E).A →
      PassesOwn (model P w) (cxOf (L2.CX P w) P w K mg base N qual (defScope st) f cdv A outer s H E).A (cxOf (L2.CX P w) P w K mg base N qual (defScope st) f cdv A outer s H E).env (cxOf (L2.CX P w) P w K mg base N qual (defScope st) f cdv A outer s H E).xe →
      Acc (cxOf (L2.CX P w) P w K mg base N qual (defScope st) f cdv A outer s H E) S R → DSs (cxOf (L2.CX P w) P w K mg base N qual (defScope st) f cdv A outer s H E) S R (defBody st) F) :
    FnOk P w K mg base (L2.CX P w) (k + 1) f fd ps (spD K mg n (mkFn N.length F)) := by
  refine Fd.okX Sc (fun vs H Q E h => ?_) (fun cdv A outer s H vs Q E hr h => ?_)
  · obtain ⟨_, _, _, _, _, h, _⟩ := h
    rw [h, hn]
  · obtain ⟨P1, A1, ents, sm, pt, hl1, hl2, ha, hs, hm⟩ := h
    have r0 : Rel K (staOf P1 H A1 ents) [] P1 A1 (L2.start N vs) H (ents ++ List.replicate (N.length - ents.length) .un) := rel_start sm pt (by omega) (by omega) ha hs
    have tk : Takes (cxOf (L2.CX P w) P w K mg base N qual (defScope st) f cdv A outer s H E) (fun cls d _ H => E cls d H) := takes_of rfl rfl rfl rfl
    have hacc : Acc (cxOf (L2.CX P w) P w K mg base N qual (defScope st) f cdv A outer s H E) (staOf P1 H A1 ents) (fun x ε => F (ents ++ List.replicate (N.length - ents.length) .un) = .exc x ε) := by
      refine ⟨_, tk, fun x ε T P2 A2 σ2 H2 cls d hx r hE => ?_⟩
      unfold mkFn at hm
      rw [hx] at hm
      dsimp only at hm
      cases hk : keepIo ents ε with
      | none => rw [hk] at hm; exact hm.elim
      | some outs =>
        rw [hk] at hm
        exact hm cls d H2 P2 (aft_of r hk) hE
    obtain ⟨t, p, q⟩ := body cdv A outer s H E (staOf P1 H A1 ents) _ hr (passes_of rfl) hacc
    refine ⟨t, p, q [] P1 A1 _ H _ _ r0 ?_⟩
    unfold mkFn at hm
    cases hF : F (ents ++ List.replicate (N.length - ents.length) .un) with
    | nx ε =>
      rw [hF] at hm
      dsimp only at hm
      cases hk : keepIo ents ε with
      | none => rw [hk] at hm; exact hm.elim
      | some outs =>
        rw [hk] at hm
        exact fun P' A' σ' H' r' s' => hm .non H' P' (aft_of r' hk) .non
    | rt rv ε =>
      rw [hF] at hm
      dsimp only at hm
      cases hk : keepIo ents ε with
      | none => rw [hk] at hm; exact hm.elim
      | some outs =>
        rw [hk] at hm
        refine fun v P' A' σ' H' r' s' k => hm v H' P' (aft_of r' hk) ?_
        cases rv with
        | dat d => exact k
        | lst ds =>
          obtain ⟨a, vs, e, h1, h2, h3, h4, _⟩ := k
          exact ⟨a, vs, e, h4, h1, h2, h3⟩
    | bk ε => rw [hF] at hm; exact hm.elim
    | ct ε => rw [hF] at hm; exact hm.elim
    | exc x ε => exact rfl
    | stuck => rw [hF] at hm; exact hm.elim
end

/-! ### calls -/
/-- a def of the module at hand: level k, n parameters, it does m -/
def Cal (P : Program) (w : World) (K : PySem.W.Frag) (mg : Str → Option Value) (base : Heap) (x : Str) (k n : Nat) (m : List Ent → FO) : Prop :=
  ∃ f fd ps, FnOk P w K mg base (L2.CX P w) k f fd ps (spD K mg n m) ∧ mg x = some (.ref f) ∧ PySem.W.keepIn K (.ref f) = true ∧ Binds K fd ps []
def slots : List Tk → List Nat
  | [] => []
  | .dat _ :: r => slots r
  | .at i :: r => i :: slots r
def argEnts (ε : Sl) : List Tk → Option (List Ent)
  | [] => some []
  | .dat d :: r => (argEnts ε r).map (.dat d :: ·)
  | .at i :: r => match lsAt ε i with
    | some ds => (argEnts ε r).map (.io ds :: ·)
    | none => none
def backE : List Tk → List Ent → Sl → Sl
  | [], _, ε => ε
  | .dat _ :: r, _ :: o, ε => backE r o ε
  | .at i :: r, .io ds :: o, ε => backE r o (lsPut ε i ds)
  | .at _ :: r, _ :: o, ε => backE r o ε
  | _ :: _, [], ε => ε
/-- what becomes of the caller's slots -/
def callF (m : List Ent → FO) (g : Sl → Out (List Tk)) : Sl → Out Rv := fun ε => (g ε).bind fun τs ε' => match argEnts ε' τs with
  | some ents => if (slots τs).Nodup then match m ents with
    | .ok r outs => .ok r (backE τs outs ε')
    | .exc x outs => .exc x (backE τs outs ε')
    | .stuck => .stuck else .stuck
  | none => .stuck
theorem argEnts_length {ε : Sl} : ∀ {τs : List Tk} {ents : List Ent}, argEnts ε τs = some ents → ents.length = τs.length
  | [], _, h => by cases h; rfl
  | .dat d :: r, _, h => by
    unfold argEnts at h
    cases e : argEnts ε r with
    | none => rw [e] at h; cases h
    | some es =>
      rw [e] at h
      cases h
      rw [List.length_cons, List.length_cons, argEnts_length e]
  | .at i :: r, _, h => by
    unfold argEnts at h
    split at h
    · cases e : argEnts ε r with
      | none => rw [e] at h; cases h
      | some es =>
        rw [e] at h
        cases h
        rw [List.length_cons, List.length_cons, argEnts_length e]
    · cases h
theorem argEnts_get {ε : Sl} : ∀ {τs : List Tk} {ents : List Ent} {k : Nat} {e : Ent}, argEnts ε τs = some ents → ents[k]? = some e → (∃ d, τs[k]? = some (.dat d) ∧ e = .dat d) ∨ ∃ i ds, τs[k]? = some (Tk.at i) ∧ lsAt ε i = some ds ∧ e = .io ds
  | [], _, _, _, h, h2 => by cases h; simp at h2
  | .dat d :: r, _, k, e, h, h2 => by
    unfold argEnts at h
    cases q : argEnts ε r with
    | none => rw [q] at h; cases h
    | some es =>
      rw [q] at h
      cases h
      cases k with
      | zero => cases h2; exact .inl ⟨d, rfl, rfl⟩
      | succ k => exact argEnts_get (k := k) q (by simpa using h2)
  | .at i :: r, _, k, e, h, h2 => by
    unfold argEnts at h
    split at h
    · rename_i ds hd
      cases q : argEnts ε r with
      | none => rw [q] at h; cases h
      | some es =>
        rw [q] at h
        cases h
        cases k with
        | zero => cases h2; exact .inr ⟨i, ds, rfl, hd, rfl⟩
        | succ k => exact argEnts_get (k := k) q (by simpa using h2)
    · cases h
theorem argEnts_at {ε : Sl} : ∀ {τs : List Tk} {ents : List Ent} {k i : Nat}, argEnts ε τs = some ents → τs[k]? = some (Tk.at i) → ∃ ds, lsAt ε i = some ds ∧ ents[k]? = some (.io ds)
  | [], _, _, _, _, h2 => by simp at h2
  | .dat d :: r, _, k, i, h, h2 => by
    unfold argEnts at h
    cases q : argEnts ε r with
    | none => rw [q] at h; cases h
    | some es =>
      rw [q] at h
      cases h
      cases k with
      | zero => cases h2
      | succ k => exact argEnts_at (k := k) q (by simpa using h2)
  | .at j :: r, _, k, i, h, h2 => by
    unfold argEnts at h
    split at h
    · rename_i ds hd
      cases q : argEnts ε r with
      | none => rw [q] at h; cases h
      | some es =>
        rw [q] at h
        cases h
        cases k with
        | zero => cases h2; exact ⟨ds, hd, rfl⟩
        | succ k => exact argEnts_at (k := k) q (by simpa using h2)
    · cases h
theorem mem_slots : ∀ {τs : List Tk} {i : Nat}, i ∈ slots τs ↔ ∃ k : Nat, τs[k]? = some (Tk.at i)
  | [], i => by simp [slots]
  | .dat d :: r, i => by
    unfold slots
    rw [mem_slots]
    constructor
    · rintro ⟨k, h⟩
      exact ⟨k + 1, by simpa using h⟩
    · rintro ⟨k, h⟩
      cases k with
      | zero => cases h
      | succ k => exact ⟨k, by simpa using h⟩
  | .at j :: r, i => by
    unfold slots
    rw [List.mem_cons, mem_slots]
    constructor
    · rintro (rfl | ⟨k, h⟩)
      · exact ⟨0, rfl⟩
      · exact ⟨k + 1, by simpa using h⟩
    · rintro ⟨k, h⟩
      cases k with
      | zero => cases h; exact .inl rfl
      | succ k => exact .inr ⟨k, by simpa using h⟩
/-- one slot, one place -/
theorem slots_inj : ∀ {τs : List Tk} {i k l : Nat}, (slots τs).Nodup → τs[k]? = some (Tk.at i) → τs[l]? = some (Tk.at i) → k = l
  | [], _, _, _, _, h, _ => by simp at h
  | .dat d :: r, i, k, l, nd, h1, h2 => by
    cases k with
    | zero => cases h1
    | succ k =>
      cases l with
      | zero => cases h2
      | succ l => rw [slots_inj (k := k) (l := l) (show (slots r).Nodup from nd) (by simpa using h1) (by simpa using h2)]
  | .at j :: r, i, k, l, nd, h1, h2 => by
    have nd : (j :: slots r).Nodup := nd
    rw [List.nodup_cons] at nd
    cases k with
    | zero =>
      cases l with
      | zero => rfl
      | succ l =>
        cases h1
        exact absurd (mem_slots.mpr ⟨l, by simpa using h2⟩) nd.1
    | succ k =>
      cases l with
      | zero =>
        cases h2
        exact absurd (mem_slots.mpr ⟨k, by simpa using h1⟩) nd.1
      | succ l => rw [slots_inj (k := k) (l := l) nd.2 (by simpa using h1) (by simpa using h2)]
/-- the entry of a list with another content -/
def Ent.re (ds : List PyData) : Ent → Ent
  | .own _ => .own ds
  | .io _ => .io ds
  | e => e
theorem lsPut_get {ε : Sl} {i j : Nat} {ds : List PyData} {u : Ent} (h : (lsPut ε i ds)[j]? = some u) : (j = i ∧ ∃ e, ε[i]? = some e ∧ u = e.re ds) ∨ (j ≠ i ∧ ε[j]? = some u) := by
  unfold lsPut at h
  by_cases hj : j = i
  · subst hj
    refine .inl ⟨rfl, ?_⟩
    split at h
    · rename_i es he
      rcases getElem?_set_or h with ⟨_, rfl⟩ | ⟨n, _⟩
      · exact ⟨_, he, rfl⟩
      · exact absurd rfl n
    · rename_i es he
      rcases getElem?_set_or h with ⟨_, rfl⟩ | ⟨n, _⟩
      · exact ⟨_, he, rfl⟩
      · exact absurd rfl n
    · rename_i h1 h2
      refine ⟨u, h, ?_⟩
      cases u with
      | own es => exact absurd h (h1 es)
      | io es => exact absurd h (h2 es)
      | un => rfl
      | dat d => rfl
  · refine .inr ⟨hj, ?_⟩
    split at h
    · rcases getElem?_set_or h with ⟨e, _⟩ | ⟨_, q⟩
      · exact absurd e.symm hj
      · exact q
    · rcases getElem?_set_or h with ⟨e, _⟩ | ⟨_, q⟩
      · exact absurd e.symm hj
      · exact q
    · exact h
theorem lsPut_length {ε : Sl} {i : Nat} {ds : List PyData} : (lsPut ε i ds).length = ε.length := by
  unfold lsPut
  split <;> first | rfl | exact List.length_set
theorem backE_length : ∀ {τs : List Tk} {outs : List Ent} {ε : Sl}, (backE τs outs ε).length = ε.length
  | [], _, _ => rfl
  | .dat _ :: r, _ :: o, ε => backE_length (τs := r) (outs := o)
  | .at i :: r, .io ds :: o, ε => by
    unfold backE
    rw [backE_length, lsPut_length]
  | .at _ :: r, .un :: o, ε => backE_length (τs := r) (outs := o)
  | .at _ :: r, .dat _ :: o, ε => backE_length (τs := r) (outs := o)
  | .at _ :: r, .own _ :: o, ε => backE_length (τs := r) (outs := o)
  | .dat _ :: _, [], _ => rfl
  | .at _ :: _, [], _ => rfl
theorem backE_get : ∀ {τs : List Tk} {outs : List Ent} {ε : Sl} {j : Nat} {u : Ent}, (slots τs).Nodup → (∀ (k i : Nat), τs[k]? = some (Tk.at i) → ∃ ds, outs[k]? = some (.io ds)) → (backE τs outs ε)[j]? = some u →
    (∃ (k : Nat) (ds : List PyData) (e : Ent), τs[k]? = some (Tk.at j) ∧ outs[k]? = some (.io ds) ∧ ε[j]? = some e ∧ u = e.re ds) ∨ (j ∉ slots τs ∧ ε[j]? = some u)
  | [], _, _, _, _, _, _, h => .inr ⟨by simp [slots], h⟩
  | .dat d :: r, [], ε, j, u, nd, ho, h => by
    refine .inr ⟨fun z => ?_, h⟩
    obtain ⟨k, hk⟩ := mem_slots.mp z
    obtain ⟨ds, hd⟩ := ho k j hk
    simp at hd
  | .dat d :: r, o :: os, ε, j, u, nd, ho, h => by
    rcases backE_get (τs := r) (outs := os) nd (fun k i hk => by simpa using ho (k + 1) i (by simpa using hk)) h with ⟨k, ds, e, h1, h2, h3⟩ | q
    · exact .inl ⟨k + 1, ds, e, by simpa using h1, by simpa using h2, h3⟩
    · exact .inr q
  | .at i :: r, [], ε, j, u, nd, ho, h => by
    obtain ⟨ds, hd⟩ := ho 0 i rfl
    simp at hd
  | .at i :: r, o :: os, ε, j, u, nd, ho, h => by
    obtain ⟨ds, hd⟩ := ho 0 i rfl
    have hd : o = .io ds := by simpa using hd
    subst hd
    have nd : (i :: slots r).Nodup := nd
    rw [List.nodup_cons] at nd
    have h : (backE r os (lsPut ε i ds))[j]? = some u := h
    rcases backE_get (τs := r) (outs := os) nd.2 (fun k i hk => by simpa using ho (k + 1) i (by simpa using hk)) h with ⟨k, es, e, h1, h2, h3, h4⟩ | ⟨h1, h2⟩
    · refine .inl ⟨k + 1, es, e, by simpa using h1, by simpa using h2, ?_, h4⟩
      have hji : j ≠ i := fun z => nd.1 (mem_slots.mpr ⟨k, by rw [h1, z]⟩)
      rcases lsPut_get h3 with ⟨z, _⟩ | ⟨_, z⟩
      · exact absurd z hji
      · exact z
    · rcases lsPut_get h2 with ⟨rfl, e, h3, h4⟩ | ⟨hji, h3⟩
      · exact .inl ⟨0, ds, e, rfl, rfl, h3, h4⟩
      · refine .inr ⟨fun z => ?_, h3⟩
        rcases List.mem_cons.mp (show j ∈ i :: slots r from z) with z | z
        · exact hji z
        · exact h1 z
/-- the address of the list that stands at the k-th argument -/
def adrOf (A : Nat → Addr) (τs : List Tk) : Nat → Addr := fun k => match τs[k]? with
  | some (.at i) => A i
  | _ => 0
theorem adrOf_at {A : Nat → Addr} {τs : List Tk} {k i : Nat} (h : τs[k]? = some (Tk.at i)) : adrOf A τs k = A i := by
  unfold adrOf
  rw [h]
section
variable {K : PySem.W.Frag} {S : Sta} {T : Tmp} {P P' : Hp} {A : Nat → Addr} {σ : L2.St} {H H' : Hp} {ε : Sl}
theorem Rel.after (r : Rel K S T P A σ H ε) {τs : List Tk} {ents outs : List Ent} (hn : (slots τs).Nodup) (ha : argEnts ε τs = some ents) (f : Aft K P H (adrOf A τs) ents P' H' outs) : Rel K S T P' A σ H' (backE τs outs ε) := by
  have ho : ∀ (k i : Nat), τs[k]? = some (Tk.at i) → ∃ ds, outs[k]? = some (.io ds) := fun k i h => by
    obtain ⟨ds, _, h2⟩ := argEnts_at ha h
    obtain ⟨ds', h3, _⟩ := f.io k ds h2
    exact ⟨ds', h3⟩
  -- what is not handed over stands
  have keep : ∀ (a : Addr) (o : HO), H a = some o → (∀ i, i ∈ slots τs → a ≠ A i) → (∀ ps, o ≠ .tbl ps) → H' a = some o := fun a o h1 h2 h3 => f.fr a o h1 (fun k ds hk => by
    rcases argEnts_get ha hk with ⟨d, _, e⟩ | ⟨i, es, h4, _, _⟩
    · cases e
    · rw [adrOf_at h4]
      exact h2 i (mem_slots.mpr ⟨k, h4⟩)) h3
  have isl : ∀ i, i ∈ slots τs → ∃ e, ε[i]? = some e ∧ e.isList = true := fun i hi => by
    obtain ⟨k, hk⟩ := mem_slots.mp hi
    obtain ⟨ds, h1, _⟩ := argEnts_at ha hk
    obtain ⟨e, h2, h3, _⟩ := r.lsAt h1
    exact ⟨e, h2, h3⟩
  have pnone : ∀ {a : Addr} {o : HO}, P a = none → H a = some o → P' a = none := fun {a o} h1 h2 => by
    cases q : P' a with
    | none => rfl
    | some u =>
      rcases f.new a u q with z | z
      · rw [h1] at z; cases z
      · rw [h2] at z; cases z
  refine ⟨by rw [backE_length]; exact r.len, f.sub, f.pt, r.old.trans f.p, fun a o h => ?_, fun a o h1 h2 h3 => keep a o (r.fr a o h1 h2 h3) (fun i hi e => ?_) h3, fun a o h => ?_, r.io, fun j u h => ?_, fun j k u w hjk h1 h2 b1 b2 => ?_, fun p hp => ?_, r.tnd⟩
  · rcases f.new a o h with z | z
    · exact r.new a o z
    · cases q : S.H0 a with
      | none => exact .inr rfl
      | some u =>
        obtain ⟨u', e⟩ := r.tr a u q
        rw [z] at e
        cases e
  · obtain ⟨e', he, hl⟩ := isl i hi
    have z := r.ent i e' he
    cases e' with
    | un => cases hl
    | dat _ => cases hl
    | own ds =>
      obtain ⟨_, _, z3, _⟩ := z
      rw [← e, h1] at z3
      cases z3
    | io ds =>
      obtain ⟨_, _, ⟨z3, _⟩, _⟩ := z
      exact h2 (e ▸ z3)
  · obtain ⟨o', e⟩ := r.tr a o h
    exact f.tr a o' e
  · rcases backE_get hn ho h with ⟨k, ds, e, h1, h2, h3, h4⟩ | ⟨h1, h2⟩
    · obtain ⟨es, h5, h6⟩ := argEnts_at ha h1
      obtain ⟨ds', h7, h8, ws, h9, h10⟩ := f.io k es h6
      rw [h2] at h7
      cases h7
      rw [adrOf_at h1] at h8 h9
      have z := r.ent j e h3
      subst h4
      cases e with
      | un => trivial
      | dat d =>
        exfalso
        unfold DL.lsAt at h5
        rw [h3] at h5
        cases h5
      | own gs =>
        obtain ⟨z1, _, z3, _⟩ := z
        exact ⟨z1, h8, z3, ws, h9, h10⟩
      | io gs =>
        obtain ⟨z1, _, z3, _⟩ := z
        exact ⟨z1, h8, z3, ws, h9, h10⟩
    · have z := r.ent j u h2
      cases u with
      | un => trivial
      | dat d =>
        obtain ⟨v, z1, z2⟩ := z
        exact ⟨v, z1, z2.mono f.p⟩
      | own gs =>
        obtain ⟨z1, z2, z3, ws, z4, z5⟩ := z
        refine ⟨z1, pnone z2 z4, z3, ws, keep _ _ z4 (fun i hi => ?_) (fun _ q => nomatch q), z5.mono f.p⟩
        obtain ⟨e', he, hl⟩ := isl i hi
        exact r.sep j i _ _ (fun q => h1 (q ▸ hi)) h2 he rfl hl
      | io gs =>
        obtain ⟨z1, z2, z3, ws, z4, z5⟩ := z
        refine ⟨z1, pnone z2 z4, z3, ws, keep _ _ z4 (fun i hi => ?_) (fun _ q => nomatch q), z5.mono f.p⟩
        obtain ⟨e', he, hl⟩ := isl i hi
        exact r.sep j i _ _ (fun q => h1 (q ▸ hi)) h2 he rfl hl
  · have key : ∀ (j : Nat) (u : Ent), (backE τs outs ε)[j]? = some u → u.isList = true → ∃ u', ε[j]? = some u' ∧ u'.isList = true := by
      intro j u q hu
      rcases backE_get hn ho q with ⟨k, ds, e, _, _, h3, rfl⟩ | ⟨_, q⟩
      · refine ⟨e, h3, ?_⟩
        cases e <;> first | exact hu | rfl
      · exact ⟨u, q, hu⟩
    obtain ⟨u', y1, y2⟩ := key j u h1 b1
    obtain ⟨w', z1, z2⟩ := key k w h2 b2
    exact r.sep j k u' w' hjk y1 z1 y2 z2
  · obtain ⟨t1, t2, t3, t4⟩ := r.tmp p hp
    refine ⟨keep _ _ t1 (fun i hi e => ?_) p.2.nt, pnone t2 t1, t3, fun j u q b => ?_⟩
    · obtain ⟨e', he, hl⟩ := isl i hi
      exact t4 i e' he hl e.symm
    · rcases backE_get hn ho q with ⟨k, ds, e, _, _, h3, rfl⟩ | ⟨_, q⟩
      · exact t4 j e h3 (by cases e <;> first | exact b | rfl)
      · exact t4 j u q b
end
section
variable {X : Cx} {S : Sta} {R : Exc → Sl → Prop} {e : Expr} {es : List Expr} {pos p : Pos} {x : Str} {k n : Nat} {m : List Ent → FO}
theorem paired_get {α β : Type} {F : α → β → Prop} : ∀ {xs : List α} {ys : List β} {i : Nat} {y : β}, Paired F xs ys → ys[i]? = some y → ∃ x, xs[i]? = some x ∧ F x y
  | _, _, _, _, .nil, h => by simp at h
  | _, _, 0, _, .cons a _, h => by simp at h; subst h; exact ⟨_, rfl, a⟩
  | _, _, i + 1, _, .cons _ b, h => by
    obtain ⟨v, h1, h2⟩ := paired_get (i := i) b (by simpa using h)
    exact ⟨v, by simpa using h1, h2⟩
/-- what a caller must show -/
theorem call_sp {T : Tmp} {P : Hp} {A : Nat → Addr} {σ : L2.St} {H : Hp} {ε : Sl} {τs : List Tk} {vs : List V} {W : WX} {Q : VK} (r : Rel X.K S T P A σ H ε) (ks : Paired (TkOk X.K P A) vs τs) (hn : τs.length = n)
    (hW : ∀ x ε T P A σ H cls d, R x ε → Rel X.K S T P A σ H ε → ExcAt X.K X.mg P H cls d x → W cls d σ H)
    (w : Wish R (match argEnts ε τs with
      | some ents => if (slots τs).Nodup then match m ents with
        | .ok r outs => .ok r (backE τs outs ε)
        | .exc x outs => .exc x (backE τs outs ε)
        | .stuck => .stuck else .stuck
      | none => .stuck : Out Rv) (fun r ε' => ∀ v P' H', Rel X.K S T P' A σ H' ε' → Same P P' → RvOk X.K S T P' A H' ε' v r → Q v H')) : spD X.K X.mg n m vs H Q (WE W σ) := by
  split at w
  · rename_i ents ha
    split at w
    · rename_i nd
      have hl := argEnts_length ha
      have hlv : vs.length = τs.length := Paired.length ks
      refine ⟨P, adrOf A τs, ents, r.sub, r.pt, by omega, by omega, fun i e he => ?_, fun i j ds es hij h1 h2 => ?_, ?_⟩
      · rcases argEnts_get ha he with ⟨d, h1, rfl⟩ | ⟨j, ds, h1, h2, rfl⟩
        · obtain ⟨v, h3, h4⟩ := paired_get ks h1
          exact ⟨v, h3, h4⟩
        · obtain ⟨v, h3, h4⟩ := paired_get ks h1
          obtain ⟨_, _, _, _, h5, ws, h6, h7⟩ := r.lsAt h2
          refine ⟨?_, ?_, ws, ?_, h7⟩
          · rw [adrOf_at h1, h3]
            exact congrArg some h4
          · rw [adrOf_at h1]; exact h5
          · rw [adrOf_at h1]; exact h6
      · rcases argEnts_get ha h1 with ⟨d, _, q⟩ | ⟨a, ds', y1, y2, _⟩
        · cases q
        · rcases argEnts_get ha h2 with ⟨d, _, q⟩ | ⟨b, es', z1, z2, _⟩
          · cases q
          · rw [adrOf_at y1, adrOf_at z1]
            obtain ⟨e1, q1, b1, _⟩ := r.lsAt y2
            obtain ⟨e2, q2, b2, _⟩ := r.lsAt z2
            exact r.sep a b e1 e2 (fun q => hij (slots_inj nd y1 (by rw [z1, q]))) q1 q2 b1 b2
      · cases hm : m ents with
        | ok rv outs =>
          rw [hm] at w
          intro v H' P' f k
          have r' := r.after nd ha f
          refine w v P' H' r' f.p ?_
          cases rv with
          | dat d => exact k
          | lst ds =>
            obtain ⟨a, ws, rfl, h1, h2, h3, h4⟩ := k
            refine ⟨a, ws, rfl, h2, h3, h4, ?_, fun i u hi hu e => ?_, fun q hq e => ?_⟩
            · cases q : S.H0 a with
              | none => rfl
              | some o =>
                obtain ⟨o', z⟩ := r.tr a o q
                rw [h1] at z
                cases z
            · have key : ∃ u', ε[i]? = some u' ∧ u'.isList = true := by
                have ho : ∀ (k i : Nat), τs[k]? = some (Tk.at i) → ∃ ds, outs[k]? = some (.io ds) := fun k i h => by
                  obtain ⟨ds, _, h2⟩ := argEnts_at ha h
                  obtain ⟨ds', h3, _⟩ := f.io k ds h2
                  exact ⟨ds', h3⟩
                rcases backE_get nd ho hi with ⟨k, ds, e, _, _, h3, rfl⟩ | ⟨_, q⟩
                · exact ⟨e, h3, by cases e <;> first | exact hu | rfl⟩
                · exact ⟨u, q, hu⟩
              obtain ⟨u', y1, y2⟩ := key
              have z := r.ent i u' y1
              cases u' with
              | un => cases y2
              | dat _ => cases y2
              | own gs =>
                obtain ⟨_, _, _, vs, z4, _⟩ := z
                rw [e, h1] at z4
                cases z4
              | io gs =>
                obtain ⟨_, _, _, vs, z4, _⟩ := z
                rw [e, h1] at z4
                cases z4
            · obtain ⟨t1, _⟩ := r.tmp q hq
              rw [e, h1] at t1
              cases t1
        | exc x outs =>
          rw [hm] at w
          intro cls d H' P' f k
          exact hW x _ T P' A σ H' cls d w (r.after nd ha f) k
        | stuck => rw [hm] at w; exact w.elim
    · exact w.elim
  · exact w.elim
/-- f(e, ..) -/
theorem dr_call {g : Sl → Out (List Tk)} (C : Cal X.prog X.w X.K X.mg X.base x k n m) (hr : Room k X.A) (tk : Acc X S R) (hg : Gl X x) (ha : DA X S R (e :: es) g) (hn : ∀ ε τs ε', g ε = .ok τs ε' → τs.length = n) (hdb : (x == ("__debug__" : Str)) = false := by decide)
    (he : starEach (e :: es) X.env = (false, eval e X.env) :: starEach es X.env := by rfl) (hpl : (backTo pos (starEach es X.env)).any (·.1) = false := by rfl) : DR X S R (.Call (.Name x p) (e :: es) [] pos) (callF m g) := by
  obtain ⟨f, fd, ps, G, hm, hk, hb⟩ := C
  obtain ⟨W, tW, hW⟩ := tk
  obtain ⟨t, pa, q⟩ := ha
  refine ⟨_, pe_callSD (E := WE W) G hr hg hm hk hb .nil (fun σ => passAt tW σ) pa hdb he hpl, fun T P A σ H ε Q r w => ?_⟩
  unfold callF at w
  cases hgε : g ε with
  | ok τs ε1 =>
    rw [hgε] at w
    refine q T P A σ H ε _ r ?_
    rw [hgε]
    intro vs P' H' r' s' ks
    rw [List.append_nil]
    refine call_sp r' ks (hn ε τs ε1 hgε) hW (Wish.imp w fun rv ε' w v P2 H2 r2 s2 k2 => w v P2 H2 r2 (s'.trans s2) k2)
  | exc x' ε1 =>
    rw [hgε] at w
    exact q T P A σ H ε _ r (by rw [hgε]; exact w)
  | stuck => rw [hgε] at w; exact w.elim
/-- the datum of a returned value: a new list becomes known -/
def Rv.d : Rv → PyData
  | .dat d => d
  | .lst ds => .list ds
theorem DR.dp {f : Sl → Out Rv} (h : DR X S R e f) : DP X S R e (fun ε => (f ε).map Rv.d) := by
  obtain ⟨t, p, q⟩ := h
  refine ⟨t, p, fun T P A σ H ε Q r w => q T P A σ H ε Q r (w.map.imp fun rv ε' w v P' H' r' s' k => ?_)⟩
  cases rv with
  | dat d => exact w v P' H' r' s' k
  | lst ds =>
    obtain ⟨a, vs, rfl, h1, h2, h3, h4, h5, h6⟩ := k
    exact w _ _ H' (r'.learn h1 h3 h4 h5 h6) (s'.trans (same_upd h3)) (Rp.newLst h3 h2)
/-- x = e, whatever e hands back -/
def sSetR (i : Nat) (f : Sl → Out Rv) : Sl → SO := fun ε => (f ε).so fun r ε' => if i < ε'.length then .nx (r.put ε' i) else .stuck
theorem ds_setR (i : Nat) {y : Str} {pos' : Pos} {f : Sl → Out Rv} (h : DR X S R e f) (hN : X.N.Nodup) (hi : X.N[i]? = some y := by rfl) (hx : Loc X.env.scope y := by first | exact Or.inl rfl | exact Or.inr rfl) (hs : swapsWith e (some (.Name y pos')) pos.line X.env = pure false := by rfl)
    (hf : X.fn y = true ∨ X.env.scope.names.lookup y = some .local := by first | exact .inl rfl | exact .inr rfl | assumption) : DS X S R (.Assign [.Name y pos'] e pos) (sSetR i f) := by
  obtain ⟨t, p, q⟩ := h
  refine ⟨_, ps_set hN hi hx p hs hf, fun T P A σ H ε D r w => q T P A σ H ε _ r (w.so.imp fun rv ε' w v P' H' r' s' k => ?_)⟩
  split at w
  · rename_i hl
    obtain ⟨A', r2⟩ := RvOk.put r' hl k
    exact w P' A' _ H' r2 s'
  · exact w.elim
/-- return e, whatever e hands back -/
def sRetR (f : Sl → Out Rv) : Sl → SO := fun ε => (f ε).so fun r ε' => .rt r ε'
theorem ds_retR {f : Sl → Out Rv} (h : DR X S R e f) : DS X S R (.Return (some e) pos) (sRetR f) := by
  obtain ⟨t, p, q⟩ := h
  exact ⟨_, ps_ret p, fun T P A σ H ε D r w => q T P A σ H ε _ r (w.so.imp fun rv ε' w v P' H' r' s' k => w v P' A σ H' r' s' k)⟩
end
/-- nothing is let out -/
theorem acc0 {X : Cx} {S : Sta} : Acc X S R0 := ⟨fun _ _ _ _ => False, takes0, fun _ _ _ _ _ _ _ _ _ h => h.elim⟩
end DL
/-! DLl: sorted, dicts that are known -/
namespace DL
open PySem PySem.Spec PyProof.Rows L2

/-- the items of a datum that is walked once -/
def colD : PyData → Option (List PyData)
  | .list xs => some xs
  | .tuple xs => some xs
  | .dict es => some (es.map (·.1))
  | _ => none
def sortableB (ds : List PyData) : Bool := (ds.all fun d => match d with | .tuple (_ :: _) => true | _ => false) || ds.all fun d => match d with | .none => false | .tuple _ => false | _ => true
def sortD (ds : List PyData) : List PyData := ds.mergeSort (PySem.W.dataLe false fun d => d)
def sortOk (ds : List PyData) : Bool := (ds.all fun d => ds.all fun d' => PySem.W.alike d d') && sortableB ds && (ds.all fun d => decide (d.depth ≤ 60)) && decide (ds.length ≤ 16777216)
def sortN : List PyData → Option (List PyData)
  | [d] => match colD d with
    | some ds => if sortOk ds = true then some (sortD ds) else none
    | none => none
  | _ => none
theorem sortable_of {ds : List PyData} (h : sortableB ds = true) : PySem.W.Sortable ds := by
  unfold sortableB at h
  rcases Bool.or_eq_true _ _ |>.mp h with h | h
  · refine .inl fun d hd => ?_
    have z := List.all_eq_true.mp h d hd
    revert z
    cases d with
    | tuple xs => cases xs with
      | nil => intro z; cases z
      | cons x r => intro _; exact ⟨x, r, rfl⟩
    | none => intro z; cases z
    | bool _ => intro z; cases z
    | int _ => intro z; cases z
    | str _ => intro z; cases z
    | list _ => intro z; cases z
    | dict _ => intro z; cases z
  · refine .inr fun d hd => ?_
    have z := List.all_eq_true.mp h d hd
    revert z
    cases d with
    | none => intro z; cases z
    | tuple xs => intro z; cases z
    | bool _ => intro _; exact ⟨(fun q => nomatch q), fun _ q => nomatch q⟩
    | int _ => intro _; exact ⟨(fun q => nomatch q), fun _ q => nomatch q⟩
    | str _ => intro _; exact ⟨(fun q => nomatch q), fun _ q => nomatch q⟩
    | list _ => intro _; exact ⟨(fun q => nomatch q), fun _ q => nomatch q⟩
    | dict _ => intro _; exact ⟨(fun q => nomatch q), fun _ q => nomatch q⟩
theorem alike_of {ds : List PyData} (h : (ds.all fun d => ds.all fun d' => PySem.W.alike d d') = true) : PySem.W.AllAlike ds := fun d hd d' hd' => List.all_eq_true.mp (List.all_eq_true.mp h d hd) d' hd'
section
variable {X : Cx} {pins : List (Addr × Obj)} {σ : L2.St} {H P : Hp} {s : Shared}
theorem each_reads (I : Inv X pins σ H s) (e : Same P H) : ∀ {vs : List V} {ds : List PyData} {us : List Value}, RpAll X.K P vs ds → Vals vs us → PySem.W.EachIs (fun u d => ∃ as, Reads s.heap u d as) us ds
  | _, _, _, .nil, r => by cases r; exact .nil
  | _, _, _, .cons h q, r => by
    cases r with
    | cons r1 r2 => exact .cons (Rp.reads I e h r1) (each_reads I e q r2)
theorem each_rp {K : PySem.W.Frag} : ∀ {vs : List V} {ds : List PyData} {us : List Value}, RpAll K P vs ds → Vals vs us → PySem.W.EachIs (fun u d => ∃ v, RelV v u ∧ Rp K P v d) us ds
  | _, _, _, .nil, r => by cases r; exact .nil
  | _, _, _, .cons h q, r => by
    cases r with
    | cons r1 r2 => exact .cons ⟨_, r1, h⟩ (each_rp q r2)
theorem rp_each {K : PySem.W.Frag} : ∀ {ds : List PyData} {us : List Value}, PySem.W.EachIs (fun u d => ∃ v, RelV v u ∧ Rp K P v d) us ds → ∃ vs, Vals vs us ∧ RpAll K P vs ds
  | _, _, .nil => ⟨[], .nil, .nil⟩
  | _, _, .cons ⟨v, r, q⟩ t => by
    obtain ⟨vs, h1, h2⟩ := rp_each t
    exact ⟨v :: vs, .cons r h1, .cons q h2⟩
/-- the values that stand at a dict's keys -/
theorem dict_items : ∀ {n : Nat} {acc : List Value} {kvs : List (Key × V)} {vs : List (Key × Value)}, KV kvs vs → acc.length = vs.length → (∀ (i : Nat) (v : Value), acc[i]? = some v → ∃ k x, vs[i]? = some (k, x) ∧ (mixKind X.prog X.w).is k v = true) → ∃ ws, Vals ws acc ∧ RpAll X.K P ws (kvs.map fun p => kD p.1)
  | _, [], [], [], .nil, _, _ => ⟨[], .nil, .nil⟩
  | _, [], _ :: _, _ :: _, .cons _ _, hl, _ => by simp at hl
  | _, _ :: _, [], [], .nil, hl, _ => by simp at hl
  | n, u :: acc, p :: kvs, q :: vs, .cons r t, hl, h => by
    obtain ⟨ws, h1, h2⟩ := dict_items (n := n) (acc := acc) t (by simpa using hl) fun i v e => h (i + 1) v (by simpa using e)
    obtain ⟨k, x, e1, e2⟩ := h 0 u rfl
    cases e1
    have e2 := keyIs_shape e2
    rcases e2 with ⟨i, tk, e3, e4⟩ | ⟨y, tk, e3, e4⟩
    · refine ⟨.int i :: ws, .cons ⟨tk, e4⟩ h1, ?_⟩
      rw [List.map_cons, r.1, e3]
      exact .cons (.int i) h2
    · refine ⟨.str y :: ws, .cons ⟨tk, e4⟩ h1, ?_⟩
      rw [List.map_cons, r.1, e3]
      exact .cons (.str y) h2
/-- a list of a datum's items -/
theorem col_any {E : Value → Shared → Prop} {Q : List Value → Shared → Prop} {v : V} {u : Value} {d : PyData} {ds : List PyData} (hc : X.calm = true) (I : Inv X pins σ H s) (sm : Same P H) (r : RelV v u) (h : Rb X.K P H v d) (hi : colD d = some ds) (hl : ds.length ≤ sizeLine)
    (hQ : ∀ us vs s', Inv X pins σ H s' → Vals vs us → RpAll X.K P vs ds → Q us s') : wpAny (model X.prog X.w) X.A.in1 (collect u) Q E s := by
  cases d with
  | none => cases hi
  | bool _ => cases hi
  | int _ => cases hi
  | str _ => cases hi
  | list xs =>
    cases hi
    obtain ⟨a, ws, rfl, ha, ra⟩ := h.lstI sm
    cases r
    obtain ⟨its, rv, pl, hz⟩ := I.list ha
    obtain ⟨o, ho, hcl, n, hd⟩ := pl.isList
    have hlen := rv.length
    have hlen2 := ra.length
    refine wpAny_collect_seq a (.inl rfl) ho hcl hd (fun h' hk => ?_) (by rw [List.size_toArray]; omega)
    rw [List.toList_toArray]
    exact hQ its ws _ (I.kept (t' := s.toks) hk) rv ra
  | tuple xs =>
    cases hi
    obtain ⟨a, ws, rfl, ha, ra⟩ := h.tupI
    cases r
    obtain ⟨its, rv, ⟨o, ho, hcl, n, hd⟩, hz⟩ := I.tuple (sm.sqt ha)
    have hlen := rv.length
    have hlen2 := ra.length
    refine wpAny_collect_seq a (.inr rfl) ho hcl hd (fun h' hk => ?_) (by rw [List.size_toArray]; omega)
    rw [List.toList_toArray]
    exact hQ its ws _ (I.kept (t' := s.toks) hk) rv ra
  | dict es =>
    cases hi
    rcases h with h | ⟨_, _, _, _, e, _⟩
    · cases h with
      | dic h1 h2 h3 =>
        cases r
        obtain ⟨z, lo, vs, rel, dd⟩ := dk_of I.hok (sm _ _ h1)
        obtain ⟨ep, hat⟩ := dd.dictAt
        have hlv : vs.length = es.length := by
          have e1 := rel.length
          have e2 := congrArg List.length h2
          rw [List.length_map, List.length_map] at e2
          omega
        refine PySem.W.kdu_collect (A := X.A.in1) (PySem.W.kdl_dict (knd := mixKind X.prog X.w) (kvs := vs) (ep := ep) lo) (I.ok.hd hc) hat (by rw [List.length_map] at hl; omega) fun h' tk acc hk hacc => ?_
        obtain ⟨ws, y1, y2⟩ := dict_items (X := X) (P := P) (n := 0) (acc := acc.toList) rel (by rw [Array.length_toList, hacc.1]) fun i v e => by
          obtain ⟨k, x, e1, e2⟩ := hacc.2 i v (by rw [← Array.getElem?_toList]; exact e)
          exact ⟨k, x, e1, e2⟩
        rw [h2] at y2
        exact hQ acc.toList ws _ (I.kept hk) y1 y2
    · cases e
theorem cn_sorted (hc : X.calm = true) (hu : X.A.units + 64 < cLine) : CallN X (.builtin "sorted") sortN := by
  intro pins s σ H xs us Q I r h
  obtain ⟨P, ds, z, sm, hr, hg, q⟩ := h
  unfold sortN at hg
  split at hg
  · rename_i d
    split at hg
    · rename_i es hi
      split at hg
      · rename_i hok
        cases hg
        unfold sortOk at hok
        simp only [Bool.and_eq_true, decide_eq_true_eq] at hok
        obtain ⟨⟨⟨k1, k2⟩, k3⟩, k4⟩ := hok
        cases hr with
        | cons h1 h2 =>
          cases h2
          cases r with
          | cons r1 r2 =>
            cases r2
            rename_i u _ _
            refine Calls.call_function_entry PyProof.Rows.kind_sorted PyProof.Rows.plain_sorted PyProof.Rows.entry_sorted (PyProof.Rows.args_sorted1 _) ?_
            unfold Builtin.«sorted»
            refine wpAny_bind (m := checkCount "sorted" 1 1 _) (wpAny_pure ?_)
            have k4' : es.length ≤ sizeLine := by rw [sizeLine_eq]; exact k4
            refine wpAny_bind (col_any hc I sm r1 h1 hi k4' fun ws vs s1 I1 rv ra => ?_)
            have hwl : ws.length = es.length := by rw [← rv.length, ra.length]
            refine wpAny_bind (wpAny_newList ?_ (by omega))
            have hoL : (s1.heap.push (seqObj "list" ws.toArray 0)).get? s1.heap.objs.size = some (seqObj "list" ws.toArray 0) := Heap.get?_push_size _ rfl
            show wpAny _ _ _ _ _ { s1 with heap := s1.heap.push (seqObj "list" ws.toArray 0) }
            have er := each_reads I1 sm ra rv
            have old : ∀ b o, s1.heap.get? b = some o → (PySem.W.sortingHeap (s1.heap.push (seqObj "list" ws.toArray 0)) s1.heap.objs.size ws).get? b = some o := fun b o e =>
              PySem.W.sortingHeap_old (Nat.ne_of_lt (Heap.lt_size e)) (Heap.get?_push_of_some _ e)
            have er' : PySem.W.EachIs (fun v d => ∃ as, Reads (PySem.W.sortingHeap (s1.heap.push (seqObj "list" ws.toArray 0)) s1.heap.objs.size ws) v d as) ws es := er.mono fun _ _ ⟨as, r⟩ => ⟨as, PyProof.Rows.Reads.keeps old r⟩
            have SA := PySem.W.SortsAt.data (prog := X.prog) (w := X.w) (A := X.A.in1.in1) (s := { s1 with heap := PySem.W.sortingHeap (s1.heap.push (seqObj "list" ws.toArray 0)) s1.heap.objs.size ws }) er' (alike_of k1) (sortable_of k2) fun d hd => by
              have := of_decide_eq_true (List.all_eq_true.mp k3 d hd)
              show X.A.units + 1 + 1 + d.depth < cLine
              omega
            refine wpAny_bind (wpAny_holding (wpAny_call_entry PyProof.Rows.slot_list_sort ⟨_, hoL, rfl⟩ PyProof.Rows.entry_list_sort
              (PySem.W.list_sort_vals (s := { s1 with heap := s1.heap.push (seqObj "list" ws.toArray 0) }) hoL SA (by omega) ⟨_, rfl, ?_⟩) (PyProof.Rows.args_list_sort _)))
            obtain ⟨e', he'⟩ := PyProof.Rows.sortedHeap_at (vs := ws) (out := (PySem.W.sortVals (PySem.W.dataKind (PySem.W.sortingHeap (s1.heap.push (seqObj "list" ws.toArray 0)) s1.heap.objs.size ws) es) false ws ws).toArray) hoL
            have eo := PySem.W.sortVals_data (R := fun u d => ∃ v, RelV v u ∧ Rp X.K P v d) (enc := fun d => d) false (each_rp ra rv) er' (by rw [List.map_id']; exact alike_of k1)
            rw [List.map_id'] at eo
            obtain ⟨vs', rv', ra'⟩ := rp_each eo
            have hvl : vs'.length = es.length := by rw [ra'.length, List.length_mergeSort]
            refine wpAny_pure ⟨_, rfl, .ref s1.heap.objs.size, upd H s1.heap.objs.size (.lst vs'), I1.laid (t' := s1.toks) (fun b u e => ?_) (Nat.le_refl _)
              (show ObjOk X.prog X.w _ _ _ (.lst vs') from ⟨by omega, _, e', rv', he'⟩), rfl, q _ vs' (I1.hok.fresh (Nat.le_refl _)) ra'⟩
            have hb : b < s1.heap.objs.size := Heap.lt_size e
            rw [PyProof.Rows.sortedHeap_old (Nat.ne_of_lt hb) (by rw [size_push']; exact Nat.lt_succ_of_lt hb)]
            exact Heap.get?_push_of_some _ e
      · cases hg
    · cases hg
  · cases hg
end
end DL
/-! DLm: dicts: {}, {k: v for ..} -/
namespace DL
open PySem PySem.Spec PyProof.Rows L2

def keyOfD : PyData → Option Key
  | .int i => some (.inl i)
  | .str x => some (.inr x)
  | _ => none
theorem keyOfD_kD (k : Key) : keyOfD (kD k) = some k := by cases k <;> rfl
theorem keyOfD_eq {d : PyData} {k : Key} (h : keyOfD d = some k) : d = kD k := by
  cases d <;> first | (cases h; rfl) | cases h
def putD (es : List (PyData × PyData)) (k : Key) (v : PyData) : List (PyData × PyData) :=
  if (es.any fun e => decide (keyOfD e.1 = some k)) = true then es.map (fun e => if keyOfD e.1 = some k then (e.1, v) else e) else es ++ [(kD k, v)]
def Dk (K : PySem.W.Frag) (P : Hp) (kvs : List (Key × V)) (es : List (PyData × PyData)) : Prop := kvs.map (fun p => kD p.1) = es.map (·.1) ∧ RpAll K P (kvs.map (·.2)) (es.map (·.2))
section
variable {K : PySem.W.Frag} {P P' : Hp}
theorem Dk.mono {kvs : List (Key × V)} {es : List (PyData × PyData)} (e : Same P P') (h : Dk K P kvs es) : Dk K P' kvs es := ⟨h.1, h.2.mono e⟩
theorem Dk.nil : Dk K P [] [] := ⟨rfl, .nil⟩
theorem Dk.cons {p : Key × V} {e : PyData × PyData} {kvs : List (Key × V)} {es : List (PyData × PyData)} (h : kD p.1 = e.1) (r : Rp K P p.2 e.2) (t : Dk K P kvs es) : Dk K P (p :: kvs) (e :: es) := ⟨by rw [List.map_cons, List.map_cons, h, t.1], .cons r t.2⟩
theorem Dk.length {kvs : List (Key × V)} {es : List (PyData × PyData)} (h : Dk K P kvs es) : kvs.length = es.length := by
  have := congrArg List.length h.1
  rwa [List.length_map, List.length_map] at this
theorem Dk.inv : ∀ {kvs : List (Key × V)} {es : List (PyData × PyData)}, Dk K P kvs es → (kvs = [] ∧ es = []) ∨ ∃ p ks e rs, kvs = p :: ks ∧ es = e :: rs ∧ kD p.1 = e.1 ∧ Rp K P p.2 e.2 ∧ Dk K P ks rs
  | [], [], _ => .inl ⟨rfl, rfl⟩
  | [], _ :: _, h => by cases h.1
  | _ :: _, [], h => by cases h.1
  | p :: ks, e :: rs, ⟨h1, h2⟩ => by
    rw [List.map_cons, List.map_cons] at h1 h2
    injection h1 with h1 h1'
    cases h2 with
    | cons r t => exact .inr ⟨p, ks, e, rs, rfl, rfl, h1, r, h1', t⟩
theorem kD_key {k : Key} {d : PyData} (h : kD k = d) : keyOfD d = some k := by rw [← h, keyOfD_kD]
theorem Dk.any {k : Key} : ∀ {kvs : List (Key × V)} {es : List (PyData × PyData)}, Dk K P kvs es → (kvs.any fun kv => decide (kv.1 = k)) = es.any fun e => decide (keyOfD e.1 = some k)
  | kvs, es, h => by
    induction kvs generalizing es with
    | nil =>
      rcases h.inv with ⟨_, rfl⟩ | ⟨p, ks, e, rs, z, _⟩
      · rfl
      · cases z
    | cons q ks ih =>
      rcases h.inv with ⟨z, _⟩ | ⟨p, ks', e, rs, z, rfl, h1, h2, h3⟩
      · cases z
      · cases z
        rw [List.any_cons, List.any_cons, ih _ h3, kD_key h1]
        congr 1
        by_cases hk : q.1 = k
        · rw [decide_eq_true hk, decide_eq_true (by rw [hk])]
        · rw [decide_eq_false hk, decide_eq_false (fun z => hk (Option.some.inj z))]
theorem Dk.mapPut {k : Key} {z : V} {v : PyData} (r : Rp K P z v) : ∀ {kvs : List (Key × V)} {es : List (PyData × PyData)}, Dk K P kvs es → Dk K P (kvs.map fun kv => if kv.1 = k then (kv.1, z) else kv) (es.map fun e => if keyOfD e.1 = some k then (e.1, v) else e)
  | kvs, es, h => by
    induction kvs generalizing es with
    | nil =>
      rcases h.inv with ⟨_, rfl⟩ | ⟨p, ks, e, rs, z, _⟩
      · exact Dk.nil
      · cases z
    | cons q ks ih =>
      rcases h.inv with ⟨z, _⟩ | ⟨p, ks', e, rs, z, rfl, h1, h2, h3⟩
      · cases z
      · cases z
        rw [List.map_cons, List.map_cons, kD_key h1]
        by_cases hk : q.1 = k
        · rw [if_pos hk, if_pos (by rw [hk])]
          exact Dk.cons h1 r (ih _ h3)
        · rw [if_neg hk, if_neg (fun z => hk (Option.some.inj z))]
          exact Dk.cons h1 h2 (ih _ h3)
theorem Dk.app {k : Key} {z : V} {v : PyData} (r : Rp K P z v) {kvs : List (Key × V)} {es : List (PyData × PyData)} (h : Dk K P kvs es) : Dk K P (kvs ++ [(k, z)]) (es ++ [(kD k, v)]) := by
  refine ⟨by rw [List.map_append, List.map_append, h.1]; rfl, ?_⟩
  rw [List.map_append, List.map_append]
  exact h.2.append (.cons r .nil)
theorem Dk.put {k : Key} {z : V} {v : PyData} (r : Rp K P z v) {kvs : List (Key × V)} {es : List (PyData × PyData)} (h : Dk K P kvs es) : Dk K P (putK kvs k z) (putD es k v) := by
  unfold putK putD
  rw [h.any]
  split
  · exact h.mapPut r
  · exact h.app r
theorem Rp.newDic {p : Addr} {kvs : List (Key × V)} {es : List (PyData × PyData)} (h : P p = none) (q : Dk K P kvs es) : Rp K (upd P p (.dK kvs)) (.ref p) (.dict es) := .dic upd_same q.1 (q.2.mono (same_upd h))
end
theorem length_putD (es : List (PyData × PyData)) (k : Key) (v : PyData) : (putD es k v).length ≤ es.length + 1 := by
  unfold putD
  split
  · rw [List.length_map]; omega
  · rw [List.length_append]; exact Nat.le_refl _
theorem Rel.learnO {K : PySem.W.Frag} {S : Sta} {T : Tmp} {P : Hp} {A : Nat → Addr} {σ : L2.St} {H : Hp} {ε : Sl} {a : Addr} {o : TOb} (r : Rel K S T P A σ H ε) (ha : H a = some o.ho) (hp : P a = none) (h0 : S.H0 a = none) (hA : ∀ i e, ε[i]? = some e → e.isList = true → A i ≠ a) (hT : ∀ p ∈ T, p.1 ≠ a) :
    Rel K S T (upd P a o.ho) A σ H ε := by
  have s2 : Same P (upd P a o.ho) := same_upd hp
  refine ⟨r.len, fun b u q => ?_, fun b ps q => ?_, r.old.trans s2, fun b u q => ?_, r.fr, r.tr, r.io, fun j u q => ?_, r.sep, fun p hp => ?_, r.tnd⟩
  · by_cases hb : b = a
    · subst hb
      rw [upd_same] at q
      cases q
      exact ha
    · rw [upd_ne hb] at q
      exact r.sub _ _ q
  · by_cases hb : b = a
    · subst hb
      rw [upd_same] at q
      exact o.nt ps (Option.some.inj q)
    · rw [upd_ne hb] at q
      exact r.pt _ _ q
  · by_cases hb : b = a
    · subst hb
      exact .inr h0
    · rw [upd_ne hb] at q
      exact r.new _ _ q
  · have z := r.ent j u q
    cases u with
    | un => trivial
    | dat d =>
      obtain ⟨v, z1, z2⟩ := z
      exact ⟨v, z1, z2.mono s2⟩
    | own es =>
      obtain ⟨z1, z2, z3, ws, z4, z5⟩ := z
      exact ⟨z1, by rw [upd_ne (hA j _ q rfl)]; exact z2, z3, ws, z4, z5.mono s2⟩
    | io es =>
      obtain ⟨z1, z2, z3, ws, z4, z5⟩ := z
      exact ⟨z1, by rw [upd_ne (hA j _ q rfl)]; exact z2, z3, ws, z4, z5.mono s2⟩
  · obtain ⟨t1, t2, t3, t4⟩ := r.tmp p hp
    exact ⟨t1, by rw [upd_ne (hT p hp)]; exact t2, t3, t4⟩
section
variable {X : Cx} {S : Sta} {R : Exc → Sl → Prop}
theorem dp_dict0 {pos : Pos} : DP X S R (.Dict [] [] pos) (kConst (.dict [])) :=
  ⟨_, pe_dnewK, fun T P A σ H ε Q r w => fun p hp => w (.ref p) (upd P p (.dK [])) _ (r.grow (Gro.laid r.sub hp fun _ z => nomatch z)) (same_upd (r.sub.free hp)) (Rp.newDic (r.sub.free hp) Dk.nil)⟩

/-! ### {k: v for tg in iter if ..} -/
def compD (vs : List Nat) (g : PyData → Sl → Option Sl) (c : Sl → Out Bool) (fk fv : Sl → Out PyData) : List PyData → List (PyData × PyData) → Sl → Out (List (PyData × PyData))
  | [], acc, ε => .ok acc ε
  | d :: r, acc, ε => match g d (wipeE ε vs) with
    | none => .stuck
    | some ε1 => (c ε1).bind fun b ε2 => match b with
      | true => (fk ε2).bind fun k ε3 => (fv ε3).bind fun v ε4 => match keyOfD k with
        | some k' => compD vs g c fk fv r (putD acc k' v) ε4
        | none => .stuck
      | false => compD vs g c fk fv r acc ε2
def kDc (it : Sl → Out (List PyData)) (vs : List Nat) (g : PyData → Sl → Option Sl) (c : Sl → Out Bool) (fk fv : Sl → Out PyData) : Sl → Out PyData := fun ε => (it ε).bind fun ds ε1 =>
  if ds.length ≤ 16777216 then (calmO (compD vs g c fk fv ds [] ε1)).bind fun es ε2 => .ok (.dict es) (restE ε1 ε2 vs) else .stuck
theorem wipe_at_e {vs : List Nat} {ε : Sl} {j : Nat} (hk : j ∉ vs) : (wipeE ε vs)[j]? = ε[j]? := by
  induction vs with
  | nil => rfl
  | cons u us ih =>
    unfold wipeE
    rw [List.getElem?_set_ne (fun z => hk (by rw [z]; exact List.mem_cons_self))]
    exact ih fun z => hk (List.mem_cons_of_mem _ z)
theorem dc_read {K : PySem.W.Frag} {wi : TI} {it : Sl → Out (List PyData)} {ts vs : List Nat} {g : PyData → Sl → Option Sl} {c : Sl → Out Bool} {fk fv : Sl → Out PyData} (hts : ∀ i ∈ ts, i ∈ vs)
    (qi : ∀ T P A σ H ε (Q : It → Hp → Prop), Rel K S T P A σ H ε → Wish R (it ε) (fun ds ε' => ∀ P' H' J Good, Rel K S T P' A σ H' ε' → Same P P' → Wk K J ds Good → (∀ P2 H2, Same P' P2 → Same P2 H2 → Good P2 H2) → Q J H') → wi σ H Q)
    {T : Tmp} {P : Hp} {A : Nat → Addr} {σ : L2.St} {H : Hp} {ε : Sl} {Q : VK} (r : Rel K S T P A σ H ε)
    (w : Wish R (kDc it vs g c fk fv ε) (fun d ε' => ∀ v P' H', Rel K S T P' A σ H' ε' → Same P P' → Rp K P' v d → Q v H')) :
    tDc wi (tG K S ts g) (tB' K S R0 c) (tP K S R0 fk) (tP K S R0 fv) vs σ H Q := by
  refine qi T P A σ H ε _ r (w.bind.imp fun ds ε1 w P1 H1 J Good r1 s1 wk good => ?_)
  split at w
  · rename_i hlen
    intro D hD
    have w : Wish R0 (compD vs g c fk fv ds [] ε1) (fun es ε2 => ∀ v P' H', Rel K S T P' A σ H' (restE ε1 ε2 vs) → Same P P' → Rp K P' v (.dict es) → Q v H') := w.bind.calm
    refine ⟨fun i m H => m = ds.length - i ∧ i ≤ ds.length ∧ ∃ P2 ε2 acc es, Rel K S ((D, .dK acc) :: T) P2 A (L2.wipe σ vs) H (wipeE ε2 vs) ∧ Same P1 P2 ∧ Dk K P2 acc es ∧ es.length ≤ i ∧
      Wish R0 (compD vs g c fk fv (ds.drop i) es ε2) (fun es ε2 => ∀ v P' H', Rel K S T P' A σ H' (restE ε1 ε2 vs) → Same P P' → Rp K P' v (.dict es) → Q v H'), ⟨_, by rfl, Nat.zero_le _, P1, ε1, [], [], ?_, Same.refl _, Dk.nil, Nat.le_refl _, w⟩, ?_⟩
    · have g0 := Gro.loose (o := .dK []) r1.sub hD
      have r2 := (r1.grow g0).wipe vs
      refine r2.push (o := .dK []) upd_same (r1.sub.free hD) ?_ (fun j u hj hu e => ?_) fun p hp e => ?_
      · cases q : S.H0 D with
        | none => rfl
        | some o =>
          obtain ⟨o', z⟩ := r1.tr D o q
          rw [hD] at z
          cases z
      · have r1w := r1.wipe vs
        have z := r1w.ent j u hj
        cases u with
        | un => cases hu
        | dat _ => cases hu
        | own ds =>
          obtain ⟨_, _, _, vs, h4, _⟩ := z
          rw [e, hD] at h4
          cases h4
        | io ds =>
          obtain ⟨_, _, _, vs, h4, _⟩ := z
          rw [e, hD] at h4
          cases h4
      · obtain ⟨t1, _⟩ := r1.tmp p hp
        rw [e, hD] at t1
        cases t1
    · rintro i m H2 ⟨rfl, hi, P2, ε2, acc, es, r2, s2, ra, hes, w2⟩
      have gd := good P2 H2 s2 r2.sub
      by_cases hlt : i < ds.length
      · refine .inr ⟨wk.1 i P2 H2 hlt gd, fun H3 => ∃ P3 ε3 acc es, Rel K S ((D, .dK acc) :: T) P3 A (L2.wipe σ vs) H3 (wipeE ε3 vs) ∧ Same P1 P3 ∧ Dk K P3 acc es ∧ es.length ≤ i + 1 ∧
          Wish R0 (compD vs g c fk fv (ds.drop (i + 1)) es ε3) (fun es ε2 => ∀ v P' H', Rel K S T P' A σ H' (restE ε1 ε2 vs) → Same P P' → Rp K P' v (.dict es) → Q v H'),
          fun H3 h3 => ⟨ds.length - (i + 1), by omega, rfl, hlt, h3⟩, fun x H3 y => ?_⟩
        obtain ⟨P3, d, gr, hd, rp⟩ := wk.2.2 i P2 H2 x H3 hlt gd y
        rw [drop_cons hd] at w2
        have r3 := r2.grow gr
        unfold compD at w2
        cases hgd : g d (wipeE ε2 vs) with
        | none => rw [hgd] at w2; exact w2.elim
        | some ε3 =>
          rw [hgd] at w2
          refine ⟨_, P3, A, _, d, ε3, r3, rp, hgd, fun σ4 r4 o4 => ?_⟩
          have e4 := wipe_only o4 hts
          refine ⟨e4, _, P3, A, ε3, r4, w2.bind.imp fun b ε4 w4 P5 H5 r5 s5 => ?_⟩
          cases b with
          | false =>
            rw [if_neg Bool.false_ne_true]
            have r6 := r5.wipe vs
            rw [e4] at r6
            exact ⟨P5, ε4, acc, es, r6, (s2.trans gr.p).trans s5, (ra.mono gr.p).mono s5, by omega, w4⟩
          | true =>
            rw [if_pos rfl]
            refine ⟨_, P5, A, ε4, r5, (show Wish R0 ((fk ε4).bind _) _ from w4).bind.imp fun y ε5 w5 yv P6 H6 r6 s6 rpk => ?_⟩
            refine ⟨_, P6, A, ε5, r6, w5.bind.imp fun z ε6 w6 zv P7 H7 r7 s7 rpv => ?_⟩
            split at w6
            · rename_i k hk
              have hk := keyOfD_eq hk
              subst hk
              obtain ⟨h1, h2, h3, h4⟩ := r7.tmp _ List.mem_cons_self
              have hal : acc.length = es.length := ra.length
              refine ⟨acc, k, ?_, h1, by rw [sizeLine_eq]; omega, P7, ε6, putK acc k zv, putD es k z, ?_, (((s2.trans gr.p).trans s5).trans s6).trans s7, ((((ra.mono gr.p).mono s5).mono s6).mono s7).put rpv, ?_, w6⟩
              · cases k with
                | inl i => exact rpk.intI
                | inr x => cases rpk; rfl
              · have r8 := (r7.tmpSet (ws := .dK (putK acc k zv))).wipe vs
                rw [e4] at r8
                exact r8
              · have := length_putD es k z
                omega
            · exact w6.elim
      · have e : i = ds.length := by omega
        subst e
        rw [List.drop_length] at w2
        refine .inl ⟨wk.2.1 P2 H2 gd, ?_⟩
        obtain ⟨r3, h1, h2, h3, h4, h5⟩ := r2.pop
        have w3 : ∀ v P' H', Rel K S T P' A σ H' (restE ε1 ε2 vs) → Same P P' → Rp K P' v (.dict es) → Q v H' := w2
        have r4 : Rel K S T P2 A σ H2 (restE ε1 (wipeE ε2 vs) vs) := Rel.restore r1 s2 r3
        rw [rest_wipe] at r4
        refine w3 (.ref D) (upd P2 D (.dK acc)) H2 (r4.learnO (o := .dK acc) h1 h2 h3 (fun j u hj hu => ?_) h5) ((s1.trans s2).trans (same_upd h2)) (Rp.newDic h2 ra)
        rcases restE_get hj with ⟨_, rfl | ⟨d, rfl, _⟩⟩ | ⟨hjv, q⟩
        · cases hu
        · cases hu
        · exact h4 j u (by rw [wipe_at_e hjv]; exact q) hu
  · exact w.elim
variable {e kx vx tg iter : Expr} {ifs : List Expr} {scope : Scope} {own : List (Str × Nat)} {pos : Pos}
theorem dp_dc {it : Sl → Out (List PyData)} {ts : List Nat} {g : PyData → Sl → Option Sl} {c : Sl → Out Bool} {fk fv : Sl → Out PyData} (hc : X.calm = true) (hN : X.N.Nodup) (hi : DI X S R tg iter it) (ok : BlkOk X.N X.env.scope scope own)
    (hg : ∀ (s : Shared) (H : Hp) (C : Addr) (cl : List (Str × Addr)) (fp : List Addr), DG (X.blk s H scope (compEnvC scope cl C X.env) fp) S ts tg g) (ht : ∀ (s : Shared) (H : Hp) (C : Addr) (cl : List (Str × Addr)) (fp : List Addr), DTs (X.blk s H scope (compEnvC scope cl C X.env) fp) S R0 ifs c)
    (hk : ∀ (s : Shared) (H : Hp) (C : Addr) (cl : List (Str × Addr)) (fp : List Addr), DP (X.blk s H scope (compEnvC scope cl C X.env) fp) S R0 kx fk)
    (he : ∀ (s : Shared) (H : Hp) (C : Addr) (cl : List (Str × Addr)) (fp : List Addr), DP (X.blk s H scope (compEnvC scope cl C X.env) fp) S R0 vx fv) (hts : ∀ i ∈ ts, i ∈ own.map (·.2) := by decide) (hs : ∀ x, foldedSetIterable iter X.env x = pure x := by intro _; rfl) :
    DP X S R (.DictComp kx vx [⟨tg, iter, ifs, 0⟩] scope pos) (kDc it (own.map (·.2)) g c fk fv) := by
  obtain ⟨wi, pi, qi⟩ := hi
  exact ⟨_, pe_dc (g := tG X.K S ts g) (tt := tB' X.K S R0 c) (tk := tP X.K S R0 fk) (tv := tP X.K S R0 fv) hc hN pi ok (fun s H C cl fp => (hg s H C cl fp).pg) ht (fun s H C cl fp => (hk s H C cl fp).pe) (fun s H C cl fp => (he s H C cl fp).pe) hs, fun T P A σ H ε Q r w => dc_read hts qi r w⟩
end
end DL
/-! DLn: list(range(..)), tuple(range(..)) -/
namespace DL
open PySem PySem.Spec PyProof.Rows L2

theorem rp_range {K : PySem.W.Frag} {P : Hp} : ∀ (l : List Nat) (a : Int), RpAll K P (l.map fun i => V.int (a + (i : Nat))) (l.map fun (k : Nat) => PyData.int (a + (k : Int)))
  | [], _ => .nil
  | _ :: r, a => .cons (.int _) (rp_range r a)
def rgOk (a b : Int) : Bool := decide (-(2 ^ 62) ≤ a) && decide (a < 2 ^ 62) && decide (-(2 ^ 62) ≤ b) && decide (b < 2 ^ 62) && decide ((b - a).toNat ≤ 16777216)
theorem rgOk_of {a b : Int} (h : rgOk a b = true) : RgOk a b := by
  unfold rgOk at h
  simp only [Bool.and_eq_true, decide_eq_true_eq] at h
  exact ⟨h.1.1.1.1, h.1.1.1.2, h.1.1.2, h.1.2, h.2⟩
def nRg1 (f : Sl → Out PyData) : Sl → Out (List PyData) := fun ε => (f ε).bind fun d ε' => match d with
  | .int n => if rgOk 0 n = true then .ok (rangeD 0 n.toNat) ε' else .stuck
  | _ => .stuck
def nRg2 (f g : Sl → Out PyData) : Sl → Out (List PyData) := fun ε => (f ε).bind fun d ε1 => (g ε1).bind fun d2 ε' => match d with
  | .int a => match d2 with
    | .int b => if rgOk a b = true then .ok (rangeD a (b - a).toNat) ε' else .stuck
    | _ => .stuck
  | _ => .stuck
section
variable {X : Cx} {S : Sta} {R : Exc → Sl → Prop} {e a b : Expr} {pos p p2 q : Pos}
theorem dn_listRg1 {f : Sl → Out PyData} (hc : X.calm = true) (h : DP X S R a f) (hg : Gl X "list") (hm : X.mg "list" = none) (hg2 : Gl X "range") (hm2 : X.mg "range" = none) (na : starEach [a] X.env = (false, eval a X.env) :: starEach [] X.env := by rfl)
    (nb : starEach [.Call (.Name "range" p2) [a] [] q] X.env = (false, eval (.Call (.Name "range" p2) [a] [] q) X.env) :: starEach [] X.env := by rfl) : DN X S R (.Call (.Name "list" p) [.Call (.Name "range" p2) [a] [] q] [] pos) (nRg1 f) := by
  obtain ⟨t, pe, k⟩ := h
  refine ⟨_, pe_listRg hc hg hm (prg_1 hg2 hm2 pe na) nb, fun T P A σ H ε Q r w => k T P A σ H ε _ r (w.bind.imp fun d ε' w v P' H' r' s' rp => ?_)⟩
  split at w
  · rename_i n
    split at w
    · rename_i hn
      cases rp
      refine ⟨n, rfl, rgOk_of hn, fun l hl => fin_new w r' s' hl ?_⟩
      unfold rgV rangeD
      rw [show (n - 0).toNat = n.toNat by omega]
      exact rp_range _ _
    · exact w.elim
  · exact w.elim
theorem dn_listRg2 {f g : Sl → Out PyData} (hc : X.calm = true) (h : DP X S R a f) (h2 : DP X S R b g) (hg : Gl X "list") (hm : X.mg "list" = none) (hg2 : Gl X "range") (hm2 : X.mg "range" = none) (na : starEach [a, b] X.env = (false, eval a X.env) :: starEach [b] X.env := by rfl)
    (na2 : starEach [b] X.env = (false, eval b X.env) :: starEach [] X.env := by rfl) (hp : (backTo q (starEach [b] X.env)).any (·.1) = false := by rfl)
    (nb : starEach [.Call (.Name "range" p2) [a, b] [] q] X.env = (false, eval (.Call (.Name "range" p2) [a, b] [] q) X.env) :: starEach [] X.env := by rfl) : DN X S R (.Call (.Name "list" p) [.Call (.Name "range" p2) [a, b] [] q] [] pos) (nRg2 f g) := by
  obtain ⟨t, pe, k⟩ := h
  obtain ⟨t2, pe2, k2⟩ := h2
  refine ⟨_, pe_listRg hc hg hm (prg_2 hg2 hm2 pe pe2 na na2 hp) nb, fun T P A σ H ε Q r w => k T P A σ H ε _ r (w.bind.imp fun d ε' w0 v P' H' r' s' rp => k2 T P' A σ H' ε' _ r' (w0.bind.imp fun d2 ε2 w v2 P2 H2 r2 s2 rp2 => ?_))⟩
  cases d with
  | int n => cases d2 with
    | int m =>
      have w : Wish R (if rgOk n m = true then Out.ok (rangeD n (m - n).toNat) ε2 else .stuck) (PoN X S T P A σ Q) := w
      split at w
      · rename_i hn
        cases rp
        cases rp2
        exact ⟨n, m, rfl, rfl, rgOk_of hn, fun l hl => fin_new w r2 (s'.trans s2) hl (rp_range _ _)⟩
      · exact w.elim
    | _ => exact w.elim
  | _ => exact w.elim
theorem dp_tupRg1 {f : Sl → Out PyData} (hc : X.calm = true) (h : DP X S R a f) (hg : Gl X "tuple") (hm : X.mg "tuple" = none) (hg2 : Gl X "range") (hm2 : X.mg "range" = none) (na : starEach [a] X.env = (false, eval a X.env) :: starEach [] X.env := by rfl)
    (nb : starEach [.Call (.Name "range" p2) [a] [] q] X.env = (false, eval (.Call (.Name "range" p2) [a] [] q) X.env) :: starEach [] X.env := by rfl) : DP X S R (.Call (.Name "tuple" p) [.Call (.Name "range" p2) [a] [] q] [] pos) (fun ε => (nRg1 f ε).map .tuple) := by
  obtain ⟨t, pe, k⟩ := h
  refine ⟨_, pe_tupRg hc hg hm (prg_1 hg2 hm2 pe na) nb, fun T P A σ H ε Q r w => k T P A σ H ε _ r (w.map.bind.imp fun d ε' w v P' H' r' s' rp => ?_)⟩
  split at w
  · rename_i n
    split at w
    · rename_i hn
      cases rp
      refine ⟨n, rfl, rgOk_of hn, fun l hl => w (.ref l) (upd P' l (.tup (rgV 0 n))) _ (r'.grow (Gro.tup r'.sub hl)) (s'.trans (same_upd (r'.sub.free hl))) (Rp.newTup (r'.sub.free hl) ?_)⟩
      unfold rgV rangeD
      rw [show (n - 0).toNat = n.toNat by omega]
      exact rp_range _ _
    · exact w.elim
  · exact w.elim
theorem dp_tupRg2 {f g : Sl → Out PyData} (hc : X.calm = true) (h : DP X S R a f) (h2 : DP X S R b g) (hg : Gl X "tuple") (hm : X.mg "tuple" = none) (hg2 : Gl X "range") (hm2 : X.mg "range" = none) (na : starEach [a, b] X.env = (false, eval a X.env) :: starEach [b] X.env := by rfl)
    (na2 : starEach [b] X.env = (false, eval b X.env) :: starEach [] X.env := by rfl) (hp : (backTo q (starEach [b] X.env)).any (·.1) = false := by rfl)
    (nb : starEach [.Call (.Name "range" p2) [a, b] [] q] X.env = (false, eval (.Call (.Name "range" p2) [a, b] [] q) X.env) :: starEach [] X.env := by rfl) : DP X S R (.Call (.Name "tuple" p) [.Call (.Name "range" p2) [a, b] [] q] [] pos) (fun ε => (nRg2 f g ε).map .tuple) := by
  obtain ⟨t, pe, k⟩ := h
  obtain ⟨t2, pe2, k2⟩ := h2
  refine ⟨_, pe_tupRg hc hg hm (prg_2 hg2 hm2 pe pe2 na na2 hp) nb, fun T P A σ H ε Q r w => k T P A σ H ε _ r (w.map.bind.imp fun d ε' w0 v P' H' r' s' rp => k2 T P' A σ H' ε' _ r' (w0.bind.imp fun d2 ε2 w v2 P2 H2 r2 s2 rp2 => ?_))⟩
  cases d with
  | int n => cases d2 with
    | int m =>
      have w : Wish R (if rgOk n m = true then Out.ok (rangeD n (m - n).toNat) ε2 else .stuck) (fun a ε => PoP X S T P A σ Q (PyData.tuple a) ε) := w
      split at w
      · rename_i hn
        cases rp
        cases rp2
        exact ⟨n, m, rfl, rfl, rgOk_of hn, fun l hl => w (.ref l) (upd P2 l (.tup (rgV n m))) _ (r2.grow (Gro.tup r2.sub hl)) ((s'.trans s2).trans (same_upd (r2.sub.free hl))) (Rp.newTup (r2.sub.free hl) (rp_range _ _))⟩
      · exact w.elim
    | _ => exact w.elim
  | _ => exact w.elim
end
end DL
/-! DLo: set(x), x a list or tuple of ints and texts; sorted(set(x)), len(set(x)) -/
namespace DL
open PySem PySem.Spec PyProof.Rows L2

def keyE (e : Int × Value) : Key := match e.2 with
  | .int k _ => .inl k
  | .str x _ => .inr x
  | _ => .inl 0
def GoodK (w : World) (e : Int × Value) : Prop := ∃ k : Key, keyIs k e.2 = true ∧ e.1 = keyH w k
instance memKey (k : Key) (ks : List Key) : Decidable (k ∈ ks) := decidable_of_iff (∃ x ∈ ks, x = k) ⟨fun ⟨_, h, e⟩ => e ▸ h, fun h => ⟨k, h, rfl⟩⟩
def addK (ks : List Key) (k : Key) : List Key := if k ∈ ks then ks else ks ++ [k]
def dedK : List Key → List Key → List Key
  | acc, [] => acc
  | acc, k :: r => dedK (addK acc k) r
/-- the set at a: its members -/
def SetQ (w : World) (h : Heap) (a : Addr) (ks : List Key) : Prop :=
  ∃ o es ep t, h.get? a = some o ∧ o.ExactSet ∧ o.data = .set es ep t ∧ (∀ e ∈ es.toList, GoodK w e) ∧ (es.toList.map keyE).Perm ks ∧ ks.Nodup ∧
    es.size < scanBound ∧ t.fits es.size = true ∧ Ris t.place.toList ∧ (w.params.followText "set-order" = true ∨ t.led = true)
theorem addK_nodup {ks : List Key} {k : Key} (h : ks.Nodup) : (addK ks k).Nodup := by
  unfold addK
  split
  · exact h
  · rename_i hk
    rw [List.nodup_append]
    refine ⟨h, by simp, fun x hx y hy e => ?_⟩
    rw [List.mem_singleton] at hy
    exact hk (hy ▸ e ▸ hx)
theorem dedK_length : ∀ (r acc : List Key), (dedK acc r).length ≤ acc.length + r.length
  | [], acc => Nat.le_refl _
  | k :: r, acc => by
    have h := dedK_length r (addK acc k)
    have h2 : (addK acc k).length ≤ acc.length + 1 := by
      unfold addK
      split
      · omega
      · rw [List.length_append]; exact Nat.le_refl _
    show (dedK (addK acc k) r).length ≤ _
    rw [List.length_cons]
    omega
theorem dedK_snoc : ∀ (r acc : List Key) (k : Key), dedK acc (r ++ [k]) = addK (dedK acc r) k
  | [], acc, k => rfl
  | x :: r, acc, k => dedK_snoc r (addK acc x) k
section
variable {P : Program} {w : World} {h h' : Heap} {a : Addr} {ks : List Key}
theorem SetQ.at (R : SetQ w h a ks) (k : ∀ o, h.get? a = some o → h'.get? a = some o) : SetQ w h' a ks := by
  obtain ⟨o, es, ep, t, ho, r⟩ := R
  exact ⟨o, es, ep, t, k o ho, r⟩
theorem keyE_of {k : Key} {e : Int × Value} (h : keyIs k e.2 = true) : keyE e = k := by
  unfold keyE
  rcases keyIs_shape h with ⟨i, t, e1, e2⟩ | ⟨x, t, e1, e2⟩
  · rw [e1, e2]
  · rw [e1, e2]
theorem goodK_elems {l : List (Int × Value)} (g : ∀ e ∈ l, GoodK w e) : ElemsOf (mixKind P w) l := fun e he => by
  obtain ⟨k, h1, h2⟩ := g e he
  refine ⟨⟨k, h1, h2⟩, ?_⟩
  rcases keyIs_shape h1 with ⟨i, t, _, e2⟩ | ⟨x, t, _, e2⟩
  · rw [e2]; rfl
  · rw [e2]; rfl
theorem goodK_mem {l : List (Int × Value)} (g : ∀ e ∈ l, GoodK w e) (k : Key) : k ∈ l.map keyE ↔ ∃ e ∈ l, (mixKind P w).is k e.2 = true := by
  rw [List.mem_map]
  constructor
  · rintro ⟨e, he, q⟩
    obtain ⟨k0, h1, _⟩ := g e he
    rw [keyE_of h1] at q
    exact ⟨e, he, q ▸ h1⟩
  · rintro ⟨e, he, q⟩
    exact ⟨e, he, keyE_of q⟩
end
section
variable {P : Program} {w : World} {A : Around} {E : Value → Shared → Prop} {s : Shared} {a : Addr} {ks : List Key}
theorem setQ_tail {g : Bool → Sem Unit} (hg : ∀ (b : Bool) (s₁ : Shared) (Q' : Unit → Shared → Prop), Q' () s₁ → wpAny (model P w) A (g b) Q' E s₁)
    {o : Obj} {es : Array (Int × Value)} {ep : Nat} {t : SetTable} (ho : s.heap.get? a = some o) (hex : o.ExactSet) (hd : o.data = .set es ep t)
    {es1 : Array (Int × Value)} {t2 : SetTable} {ks : List Key} (g1 : ∀ e ∈ es1.toList, GoodK w e) (m1 : (es1.toList.map keyE).Perm ks) (nd1 : ks.Nodup)
    (hb1 : es1.size < scanBound) (hf2 : t2.fits es1.size = true) (hr : Ris t2.place.toList) (hl : w.params.followText "set-order" = true ∨ t2.led = true) {wasDummy : Bool} {R : Option Bool → Shared → Prop}
    (hR : ∀ h', Heap.SameBut a s.heap h' → SetQ w h' a ks → R (some true) { s with heap := h' }) :
    wpAny (model P w) A (do
        storeSet a es1 t2
        if (!wasDummy && t2.tooFull) = true then do
            g (relayAll t2 es1 (SetTable.grown es1.size)).2.2
            storeSet a (relayAll t2 es1 (SetTable.grown es1.size)).1 (relayAll t2 es1 (SetTable.grown es1.size)).2.1
            pure (some true)
          else pure (some true)) R E s := by
  refine wpAny_bind (wpAny_storeSet_of ho hd ?_ (fits_of_scanBound hb1))
  have ho1 := store_at (es' := es1) (t' := t2) ho hd
  have sb1 := Heap.SameBut.update s.heap a (Obj.putSet es1 t2)
  split
  · have pm := relayAll_perm t2 es1 (SetTable.grown es1.size)
    have hf3 := relayAll_fits t2 es1 (SetTable.grown es1.size)
    have hr3 := relayAll_ris t2 es1 (SetTable.grown es1.size)
    have hl3 := relayAll_led t2 es1 (SetTable.grown es1.size)
    generalize relayAll t2 es1 (SetTable.grown es1.size) = Z at pm hf3 hr3 hl3 ⊢
    obtain ⟨es2, t3, gave⟩ := Z
    dsimp only at pm hf3 hr3 hl3 ⊢
    have hsz : es2.size = es1.size := by rw [← Array.length_toList, pm.length_eq, Array.length_toList]
    have hb2 : es2.size < scanBound := by rw [hsz]; exact hb1
    refine wpAny_bind (hg _ _ _ ?_)
    refine wpAny_bind (wpAny_storeSet_of ho1 rfl ?_ (fits_of_scanBound hb2))
    have ho2 := store_at (es' := es2) (t' := t3) ho1 rfl
    refine wpAny_pure (hR _ (sb1.trans (Heap.SameBut.update _ a _)) ?_)
    exact ⟨_, es2, _, t3, ho2, hex, rfl, fun e he => g1 e (pm.mem_iff.mp he), (pm.map keyE).trans m1, nd1, hb2, hf3, hr3, hl.imp id fun z => by rw [hl3]; exact z⟩
  · exact wpAny_pure (hR _ sb1 ⟨_, es1, _, t2, ho1, hex, rfl, g1, m1, nd1, hb1, hf2, hr, hl⟩)
theorem setQ_add {k : Key} {x : Value} {Q : Bool → Shared → Prop} (hkey : keyIs k x = true) (R : SetQ w s.heap a ks) (room : ks.length + 1 < scanBound)
    (hQ : ∀ h' b, Heap.SameBut a s.heap h' → SetQ w h' a (addK ks k) → Q b { s with heap := h' }) :
    wpAny (model P w) A (setAddHashed a x (keyH w k)) Q E s := by
  obtain ⟨o, es, ep, t, ho, hex, hd, g, hm, nd, hb, hf, hr, hl⟩ := R
  have hkey' : (mixKind P w).is k x = true := hkey
  have hsc : x.scannable = true := by
    rcases keyIs_shape hkey with ⟨i, t, _, e2⟩ | ⟨x, t, _, e2⟩
    · rw [e2]; rfl
    · rw [e2]; rfl
  have hel : ElemsOf (mixKind P w) es.toList := goodK_elems g
  show wpAny (model P w) A (setAddHashed a x ((mixKind P w).hash k)) Q E s
  unfold setAddHashed setAddHashedIn
  refine wpAny_holding (wpAny_bind (wpAny_setState_of ho hd hf ?_))
  dsimp only
  rw [byScan_of hsc hb hel]
  simp only [↓reduceIte]
  unfold setAddByScan
  refine wpAny_bind ?_
  refine wpAny_bind (wpAny_rule ?_)
  refine wpAny_bind (wpAny_setScan_of hkey' ho hd hf hel ?_)
  cases hfi : List.findIdx? (fun e => (mixKind P w).is k e.2) es.toList with
  | some j =>
    dsimp only
    obtain ⟨hj, pj, _⟩ := List.findIdx?_eq_some_iff_getElem.mp hfi
    have hSk : k ∈ ks := hm.mem_iff.mp ((goodK_mem (P := P) (w := w) g k).2 ⟨es.toList[j], List.getElem_mem hj, pj⟩)
    refine wpAny_pure (wpAny_pure ?_)
    refine hQ s.heap _ (Heap.SameBut.refl a s.heap) ?_
    unfold addK
    rw [if_pos hSk]
    exact ⟨o, es, ep, t, ho, hex, hd, g, hm, nd, hb, hf, hr, hl⟩
  | none =>
    dsimp only
    have hnk : k ∉ ks := fun z => by
      obtain ⟨e, he, q⟩ := (goodK_mem (P := P) (w := w) g k).1 (hm.mem_iff.mpr z)
      have c := List.findIdx?_eq_none_iff.mp hfi e he
      rw [q] at c
      cases c
    have hgw : ∀ (b : Bool) {s₁ : Shared} {Q' : Unit → Shared → Prop}, Q' () s₁ → wpAny (model P w) A (match b with | true => rule "set.scan.the-table-gave-way" | false => pure ()) Q' E s₁ :=
      fun b s₁ Q' q => by cases b <;> first | exact wpAny_pure q | exact wpAny_rule q
    have pm := layNew_perm t es ((mixKind P w).hash k) x
    have hf1 := layNew_fits t es ((mixKind P w).hash k) x
    have hr1 := layNew_ris t es ((mixKind P w).hash k) x hr
    have hl1 := layNew_led t es ((mixKind P w).hash k) x
    generalize layNew t es ((mixKind P w).hash k) x = Z at pm hf1 hr1 hl1 ⊢
    obtain ⟨es1, t1, wasDummy, gave⟩ := Z
    dsimp only at pm hf1 hr1 hl1 ⊢
    rw [Array.toList_push] at pm
    have pc : es1.toList.Perm (((mixKind P w).hash k, x) :: es.toList) := pm.trans (List.perm_append_singleton _ _)
    have pk : (es1.toList.map keyE).Perm (k :: es.toList.map keyE) := by
      have q := pc.map keyE
      rw [List.map_cons, keyE_of (e := ((mixKind P w).hash k, x)) hkey] at q
      exact q
    have g1 : ∀ e ∈ es1.toList, GoodK w e := fun e he => by
      rcases List.mem_cons.mp (pc.mem_iff.mp he) with z | z
      · rw [z]; exact ⟨k, hkey, rfl⟩
      · exact g e z
    have m1 : (es1.toList.map keyE).Perm (addK ks k) := by
      unfold addK
      rw [if_neg hnk]
      exact (pk.trans (hm.cons k)).trans (List.perm_append_singleton _ _).symm
    have nd1 : (addK ks k).Nodup := addK_nodup nd
    have hsz : es1.size = ks.length + 1 := by rw [← Array.length_toList, pc.length_eq, List.length_cons, ← hm.length_eq, List.length_map]
    have hb1 : es1.size < scanBound := by rw [hsz]; exact room
    have hled : w.params.followText "set-order" = true ∨ t1.led = true := hl.imp id fun z => by rw [hl1]; exact z
    have fin : ∀ h', Heap.SameBut a s.heap h' → SetQ w h' a (addK ks k) → Q true { s with heap := h' } := fun h' sb r => hQ h' true sb r
    refine wpAny_bind (hgw _ ?_)
    split
    · refine wpAny_bind ?_
      rw [hashByValue_scannable 8 hsc]
      refine wpAny_pure ?_
      refine setQ_tail ?_ ho hex hd g1 m1 nd1 hb1 ?_ ?_ ?_ ?_
      · intro b s₁ Q' q; cases b <;> first | exact wpAny_pure q | exact wpAny_rule q
      · first | (split <;> first | exact hf1 | exact SetTable.fits_plain_off hf1) | exact hf1
      · first | (split <;> exact hr1) | exact hr1
      · first | (split <;> exact hled) | exact hled
      · intro h' sb r; dsimp only; exact wpAny_pure (fin h' sb r)
    · refine wpAny_bind (wpAny_pure ?_)
      simp only [↓reduceIte]
      refine setQ_tail ?_ ho hex hd g1 m1 nd1 hb1 hf1 hr1 hled ?_
      · intro b s₁ Q' q; cases b <;> first | exact wpAny_pure q | exact wpAny_rule q
      · intro h' sb r; dsimp only; exact wpAny_pure (fin h' sb r)
theorem setQ_new {w : World} {h : Heap} {a : Addr} (ho : h.get? a = some { cls := .type "set", dict := none, data := .set #[] 0 (.fresh 0 0 (!w.params.followText "set-order")) }) : SetQ w h a [] :=
  ⟨_, #[], 0, _, ho, ⟨rfl, rfl, rfl⟩, rfl, (fun e he => by simp at he), (by simp), List.nodup_nil, (by decide), (by rfl), List.Pairwise.nil, by
    show _ ∨ (!w.params.followText "set-order") = true
    cases w.params.followText "set-order"
    · exact .inr rfl
    · exact .inl rfl⟩
theorem set_update_keys {I : Addr} {fp wr : List Addr} {G : Array GenState → Array GenState → Prop} {n : Nat} {Pv : Nat → Value → Prop} {St : Nat → Shared → Prop} {R : Result → Shared → Prop}
    (W : WalksS P w A.in1 I fp wr G n Pv St) (S : Addr) (hSf : S ∉ fp) (kl : List Key) (hn : n = kl.length) (hb : kl.length + 1 < scanBound) (hval : ∀ i v, Pv i v → ∃ k, kl[i]? = some k ∧ keyIs k v = true) :
    ∀ (k i : Nat) (s : Shared), n - i = k → i ≤ n → St i s → SetQ w s.heap S (dedK [] (kl.take i)) →
      (∀ s', Moved (S :: wr) G s s' → SetQ w s'.heap S (dedK [] kl) → R (.ok (.ret .none)) s') →
      codeAny (model P w) A (.builtin "set.update.loop" ⟨[.ref S, .ref I], []⟩) R s := by
  have hSw : S ∉ wr := fun h => hSf (W.sub _ h)
  have hsub : ∀ b ∈ wr, b ∈ S :: wr := fun b hb => List.mem_cons_of_mem _ hb
  intro k
  induction k with
  | zero =>
    intro i s hk' hi hst hS hR
    have hin : i = n := by omega
    subst hin
    refine codeAny_builtin F.entry_set_update_loop ?_
    rw [Around.under_plainId F.plain_set_update_loop _]
    show wpAny _ A.in1 (pyNext (.ref I) >>= _) _ _ s
    refine wpAny_bind (W.done s _ _ hst fun s' hm => ?_)
    show wpAny _ A.in1 (ret Value.none) _ _ s'
    have e : kl.take i = kl := List.take_of_length_le (by omega)
    rw [e] at hS
    exact wpAny_pure (hR s' (hm.mono hsub) (hS.at fun o e => hm.heap S o hSw e))
  | succ k ih =>
    intro i s hk' hi hst hS hR
    have hlt : i < n := by omega
    refine codeAny_builtin F.entry_set_update_loop ?_
    rw [Around.under_plainId F.plain_set_update_loop _]
    show wpAny _ A.in1 (pyNext (.ref I) >>= _) _ _ s
    refine wpAny_bind (W.item i s _ _ hlt hst fun v s' hP hst' hm => ?_)
    obtain ⟨z, hz, hv⟩ := hval i v hP
    have hS' : SetQ w s'.heap S (dedK [] (kl.take i)) := hS.at fun o e => hm.heap S o hSw e
    show wpAny _ A.in1 (holding [v] (setAdd S v) >>= _) _ _ s'
    refine wpAny_bind (wpAny_holding ?_)
    unfold setAdd
    refine wpAny_holding ?_
    refine wpAny_bind ((mixKind P w).pyHash (k := z) hv ?_)
    have hlen : (dedK [] (kl.take i)).length ≤ i := by
      have := dedK_length (kl.take i) []
      rw [List.length_take, List.length_nil] at this
      omega
    refine setQ_add (s := { s' with toks := s'.toks + 1 }) hv hS' (by omega) fun h' b hsb hS2 => ?_
    have hS3 : SetQ w h' S (dedK [] (kl.take (i + 1))) := by
      rw [List.take_add_one, hz]
      show SetQ w h' S (dedK [] (kl.take i ++ [z]))
      rw [dedK_snoc]
      exact hS2
    refine wpAny_pure ⟨plainId_quiet F.plain_set_update_loop _, ih (i + 1) _ (by omega) hlt (W.frame _ s' _ _ hst' (Nat.le_succ _) fun b hb o e => ?_) hS3 fun s'' hm'' hS'' => ?_⟩
    · rw [hsb.2 b (fun h : b = S => hSf (by rw [← h]; exact hb))]; exact e
    · refine hR s'' (Moved.trans W.gtrans ((hm.mono hsub).then_heap (Nat.le_succ _) fun b o hb e => ?_) hm'') hS''
      rw [hsb.2 b (fun h : b = S => hb (by rw [h]; exact List.mem_cons_self))]; exact e

theorem call_set_list {l : Addr} {items : Array Value} (kl : List Key) {Q : Value → Shared → Prop} (hh : A.handled = none) (hl : s.heap.IsList l items) (hsz : items.size = kl.length) (hit : ∀ (i : Nat) (v : Value), items[i]? = some v → ∃ k, kl[i]? = some k ∧ keyIs k v = true) (hb : kl.length + 1 < scanBound)
    (h : ∀ (h' : Heap) (tk : Nat), SetQ w h' s.heap.objs.size (dedK [] kl) → (∀ b o, s.heap.get? b = some o → h'.get? b = some o) → Q (.ref s.heap.objs.size) { s with heap := h', toks := tk }) :
    wpAny (model P w) A (call (.type "set") [.ref l]) Q E s := by
  obtain ⟨c, tl, hmro⟩ := F.called_set.mro
  have hmade := F.called_set.made
  have hsub := F.called_set.sub
  refine wpAny_call (codeAny_of_tree ?_)
  show wpAny _ _ (callAny (.type "set") _) _ _ _
  refine wpAny_pure ⟨Code.quiet_builtin _ (by decide +kernel), codeAny_builtin F.entry_type_call ?_⟩
  rw [Around.under_plain (weight_type_call_type "set" [.ref l] []) rfl]
  have h1 := F.called_set.notType
  have h2 := F.called_set.canCreate
  have hct := F.typeCall_set_1 (.ref l)
  repeat (any_goals (first | assumption | wp_step))
  refine codeAny_mono (code_set_led1 (.ref l) (E := E) (Q₁ := fun obj s₁ => obj = .ref s.heap.objs.size ∧ s₁ = { s with heap := s.heap.push { cls := .type "set", dict := none, data := .set #[] 0 (.fresh 0 0 (!w.params.followText "set-order")) } }) ⟨rfl, rfl⟩) fun r s₁ hr => ?_
  cases r with
  | error e => exact hr
  | ok fl =>
    cases fl with
    | ret obj =>
      obtain ⟨rfl, rfl⟩ := hr
      have hS : (s.heap.push { cls := .type "set", dict := none, data := .set #[] 0 (.fresh 0 0 (!w.params.followText "set-order")) }).get? s.heap.objs.size = some { cls := .type "set", dict := none, data := .set #[] 0 (.fresh 0 0 (!w.params.followText "set-order")) } := Heap.get?_push_size _ rfl
      have hT : Shared.TypeIs { s with heap := s.heap.push { cls := .type "set", dict := none, data := .set #[] 0 (.fresh 0 0 (!w.params.followText "set-order")) } } (.ref s.heap.objs.size) "set" := ⟨_, hS, rfl⟩
      have hli := F.called_set.init.lookup
      have hbi := F.called_set.init.bind (.ref s.heap.objs.size)
      repeat (any_goals (first | assumption | wp_step))
      refine codeAny_mono (codeAny_call_builtin (R := wants (fun r s₂ => r = .none ∧ ∃ h' tk, s₂ = { s with heap := h', toks := tk } ∧ SetQ w h' s.heap.objs.size (dedK [] kl) ∧
          (∀ b o, s.heap.get? b = some o → h'.get? b = some o)) E) F.called_set.init.plain F.entry_set_init (check_set_init_1 hT ?_)) fun r₂ s₂ hr₂ => ?_
      · obtain ⟨ol, hol, hcl, nl, hdl⟩ := hl
        obtain ⟨ocls, odict, odata, oslots⟩ := ol
        simp only at hcl hdl
        subst hcl; subst hdl
        have hol' : (s.heap.push { cls := .type "set", dict := none, data := .set #[] 0 (.fresh 0 0 (!w.params.followText "set-order")) }).get? l = some { cls := .type "list", dict := odict, data := .seq items nl, slots := oslots } := Heap.get?_push_of_some _ hol
        have hsls := F.sub_list_set
        have hslf := F.sub_list_frozenset
        have hne : (Value.type "list" == Value.type "dict") = false := by decide
        have hl1 : (s.heap.push { cls := .type "set", dict := none, data := .set #[] 0 (.fresh 0 0 (!w.params.followText "set-order")) }).IsList l items := ⟨_, hol', rfl, nl, rfl⟩
        unfold Builtin.«set.__init__» noKeywords Builtin.Frozenset.updateFrom
        generalize hPI : pyIter = PI
        wp_walk
        subst hPI
        refine wpAny_pyIter_list hl1 ?_
        refine wpAny_bind (wpAny_runValue ?_)
        have hlS : l < s.heap.objs.size := Heap.lt_size hol
        have hh3 : A.in1.in1.in1.handled = none := by simp [hh]
        have hz1 : (s.heap.push { cls := .type "set", dict := none, data := .set #[] 0 (.fresh 0 0 (!w.params.followText "set-order")) }).objs.size = s.heap.objs.size + 1 := Heap.size_push ..
        have hneI : l ≠ (s.heap.push { cls := .type "set", dict := none, data := .set #[] 0 (.fresh 0 0 (!w.params.followText "set-order")) }).objs.size := by rw [Heap.size_push]; exact Nat.ne_of_lt (Nat.lt_succ_of_lt hlS)
        have hSf : s.heap.objs.size ∉ [(s.heap.push { cls := .type "set", dict := none, data := .set #[] 0 (.fresh 0 0 (!w.params.followText "set-order")) }).objs.size, l] := by
          rw [Heap.size_push]; simp only [List.mem_cons, List.mem_singleton, List.not_mem_nil, or_false, not_or]
          exact ⟨Nat.ne_of_lt (Nat.lt_succ_self _), Nat.ne_of_gt hlS⟩
        refine set_update_keys ((Walks.list hh3 _ l hneI items).toS) s.heap.objs.size
          hSf kl hsz hb hit (items.size - 0) 0 _ (by omega) (Nat.zero_le _)
          ⟨⟨_, Heap.get?_push_size _ rfl, rfl, rfl⟩, (hl1.push _)⟩ ?hS0 ?hR
        case hS0 =>
          exact setQ_new (Heap.get?_push_of_some _ hS)
        case hR =>
          intro s' hm hS'
          obtain ⟨h', g2, d', tk', os'⟩ := s'
          have eg : g2 = s.gens := hm.gens
          have ed : d' = s.drawn := hm.drawn
          have eo : os' = s.os := hm.os
          subst eg; subst ed; subst eo
          show wpAny _ _ _ _ _ _
          refine wpAny_pure ?_
          show wpAny _ _ (ret Value.none) _ _ _
          refine wpAny_pure ⟨rfl, h', tk', rfl, hS', fun b o e => ?_⟩
          have hb0 : b < s.heap.objs.size := Heap.lt_size e
          have hb1 : b ≠ s.heap.objs.size := Nat.ne_of_lt hb0
          have hb2 : b ≠ (s.heap.push { cls := .type "set", dict := none, data := .set #[] 0 (.fresh 0 0 (!w.params.followText "set-order")) }).objs.size := by rw [Heap.size_push]; exact Nat.ne_of_lt (Nat.lt_succ_of_lt hb0)
          exact hm.heap b o (by simp only [List.mem_cons, List.mem_singleton, List.not_mem_nil, or_false, not_or]; exact ⟨hb1, hb2⟩) (Heap.get?_push_of_some _ (Heap.get?_push_of_some _ e))
      · cases r₂ with
        | error e => exact hr₂
        | ok fl₂ =>
          cases fl₂ with
          | ret r =>
            obtain ⟨rfl, h', tk, rfl, hS', hk'⟩ := hr₂
            repeat (any_goals (first | assumption | wp_step))
            exact h _ _ hS' hk'
          | _ => exact hr₂.elim
    | _ => exact hr.elim

theorem call_set_tuple {l : Addr} {items : Array Value} (kl : List Key) {Q : Value → Shared → Prop} (hh : A.handled = none) (hl : s.heap.IsTuple l items) (hsz : items.size = kl.length) (hit : ∀ (i : Nat) (v : Value), items[i]? = some v → ∃ k, kl[i]? = some k ∧ keyIs k v = true) (hb : kl.length + 1 < scanBound)
    (h : ∀ (h' : Heap) (tk : Nat), SetQ w h' s.heap.objs.size (dedK [] kl) → (∀ b o, s.heap.get? b = some o → h'.get? b = some o) → Q (.ref s.heap.objs.size) { s with heap := h', toks := tk }) :
    wpAny (model P w) A (call (.type "set") [.ref l]) Q E s := by
  obtain ⟨c, tl, hmro⟩ := F.called_set.mro
  have hmade := F.called_set.made
  have hsub := F.called_set.sub
  refine wpAny_call (codeAny_of_tree ?_)
  show wpAny _ _ (callAny (.type "set") _) _ _ _
  refine wpAny_pure ⟨Code.quiet_builtin _ (by decide +kernel), codeAny_builtin F.entry_type_call ?_⟩
  rw [Around.under_plain (weight_type_call_type "set" [.ref l] []) rfl]
  have h1 := F.called_set.notType
  have h2 := F.called_set.canCreate
  have hct := F.typeCall_set_1 (.ref l)
  repeat (any_goals (first | assumption | wp_step))
  refine codeAny_mono (code_set_led1 (.ref l) (E := E) (Q₁ := fun obj s₁ => obj = .ref s.heap.objs.size ∧ s₁ = { s with heap := s.heap.push { cls := .type "set", dict := none, data := .set #[] 0 (.fresh 0 0 (!w.params.followText "set-order")) } }) ⟨rfl, rfl⟩) fun r s₁ hr => ?_
  cases r with
  | error e => exact hr
  | ok fl =>
    cases fl with
    | ret obj =>
      obtain ⟨rfl, rfl⟩ := hr
      have hS : (s.heap.push { cls := .type "set", dict := none, data := .set #[] 0 (.fresh 0 0 (!w.params.followText "set-order")) }).get? s.heap.objs.size = some { cls := .type "set", dict := none, data := .set #[] 0 (.fresh 0 0 (!w.params.followText "set-order")) } := Heap.get?_push_size _ rfl
      have hT : Shared.TypeIs { s with heap := s.heap.push { cls := .type "set", dict := none, data := .set #[] 0 (.fresh 0 0 (!w.params.followText "set-order")) } } (.ref s.heap.objs.size) "set" := ⟨_, hS, rfl⟩
      have hli := F.called_set.init.lookup
      have hbi := F.called_set.init.bind (.ref s.heap.objs.size)
      repeat (any_goals (first | assumption | wp_step))
      refine codeAny_mono (codeAny_call_builtin (R := wants (fun r s₂ => r = .none ∧ ∃ h' tk, s₂ = { s with heap := h', toks := tk } ∧ SetQ w h' s.heap.objs.size (dedK [] kl) ∧
          (∀ b o, s.heap.get? b = some o → h'.get? b = some o)) E) F.called_set.init.plain F.entry_set_init (check_set_init_1 hT ?_)) fun r₂ s₂ hr₂ => ?_
      · obtain ⟨ol, hol, hcl, nl, hdl⟩ := hl
        obtain ⟨ocls, odict, odata, oslots⟩ := ol
        simp only at hcl hdl
        subst hcl; subst hdl
        have hol' : (s.heap.push { cls := .type "set", dict := none, data := .set #[] 0 (.fresh 0 0 (!w.params.followText "set-order")) }).get? l = some { cls := .type "tuple", dict := odict, data := .seq items nl, slots := oslots } := Heap.get?_push_of_some _ hol
        have hsls := F.sub_tuple_set
        have hslf := F.sub_tuple_frozenset
        have hne : (Value.type "tuple" == Value.type "dict") = false := by decide
        have hl1 : (s.heap.push { cls := .type "set", dict := none, data := .set #[] 0 (.fresh 0 0 (!w.params.followText "set-order")) }).IsTuple l items := ⟨_, hol', rfl, nl, rfl⟩
        unfold Builtin.«set.__init__» noKeywords Builtin.Frozenset.updateFrom
        generalize hPI : pyIter = PI
        wp_walk
        subst hPI
        refine wpAny_pyIter_tuple hl1 ?_
        refine wpAny_bind (wpAny_runValue ?_)
        have hlS : l < s.heap.objs.size := Heap.lt_size hol
        have hh3 : A.in1.in1.in1.handled = none := by simp [hh]
        have hz1 : (s.heap.push { cls := .type "set", dict := none, data := .set #[] 0 (.fresh 0 0 (!w.params.followText "set-order")) }).objs.size = s.heap.objs.size + 1 := Heap.size_push ..
        have hneI : l ≠ (s.heap.push { cls := .type "set", dict := none, data := .set #[] 0 (.fresh 0 0 (!w.params.followText "set-order")) }).objs.size := by rw [Heap.size_push]; exact Nat.ne_of_lt (Nat.lt_succ_of_lt hlS)
        have hSf : s.heap.objs.size ∉ [(s.heap.push { cls := .type "set", dict := none, data := .set #[] 0 (.fresh 0 0 (!w.params.followText "set-order")) }).objs.size, l] := by
          rw [Heap.size_push]; simp only [List.mem_cons, List.mem_singleton, List.not_mem_nil, or_false, not_or]
          exact ⟨Nat.ne_of_lt (Nat.lt_succ_self _), Nat.ne_of_gt hlS⟩
        refine set_update_keys ((Walks.tuple hh3 _ l hneI items).toS) s.heap.objs.size
          hSf kl hsz hb hit (items.size - 0) 0 _ (by omega) (Nat.zero_le _)
          ⟨⟨_, Heap.get?_push_size _ rfl, rfl, rfl⟩, (hl1.push _)⟩ ?hS0 ?hR
        case hS0 =>
          exact setQ_new (Heap.get?_push_of_some _ hS)
        case hR =>
          intro s' hm hS'
          obtain ⟨h', g2, d', tk', os'⟩ := s'
          have eg : g2 = s.gens := hm.gens
          have ed : d' = s.drawn := hm.drawn
          have eo : os' = s.os := hm.os
          subst eg; subst ed; subst eo
          show wpAny _ _ _ _ _ _
          refine wpAny_pure ?_
          show wpAny _ _ (ret Value.none) _ _ _
          refine wpAny_pure ⟨rfl, h', tk', rfl, hS', fun b o e => ?_⟩
          have hb0 : b < s.heap.objs.size := Heap.lt_size e
          have hb1 : b ≠ s.heap.objs.size := Nat.ne_of_lt hb0
          have hb2 : b ≠ (s.heap.push { cls := .type "set", dict := none, data := .set #[] 0 (.fresh 0 0 (!w.params.followText "set-order")) }).objs.size := by rw [Heap.size_push]; exact Nat.ne_of_lt (Nat.lt_succ_of_lt hb0)
          exact hm.heap b o (by simp only [List.mem_cons, List.mem_singleton, List.not_mem_nil, or_false, not_or]; exact ⟨hb1, hb2⟩) (Heap.get?_push_of_some _ (Heap.get?_push_of_some _ e))
      · cases r₂ with
        | error e => exact hr₂
        | ok fl₂ =>
          cases fl₂ with
          | ret r =>
            obtain ⟨rfl, h', tk, rfl, hS', hk'⟩ := hr₂
            repeat (any_goals (first | assumption | wp_step))
            exact h _ _ hS' hk'
          | _ => exact hr₂.elim
    | _ => exact hr.elim
end
end DL
/-! DLp: sorted(set(x)), len(set(x)) -/
namespace DL
open PySem PySem.Spec PyProof.Rows L2

theorem toks_key {k k' : Key} (h : PySem.W.keyToks (kD k) = PySem.W.keyToks (kD k')) : k = k' := by
  cases k with
  | inl i => cases k' with
    | inl j =>
      have h : ([Sum.inl i] : List (Int ⊕ List Nat)) = [Sum.inl j] := by simpa only [kD, PySem.W.keyToks] using h
      cases h
      rfl
    | inr y =>
      have h : ([Sum.inl i] : List (Int ⊕ List Nat)) = [Sum.inr y.cps.toList] := by simpa only [kD, PySem.W.keyToks] using h
      cases h
  | inr x => cases k' with
    | inl j =>
      have h : ([Sum.inr x.cps.toList] : List (Int ⊕ List Nat)) = [Sum.inl j] := by simpa only [kD, PySem.W.keyToks] using h
      cases h
    | inr y =>
      have h : ([Sum.inr x.cps.toList] : List (Int ⊕ List Nat)) = [Sum.inr y.cps.toList] := by simpa only [kD, PySem.W.keyToks] using h
      injection h with h _
      injection h with h
      rw [PySem.W.str_of_cps h]
theorem dataLe_ok : PySem.W.TotalLe (PySem.W.dataLe false fun d : PyData => d) := PySem.W.sortLe_total _ _ _
theorem sortD_pw (ds : List PyData) : (sortD ds).Pairwise fun a b => PySem.W.dataLe false (fun d : PyData => d) a b = true :=
  List.pairwise_mergeSort dataLe_ok.trans (fun a b => by rcases dataLe_ok.total a b with h | h <;> simp [h]) ds
theorem sortD_perm (ds : List PyData) : (sortD ds).Perm ds := List.mergeSort_perm _ _
theorem le_anti {k k' : Key} (h : PySem.W.dataLe false (fun d : PyData => d) (kD k) (kD k') = true) (h' : PySem.W.dataLe false (fun d : PyData => d) (kD k') (kD k) = true) : k = k' := by
  unfold PySem.W.dataLe PySem.W.sortLe at h h'
  simp only [cond_false, Bool.not_eq_true'] at h h'
  exact toks_key ((listOrd itemOrd).total _ _ h' h)
theorem sortD_keys {ks kl : List Key} (p : ks.Perm kl) : sortD (ks.map kD) = sortD (kl.map kD) := by
  refine List.Perm.eq_of_pairwise (fun a b ha hb h1 h2 => ?_) (sortD_pw _) (sortD_pw _) (((sortD_perm _).trans (p.map kD)).trans (sortD_perm _).symm)
  obtain ⟨k, _, rfl⟩ := List.mem_map.mp ((sortD_perm _).mem_iff.mp ha)
  obtain ⟨k', _, rfl⟩ := List.mem_map.mp ((sortD_perm _).mem_iff.mp hb)
  rw [le_anti h1 h2]
theorem sortOk_perm {ks kl : List Key} (p : ks.Perm kl) (h : sortOk (kl.map kD) = true) : sortOk (ks.map kD) = true := by
  have q : ∀ x, x ∈ ks.map kD ↔ x ∈ kl.map kD := fun x => (p.map kD).mem_iff
  unfold sortOk sortableB at h ⊢
  simp only [Bool.and_eq_true, Bool.or_eq_true, List.all_eq_true, decide_eq_true_eq, q, List.length_map, p.length_eq] at h ⊢
  exact h
def keyV (u : Value) : Key := match u with
  | .int k _ => .inl k
  | .str x _ => .inr x
  | _ => .inl 0
theorem keyV_is {k : Key} {u : Value} (h : keyIs k u = true) : keyV u = k := by
  unfold keyV
  rcases keyIs_shape h with ⟨i, t, e1, e2⟩ | ⟨x, t, e1, e2⟩
  · rw [e1, e2]
  · rw [e1, e2]
theorem key_reads {h : Heap} {k : Key} {u : Value} (q : keyIs k u = true) : ∃ as, Reads h u (kD k) as := by
  rcases keyIs_shape q with ⟨i, t, e1, e2⟩ | ⟨x, t, e1, e2⟩
  · rw [e1, e2]; exact ⟨_, .int i t⟩
  · rw [e1, e2]; exact ⟨_, .str x t⟩
theorem key_vals {K : PySem.W.Frag} : ∀ {us : List Value} {ds : List PyData}, PySem.W.EachIs (fun u d => ∃ k, d = kD k ∧ keyIs k u = true) us ds → ∃ vs, Vals vs us ∧ ∀ P, RpAll K P vs ds
  | _, _, .nil => ⟨[], .nil, fun _ => .nil⟩
  | _, _, .cons ⟨k, e, q⟩ t => by
    obtain ⟨vs, h1, h2⟩ := key_vals (K := K) t
    subst e
    rcases keyIs_shape q with ⟨i, tk, e1, e2⟩ | ⟨x, tk, e1, e2⟩
    · exact ⟨.int i :: vs, .cons ⟨tk, e2⟩ h1, fun P => by rw [e1]; exact .cons (.int i) (h2 P)⟩
    · exact ⟨.str x :: vs, .cons ⟨tk, e2⟩ h1, fun P => by rw [e1]; exact .cons (.str x) (h2 P)⟩
theorem each_keys : ∀ {us : List Value}, (∀ u ∈ us, keyIs (keyV u) u = true) → PySem.W.EachIs (fun u d => ∃ k, d = kD k ∧ keyIs k u = true) us ((us.map keyV).map kD)
  | [], _ => .nil
  | u :: r, h => .cons ⟨_, rfl, h u List.mem_cons_self⟩ (each_keys fun v hv => h v (List.mem_cons_of_mem _ hv))
theorem sorted_setQ {P : Program} {w : World} {A : Around} {E : Value → Shared → Prop} {s : Shared} {a : Addr} {ks : List Key} {K : PySem.W.Frag} {Q : Value → Shared → Prop} (R : SetQ w s.heap a ks) (hh : A.handled = none) (hok : sortOk (ks.map kD) = true) (hu : A.units + 64 < cLine)
    (hQ : ∀ s' p (out : Array Value) (c : Nat) vs, (∀ b o, s.heap.get? b = some o → s'.heap.get? b = some o) → s'.gens = s.gens → s'.os = s.os → s.heap.objs.size ≤ p →
      s'.heap.get? p = some (seqObj "list" out c) → Vals vs out.toList → (∀ P, RpAll K P vs (sortD (ks.map kD))) → Q (.ref p) s') :
    wpAny (model P w) A (call (.builtin "sorted") [.ref a]) Q E s := by
  obtain ⟨o, es, ep, t, ho, hex, hd, g, hm, nd, hb, hf, hr, hl⟩ := R
  refine Calls.call_function_entry kind_sorted plain_sorted entry_sorted (args_sorted1 _) ?_
  unfold Builtin.«sorted»
  refine wpAny_bind (m := checkCount "sorted" 1 1 _) (wpAny_pure ?_)
  refine wpAny_bind (collect_set (A := A.in1) hh ⟨o, ho, hex.1, hd⟩ hf hb hr hl fun s1 vs k1 hz g1 o1 pm => ?_)
  have hkey : ∀ u ∈ vs, keyIs (keyV u) u = true := fun u hv => by
    obtain ⟨e, he, q⟩ := List.mem_map.mp (pm.mem_iff.mp hv)
    obtain ⟨k, h1, _⟩ := g e he
    rw [q] at h1
    rw [keyV_is h1]
    exact h1
  have pk : (vs.map keyV).Perm ks := by
    have q := pm.map keyV
    rw [List.map_map] at q
    exact q.trans hm
  have hok' := sortOk_perm pk hok
  have hlen : vs.length ≤ sizeLine := by
    have e := pk.length_eq
    rw [List.length_map] at e
    have e2 := hm.length_eq
    rw [List.length_map, Array.length_toList] at e2
    have e3 : scanBound = 4096 := rfl
    rw [sizeLine_eq]
    omega
  unfold sortOk at hok'
  simp only [Bool.and_eq_true, decide_eq_true_eq] at hok'
  obtain ⟨⟨⟨q1, q2⟩, q3⟩, q4⟩ := hok'
  refine wpAny_bind (wpAny_newList ?_ hlen)
  have hoL : (s1.heap.push (seqObj "list" vs.toArray 0)).get? s1.heap.objs.size = some (seqObj "list" vs.toArray 0) := Heap.get?_push_size _ rfl
  show wpAny _ _ _ _ _ { s1 with heap := s1.heap.push (seqObj "list" vs.toArray 0) }
  have ek := each_keys hkey
  have er' : PySem.W.EachIs (fun v d => ∃ as, Reads (PySem.W.sortingHeap (s1.heap.push (seqObj "list" vs.toArray 0)) s1.heap.objs.size vs) v d as) vs ((vs.map keyV).map kD) := ek.mono fun _ _ ⟨k, e, q⟩ => by rw [e]; exact key_reads q
  have SA := PySem.W.SortsAt.data (prog := P) (w := w) (A := A.in1.in1) (s := { s1 with heap := PySem.W.sortingHeap (s1.heap.push (seqObj "list" vs.toArray 0)) s1.heap.objs.size vs }) er' (alike_of q1) (sortable_of q2) fun d hd => by
    have := of_decide_eq_true (List.all_eq_true.mp q3 d hd)
    show A.units + 1 + 1 + d.depth < cLine
    omega
  refine wpAny_bind (wpAny_holding (wpAny_call_entry slot_list_sort ⟨_, hoL, rfl⟩ entry_list_sort
    (PySem.W.list_sort_vals (s := { s1 with heap := s1.heap.push (seqObj "list" vs.toArray 0) }) hoL SA hlen ⟨_, rfl, ?_⟩) (args_list_sort _)))
  obtain ⟨e', he'⟩ := sortedHeap_at (vs := vs) (out := (PySem.W.sortVals (PySem.W.dataKind (PySem.W.sortingHeap (s1.heap.push (seqObj "list" vs.toArray 0)) s1.heap.objs.size vs) ((vs.map keyV).map kD)) false vs vs).toArray) hoL
  have eo := PySem.W.sortVals_data (R := fun u d => ∃ k, d = kD k ∧ keyIs k u = true) (enc := fun d => d) false ek er' (by rw [List.map_id']; exact alike_of q1)
  rw [List.map_id'] at eo
  obtain ⟨ws, rv, ra⟩ := key_vals (K := K) eo
  refine wpAny_pure ⟨_, rfl, hQ _ s1.heap.objs.size _ e' ws (fun b u e => ?_) g1 o1 hz he' (by rw [List.toList_toArray]; exact rv) (fun P => ?_)⟩
  · have q := k1 b u e
    have hlt := Heap.lt_size q
    show (sortedHeap (s1.heap.push (seqObj "list" vs.toArray 0)) s1.heap.objs.size vs _).get? b = some u
    rw [sortedHeap_old (Nat.ne_of_lt hlt) (by rw [size_push']; exact Nat.lt_succ_of_lt hlt)]
    exact Heap.get?_push_of_some _ q
  · have z := ra P
    rw [← sortD_keys pk]
    exact z

/-! ### as rules -/
def keysOf : List PyData → Option (List Key)
  | [] => some []
  | d :: r => match keyOfD d with
    | some k => (keysOf r).map (k :: ·)
    | none => none
def seqD : PyData → Option (List PyData)
  | .list xs => some xs
  | .tuple xs => some xs
  | _ => none
/-- the members of set(d) -/
def setK (d : PyData) : Option (List Key) := match seqD d with
  | some ds => match keysOf ds with
    | some kl => if kl.length < 4095 then some (dedK [] kl) else none
    | none => none
  | none => none
def nSortSet (f : Sl → Out Tk) : Sl → Out (List PyData) := fun ε => (f ε).bind fun τ ε' => match rd ε' τ with
  | some d => match setK d with
    | some ks => if sortOk (ks.map kD) = true then .ok (sortD (ks.map kD)) ε' else .stuck
    | none => .stuck
  | none => .stuck
def kLenSet (f : Sl → Out Tk) : Sl → Out PyData := fun ε => (f ε).bind fun τ ε' => match rd ε' τ with
  | some d => match setK d with
    | some ks => .ok (.int ks.length) ε'
    | none => .stuck
  | none => .stuck
theorem keysOf_at {K : PySem.W.Frag} {P : Hp} : ∀ {ds : List PyData} {kl : List Key} {vs : List V} {us : List Value}, keysOf ds = some kl → RpAll K P vs ds → Vals vs us → us.length = kl.length ∧ ∀ (i : Nat) (u : Value), us[i]? = some u → ∃ k, kl[i]? = some k ∧ keyIs k u = true
  | [], _, _, _, h, .nil, r => by
    cases h
    cases r
    exact ⟨rfl, fun i u e => by simp at e⟩
  | d :: ds, kl, _, _, h, .cons q qs, r => by
    cases r with
    | cons r1 rs =>
      unfold keysOf at h
      split at h
      · rename_i k hk
        cases hr : keysOf ds with
        | none => rw [hr] at h; cases h
        | some kr =>
          rw [hr] at h
          cases h
          obtain ⟨h1, h2⟩ := keysOf_at hr qs rs
          refine ⟨by rw [List.length_cons, List.length_cons, h1], fun i u e => ?_⟩
          cases i with
          | zero =>
            cases e
            refine ⟨k, rfl, ?_⟩
            have e := keyOfD_eq hk
            subst e
            cases k with
            | inl i =>
              cases q
              obtain ⟨t, rfl⟩ := r1
              exact keyIs_int i t
            | inr x =>
              cases q
              obtain ⟨t, rfl⟩ := r1
              exact keyIs_str x t
          | succ i =>
            obtain ⟨k', e1, e2⟩ := h2 i u (by simpa using e)
            exact ⟨k', by simpa using e1, e2⟩
      · cases h
section
variable {X : Cx} {S : Sta} {R : Exc → Sl → Prop} {a : Expr} {pos p p2 q : Pos}
/-- set(x): the set at a new place, not tracked -/
theorem set_raw {pins : List (Addr × Obj)} {s : Shared} {σ : L2.St} {H P : Hp} {v : V} {u : Value} {d : PyData} {ks : List Key} {E : Value → Shared → Prop} {Q : Value → Shared → Prop} (hc : X.calm = true) (I : Inv X pins σ H s) (sm : Same P H) (r : RelV v u) (h : Rb X.K P H v d) (hk : setK d = some ks)
    (hQ : ∀ a s', Inv X pins σ H s' → SetQ X.w s'.heap a ks → Q (.ref a) s') : wpAny (model X.prog X.w) X.A (call (.type "set") [u]) Q E s := by
  unfold setK at hk
  split at hk
  · rename_i ds hds
    split at hk
    · rename_i kl hkl
      split at hk
      · rename_i hlen
        cases hk
        have e3 : scanBound = 4096 := rfl
        cases d with
        | list xs =>
          cases hds
          obtain ⟨b, ws, rfl, ha, ra⟩ := h.lstI sm
          cases r
          obtain ⟨its, rv, pl, hz⟩ := I.list ha
          obtain ⟨h1, h2⟩ := keysOf_at hkl ra rv
          exact call_set_list kl (I.ok.hd hc) pl.isList (by rw [List.size_toArray]; exact h1) (fun i v e => h2 i v (by rw [← e, List.getElem?_toArray])) (by omega) fun h' tk R k => hQ _ _ (I.kept k) R
        | tuple xs =>
          cases hds
          obtain ⟨b, ws, rfl, ha, ra⟩ := h.tupI
          cases r
          obtain ⟨its, rv, pl, hz⟩ := I.tuple (sm.sqt ha)
          obtain ⟨h1, h2⟩ := keysOf_at hkl ra rv
          exact call_set_tuple kl (I.ok.hd hc) pl (by rw [List.size_toArray]; exact h1) (fun i v e => h2 i v (by rw [← e, List.getElem?_toArray])) (by omega) fun h' tk R k => hQ _ _ (I.kept k) R
        | _ => cases hds
      · cases hk
    · cases hk
  · cases hk
def tSetD (X : Cx) (ta : TE) (G : List Key → Hp → VK → Prop) : TE := fun σ H Q => ta σ H fun v H1 => ∃ P d ks, Same P H1 ∧ Rb X.K P H1 v d ∧ setK d = some ks ∧ G ks H1 Q
theorem dn_sortSet {f : Sl → Out Tk} (hc : X.calm = true) (hu : X.A.units + 64 < cLine) (h : DE X S R a f) (hg : Gl X "sorted") (hm : X.mg "sorted" = none) (hg2 : Gl X "set") (hm2 : X.mg "set" = none) (na : starEach [a] X.env = (false, eval a X.env) :: starEach [] X.env := by rfl)
    (nb : starEach [.Call (.Name "set" p2) [a] [] q] X.env = (false, eval (.Call (.Name "set" p2) [a] [] q) X.env) :: starEach [] X.env := by rfl) : DN X S R (.Call (.Name "sorted" p) [.Call (.Name "set" p2) [a] [] q] [] pos) (nSortSet f) := by
  obtain ⟨t, pe, k⟩ := h
  refine ⟨tSetD X t fun ks H1 Q => sortOk (ks.map kD) = true ∧ ∀ p vs, H1 p = none → (∀ P, RpAll X.K P vs (sortD (ks.map kD))) → Q (.ref p) (upd H1 p (.lst vs)), ⟨fun pins s σ H Q I h => ?_⟩, fun T P A σ H ε Q r w => k T P A σ H ε _ r (w.bind.imp fun τ ε' w v P' H' r' s' tk => ?_)⟩
  · refine Call_ (ld_blt I hg hm boot_sorted ?_)
    refine callWith_builtin1 (args_cons ?_ nb) nb rfl
    refine Call_ (ld_blt I hg2 hm2 boot_set ?_)
    refine callWith_type1 (args_cons (thn (pe.run pins s σ H _ I h) fun u s1 ⟨v, H1, I1, r1, q1⟩ => args_nil ?_) na) na rfl
    obtain ⟨P, d, ks, sm, rb, hk, hok, q⟩ := q1
    refine set_raw hc I1 sm r1 rb hk fun a s2 I2 R2 => args_nil ?_
    refine sorted_setQ (K := X.K) R2 (I2.ok.hd hc) hok hu fun s3 p out c vs k3 g3 o3 hp hg3 rv ra => ?_
    have hlen : vs.length ≤ sizeLine := by
      have e := (ra (fun _ => none)).length
      rw [e]
      unfold sortD
      rw [List.length_mergeSort]
      unfold sortOk at hok
      simp only [Bool.and_eq_true, decide_eq_true_eq] at hok
      rw [sizeLine_eq]
      exact hok.2
    have hn : H1 p = none := I2.hok.fresh hp
    have J : Inv X pins σ (upd H1 p (.lst vs)) { s2 with heap := s3.heap, gens := s3.gens, drawn := s3.drawn, toks := s3.toks } :=
      I2.call (ch := []) (Un.laid k3 hp hn) (I2.hok.laid k3 hp ⟨hlen, out.toList, c, rv, hg3⟩) (by rw [g3]; exact I2.bare) (fun _ z => nomatch z)
    have e : s3 = { s2 with heap := s3.heap, gens := s3.gens, drawn := s3.drawn, toks := s3.toks } := by
      cases s3
      cases s2
      cases o3
      rfl
    rw [e]
    exact ⟨.ref p, _, J, rfl, q p vs hn ra⟩
  · split at w
    · rename_i d hd
      split at w
      · rename_i ks hk
        split at w
        · rename_i hok
          exact ⟨P', d, ks, r'.sub, r'.rd tk hd, hk, hok, fun p vs hn ra => fin_new w r' s' hn (ra P')⟩
        · exact w.elim
      · exact w.elim
    · exact w.elim
theorem dp_lenSet {f : Sl → Out Tk} (hc : X.calm = true) (h : DE X S R a f) (hg : Gl X "len") (hm : X.mg "len" = none) (hg2 : Gl X "set") (hm2 : X.mg "set" = none) (na : starEach [a] X.env = (false, eval a X.env) :: starEach [] X.env := by rfl)
    (nb : starEach [.Call (.Name "set" p2) [a] [] q] X.env = (false, eval (.Call (.Name "set" p2) [a] [] q) X.env) :: starEach [] X.env := by rfl) : DP X S R (.Call (.Name "len" p) [.Call (.Name "set" p2) [a] [] q] [] pos) (kLenSet f) := by
  obtain ⟨t, pe, k⟩ := h
  refine ⟨tSetD X t fun ks H1 Q => Q (.int ks.length) H1, ⟨fun pins s σ H Q I h => ?_⟩, fun T P A σ H ε Q r w => k T P A σ H ε _ r (w.bind.imp fun τ ε' w v P' H' r' s' tk => ?_)⟩
  · refine Call_ (ld_blt I hg hm boot_len ?_)
    refine callWith_builtin1 (args_cons ?_ nb) nb rfl
    refine Call_ (ld_blt I hg2 hm2 boot_set ?_)
    refine callWith_type1 (args_cons (thn (pe.run pins s σ H _ I h) fun u s1 ⟨v, H1, I1, r1, q1⟩ => args_nil ?_) na) na rfl
    obtain ⟨P, d, ks, sm, rb, hk, q⟩ := q1
    refine set_raw hc I1 sm r1 rb hk fun a s2 I2 R2 => args_nil ?_
    obtain ⟨o, es, ep, t, ho, hex, hd, g, hp, nd, hb, hf, hr, hl⟩ := R2
    have hz : es.size = ks.length := by
      have e := hp.length_eq
      rw [List.length_map, Array.length_toList] at e
      exact e
    have e3 : scanBound = 4096 := rfl
    exact call_len_set ho hex hd hf (by omega) ⟨.int ks.length, H1, I2.tok _, ⟨_, by rw [hz]⟩, q⟩
  · split at w
    · rename_i d hd
      split at w
      · rename_i ks hk
        exact ⟨P', d, ks, r'.sub, r'.rd tk hd, hk, w _ P' H' r' s' (.int _)⟩
      · exact w.elim
    · exact w.elim
end
end DL
/-! DLq: list(zip(x, y)), two lists or two tuples -/
namespace DL
open PySem PySem.Spec PyProof.Rows L2
open RZ
open PySem.W (neN)

section
variable {prog : Program} {w : World} {A : Around} {E : Value → Shared → Prop} {s : Shared}
/-! ### next of a zip of tuples while a pair is still there -/
theorem zipT_item_held {z TI TO T i1 i2 l1 l2 : Addr} {f : Bool} {oT : Obj} {k1 k2 : Nat} {xs ys : Array Value} {x y : Value} {Q : Option Value → Shared → Prop} (D : ZipApart z TI TO i1 i2 l1 l2)
    (hz : IsZipHeld s.heap z TI TO T f) (hT : s.heap.get? T = some oT) (hTI : IsPair s.heap TI (.ref i1) (.ref i2))
    (h1 : s.heap.IsTupleIter i1 l1 k1) (h2 : s.heap.IsTupleIter i2 l2 k2) (hl1 : s.heap.IsTuple l1 xs) (hl2 : s.heap.IsTuple l2 ys) (hx : xs[k1]? = some x) (hy : ys[k2]? = some y)
    (hQ : ∀ h', IsZipHeld h' z TI TO T true → h'.IsTupleIter i1 l1 (k1 + 1) → h'.IsTupleIter i2 l2 (k2 + 1) → IsPair h' s.heap.objs.size x y → h'.objs.size = s.heap.objs.size + 1 →
      (∀ c o, c ≠ z → c ≠ i1 → c ≠ i2 → s.heap.get? c = some o → h'.get? c = some o) → Q (some (.ref s.heap.objs.size)) { s with heap := h' }) :
    wpAny (model prog w) A (pyNext (.ref z)) Q E s := by
  have hTy : s.TypeIs (.ref z) "zip" := ⟨_, hz, rfl⟩
  unfold pyNext
  refine wpAny_bind (wpAny_attempt (wpAny_callSpecial?_slot (name := Str.ofString "__next__") hTy F.slot_zip_next (wpAny_call_entry F.slot_zip_next hTy F.entry_zip_next ?_ (F.args_zip_next_1 _))))
  show wpAny _ _ (field (.ref z) 2 >>= _) _ _ _
  refine wpAny_bind (wpAny_field hz rfl (x := .bool false) rfl ?_)
  show wpAny _ _ (field (.ref z) 3 >>= _) _ _ _
  refine wpAny_bind (wpAny_field hz rfl (x := .ref TI) rfl ?_)
  refine wpAny_bind (wpAny_seqItems hTI rfl ?_)
  show wpAny _ _ (Builtin.SmallTypes.ownedTupleIsFree (.ref z) >>= _) _ _ _
  refine wpAny_bind (wpAny_tupleHeld_zip hz hT fun h₁ hz₁ hs₁ => ?_)
  simp only [Bool.false_eq_true, if_false]
  refine wpAny_bind ?_
  rw [← Array.forIn_toList]
  simp only [List.forIn_cons, List.forIn_nil]
  refine wpAny_bind (wpAny_bind (wpAny_holding ?_))
  show wpAny _ _ (Builtin.SmallTypes.nextOf (.ref i1) >>= _) _ _ _
  refine wpAny_bind (nextOf_tuple_item (s := { s with heap := h₁ }) (h1.extBut hs₁.extBut D.i1z) (hl1.extBut hs₁.extBut D.l1z) hx fun h₂ h1₂ hs₂ => wpAny_pure ?_)
  refine wpAny_pure ?_
  refine wpAny_bind (wpAny_bind (wpAny_holding ?_))
  show wpAny _ _ (Builtin.SmallTypes.nextOf (.ref i2) >>= _) _ _ _
  refine wpAny_bind (nextOf_tuple_item (s := { s with heap := h₂ }) ((h2.extBut hs₁.extBut D.i2z).extBut hs₂.extBut D.i12.symm) ((hl2.extBut hs₁.extBut D.l2z).extBut hs₂.extBut D.l2i1) hy fun h₃ h2₃ hs₃ => wpAny_pure ?_)
  refine wpAny_pure (wpAny_pure ?_)
  show wpAny _ _ (newTuple [x, y] >>= _) _ _ _
  refine wpAny_bind (wpAny_newTuple ?_)
  have hsz : h₃.objs.size = s.heap.objs.size := by rw [hs₃.1, hs₂.1, hs₁.1]
  have hz₃ : IsZipHeld h₃ z TI TO T true := hs₃.extBut _ _ D.i2z.symm (hs₂.extBut _ _ D.i1z.symm hz₁)
  have hk : ∀ c o, c ≠ z → c ≠ i1 → c ≠ i2 → s.heap.get? c = some o → h₃.get? c = some o := fun c o c1 c2 c3 e => hs₃.extBut _ _ c3 (hs₂.extBut _ _ c2 (hs₁.extBut _ _ c1 e))
  have h1₃ : h₃.IsTupleIter i1 l1 (k1 + 1) := h1₂.extBut hs₃.extBut D.i12
  refine wpAny_pure ⟨_, rfl, wpAny_pure ?_⟩
  show Q (some (.ref h₃.objs.size)) _
  have hp : IsPair (h₃.push { cls := .type "tuple", data := .seq #[x, y] }) h₃.objs.size x y := Heap.get?_push_size _ rfl
  have hz4 : (h₃.push { cls := .type "tuple", data := .seq #[x, y] }).objs.size = h₃.objs.size + 1 := Heap.size_push ..
  rw [hsz] at hp hz4 ⊢
  exact hQ _ (Heap.get?_push_of_some _ hz₃) (h1₃.at fun o e => Heap.get?_push_of_some _ e) (h2₃.at fun o e => Heap.get?_push_of_some _ e) hp hz4 fun c o c1 c2 c3 e => Heap.get?_push_of_some _ (hk c o c1 c2 c3 e)
theorem zipT_end_held {z TI TO T i1 i2 l1 l2 : Addr} {f : Bool} {oT : Obj} {k1 k2 : Nat} {xs ys : Array Value} {Q : Option Value → Shared → Prop} (hh : A.handled = none) (D : ZipApart z TI TO i1 i2 l1 l2)
    (hz : IsZipHeld s.heap z TI TO T f) (hT : s.heap.get? T = some oT) (hTI : IsPair s.heap TI (.ref i1) (.ref i2))
    (h1 : s.heap.IsTupleIter i1 l1 k1) (h2 : s.heap.IsTupleIter i2 l2 k2) (hl1 : s.heap.IsTuple l1 xs) (hl2 : s.heap.IsTuple l2 ys) (hend : xs[k1]? = none ∨ ys[k2]? = none)
    (hQ : ∀ h', (∀ c o, c ≠ z → c ≠ i1 → c ≠ i2 → s.heap.get? c = some o → h'.get? c = some o) → Q none { s with heap := h' }) : wpAny (model prog w) A (pyNext (.ref z)) Q E s := by
  have hTy : s.TypeIs (.ref z) "zip" := ⟨_, hz, rfl⟩
  have fin : ∀ (h' : Heap) (e : Addr), (∀ c o, c ≠ z → c ≠ i1 → c ≠ i2 → s.heap.get? c = some o → h'.get? c = some o) → (∃ o, h'.get? e = some o ∧ o.cls = .type "StopIteration") →
      wpAny (model prog w) A (isInstance (.ref e) (.type "StopIteration")) (fun b s' => b = true ∧ Q none s') E { s with heap := h' } := fun h' e hk he => by
    obtain ⟨o, ho, hc⟩ := he
    exact wpAny_isInstance (T := "StopIteration") (b := true) ⟨o, ho, hc⟩ isSubtype_stop ⟨rfl, hQ _ hk⟩
  unfold pyNext
  refine wpAny_bind (wpAny_attempt (wpAny_callSpecial?_slot (name := Str.ofString "__next__") hTy F.slot_zip_next (wpAny_call_entry F.slot_zip_next hTy F.entry_zip_next ?_ (F.args_zip_next_1 _))))
  show wpAny _ _ (field (.ref z) 2 >>= _) _ _ _
  refine wpAny_bind (wpAny_field hz rfl (x := .bool false) rfl ?_)
  show wpAny _ _ (field (.ref z) 3 >>= _) _ _ _
  refine wpAny_bind (wpAny_field hz rfl (x := .ref TI) rfl ?_)
  refine wpAny_bind (wpAny_seqItems hTI rfl ?_)
  show wpAny _ _ (Builtin.SmallTypes.ownedTupleIsFree (.ref z) >>= _) _ _ _
  refine wpAny_bind (wpAny_tupleHeld_zip hz hT fun h₁ hz₁ hs₁ => ?_)
  simp only [Bool.false_eq_true, if_false]
  refine wpAny_bind ?_
  rw [← Array.forIn_toList]
  simp only [List.forIn_cons, List.forIn_nil]
  refine wpAny_bind (wpAny_bind (wpAny_holding ?_))
  show wpAny _ _ (Builtin.SmallTypes.nextOf (.ref i1) >>= _) _ _ _
  cases hx : xs[k1]? with
  | none =>
    refine wpAny_bind (nextOf_tuple_end (s := { s with heap := h₁ }) hh (h1.extBut hs₁.extBut D.i1z) (hl1.extBut hs₁.extBut D.l1z) hx fun h₂ e hs₂ he => ?_)
    exact wpAny_bind (wpAny_mono (fin h₂ e (fun c o c1 c2 _ x => hs₂ _ _ c2 (hs₁.extBut _ _ c1 x)) he) (fun b s' ⟨e, q⟩ => by subst e; exact wpAny_pure q) fun _ _ q => q)
  | some x =>
    have hy : ys[k2]? = none := by rcases hend with h | h; rw [hx] at h; cases h; exact h
    refine wpAny_bind (nextOf_tuple_item (s := { s with heap := h₁ }) (h1.extBut hs₁.extBut D.i1z) (hl1.extBut hs₁.extBut D.l1z) hx fun h₂ h1₂ hs₂ => wpAny_pure ?_)
    refine wpAny_pure ?_
    refine wpAny_bind (wpAny_bind (wpAny_holding ?_))
    show wpAny _ _ (Builtin.SmallTypes.nextOf (.ref i2) >>= _) _ _ _
    refine wpAny_bind (nextOf_tuple_end (s := { s with heap := h₂ }) hh ((h2.extBut hs₁.extBut D.i2z).extBut hs₂.extBut D.i12.symm) ((hl2.extBut hs₁.extBut D.l2z).extBut hs₂.extBut D.l2i1) hy fun h₃ e hs₃ he => ?_)
    exact wpAny_bind (wpAny_mono (fin h₃ e (fun c o c1 c2 c3 x => hs₃ _ _ c3 (hs₂.extBut _ _ c2 (hs₁.extBut _ _ c1 x))) he) (fun b s' ⟨e, q⟩ => by subst e; exact wpAny_pure q) fun _ _ q => q)
end

/-- the pairs at as -/
structure ZPairs (ps : List (Value × Value)) (lo : Nat) (h : Heap) (as : List Nat) : Prop where
  rise : as.Pairwise (· < ·)
  above : ∀ a ∈ as, lo < a
  pairs : ∀ (j : Nat) (a : Nat), as[j]? = some a → ∃ p, ps[j]? = some p ∧ IsPair h a p.1 p.2
theorem ZPairs.there {ps : List (Value × Value)} {lo : Nat} {h : Heap} {as : List Nat} (g : ZPairs ps lo h as) {a : Nat} (ha : a ∈ as) : a < h.objs.size := by
  obtain ⟨j, hj⟩ := List.mem_iff_getElem?.mp ha
  obtain ⟨_, _, e⟩ := g.pairs j a hj
  exact Heap.lt_size e
theorem zip_no_len : typeLookup (.type "zip") "__len__" = pure none := am_miss_of_fast (by decide +kernel)
theorem zip_no_hint : typeLookup (.type "zip") "__length_hint__" = pure none := am_miss_of_fast (by decide +kernel)
theorem zip_hint {prog : Program} {w : World} {A : Around} {E : Value → Shared → Prop} {s : Shared} {r : Addr} (hT : s.TypeIs (.ref r) "zip") {Q : Bool → Shared → Prop} (h : Q true s) : wpAny (model prog w) A (Builtin.List.listLengthHint (.ref r)) Q E s := by
  unfold Builtin.List.listLengthHint
  refine wpAny_bind (wpAny_specialOf hT zip_no_len ?_)
  refine wpAny_ite_split (fun hab => absurd hab (by decide)) (fun _ => ?_)
  refine wpAny_ite_split (fun hab => absurd hab (by decide)) (fun _ => ?_)
  exact wpAny_bind (wpAny_specialOf hT zip_no_hint (wpAny_pure h))

/-! ### List -/
/-- the zip z at the k-th pair; S is the list that takes the pairs -/
def ZStList (h : Heap) (z TI TO i1 i2 l1 l2 S : Nat) (k : Nat) : Prop :=
  IsPair h TI (.ref i1) (.ref i2) ∧ h.IsListIter i1 l1 k ∧ h.IsListIter i2 l2 k ∧ ((k = 0 ∧ IsZip h z TI TO .none ∧ ∃ a b, IsPair h TO a b) ∨ ∃ (T : Nat) (f : Bool) (oT : Obj), IsZipHeld h z TI TO T f ∧ h.get? T = some oT ∧ S < T)
section
variable {prog : Program} {w : World} {A : Around} {E : Value → Shared → Prop} {s : Shared}
theorem zst_itemList {z TI TO i1 i2 l1 l2 S : Nat} {k : Nat} {xs ys : Array Value} {x y : Value} {Q : Option Value → Shared → Prop} (D : ZipApart z TI TO i1 i2 l1 l2) (hzS : z < S) (hTOS : TO < S) (hi1 : i1 < S) (hi2 : i2 < S) (hSs : S < s.heap.objs.size)
    (st : ZStList s.heap z TI TO i1 i2 l1 l2 S k) (hl1 : s.heap.IsList l1 xs) (hl2 : s.heap.IsList l2 ys) (hx : xs[k]? = some x) (hy : ys[k]? = some y)
    (hQ : ∀ h', ZStList h' z TI TO i1 i2 l1 l2 S (k + 1) → IsPair h' s.heap.objs.size x y → h'.objs.size = s.heap.objs.size + 1 →
      (∀ c o, c ≠ z → c ≠ TO → c ≠ i1 → c ≠ i2 → s.heap.get? c = some o → h'.get? c = some o) → Q (some (.ref s.heap.objs.size)) { s with heap := h' }) : wpAny (model prog w) A (pyNext (.ref z)) Q E s := by
  obtain ⟨hTI, h1, h2, ⟨rfl, hz, a, b, hTO⟩ | ⟨T, f, oT, hz, hT, hST⟩⟩ := st
  · refine wpAny_pyNext_zip_item D hz hTI hTO h1 h2 hl1 hl2 hx hy fun h' a1 a2 a3 a4 a5 a6 a7 => hQ h' ⟨a7 _ _ D.TIz D.TITO D.TIi1 D.TIi2 hTI, a3, a4, .inr ⟨_, false, _, a1, a5, hSs⟩⟩ a5 a6 a7
  · exact wpAny_pyNext_zip_item_held D hz hT hTI h1 h2 hl1 hl2 hx hy fun h' a1 a3 a4 a5 a6 a7 => hQ h' ⟨a7 _ _ D.TIz D.TIi1 D.TIi2 hTI, a3, a4, .inr ⟨T, true, oT, a1, a7 _ _ (neN (by omega)) (neN (by omega)) (neN (by omega)) hT, hST⟩⟩ a5 a6 fun c o c1 _ c3 c4 e => a7 c o c1 c3 c4 e
theorem zst_doneList {z TI TO i1 i2 l1 l2 S : Nat} {k : Nat} {xs ys : Array Value} {Q : Option Value → Shared → Prop} (hh : A.handled = none) (D : ZipApart z TI TO i1 i2 l1 l2)
    (st : ZStList s.heap z TI TO i1 i2 l1 l2 S k) (hl1 : s.heap.IsList l1 xs) (hl2 : s.heap.IsList l2 ys) (hend : xs[k]? = none ∨ ys[k]? = none)
    (hQ : ∀ h', (∀ c o, c ≠ z → c ≠ TO → c ≠ i1 → c ≠ i2 → s.heap.get? c = some o → h'.get? c = some o) → Q none { s with heap := h' }) : wpAny (model prog w) A (pyNext (.ref z)) Q E s := by
  obtain ⟨hTI, h1, h2, ⟨rfl, hz, a, b, hTO⟩ | ⟨T, f, oT, hz, hT, hST⟩⟩ := st
  · exact wpAny_pyNext_zip_end hh D hz hTI hTO h1 h2 hl1 hl2 hend hQ
  · exact wpAny_pyNext_zip_end_held hh D hz hT hTI h1 h2 hl1 hl2 hend fun h' k => hQ h' fun c o c1 _ c3 c4 e => k c o c1 c3 c4 e
end
section
variable {prog : Program} {w : World} {A : Around} {s : Shared} {R : Result → Shared → Prop}
theorem zip_loopList {z TI TO i1 i2 l1 l2 S : Nat} {xs ys : List Value} (hh : A.handled = none) (D : ZipApart z TI TO i1 i2 l1 l2) (hzS : z < S) (hTIS : TI < S) (hTOS : TO < S) (hi1 : i1 < S) (hi2 : i2 < S) (hl1S : l1 < S) (hl2S : l2 < S)
    (hn : (xs.zip ys).length ≤ sizeLine) (res : Value) {h₁ : Heap} (hL1 : h₁.IsList l1 xs.toArray) (hL2 : h₁.IsList l2 ys.toArray)
    (hR : ∀ h' tk acc c as, (∀ (b : Nat) o, b ≠ S → b ≠ z → b ≠ TO → b ≠ i1 → b ≠ i2 → h₁.get? b = some o → h'.get? b = some o) → h'.get? S = some { cls := .type "list", dict := none, data := .seq acc c, slots := #[] } → as.length = (xs.zip ys).length → ZPairs (xs.zip ys) S h' as →
      acc.toList = as.map Value.ref → R (.ok (.ret res)) { s with heap := h', toks := tk }) :
    ∀ (k i : Nat) (h : Heap) (tk c : Nat) (acc : Array Value) (as : List Nat), (xs.zip ys).length - i = k → i ≤ (xs.zip ys).length → ZStList h z TI TO i1 i2 l1 l2 S i → (∀ (b : Nat) o, b ≠ S → b ≠ z → b ≠ TO → b ≠ i1 → b ≠ i2 → h₁.get? b = some o → h.get? b = some o) →
      h.get? S = some { cls := .type "list", dict := none, data := .seq acc c, slots := #[] } → acc.toList = as.map Value.ref → as.length = i → ZPairs (xs.zip ys) S h as →
      codeAny (model prog w) A (.builtin "list.extend.loop" ⟨[.ref S, .ref z, res], []⟩) R { s with heap := h, toks := tk } := by
  have zl : (xs.zip ys).length = min xs.length ys.length := List.length_zip
  have seqAt : ∀ {h : Heap} {l : Nat} {us : Array Value}, l ≠ S → l ≠ z → l ≠ TO → l ≠ i1 → l ≠ i2 → h₁.IsList l us → (∀ (b : Nat) o, b ≠ S → b ≠ z → b ≠ TO → b ≠ i1 → b ≠ i2 → h₁.get? b = some o → h.get? b = some o) → h.IsList l us := fun c1 c2 c3 c4 c5 ⟨o, ho, r⟩ k => ⟨o, k _ o c1 c2 c3 c4 c5 ho, r⟩
  intro k
  induction k with
  | zero =>
    intro i h tk c acc as hk hi st hkeep hS hacc hal hG
    have hL1' := seqAt (by omega) D.l1z D.l1TO D.l1i1 D.l1i2 hL1 hkeep
    have hL2' := seqAt (by omega) D.l2z D.l2TO D.l2i1 D.l2i2 hL2 hkeep
    refine codeAny_builtin PySem.F.entry_extend_loop ?_
    rw [Around.under_plainId PySem.F.plain_extend_loop _]
    show wpAny _ A.in1 (pyNext (.ref z) >>= _) _ _ _
    refine wpAny_bind (zst_doneList (s := { s with heap := h, toks := tk }) (A := A.in1) hh D st hL1' hL2' ?_ fun h' he => ?_)
    · by_cases hx : xs.length ≤ i
      · exact .inl (by rw [List.getElem?_toArray]; exact List.getElem?_eq_none hx)
      · exact .inr (by rw [List.getElem?_toArray]; exact List.getElem?_eq_none (by omega))
    refine wpAny_pure (hR h' tk acc c as (fun b o c1 c2 c3 c4 c5 e => he b o c2 c3 c4 c5 (hkeep b o c1 c2 c3 c4 c5 e)) (he S _ (by omega) (by omega) (by omega) (by omega) hS) (by omega) ⟨hG.rise, hG.above, fun j a hj => ?_⟩ hacc)
    obtain ⟨p, e1, e2⟩ := hG.pairs j a hj
    have := hG.above a (List.mem_of_getElem? hj)
    exact ⟨p, e1, he a _ (by omega) (by omega) (by omega) (by omega) e2⟩
  | succ k ih =>
    intro i h tk c acc as hk hi st hkeep hS hacc hal hG
    have hL1' := seqAt (by omega) D.l1z D.l1TO D.l1i1 D.l1i2 hL1 hkeep
    have hL2' := seqAt (by omega) D.l2z D.l2TO D.l2i1 D.l2i2 hL2 hkeep
    have hx : xs.toArray[i]? = some (xs[i]'(by omega)) := by rw [List.getElem?_toArray]; exact List.getElem?_eq_getElem (by omega)
    have hy : ys.toArray[i]? = some (ys[i]'(by omega)) := by rw [List.getElem?_toArray]; exact List.getElem?_eq_getElem (by omega)
    have hsz : acc.size = i := by rw [← Array.length_toList, hacc, List.length_map, hal]
    have hSl : S < h.objs.size := Heap.lt_size hS
    refine codeAny_builtin PySem.F.entry_extend_loop ?_
    rw [Around.under_plainId PySem.F.plain_extend_loop _]
    show wpAny _ A.in1 (pyNext (.ref z) >>= _) _ _ _
    refine wpAny_bind (zst_itemList (s := { s with heap := h, toks := tk }) D hzS hTOS hi1 hi2 hSl st hL1' hL2' hx hy fun h' st' ht hz hkp => ?_)
    dsimp only at ht hz hkp ⊢
    have hS' := hkp S _ (by omega) (by omega) (by omega) (by omega) hS
    have up : ∀ (b : Nat) o, b ≠ S → h'.get? b = some o → (h'.update S (Obj.mapSeq (·.push (Value.ref h.objs.size)))).get? b = some o := fun b o hb e => (Heap.get?_update_other _ _ (Ne.symm hb)).trans e
    show wpAny _ A.in1 (updateSeq S (·.push (Value.ref h.objs.size)) >>= _) _ _ _
    refine wpAny_bind ?_
    refine wpAny_updateSeq hS' rfl (wpAny_pure ⟨plainId_quiet PySem.F.plain_extend_loop _, ih (i + 1) _ tk _ (acc.push (Value.ref h.objs.size)) (as ++ [h.objs.size]) (by omega) (by omega) ?_
      (fun b o c1 c2 c3 c4 c5 e => up b o c1 (hkp b o c2 c3 c4 c5 (hkeep b o c1 c2 c3 c4 c5 e))) (Heap.get?_update_self _ hS' rfl) (by rw [Array.toList_push, hacc, List.map_append]; rfl) (by rw [List.length_append, hal]; rfl) ⟨?_, ?_, ?_⟩⟩) (by rw [hsz]; omega) (by show (acc.push (Value.ref h.objs.size)).size ≤ sizeLine + 1; rw [Array.size_push, hsz]; omega)
    · obtain ⟨q1, q2, q3, q4⟩ := st'
      refine ⟨up _ _ (by omega) q1, q2.at fun o e => up _ o (by omega) e, q3.at fun o e => up _ o (by omega) e, ?_⟩
      rcases q4 with ⟨e, _⟩ | ⟨T, f, oT, y1, y2, y3⟩
      · omega
      · exact .inr ⟨T, f, oT, up _ _ (by omega) y1, up _ _ (by omega) y2, y3⟩
    · refine List.pairwise_append.mpr ⟨hG.rise, List.pairwise_singleton _ _, fun a ha b hb => ?_⟩
      rw [List.mem_singleton.mp hb]
      exact hG.there ha
    · intro a ha
      rcases List.mem_append.mp ha with ha | ha
      · exact hG.above a ha
      · rw [List.mem_singleton.mp ha]; exact hSl
    · intro j b hj
      rcases Nat.lt_trichotomy j as.length with h1 | h1 | h1
      · rw [List.getElem?_append_left h1] at hj
        obtain ⟨p, e1, e2⟩ := hG.pairs j b hj
        have hb := hG.above b (List.mem_of_getElem? hj)
        exact ⟨p, e1, up b _ (by omega) (hkp b _ (by omega) (by omega) (by omega) (by omega) e2)⟩
      · subst h1
        have hb : h.objs.size = b := by simpa using hj
        subst hb
        refine ⟨(xs[i]'(by omega), ys[i]'(by omega)), ?_, up _ _ (by omega) ht⟩
        rw [hal, List.getElem?_eq_getElem (by omega), List.getElem_zip]
      · have hnone : (as ++ [h.objs.size])[j]? = none := List.getElem?_eq_none (by rw [List.length_append, List.length_singleton]; omega)
        rw [hnone] at hj; cases hj
end
section
variable {prog : Program} {w : World} {A : Around} {E : Value → Shared → Prop} {s : Shared}
/-- list(z), z a zip at its start -/
theorem list_zipList {z TI TO i1 i2 l1 l2 : Nat} {xs ys : List Value} {Q : Value → Shared → Prop} (hh : A.handled = none) (D : ZipApart z TI TO i1 i2 l1 l2) (hz : IsZip s.heap z TI TO .none) (hTI : IsPair s.heap TI (.ref i1) (.ref i2)) (hTO : ∃ a b, IsPair s.heap TO a b)
    (h1 : s.heap.IsListIter i1 l1 0) (h2 : s.heap.IsListIter i2 l2 0) (hl1 : s.heap.IsList l1 xs.toArray) (hl2 : s.heap.IsList l2 ys.toArray) (hn : (xs.zip ys).length ≤ sizeLine)
    (hQ : ∀ h' tk acc c as, (∀ (b : Nat) o, b ≠ z → b ≠ TO → b ≠ i1 → b ≠ i2 → s.heap.get? b = some o → h'.get? b = some o) → h'.get? s.heap.objs.size = some { cls := .type "list", dict := none, data := .seq acc c, slots := #[] } → as.length = (xs.zip ys).length → ZPairs (xs.zip ys) s.heap.objs.size h' as →
      acc.toList = as.map Value.ref → Q (.ref s.heap.objs.size) { s with heap := h', toks := tk }) :
    wpAny (model prog w) A (call (.type "list") [.ref z]) Q E s := by
  have bz : z < s.heap.objs.size := Heap.lt_size hz
  have bTI : TI < s.heap.objs.size := Heap.lt_size hTI
  have bTO : TO < s.heap.objs.size := by obtain ⟨_, _, e⟩ := hTO; exact Heap.lt_size e
  have bi1 : i1 < s.heap.objs.size := by obtain ⟨_, e, _⟩ := h1; exact Heap.lt_size e
  have bi2 : i2 < s.heap.objs.size := by obtain ⟨_, e, _⟩ := h2; exact Heap.lt_size e
  have bl1 : l1 < s.heap.objs.size := by obtain ⟨_, e, _⟩ := hl1; exact Heap.lt_size e
  have bl2 : l2 < s.heap.objs.size := by obtain ⟨_, e, _⟩ := hl2; exact Heap.lt_size e
  refine callType_codes (Q₁ := fun obj s₁ => obj = .ref s.heap.objs.size ∧ s₁ = { s with heap := s.heap.push { cls := .type "list", data := .seq #[] } }) PySem.F.called_list (PySem.F.typeCall_list_1 _) PySem.F.entry_list_init
    (code_list_new _ ⟨rfl, rfl⟩) fun obj s₁ h₁ => ?_
  obtain ⟨rfl, rfl⟩ := h₁
  have hS : (s.heap.push { cls := .type "list", data := .seq #[] }).get? s.heap.objs.size = some { cls := .type "list", data := .seq #[] } := Heap.get?_push_size _ rfl
  refine ⟨⟨_, hS, rfl⟩, PySem.F.args_list_init_2 _ _, ?_⟩
  generalize hs1 : ({ s with heap := s.heap.push { cls := .type "list", data := .seq #[] } } : Shared) = s1
  have e1 : s1.heap = s.heap.push { cls := .type "list", data := .seq #[] } := by rw [← hs1]
  have hS1 : s1.heap.get? s.heap.objs.size = some { cls := .type "list", data := .seq #[] } := by rw [e1]; exact hS
  have old1 : ∀ b o, s.heap.get? b = some o → s1.heap.get? b = some o := fun b o e => by rw [e1]; exact Heap.get?_push_of_some _ e
  generalize hSS : s.heap.objs.size = S at hS1 bz bTI bTO bi1 bi2 bl1 bl2 hQ ⊢
  have fin : ∀ h' tk acc c as, (∀ (b : Nat) o, b ≠ S → b ≠ z → b ≠ TO → b ≠ i1 → b ≠ i2 → s.heap.get? b = some o → h'.get? b = some o) → h'.get? S = some { cls := .type "list", dict := none, data := .seq acc c, slots := #[] } → as.length = (xs.zip ys).length → ZPairs (xs.zip ys) S h' as →
      acc.toList = as.map Value.ref → Q (.ref S) { s1 with heap := h', toks := tk } := fun h' tk acc c as k1 k2 k3 k4 k5 => by
    have z := hQ h' tk acc c as (fun b o c2 c3 c4 c5 e => k1 b o (neN (Nat.ne_of_lt (by have q := Heap.lt_size e; rw [hSS] at q; exact q))) c2 c3 c4 c5 e) k2 k3 k4 k5
    rw [← hs1]
    exact z
  show wpAny _ _ (do let old ← Builtin.List.listItems (.ref S); Builtin.List.listUpdate (.ref S) (fun _ => #[]); letGo old.toList.reverse; Builtin.List.listExtendWith (.ref S) (.ref z) .none) _ _ s1
  refine wpAny_bind ?_
  unfold Builtin.List.listItems
  refine wpAny_bind (wpAny_seqItems hS1 rfl (wpAny_pure ?_))
  show wpAny _ _ (updateSeq S (fun _ => #[]) >>= fun _ => letGo (#[] : Array Value).toList.reverse >>= fun _ => Builtin.List.listExtendWith (.ref S) (.ref z) .none) _ _ s1
  refine wpAny_bind (wpAny_updateSeq hS1 rfl ?_)
  have hS₂ := Heap.get?_update_self (Obj.mapSeq (fun _ => (#[] : Array Value))) hS1 rfl
  have oth : ∀ (b : Nat) o, b ≠ S → s1.heap.get? b = some o → (s1.heap.update S (Obj.mapSeq (fun _ => (#[] : Array Value)))).get? b = some o := fun b o hb e => (Heap.get?_update_other _ _ (Ne.symm hb)).trans e
  refine wpAny_bind (wpAny_letGo ?_)
  generalize hs2 : ({ s1 with heap := s1.heap.update S (Obj.mapSeq (fun _ => (#[] : Array Value))) } : Shared) = s2
  have e2 : s2.heap = s1.heap.update S (Obj.mapSeq (fun _ => (#[] : Array Value))) := by rw [← hs2]
  have old2 : ∀ (b : Nat) o, b ≠ S → s.heap.get? b = some o → s2.heap.get? b = some o := fun b o hb e => by rw [e2]; exact oth b o hb (old1 b o e)
  have hS2 : ∃ c₀, s2.heap.get? S = some { cls := .type "list", data := .seq #[] c₀ } := ⟨_, by rw [e2]; exact hS₂⟩
  obtain ⟨c₀, hS2⟩ := hS2
  have hz2 : IsZip s2.heap z TI TO .none := old2 _ _ (by omega) hz
  have hT2 : s2.TypeIs (.ref z) "zip" := ⟨_, hz2, rfl⟩
  have fin2 : ∀ h' tk acc c as, (∀ (b : Nat) o, b ≠ S → b ≠ z → b ≠ TO → b ≠ i1 → b ≠ i2 → s2.heap.get? b = some o → h'.get? b = some o) → h'.get? S = some { cls := .type "list", dict := none, data := .seq acc c, slots := #[] } → as.length = (xs.zip ys).length → ZPairs (xs.zip ys) S h' as →
      acc.toList = as.map Value.ref → Q (.ref S) { s2 with heap := h', toks := tk } := fun h' tk acc c as k1 k2 k3 k4 k5 => by
    have z := fin h' tk acc c as (fun b o c1 c2 c3 c4 c5 e => k1 b o c1 c2 c3 c4 c5 (old2 b o c1 e)) k2 k3 k4 k5
    rw [← hs2]
    exact z
  have key : ∀ (h : Heap) (c₁ tk : Nat), (∀ (b : Nat) o, b ≠ S → s2.heap.get? b = some o → h.get? b = some o) → h.get? S = some { cls := .type "list", data := .seq #[] c₁ } →
      codeAny (model prog w) A.in1 (.builtin "list.extend.loop" ⟨[.ref S, .ref z, .none], []⟩) (wants (fun r s₂ => r = .none ∧ Q (.ref S) s₂) E) { s2 with heap := h, toks := tk } := fun h c₁ tk hk hS₁ => by
    refine zip_loopList (s := s2) (h₁ := s2.heap) (xs := xs) (ys := ys) (show A.in1.handled = none from hh) D bz bTI bTO bi1 bi2 bl1 bl2 hn .none (hl1.at fun o e => old2 _ o (by omega) e) (hl2.at fun o e => old2 _ o (by omega) e) (fun h' tk' acc c as k1 k2 k3 k4 k5 => ⟨rfl, fin2 h' tk' acc c as k1 k2 k3 k4 k5⟩)
      (xs.zip ys).length 0 h tk c₁ #[] [] (Nat.sub_zero _) (Nat.zero_le _) ⟨hk _ _ (by omega) (old2 _ _ (by omega) hTI), h1.at fun o e => hk _ o (by omega) (old2 _ o (by omega) e), h2.at fun o e => hk _ o (by omega) (old2 _ o (by omega) e), .inl ⟨rfl, hk _ _ (by omega) hz2, ?_⟩⟩
      (fun b o c1 _ _ _ _ e => hk b o c1 e) hS₁ rfl rfl ⟨List.Pairwise.nil, (fun _ ha => nomatch ha), (fun j a hj => by simp at hj)⟩
    obtain ⟨a, b, e⟩ := hTO
    exact ⟨a, b, hk _ _ (by omega) (old2 _ _ (by omega) e)⟩
  unfold Builtin.List.listExtendWith
  refine wpAny_bind (wpAny_typeOf (T := "zip") hT2 ?_)
  have g1 : Builtin.List.listSameRef (.ref S) (.ref z) = false := by simp [Builtin.List.listSameRef, show S ≠ z by omega]
  have g2 : (Value.type "zip" == Value.type "list") = false := by decide
  have g3 : (Value.type "zip" == Value.type "tuple") = false := by decide
  simp only [g1, g2, g3, Bool.or_false, Bool.false_eq_true, if_false]
  refine wpAny_bind (wpAny_pyIter_zip hz2 ?_)
  refine wpAny_bind (wpAny_holding (zip_hint hT2 ?_))
  refine wpAny_ite_split (fun _ => ?_) (fun _ => wpAny_pure ⟨plainId_quiet PySem.F.plain_extend_loop _, key s2.heap c₀ s2.toks (fun b o _ e => e) hS2⟩)
  refine wpAny_bind (wpAny_rule ?_)
  refine wpAny_bind ?_
  show wpAny _ _ (updateSeq S (·.push .none) >>= fun _ => updateSeq S (·.pop)) _ _ _
  refine wpAny_bind (wpAny_updateSeq hS2 rfl ?_)
  have hS₅ := Heap.get?_update_self (Obj.mapSeq (·.push Value.none)) hS2 rfl
  refine wpAny_updateSeq (hz := by seq_fits) hS₅ rfl ?_
  have hS₆ := Heap.get?_update_self (Obj.mapSeq (·.pop)) hS₅ rfl
  refine wpAny_pure ⟨plainId_quiet PySem.F.plain_extend_loop _, key _ _ s2.toks (fun b o hb e => ?_) hS₆⟩
  exact (Heap.get?_update_other _ _ (Ne.symm hb)).trans ((Heap.get?_update_other _ _ (Ne.symm hb)).trans e)
end

/-! ### Tuple -/
/-- the zip z at the k-th pair; S is the list that takes the pairs -/
def ZStTuple (h : Heap) (z TI TO i1 i2 l1 l2 S : Nat) (k : Nat) : Prop :=
  IsPair h TI (.ref i1) (.ref i2) ∧ h.IsTupleIter i1 l1 k ∧ h.IsTupleIter i2 l2 k ∧ ((k = 0 ∧ IsZip h z TI TO .none ∧ ∃ a b, IsPair h TO a b) ∨ ∃ (T : Nat) (f : Bool) (oT : Obj), IsZipHeld h z TI TO T f ∧ h.get? T = some oT ∧ S < T)
section
variable {prog : Program} {w : World} {A : Around} {E : Value → Shared → Prop} {s : Shared}
theorem zst_itemTuple {z TI TO i1 i2 l1 l2 S : Nat} {k : Nat} {xs ys : Array Value} {x y : Value} {Q : Option Value → Shared → Prop} (D : ZipApart z TI TO i1 i2 l1 l2) (hzS : z < S) (hTOS : TO < S) (hi1 : i1 < S) (hi2 : i2 < S) (hSs : S < s.heap.objs.size)
    (st : ZStTuple s.heap z TI TO i1 i2 l1 l2 S k) (hl1 : s.heap.IsTuple l1 xs) (hl2 : s.heap.IsTuple l2 ys) (hx : xs[k]? = some x) (hy : ys[k]? = some y)
    (hQ : ∀ h', ZStTuple h' z TI TO i1 i2 l1 l2 S (k + 1) → IsPair h' s.heap.objs.size x y → h'.objs.size = s.heap.objs.size + 1 →
      (∀ c o, c ≠ z → c ≠ TO → c ≠ i1 → c ≠ i2 → s.heap.get? c = some o → h'.get? c = some o) → Q (some (.ref s.heap.objs.size)) { s with heap := h' }) : wpAny (model prog w) A (pyNext (.ref z)) Q E s := by
  obtain ⟨hTI, h1, h2, ⟨rfl, hz, a, b, hTO⟩ | ⟨T, f, oT, hz, hT, hST⟩⟩ := st
  · refine pyNext_zipT_item D hz hTI hTO h1 h2 hl1 hl2 hx hy fun h' a1 a2 a3 a4 a5 a6 a7 => hQ h' ⟨a7 _ _ D.TIz D.TITO D.TIi1 D.TIi2 hTI, a3, a4, .inr ⟨_, false, _, a1, a5, hSs⟩⟩ a5 a6 a7
  · exact zipT_item_held D hz hT hTI h1 h2 hl1 hl2 hx hy fun h' a1 a3 a4 a5 a6 a7 => hQ h' ⟨a7 _ _ D.TIz D.TIi1 D.TIi2 hTI, a3, a4, .inr ⟨T, true, oT, a1, a7 _ _ (neN (by omega)) (neN (by omega)) (neN (by omega)) hT, hST⟩⟩ a5 a6 fun c o c1 _ c3 c4 e => a7 c o c1 c3 c4 e
theorem zst_doneTuple {z TI TO i1 i2 l1 l2 S : Nat} {k : Nat} {xs ys : Array Value} {Q : Option Value → Shared → Prop} (hh : A.handled = none) (D : ZipApart z TI TO i1 i2 l1 l2)
    (st : ZStTuple s.heap z TI TO i1 i2 l1 l2 S k) (hl1 : s.heap.IsTuple l1 xs) (hl2 : s.heap.IsTuple l2 ys) (hend : xs[k]? = none ∨ ys[k]? = none)
    (hQ : ∀ h', (∀ c o, c ≠ z → c ≠ TO → c ≠ i1 → c ≠ i2 → s.heap.get? c = some o → h'.get? c = some o) → Q none { s with heap := h' }) : wpAny (model prog w) A (pyNext (.ref z)) Q E s := by
  obtain ⟨hTI, h1, h2, ⟨rfl, hz, a, b, hTO⟩ | ⟨T, f, oT, hz, hT, hST⟩⟩ := st
  · exact pyNext_zipT_end hh D hz hTI hTO h1 h2 hl1 hl2 hend hQ
  · exact zipT_end_held hh D hz hT hTI h1 h2 hl1 hl2 hend fun h' k => hQ h' fun c o c1 _ c3 c4 e => k c o c1 c3 c4 e
end
section
variable {prog : Program} {w : World} {A : Around} {s : Shared} {R : Result → Shared → Prop}
theorem zip_loopTuple {z TI TO i1 i2 l1 l2 S : Nat} {xs ys : List Value} (hh : A.handled = none) (D : ZipApart z TI TO i1 i2 l1 l2) (hzS : z < S) (hTIS : TI < S) (hTOS : TO < S) (hi1 : i1 < S) (hi2 : i2 < S) (hl1S : l1 < S) (hl2S : l2 < S)
    (hn : (xs.zip ys).length ≤ sizeLine) (res : Value) {h₁ : Heap} (hL1 : h₁.IsTuple l1 xs.toArray) (hL2 : h₁.IsTuple l2 ys.toArray)
    (hR : ∀ h' tk acc c as, (∀ (b : Nat) o, b ≠ S → b ≠ z → b ≠ TO → b ≠ i1 → b ≠ i2 → h₁.get? b = some o → h'.get? b = some o) → h'.get? S = some { cls := .type "list", dict := none, data := .seq acc c, slots := #[] } → as.length = (xs.zip ys).length → ZPairs (xs.zip ys) S h' as →
      acc.toList = as.map Value.ref → R (.ok (.ret res)) { s with heap := h', toks := tk }) :
    ∀ (k i : Nat) (h : Heap) (tk c : Nat) (acc : Array Value) (as : List Nat), (xs.zip ys).length - i = k → i ≤ (xs.zip ys).length → ZStTuple h z TI TO i1 i2 l1 l2 S i → (∀ (b : Nat) o, b ≠ S → b ≠ z → b ≠ TO → b ≠ i1 → b ≠ i2 → h₁.get? b = some o → h.get? b = some o) →
      h.get? S = some { cls := .type "list", dict := none, data := .seq acc c, slots := #[] } → acc.toList = as.map Value.ref → as.length = i → ZPairs (xs.zip ys) S h as →
      codeAny (model prog w) A (.builtin "list.extend.loop" ⟨[.ref S, .ref z, res], []⟩) R { s with heap := h, toks := tk } := by
  have zl : (xs.zip ys).length = min xs.length ys.length := List.length_zip
  have seqAt : ∀ {h : Heap} {l : Nat} {us : Array Value}, l ≠ S → l ≠ z → l ≠ TO → l ≠ i1 → l ≠ i2 → h₁.IsTuple l us → (∀ (b : Nat) o, b ≠ S → b ≠ z → b ≠ TO → b ≠ i1 → b ≠ i2 → h₁.get? b = some o → h.get? b = some o) → h.IsTuple l us := fun c1 c2 c3 c4 c5 ⟨o, ho, r⟩ k => ⟨o, k _ o c1 c2 c3 c4 c5 ho, r⟩
  intro k
  induction k with
  | zero =>
    intro i h tk c acc as hk hi st hkeep hS hacc hal hG
    have hL1' := seqAt (by omega) D.l1z D.l1TO D.l1i1 D.l1i2 hL1 hkeep
    have hL2' := seqAt (by omega) D.l2z D.l2TO D.l2i1 D.l2i2 hL2 hkeep
    refine codeAny_builtin PySem.F.entry_extend_loop ?_
    rw [Around.under_plainId PySem.F.plain_extend_loop _]
    show wpAny _ A.in1 (pyNext (.ref z) >>= _) _ _ _
    refine wpAny_bind (zst_doneTuple (s := { s with heap := h, toks := tk }) (A := A.in1) hh D st hL1' hL2' ?_ fun h' he => ?_)
    · by_cases hx : xs.length ≤ i
      · exact .inl (by rw [List.getElem?_toArray]; exact List.getElem?_eq_none hx)
      · exact .inr (by rw [List.getElem?_toArray]; exact List.getElem?_eq_none (by omega))
    refine wpAny_pure (hR h' tk acc c as (fun b o c1 c2 c3 c4 c5 e => he b o c2 c3 c4 c5 (hkeep b o c1 c2 c3 c4 c5 e)) (he S _ (by omega) (by omega) (by omega) (by omega) hS) (by omega) ⟨hG.rise, hG.above, fun j a hj => ?_⟩ hacc)
    obtain ⟨p, e1, e2⟩ := hG.pairs j a hj
    have := hG.above a (List.mem_of_getElem? hj)
    exact ⟨p, e1, he a _ (by omega) (by omega) (by omega) (by omega) e2⟩
  | succ k ih =>
    intro i h tk c acc as hk hi st hkeep hS hacc hal hG
    have hL1' := seqAt (by omega) D.l1z D.l1TO D.l1i1 D.l1i2 hL1 hkeep
    have hL2' := seqAt (by omega) D.l2z D.l2TO D.l2i1 D.l2i2 hL2 hkeep
    have hx : xs.toArray[i]? = some (xs[i]'(by omega)) := by rw [List.getElem?_toArray]; exact List.getElem?_eq_getElem (by omega)
    have hy : ys.toArray[i]? = some (ys[i]'(by omega)) := by rw [List.getElem?_toArray]; exact List.getElem?_eq_getElem (by omega)
    have hsz : acc.size = i := by rw [← Array.length_toList, hacc, List.length_map, hal]
    have hSl : S < h.objs.size := Heap.lt_size hS
    refine codeAny_builtin PySem.F.entry_extend_loop ?_
    rw [Around.under_plainId PySem.F.plain_extend_loop _]
    show wpAny _ A.in1 (pyNext (.ref z) >>= _) _ _ _
    refine wpAny_bind (zst_itemTuple (s := { s with heap := h, toks := tk }) D hzS hTOS hi1 hi2 hSl st hL1' hL2' hx hy fun h' st' ht hz hkp => ?_)
    dsimp only at ht hz hkp ⊢
    have hS' := hkp S _ (by omega) (by omega) (by omega) (by omega) hS
    have up : ∀ (b : Nat) o, b ≠ S → h'.get? b = some o → (h'.update S (Obj.mapSeq (·.push (Value.ref h.objs.size)))).get? b = some o := fun b o hb e => (Heap.get?_update_other _ _ (Ne.symm hb)).trans e
    show wpAny _ A.in1 (updateSeq S (·.push (Value.ref h.objs.size)) >>= _) _ _ _
    refine wpAny_bind ?_
    refine wpAny_updateSeq hS' rfl (wpAny_pure ⟨plainId_quiet PySem.F.plain_extend_loop _, ih (i + 1) _ tk _ (acc.push (Value.ref h.objs.size)) (as ++ [h.objs.size]) (by omega) (by omega) ?_
      (fun b o c1 c2 c3 c4 c5 e => up b o c1 (hkp b o c2 c3 c4 c5 (hkeep b o c1 c2 c3 c4 c5 e))) (Heap.get?_update_self _ hS' rfl) (by rw [Array.toList_push, hacc, List.map_append]; rfl) (by rw [List.length_append, hal]; rfl) ⟨?_, ?_, ?_⟩⟩) (by rw [hsz]; omega) (by show (acc.push (Value.ref h.objs.size)).size ≤ sizeLine + 1; rw [Array.size_push, hsz]; omega)
    · obtain ⟨q1, q2, q3, q4⟩ := st'
      refine ⟨up _ _ (by omega) q1, q2.at fun o e => up _ o (by omega) e, q3.at fun o e => up _ o (by omega) e, ?_⟩
      rcases q4 with ⟨e, _⟩ | ⟨T, f, oT, y1, y2, y3⟩
      · omega
      · exact .inr ⟨T, f, oT, up _ _ (by omega) y1, up _ _ (by omega) y2, y3⟩
    · refine List.pairwise_append.mpr ⟨hG.rise, List.pairwise_singleton _ _, fun a ha b hb => ?_⟩
      rw [List.mem_singleton.mp hb]
      exact hG.there ha
    · intro a ha
      rcases List.mem_append.mp ha with ha | ha
      · exact hG.above a ha
      · rw [List.mem_singleton.mp ha]; exact hSl
    · intro j b hj
      rcases Nat.lt_trichotomy j as.length with h1 | h1 | h1
      · rw [List.getElem?_append_left h1] at hj
        obtain ⟨p, e1, e2⟩ := hG.pairs j b hj
        have hb := hG.above b (List.mem_of_getElem? hj)
        exact ⟨p, e1, up b _ (by omega) (hkp b _ (by omega) (by omega) (by omega) (by omega) e2)⟩
      · subst h1
        have hb : h.objs.size = b := by simpa using hj
        subst hb
        refine ⟨(xs[i]'(by omega), ys[i]'(by omega)), ?_, up _ _ (by omega) ht⟩
        rw [hal, List.getElem?_eq_getElem (by omega), List.getElem_zip]
      · have hnone : (as ++ [h.objs.size])[j]? = none := List.getElem?_eq_none (by rw [List.length_append, List.length_singleton]; omega)
        rw [hnone] at hj; cases hj
end
section
variable {prog : Program} {w : World} {A : Around} {E : Value → Shared → Prop} {s : Shared}
/-- list(z), z a zip at its start -/
theorem list_zipTuple {z TI TO i1 i2 l1 l2 : Nat} {xs ys : List Value} {Q : Value → Shared → Prop} (hh : A.handled = none) (D : ZipApart z TI TO i1 i2 l1 l2) (hz : IsZip s.heap z TI TO .none) (hTI : IsPair s.heap TI (.ref i1) (.ref i2)) (hTO : ∃ a b, IsPair s.heap TO a b)
    (h1 : s.heap.IsTupleIter i1 l1 0) (h2 : s.heap.IsTupleIter i2 l2 0) (hl1 : s.heap.IsTuple l1 xs.toArray) (hl2 : s.heap.IsTuple l2 ys.toArray) (hn : (xs.zip ys).length ≤ sizeLine)
    (hQ : ∀ h' tk acc c as, (∀ (b : Nat) o, b ≠ z → b ≠ TO → b ≠ i1 → b ≠ i2 → s.heap.get? b = some o → h'.get? b = some o) → h'.get? s.heap.objs.size = some { cls := .type "list", dict := none, data := .seq acc c, slots := #[] } → as.length = (xs.zip ys).length → ZPairs (xs.zip ys) s.heap.objs.size h' as →
      acc.toList = as.map Value.ref → Q (.ref s.heap.objs.size) { s with heap := h', toks := tk }) :
    wpAny (model prog w) A (call (.type "list") [.ref z]) Q E s := by
  have bz : z < s.heap.objs.size := Heap.lt_size hz
  have bTI : TI < s.heap.objs.size := Heap.lt_size hTI
  have bTO : TO < s.heap.objs.size := by obtain ⟨_, _, e⟩ := hTO; exact Heap.lt_size e
  have bi1 : i1 < s.heap.objs.size := by obtain ⟨_, e, _⟩ := h1; exact Heap.lt_size e
  have bi2 : i2 < s.heap.objs.size := by obtain ⟨_, e, _⟩ := h2; exact Heap.lt_size e
  have bl1 : l1 < s.heap.objs.size := by obtain ⟨_, e, _⟩ := hl1; exact Heap.lt_size e
  have bl2 : l2 < s.heap.objs.size := by obtain ⟨_, e, _⟩ := hl2; exact Heap.lt_size e
  refine callType_codes (Q₁ := fun obj s₁ => obj = .ref s.heap.objs.size ∧ s₁ = { s with heap := s.heap.push { cls := .type "list", data := .seq #[] } }) PySem.F.called_list (PySem.F.typeCall_list_1 _) PySem.F.entry_list_init
    (code_list_new _ ⟨rfl, rfl⟩) fun obj s₁ h₁ => ?_
  obtain ⟨rfl, rfl⟩ := h₁
  have hS : (s.heap.push { cls := .type "list", data := .seq #[] }).get? s.heap.objs.size = some { cls := .type "list", data := .seq #[] } := Heap.get?_push_size _ rfl
  refine ⟨⟨_, hS, rfl⟩, PySem.F.args_list_init_2 _ _, ?_⟩
  generalize hs1 : ({ s with heap := s.heap.push { cls := .type "list", data := .seq #[] } } : Shared) = s1
  have e1 : s1.heap = s.heap.push { cls := .type "list", data := .seq #[] } := by rw [← hs1]
  have hS1 : s1.heap.get? s.heap.objs.size = some { cls := .type "list", data := .seq #[] } := by rw [e1]; exact hS
  have old1 : ∀ b o, s.heap.get? b = some o → s1.heap.get? b = some o := fun b o e => by rw [e1]; exact Heap.get?_push_of_some _ e
  generalize hSS : s.heap.objs.size = S at hS1 bz bTI bTO bi1 bi2 bl1 bl2 hQ ⊢
  have fin : ∀ h' tk acc c as, (∀ (b : Nat) o, b ≠ S → b ≠ z → b ≠ TO → b ≠ i1 → b ≠ i2 → s.heap.get? b = some o → h'.get? b = some o) → h'.get? S = some { cls := .type "list", dict := none, data := .seq acc c, slots := #[] } → as.length = (xs.zip ys).length → ZPairs (xs.zip ys) S h' as →
      acc.toList = as.map Value.ref → Q (.ref S) { s1 with heap := h', toks := tk } := fun h' tk acc c as k1 k2 k3 k4 k5 => by
    have z := hQ h' tk acc c as (fun b o c2 c3 c4 c5 e => k1 b o (neN (Nat.ne_of_lt (by have q := Heap.lt_size e; rw [hSS] at q; exact q))) c2 c3 c4 c5 e) k2 k3 k4 k5
    rw [← hs1]
    exact z
  show wpAny _ _ (do let old ← Builtin.List.listItems (.ref S); Builtin.List.listUpdate (.ref S) (fun _ => #[]); letGo old.toList.reverse; Builtin.List.listExtendWith (.ref S) (.ref z) .none) _ _ s1
  refine wpAny_bind ?_
  unfold Builtin.List.listItems
  refine wpAny_bind (wpAny_seqItems hS1 rfl (wpAny_pure ?_))
  show wpAny _ _ (updateSeq S (fun _ => #[]) >>= fun _ => letGo (#[] : Array Value).toList.reverse >>= fun _ => Builtin.List.listExtendWith (.ref S) (.ref z) .none) _ _ s1
  refine wpAny_bind (wpAny_updateSeq hS1 rfl ?_)
  have hS₂ := Heap.get?_update_self (Obj.mapSeq (fun _ => (#[] : Array Value))) hS1 rfl
  have oth : ∀ (b : Nat) o, b ≠ S → s1.heap.get? b = some o → (s1.heap.update S (Obj.mapSeq (fun _ => (#[] : Array Value)))).get? b = some o := fun b o hb e => (Heap.get?_update_other _ _ (Ne.symm hb)).trans e
  refine wpAny_bind (wpAny_letGo ?_)
  generalize hs2 : ({ s1 with heap := s1.heap.update S (Obj.mapSeq (fun _ => (#[] : Array Value))) } : Shared) = s2
  have e2 : s2.heap = s1.heap.update S (Obj.mapSeq (fun _ => (#[] : Array Value))) := by rw [← hs2]
  have old2 : ∀ (b : Nat) o, b ≠ S → s.heap.get? b = some o → s2.heap.get? b = some o := fun b o hb e => by rw [e2]; exact oth b o hb (old1 b o e)
  have hS2 : ∃ c₀, s2.heap.get? S = some { cls := .type "list", data := .seq #[] c₀ } := ⟨_, by rw [e2]; exact hS₂⟩
  obtain ⟨c₀, hS2⟩ := hS2
  have hz2 : IsZip s2.heap z TI TO .none := old2 _ _ (by omega) hz
  have hT2 : s2.TypeIs (.ref z) "zip" := ⟨_, hz2, rfl⟩
  have fin2 : ∀ h' tk acc c as, (∀ (b : Nat) o, b ≠ S → b ≠ z → b ≠ TO → b ≠ i1 → b ≠ i2 → s2.heap.get? b = some o → h'.get? b = some o) → h'.get? S = some { cls := .type "list", dict := none, data := .seq acc c, slots := #[] } → as.length = (xs.zip ys).length → ZPairs (xs.zip ys) S h' as →
      acc.toList = as.map Value.ref → Q (.ref S) { s2 with heap := h', toks := tk } := fun h' tk acc c as k1 k2 k3 k4 k5 => by
    have z := fin h' tk acc c as (fun b o c1 c2 c3 c4 c5 e => k1 b o c1 c2 c3 c4 c5 (old2 b o c1 e)) k2 k3 k4 k5
    rw [← hs2]
    exact z
  have key : ∀ (h : Heap) (c₁ tk : Nat), (∀ (b : Nat) o, b ≠ S → s2.heap.get? b = some o → h.get? b = some o) → h.get? S = some { cls := .type "list", data := .seq #[] c₁ } →
      codeAny (model prog w) A.in1 (.builtin "list.extend.loop" ⟨[.ref S, .ref z, .none], []⟩) (wants (fun r s₂ => r = .none ∧ Q (.ref S) s₂) E) { s2 with heap := h, toks := tk } := fun h c₁ tk hk hS₁ => by
    refine zip_loopTuple (s := s2) (h₁ := s2.heap) (xs := xs) (ys := ys) (show A.in1.handled = none from hh) D bz bTI bTO bi1 bi2 bl1 bl2 hn .none (hl1.at fun o e => old2 _ o (by omega) e) (hl2.at fun o e => old2 _ o (by omega) e) (fun h' tk' acc c as k1 k2 k3 k4 k5 => ⟨rfl, fin2 h' tk' acc c as k1 k2 k3 k4 k5⟩)
      (xs.zip ys).length 0 h tk c₁ #[] [] (Nat.sub_zero _) (Nat.zero_le _) ⟨hk _ _ (by omega) (old2 _ _ (by omega) hTI), h1.at fun o e => hk _ o (by omega) (old2 _ o (by omega) e), h2.at fun o e => hk _ o (by omega) (old2 _ o (by omega) e), .inl ⟨rfl, hk _ _ (by omega) hz2, ?_⟩⟩
      (fun b o c1 _ _ _ _ e => hk b o c1 e) hS₁ rfl rfl ⟨List.Pairwise.nil, (fun _ ha => nomatch ha), (fun j a hj => by simp at hj)⟩
    obtain ⟨a, b, e⟩ := hTO
    exact ⟨a, b, hk _ _ (by omega) (old2 _ _ (by omega) e)⟩
  unfold Builtin.List.listExtendWith
  refine wpAny_bind (wpAny_typeOf (T := "zip") hT2 ?_)
  have g1 : Builtin.List.listSameRef (.ref S) (.ref z) = false := by simp [Builtin.List.listSameRef, show S ≠ z by omega]
  have g2 : (Value.type "zip" == Value.type "list") = false := by decide
  have g3 : (Value.type "zip" == Value.type "tuple") = false := by decide
  simp only [g1, g2, g3, Bool.or_false, Bool.false_eq_true, if_false]
  refine wpAny_bind (wpAny_pyIter_zip hz2 ?_)
  refine wpAny_bind (wpAny_holding (zip_hint hT2 ?_))
  refine wpAny_ite_split (fun _ => ?_) (fun _ => wpAny_pure ⟨plainId_quiet PySem.F.plain_extend_loop _, key s2.heap c₀ s2.toks (fun b o _ e => e) hS2⟩)
  refine wpAny_bind (wpAny_rule ?_)
  refine wpAny_bind ?_
  show wpAny _ _ (updateSeq S (·.push .none) >>= fun _ => updateSeq S (·.pop)) _ _ _
  refine wpAny_bind (wpAny_updateSeq hS2 rfl ?_)
  have hS₅ := Heap.get?_update_self (Obj.mapSeq (·.push Value.none)) hS2 rfl
  refine wpAny_updateSeq (hz := by seq_fits) hS₅ rfl ?_
  have hS₆ := Heap.get?_update_self (Obj.mapSeq (·.pop)) hS₅ rfl
  refine wpAny_pure ⟨plainId_quiet PySem.F.plain_extend_loop _, key _ _ s2.toks (fun b o hb e => ?_) hS₆⟩
  exact (Heap.get?_update_other _ _ (Ne.symm hb)).trans ((Heap.get?_update_other _ _ (Ne.symm hb)).trans e)
end
end DL
/-! DLr: list(zip(x, y)) as a rule -/
namespace DL
open PySem PySem.Spec PyProof.Rows L2
open RZ
open PySem.W (neN)

/-- pairs laid -/
def layT (H : Hp) : List Nat → List (V × V) → Hp
  | a :: as, p :: ps => layT (upd H a (.tup [p.1, p.2])) as ps
  | _, _ => H
theorem lay_old {b : Nat} : ∀ (as : List Nat) (ps : List (V × V)) (H : Hp), b ∉ as → layT H as ps b = H b
  | [], _, _, _ => rfl
  | _ :: _, [], _, _ => rfl
  | a :: as, p :: ps, H, h => by
    rw [List.mem_cons, not_or] at h
    show layT (upd H a (.tup [p.1, p.2])) as ps b = H b
    rw [lay_old as ps _ h.2, upd_ne h.1]
theorem lay_gro : ∀ (as : List Nat) (ps : List (V × V)) {P H : Hp}, Same P H → (∀ a ∈ as, H a = none) → as.Nodup → Gro P H (layT P as ps) (layT H as ps)
  | [], _, _, _, e, _, _ => Gro.refl e
  | _ :: _, [], _, _, e, _, _ => Gro.refl e
  | a :: as, p :: ps, P, H, e, h, nd => by
    rw [List.nodup_cons] at nd
    have g := Gro.laid (o := .tup [p.1, p.2]) e (h a List.mem_cons_self) fun _ z => nomatch z
    exact g.trans (lay_gro as ps g.sub (fun b hb => by rw [upd_ne (fun (z : b = a) => nd.1 (by rw [← z]; exact hb))]; exact h b (List.mem_cons_of_mem _ hb)) nd.2)
theorem lay_at : ∀ (as : List Nat) (ps : List (V × V)) (H : Hp) (j : Nat) (a : Nat) (p : V × V), as.Nodup → as[j]? = some a → ps[j]? = some p → layT H as ps a = some (.tup [p.1, p.2])
  | [], _, _, j, _, _, _, h, _ => by simp at h
  | _ :: _, [], _, j, _, _, _, _, h => by simp at h
  | b :: as, q :: ps, H, 0, a, p, nd, h1, h2 => by
    cases h1
    cases h2
    rw [List.nodup_cons] at nd
    show layT (upd H b (.tup [q.1, q.2])) as ps b = _
    rw [lay_old as ps _ nd.1, upd_same]
  | b :: as, q :: ps, H, j + 1, a, p, nd, h1, h2 => by
    rw [List.nodup_cons] at nd
    exact lay_at as ps _ j a p nd.2 (by simpa using h1) (by simpa using h2)
theorem lay_inv : ∀ (as : List Nat) (ps : List (V × V)) (H : Hp) (a : Nat) (o : HO), layT H as ps a = some o → H a = some o ∨ ∃ (j : Nat) (p : V × V), as[j]? = some a ∧ ps[j]? = some p ∧ o = .tup [p.1, p.2]
  | [], _, _, _, _, h => .inl h
  | _ :: _, [], _, _, _, h => .inl h
  | b :: as, q :: ps, H, a, o, h => by
    rcases lay_inv as ps _ a o h with h | ⟨j, p, h1, h2, h3⟩
    · by_cases hb : a = b
      · subst hb
        rw [upd_same] at h
        cases h
        exact .inr ⟨0, q, rfl, rfl, rfl⟩
      · rw [upd_ne hb] at h
        exact .inl h
    · exact .inr ⟨j + 1, p, by rw [List.getElem?_cons_succ]; exact h1, by rw [List.getElem?_cons_succ]; exact h2, h3⟩
theorem _root_.L2.HOk.learn {P : Program} {w : World} {H : Hp} {h : Heap} {a : Addr} {o : HO} (x : HOk P w H h) (hn : H a = none) (new : ObjOk P w (upd H a o) h a o) : HOk P w (upd H a o) h := fun b u e => by
  by_cases hb : b = a
  · subst hb; rw [upd_same] at e; cases e; exact new
  · rw [upd_ne hb] at e
    exact (x b u e).stay (fun c v _ q => q) (fun c q => by rw [upd_ne (ne_of_none q hn)]; exact q) fun c xs q => by rw [upd_ne (ne_of_none q hn)]; exact q
/-- new things become known all at once -/
theorem _root_.L2.Inv.learnN {X : Cx} {pins : List (Addr × Obj)} {σ : L2.St} {H H' : Hp} {s : Shared} {h' : Heap} {t' : Nat} (I : Inv X pins σ H s) (k : ∀ b u, s.heap.get? b = some u → h'.get? b = some u) (hok : HOk X.prog X.w H' h') (sub : Same H H') (old : ∀ b, b < s.heap.objs.size → H' b = H b) : Inv X pins σ H' { s with heap := h', toks := t' } := by
  refine I.call (ch := []) ⟨fun b o q _ _ _ => k b o q, fun b o q _ _ _ => ⟨o.slots, k b o q⟩, fun b o q n _ => by rw [old b (Heap.lt_size q)]; exact n, fun b o q _ => ⟨o, k b o q⟩, fun b xs q => sub _ _ q, fun b o u q => sub _ _ q, fun b ps q => ⟨#[], by rw [sub _ _ q]; simp⟩⟩ hok I.bare (fun _ z => nomatch z)
theorem two_small : 2 ≤ sizeLine := by rw [sizeLine_eq]; omega
def pairD (p : PyData × PyData) : PyData := .tuple [p.1, p.2]
def zipD : PyData → PyData → Option (List PyData)
  | .list xs, .list ys => some ((xs.zip ys).map pairD)
  | .tuple xs, .tuple ys => some ((xs.zip ys).map pairD)
  | _, _ => none
theorem RpAll.zip {K : PySem.W.Frag} {P P' : Hp} (sm : Same P P') : ∀ {vs ws : List V} {ds es : List PyData} {as : List Nat}, RpAll K P vs ds → RpAll K P ws es → as.length = (vs.zip ws).length → (∀ (j : Nat) (a : Nat) (p : V × V), as[j]? = some a → (vs.zip ws)[j]? = some p → P' a = some (.tup [p.1, p.2])) → RpAll K P' (as.map fun a => V.ref a) ((ds.zip es).map pairD)
  | _, _, _, _, [], .nil, _, _, _ => by simpa using RpAll.nil
  | _, _, _, _, _ :: _, .nil, _, h, _ => by simp at h
  | _, _, _, _, [], .cons _ _, .nil, _, _ => by simpa using RpAll.nil
  | _, _, _, _, _ :: _, .cons _ _, .nil, h, _ => by simp at h
  | _, _, _, _, [], .cons _ _, .cons _ _, h, _ => by simp at h
  | _, _, _, _, a :: as, .cons q1 t1, .cons q2 t2, h, k => by
    refine .cons (.tup (.inl (.inl (k 0 a _ rfl rfl))) (.cons (q1.mono sm) (.cons (q2.mono sm) .nil))) ?_
    exact RpAll.zip sm t1 t2 (by simpa using h) fun j b p e1 e2 => k (j + 1) b p (by simpa using e1) (by simpa using e2)
theorem vals_refN : ∀ (as : List Nat), Vals (as.map fun a => V.ref a) (as.map Value.ref)
  | [] => .nil
  | _ :: r => .cons rfl (vals_refN r)
theorem vals_zip : ∀ {vs ws : List V} {us ts : List Value} {j : Nat} {p : V × V} {q : Value × Value}, Vals vs us → Vals ws ts → (vs.zip ws)[j]? = some p → (us.zip ts)[j]? = some q → RelV p.1 q.1 ∧ RelV p.2 q.2
  | _, _, _, _, _, _, _, .nil, _, h, _ => by simp at h
  | _, _, _, _, _, _, _, .cons _ _, .nil, h, _ => by simp at h
  | _, _, _, _, 0, _, _, .cons r _, .cons q _, h1, h2 => by
    cases h1
    cases h2
    exact ⟨r, q⟩
  | _, _, _, _, j + 1, _, _, .cons _ r, .cons _ q, h1, h2 => vals_zip (j := j) r q (by simpa using h1) (by simpa using h2)
section
variable {X : Cx} {pins : List (Addr × Obj)} {σ : L2.St} {H P : Hp} {s : Shared}
/-- the list of pairs is there -/
theorem zip_laid {Q : VK} {E : Value → Shared → Prop} {vs ws : List V} {ds es : List PyData} {us ts : List Value} {h' : Heap} {tk c : Nat} {acc : Array Value} {as : List Nat} {S : Nat} (I : Inv X pins σ H s) (sm : Same P H) (rv1 : Vals vs us) (rv2 : Vals ws ts) (ra1 : RpAll X.K P vs ds) (ra2 : RpAll X.K P ws es)
    (k : ∀ b o, s.heap.get? b = some o → h'.get? b = some o) (hS : s.heap.objs.size ≤ S) (hSg : h'.get? S = some { cls := .type "list", dict := none, data := .seq acc c, slots := #[] }) (hl : as.length = (us.zip ts).length) (Z : ZPairs (us.zip ts) S h' as) (ea : acc.toList = as.map Value.ref) (hn : (us.zip ts).length ≤ sizeLine)
    (q : ∀ P' H' p zs, Gro P H P' H' → H' p = none → RpAll X.K P' zs ((ds.zip es).map pairD) → Q (.ref p) (upd H' p (.lst zs))) : EP X pins σ Q (.ref S) { s with heap := h', toks := tk } := by
  have hl1 := rv1.length
  have hl2 := rv2.length
  have hz : (vs.zip ws).length = (us.zip ts).length := by rw [List.length_zip, List.length_zip, hl1, hl2]
  have hal : as.length = (vs.zip ws).length := by rw [hz, hl]
  have nd : as.Nodup := Z.rise.imp fun h => Nat.ne_of_lt h
  have fr : ∀ a ∈ as, H a = none := fun a ha => I.hok.fresh (Nat.le_of_lt (Nat.lt_of_le_of_lt hS (Z.above a ha)))
  have g := lay_gro as (vs.zip ws) sm fr nd
  have hSas : S ∉ as := fun z => Nat.lt_irrefl _ (Z.above S z)
  have hSn : layT H as (vs.zip ws) S = none := by rw [lay_old _ _ _ hSas]; exact I.hok.fresh hS
  have gH := lay_gro as (vs.zip ws) (Same.refl H) fr nd
  have ok1 : HOk X.prog X.w (layT H as (vs.zip ws)) h' := fun b o e => by
    rcases lay_inv _ _ _ _ _ e with e | ⟨j, p, e1, e2, rfl⟩
    · exact (I.hok b o e).stay (fun c v _ q => k c v q) (fun c q => gH.p _ _ q) fun c xs q => gH.p _ _ q
    · obtain ⟨q, f1, f2⟩ := Z.pairs j b e1
      obtain ⟨r1, r2⟩ := vals_zip rv1 rv2 e2 f1
      exact ⟨two_small, [q.1, q.2], .cons r1 (.cons r2 .nil), ⟨_, f2, rfl, _, rfl⟩⟩
  have ok2 : HOk X.prog X.w (upd (layT H as (vs.zip ws)) S (.lst (as.map fun a => V.ref a))) h' := ok1.learn hSn ⟨by rw [List.length_map, hl]; exact hn, acc.toList, c, by rw [ea]; exact vals_refN as, by rw [Array.toArray_toList]; exact hSg⟩
  have J : Inv X pins σ (upd (layT H as (vs.zip ws)) S (.lst (as.map fun a => V.ref a))) { s with heap := h', toks := tk } := by
    refine I.learnN k ok2 (gH.p.trans (same_upd hSn)) fun b hb => ?_
    rw [upd_ne (neN (Nat.ne_of_lt (Nat.lt_of_lt_of_le hb hS))), lay_old _ _ _ fun z => ?_]
    have := Z.above b z
    exact Nat.lt_irrefl _ (Nat.lt_trans (Nat.lt_of_lt_of_le hb hS) this)
  exact ⟨.ref S, _, J, rfl, q _ _ S _ g hSn (RpAll.zip g.p ra1 ra2 hal fun j a p e1 e2 => lay_at _ _ _ j a p nd e1 e2)⟩
theorem listzip_raw {Q : VK} {v1 v2 : V} {u1 u2 : Value} {d1 d2 : PyData} {zs : List PyData} (hc : X.calm = true) (I : Inv X pins σ H s) (sm : Same P H) (r1 : RelV v1 u1) (r2 : RelV v2 u2) (h1 : Rb X.K P H v1 d1) (h2 : Rb X.K P H v2 d2) (hz : zipD d1 d2 = some zs) (hl : zs.length ≤ 16777216)
    (q : ∀ P' H' p vs, Gro P H P' H' → H' p = none → RpAll X.K P' vs zs → Q (.ref p) (upd H' p (.lst vs))) :
    wpAny (model X.prog X.w) X.A (call (.type "zip") [u1, u2]) (fun z s' => wpAny (model X.prog X.w) X.A (call (.type "list") [z]) (EP X pins σ Q) X.xe s') X.xe s := by
  have old5 : ∀ {b : Addr} {o : Obj}, s.heap.get? b = some o → b ≠ s.heap.objs.size + 4 ∧ b ≠ s.heap.objs.size + 3 ∧ b ≠ s.heap.objs.size ∧ b ≠ s.heap.objs.size + 1 := fun {b o} e => by
    have := Heap.lt_size e
    exact ⟨neN (Nat.ne_of_lt (Nat.lt_of_lt_of_le this (Nat.le_add_right _ _))), neN (Nat.ne_of_lt (Nat.lt_of_lt_of_le this (Nat.le_add_right _ _))), neN (Nat.ne_of_lt this), neN (Nat.ne_of_lt (Nat.lt_of_lt_of_le this (Nat.le_add_right _ _)))⟩
  unfold zipD at hz
  split at hz
  · rename_i xs ys
    cases hz
    obtain ⟨a1, ws1, rfl, ha1, ra1⟩ := h1.lstI sm
    obtain ⟨a2, ws2, rfl, ha2, ra2⟩ := h2.lstI sm
    cases r1
    cases r2
    obtain ⟨its1, rv1, p1, _⟩ := I.list ha1
    obtain ⟨its2, rv2, p2, _⟩ := I.list ha2
    have e1 := rv1.length
    have e2 := rv2.length
    have f1 := ra1.length
    have f2 := ra2.length
    have hn : (its1.zip its2).length ≤ sizeLine := by
      rw [List.length_map, List.length_zip] at hl
      rw [List.length_zip, sizeLine_eq]
      omega
    have q1 : s.heap.IsList a1 its1.toArray := p1.isList
    have q2 : s.heap.IsList a2 its2.toArray := p2.isList
    have l1 : a1 < s.heap.objs.size := by obtain ⟨_, e, _⟩ := q1; exact Heap.lt_size e
    have l2 : a2 < s.heap.objs.size := by obtain ⟨_, e, _⟩ := q2; exact Heap.lt_size e
    refine call_zip_2 q1 q2 fun h' y1 y2 y3 y4 y5 y6 y7 => ?_
    refine list_zipList (s := { s with heap := h' }) (I.ok.hd hc) (PySem.W.ktu_apart s.heap.objs.size a1 a2 l1 l2) y1 y2 ⟨_, _, y3⟩ y4 y5 (q1.at fun o e => y7 _ o e) (q2.at fun o e => y7 _ o e) hn fun h2 tk acc c as k1 k2 k3 k4 k5 => ?_
    refine zip_laid (E := X.xe) (s := s) I sm rv1 rv2 ra1 ra2 (fun b o e => ?_) ?_ k2 k3 k4 k5 hn q
    · obtain ⟨n1, n2, n3, n4⟩ := old5 e
      exact k1 b o n1 n2 n3 n4 (y7 b o e)
    · show s.heap.objs.size ≤ h'.objs.size
      rw [y6]
      exact Nat.le_add_right _ _
  · rename_i xs ys
    cases hz
    obtain ⟨a1, ws1, rfl, ha1, ra1⟩ := h1.tupI
    obtain ⟨a2, ws2, rfl, ha2, ra2⟩ := h2.tupI
    cases r1
    cases r2
    obtain ⟨its1, rv1, p1, _⟩ := I.tuple (sm.sqt ha1)
    obtain ⟨its2, rv2, p2, _⟩ := I.tuple (sm.sqt ha2)
    have e1 := rv1.length
    have e2 := rv2.length
    have f1 := ra1.length
    have f2 := ra2.length
    have hn : (its1.zip its2).length ≤ sizeLine := by
      rw [List.length_map, List.length_zip] at hl
      rw [List.length_zip, sizeLine_eq]
      omega
    have q1 : s.heap.IsTuple a1 its1.toArray := p1
    have q2 : s.heap.IsTuple a2 its2.toArray := p2
    have l1 : a1 < s.heap.objs.size := by obtain ⟨_, e, _⟩ := q1; exact Heap.lt_size e
    have l2 : a2 < s.heap.objs.size := by obtain ⟨_, e, _⟩ := q2; exact Heap.lt_size e
    refine call_zipT q1 q2 fun h' y1 y2 y3 y4 y5 y6 y7 => ?_
    refine list_zipTuple (s := { s with heap := h' }) (I.ok.hd hc) (PySem.W.ktu_apart s.heap.objs.size a1 a2 l1 l2) y1 y2 ⟨_, _, y3⟩ y4 y5 (q1.at fun o e => y7 _ o e) (q2.at fun o e => y7 _ o e) hn fun h2 tk acc c as k1 k2 k3 k4 k5 => ?_
    refine zip_laid (E := X.xe) (s := s) I sm rv1 rv2 ra1 ra2 (fun b o e => ?_) ?_ k2 k3 k4 k5 hn q
    · obtain ⟨n1, n2, n3, n4⟩ := old5 e
      exact k1 b o n1 n2 n3 n4 (y7 b o e)
    · show s.heap.objs.size ≤ h'.objs.size
      rw [y6]
      exact Nat.le_add_right _ _
  · cases hz
end
def nListZip (f g : Sl → Out Tk) : Sl → Out (List PyData) := fun ε => (f ε).bind fun τ ε1 => (g ε1).bind fun υ ε2 => match rd ε2 τ, rd ε2 υ with
  | some d1, some d2 => match zipD d1 d2 with
    | some zs => if zs.length ≤ 16777216 then .ok zs ε2 else .stuck
    | none => .stuck
  | _, _ => .stuck
section
variable {X : Cx} {S : Sta} {R : Exc → Sl → Prop} {a b : Expr} {pos p p2 q : Pos}
def tListZip (X : Cx) (ta tb : TE) : TE := fun σ H Q => ta σ H fun v1 H1 => tb σ H1 fun v2 H2 => ∃ P d1 d2 zs, Same P H2 ∧ Rb X.K P H2 v1 d1 ∧ Rb X.K P H2 v2 d2 ∧ zipD d1 d2 = some zs ∧ zs.length ≤ 16777216 ∧ ∀ P' H' p vs, Gro P H2 P' H' → H' p = none → RpAll X.K P' vs zs → Q (.ref p) (upd H' p (.lst vs))
theorem dn_listZip {f g : Sl → Out Tk} (hc : X.calm = true) (h : DE X S R a f) (h2 : DE X S R b g) (hg : Gl X "list") (hm : X.mg "list" = none) (hg2 : Gl X "zip") (hm2 : X.mg "zip" = none) (na : starEach [a, b] X.env = (false, eval a X.env) :: starEach [b] X.env := by rfl) (na2 : starEach [b] X.env = (false, eval b X.env) :: starEach [] X.env := by rfl)
    (hpl : (backTo q (starEach [b] X.env)).any (·.1) = false := by rfl)
    (nb : starEach [.Call (.Name "zip" p2) [a, b] [] q] X.env = (false, eval (.Call (.Name "zip" p2) [a, b] [] q) X.env) :: starEach [] X.env := by rfl) : DN X S R (.Call (.Name "list" p) [.Call (.Name "zip" p2) [a, b] [] q] [] pos) (nListZip f g) := by
  obtain ⟨t, pe, k⟩ := h
  obtain ⟨t2, pe2, k2⟩ := h2
  refine ⟨tListZip X t t2, ⟨fun pins s σ H Q I h => ?_⟩, fun T P A σ H ε Q r w => k T P A σ H ε _ r (w.bind.imp fun τ ε1 w v P1 H1 r1 s1 tk => k2 T P1 A σ H1 ε1 _ r1 (w.bind.imp fun υ ε2 w v2 P2 H2 r2 s2 tk2 => ?_))⟩
  · refine Call_ (ld_blt I hg hm boot_list ?_)
    refine callWith_type1 (args_cons ?_ nb) nb rfl
    refine Call_ (ld_blt I hg2 hm2 boot_zip ?_)
    refine callWith_type1 (args_cons (thn (pe.run pins s σ H _ I h) fun u s1 ⟨v, H1, I1, r1, q1⟩ => ?_) na) na hpl
    refine args_cons (thn (pe2.run pins s1 σ H1 _ I1 q1) fun u2 s2 ⟨v2, H2, I2, r2, q2⟩ => args_nil ?_) na2
    obtain ⟨P, d1, d2, zs, sm, b1, b2, hz, hl, q⟩ := q2
    refine wpAny_mono (listzip_raw hc I2 sm r1 (show RelV v2 u2 from r2) b1 b2 hz hl q) (fun z s' e => args_nil e) fun _ _ e => e
  · split at w
    · rename_i d1 d2 hd1 hd2
      split at w
      · rename_i zs hz
        split at w
        · rename_i hl
          exact ⟨P2, d1, d2, zs, r2.sub, r2.rd (tk.mono s2) hd1, r2.rd tk2 hd2, hz, hl, fun P' H' p vs g hn ra => fin_new w (r2.grow g) ((s1.trans s2).trans g.p) hn ra⟩
        · exact w.elim
      · exact w.elim
    · exact w.elim
end
end DL
/-! DLs: x[::-1] -/
namespace DL
open PySem PySem.Spec PyProof.Rows L2

theorem fm_congr {α β : Type} {f g : α → Option β} : ∀ {l : List α}, (∀ x ∈ l, f x = g x) → l.filterMap f = l.filterMap g
  | [], _ => rfl
  | a :: r, h => by
    rw [List.filterMap_cons, List.filterMap_cons, h a List.mem_cons_self, fm_congr fun x hx => h x (List.mem_cons_of_mem _ hx)]
theorem rev_map {α : Type} (xs : List α) : (List.range xs.length).filterMap (fun (m : Nat) => xs[((xs.length : Int) - 1 + (m : Int) * (-1)).toNat]?) = xs.reverse := by
  apply List.ext_getElem?
  have e : ∀ m, m < xs.length → xs[((xs.length : Int) - 1 + (m : Int) * (-1)).toNat]? = xs.reverse[m]? := fun m hm => by
    rw [List.getElem?_reverse hm]
    congr 1
    omega
  have key : (List.range xs.length).filterMap (fun (m : Nat) => xs[((xs.length : Int) - 1 + (m : Int) * (-1)).toNat]?) = (List.range xs.length).filterMap (fun m => xs.reverse[m]?) := by
    exact fm_congr fun m hm => e m (List.mem_range.mp hm)
  have key2 : (List.range xs.length).filterMap (fun m => xs.reverse[m]?) = xs.reverse := by
    have h := PySem.List.filterMap_getElem?_range_length xs.reverse
    rw [List.length_reverse] at h
    exact h
  intro i
  rw [key, key2]
section
variable {prog : Program} {w : World} {A : Around} {E : Value → Shared → Prop} {s : Shared}
theorem sliceApplied_rev {sl : Addr} {vs : Value} {n : Nat} {Q : Int × Int × Nat → Shared → Prop} (hs : s.heap.IsSliceOf sl .none .none vs) (ps : IsPart vs (some (-1)))
    (h : Q ((n : Int) - 1, -1, n) s) : wpAny (model prog w) A (Builtin.Slice.sliceApplied (.ref sl) (pure (n : Int))) Q E s := by
  obtain ⟨os, hos, hcs, hds⟩ := id hs
  unfold Builtin.Slice.sliceApplied Builtin.Slice.sliceFields
  refine wpAny_bind (wpAny_bind (wpAny_field hos hds (x := .none) rfl (wpAny_bind (wpAny_field hos hds (x := .none) rfl (wpAny_bind (wpAny_field hos hds (x := vs) rfl (wpAny_pure ?_)))))))
  refine wpAny_bind (HT.slicePart_ ps ?_)
  show wpAny _ _ (if ((-1 : Int) == 0) = true then _ else _) _ _ s
  rw [if_neg (by decide)]
  refine wpAny_bind (slicePart_none (wpAny_bind (slicePart_none (wpAny_bind (wpAny_pure ?_)))))
  show wpAny _ _ (match Builtin.Slice.sliceAdjust none none (-1) (n : Int) with | (lo, hi) => pure (lo, (-1 : Int), Builtin.Slice.slicePlaces lo hi (-1))) _ _ s
  have e : Builtin.Slice.sliceAdjust none none (-1) (n : Int) = ((n : Int) - 1, -1) := rfl
  rw [e]
  show wpAny _ _ (pure ((n : Int) - 1, (-1 : Int), Builtin.Slice.slicePlaces ((n : Int) - 1) (-1) (-1))) _ _ s
  have e2 : Builtin.Slice.slicePlaces ((n : Int) - 1) (-1) (-1) = n := by
    unfold Builtin.Slice.slicePlaces
    have h1 : ¬ ((-1 : Int) > 0) := by omega
    simp only [h1, if_false]
    rw [show -(-1 : Int) = 1 from rfl, Int.ediv_one]
    split <;> omega
  rw [e2]
  exact wpAny_pure h
theorem getItem_tuple_rev {t sl : Addr} {items : Array Value} {vs : Value} {Q : Value → Shared → Prop} (ht : IsTup s.heap t items) (hs : s.heap.IsSliceOf sl .none .none vs) (ps : IsPart vs (some (-1)))
    (h : Q (.ref s.heap.objs.size) { s with heap := s.heap.push { cls := .type "tuple", data := .seq items.toList.reverse.toArray } })
    (hsz : items.size ≤ sizeLine) : wpAny (model prog w) A (getItem (.ref t) (.ref sl)) Q E s := by
  have htake : sizeOk (.seq items.toList.reverse.toArray) := by
    show items.toList.reverse.toArray.size ≤ sizeLine
    rw [List.size_toArray, List.length_reverse, Array.length_toList]
    exact hsz
  obtain ⟨os, hos, hcs, hds⟩ := id hs
  have hTs : s.TypeIs (.ref sl) "slice" := ⟨os, hos, hcs⟩
  unfold getItem
  try with_reducible refine wpAny_holding ?_
  first | refine wpAny_bind (wpAny_pure ?_) | skip
  refine wpAny_bind (wpAny_sequenceKey ht.typeIs (by decide) ?_)
  refine wpAny_bind (wpAny_callSpecial?_slot (name := Str.ofString "__getitem__") ht.typeIs PyProof.Rows.slot_tuple_getitem
    (wpAny_call_entry PyProof.Rows.slot_tuple_getitem ht.typeIs entry_tuple_getitem ?_ (args_tuple_getitem _ _)))
  show wpAny _ _ (Builtin.Tuple.tupleItemsOf (.ref t) >>= _) _ _ s
  refine wpAny_bind (tupleItemsOf_ ht ?_)
  refine wpAny_bind (wpAny_typeOf hTs ?_)
  rw [if_pos (by decide)]
  refine wpAny_bind (sliceApplied_rev hs ps ?_)
  have hno : ¬ ((((items.size : Int) - 1) == 0 && (-1 : Int) == 1 && items.size == items.size) = true) := by simp
  show wpAny _ _ (if (((items.size : Int) - 1) == 0 && (-1 : Int) == 1 && items.size == items.size) = true then _ else _) _ _ s
  rw [if_neg hno]
  have e : ((List.range items.size).filterMap fun (m : Nat) => items[((items.size : Int) - 1 + (m : Int) * (-1)).toNat]?) = items.toList.reverse := by
    have z := rev_map items.toList
    rw [Array.length_toList] at z
    rw [← z]
    exact fm_congr fun m _ => by rw [Array.getElem?_toList]
  rw [e]
  first
    | exact wpAny_bind (m := Builtin.Tuple.tupleExact _) (wpAny_newObj_type (wpAny_pure ⟨_, rfl, wpAny_pure h⟩) htake)
    | exact wpAny_bind (m := Builtin.Tuple.tupleExact _) (wpAny_newObj_type (wpAny_bind (wpAny_pure (wpAny_pure ⟨_, rfl, wpAny_pure h⟩))) htake)
    | exact wpAny_bind (wpAny_bind (m := Builtin.Tuple.tupleExact _) (wpAny_newObj_type (wpAny_pure (wpAny_pure ⟨_, rfl, wpAny_pure h⟩)) htake))
    | exact wpAny_bind (wpAny_bind (m := Builtin.Tuple.tupleExact _) (wpAny_newObj_type (wpAny_pure ⟨_, rfl, wpAny_pure h⟩) htake))
end
section
variable {X : Cx} {S : Sta} {R : Exc → Sl → Prop} {e : Expr} {pos p1 p2 p3 : Pos} {k : Nat}
def tRevA (K : PySem.W.Frag) (te : TE) : TE := fun σ H Q => te σ H fun x H1 => ∃ a xs, x = .ref a ∧ ((SqL K H1 a xs ∧ ∀ p, H1 p = none → Q (.ref p) (upd H1 p (.lst xs.reverse))) ∨ (SqT K H1 a xs ∧ ∀ p, H1 p = none → Q (.ref p) (upd H1 p (.tup xs.reverse))))
theorem pe_revA {te : TE} (he : PE X e te) : PE X (.Subscript e (.Slice none none (some (.UnaryOp .USub (.Constant (.int 1) k p1) p2)) p3) pos) (tRevA X.K te) := by
  refine ⟨fun pins s σ H Q I h => ?_⟩
  refine Subscript_ (thn (he.run pins s σ H _ I h) fun v s1 ⟨x, H1, I1, r1, q1⟩ => ?_)
  obtain ⟨a, xs, ex, q⟩ := q1
  subst ex
  cases r1
  have hst : PO X (some (.UnaryOp .USub (.Constant (.int 1) k p1) p2)) (tPart (tUn (rU fun i => .int (-i)) (tC (.int 1)))) := po_some (pe_un un_neg pe_int)
  refine wpAny_Slice (thn (po_none.run pins s1 σ H1 (fun o H2 => o = none ∧ H2 = H1) I1 ⟨rfl, rfl⟩) fun vl s2 ⟨l, H2, I2, pl, el, e2⟩ => ?_)
  subst el e2
  refine thn (po_none.run pins s2 σ H2 (fun o H3 => o = none ∧ H3 = H2) I2 ⟨rfl, rfl⟩) fun vu s3 ⟨u, H3, I3, pu, eu, e3⟩ => ?_
  subst eu e3
  refine thn (hst.run pins s3 σ H3 (fun o H4 => o = some (-1) ∧ H4 = H3) I3 ⟨1, rfl, -1, rfl, rfl, rfl⟩) fun vs s4 ⟨o, H4, I4, ps, eo, e4⟩ => ?_
  subst eo e4
  have I5 : Inv X pins σ H4 { s4 with heap := s4.heap.push { cls := .type "slice", data := .fields #[vl, vu, vs] } } := I4.kept (t' := s4.toks) fun b ob q => Heap.get?_push_of_some _ q
  show wpAny (model X.prog X.w) X.A (subscriptTail e (.Slice none none (some (.UnaryOp .USub (.Constant (.int 1) k p1) p2)) p3) (.ref a) (.ref s4.heap.objs.size)) (EP X pins σ Q) X.xe { s4 with heap := s4.heap.push { cls := .type "slice", data := .fields #[vl, vu, vs] } }
  rcases q with ⟨hx, q⟩ | ⟨hx, q⟩
  · obtain ⟨its, r, ht, hz⟩ := I5.list hx
    have hlen := r.length
    refine tail_any (ops := [.ref a, .ref s4.heap.objs.size]) ht.isList.typeIs (PySem.slot_list_getitem.lookup) ?_ (by with_unfolding_all rfl)
    refine wpAny_getItem_list_slice ht.isList (Heap.IsSliceOf.new _ vl vu vs) pl pu ps (by decide) ?_ (by rw [List.size_toArray]; omega)
    rw [PySem.W.krv_pick]
    refine ⟨.ref _, _, I5.laid (t' := s4.toks) (o := .lst xs.reverse) (fun b ob q => Heap.get?_push_of_some _ q) (Nat.le_refl _) ?_, rfl, q _ (I5.hok.fresh (Nat.le_refl _))⟩
    exact ⟨by rw [List.length_reverse]; exact hz, _, 0, r.reverse, Heap.get?_push_size _ rfl⟩
  · obtain ⟨its, r, ht, hz⟩ := I5.tuple hx
    have hlen := r.length
    refine tail_any (ops := [.ref a, .ref s4.heap.objs.size]) ht.typeIs (PyProof.Rows.slot_tuple_getitem.lookup) ?_ (by with_unfolding_all rfl)
    cases pl
    cases pu
    refine getItem_tuple_rev ht (Heap.IsSliceOf.new _ .none .none vs) ps ?_ (by rw [List.size_toArray]; omega)
    refine ⟨.ref _, _, I5.laid (t' := s4.toks) (o := .tup xs.reverse) (fun b ob q => Heap.get?_push_of_some _ q) (Nat.le_refl _) ?_, rfl, q _ (I5.hok.fresh (Nat.le_refl _))⟩
    exact ⟨by rw [List.length_reverse]; exact hz, its.reverse, r.reverse, by rw [List.toList_toArray]; exact IsTup.new _ _⟩
def revD : PyData → Option PyData
  | .list xs => some (.list xs.reverse)
  | .tuple xs => some (.tuple xs.reverse)
  | _ => none
def kRev (f : Sl → Out Tk) : Sl → Out PyData := fun ε => (f ε).bind fun τ ε' => match rd ε' τ with
  | some d => match revD d with
    | some z => .ok z ε'
    | none => .stuck
  | none => .stuck
theorem dp_rev {f : Sl → Out Tk} (h : DE X S R e f) : DP X S R (.Subscript e (.Slice none none (some (.UnaryOp .USub (.Constant (.int 1) k p1) p2)) p3) pos) (kRev f) := by
  obtain ⟨t, p, q⟩ := h
  refine ⟨_, pe_revA p, fun T P A σ H ε Q r w => q T P A σ H ε _ r (w.bind.imp fun τ ε' w v P' H' r' s' tk => ?_)⟩
  split at w
  · rename_i d hd
    have b := r'.rd tk hd
    split at w
    · rename_i z hz
      unfold revD at hz
      split at hz
      · cases hz
        obtain ⟨a, ws, rfl, ha, ra⟩ := b.lstI r'.sub
        exact ⟨a, ws, rfl, .inl ⟨ha, fun p hp => w (.ref p) _ _ (r'.grow (Gro.lst r'.sub hp)) (s'.trans (same_upd (r'.sub.free hp))) (Rp.newLst (r'.sub.free hp) ra.reverse)⟩⟩
      · cases hz
        obtain ⟨a, ws, rfl, ha, ra⟩ := b.tupI
        exact ⟨a, ws, rfl, .inr ⟨r'.sub.sqt ha, fun p hp => w (.ref p) _ _ (r'.grow (Gro.tup r'.sub hp)) (s'.trans (same_upd (r'.sub.free hp))) (Rp.newTup (r'.sub.free hp) ra.reverse)⟩⟩
      · cases hz
    · exact w.elim
  · exact w.elim
end
end DL
/-! DLt: -x; names for the coercions; the law's promise -/
namespace DL
open PySem PySem.Spec PyProof.Rows L2

/-- from one judgement to another, by the functions -/
abbrev nD (f : Sl → Out (List PyData)) : Sl → Out PyData := fun ε => (f ε).map .list
abbrev pE (f : Sl → Out PyData) : Sl → Out Tk := fun ε => (f ε).map .dat
abbrev eP (f : Sl → Out Tk) : Sl → Out PyData := fun ε => (f ε).bind per
abbrev rP' (f : Sl → Out Rv) : Sl → Out PyData := fun ε => (f ε).map Rv.d
abbrev pR (f : Sl → Out PyData) : Sl → Out Rv := fun ε => (f ε).map .dat
abbrev nR (f : Sl → Out (List PyData)) : Sl → Out Rv := fun ε => (f ε).map .lst
abbrev vB (f : Sl → Out PyData) : Sl → Out Bool := fun ε => toB (f ε)
abbrev tU (f : Sl → Out (List PyData)) : Sl → Out PyData := fun ε => (f ε).map .tuple
def kNeg (f : Sl → Out PyData) : Sl → Out PyData := fun ε => (f ε).bind fun d ε' => match d with
  | .int i => .ok (.int (-i)) ε'
  | _ => .stuck
section
variable {X : Cx} {S : Sta} {R : Exc → Sl → Prop} {a : Expr} {pos : Pos}
theorem dp_neg {f : Sl → Out PyData} (h : DP X S R a f) : DP X S R (.UnaryOp .USub a pos) (kNeg f) := by
  obtain ⟨t, p, q⟩ := h
  refine ⟨_, pe_un un_neg p, fun T P A σ H ε Q r w => q T P A σ H ε _ r (w.bind.imp fun d ε' w v P' H' r' s' k => ?_)⟩
  cases d with
  | int i =>
    cases k
    exact ⟨i, rfl, w (.int (-i)) P' H' r' s' (.int _)⟩
  | _ => exact w.elim
end
theorem Cal.mono {P : Program} {w : World} {K : PySem.W.Frag} {mg : Str → Option Value} {base : Heap} {x : Str} {j k n : Nat} {m : List Ent → FO} (C : Cal P w K mg base x j n m) (h : j ≤ k) : Cal P w K mg base x k n m := by
  obtain ⟨f, fd, ps, F, h1, h2, h3⟩ := C
  exact ⟨f, fd, ps, F.mono h, h1, h2, h3⟩
/-- what is asked of the law -/
def spLaw (K : PySem.W.Frag) : Sp := fun vs H Q _ => ∃ (a : Addr) (ns : List Int), vs = [.ref a] ∧ (∀ a ps, H a ≠ some (.tbl ps)) ∧ SqL K H a (ns.map V.int) ∧ ns.length ≤ 63 ∧ ∀ H', Q (.bl true) H'
/-- the law's plain form: it says True, whatever the script -/
def TrueAt (m : List Ent → FO) : Prop := ∀ ns : List Int, ns.length ≤ 63 → ∃ outs, m [.dat (.list (ns.map .int))] = .ok (.dat (.bool true)) outs
theorem law_ok {P : Program} {w : World} {K : PySem.W.Frag} {mg : Str → Option Value} {base : Heap} {k : Nat} {f : Addr} {fd : FuncData} {ps : List Str} {m : List Ent → FO} (F : FnOk P w K mg base (L2.CX P w) k f fd ps (spD K mg 1 m)) (h : TrueAt m) : FnOk P w K mg base (L2.CX P w) k f fd ps (spLaw K) := by
  refine F.imp fun vs H Q E q => ?_
  obtain ⟨a, ns, rfl, ht, hS, hl, q⟩ := q
  obtain ⟨outs, hm⟩ := h ns hl
  refine ⟨H, fun _ => 0, [.dat (.list (ns.map .int))], Same.refl _, ht, rfl, rfl, fun i e he => ?_, fun i j ds es hij h1 h2 => ?_, ?_⟩
  · cases i with
    | zero =>
      cases he
      exact ⟨.ref a, rfl, .lst hS (RpAll.ints ns)⟩
    | succ i => simp at he
  · cases i with
    | zero => cases h1
    | succ i => simp at h1
  · rw [hm]
    intro v H' P' _ k
    cases k
    exact q H'
/-- the length of what arguments give -/
def LenA (g : Sl → Out (List Tk)) (n : Nat) : Prop := ∀ ε τs ε', g ε = .ok τs ε' → τs.length = n
theorem len_nil : LenA aNil 0 := fun ε τs ε' h => by
  cases h
  rfl
theorem len_cons {f : Sl → Out Tk} {g : Sl → Out (List Tk)} {n : Nat} (h : LenA g n) : LenA (aCons f g) (n + 1) := fun ε τs ε' e => by
  unfold aCons at e
  cases hf : f ε with
  | ok τ ε1 =>
    rw [hf] at e
    have e : (g ε1).map (τ :: ·) = .ok τs ε' := e
    cases hg : g ε1 with
    | ok us ε2 =>
      rw [hg] at e
      cases e
      rw [List.length_cons, h _ _ _ hg]
    | exc x ε2 => rw [hg] at e; cases e
    | stuck => rw [hg] at e; cases e
  | exc x ε1 => rw [hf] at e; cases e
  | stuck => rw [hf] at e; cases e
theorem only_tbl {H : Hp} (h : Only H) : ∀ a ps, H a ≠ some (.tbl ps) := fun a ps e => by
  rcases h a with z | ⟨o, xs, z⟩
  · rw [z] at e; cases e
  · rw [z] at e; cases e
/-! ### the built-in names -/
theorem bt_int : bootBuiltins "int" = some (.type "int") := by decide +kernel
theorem bt_bool : bootBuiltins "bool" = some (.type "bool") := by decide +kernel
theorem bt_str : bootBuiltins "str" = some (.type "str") := by decide +kernel
theorem bt_list : bootBuiltins "list" = some (.type "list") := by decide +kernel
theorem bt_tuple : bootBuiltins "tuple" = some (.type "tuple") := by decide +kernel
theorem bt_dict : bootBuiltins "dict" = some (.type "dict") := by decide +kernel
theorem bt_set : bootBuiltins "set" = some (.type "set") := by decide +kernel
theorem bt_len : bootBuiltins "len" = some (.builtin "len") := by decide +kernel
theorem bt_abs : bootBuiltins "abs" = some (.builtin "abs") := by decide +kernel
theorem bt_sum : bootBuiltins "sum" = some (.builtin "sum") := by decide +kernel
theorem bt_all : bootBuiltins "all" = some (.builtin "all") := by decide +kernel
theorem bt_any : bootBuiltins "any" = some (.builtin "any") := by decide +kernel
theorem bt_sorted : bootBuiltins "sorted" = some (.builtin "sorted") := by decide +kernel
theorem bt_repr : bootBuiltins "repr" = some (.builtin "repr") := by decide +kernel
theorem bt_min : bootBuiltins "min" = some (.builtin "min") := by decide +kernel
theorem bt_max : bootBuiltins "max" = some (.builtin "max") := by decide +kernel
theorem cx_no {P : Program} {w : World} {H : Hp} {s : Shared} {e : Value} {s' : Shared} (h : L2.CX P w [] H s (fun _ _ _ => False) e s') : False := by
  obtain ⟨_, _, _, _, _, _, _, _, _, _, _, _, hE⟩ := h
  exact hE
/-! ### a module's constants -/
def flatOk : Value → PyData → Bool
  | .none, .none => true
  | .bool b, .bool c => b == c
  | .int i _, .int j => i == j
  | .str x _, .str y => x == y
  | _, _ => false
def flatsOk : List Value → List PyData → Bool
  | [], [] => true
  | v :: vs, d :: ds => flatOk v d && flatsOk vs ds
  | _, _ => false
theorem flat_rp {K : PySem.W.Frag} {P : Hp} {u : Value} {d : PyData} (h : flatOk u d = true) : ∃ v, RelV v u ∧ Rp K P v d := by
  unfold flatOk at h
  split at h
  · exact ⟨.non, rfl, .non⟩
  · rename_i b c
    have e : b = c := by simpa using h
    subst e
    exact ⟨.bl b, rfl, .bl b⟩
  · rename_i i t j
    have e : i = j := by simpa using h
    subst e
    exact ⟨.int i, ⟨t, rfl⟩, .int i⟩
  · rename_i x t y
    have e : x = y := by simpa using h
    subst e
    exact ⟨.str x, ⟨t, rfl⟩, .str x⟩
  · cases h
theorem flats_rp {K : PySem.W.Frag} {P : Hp} : ∀ {us : List Value} {ds : List PyData}, flatsOk us ds = true → ∃ vs, Vals vs us ∧ RpAll K P vs ds
  | [], [], _ => ⟨[], .nil, .nil⟩
  | [], _ :: _, h => by cases h
  | _ :: _, [], h => by cases h
  | u :: us, d :: ds, h => by
    unfold flatsOk at h
    rw [Bool.and_eq_true] at h
    obtain ⟨v, h1, h2⟩ := flat_rp (K := K) (P := P) h.1
    obtain ⟨vs, h3, h4⟩ := flats_rp (K := K) (P := P) h.2
    exact ⟨v :: vs, .cons h1 h3, .cons h2 h4⟩
theorem glo_flat {K : PySem.W.Frag} {mg : Str → Option Value} {x : Str} {u : Value} {d : PyData} (h : mg x = some u) (c : flatOk u d = true) : Glo K mg x d := by
  obtain ⟨v, h1, h2⟩ := flat_rp (K := K) (P := fun _ => none) c
  exact ⟨u, v, h, h1, h2⟩
theorem glo_tup {K : PySem.W.Frag} {mg : Str → Option Value} {x : Str} {a : Addr} {ds : List PyData} {od : Option Addr} {its : Array Value} {n : Nat} {sl : Array (Option Value)} (h : mg x = some (.ref a)) (l : K.lookup a = some ⟨.type "tuple", od, .seq its n, sl⟩) (c : (flatsOk its.toList ds && decide (its.size ≤ 16777216)) = true) : Glo K mg x (.tuple ds) := by
  rw [Bool.and_eq_true, decide_eq_true_eq] at c
  obtain ⟨vs, h1, h2⟩ := flats_rp (K := K) (P := fun _ => none) c.1
  exact ⟨.ref a, .ref a, h, rfl, .tup (.inr ⟨_, its, n, l, rfl, rfl, by rw [sizeLine_eq]; exact c.2, h1⟩) h2⟩
end DL
/-! DLu: what the functions do, big steps: one lemma for each combinator -/
namespace DL
open PySem PySem.Spec PyProof.Rows L2
section
variable {α β : Type} {f f1 f2 f3 : Sl → Out Tk} {h h1 h2 : Sl → Out PyData} {n : Sl → Out (List PyData)} {k l : Sl → Out Bool} {a : Sl → Out (List Tk)} {rv rw' : Sl → Out Rv} {F G : Sl → SO} {ε ε1 ε2 ε3 ε' : Sl} {d e r d1 d2 d3 : PyData} {τ τ1 τ2 τ3 : Tk} {τs : List Tk} {i j : Nat} {o : SO} {ds es : List PyData}
theorem e_varD (hu : ε[i]? = some (.dat d)) : kVar i ε = .ok (.dat d) ε := by unfold kVar; rw [hu]
theorem e_varO (hu : ε[i]? = some (.own ds)) : kVar i ε = .ok (.at i) ε := by unfold kVar; rw [hu]
theorem e_varI (hu : ε[i]? = some (.io ds)) : kVar i ε = .ok (.at i) ε := by unfold kVar; rw [hu]
theorem e_op2 {g : PyData → PyData → Option PyData} (p1 : f1 ε = .ok τ1 ε1) (p2 : f2 ε1 = .ok τ2 ε2) (q1 : rd ε2 τ1 = some d1) (q2 : rd ε2 τ2 = some d2) (q : g d1 d2 = some r) : op2 g f1 f2 ε = .ok r ε2 := by
  unfold op2
  rw [p1, Out.bind_ok, p2, Out.bind_ok, q1, q2]
  dsimp only
  rw [q]
theorem e_map {g : α → β} {u : Sl → Out α} {x : α} (p : u ε = .ok x ε1) : (u ε).map g = .ok (g x) ε1 := by rw [p]; rfl
theorem e_per (p : f ε = .ok τ ε1) (q : per τ ε1 = .ok d ε2) : (f ε).bind per = .ok d ε2 := by rw [p]; exact q
theorem e_toB {b : Bool} (p : h ε = .ok (.bool b) ε1) : toB (h ε) = .ok b ε1 := by rw [p]; rfl
theorem e_and0 (p : h1 ε = .ok (.bool false) ε1) : kAnd h1 h2 ε = .ok (.bool false) ε1 := by unfold kAnd; rw [p]; rfl
theorem e_and1 (p : h1 ε = .ok (.bool true) ε1) (q : h2 ε1 = .ok d ε2) : kAnd h1 h2 ε = .ok d ε2 := by unfold kAnd; rw [p]; exact q
theorem e_or1 (p : h1 ε = .ok (.bool true) ε1) : kOr h1 h2 ε = .ok (.bool true) ε1 := by unfold kOr; rw [p]; rfl
theorem e_or0 (p : h1 ε = .ok (.bool false) ε1) (q : h2 ε1 = .ok d ε2) : kOr h1 h2 ε = .ok d ε2 := by unfold kOr; rw [p]; exact q
/-- and, or of truth values: the second is looked at where it must be -/
theorem e_andB {b c : Bool} (p : h1 ε = .ok (.bool b) ε1) (q : b = true → h2 ε1 = .ok (.bool c) ε1) : kAnd h1 h2 ε = .ok (.bool (b && c)) ε1 := by
  cases b with
  | false => exact e_and0 p
  | true => exact e_and1 p (q rfl)
theorem e_orB {b c : Bool} (p : h1 ε = .ok (.bool b) ε1) (q : b = false → h2 ε1 = .ok (.bool c) ε1) : kOr h1 h2 ε = .ok (.bool (b || c)) ε1 := by
  cases b with
  | true => exact e_or1 p
  | false => exact e_or0 p (q rfl)
theorem e_not {b : Bool} (p : h ε = .ok (.bool b) ε1) : kNot h ε = .ok (.bool (!b)) ε1 := by unfold kNot; rw [p]; rfl
theorem e_jand {b c : Bool} (p : k ε = .ok b ε1) (q : b = true → l ε1 = .ok c ε1) : jAnd k l ε = .ok (b && c) ε1 := by
  unfold jAnd
  rw [p]
  cases b with
  | false => rfl
  | true => exact q rfl
theorem e_jor {b c : Bool} (p : k ε = .ok b ε1) (q : b = false → l ε1 = .ok c ε1) : jOr k l ε = .ok (b || c) ε1 := by
  unfold jOr
  rw [p]
  cases b with
  | true => rfl
  | false => exact q rfl
theorem e_jor0 {c : Bool} (p : k ε = .ok false ε1) (q : l ε1 = .ok c ε2) : jOr k l ε = .ok c ε2 := by unfold jOr; rw [p]; exact q
theorem e_jor1 (p : k ε = .ok true ε1) : jOr k l ε = .ok true ε1 := by unfold jOr; rw [p]; rfl
theorem e_jand1 {c : Bool} (p : k ε = .ok true ε1) (q : l ε1 = .ok c ε2) : jAnd k l ε = .ok c ε2 := by unfold jAnd; rw [p]; exact q
theorem e_jand0 (p : k ε = .ok false ε1) : jAnd k l ε = .ok false ε1 := by unfold jAnd; rw [p]; rfl
theorem e_jnot {b : Bool} (p : k ε = .ok b ε1) : jNot k ε = .ok (!b) ε1 := by unfold jNot; rw [p]; rfl
theorem e_neg {x : Int} (p : h ε = .ok (.int x) ε1) : kNeg h ε = .ok (.int (-x)) ε1 := by unfold kNeg; rw [p]; rfl
theorem e_isa {T : String} (p : f ε = .ok τ ε1) (q : rd ε1 τ = some d) : kIsa T f ε = .ok (.bool (isaB T d)) ε1 := by unfold kIsa; rw [p, Out.bind_ok, q]
theorem e_isa2 {T U : String} (p : f ε = .ok τ ε1) (q : rd ε1 τ = some d) : kIsa2 T U f ε = .ok (.bool (isaB T d || isaB U d)) ε1 := by unfold kIsa2; rw [p, Out.bind_ok, q]
theorem e_isN (p : f ε = .ok τ ε1) (q : rd ε1 τ = some d) : kIsN f ε = .ok (.bool (isNon d)) ε1 := by unfold kIsN; rw [p, Out.bind_ok, q]
theorem e_notN (p : f ε = .ok τ ε1) (q : rd ε1 τ = some d) : kNotN f ε = .ok (.bool (!isNon d)) ε1 := by unfold kNotN; rw [p, Out.bind_ok, q]
theorem e_anil : aNil ε = .ok [] ε := rfl
theorem e_acons (p : f ε = .ok τ ε1) (q : a ε1 = .ok τs ε2) : aCons f a ε = .ok (τ :: τs) ε2 := by unfold aCons; rw [p, Out.bind_ok, q]; rfl
theorem e_tup (p : a ε = .ok τs ε1) (q : dats τs = some ds) (hl : ds.length ≤ 1000) : kTup a ε = .ok (.tuple ds) ε1 := by
  unfold kTup
  rw [p, Out.bind_ok, q]
  dsimp only
  rw [if_pos hl]
theorem e_lst (p : a ε = .ok τs ε1) (q : dats τs = some ds) (hl : ds.length ≤ 1000) : nLst a ε = .ok ds ε1 := by
  unfold nLst
  rw [p, Out.bind_ok, q]
  dsimp only
  rw [if_pos hl]
theorem e_call {g : List PyData → Option PyData} (p : a ε = .ok τs ε1) (q : rds ε1 τs = some ds) (z : g ds = some r) : kCall g a ε = .ok r ε1 := by
  unfold kCall
  rw [p, Out.bind_ok, q]
  dsimp only
  rw [z]
theorem e_ncall {g : List PyData → Option (List PyData)} (p : a ε = .ok τs ε1) (q : rds ε1 τs = some ds) (z : g ds = some es) : nCall g a ε = .ok es ε1 := by
  unfold nCall
  rw [p, Out.bind_ok, q]
  dsimp only
  rw [z]
theorem e_callF {m : List Ent → FO} {x : Rv} {ents outs : List Ent} (p : a ε = .ok τs ε1) (q : argEnts ε1 τs = some ents) (nd : (slots τs).Nodup) (z : m ents = .ok x outs) : callF m a ε = .ok x (backE τs outs ε1) := by
  unfold callF
  rw [p, Out.bind_ok, q]
  dsimp only
  rw [if_pos nd, z]
theorem e_sl {lo hi : Sl → Out (Option Int)} {x y : Option Int} (p : f ε = .ok τ ε1) (q1 : lo ε1 = .ok x ε2) (q2 : hi ε2 = .ok y ε3) (q : rd ε3 τ = some d) (z : slD d x y = some r) : kSl f lo hi ε = .ok r ε3 := by
  unfold kSl
  rw [p, Out.bind_ok, q1, Out.bind_ok, q2, Out.bind_ok, q]
  dsimp only
  rw [z]
theorem e_osome {x : Int} (p : h ε = .ok (.int x) ε1) : oSome h ε = .ok (some x) ε1 := by unfold oSome; rw [p]; rfl
theorem e_ifx1 (p : k ε = .ok true ε1) (q : h1 ε1 = .ok d ε2) : kIf k h1 h2 ε = .ok d ε2 := by unfold kIf; rw [p]; exact q
theorem e_ifx0 (p : k ε = .ok false ε1) (q : h2 ε1 = .ok d ε2) : kIf k h1 h2 ε = .ok d ε2 := by unfold kIf; rw [p]; exact q
/-! ### statements -/
theorem e_seq (p : F ε = .nx ε1) (q : G ε1 = o) : sSeq F G ε = o := by unfold sSeq; rw [p]; exact q
theorem e_seqR {x : Rv} (p : F ε = .rt x ε1) : sSeq F G ε = .rt x ε1 := by unfold sSeq; rw [p]
theorem e_if1 (p : k ε = .ok true ε1) (q : F ε1 = o) : sIf k F G ε = o := by unfold sIf; rw [p]; exact q
theorem e_if0 (p : k ε = .ok false ε1) (q : G ε1 = o) : sIf k F G ε = o := by unfold sIf; rw [p]; exact q
theorem e_ret (p : h ε = .ok d ε1) : sRet h ε = .rt (.dat d) ε1 := by unfold sRet; rw [p]; rfl
theorem e_retR {x : Rv} (p : rv ε = .ok x ε1) : sRetR rv ε = .rt x ε1 := by unfold sRetR; rw [p]; rfl
theorem e_expr (p : f ε = .ok τ ε1) : sExpr f ε = .nx ε1 := by unfold sExpr; rw [p]; rfl
theorem e_asg {g : PyData → Sl → Option Sl} (p : h ε = .ok d ε1) (q : g d ε1 = some ε2) : sAsg h g ε = .nx ε2 := by unfold sAsg; rw [p]; show (match g d ε1 with | some ε2 => SO.nx ε2 | none => .stuck) = _; rw [q]
theorem e_setR {x : Rv} (p : rv ε = .ok x ε1) (hl : i < ε1.length) : sSetR i rv ε = .nx (x.put ε1 i) := by
  unfold sSetR
  rw [p, Out.so_ok, if_pos hl]
theorem e_par2 {x y : Rv} (p : rv ε = .ok x ε1) (q : rw' ε1 = .ok y ε2) (hl : i < ε2.length ∧ j < ε2.length) : sPar2 i j rv rw' ε = .nx (y.put (x.put ε2 i) j) := by
  unfold sPar2
  rw [p, Out.so_ok, q, Out.so_ok, if_pos hl]
theorem e_setIx {fi : Sl → Out PyData} {x : Int} {m : Nat} {us : List PyData} (p : h ε = .ok d ε1) (q1 : lsAt ε1 i = some us) (q : fi ε1 = .ok (.int x) ε2) (z : lsAt ε2 i = some ds) (w : ixN ds.length x = some m) : sSetIx i fi h ε = .nx (lsPut ε2 i (ds.set m d)) := by
  unfold sSetIx
  rw [p, Out.so_ok, q1]
  dsimp only
  rw [q, Out.so_ok, z]
  dsimp only
  rw [w]
theorem e_aug {g : PyData → PyData → Option PyData} {old : PyData} (q0 : ε[i]? = some (.dat old)) (p : h ε = .ok d ε1) (q : g old d = some r) (hl : i < ε1.length) : sAug i g h ε = .nx (ε1.set i (.dat r)) := by
  unfold sAug
  rw [q0]
  dsimp only
  rw [p, Out.so_ok, q]
  dsimp only
  rw [if_pos hl]
theorem e_append {us : List PyData} (q0 : lsAt ε i = some us) (p : h ε = .ok d ε1) (q : lsAt ε1 i = some ds) (hl : ds.length < 16777216) : kAppend i h ε = .ok (.dat .none) (lsPut ε1 i (ds ++ [d])) := by
  unfold kAppend
  rw [q0]
  dsimp only
  rw [p, Out.bind_ok, q]
  dsimp only
  rw [if_pos hl]
theorem e_extend {us : List PyData} (q0 : lsAt ε i = some us) (p : h ε = .ok (.list es) ε1) (q : lsAt ε1 i = some ds) (hl : ds.length + es.length ≤ 16777216) : kExtend i h ε = .ok (.dat .none) (lsPut ε1 i (ds ++ es)) := by
  unfold kExtend
  rw [q0]
  dsimp only
  rw [p, Out.bind_ok, q]
  dsimp only
  rw [if_pos hl]
theorem e_popAt {us : List PyData} {x : Int} (q0 : lsAt ε i = some us) (p : h ε = .ok (.int x) ε1) (q : lsAt ε1 i = some ds) (hl : 0 ≤ x ∧ x < ds.length ∧ ds.length ≤ 16777216) (z : ds[x.toNat]? = some d) : kPopAt i h ε = .ok d (lsPut ε1 i (ds.eraseIdx x.toNat)) := by
  unfold kPopAt
  rw [q0]
  dsimp only
  rw [p, Out.bind_ok, q]
  dsimp only
  rw [if_pos hl, z]
theorem e_fnR {N : Nat} {ents outs : List Ent} {x : Rv} (p : F (ents ++ List.replicate (N - ents.length) .un) = .rt x ε1) (q : keepIo ents ε1 = some outs) : mkFn N F ents = .ok x outs := by
  unfold mkFn
  rw [p]
  dsimp only
  rw [q]
/-! ### the operations, where they need a word -/
theorem mul_ok {x y : Int} (hl : (-(2 ^ 64) < x ∧ x < 2 ^ 64) ∨ (-(2 ^ 64) < y ∧ y < 2 ^ 64)) : mulD (.int x) (.int y) = some (.int (x * y)) := if_pos hl
theorem mod_ok {x y : Int} (hl : 0 < y) : modD (.int x) (.int y) = some (.int (x % y)) := if_pos hl
theorem div_ok {x y : Int} (hl : 0 < y ∧ y < 1073741824) : divD (.int x) (.int y) = some (.int (x / y)) := if_pos hl
/-! ### while -/
theorem whN_nx {m : Nat} (p : k ε = .ok true ε1) (q : F ε1 = .nx ε2) : whN k F (m + 1) ε = whN k F m ε2 := by
  show (k ε).so _ = _
  rw [p, Out.so_ok]
  dsimp only
  rw [q]
theorem whN_end {m : Nat} (p : k ε = .ok false ε1) : whN k F (m + 1) ε = .nx ε1 := by
  show (k ε).so _ = _
  rw [p, Out.so_ok]
/-- a loop that ends: St holds at each turn, m is what is left -/
theorem e_while {St : Nat → Sl → Prop} {Fin : Sl → Prop} (turn : ∀ m ε, St (m + 1) ε → ∃ ε1 ε2, k ε = .ok true ε1 ∧ F ε1 = .nx ε2 ∧ ∃ m', m' ≤ m ∧ St m' ε2) (fin : ∀ ε, St 0 ε → ∃ ε1, k ε = .ok false ε1 ∧ Fin ε1) : ∀ m ε, St m ε → ∃ ε', sWhile k F ε = .nx ε' ∧ Fin ε' := by
  have key : ∀ m M ε, m ≤ M → St m ε → ∃ ε' N, whN k F N ε = .nx ε' ∧ Fin ε' := by
    intro m M
    induction M generalizing m with
    | zero =>
      intro ε hm h
      have e : m = 0 := by omega
      subst e
      obtain ⟨ε1, p, q⟩ := fin ε h
      exact ⟨ε1, 1, whN_end p, q⟩
    | succ M ih =>
      intro ε hm h
      cases m with
      | zero =>
        obtain ⟨ε1, p, q⟩ := fin ε h
        exact ⟨ε1, 1, whN_end p, q⟩
      | succ m =>
        obtain ⟨ε1, ε2, p, q, m', hm', h'⟩ := turn m ε h
        obtain ⟨ε', N, z, y⟩ := ih m' ε2 (by omega) h'
        exact ⟨ε', N + 1, by rw [whN_nx p q]; exact z, y⟩
  intro m ε h
  obtain ⟨ε', N, z, y⟩ := key m m ε (Nat.le_refl _) h
  exact ⟨ε', sWhile_of z (fun q => nomatch q), y⟩
end
end DL
/-! DLv: the helpers that every law has: the bag, what is drawn from it, what is alike -/
namespace DL
open PySem PySem.Spec PyProof.Rows L2
noncomputable def F_bag : Sl → SO := (sRetR (nR (nLst (aCons (pE (kConst (.int 0))) (aCons (pE (kConst (.int 1234567891))) (aCons (pE (kConst (.int 0))) (aCons (pE (nD (nLc (wItems (kSl (kVar 0) oNone (oSome (kConst (.int 63))))) [1] (gSet 1) jYes (kCall absD (aCons (kVar 1) aNil))))) aNil)))))))
noncomputable def m_bag : List Ent → FO := mkFn 2 F_bag
noncomputable def F_take : Sl → SO := (sSeq (sIf (vB (op2 eqD (pE (op2 ixD (kVar 0) (pE (kConst (.int 0))))) (pE (kConst (.int 0)))))
  (sSeq (sAsg (op2 ixD (pE (op2 addD (pE (kSl (pE (op2 ixD (kVar 0) (pE (kConst (.int 3))))) (oSome (op2 ixD (kVar 0) (pE (kConst (.int 2))))) oNone)) (pE (nD (nLst (aCons (pE (kConst (.int 0))) aNil)))))) (pE (kConst (.int 0)))) (gSet 2))
  (sSeq (sAugIx 0 addI (kConst (.int 2)) (kConst (.int 1)))
  (sSeq (sIf (vB (op2 geD (kVar 2) (pE (op2 powD (pE (kConst (.int 10))) (pE (kConst (.int 18)))))))
  (sSetIx 0 (kConst (.int 0)) (eP (kVar 2)))
  sNil)
  (sSeq (sAsg (op2 addD (pE (op2 addD (pE (op2 mulD (pE (op2 ixD (kVar 0) (pE (kConst (.int 1))))) (pE (kConst (.int 48271))))) (pE (op2 modD (pE (kCall intD (aCons (kVar 2) aNil))) (pE (kConst (.int 2147483647))))))) (pE (op2 mulD (pE (kConst (.int 7919))) (pE (op2 ixD (kVar 0) (pE (kConst (.int 2)))))))) (gSet 3))
  (sSetIx 0 (kConst (.int 1)) (op2 modD (pE (kCall intD (aCons (kVar 3) aNil))) (pE (kConst (.int 2147483647)))))))))
  sNil)
  (sSeq (sIf (vB (op2 gtD (pE (op2 ixD (kVar 0) (pE (kConst (.int 0))))) (pE (kConst (.int 0)))))
  (sSeq (sAsg (op2 modD (pE (kCall intD (aCons (pE (op2 ixD (kVar 0) (pE (kConst (.int 0))))) aNil))) (kVar 1)) (gSet 4))
  (sSeq (sSetIx 0 (kConst (.int 0)) (op2 divD (pE (kCall intD (aCons (pE (op2 ixD (kVar 0) (pE (kConst (.int 0))))) aNil))) (kVar 1)))
  (sRet (eP (kVar 4)))))
  sNil)
  (sSeq (sAsg (op2 modD (pE (kCall intD (aCons (pE (op2 mulD (pE (op2 addD (pE (op2 ixD (kVar 0) (pE (kConst (.int 1))))) (pE (kConst (.int 1))))) (pE (kConst (.int 39373))))) aNil))) (pE (kConst (.int 1000000007)))) (gSet 5))
  (sSeq (sAsg (op2 modD (pE (kCall intD (aCons (pE (op2 mulD (pE (op2 modD (pE (kCall intD (aCons (pE (op2 mulD (kVar 5) (kVar 5))) aNil))) (pE (kConst (.int 998244353))))) (pE (kConst (.int 30011))))) aNil))) (pE (kConst (.int 998244353)))) (gSet 6))
  (sRet (op2 modD (pE (kCall intD (aCons (pE (op2 divD (kVar 6) (pE (kConst (.int 7))))) aNil))) (kVar 1)))))))
noncomputable def m_take : List Ent → FO := mkFn 7 F_take
noncomputable def F_some : Sl → SO := (sRet (op2 ixD (kVar 1) (pE (rP' (callF m_take (aCons (kVar 0) (aCons (pE (kCall lenD (aCons (kVar 1) aNil))) aNil)))))))
noncomputable def m_some : List Ent → FO := mkFn 2 F_some
noncomputable def F_alike : Sl → SO := (sSeq (sPar2 2 3 (nR (nLst (aCons (pE (kTup (aCons (pE (eP (kVar 0))) (aCons (pE (eP (kVar 1))) aNil)))) aNil))) (pR (kConst (.int 0))))
  (sSeq (sWhile (vB (op2 ltD (kVar 3) (pE (kCall lenD (aCons (kVar 2) aNil)))))
  (sSeq (sAsg (op2 ixD (kVar 2) (kVar 3)) (gTupD 2 (gsCons (gSet 4) (gsCons (gSet 5) gsNil))))
  (sSeq (sAug 3 addI (kConst (.int 1)))
  (sSeq (sIf (jOr (vB (op2 neD (pE (kIsa "bool" (kVar 4))) (pE (kIsa "bool" (kVar 5))))) (vB (op2 neD (pE (kIsa "str" (kVar 4))) (pE (kIsa "str" (kVar 5))))))
  (sRet (kConst (.bool false)))
  sNil)
  (sSeq (sIf (vB (op2 neD (pE (kIsa2 "tuple" "list" (kVar 4))) (pE (kIsa2 "tuple" "list" (kVar 5)))))
  (sRet (kConst (.bool false)))
  sNil)
  (sIf (vB (kIsa2 "tuple" "list" (kVar 4)))
  (sSeq (sIf (jOr (vB (op2 neD (pE (kIsa "tuple" (kVar 4))) (pE (kIsa "tuple" (kVar 5))))) (vB (op2 neD (pE (kCall lenD (aCons (kVar 4) aNil))) (pE (kCall lenD (aCons (kVar 5) aNil))))))
  (sRet (kConst (.bool false)))
  sNil)
  (sExpr (kExtend 2 (nD (nListZip (kVar 4) (kVar 5))))))
  (sIf (vB (op2 neD (kVar 4) (kVar 5)))
  (sRet (kConst (.bool false)))
  sNil)))))))
  (sRet (kConst (.bool true)))))
noncomputable def m_alike : List Ent → FO := mkFn 6 F_alike
/-- a bag: what is left of a great number, a stirred number, how many cells were taken, the cells -/
def bagD (a0 a1 a2 : Int) (cells : List Int) : List PyData := [.int a0, .int a1, .int a2, .list (cells.map .int)]
def BagOk (B : List PyData) : Prop := ∃ a0 a1 a2 cells, B = bagD a0 a1 a2 cells ∧ 0 ≤ a0 ∧ 0 ≤ a1 ∧ a1 < 2147483647 ∧ 0 ≤ a2 ∧ (∀ c ∈ cells, (0 : Int) ≤ c) ∧ cells.length ≤ 63
theorem cell_ok (cells : List Int) (a2 : Int) (h : ∀ c ∈ cells, (0 : Int) ≤ c) : ∃ c : Int, 0 ≤ c ∧ ixD (.list (cutD (cells.map PyData.int) (some a2) none ++ [.int 0])) (.int 0) = some (.int c) := by
  have e : ∃ us : List Int, cutD (cells.map PyData.int) (some a2) none = us.map PyData.int ∧ ∀ c ∈ us, c ∈ cells := by
    unfold cutD
    refine ⟨_, by rw [← List.map_drop, ← List.map_take], fun c hc => List.mem_of_mem_drop (List.mem_of_mem_take hc)⟩
  obtain ⟨us, e1, e2⟩ := e
  rw [e1]
  cases us with
  | nil => exact ⟨0, Int.le_refl _, rfl⟩
  | cons c r => exact ⟨c, h c (e2 c List.mem_cons_self), (show atI (List.map PyData.int (c :: r) ++ [PyData.int 0]) ((0 : Nat) : Int) = _ from atI_nat rfl)⟩
/-- one cell is taken, the numbers are stirred -/
theorem take_stir {a1 a2 : Int} {cells : List Int} {many : PyData} (h1 : 0 ≤ a1) (h1' : a1 < 2147483647) (h2 : 0 ≤ a2) (hc : ∀ c ∈ cells, (0 : Int) ≤ c) (hl : cells.length ≤ 63) :
    ∃ B' x y, BagOk B' ∧ (sSeq (sAsg (op2 ixD (pE (op2 addD (pE (kSl (pE (op2 ixD (kVar 0) (pE (kConst (.int 3))))) (oSome (op2 ixD (kVar 0) (pE (kConst (.int 2))))) oNone)) (pE (nD (nLst (aCons (pE (kConst (.int 0))) aNil)))))) (pE (kConst (.int 0)))) (gSet 2))
  (sSeq (sAugIx 0 addI (kConst (.int 2)) (kConst (.int 1)))
  (sSeq (sIf (vB (op2 geD (kVar 2) (pE (op2 powD (pE (kConst (.int 10))) (pE (kConst (.int 18)))))))
  (sSetIx 0 (kConst (.int 0)) (eP (kVar 2)))
  sNil)
  (sSeq (sAsg (op2 addD (pE (op2 addD (pE (op2 mulD (pE (op2 ixD (kVar 0) (pE (kConst (.int 1))))) (pE (kConst (.int 48271))))) (pE (op2 modD (pE (kCall intD (aCons (kVar 2) aNil))) (pE (kConst (.int 2147483647))))))) (pE (op2 mulD (pE (kConst (.int 7919))) (pE (op2 ixD (kVar 0) (pE (kConst (.int 2)))))))) (gSet 3))
  (sSetIx 0 (kConst (.int 1)) (op2 modD (pE (kCall intD (aCons (kVar 3) aNil))) (pE (kConst (.int 2147483647))))))))) [.io (bagD 0 a1 a2 cells), .dat many, .un, .un, .un, .un, .un] = .nx [.io B', .dat many, .dat x, .dat y, .un, .un, .un] := by
  obtain ⟨c, c0, hcell⟩ := cell_ok cells a2 hc
  have hlen : (cutD (cells.map PyData.int) (some a2) none).length + [PyData.int 0].length ≤ 16777216 := by
    have : (cutD (cells.map PyData.int) (some a2) none).length ≤ 63 := by
      unfold cutD
      rw [List.length_take, List.length_drop, List.length_map]
      omega
    simp only [List.length_singleton]
    omega
  have hadd : addD (.list (cutD (cells.map PyData.int) (some a2) none)) (.list [.int 0]) = some (.list (cutD (cells.map PyData.int) (some a2) none ++ [.int 0])) := if_pos hlen
  have s1 : sAsg (op2 ixD (pE (op2 addD (pE (kSl (pE (op2 ixD (kVar 0) (pE (kConst (.int 3))))) (oSome (op2 ixD (kVar 0) (pE (kConst (.int 2))))) oNone)) (pE (nD (nLst (aCons (pE (kConst (.int 0))) aNil)))))) (pE (kConst (.int 0)))) (gSet 2) [.io (bagD 0 a1 a2 cells), .dat many, .un, .un, .un, .un, .un] = .nx [.io (bagD 0 a1 a2 cells), .dat many, .dat (.int c), .un, .un, .un, .un] := by
    refine e_asg (e_op2 (e_map (e_op2 (g := addD) (r := .list (cutD (cells.map PyData.int) (some a2) none ++ [.int 0])) (e_map (e_sl (e_map rfl) (e_osome rfl) rfl rfl rfl)) rfl rfl rfl hadd)) rfl rfl rfl hcell) rfl
  have s2 : sAugIx 0 addI (kConst (.int 2)) (kConst (.int 1)) [.io (bagD 0 a1 a2 cells), .dat many, .dat (.int c), .un, .un, .un, .un] = .nx [.io (bagD 0 a1 (a2 + 1) cells), .dat many, .dat (.int c), .un, .un, .un, .un] := rfl
  have fin : ∀ a0 : Int, 0 ≤ a0 → ∃ B' x y, BagOk B' ∧ (sSeq (sAsg (op2 addD (pE (op2 addD (pE (op2 mulD (pE (op2 ixD (kVar 0) (pE (kConst (.int 1))))) (pE (kConst (.int 48271))))) (pE (op2 modD (pE (kCall intD (aCons (kVar 2) aNil))) (pE (kConst (.int 2147483647))))))) (pE (op2 mulD (pE (kConst (.int 7919))) (pE (op2 ixD (kVar 0) (pE (kConst (.int 2)))))))) (gSet 3))
      (sSetIx 0 (kConst (.int 1)) (op2 modD (pE (kCall intD (aCons (kVar 3) aNil))) (pE (kConst (.int 2147483647)))))) [.io (bagD a0 a1 (a2 + 1) cells), .dat many, .dat (.int c), .un, .un, .un, .un] = .nx [.io B', .dat many, .dat x, .dat y, .un, .un, .un] := fun a0 h0 => by
    have t3 : op2 modD (pE (kCall intD (aCons (kVar 3) aNil))) (pE (kConst (.int 2147483647))) [.io (bagD a0 a1 (a2 + 1) cells), .dat many, .dat (.int c), .dat (.int (a1 * 48271 + c % 2147483647 + 7919 * (a2 + 1))), .un, .un, .un] = .ok (.int ((a1 * 48271 + c % 2147483647 + 7919 * (a2 + 1)) % 2147483647)) [.io (bagD a0 a1 (a2 + 1) cells), .dat many, .dat (.int c), .dat (.int (a1 * 48271 + c % 2147483647 + 7919 * (a2 + 1))), .un, .un, .un] :=
      e_op2 (e_map rfl) rfl rfl rfl (mod_ok (y := 2147483647) (by decide))
    refine ⟨bagD a0 ((a1 * 48271 + c % 2147483647 + 7919 * (a2 + 1)) % 2147483647) (a2 + 1) cells, .int c, .int (a1 * 48271 + c % 2147483647 + 7919 * (a2 + 1)), ⟨a0, _, a2 + 1, cells, rfl, h0, ?_, ?_, by omega, hc, hl⟩, e_seq (e_asg (e_op2 (e_map (e_op2 (e_map (e_op2 (r := .int (a1 * 48271)) (e_map rfl) rfl rfl rfl (mul_ok (y := 48271) (.inr (by decide))))) (e_map (e_op2 (e_map rfl) rfl rfl rfl (mod_ok (y := 2147483647) (by decide)))) rfl rfl rfl)) (e_map (e_op2 rfl (e_map rfl) rfl rfl (mul_ok (x := 7919) (.inl (by decide))))) rfl rfl rfl) rfl) ((e_setIx (i := 0) (fi := kConst (.int 1)) t3 rfl rfl rfl rfl).trans rfl)⟩
    · exact Int.emod_nonneg _ (by decide)
    · exact Int.emod_lt_of_pos _ (by decide)
  by_cases hbig : (10 : Int) ^ 18 ≤ c
  · obtain ⟨B', x, y, hB, hx⟩ := fin c c0
    refine ⟨B', x, y, hB, e_seq s1 (e_seq s2 (e_seq (e_if1 (ε1 := [.io (bagD 0 a1 (a2 + 1) cells), .dat many, .dat (.int c), .un, .un, .un, .un]) ?_ rfl) hx))⟩
    exact e_toB (e_op2 rfl (e_map rfl) rfl rfl (show geD (.int c) (.int (10 ^ 18)) = some (.bool true) from congrArg (fun b => some (PyData.bool b)) (decide_eq_true hbig)))
  · obtain ⟨B', x, y, hB, hx⟩ := fin 0 (Int.le_refl _)
    refine ⟨B', x, y, hB, e_seq s1 (e_seq s2 (e_seq (e_if0 (ε1 := [.io (bagD 0 a1 (a2 + 1) cells), .dat many, .dat (.int c), .un, .un, .un, .un]) ?_ rfl) hx))⟩
    exact e_toB (e_op2 rfl (e_map rfl) rfl rfl (show geD (.int c) (.int (10 ^ 18)) = some (.bool false) from congrArg (fun b => some (PyData.bool b)) (decide_eq_false hbig)))
/-- behind the stirring: what is handed back -/
theorem take_rest {B : List PyData} (hB : BagOk B) {many : Int} (hm : 0 < many) (hm2 : many < 1073741824) (x y : Ent) :
    ∃ v B' ε', BagOk B' ∧ 0 ≤ v ∧ v < many ∧ (∃ e2 e3 e4 e5 e6, ε' = [.io B', .dat (.int many), e2, e3, e4, e5, e6]) ∧ (sSeq (sIf (vB (op2 gtD (pE (op2 ixD (kVar 0) (pE (kConst (.int 0))))) (pE (kConst (.int 0)))))
  (sSeq (sAsg (op2 modD (pE (kCall intD (aCons (pE (op2 ixD (kVar 0) (pE (kConst (.int 0))))) aNil))) (kVar 1)) (gSet 4))
  (sSeq (sSetIx 0 (kConst (.int 0)) (op2 divD (pE (kCall intD (aCons (pE (op2 ixD (kVar 0) (pE (kConst (.int 0))))) aNil))) (kVar 1)))
  (sRet (eP (kVar 4)))))
  sNil)
  (sSeq (sAsg (op2 modD (pE (kCall intD (aCons (pE (op2 mulD (pE (op2 addD (pE (op2 ixD (kVar 0) (pE (kConst (.int 1))))) (pE (kConst (.int 1))))) (pE (kConst (.int 39373))))) aNil))) (pE (kConst (.int 1000000007)))) (gSet 5))
  (sSeq (sAsg (op2 modD (pE (kCall intD (aCons (pE (op2 mulD (pE (op2 modD (pE (kCall intD (aCons (pE (op2 mulD (kVar 5) (kVar 5))) aNil))) (pE (kConst (.int 998244353))))) (pE (kConst (.int 30011))))) aNil))) (pE (kConst (.int 998244353)))) (gSet 6))
  (sRet (op2 modD (pE (kCall intD (aCons (pE (op2 divD (kVar 6) (pE (kConst (.int 7))))) aNil))) (kVar 1)))))) [.io B, .dat (.int many), x, y, .un, .un, .un] = .rt (.dat (.int v)) ε' := by
  obtain ⟨a0, a1, a2, cells, rfl, h0, h1, h1', h2, hc, hl⟩ := hB
  by_cases hz : 0 < a0
  · have t1 : op2 modD (pE (kCall intD (aCons (pE (op2 ixD (kVar 0) (pE (kConst (.int 0))))) aNil))) (kVar 1) [.io (bagD a0 a1 a2 cells), .dat (.int many), x, y, .un, .un, .un] = .ok (.int (a0 % many)) [.io (bagD a0 a1 a2 cells), .dat (.int many), x, y, .un, .un, .un] := e_op2 (e_map rfl) rfl rfl rfl (mod_ok hm)
    have t2 : op2 divD (pE (kCall intD (aCons (pE (op2 ixD (kVar 0) (pE (kConst (.int 0))))) aNil))) (kVar 1) [.io (bagD a0 a1 a2 cells), .dat (.int many), x, y, .dat (.int (a0 % many)), .un, .un] = .ok (.int (a0 / many)) [.io (bagD a0 a1 a2 cells), .dat (.int many), x, y, .dat (.int (a0 % many)), .un, .un] := e_op2 (e_map rfl) rfl rfl rfl (div_ok ⟨hm, hm2⟩)
    refine ⟨a0 % many, bagD (a0 / many) a1 a2 cells, _, ⟨a0 / many, a1, a2, cells, rfl, Int.ediv_nonneg h0 (by omega), h1, h1', h2, hc, hl⟩, Int.emod_nonneg _ (by omega), Int.emod_lt_of_pos _ hm, ⟨x, y, .dat (.int (a0 % many)), .un, .un, rfl⟩, ?_⟩
    refine e_seqR (e_if1 (ε1 := [.io (bagD a0 a1 a2 cells), .dat (.int many), x, y, .un, .un, .un]) (e_toB (e_op2 (e_map rfl) (e_map rfl) rfl rfl (show gtD (.int a0) (.int 0) = some (.bool true) from congrArg (fun b => some (PyData.bool b)) (decide_eq_true hz)))) ?_)
    exact e_seq (e_asg t1 rfl) (e_seq ((e_setIx (i := 0) (fi := kConst (.int 0)) t2 rfl rfl rfl rfl).trans rfl) rfl)
  · have b1 : (0 : Int) ≤ (a1 + 1) * 39373 % 1000000007 := Int.emod_nonneg _ (by decide)
    have b2 : (a1 + 1) * 39373 % 1000000007 < 1000000007 := Int.emod_lt_of_pos _ (by decide)
    generalize hb : (a1 + 1) * 39373 % 1000000007 = bg at b1 b2
    have t1 : op2 modD (pE (kCall intD (aCons (pE (op2 mulD (pE (op2 addD (pE (op2 ixD (kVar 0) (pE (kConst (.int 1))))) (pE (kConst (.int 1))))) (pE (kConst (.int 39373))))) aNil))) (pE (kConst (.int 1000000007))) [.io (bagD a0 a1 a2 cells), .dat (.int many), x, y, .un, .un, .un] = .ok (.int bg) [.io (bagD a0 a1 a2 cells), .dat (.int many), x, y, .un, .un, .un] := by
      rw [← hb]
      exact e_op2 (e_map (e_call (e_acons (e_map (e_op2 (e_map rfl) (e_map rfl) rfl rfl (mul_ok (y := 39373) (.inr (by decide))))) e_anil) rfl rfl)) (e_map rfl) rfl rfl (mod_ok (y := 1000000007) (by decide))
    have q1 : op2 modD (pE (kCall intD (aCons (pE (op2 mulD (kVar 5) (kVar 5))) aNil))) (pE (kConst (.int 998244353))) [.io (bagD a0 a1 a2 cells), .dat (.int many), x, y, .un, .dat (.int bg), .un] = .ok (.int (bg * bg % 998244353)) [.io (bagD a0 a1 a2 cells), .dat (.int many), x, y, .un, .dat (.int bg), .un] :=
      e_op2 (e_map (e_call (e_acons (e_map (e_op2 rfl rfl rfl rfl (mul_ok (.inl ⟨by omega, by omega⟩)))) e_anil) rfl rfl)) (e_map rfl) rfl rfl (mod_ok (y := 998244353) (by decide))
    have t2 : op2 modD (pE (kCall intD (aCons (pE (op2 mulD (pE (op2 modD (pE (kCall intD (aCons (pE (op2 mulD (kVar 5) (kVar 5))) aNil))) (pE (kConst (.int 998244353))))) (pE (kConst (.int 30011))))) aNil))) (pE (kConst (.int 998244353))) [.io (bagD a0 a1 a2 cells), .dat (.int many), x, y, .un, .dat (.int bg), .un] = .ok (.int (bg * bg % 998244353 * 30011 % 998244353)) [.io (bagD a0 a1 a2 cells), .dat (.int many), x, y, .un, .dat (.int bg), .un] :=
      e_op2 (e_map (e_call (e_acons (e_map (e_op2 (e_map q1) (e_map rfl) rfl rfl (mul_ok (y := 30011) (.inr (by decide))))) e_anil) rfl rfl)) (e_map rfl) rfl rfl (mod_ok (y := 998244353) (by decide))
    generalize bg * bg % 998244353 * 30011 % 998244353 = sd at t2
    have t3 : op2 modD (pE (kCall intD (aCons (pE (op2 divD (kVar 6) (pE (kConst (.int 7))))) aNil))) (kVar 1) [.io (bagD a0 a1 a2 cells), .dat (.int many), x, y, .un, .dat (.int bg), .dat (.int sd)] = .ok (.int (sd / 7 % many)) [.io (bagD a0 a1 a2 cells), .dat (.int many), x, y, .un, .dat (.int bg), .dat (.int sd)] :=
      e_op2 (e_map (e_call (e_acons (e_map (e_op2 rfl (e_map rfl) rfl rfl (div_ok (y := 7) ⟨by decide, by decide⟩))) e_anil) rfl rfl)) rfl rfl rfl (mod_ok hm)
    refine ⟨sd / 7 % many, bagD a0 a1 a2 cells, _, ⟨a0, a1, a2, cells, rfl, h0, h1, h1', h2, hc, hl⟩, Int.emod_nonneg _ (by omega), Int.emod_lt_of_pos _ hm, ⟨x, y, .un, .dat (.int bg), .dat (.int sd), rfl⟩, ?_⟩
    refine e_seq (e_if0 (ε1 := [.io (bagD a0 a1 a2 cells), .dat (.int many), x, y, .un, .un, .un]) (e_toB (e_op2 (e_map rfl) (e_map rfl) rfl rfl (show gtD (.int a0) (.int 0) = some (.bool false) from congrArg (fun b => some (PyData.bool b)) (decide_eq_false hz)))) rfl) ?_
    exact e_seq (e_asg t1 rfl) (e_seq (e_asg t2 rfl) (e_ret t3))
/-- a number below many is drawn -/
theorem take_ok {B : List PyData} (hB : BagOk B) {many : Int} (hm : 0 < many) (hm2 : many < 1073741824) : ∃ v B', m_take [.io B, .dat (.int many)] = .ok (.dat (.int v)) [.io B', .un] ∧ BagOk B' ∧ 0 ≤ v ∧ v < many := by
  obtain ⟨a0, a1, a2, cells, rfl, h0, h1, h1', h2, hc, hl⟩ := id hB
  by_cases hz : a0 = 0
  · subst hz
    obtain ⟨B1, x, y, hB1, s1⟩ := take_stir (many := .int many) h1 h1' h2 hc hl
    obtain ⟨v, B', ε', hB', v0, v1, ⟨e2, e3, e4, e5, e6, rfl⟩, s2⟩ := take_rest hB1 hm hm2 (.dat x) (.dat y)
    refine ⟨v, B', e_fnR (ε1 := [.io B', .dat (.int many), e2, e3, e4, e5, e6]) (e_seq (e_if1 (ε1 := [.io (bagD 0 a1 a2 cells), .dat (.int many), .un, .un, .un, .un, .un]) rfl s1) s2) rfl, hB', v0, v1⟩
  · obtain ⟨v, B', ε', hB', v0, v1, ⟨e2, e3, e4, e5, e6, rfl⟩, s2⟩ := take_rest hB hm hm2 .un .un
    refine ⟨v, B', e_fnR (ε1 := [.io B', .dat (.int many), e2, e3, e4, e5, e6]) (e_seq (e_if0 (ε1 := [.io (bagD a0 a1 a2 cells), .dat (.int many), .un, .un, .un, .un, .un]) (e_toB (e_op2 (e_map rfl) (e_map rfl) rfl rfl (show eqD (.int a0) (.int 0) = some (.bool false) from congrArg (fun b => some (PyData.bool b)) (beq_eq_false_iff_ne.mpr hz)))) rfl) s2) rfl, hB', v0, v1⟩
/-- one of some things is drawn -/
theorem some_ok {B : List PyData} (hB : BagOk B) {t : PyData} {xs : List PyData} (ht : t = .list xs ∨ t = .tuple xs) (h0 : xs ≠ []) (hl : xs.length < 1000000) : ∃ d B', m_some [.io B, .dat t] = .ok (.dat d) [.io B', .un] ∧ BagOk B' ∧ d ∈ xs := by
  have hp : 0 < xs.length := List.length_pos_iff.mpr h0
  obtain ⟨v, B', hv, hB', v0, v1⟩ := take_ok hB (many := (xs.length : Int)) (by omega) (by omega)
  obtain ⟨j, rfl⟩ : ∃ j : Nat, v = (j : Int) := ⟨v.toNat, by omega⟩
  have hj : j < xs.length := by omega
  refine ⟨xs[j], B', ?_, hB', List.getElem_mem hj⟩
  have hix : ixD t (.int (j : Int)) = some xs[j] := by
    rcases ht with rfl | rfl
    · exact atI_nat (List.getElem?_eq_getElem hj)
    · exact atI_nat (List.getElem?_eq_getElem hj)
  have hlen : kCall lenD (aCons (kVar 1) aNil) [.io B, .dat t] = .ok (.int xs.length) [.io B, .dat t] := by
    rcases ht with rfl | rfl <;> rfl
  have hargs : aCons (kVar 0) (aCons (pE (kCall lenD (aCons (kVar 1) aNil))) aNil) [.io B, .dat t] = .ok [.at 0, .dat (.int xs.length)] [.io B, .dat t] := e_acons (f := kVar 0) rfl (e_acons (e_map hlen) e_anil)
  have hcall : callF m_take (aCons (kVar 0) (aCons (pE (kCall lenD (aCons (kVar 1) aNil))) aNil)) [.io B, .dat t] = .ok (.dat (.int (j : Int))) [.io B', .dat t] := (e_callF hargs rfl (show ([0] : List Nat).Nodup by decide) hv).trans rfl
  exact e_fnR (ε1 := [.io B', .dat t]) (e_ret (e_op2 (f1 := kVar 1) rfl (e_map (e_map hcall)) rfl rfl hix)) rfl
end DL
/-! DLw: a datum is alike itself -/
namespace DL
open PySem PySem.Spec PyProof.Rows L2
mutual
/-- how many nodes a datum has -/
def cnt : PyData → Nat
  | .list xs => cntAll xs + 1
  | .tuple xs => cntAll xs + 1
  | _ => 1
def cntAll : List PyData → Nat
  | [] => 0
  | x :: r => cnt x + cntAll r
end
theorem cnt_pos (x : PyData) : 1 ≤ cnt x := by
  cases x <;> simp [cnt]
theorem cntAll_len : ∀ xs : List PyData, xs.length ≤ cntAll xs
  | [] => Nat.zero_le _
  | x :: r => by
    have h1 := cnt_pos x
    have h2 := cntAll_len r
    show r.length + 1 ≤ cnt x + cntAll r
    omega
theorem cntAll_app : ∀ xs ys : List PyData, cntAll (xs ++ ys) = cntAll xs + cntAll ys
  | [], ys => by simp [cntAll]
  | x :: r, ys => by
    show cnt x + cntAll (r ++ ys) = cnt x + cntAll r + cntAll ys
    rw [cntAll_app r ys]
    omega
def pr (x : PyData) : PyData := .tuple [x, x]
theorem zip_self : ∀ xs : List PyData, (xs.zip xs).map pairD = xs.map pr
  | [] => rfl
  | x :: r => by
    show pairD (x, x) :: (r.zip r).map pairD = pr x :: r.map pr
    rw [zip_self r]
    rfl
theorem ne_bool (b : Bool) : neD (.bool b) (.bool b) = some (.bool false) := by cases b <;> rfl
theorem ne_int (i : Int) : neD (.int i) (.int i) = some (.bool false) := congrArg (fun b => some (PyData.bool (!b))) (beq_self_eq_true i)
def isLeaf : PyData → Bool
  | .none => true
  | .bool _ => true
  | .int _ => true
  | .str _ => true
  | _ => false
theorem ne_leaf {x : PyData} (h : isLeaf x = true) : neD x x = some (.bool false) := by
  cases x with
  | none => rfl
  | bool b => exact ne_bool b
  | int i => exact ne_int i
  | str z => exact congrArg (fun b => some (PyData.bool (!b))) (beq_self_eq_true z)
  | list _ => cases h
  | tuple _ => cases h
  | dict _ => cases h
def alikeK : Sl → Out Bool := vB (op2 ltD (kVar 3) (pE (kCall lenD (aCons (kVar 2) aNil))))
def alikeB : Sl → SO := (sSeq (sAsg (op2 ixD (kVar 2) (kVar 3)) (gTupD 2 (gsCons (gSet 4) (gsCons (gSet 5) gsNil))))
  (sSeq (sAug 3 addI (kConst (.int 1)))
  (sSeq (sIf (jOr (vB (op2 neD (pE (kIsa "bool" (kVar 4))) (pE (kIsa "bool" (kVar 5))))) (vB (op2 neD (pE (kIsa "str" (kVar 4))) (pE (kIsa "str" (kVar 5))))))
  (sRet (kConst (.bool false)))
  sNil)
  (sSeq (sIf (vB (op2 neD (pE (kIsa2 "tuple" "list" (kVar 4))) (pE (kIsa2 "tuple" "list" (kVar 5)))))
  (sRet (kConst (.bool false)))
  sNil)
  (sIf (vB (kIsa2 "tuple" "list" (kVar 4)))
  (sSeq (sIf (jOr (vB (op2 neD (pE (kIsa "tuple" (kVar 4))) (pE (kIsa "tuple" (kVar 5))))) (vB (op2 neD (pE (kCall lenD (aCons (kVar 4) aNil))) (pE (kCall lenD (aCons (kVar 5) aNil))))))
  (sRet (kConst (.bool false)))
  sNil)
  (sExpr (kExtend 2 (nD (nListZip (kVar 4) (kVar 5))))))
  (sIf (vB (op2 neD (kVar 4) (kVar 5)))
  (sRet (kConst (.bool false)))
  sNil))))))
theorem plainAll_mem : ∀ {xs : List PyData} {x : PyData}, PyData.plainAll xs = true → x ∈ xs → x.plain = true
  | y :: r, x, h, hx => by
    unfold PyData.plainAll at h
    rw [Bool.and_eq_true] at h
    rcases List.mem_cons.mp hx with rfl | hx
    · exact h.1
    · exact plainAll_mem h.2 hx
section
variable (a b : Ent)
/-- the loop's state: at pairs are done -/
def ASt (N : Nat) (m : Nat) (ε : Sl) : Prop := ∃ (ps : List PyData) (at' : Nat) (e4 e5 : Ent), ε = [a, b, .own (ps.map pr), .dat (.int at'), e4, e5] ∧ at' + cntAll (ps.drop at') = N ∧ m = cntAll (ps.drop at') ∧ ∀ x ∈ ps, x.plain = true
theorem alike_turn {N : Nat} (hN : N ≤ 16777216) (m : Nat) (ε : Sl) (h : ASt a b N (m + 1) ε) : ∃ ε1 ε2, alikeK ε = .ok true ε1 ∧ alikeB ε1 = .nx ε2 ∧ ∃ m', m' ≤ m ∧ ASt a b N m' ε2 := by
  obtain ⟨ps, at', e4, e5, rfl, ht, hm, hp⟩ := h
  have hlt : at' < ps.length := by
    by_cases z : at' < ps.length
    · exact z
    · rw [List.drop_eq_nil_of_le (by omega)] at hm
      cases hm
  have hx : ps[at']? = some ps[at'] := List.getElem?_eq_getElem hlt
  generalize hxx : ps[at'] = x at hx
  have hd : ps.drop at' = x :: ps.drop (at' + 1) := by rw [List.drop_eq_getElem_cons hlt, hxx]
  have hxp : x.plain = true := hp x (by rw [← hxx]; exact List.getElem_mem hlt)
  rw [hd] at hm ht
  have hm : m + 1 = cnt x + cntAll (ps.drop (at' + 1)) := hm
  have ht : at' + (cnt x + cntAll (ps.drop (at' + 1))) = N := ht
  have hpl : ps.length ≤ N := by
    have h1 := cntAll_len (ps.drop (at' + 1))
    rw [List.length_drop] at h1
    have h2 := cnt_pos x
    omega
  have test : alikeK [a, b, .own (ps.map pr), .dat (.int at'), e4, e5] = .ok true [a, b, .own (ps.map pr), .dat (.int at'), e4, e5] := by
    refine e_toB (e_op2 (f1 := kVar 3) rfl (e_map rfl) rfl rfl ?_)
    rw [List.length_map]
    exact congrArg (fun b => some (PyData.bool b)) (decide_eq_true (by omega))
  have s1 : sAsg (op2 ixD (kVar 2) (kVar 3)) (gTupD 2 (gsCons (gSet 4) (gsCons (gSet 5) gsNil))) [a, b, .own (ps.map pr), .dat (.int at'), e4, e5] = .nx [a, b, .own (ps.map pr), .dat (.int at'), .dat x, .dat x] :=
    e_asg (e_op2 (f1 := kVar 2) (f2 := kVar 3) rfl rfl rfl rfl (show atI (ps.map pr) (at' : Int) = some (pr x) from atI_nat (by rw [List.getElem?_map, hx]; rfl))) rfl
  have s2 : sAug 3 addI (kConst (.int 1)) [a, b, .own (ps.map pr), .dat (.int at'), .dat x, .dat x] = .nx [a, b, .own (ps.map pr), .dat (.int ((at' + 1 : Nat) : Int)), .dat x, .dat x] := rfl
  have s3 : sIf (jOr (vB (op2 neD (pE (kIsa "bool" (kVar 4))) (pE (kIsa "bool" (kVar 5))))) (vB (op2 neD (pE (kIsa "str" (kVar 4))) (pE (kIsa "str" (kVar 5)))))) (sRet (kConst (.bool false))) sNil [a, b, .own (ps.map pr), .dat (.int ((at' + 1 : Nat) : Int)), .dat x, .dat x] = .nx [a, b, .own (ps.map pr), .dat (.int ((at' + 1 : Nat) : Int)), .dat x, .dat x] :=
    e_if0 (e_jor0 (e_toB (e_op2 (e_map (e_isa rfl rfl)) (e_map (e_isa rfl rfl)) rfl rfl (ne_bool _))) (e_toB (e_op2 (e_map (e_isa rfl rfl)) (e_map (e_isa rfl rfl)) rfl rfl (ne_bool _)))) rfl
  have s4 : sIf (vB (op2 neD (pE (kIsa2 "tuple" "list" (kVar 4))) (pE (kIsa2 "tuple" "list" (kVar 5))))) (sRet (kConst (.bool false))) sNil [a, b, .own (ps.map pr), .dat (.int ((at' + 1 : Nat) : Int)), .dat x, .dat x] = .nx [a, b, .own (ps.map pr), .dat (.int ((at' + 1 : Nat) : Int)), .dat x, .dat x] :=
    e_if0 (e_toB (e_op2 (e_map (e_isa2 rfl rfl)) (e_map (e_isa2 rfl rfl)) rfl rfl (ne_bool _))) rfl
  -- a row
  have row : ∀ xs : List PyData, (x = .list xs ∨ x = .tuple xs) → ∃ ε2, alikeB [a, b, .own (ps.map pr), .dat (.int at'), e4, e5] = .nx ε2 ∧ ∃ m', m' ≤ m ∧ ASt a b N m' ε2 := fun xs hxs => by
    have hc : cnt x = cntAll xs + 1 := by rcases hxs with rfl | rfl <;> rfl
    have hpx : PyData.plainAll xs = true := by
      rcases hxs with rfl | rfl
      · simpa [PyData.plain] using hxp
      · simpa [PyData.plain] using hxp
    have hl2 := cntAll_len xs
    have hl3 := cntAll_len (ps.drop (at' + 1))
    rw [List.length_drop] at hl3
    have k5 : vB (kIsa2 "tuple" "list" (kVar 4)) [a, b, .own (ps.map pr), .dat (.int ((at' + 1 : Nat) : Int)), .dat x, .dat x] = .ok true [a, b, .own (ps.map pr), .dat (.int ((at' + 1 : Nat) : Int)), .dat x, .dat x] := by
      rcases hxs with rfl | rfl <;> rfl
    have hlen : kCall lenD (aCons (kVar 4) aNil) [a, b, .own (ps.map pr), .dat (.int ((at' + 1 : Nat) : Int)), .dat x, .dat x] = .ok (.int xs.length) [a, b, .own (ps.map pr), .dat (.int ((at' + 1 : Nat) : Int)), .dat x, .dat x] := by
      rcases hxs with rfl | rfl <;> rfl
    have hlen5 : kCall lenD (aCons (kVar 5) aNil) [a, b, .own (ps.map pr), .dat (.int ((at' + 1 : Nat) : Int)), .dat x, .dat x] = .ok (.int xs.length) [a, b, .own (ps.map pr), .dat (.int ((at' + 1 : Nat) : Int)), .dat x, .dat x] := by
      rcases hxs with rfl | rfl <;> rfl
    have s6 : sIf (jOr (vB (op2 neD (pE (kIsa "tuple" (kVar 4))) (pE (kIsa "tuple" (kVar 5))))) (vB (op2 neD (pE (kCall lenD (aCons (kVar 4) aNil))) (pE (kCall lenD (aCons (kVar 5) aNil)))))) (sRet (kConst (.bool false))) sNil [a, b, .own (ps.map pr), .dat (.int ((at' + 1 : Nat) : Int)), .dat x, .dat x] = .nx [a, b, .own (ps.map pr), .dat (.int ((at' + 1 : Nat) : Int)), .dat x, .dat x] :=
      e_if0 (e_jor0 (e_toB (e_op2 (e_map (e_isa rfl rfl)) (e_map (e_isa rfl rfl)) rfl rfl (ne_bool _))) (e_toB (e_op2 (e_map hlen) (e_map hlen5) rfl rfl (ne_int _)))) rfl
    have hz : nListZip (kVar 4) (kVar 5) [a, b, .own (ps.map pr), .dat (.int ((at' + 1 : Nat) : Int)), .dat x, .dat x] = .ok (xs.map pr) [a, b, .own (ps.map pr), .dat (.int ((at' + 1 : Nat) : Int)), .dat x, .dat x] := by
      have e : zipD x x = some (xs.map pr) := by
        rcases hxs with rfl | rfl
        · exact congrArg some (zip_self xs)
        · exact congrArg some (zip_self xs)
      show (match zipD x x with | some zs => if zs.length ≤ 16777216 then Out.ok zs _ else .stuck | none => .stuck) = _
      rw [e]
      exact if_pos (by rw [List.length_map]; omega)
    have s7 : sExpr (kExtend 2 (nD (nListZip (kVar 4) (kVar 5)))) [a, b, .own (ps.map pr), .dat (.int ((at' + 1 : Nat) : Int)), .dat x, .dat x] = .nx [a, b, .own ((ps ++ xs).map pr), .dat (.int ((at' + 1 : Nat) : Int)), .dat x, .dat x] := by
      rw [List.map_append]
      exact (e_expr (e_extend (i := 2) (us := ps.map pr) (ds := ps.map pr) (es := xs.map pr) rfl (e_map hz) rfl (by rw [List.length_map, List.length_map]; omega))).trans rfl
    refine ⟨_, e_seq s1 (e_seq s2 (e_seq s3 (e_seq s4 (e_if1 k5 (e_seq s6 s7))))), cntAll (ps.drop (at' + 1)) + cntAll xs, by omega, ps ++ xs, at' + 1, .dat x, .dat x, rfl, ?_, ?_, fun y hy => ?_⟩
    · rw [List.drop_append_of_le_length (by omega), cntAll_app]
      omega
    · rw [List.drop_append_of_le_length (by omega), cntAll_app]
    · rcases List.mem_append.mp hy with hy | hy
      · exact hp y hy
      · exact plainAll_mem hpx hy
  -- a leaf
  have leaf : isLeaf x = true → ∃ ε2, alikeB [a, b, .own (ps.map pr), .dat (.int at'), e4, e5] = .nx ε2 ∧ ∃ m', m' ≤ m ∧ ASt a b N m' ε2 := fun hlf => by
    have k5 : vB (kIsa2 "tuple" "list" (kVar 4)) [a, b, .own (ps.map pr), .dat (.int ((at' + 1 : Nat) : Int)), .dat x, .dat x] = .ok false [a, b, .own (ps.map pr), .dat (.int ((at' + 1 : Nat) : Int)), .dat x, .dat x] := by
      cases x <;> first | rfl | cases hlf
    have s8 : sIf (vB (op2 neD (kVar 4) (kVar 5))) (sRet (kConst (.bool false))) sNil [a, b, .own (ps.map pr), .dat (.int ((at' + 1 : Nat) : Int)), .dat x, .dat x] = .nx [a, b, .own (ps.map pr), .dat (.int ((at' + 1 : Nat) : Int)), .dat x, .dat x] :=
      e_if0 (e_toB (e_op2 (f1 := kVar 4) (f2 := kVar 5) rfl rfl rfl rfl (ne_leaf hlf))) rfl
    have hc : 1 ≤ cnt x := cnt_pos x
    have hc1 : cnt x = 1 := by cases x <;> first | rfl | cases hlf
    exact ⟨_, e_seq s1 (e_seq s2 (e_seq s3 (e_seq s4 (e_if0 k5 s8)))), cntAll (ps.drop (at' + 1)), by omega, ps, at' + 1, .dat x, .dat x, rfl, by omega, rfl, hp⟩
  have fin : ∃ ε2, alikeB [a, b, .own (ps.map pr), .dat (.int at'), e4, e5] = .nx ε2 ∧ ∃ m', m' ≤ m ∧ ASt a b N m' ε2 := by
    cases x with
    | list xs => exact row xs (.inl rfl)
    | tuple xs => exact row xs (.inr rfl)
    | dict es => simp [PyData.plain] at hxp
    | none => exact leaf rfl
    | bool _ => exact leaf rfl
    | int _ => exact leaf rfl
    | str _ => exact leaf rfl
  obtain ⟨ε2, z, m', hm', st⟩ := fin
  exact ⟨_, ε2, test, z, m', hm', st⟩
theorem alike_end {N : Nat} (ε : Sl) (h : ASt a b N 0 ε) : ∃ ε1, alikeK ε = .ok false ε1 ∧ ∃ e2 e3 e4 e5, ε1 = [a, b, e2, e3, e4, e5] := by
  obtain ⟨ps, at', e4, e5, rfl, ht, hm, hp⟩ := h
  have hge : ps.length ≤ at' := by
    have h1 := cntAll_len (ps.drop at')
    rw [List.length_drop] at h1
    omega
  refine ⟨_, e_toB (e_op2 (f1 := kVar 3) rfl (e_map rfl) rfl rfl ?_), _, _, _, _, rfl⟩
  rw [List.length_map]
  exact congrArg (fun b => some (PyData.bool b)) (decide_eq_false (by omega))
end
/-- what is alike itself -/
def Fine (d : PyData) : Prop := d.plain = true ∧ cnt d ≤ 16777216
theorem alike_ok {d : PyData} (h : Fine d) : m_alike [.dat d, .dat d] = .ok (.dat (.bool true)) [.un, .un] := by
  have s1 : sPar2 2 3 (nR (nLst (aCons (pE (kTup (aCons (pE (eP (kVar 0))) (aCons (pE (eP (kVar 1))) aNil)))) aNil))) (pR (kConst (.int 0))) [.dat d, .dat d, .un, .un, .un, .un] = .nx [.dat d, .dat d, .own [pr d], .dat (.int 0), .un, .un] := rfl
  obtain ⟨ε', w, e2, e3, e4, e5, rfl⟩ := e_while (k := alikeK) (F := alikeB) (alike_turn (.dat d) (.dat d) h.2) (fun ε => alike_end (.dat d) (.dat d) ε) (cnt d) _ ⟨[d], 0, .un, .un, rfl, by simp [cntAll], by simp [cntAll], fun x hx => by rw [List.mem_singleton.mp hx]; exact h.1⟩
  exact e_fnR (ε1 := [.dat d, .dat d, e2, e3, e4, e5]) (e_seq s1 (e_seq w rfl)) rfl
end DL
/-! DLx: big steps: chains, comprehensions, for -/
namespace DL
open PySem PySem.Spec PyProof.Rows L2
section
variable {f1 f2 f3 : Sl → Out Tk} {h : Sl → Out PyData} {ε ε1 ε2 ε3 : Sl} {d d1 d2 d3 : PyData} {τ1 τ2 τ3 : Tk}
theorem e_chain {g g' : PyData → PyData → Option PyData} {b c : Bool} (p1 : f1 ε = .ok τ1 ε1) (p2 : f2 ε1 = .ok τ2 ε2) (q1 : rd ε2 τ1 = some d1) (q2 : rd ε2 τ2 = some d2) (z : g d1 d2 = some (.bool b))
    (p3 : b = true → f3 ε2 = .ok τ3 ε2) (q3 : b = true → rd ε2 τ3 = some d3) (z' : b = true → g' d2 d3 = some (.bool c)) : kChain g g' f1 f2 f3 ε = .ok (.bool (b && c)) ε2 := by
  unfold kChain
  rw [p1, Out.bind_ok, p2, Out.bind_ok, q1, q2]
  dsimp only
  rw [z]
  cases b with
  | false => rfl
  | true =>
    dsimp only
    rw [p3 rfl, Out.bind_ok, q2, q3 rfl]
    dsimp only
    rw [z' rfl]
    rfl
/-! ### calls whose arguments are data -/
theorem argEnts_dat {ε : Sl} : ∀ ds : List PyData, argEnts ε (ds.map Tk.dat) = some (ds.map Ent.dat)
  | [] => rfl
  | d :: r => by
    show (argEnts ε (r.map Tk.dat)).map (.dat d :: ·) = _
    rw [argEnts_dat r]
    rfl
theorem slots_dat : ∀ ds : List PyData, slots (ds.map Tk.dat) = []
  | [] => rfl
  | _ :: r => slots_dat r
theorem backE_dat {ε : Sl} : ∀ (ds : List PyData) (outs : List Ent), backE (ds.map Tk.dat) outs ε = ε
  | [], _ => rfl
  | _ :: _, [] => rfl
  | _ :: r, _ :: o => backE_dat r o
theorem e_callD {a : Sl → Out (List Tk)} {m : List Ent → FO} {x : Rv} {outs : List Ent} (ds : List PyData) (p : a ε = .ok (ds.map Tk.dat) ε1) (z : m (ds.map Ent.dat) = .ok x outs) : callF m a ε = .ok x ε1 := by
  have q := e_callF (m := m) (x := x) (outs := outs) p (argEnts_dat ds) (by rw [slots_dat]; exact List.nodup_nil) z
  rw [backE_dat] at q
  exact q
theorem e_acD {a : Sl → Out (List Tk)} {ds : List PyData} (p : h ε = .ok d ε1) (q : a ε1 = .ok (ds.map Tk.dat) ε2) : aCons (pE h) a ε = .ok ((d :: ds).map Tk.dat) ε2 := e_acons (e_map p) q
theorem e_acN : aNil ε = .ok (([] : List PyData).map Tk.dat) ε := rfl
/-! ### comprehensions -/
theorem rest_eq {ε ε' : Sl} {vs : List Nat} (h : wipeE ε' vs = wipeE ε vs) : restE ε ε' vs = restE ε ε vs := by
  rw [← rest_wipe (ε2 := ε'), h, rest_wipe]
/-- what is kept of some data -/
def keepF (p : PyData → Bool) (y : PyData → PyData) (ds : List PyData) : List PyData := (ds.filter p).map y
theorem comp_pure {vs : List Nat} {g : PyData → Sl → Option Sl} {c : Sl → Out Bool} {f : Sl → Out PyData} {W : Sl} {p : PyData → Bool} {y : PyData → PyData} : ∀ (ds : List PyData) (ε : Sl), wipeE ε vs = W →
    (∀ d ∈ ds, ∃ ε1 ε2, g d W = some ε1 ∧ c ε1 = .ok (p d) ε2 ∧ (p d = true → ∃ ε3, f ε2 = .ok (y d) ε3 ∧ wipeE ε3 vs = W) ∧ (p d = false → wipeE ε2 vs = W)) → ∃ ε', compL vs g c f ds ε = .ok (keepF p y ds) ε' ∧ wipeE ε' vs = W
  | [], ε, hw, _ => ⟨ε, rfl, hw⟩
  | d :: r, ε, hw, hd => by
    obtain ⟨ε1, ε2, h1, h2, h3, h4⟩ := hd d List.mem_cons_self
    have hr : ∀ d' ∈ r, _ := fun d' hm => hd d' (List.mem_cons_of_mem _ hm)
    unfold compL
    rw [hw, h1]
    dsimp only
    rw [h2, Out.bind_ok]
    cases hp : p d with
    | true =>
      obtain ⟨ε3, h5, h6⟩ := h3 hp
      obtain ⟨ε', h7, h8⟩ := comp_pure r ε3 h6 hr
      refine ⟨ε', ?_, h8⟩
      dsimp only
      rw [h5, Out.bind_ok, h7]
      unfold keepF
      rw [List.filter_cons_of_pos hp]
      rfl
    | false =>
      obtain ⟨ε', h7, h8⟩ := comp_pure r ε2 (h4 hp) hr
      refine ⟨ε', ?_, h8⟩
      dsimp only
      rw [h7]
      unfold keepF
      rw [List.filter_cons_of_neg (by rw [hp]; exact Bool.false_ne_true)]
/-- [y for d in ds if p], nothing else changes -/
theorem e_lc {it : Sl → Out (List PyData)} {vs : List Nat} {g : PyData → Sl → Option Sl} {c : Sl → Out Bool} {f : Sl → Out PyData} {p : PyData → Bool} {y : PyData → PyData} {ds : List PyData} (pi : it ε = .ok ds ε) (hl : ds.length ≤ 16777216) (hr : restE ε ε vs = ε)
    (hd : ∀ d ∈ ds, ∃ ε1 ε2, g d (wipeE ε vs) = some ε1 ∧ c ε1 = .ok (p d) ε2 ∧ (p d = true → ∃ ε3, f ε2 = .ok (y d) ε3 ∧ wipeE ε3 vs = wipeE ε vs) ∧ (p d = false → wipeE ε2 vs = wipeE ε vs)) : nLc it vs g c f ε = .ok (keepF p y ds) ε := by
  obtain ⟨ε', h1, h2⟩ := comp_pure (W := wipeE ε vs) ds ε rfl hd
  unfold nLc
  rw [pi, Out.bind_ok, if_pos hl, h1]
  show Out.ok (keepF p y ds) (restE ε ε' vs) = _
  rw [rest_eq h2, hr]
theorem keepF_all {y : PyData → PyData} (ds : List PyData) : keepF (fun _ => true) y ds = ds.map y := by
  unfold keepF
  rw [List.filter_eq_self.mpr fun _ _ => rfl]
theorem bools_map (q : PyData → Bool) : ∀ ds : List PyData, boolsOf (ds.map fun d => .bool (q d)) = some (ds.map q)
  | [] => rfl
  | d :: r => by
    show (boolsOf (r.map fun d => .bool (q d))).map (q d :: ·) = _
    rw [bools_map q r]
    rfl
/-- all([q for d in ds]) -/
theorem all_ok (q : PyData → Bool) (ds : List PyData) : allD [.list (ds.map fun d => .bool (q d))] = some (.bool (ds.all q)) := by
  show (boolsOf _).map _ = _
  rw [bools_map]
  show some (PyData.bool ((ds.map q).all id)) = _
  rw [List.all_map]
  rfl
/-- [1 for ..] == [] -/
theorem none_kept (p : PyData → Bool) : ∀ ds : List PyData, eqD (.list (keepF p (fun _ => .int 1) ds)) (.list []) = some (.bool (ds.all fun d => !p d))
  | [] => rfl
  | d :: r => by
    cases hp : p d with
    | true =>
      have e : keepF p (fun _ => .int 1) (d :: r) = .int 1 :: keepF p (fun _ => .int 1) r := by
        unfold keepF
        rw [List.filter_cons_of_pos hp]
        rfl
      rw [e, List.all_cons, hp]
      have pl : PyData.plainAll (keepF p (fun _ => .int 1) r) = true := by
        unfold keepF
        generalize r.filter p = us
        induction us with
        | nil => rfl
        | cons u us ih => exact ih
      unfold eqD
      rw [if_pos ⟨by simp [PyData.plain, PyData.plainAll, pl], rfl, by simp [PyData.depth, PyData.depthAll]⟩]
      rfl
    | false =>
      have e : keepF p (fun _ => .int 1) (d :: r) = keepF p (fun _ => .int 1) r := by
        unfold keepF
        rw [List.filter_cons_of_neg (by rw [hp]; exact Bool.false_ne_true)]
      rw [e, List.all_cons, hp, none_kept p r]
      rfl
/-! ### for -/
theorem e_for {g : PyData → Sl → Option Sl} {F : Sl → SO} {St : Sl → Prop} : ∀ (ds : List PyData) (ε : Sl), St ε → (∀ d ∈ ds, ∀ ε, St ε → ∃ ε1 ε2, g d ε = some ε1 ∧ F ε1 = .nx ε2 ∧ St ε2) → ∃ ε', forL g F ds ε = .nx ε' ∧ St ε'
  | [], ε, h, _ => ⟨ε, rfl, h⟩
  | d :: r, ε, h, hd => by
    obtain ⟨ε1, ε2, h1, h2, h3⟩ := hd d List.mem_cons_self ε h
    obtain ⟨ε', h4, h5⟩ := e_for r ε2 h3 fun d' hm => hd d' (List.mem_cons_of_mem _ hm)
    refine ⟨ε', ?_, h5⟩
    unfold forL
    rw [h1]
    dsimp only
    rw [h2]
    exact h4
theorem e_sfor {it : Sl → Out (List PyData)} {g : PyData → Sl → Option Sl} {F : Sl → SO} {ds : List PyData} {o : SO} (pi : it ε = .ok ds ε1) (h : forL g F ds ε1 = o) : sFor it g F ε = o := by
  unfold sFor
  rw [pi]
  exact h
/-- a comprehension that draws: the state St stays, each item is as Q says -/
theorem comp_draw {vs : List Nat} {g : PyData → Sl → Option Sl} {c : Sl → Out Bool} {f : Sl → Out PyData} {St : Sl → Prop} {Q : PyData → Prop} : ∀ (ds : List PyData) (ε : Sl), St (wipeE ε vs) →
    (∀ d ∈ ds, ∀ W, St W → ∃ ε1 ε2 b, g d W = some ε1 ∧ c ε1 = .ok b ε2 ∧ (b = true → ∃ ε3 y, f ε2 = .ok y ε3 ∧ Q y ∧ St (wipeE ε3 vs)) ∧ (b = false → St (wipeE ε2 vs))) → ∃ ys ε', compL vs g c f ds ε = .ok ys ε' ∧ St (wipeE ε' vs) ∧ (∀ y ∈ ys, Q y) ∧ ys.length ≤ ds.length
  | [], ε, hw, _ => ⟨[], ε, rfl, hw, (fun _ h => nomatch h), Nat.le_refl _⟩
  | d :: r, ε, hw, hd => by
    obtain ⟨ε1, ε2, b, h1, h2, h3, h4⟩ := hd d List.mem_cons_self _ hw
    have hr : ∀ d' ∈ r, _ := fun d' hm => hd d' (List.mem_cons_of_mem _ hm)
    unfold compL
    rw [h1]
    dsimp only
    rw [h2, Out.bind_ok]
    cases b with
    | true =>
      obtain ⟨ε3, y, h5, h6, h6'⟩ := h3 rfl
      obtain ⟨ys, ε', h7, h8, h9, h10⟩ := comp_draw r ε3 h6' hr
      refine ⟨y :: ys, ε', ?_, h8, fun z hz => ?_, Nat.succ_le_succ h10⟩
      · dsimp only
        rw [h5, Out.bind_ok, h7]
        rfl
      · rcases List.mem_cons.mp hz with rfl | hz
        · exact h6
        · exact h9 z hz
    | false =>
      obtain ⟨ys, ε', h7, h8, h9, h10⟩ := comp_draw r ε2 (h4 rfl) hr
      exact ⟨ys, ε', h7, h8, h9, Nat.le_succ_of_le h10⟩
theorem e_lcD {it : Sl → Out (List PyData)} {vs : List Nat} {g : PyData → Sl → Option Sl} {c : Sl → Out Bool} {f : Sl → Out PyData} {St : Sl → Prop} {Q : PyData → Prop} {ds : List PyData} (pi : it ε = .ok ds ε1) (hl : ds.length ≤ 16777216) (h0 : St (wipeE ε1 vs))
    (hd : ∀ d ∈ ds, ∀ W, St W → ∃ ε1 ε2 b, g d W = some ε1 ∧ c ε1 = .ok b ε2 ∧ (b = true → ∃ ε3 y, f ε2 = .ok y ε3 ∧ Q y ∧ St (wipeE ε3 vs)) ∧ (b = false → St (wipeE ε2 vs))) : ∃ ys ε', nLc it vs g c f ε = .ok ys (restE ε1 ε' vs) ∧ St (wipeE ε' vs) ∧ (∀ y ∈ ys, Q y) ∧ ys.length ≤ ds.length := by
  obtain ⟨ys, ε', h1, h2, h3, h4⟩ := comp_draw ds ε1 h0 hd
  refine ⟨ys, ε', ?_, h2, h3, h4⟩
  unfold nLc
  rw [pi, Out.bind_ok, if_pos hl, h1]
  rfl
end
end DL
/-! DLy: big steps: {x: v for x in keys}, sorted of keys -/
namespace DL
open PySem PySem.Spec PyProof.Rows L2
theorem any_keys (k : Key) : ∀ ks : List Key, (ks.any fun x => decide (keyOfD (kD x) = some k)) = decide (k ∈ ks)
  | [] => by simp
  | x :: r => by
    rw [List.any_cons, any_keys k r, keyOfD_kD]
    by_cases hx : x = k
    · subst hx
      simp
    · rw [decide_eq_false (fun z => hx (Option.some.inj z)), Bool.false_or]
      by_cases hk : k ∈ r
      · rw [decide_eq_true hk, decide_eq_true (List.mem_cons_of_mem _ hk)]
      · rw [decide_eq_false hk, decide_eq_false (fun z => (List.mem_cons.mp z).elim (fun q => hx q.symm) hk)]
theorem putD_keys {acc : List (PyData × PyData)} {ks : List Key} {k : Key} {v : PyData} (h : acc.map (·.1) = ks.map kD) : (putD acc k v).map (·.1) = (addK ks k).map kD := by
  have hany : (acc.any fun e => decide (keyOfD e.1 = some k)) = decide (k ∈ ks) := by
    have e1 : (acc.any fun e => decide (keyOfD e.1 = some k)) = (acc.map (·.1)).any fun d => decide (keyOfD d = some k) := by rw [List.any_map]; rfl
    rw [e1, h, List.any_map]
    exact any_keys k ks
  unfold putD addK
  rw [hany]
  by_cases hk : k ∈ ks
  · rw [if_pos (decide_eq_true hk), if_pos hk, ← h, List.map_map]
    apply List.map_congr_left
    intro e _
    show (if keyOfD e.1 = some k then (e.1, v) else e).1 = e.1
    split <;> rfl
  · rw [if_neg (by rw [decide_eq_false hk]; exact Bool.false_ne_true), if_neg hk, List.map_append, List.map_append, h]
    rfl
theorem compD_keys {vs : List Nat} {g : PyData → Sl → Option Sl} {c : Sl → Out Bool} {fk fv : Sl → Out PyData} {W : Sl} : ∀ (kl : List Key) (acc : List (PyData × PyData)) (ks : List Key) (ε : Sl), wipeE ε vs = W → acc.map (·.1) = ks.map kD →
    (∀ k ∈ kl, ∃ ε1 ε2 ε3 ε4 v, g (kD k) W = some ε1 ∧ c ε1 = .ok true ε2 ∧ fk ε2 = .ok (kD k) ε3 ∧ fv ε3 = .ok v ε4 ∧ wipeE ε4 vs = W) → ∃ es ε', compD vs g c fk fv (kl.map kD) acc ε = .ok es ε' ∧ wipeE ε' vs = W ∧ es.map (·.1) = (dedK ks kl).map kD
  | [], acc, ks, ε, hw, ha, _ => ⟨acc, ε, rfl, hw, ha⟩
  | k :: r, acc, ks, ε, hw, ha, hd => by
    obtain ⟨ε1, ε2, ε3, ε4, v, h1, h2, h3, h4, h5⟩ := hd k List.mem_cons_self
    obtain ⟨es, ε', q1, q2, q3⟩ := compD_keys r (putD acc k v) (addK ks k) ε4 h5 (putD_keys ha) fun k' hm => hd k' (List.mem_cons_of_mem _ hm)
    refine ⟨es, ε', ?_, q2, q3⟩
    rw [List.map_cons]
    unfold compD
    rw [hw, h1]
    dsimp only
    rw [h2, Out.bind_ok]
    dsimp only
    rw [h3, Out.bind_ok, h4, Out.bind_ok, keyOfD_kD]
    exact q1
theorem e_dc {it : Sl → Out (List PyData)} {vs : List Nat} {g : PyData → Sl → Option Sl} {c : Sl → Out Bool} {fk fv : Sl → Out PyData} {kl : List Key} {ε : Sl} (pi : it ε = .ok (kl.map kD) ε) (hl : kl.length ≤ 16777216) (hr : restE ε ε vs = ε)
    (hd : ∀ k ∈ kl, ∃ ε1 ε2 ε3 ε4 v, g (kD k) (wipeE ε vs) = some ε1 ∧ c ε1 = .ok true ε2 ∧ fk ε2 = .ok (kD k) ε3 ∧ fv ε3 = .ok v ε4 ∧ wipeE ε4 vs = wipeE ε vs) : ∃ es, kDc it vs g c fk fv ε = .ok (.dict es) ε ∧ es.map (·.1) = (dedK [] kl).map kD := by
  obtain ⟨es, ε', h1, h2, h3⟩ := compD_keys (W := wipeE ε vs) kl [] [] ε rfl rfl hd
  refine ⟨es, ?_, h3⟩
  unfold kDc
  rw [pi, Out.bind_ok, if_pos (by rw [List.length_map]; exact hl), h1]
  show Out.ok (PyData.dict es) (restE ε ε' vs) = _
  rw [rest_eq h2, hr]
theorem addK_mem {ks : List Key} {k x : Key} : x ∈ addK ks k ↔ x ∈ ks ∨ x = k := by
  unfold addK
  split
  · rename_i h
    constructor
    · exact .inl
    · rintro (z | z)
      · exact z
      · exact z ▸ h
  · rw [List.mem_append, List.mem_singleton]
theorem dedK_mem {x : Key} : ∀ (kl ks : List Key), x ∈ dedK ks kl ↔ x ∈ ks ∨ x ∈ kl
  | [], ks => by simp [dedK]
  | k :: r, ks => by
    show x ∈ dedK (addK ks k) r ↔ _
    rw [dedK_mem r, addK_mem, List.mem_cons, or_assoc]
/-- whole numbers can be sorted; so can texts -/
theorem sortOk_int {ks : List Key} (h : ∀ k ∈ ks, ∃ i, k = .inl i) (hl : ks.length ≤ 16777216) : sortOk (ks.map kD) = true := by
  have hm : ∀ d ∈ ks.map kD, ∃ i, d = .int i := fun d hd => by
    obtain ⟨k, hk, rfl⟩ := List.mem_map.mp hd
    obtain ⟨i, rfl⟩ := h k hk
    exact ⟨i, rfl⟩
  unfold sortOk sortableB
  simp only [Bool.and_eq_true, Bool.or_eq_true, List.all_eq_true, decide_eq_true_eq, List.length_map]
  refine ⟨⟨⟨fun d hd e he => ?_, .inr fun d hd => ?_⟩, fun d hd => ?_⟩, hl⟩
  · obtain ⟨i, rfl⟩ := hm d hd
    obtain ⟨j, rfl⟩ := hm e he
    rfl
  · obtain ⟨i, rfl⟩ := hm d hd
    rfl
  · obtain ⟨i, rfl⟩ := hm d hd
    exact Nat.zero_le _
theorem sortOk_str {ks : List Key} (h : ∀ k ∈ ks, ∃ i, k = .inr i) (hl : ks.length ≤ 16777216) : sortOk (ks.map kD) = true := by
  have hm : ∀ d ∈ ks.map kD, ∃ i, d = .str i := fun d hd => by
    obtain ⟨k, hk, rfl⟩ := List.mem_map.mp hd
    obtain ⟨i, rfl⟩ := h k hk
    exact ⟨i, rfl⟩
  unfold sortOk sortableB
  simp only [Bool.and_eq_true, Bool.or_eq_true, List.all_eq_true, decide_eq_true_eq, List.length_map]
  refine ⟨⟨⟨fun d hd e he => ?_, .inr fun d hd => ?_⟩, fun d hd => ?_⟩, hl⟩
  · obtain ⟨i, rfl⟩ := hm d hd
    obtain ⟨j, rfl⟩ := hm e he
    rfl
  · obtain ⟨i, rfl⟩ := hm d hd
    rfl
  · obtain ⟨i, rfl⟩ := hm d hd
    exact Nat.zero_le _
theorem sortN_ok {d : PyData} {ds : List PyData} (h : colD d = some ds) (ok : sortOk ds = true) : sortN [d] = some (sortD ds) := by
  show (match colD d with | some ds => if sortOk ds = true then some (sortD ds) else none | none => none) = _
  rw [h]
  exact if_pos ok
theorem keysOf_kD : ∀ kl : List Key, keysOf (kl.map kD) = some kl
  | [] => rfl
  | k :: r => by
    show (match keyOfD (kD k) with | some k => (keysOf (r.map kD)).map (k :: ·) | none => none) = _
    rw [keyOfD_kD, keysOf_kD r]
    rfl
theorem setK_ok {d : PyData} {kl : List Key} (h : seqD d = some (kl.map kD)) (hl : kl.length < 4095) : setK d = some (dedK [] kl) := by
  unfold setK
  rw [h]
  dsimp only
  rw [keysOf_kD]
  dsimp only
  rw [if_pos hl]
theorem e_sortSet {f : Sl → Out Tk} {ε ε1 : Sl} {τ : Tk} {d : PyData} {ks : List Key} (p : f ε = .ok τ ε1) (q : rd ε1 τ = some d) (z : setK d = some ks) (ok : sortOk (ks.map kD) = true) : nSortSet f ε = .ok (sortD (ks.map kD)) ε1 := by
  unfold nSortSet
  rw [p, Out.bind_ok, q]
  dsimp only
  rw [z]
  dsimp only
  rw [if_pos ok]
theorem sortD_length (ds : List PyData) : (sortD ds).length = ds.length := (sortD_perm ds).length_eq
/-- rows of whole numbers compare -/
def allInt (xs : List PyData) : Bool := xs.all fun d => match d with
  | .int _ => true
  | _ => false
theorem int_mem {xs : List PyData} (h : allInt xs = true) {d : PyData} (hd : d ∈ xs) : ∃ i, d = .int i := by
  have := List.all_eq_true.mp h d hd
  cases d <;> first | exact ⟨_, rfl⟩ | cases this
theorem plain_ints : ∀ {xs : List PyData}, allInt xs = true → PyData.plainAll xs = true ∧ PyData.depthAll xs = 0
  | [], _ => ⟨rfl, rfl⟩
  | d :: r, h => by
    have h' : allInt r = true := by
      unfold allInt at h ⊢
      rw [List.all_cons, Bool.and_eq_true] at h
      exact h.2
    obtain ⟨i, rfl⟩ := int_mem h List.mem_cons_self
    obtain ⟨h1, h2⟩ := plain_ints h'
    exact ⟨by simp [PyData.plainAll, PyData.plain, h1], by simp [PyData.depthAll, PyData.depth, h2]⟩
theorem eq_ints {xs ys : List PyData} (h1 : allInt xs = true) (h2 : allInt ys = true) : eqD (.list xs) (.list ys) = some (.bool (PyData.eqvAll xs ys)) := by
  unfold eqD
  obtain ⟨p1, d1⟩ := plain_ints h1
  obtain ⟨p2, d2⟩ := plain_ints h2
  rw [if_pos ⟨by simpa [PyData.plain] using p1, by simpa [PyData.plain] using p2, by simp [PyData.depth, d1, d2]⟩]
  simp [PyData.eqv]
theorem eqv_length : ∀ {xs ys : List PyData}, PyData.eqvAll xs ys = true → xs.length = ys.length
  | [], [], _ => rfl
  | [], _ :: _, h => by simp [PyData.eqvAll] at h
  | _ :: _, [], h => by simp [PyData.eqvAll] at h
  | x :: xs, y :: ys, h => by
    rw [PyData.eqvAll, Bool.and_eq_true] at h
    rw [List.length_cons, List.length_cons, eqv_length h.2]
end DL
/-! DLz: the bag at its start -/
namespace DL
open PySem PySem.Spec PyProof.Rows L2
def absY : PyData → PyData
  | .int i => .int (if i < 0 then -i else i)
  | d => d
theorem abs_list : ∀ ns : List Int, (ns.map PyData.int).map absY = (ns.map fun i => if i < 0 then -i else i).map PyData.int
  | [] => rfl
  | i :: r => by
    rw [List.map_cons, List.map_cons, List.map_cons, List.map_cons, abs_list r]
    rfl
theorem bag_ok (ns : List Int) : ∃ B, m_bag [.dat (.list (ns.map .int))] = .ok (.lst B) [.un] ∧ BagOk B := by
  have e : cutD (ns.map PyData.int) none (some 63) = (ns.take (HT.sIx ns.length ns.length (some 63))).map PyData.int := by
    unfold cutD
    rw [HT.sIx_none, List.drop_zero, List.length_map, List.map_take]
    rfl
  have hl : (ns.take (HT.sIx ns.length ns.length (some 63))).length ≤ 63 := by
    have : HT.sIx ns.length ns.length (some 63) = min 63 ns.length := HT.sIx_nat _ _ 63
    rw [this, List.length_take]
    omega
  have comp : nLc (wItems (kSl (kVar 0) oNone (oSome (kConst (.int 63))))) [1] (gSet 1) jYes (kCall absD (aCons (kVar 1) aNil)) [.dat (.list (ns.map .int)), .un] = .ok (keepF (fun _ => true) absY (cutD (ns.map PyData.int) none (some 63))) [.dat (.list (ns.map .int)), .un] := by
    refine e_lc rfl (by rw [e, List.length_map]; omega) rfl fun x hx => ⟨_, _, rfl, rfl, fun _ => ⟨[.dat (.list (ns.map .int)), .dat x], ?_, rfl⟩, fun h => nomatch h⟩
    rw [e] at hx
    obtain ⟨i, _, rfl⟩ := List.mem_map.mp hx
    rfl
  rw [keepF_all, e, abs_list] at comp
  refine ⟨bagD 0 1234567891 0 ((ns.take (HT.sIx ns.length ns.length (some 63))).map fun i => if i < 0 then -i else i), ?_, 0, 1234567891, 0, _, rfl, by decide, by decide, by decide, by decide, fun c hc => ?_, by rw [List.length_map]; exact hl⟩
  · exact e_fnR (e_retR (e_map (e_lst (e_acons (e_map rfl) (e_acons (e_map rfl) (e_acons (e_map rfl) (e_acons (e_map (e_map comp)) e_anil)))) rfl (show 4 ≤ 1000 by decide)))) rfl
  · obtain ⟨i, _, rfl⟩ := List.mem_map.mp hc
    split <;> omega
end DL
/-! DMa: some things in a drawn order -/
namespace DL
open PySem PySem.Spec PyProof.Rows L2
def mixK : Sl → Out Bool := vB (op2 neD (kVar 2) (pE (nD (nLst aNil))))
noncomputable def mixB : Sl → SO := sExpr (kAppend 3 (kPopAt 2 (rP' (callF m_take (aCons (kVar 0) (aCons (pE (kCall lenD (aCons (kVar 2) aNil))) aNil))))))
noncomputable def F_mixed : Sl → SO := (sSeq (sPar2 2 3 (nR (nCall listN (aCons (kVar 1) aNil))) (nR (nLst aNil)))
  (sSeq (sWhile mixK mixB)
  (sRet (eP (kVar 3)))))
noncomputable def m_mixed : List Ent → FO := mkFn 4 F_mixed
theorem ne_nil : ∀ {xs : List PyData}, PyData.plainAll xs = true → neD (.list xs) (.list []) = some (.bool (!xs.isEmpty))
  | [], _ => rfl
  | x :: r, h => by
    unfold neD
    rw [if_pos ⟨by simpa [PyData.plain] using h, rfl, by simp [PyData.depth, PyData.depthAll]⟩]
    rfl
def MSt (a : Ent) (xs : List PyData) (m : Nat) (ε : Sl) : Prop := ∃ B left found, ε = [.io B, a, .own left, .own found] ∧ BagOk B ∧ left.length = m ∧ left.length + found.length = xs.length ∧ (∀ y ∈ left, y ∈ xs) ∧ ∀ y ∈ found, y ∈ xs
theorem plainAll_of : ∀ {xs : List PyData}, (∀ x ∈ xs, x.plain = true) → PyData.plainAll xs = true
  | [], _ => rfl
  | x :: r, h => by
    unfold PyData.plainAll
    rw [Bool.and_eq_true]
    exact ⟨h x List.mem_cons_self, plainAll_of fun y hy => h y (List.mem_cons_of_mem _ hy)⟩
theorem mix_test {xs : List PyData} (hp : ∀ x ∈ xs, x.plain = true) {B left found : List PyData} {a : Ent} (h : ∀ y ∈ left, y ∈ xs) : mixK [.io B, a, .own left, .own found] = .ok (!left.isEmpty) [.io B, a, .own left, .own found] :=
  e_toB (e_op2 (f1 := kVar 2) rfl (e_map (e_map rfl)) rfl rfl (ne_nil (plainAll_of fun x hx => hp x (h x hx))))
theorem mix_turn {a : Ent} {xs : List PyData} (hp : ∀ x ∈ xs, x.plain = true) (hl : xs.length ≤ 1000000) (m : Nat) (ε : Sl) (h : MSt a xs (m + 1) ε) : ∃ ε1 ε2, mixK ε = .ok true ε1 ∧ mixB ε1 = .nx ε2 ∧ ∃ m', m' ≤ m ∧ MSt a xs m' ε2 := by
  obtain ⟨B, left, found, rfl, hB, hm, hs, h1, h2⟩ := h
  have ht := mix_test hp (B := B) (left := left) (found := found) (a := a) h1
  have hne : (!left.isEmpty) = true := by
    cases left with
    | nil => cases hm
    | cons x r => rfl
  rw [hne] at ht
  obtain ⟨v, B', hv, hB', v0, v1⟩ := take_ok hB (many := (left.length : Int)) (by omega) (by omega)
  obtain ⟨j, rfl⟩ : ∃ j : Nat, v = (j : Int) := ⟨v.toNat, by omega⟩
  have hj : j < left.length := by omega
  have hargs : aCons (kVar 0) (aCons (pE (kCall lenD (aCons (kVar 2) aNil))) aNil) [.io B, a, .own left, .own found] = .ok [.at 0, .dat (.int left.length)] [.io B, a, .own left, .own found] := rfl
  have hcall : callF m_take (aCons (kVar 0) (aCons (pE (kCall lenD (aCons (kVar 2) aNil))) aNil)) [.io B, a, .own left, .own found] = .ok (.dat (.int (j : Int))) [.io B', a, .own left, .own found] := (e_callF hargs rfl (show ([0] : List Nat).Nodup by decide) hv).trans rfl
  have hpop : kPopAt 2 (rP' (callF m_take (aCons (kVar 0) (aCons (pE (kCall lenD (aCons (kVar 2) aNil))) aNil)))) [.io B, a, .own left, .own found] = .ok left[j] [.io B', a, .own (left.eraseIdx j), .own found] :=
    (e_popAt (i := 2) (us := left) (ds := left) (x := (j : Int)) (d := left[j]) rfl (e_map hcall) rfl ⟨by omega, by omega, by omega⟩ (List.getElem?_eq_getElem hj)).trans rfl
  have happ : mixB [.io B, a, .own left, .own found] = .nx [.io B', a, .own (left.eraseIdx j), .own (found ++ [left[j]])] :=
    (e_expr (e_append (i := 3) (us := found) (ds := found) rfl hpop rfl (by omega))).trans rfl
  refine ⟨_, _, ht, happ, m, Nat.le_refl _, B', left.eraseIdx j, found ++ [left[j]], rfl, hB', ?_, ?_, fun y hy => h1 y (List.mem_of_mem_eraseIdx hy), fun y hy => ?_⟩
  · rw [List.length_eraseIdx_of_lt hj]
    omega
  · rw [List.length_eraseIdx_of_lt hj, List.length_append, List.length_singleton]
    omega
  · rcases List.mem_append.mp hy with hy | hy
    · exact h2 y hy
    · rw [List.mem_singleton.mp hy]
      exact h1 _ (List.getElem_mem hj)
theorem mixed_ok {B : List PyData} (hB : BagOk B) {t : PyData} {xs : List PyData} (ht : t = .list xs ∨ t = .tuple xs) (hp : ∀ x ∈ xs, x.plain = true) (hl : xs.length ≤ 1000000) : ∃ ys B', m_mixed [.io B, .dat t] = .ok (.dat (.list ys)) [.io B', .un] ∧ BagOk B' ∧ ys.length = xs.length ∧ ∀ y ∈ ys, y ∈ xs := by
  have s1 : sPar2 2 3 (nR (nCall listN (aCons (kVar 1) aNil))) (nR (nLst aNil)) [.io B, .dat t, .un, .un] = .nx [.io B, .dat t, .own xs, .own []] := by
    rcases ht with rfl | rfl <;> rfl
  obtain ⟨ε', w, B', found, rfl, hB', h1, h2⟩ := e_while (k := mixK) (F := mixB) (Fin := fun ε => ∃ B' found, ε = [.io B', .dat t, .own [], .own found] ∧ BagOk B' ∧ found.length = xs.length ∧ ∀ y ∈ found, y ∈ xs) (mix_turn (a := .dat t) hp hl) (fun ε h => by
    obtain ⟨B', left, found, rfl, hB', hm, hs, h1, h2⟩ := h
    have hn : left = [] := List.length_eq_zero_iff.mp hm
    subst hn
    exact ⟨_, mix_test hp h1, B', found, rfl, hB', by simpa using hs, h2⟩) xs.length _ ⟨B, xs, [], rfl, hB, rfl, rfl, (fun _ h => h), fun _ h => nomatch h⟩
  exact ⟨found, B', e_fnR (ε1 := [.io B', .dat t, .own [], .dat (.list found)]) (e_seq s1 (e_seq w rfl)) rfl, hB', h1, h2⟩
end DL
/-! the walk: what each def does, by data -/
namespace K01
open PySem PySem.Spec PyProof.Rows L2 DL
def topS (i : Nat) : Stmt := PySem.Challenge.pw_tielooks_k01_forms_of_any_values.main.body.getD i (.Pass ⟨0, 0, 0, 0⟩)
abbrev s__law_bag : Stmt := topS 14
abbrev N__law_bag : List Str := ["script", "cell"]
theorem sc__law_bag : FnScope N__law_bag ["script"] (defScope s__law_bag) := ⟨rfl, rfl, rfl, by decide +kernel, rfl, by decide +kernel, by decide +kernel⟩
abbrev s__law_take : Stmt := topS 15
abbrev N__law_take : List Str := ["bag", "many", "cell", "stirred", "value", "begin", "second"]
theorem sc__law_take : FnScope N__law_take ["bag", "many"] (defScope s__law_take) := ⟨rfl, rfl, rfl, by decide +kernel, rfl, by decide +kernel, by decide +kernel⟩
abbrev s__law_some : Stmt := topS 16
abbrev N__law_some : List Str := ["bag", "things"]
theorem sc__law_some : FnScope N__law_some ["bag", "things"] (defScope s__law_some) := ⟨rfl, rfl, rfl, by decide +kernel, rfl, by decide +kernel, by decide +kernel⟩
abbrev s__law_a_word : Stmt := topS 21
abbrev N__law_a_word : List Str := ["bag", "some"]
theorem sc__law_a_word : FnScope N__law_a_word ["bag"] (defScope s__law_a_word) := ⟨rfl, rfl, rfl, by decide +kernel, rfl, by decide +kernel, by decide +kernel⟩
abbrev s__law_alike : Stmt := topS 18
abbrev N__law_alike : List Str := ["found", "due", "pairs", "at", "one", "other"]
theorem sc__law_alike : FnScope N__law_alike ["found", "due"] (defScope s__law_alike) := ⟨rfl, rfl, rfl, by decide +kernel, rfl, by decide +kernel, by decide +kernel⟩
abbrev s__law_mixed : Stmt := topS 17
abbrev N__law_mixed : List Str := ["bag", "things", "left", "found"]
theorem sc__law_mixed : FnScope N__law_mixed ["bag", "things"] (defScope s__law_mixed) := ⟨rfl, rfl, rfl, by decide +kernel, rfl, by decide +kernel, by decide +kernel⟩
abbrev s__law_order : Stmt := topS 20
abbrev N__law_order : List Str := ["bag", "many"]
theorem sc__law_order : FnScope N__law_order ["bag", "many"] (defScope s__law_order) := ⟨rfl, rfl, rfl, by decide +kernel, rfl, by decide +kernel, by decide +kernel⟩
abbrev s__law_is_int : Stmt := topS 19
abbrev N__law_is_int : List Str := ["thing"]
theorem sc__law_is_int : FnScope N__law_is_int ["thing"] (defScope s__law_is_int) := ⟨rfl, rfl, rfl, by decide +kernel, rfl, by decide +kernel, by decide +kernel⟩
abbrev s__law_are_below : Stmt := topS 23
abbrev N__law_are_below : List Str := ["thing", "many", "one"]
theorem sc__law_are_below : FnScope N__law_are_below ["thing", "many"] (defScope s__law_are_below) := ⟨rfl, rfl, rfl, by decide +kernel, rfl, by decide +kernel, by decide +kernel⟩
abbrev s_is_integer : Stmt := topS 4
abbrev N_is_integer : List Str := ["thing"]
theorem sc_is_integer : FnScope N_is_integer ["thing"] (defScope s_is_integer) := ⟨rfl, rfl, rfl, by decide +kernel, rfl, by decide +kernel, by decide +kernel⟩
abbrev s_is_within : Stmt := topS 5
abbrev N_is_within : List Str := ["thing", "least", "most"]
theorem sc_is_within : FnScope N_is_within ["thing", "least", "most"] (defScope s_is_within) := ⟨rfl, rfl, rfl, by decide +kernel, rfl, by decide +kernel, by decide +kernel⟩
abbrev s_is_index : Stmt := topS 8
abbrev N_is_index : List Str := ["thing", "many"]
theorem sc_is_index : FnScope N_is_index ["thing", "many"] (defScope s_is_index) := ⟨rfl, rfl, rfl, by decide +kernel, rfl, by decide +kernel, by decide +kernel⟩
abbrev s_is_row_of : Stmt := topS 9
abbrev N_is_row_of : List Str := ["thing", "many", "most", "one"]
theorem sc_is_row_of : FnScope N_is_row_of ["thing", "many", "most"] (defScope s_is_row_of) := ⟨rfl, rfl, rfl, by decide +kernel, rfl, by decide +kernel, by decide +kernel⟩
abbrev s_is_lot : Stmt := topS 10
abbrev N_is_lot : List Str := ["thing", "many", "one"]
theorem sc_is_lot : FnScope N_is_lot ["thing", "many"] (defScope s_is_lot) := ⟨rfl, rfl, rfl, by decide +kernel, rfl, by decide +kernel, by decide +kernel⟩
abbrev s_is_couple : Stmt := topS 11
abbrev N_is_couple : List Str := ["thing", "many", "other"]
theorem sc_is_couple : FnScope N_is_couple ["thing", "many", "other"] (defScope s_is_couple) := ⟨rfl, rfl, rfl, by decide +kernel, rfl, by decide +kernel, by decide +kernel⟩
abbrev s_is_order : Stmt := topS 12
abbrev N_is_order : List Str := ["thing", "many"]
theorem sc_is_order : FnScope N_is_order ["thing", "many"] (defScope s_is_order) := ⟨rfl, rfl, rfl, by decide +kernel, rfl, by decide +kernel, by decide +kernel⟩
abbrev s__law_are_rows_right : Stmt := topS 24
abbrev N__law_are_rows_right : List Str := ["bag", "many", "other", "some", "lot", "most", "thing", "right", "due", "couple", "told", "at"]
theorem sc__law_are_rows_right : FnScope N__law_are_rows_right ["bag", "many", "other"] (defScope s__law_are_rows_right) := ⟨rfl, rfl, rfl, by decide +kernel, rfl, by decide +kernel, by decide +kernel⟩
abbrev s_is_name : Stmt := topS 6
abbrev N_is_name : List Str := ["thing", "sign"]
theorem sc_is_name : FnScope N_is_name ["thing"] (defScope s_is_name) := ⟨rfl, rfl, rfl, by decide +kernel, rfl, by decide +kernel, by decide +kernel⟩
abbrev s__law_named : Stmt := topS 22
abbrev N__law_named : List Str := ["thing", "sign"]
theorem sc__law_named : FnScope N__law_named ["thing"] (defScope s__law_named) := ⟨rfl, rfl, rfl, by decide +kernel, rfl, by decide +kernel, by decide +kernel⟩
abbrev s_are_names : Stmt := topS 7
abbrev N_are_names : List Str := ["thing", "least", "most", "one"]
theorem sc_are_names : FnScope N_are_names ["thing", "least", "most"] (defScope s_are_names) := ⟨rfl, rfl, rfl, by decide +kernel, rfl, by decide +kernel, by decide +kernel⟩
abbrev s_law : Stmt := topS 25
abbrev N_law : List Str := ["script", "bag", "turn", "word", "number", "least", "most", "due", "row", "thing", "right", "at", "one"]
theorem sc_law : FnScope N_law ["script"] (defScope s_law) := ⟨rfl, rfl, rfl, by decide +kernel, rfl, by decide +kernel, by decide +kernel⟩
def c_LETTERS : PyData := (.str "abcdefghijklmnopqrstuvwxyz")
def c_MOST_NAME : PyData := (.int 8)
def c_RESERVED : PyData := (.tuple [(.str "book"), (.str "mark"), (.str "names"), (.str "net"), (.str "none"), (.str "pick"), (.str "things"), (.str "tie")])
noncomputable def F__law_bag : Sl → SO := (sRetR (nR (nLst (aCons (pE (kConst (.int 0))) (aCons (pE (kConst (.int 1234567891))) (aCons (pE (kConst (.int 0))) (aCons (pE (nD (nLc (wItems (kSl (kVar 0) oNone (oSome (kConst (.int 63))))) [1] (gSet 1) jYes (kCall absD (aCons (kVar 1) aNil))))) aNil)))))))
noncomputable def m__law_bag : List Ent → FO := mkFn 2 F__law_bag
noncomputable def F__law_take : Sl → SO := (sSeq (sIf (vB (op2 eqD (pE (op2 ixD (kVar 0) (pE (kConst (.int 0))))) (pE (kConst (.int 0)))))
  (sSeq (sAsg (op2 ixD (pE (op2 addD (pE (kSl (pE (op2 ixD (kVar 0) (pE (kConst (.int 3))))) (oSome (op2 ixD (kVar 0) (pE (kConst (.int 2))))) oNone)) (pE (nD (nLst (aCons (pE (kConst (.int 0))) aNil)))))) (pE (kConst (.int 0)))) (gSet 2))
  (sSeq (sAugIx 0 addI (kConst (.int 2)) (kConst (.int 1)))
  (sSeq (sIf (vB (op2 geD (kVar 2) (pE (op2 powD (pE (kConst (.int 10))) (pE (kConst (.int 18)))))))
  (sSetIx 0 (kConst (.int 0)) (eP (kVar 2)))
  sNil)
  (sSeq (sAsg (op2 addD (pE (op2 addD (pE (op2 mulD (pE (op2 ixD (kVar 0) (pE (kConst (.int 1))))) (pE (kConst (.int 48271))))) (pE (op2 modD (pE (kCall intD (aCons (kVar 2) aNil))) (pE (kConst (.int 2147483647))))))) (pE (op2 mulD (pE (kConst (.int 7919))) (pE (op2 ixD (kVar 0) (pE (kConst (.int 2)))))))) (gSet 3))
  (sSetIx 0 (kConst (.int 1)) (op2 modD (pE (kCall intD (aCons (kVar 3) aNil))) (pE (kConst (.int 2147483647)))))))))
  sNil)
  (sSeq (sIf (vB (op2 gtD (pE (op2 ixD (kVar 0) (pE (kConst (.int 0))))) (pE (kConst (.int 0)))))
  (sSeq (sAsg (op2 modD (pE (kCall intD (aCons (pE (op2 ixD (kVar 0) (pE (kConst (.int 0))))) aNil))) (kVar 1)) (gSet 4))
  (sSeq (sSetIx 0 (kConst (.int 0)) (op2 divD (pE (kCall intD (aCons (pE (op2 ixD (kVar 0) (pE (kConst (.int 0))))) aNil))) (kVar 1)))
  (sRet (eP (kVar 4)))))
  sNil)
  (sSeq (sAsg (op2 modD (pE (kCall intD (aCons (pE (op2 mulD (pE (op2 addD (pE (op2 ixD (kVar 0) (pE (kConst (.int 1))))) (pE (kConst (.int 1))))) (pE (kConst (.int 39373))))) aNil))) (pE (kConst (.int 1000000007)))) (gSet 5))
  (sSeq (sAsg (op2 modD (pE (kCall intD (aCons (pE (op2 mulD (pE (op2 modD (pE (kCall intD (aCons (pE (op2 mulD (kVar 5) (kVar 5))) aNil))) (pE (kConst (.int 998244353))))) (pE (kConst (.int 30011))))) aNil))) (pE (kConst (.int 998244353)))) (gSet 6))
  (sRet (op2 modD (pE (kCall intD (aCons (pE (op2 divD (kVar 6) (pE (kConst (.int 7))))) aNil))) (kVar 1)))))))
noncomputable def m__law_take : List Ent → FO := mkFn 7 F__law_take
noncomputable def F__law_some : Sl → SO := (sRet (op2 ixD (kVar 1) (pE (rP' (callF m__law_take (aCons (kVar 0) (aCons (pE (kCall lenD (aCons (kVar 1) aNil))) aNil)))))))
noncomputable def m__law_some : List Ent → FO := mkFn 2 F__law_some
noncomputable def F__law_a_word : Sl → SO := (sSeq (sAsg (nD (nLst (aCons (pE (kConst (.str "a"))) (aCons (pE (kConst (.str "zz"))) (aCons (pE (kConst (.str "book"))) (aCons (pE (kConst (.str "mark"))) (aCons (pE (kConst (.str "names"))) (aCons (pE (kConst (.str "net"))) (aCons (pE (kConst (.str "none"))) (aCons (pE (kConst (.str "pick"))) (aCons (pE (kConst (.str "things"))) (aCons (pE (kConst (.str "tie"))) (aCons (pE (kConst (.str "thing"))) (aCons (pE (kConst (.str "name"))) (aCons (pE (kConst (.str "ties"))) aNil))))))))))))))) (gSet 1))
  (sSeq (sAsg (op2 addD (kVar 1) (pE (nD (nLst (aCons (pE (kConst (.str "abcdefgh"))) (aCons (pE (kConst (.str "abcdefghi"))) (aCons (pE (kConst (.str ""))) (aCons (pE (kConst (.str "A"))) (aCons (pE (kConst (.str "a1"))) (aCons (pE (kConst (.str "a "))) (aCons (pE (kConst (.str "a-b"))) (aCons (pE (kConst .none)) (aCons (pE (kConst (.int 7))) (aCons (pE (kConst (.bool true))) (aCons (pE (kTup (aCons (pE (kConst (.str "a"))) aNil))) (aCons (pE (nD (nLst (aCons (pE (kConst (.str "a"))) aNil)))) aNil)))))))))))))))) (gSet 1))
  (sRetR (callF m__law_some (aCons (kVar 0) (aCons (pE (eP (kVar 1))) aNil))))))
noncomputable def m__law_a_word : List Ent → FO := mkFn 2 F__law_a_word
noncomputable def F__law_alike : Sl → SO := (sSeq (sPar2 2 3 (nR (nLst (aCons (pE (kTup (aCons (pE (eP (kVar 0))) (aCons (pE (eP (kVar 1))) aNil)))) aNil))) (pR (kConst (.int 0))))
  (sSeq (sWhile (vB (op2 ltD (kVar 3) (pE (kCall lenD (aCons (kVar 2) aNil)))))
  (sSeq (sAsg (op2 ixD (kVar 2) (kVar 3)) (gTupD 2 (gsCons (gSet 4) (gsCons (gSet 5) gsNil))))
  (sSeq (sAug 3 addI (kConst (.int 1)))
  (sSeq (sIf (jOr (vB (op2 neD (pE (kIsa "bool" (kVar 4))) (pE (kIsa "bool" (kVar 5))))) (vB (op2 neD (pE (kIsa "str" (kVar 4))) (pE (kIsa "str" (kVar 5))))))
  (sRet (kConst (.bool false)))
  sNil)
  (sSeq (sIf (vB (op2 neD (pE (kIsa2 "tuple" "list" (kVar 4))) (pE (kIsa2 "tuple" "list" (kVar 5)))))
  (sRet (kConst (.bool false)))
  sNil)
  (sIf (vB (kIsa2 "tuple" "list" (kVar 4)))
  (sSeq (sIf (jOr (vB (op2 neD (pE (kIsa "tuple" (kVar 4))) (pE (kIsa "tuple" (kVar 5))))) (vB (op2 neD (pE (kCall lenD (aCons (kVar 4) aNil))) (pE (kCall lenD (aCons (kVar 5) aNil))))))
  (sRet (kConst (.bool false)))
  sNil)
  (sExpr (kExtend 2 (nD (nListZip (kVar 4) (kVar 5))))))
  (sIf (vB (op2 neD (kVar 4) (kVar 5)))
  (sRet (kConst (.bool false)))
  sNil)))))))
  (sRet (kConst (.bool true)))))
noncomputable def m__law_alike : List Ent → FO := mkFn 6 F__law_alike
noncomputable def F__law_mixed : Sl → SO := (sSeq (sPar2 2 3 (nR (nCall listN (aCons (kVar 1) aNil))) (nR (nLst aNil)))
  (sSeq (sWhile (vB (op2 neD (kVar 2) (pE (nD (nLst aNil)))))
  (sExpr (kAppend 3 (kPopAt 2 (rP' (callF m__law_take (aCons (kVar 0) (aCons (pE (kCall lenD (aCons (kVar 2) aNil))) aNil))))))))
  (sRet (eP (kVar 3)))))
noncomputable def m__law_mixed : List Ent → FO := mkFn 4 F__law_mixed
noncomputable def F__law_order : Sl → SO := (sRet (kCall tupleD (aCons (pE (rP' (callF m__law_mixed (aCons (kVar 0) (aCons (pE (nD (nRg1 (eP (kVar 1))))) aNil))))) aNil)))
noncomputable def m__law_order : List Ent → FO := mkFn 2 F__law_order
noncomputable def F__law_is_int : Sl → SO := (sRet (kAnd (kIsa "int" (kVar 0)) (kNot (kIsa "bool" (kVar 0)))))
noncomputable def m__law_is_int : List Ent → FO := mkFn 1 F__law_is_int
noncomputable def F__law_are_below : Sl → SO := (sRet (kAnd (kIsa "tuple" (kVar 0)) (op2 eqD (pE (nD (nLc (wItems (eP (kVar 0))) [2] (gSet 2) (jOr (jNot (vB (rP' (callF m__law_is_int (aCons (pE (eP (kVar 2))) aNil))))) (jNot (vB (kChain leD ltD (pE (kConst (.int 0))) (kVar 2) (kVar 1))))) (kConst (.int 1))))) (pE (nD (nLst aNil))))))
noncomputable def m__law_are_below : List Ent → FO := mkFn 3 F__law_are_below
noncomputable def F_is_integer : Sl → SO := (sRet (kAnd (kIsa "int" (kVar 0)) (kNot (kIsa "bool" (kVar 0)))))
noncomputable def m_is_integer : List Ent → FO := mkFn 1 F_is_integer
noncomputable def F_is_within : Sl → SO := (sRet (kAnd (rP' (callF m_is_integer (aCons (pE (eP (kVar 0))) aNil))) (kChain leD leD (kVar 1) (kVar 0) (kVar 2))))
noncomputable def m_is_within : List Ent → FO := mkFn 3 F_is_within
noncomputable def F_is_index : Sl → SO := (sRetR (callF m_is_within (aCons (pE (eP (kVar 0))) (aCons (pE (kConst (.int 0))) (aCons (pE (op2 subD (kVar 1) (pE (kConst (.int 1))))) aNil)))))
noncomputable def m_is_index : List Ent → FO := mkFn 2 F_is_index
noncomputable def F_is_row_of : Sl → SO := (sRet (kAnd (kIsa "tuple" (kVar 0)) (kAnd (op2 leD (pE (kCall lenD (aCons (kVar 0) aNil))) (kVar 2)) (kCall allD (aCons (pE (nD (nLc (wItems (eP (kVar 0))) [3] (gSet 3) jYes (rP' (callF m_is_index (aCons (pE (eP (kVar 3))) (aCons (pE (eP (kVar 1))) aNil))))))) aNil)))))
noncomputable def m_is_row_of : List Ent → FO := mkFn 4 F_is_row_of
noncomputable def F_is_lot : Sl → SO := (sRet (kAnd (rP' (callF m_is_row_of (aCons (pE (eP (kVar 0))) (aCons (pE (eP (kVar 1))) (aCons (pE (eP (kVar 1))) aNil))))) (op2 eqD (pE (nD (nCall listN (aCons (kVar 0) aNil)))) (pE (nD (nCall sortN (aCons (pE (kDc (wItems (eP (kVar 0))) [2] (gSet 2) jYes (eP (kVar 2)) (kConst (.bool true)))) aNil)))))))
noncomputable def m_is_lot : List Ent → FO := mkFn 3 F_is_lot
noncomputable def F_is_couple : Sl → SO := (sRet (kAnd (kIsa "tuple" (kVar 0)) (kAnd (op2 eqD (pE (kCall lenD (aCons (kVar 0) aNil))) (pE (kConst (.int 2)))) (kAnd (rP' (callF m_is_index (aCons (pE (op2 ixD (kVar 0) (pE (kConst (.int 0))))) (aCons (pE (eP (kVar 1))) aNil)))) (rP' (callF m_is_index (aCons (pE (op2 ixD (kVar 0) (pE (kConst (.int 1))))) (aCons (pE (eP (kVar 2))) aNil))))))))
noncomputable def m_is_couple : List Ent → FO := mkFn 3 F_is_couple
noncomputable def F_is_order : Sl → SO := (sRet (kAnd (rP' (callF m_is_row_of (aCons (pE (eP (kVar 0))) (aCons (pE (eP (kVar 1))) (aCons (pE (eP (kVar 1))) aNil))))) (kAnd (op2 eqD (pE (kCall lenD (aCons (kVar 0) aNil))) (kVar 1)) (op2 eqD (pE (nD (nCall sortN (aCons (kVar 0) aNil)))) (pE (nD (nRg1 (eP (kVar 1)))))))))
noncomputable def m_is_order : List Ent → FO := mkFn 2 F_is_order
noncomputable def F__law_are_rows_right : Sl → SO := (sSeq (sAsg (kCall tupleD (aCons (pE (nD (nLc (wRange1 (rP' (callF m__law_take (aCons (kVar 0) (aCons (pE (kConst (.int 5))) aNil))))) [11] (gSet 11) jYes (rP' (callF m__law_some (aCons (kVar 0) (aCons (pE (nD (nLst (aCons (pE (kConst (.int 0))) (aCons (pE (kConst (.int 1))) (aCons (pE (kConst (.int 2))) (aCons (pE (kConst (.int 3))) (aCons (pE (kNeg (kConst (.int 1)))) (aCons (pE (kConst (.int 4))) (aCons (pE (kConst (.bool true))) (aCons (pE (kConst .none)) (aCons (pE (kConst (.str "1"))) aNil)))))))))))) aNil))))))) aNil)) (gSet 3))
  (sSeq (sAsg (kCall tupleD (aCons (pE (nD (nSortSet (pE (nD (nLc (wRange1 (rP' (callF m__law_take (aCons (kVar 0) (aCons (pE (kConst (.int 5))) aNil))))) [11] (gSet 11) jYes (rP' (callF m__law_take (aCons (kVar 0) (aCons (pE (kConst (.int 5))) aNil)))))))))) aNil)) (gSet 4))
  (sSeq (sAsg (rP' (callF m__law_take (aCons (kVar 0) (aCons (pE (kConst (.int 6))) aNil)))) (gSet 5))
  (sSeq (sFor (wItems (kTup (aCons (pE (eP (kVar 3))) (aCons (pE (eP (kVar 4))) (aCons (pE (nD (nCall listN (aCons (kVar 4) aNil)))) (aCons (pE (kRev (kVar 4))) (aCons (pE (op2 addD (kVar 4) (pE (kSl (kVar 4) oNone (oSome (kConst (.int 1))))))) (aCons (pE (kTup aNil)) (aCons (pE (kConst .none)) (aCons (pE (kConst (.int 3))) (aCons (pE (kTup (aCons (pE (kConst (.int 0))) (aCons (pE (kConst (.int 0))) aNil)))) (aCons (pE (kTup (aCons (pE (kConst (.int 1))) (aCons (pE (kConst (.int 0))) aNil)))) (aCons (pE (rP' (callF m__law_order (aCons (kVar 0) (aCons (pE (eP (kVar 1))) aNil))))) (aCons (pE (tU (nRg1 (eP (kVar 1))))) (aCons (pE (kConst (.dict []))) aNil))))))))))))))) (gSet 6)
  (sSeq (sAsg (rP' (callF m__law_are_below (aCons (pE (eP (kVar 6))) (aCons (pE (eP (kVar 1))) aNil)))) (gSet 7))
  (sSeq (sSetR 8 (nR (nLst (aCons (pE (kAnd (eP (kVar 7)) (op2 leD (pE (kCall lenD (aCons (kVar 6) aNil))) (kVar 5)))) (aCons (pE (kAnd (eP (kVar 7)) (op2 eqD (pE (nD (nCall listN (aCons (kVar 6) aNil)))) (pE (nD (nSortSet (kVar 6))))))) aNil)))))
  (sSeq (sAsg (kAnd (kIsa "tuple" (kVar 6)) (op2 eqD (pE (kCall lenD (aCons (kVar 6) aNil))) (pE (kConst (.int 2))))) (gSet 9))
  (sSeq (sExpr (kAppend 8 (kAnd (eP (kVar 9)) (kAnd (rP' (callF m__law_are_below (aCons (pE (kSl (kVar 6) oNone (oSome (kConst (.int 1))))) (aCons (pE (eP (kVar 1))) aNil)))) (rP' (callF m__law_are_below (aCons (pE (kSl (kVar 6) (oSome (kConst (.int 1))) oNone)) (aCons (pE (eP (kVar 2))) aNil))))))))
  (sSeq (sExpr (kAppend 8 (kAnd (eP (kVar 7)) (op2 eqD (pE (nD (nCall sortN (aCons (kVar 6) aNil)))) (pE (nD (nRg1 (eP (kVar 1)))))))))
  (sSeq (sAsg (nD (nLst (aCons (pE (rP' (callF m_is_row_of (aCons (pE (eP (kVar 6))) (aCons (pE (eP (kVar 1))) (aCons (pE (eP (kVar 5))) aNil)))))) (aCons (pE (rP' (callF m_is_lot (aCons (pE (eP (kVar 6))) (aCons (pE (eP (kVar 1))) aNil))))) (aCons (pE (rP' (callF m_is_couple (aCons (pE (eP (kVar 6))) (aCons (pE (eP (kVar 1))) (aCons (pE (eP (kVar 2))) aNil)))))) (aCons (pE (rP' (callF m_is_order (aCons (pE (eP (kVar 6))) (aCons (pE (eP (kVar 1))) aNil))))) aNil)))))) (gSet 10))
  (sIf (jNot (vB (rP' (callF m__law_alike (aCons (pE (eP (kVar 10))) (aCons (pE (eP (kVar 8))) aNil))))))
  (sRet (kConst (.bool false)))
  sNil))))))))
  (sRet (kConst (.bool true)))))))
noncomputable def m__law_are_rows_right : List Ent → FO := mkFn 12 F__law_are_rows_right
noncomputable def F_is_name : Sl → SO := (sSeq (sIf (jOr (jNot (vB (kIsa "str" (kVar 0)))) (jOr (jNot (vB (kChain leD leD (pE (kConst (.int 1))) (pE (kCall lenD (aCons (kVar 0) aNil))) (pE (kConst c_MOST_NAME))))) (vB (op2 inD (kVar 0) (pE (kConst c_RESERVED))))))
  (sRet (kConst (.bool false)))
  sNil)
  (sRet (kCall allD (aCons (pE (nD (nLc (wItems (eP (kVar 0))) [1] (gSet 1) jYes (op2 inD (kVar 1) (pE (kConst c_LETTERS)))))) aNil))))
noncomputable def m_is_name : List Ent → FO := mkFn 2 F_is_name
noncomputable def F__law_named : Sl → SO := (sSeq (sIf (jOr (jNot (vB (kIsa "str" (kVar 0)))) (jOr (jNot (vB (kChain leD leD (pE (kConst (.int 1))) (pE (kCall lenD (aCons (kVar 0) aNil))) (pE (kConst (.int 8)))))) (vB (op2 inD (kVar 0) (pE (kTup (aCons (pE (kConst (.str "book"))) (aCons (pE (kConst (.str "mark"))) (aCons (pE (kConst (.str "names"))) (aCons (pE (kConst (.str "net"))) (aCons (pE (kConst (.str "none"))) (aCons (pE (kConst (.str "pick"))) (aCons (pE (kConst (.str "things"))) (aCons (pE (kConst (.str "tie"))) aNil))))))))))))))
  (sRet (kConst (.bool false)))
  sNil)
  (sRet (op2 eqD (pE (nD (nLc (wItems (eP (kVar 0))) [1] (gSet 1) (vB (op2 notInD (kVar 1) (pE (kConst (.str "abcdefghijklmnopqrstuvwxyz"))))) (kConst (.int 1))))) (pE (nD (nLst aNil))))))
noncomputable def m__law_named : List Ent → FO := mkFn 2 F__law_named
noncomputable def F_are_names : Sl → SO := (sSeq (sIf (jOr (jNot (vB (kIsa "tuple" (kVar 0)))) (jOr (jNot (vB (kChain leD leD (kVar 1) (pE (kCall lenD (aCons (kVar 0) aNil))) (kVar 2)))) (jNot (vB (kCall allD (aCons (pE (nD (nLc (wItems (eP (kVar 0))) [3] (gSet 3) jYes (rP' (callF m_is_name (aCons (pE (eP (kVar 3))) aNil)))))) aNil))))))
  (sRet (kConst (.bool false)))
  sNil)
  (sRet (op2 eqD (pE (kCall lenD (aCons (pE (kDc (wItems (eP (kVar 0))) [3] (gSet 3) jYes (eP (kVar 3)) (kConst (.bool true)))) aNil))) (pE (kCall lenD (aCons (kVar 0) aNil))))))
noncomputable def m_are_names : List Ent → FO := mkFn 4 F_are_names
noncomputable def F_law : Sl → SO := (sSeq (sSetR 1 (callF m__law_bag (aCons (pE (eP (kVar 0))) aNil)))
  (sSeq (sFor (wRange1 (kConst (.int 10))) (gSet 2)
  (sSeq (sPar2 3 4 (pR (rP' (callF m__law_a_word (aCons (kVar 1) aNil)))) (pR (rP' (callF m__law_some (aCons (kVar 1) (aCons (pE (nD (nLst (aCons (pE (kConst (.int 0))) (aCons (pE (kConst (.int 1))) (aCons (pE (kNeg (kConst (.int 1)))) (aCons (pE (kConst (.int 7))) (aCons (pE (kConst (.bool true))) (aCons (pE (kConst (.bool false))) (aCons (pE (kConst .none)) (aCons (pE (kConst (.str "1"))) (aCons (pE (op2 powD (pE (kConst (.int 10))) (pE (kConst (.int 40))))) (aCons (pE (kTup (aCons (pE (kConst (.int 1))) aNil))) aNil))))))))))))) aNil))))))
  (sSeq (sPar2 5 6 (pR (op2 subD (pE (rP' (callF m__law_take (aCons (kVar 1) (aCons (pE (kConst (.int 4))) aNil))))) (pE (kConst (.int 1))))) (pR (rP' (callF m__law_take (aCons (kVar 1) (aCons (pE (kConst (.int 9))) aNil))))))
  (sSeq (sIf (jNot (vB (rP' (callF m__law_alike (aCons (pE (nD (nLst (aCons (pE (rP' (callF m_is_name (aCons (pE (eP (kVar 3))) aNil)))) (aCons (pE (rP' (callF m_is_integer (aCons (pE (eP (kVar 4))) aNil)))) aNil))))) (aCons (pE (nD (nLst (aCons (pE (rP' (callF m__law_named (aCons (pE (eP (kVar 3))) aNil)))) (aCons (pE (rP' (callF m__law_is_int (aCons (pE (eP (kVar 4))) aNil)))) aNil))))) aNil))))))
  (sRet (kConst (.bool false)))
  sNil)
  (sSeq (sAsg (nD (nLst (aCons (pE (kAnd (rP' (callF m__law_is_int (aCons (pE (eP (kVar 4))) aNil))) (kChain leD leD (kVar 5) (kVar 4) (kVar 6)))) (aCons (pE (kAnd (rP' (callF m__law_is_int (aCons (pE (eP (kVar 4))) aNil))) (kChain leD ltD (pE (kConst (.int 0))) (kVar 4) (kVar 6)))) aNil)))) (gSet 7))
  (sSeq (sIf (jNot (vB (rP' (callF m__law_alike (aCons (pE (nD (nLst (aCons (pE (rP' (callF m_is_within (aCons (pE (eP (kVar 4))) (aCons (pE (eP (kVar 5))) (aCons (pE (eP (kVar 6))) aNil)))))) (aCons (pE (rP' (callF m_is_index (aCons (pE (eP (kVar 4))) (aCons (pE (eP (kVar 6))) aNil))))) aNil))))) (aCons (pE (eP (kVar 7))) aNil))))))
  (sRet (kConst (.bool false)))
  sNil)
  (sSeq (sAsg (kCall tupleD (aCons (pE (nD (nLc (wRange1 (rP' (callF m__law_take (aCons (kVar 1) (aCons (pE (kConst (.int 4))) aNil))))) [11] (gSet 11) jYes (rP' (callF m__law_a_word (aCons (kVar 1) aNil)))))) aNil)) (gSet 8))
  (sSeq (sFor (wItems (kTup (aCons (pE (eP (kVar 8))) (aCons (pE (nD (nCall listN (aCons (kVar 8) aNil)))) (aCons (pE (kConst .none)) (aCons (pE (op2 addD (kVar 8) (kVar 8))) (aCons (pE (kConst (.str "ab"))) (aCons (pE (kTup (aCons (pE (kConst (.str "a"))) (aCons (pE (kConst (.str "zz"))) aNil)))) aNil)))))))) (gSet 9)
  (sSeq (sAsg (kAnd (kIsa "tuple" (kVar 9)) (op2 eqD (pE (nD (nLc (wItems (eP (kVar 9))) [12] (gSet 12) (jNot (vB (rP' (callF m__law_named (aCons (pE (eP (kVar 12))) aNil))))) (kConst (.int 1))))) (pE (nD (nLst aNil))))) (gSet 10))
  (sSeq (sAsg (kAnd (eP (kVar 10)) (op2 eqD (pE (nD (nLc (wRange1 (kCall lenD (aCons (kVar 9) aNil))) [11] (gSet 11) (vB (op2 inD (pE (op2 ixD (kVar 9) (kVar 11))) (pE (kSl (kVar 9) oNone (oSome (eP (kVar 11))))))) (kConst (.int 1))))) (pE (nD (nLst aNil))))) (gSet 10))
  (sIf (jNot (vB (rP' (callF m__law_alike (aCons (pE (rP' (callF m_are_names (aCons (pE (eP (kVar 9))) (aCons (pE (eP (kVar 5))) (aCons (pE (eP (kVar 6))) aNil)))))) (aCons (pE (kAnd (eP (kVar 10)) (kChain leD leD (kVar 5) (pE (kCall lenD (aCons (kVar 9) aNil))) (kVar 6)))) aNil))))))
  (sRet (kConst (.bool false)))
  sNil))))
  (sIf (jNot (vB (rP' (callF m__law_are_rows_right (aCons (kVar 1) (aCons (pE (rP' (callF m__law_take (aCons (kVar 1) (aCons (pE (kConst (.int 5))) aNil))))) (aCons (pE (rP' (callF m__law_take (aCons (kVar 1) (aCons (pE (kConst (.int 4))) aNil))))) aNil)))))))
  (sRet (kConst (.bool false)))
  sNil)))))))))
  (sRet (kConst (.bool true)))))
noncomputable def m_law : List Ent → FO := mkFn 13 F_law
/-- what the module holds -/
structure MF (K : PySem.W.Frag) (mg : Str → Option Value) : Prop where
  b_abs : mg "abs" = none
  b_all : mg "all" = none
  b_bool : mg "bool" = none
  b_int : mg "int" = none
  b_isinstance : mg "isinstance" = none
  b_len : mg "len" = none
  b_list : mg "list" = none
  b_range : mg "range" = none
  b_set : mg "set" = none
  b_sorted : mg "sorted" = none
  b_str : mg "str" = none
  b_tuple : mg "tuple" = none
  b_zip : mg "zip" = none
  g_LETTERS : Glo K mg "LETTERS" c_LETTERS
  g_MOST_NAME : Glo K mg "MOST_NAME" c_MOST_NAME
  g_RESERVED : Glo K mg "RESERVED" c_RESERVED
section
variable {P : Program} {w : World} {K : PySem.W.Frag} {mg : Str → Option Value} {base : Heap}
theorem fn__law_bag {f : Addr} {fd : FuncData} (Fd : Fun K "_law_bag" "_law_bag" s__law_bag f fd) (M : MF K mg) : FnOk P w K mg base (L2.CX P w) 1 f fd ["script"] (spD K mg 1 m__law_bag) := by
  show FnOk P w K mg base (L2.CX P w) 1 f fd ["script"] (spD K mg 1 (mkFn (List.length N__law_bag) F__law_bag))
  refine fn_okD (F := F__law_bag) (n := 1) (N := N__law_bag) Fd sc__law_bag rfl (by decide) (fun cdv A outer s H E S R hr hp tk => ?_)
  exact (dss_one (ds_retR (DN.dr (dn_lst (da_cons (DP.de dp_int) (da_cons (DP.de dp_int) (da_cons (DP.de dp_int) (da_cons (DP.de (DN.dp (dn_lc (own := [("cell", 1)]) rfl sc__law_bag.nd (di_any (dp_sl (de_var 0) do_none (do_some dp_int))) (blkOk_by (N := N__law_bag) (sc := defScope s__law_bag) (by decide +kernel)) (fun _ _ _ _ _ => (dg_name 1 sc__law_bag.nd)) (fun _ _ _ _ _ => dts_nil) (fun _ _ _ _ _ => (dp_callB cd_abs rfl M.b_abs bt_abs (da_cons (de_var 1) da_nil)))))) da_nil))))))))
theorem fn__law_take {f : Addr} {fd : FuncData} (Fd : Fun K "_law_take" "_law_take" s__law_take f fd) (M : MF K mg) : FnOk P w K mg base (L2.CX P w) 1 f fd ["bag", "many"] (spD K mg 2 m__law_take) := by
  show FnOk P w K mg base (L2.CX P w) 1 f fd ["bag", "many"] (spD K mg 2 (mkFn (List.length N__law_take) F__law_take))
  refine fn_okD (F := F__law_take) (n := 2) (N := N__law_take) Fd sc__law_take rfl (by decide) (fun cdv A outer s H E S R hr hp tk => ?_)
  exact (dss_cons (ds_if (dt_cmp (opd_eq hr.units) (DP.de (dp_ix (de_var 0) (DP.de dp_int))) (DP.de dp_int))
    (dss_cons (ds_asg (dp_ix (DP.de (dp_bin opd_add (DP.de (dp_sl (DP.de (dp_ix (de_var 0) (DP.de dp_int))) (do_some (dp_ix (de_var 0) (DP.de dp_int))) do_none)) (DP.de (DN.dp (dn_lst (da_cons (DP.de dp_int) da_nil)))))) (DP.de dp_int)) (dg_name 2 sc__law_take.nd))
    (dss_cons (ds_augIx 0 ipd_add dp_int dp_int)
    (dss_cons (ds_if (dt_cmp (opd_ge hr.units) (de_var 2) (DP.de (dp_bin opd_pow (DP.de dp_int) (DP.de dp_int))))
    (dss_one (ds_setIx 0 (DE.per (de_var 2)) dp_int))
    dss_nil)
    (dss_cons (ds_asg (dp_bin opd_add (DP.de (dp_bin opd_add (DP.de (dp_bin opd_mul (DP.de (dp_ix (de_var 0) (DP.de dp_int))) (DP.de dp_int))) (DP.de (dp_bin opd_mod (DP.de (dp_callT cd_int rfl M.b_int bt_int (da_cons (de_var 2) da_nil))) (DP.de dp_int))))) (DP.de (dp_bin opd_mul (DP.de dp_int) (DP.de (dp_ix (de_var 0) (DP.de dp_int)))))) (dg_name 3 sc__law_take.nd))
    (dss_one (ds_setIx 0 (dp_bin opd_mod (DP.de (dp_callT cd_int rfl M.b_int bt_int (da_cons (de_var 3) da_nil))) (DP.de dp_int)) dp_int))))))
    dss_nil)
    (dss_cons (ds_if (dt_cmp (opd_gt hr.units) (DP.de (dp_ix (de_var 0) (DP.de dp_int))) (DP.de dp_int))
    (dss_cons (ds_asg (dp_bin opd_mod (DP.de (dp_callT cd_int rfl M.b_int bt_int (da_cons (DP.de (dp_ix (de_var 0) (DP.de dp_int))) da_nil))) (de_var 1)) (dg_name 4 sc__law_take.nd))
    (dss_cons (ds_setIx 0 (dp_bin opd_div (DP.de (dp_callT cd_int rfl M.b_int bt_int (da_cons (DP.de (dp_ix (de_var 0) (DP.de dp_int))) da_nil))) (de_var 1)) dp_int)
    (dss_one (ds_ret (DE.per (de_var 4))))))
    dss_nil)
    (dss_cons (ds_asg (dp_bin opd_mod (DP.de (dp_callT cd_int rfl M.b_int bt_int (da_cons (DP.de (dp_bin opd_mul (DP.de (dp_bin opd_add (DP.de (dp_ix (de_var 0) (DP.de dp_int))) (DP.de dp_int))) (DP.de dp_int))) da_nil))) (DP.de dp_int)) (dg_name 5 sc__law_take.nd))
    (dss_cons (ds_asg (dp_bin opd_mod (DP.de (dp_callT cd_int rfl M.b_int bt_int (da_cons (DP.de (dp_bin opd_mul (DP.de (dp_bin opd_mod (DP.de (dp_callT cd_int rfl M.b_int bt_int (da_cons (DP.de (dp_bin opd_mul (de_var 5) (de_var 5))) da_nil))) (DP.de dp_int))) (DP.de dp_int))) da_nil))) (DP.de dp_int)) (dg_name 6 sc__law_take.nd))
    (dss_one (ds_ret (dp_bin opd_mod (DP.de (dp_callT cd_int rfl M.b_int bt_int (da_cons (DP.de (dp_bin opd_div (de_var 6) (DP.de dp_int))) da_nil))) (de_var 1))))))))
theorem fn__law_some {f : Addr} {fd : FuncData} (Fd : Fun K "_law_some" "_law_some" s__law_some f fd) (M : MF K mg) (C__law_take : Cal P w K mg base "_law_take" 1 2 m__law_take) : FnOk P w K mg base (L2.CX P w) 2 f fd ["bag", "things"] (spD K mg 2 m__law_some) := by
  show FnOk P w K mg base (L2.CX P w) 2 f fd ["bag", "things"] (spD K mg 2 (mkFn (List.length N__law_some) F__law_some))
  refine fn_okD (F := F__law_some) (n := 2) (N := N__law_some) Fd sc__law_some rfl (by decide) (fun cdv A outer s H E S R hr hp tk => ?_)
  exact (dss_one (ds_ret (dp_ix (de_var 1) (DP.de (DR.dp (dr_call (C__law_take.mono (by decide)) hr tk rfl (da_cons (de_var 0) (da_cons (DP.de (dp_callB cd_len rfl M.b_len bt_len (da_cons (de_var 1) da_nil))) da_nil)) (len_cons (len_cons len_nil))))))))
theorem fn__law_a_word {f : Addr} {fd : FuncData} (Fd : Fun K "_law_a_word" "_law_a_word" s__law_a_word f fd) (M : MF K mg) (C__law_some : Cal P w K mg base "_law_some" 2 2 m__law_some) : FnOk P w K mg base (L2.CX P w) 3 f fd ["bag"] (spD K mg 1 m__law_a_word) := by
  show FnOk P w K mg base (L2.CX P w) 3 f fd ["bag"] (spD K mg 1 (mkFn (List.length N__law_a_word) F__law_a_word))
  refine fn_okD (F := F__law_a_word) (n := 1) (N := N__law_a_word) Fd sc__law_a_word rfl (by decide) (fun cdv A outer s H E S R hr hp tk => ?_)
  exact (dss_cons (ds_asg (DN.dp (dn_lst (da_cons (DP.de dp_str) (da_cons (DP.de dp_str) (da_cons (DP.de dp_str) (da_cons (DP.de dp_str) (da_cons (DP.de dp_str) (da_cons (DP.de dp_str) (da_cons (DP.de dp_str) (da_cons (DP.de dp_str) (da_cons (DP.de dp_str) (da_cons (DP.de dp_str) (da_cons (DP.de dp_str) (da_cons (DP.de dp_str) (da_cons (DP.de dp_str) da_nil))))))))))))))) (dg_name 1 sc__law_a_word.nd))
    (dss_cons (ds_asg (dp_bin opd_add (de_var 1) (DP.de (DN.dp (dn_lst (da_cons (DP.de dp_str) (da_cons (DP.de dp_str) (da_cons (DP.de dp_str) (da_cons (DP.de dp_str) (da_cons (DP.de dp_str) (da_cons (DP.de dp_str) (da_cons (DP.de dp_str) (da_cons (DP.de dp_none) (da_cons (DP.de dp_int) (da_cons (DP.de dp_bool) (da_cons (DP.de (dp_tup (da_cons (DP.de dp_str) da_nil))) (da_cons (DP.de (DN.dp (dn_lst (da_cons (DP.de dp_str) da_nil)))) da_nil)))))))))))))))) (dg_name 1 sc__law_a_word.nd))
    (dss_one (ds_retR (dr_call (C__law_some.mono (by decide)) hr tk rfl (da_cons (de_var 0) (da_cons (DP.de (DE.per (de_var 1))) da_nil)) (len_cons (len_cons len_nil)))))))
theorem fn__law_alike {f : Addr} {fd : FuncData} (Fd : Fun K "_law_alike" "_law_alike" s__law_alike f fd) (M : MF K mg) : FnOk P w K mg base (L2.CX P w) 1 f fd ["found", "due"] (spD K mg 2 m__law_alike) := by
  show FnOk P w K mg base (L2.CX P w) 1 f fd ["found", "due"] (spD K mg 2 (mkFn (List.length N__law_alike) F__law_alike))
  refine fn_okD (F := F__law_alike) (n := 2) (N := N__law_alike) Fd sc__law_alike rfl (by decide) (fun cdv A outer s H E S R hr hp tk => ?_)
  exact (dss_cons (ds_par2 2 3 rfl sc__law_alike.nd (DN.dr (dn_lst (da_cons (DP.de (dp_tup (da_cons (DP.de (DE.per (de_var 0))) (da_cons (DP.de (DE.per (de_var 1))) da_nil)))) da_nil))) (DP.dr dp_int))
    (dss_cons (ds_while hp (dt_cmp (opd_lt hr.units) (de_var 3) (DP.de (dp_callB cd_len rfl M.b_len bt_len (da_cons (de_var 2) da_nil))))
    (dss_cons (ds_asg (dp_ix (de_var 2) (de_var 3)) (dg_tup rfl (dgs_cons (dg_name 4 sc__law_alike.nd) (dgs_cons (dg_name 5 sc__law_alike.nd) dgs_nil))))
    (dss_cons (ds_aug 3 ipd_add dp_int sc__law_alike.nd)
    (dss_cons (ds_if (DW.dt (dw_or (dt_cmp (opd_ne hr.units) (DP.de (dp_isa typ_bool (de_var 4) rfl M.b_isinstance rfl M.b_bool bt_bool)) (DP.de (dp_isa typ_bool (de_var 5) rfl M.b_isinstance rfl M.b_bool bt_bool))) (dw_or1 (dt_cmp (opd_ne hr.units) (DP.de (dp_isa typ_str (de_var 4) rfl M.b_isinstance rfl M.b_str bt_str)) (DP.de (dp_isa typ_str (de_var 5) rfl M.b_isinstance rfl M.b_str bt_str))))))
    (dss_one (ds_ret dp_bool))
    dss_nil)
    (dss_cons (ds_if (dt_cmp (opd_ne hr.units) (DP.de (dp_isa2 typ_tuple typ_list (de_var 4) rfl M.b_isinstance rfl M.b_tuple bt_tuple rfl M.b_list bt_list)) (DP.de (dp_isa2 typ_tuple typ_list (de_var 5) rfl M.b_isinstance rfl M.b_tuple bt_tuple rfl M.b_list bt_list)))
    (dss_one (ds_ret dp_bool))
    dss_nil)
    (dss_one (ds_if (dt_val (dp_isa2 typ_tuple typ_list (de_var 4) rfl M.b_isinstance rfl M.b_tuple bt_tuple rfl M.b_list bt_list))
    (dss_cons (ds_if (DW.dt (dw_or (dt_cmp (opd_ne hr.units) (DP.de (dp_isa typ_tuple (de_var 4) rfl M.b_isinstance rfl M.b_tuple bt_tuple)) (DP.de (dp_isa typ_tuple (de_var 5) rfl M.b_isinstance rfl M.b_tuple bt_tuple))) (dw_or1 (dt_cmp (opd_ne hr.units) (DP.de (dp_callB cd_len rfl M.b_len bt_len (da_cons (de_var 4) da_nil))) (DP.de (dp_callB cd_len rfl M.b_len bt_len (da_cons (de_var 5) da_nil)))))))
    (dss_one (ds_ret dp_bool))
    dss_nil)
    (dss_one (ds_expr (de_extend 2 (DN.dp (dn_listZip rfl (de_var 4) (de_var 5) rfl M.b_list rfl M.b_zip))))))
    (dss_one (ds_if (dt_cmp (opd_ne hr.units) (de_var 4) (de_var 5))
    (dss_one (ds_ret dp_bool))
    dss_nil)))))))))
    (dss_one (ds_ret dp_bool))))
theorem fn__law_mixed {f : Addr} {fd : FuncData} (Fd : Fun K "_law_mixed" "_law_mixed" s__law_mixed f fd) (M : MF K mg) (C__law_take : Cal P w K mg base "_law_take" 1 2 m__law_take) : FnOk P w K mg base (L2.CX P w) 2 f fd ["bag", "things"] (spD K mg 2 m__law_mixed) := by
  show FnOk P w K mg base (L2.CX P w) 2 f fd ["bag", "things"] (spD K mg 2 (mkFn (List.length N__law_mixed) F__law_mixed))
  refine fn_okD (F := F__law_mixed) (n := 2) (N := N__law_mixed) Fd sc__law_mixed rfl (by decide) (fun cdv A outer s H E S R hr hp tk => ?_)
  exact (dss_cons (ds_par2 2 3 rfl sc__law_mixed.nd (DN.dr (dn_callT cn_list rfl M.b_list bt_list (da_cons (de_var 1) da_nil))) (DN.dr (dn_lst da_nil)))
    (dss_cons (ds_while hp (dt_cmp (opd_ne hr.units) (de_var 2) (DP.de (DN.dp (dn_lst da_nil))))
    (dss_one (ds_expr (de_append 3 (dp_popAt 2 (DR.dp (dr_call (C__law_take.mono (by decide)) hr tk rfl (da_cons (de_var 0) (da_cons (DP.de (dp_callB cd_len rfl M.b_len bt_len (da_cons (de_var 2) da_nil))) da_nil)) (len_cons (len_cons len_nil)))))))))
    (dss_one (ds_ret (DE.per (de_var 3))))))
theorem fn__law_order {f : Addr} {fd : FuncData} (Fd : Fun K "_law_order" "_law_order" s__law_order f fd) (M : MF K mg) (C__law_mixed : Cal P w K mg base "_law_mixed" 2 2 m__law_mixed) : FnOk P w K mg base (L2.CX P w) 3 f fd ["bag", "many"] (spD K mg 2 m__law_order) := by
  show FnOk P w K mg base (L2.CX P w) 3 f fd ["bag", "many"] (spD K mg 2 (mkFn (List.length N__law_order) F__law_order))
  refine fn_okD (F := F__law_order) (n := 2) (N := N__law_order) Fd sc__law_order rfl (by decide) (fun cdv A outer s H E S R hr hp tk => ?_)
  exact (dss_one (ds_ret (dp_callT cd_tuple rfl M.b_tuple bt_tuple (da_cons (DP.de (DR.dp (dr_call (C__law_mixed.mono (by decide)) hr tk rfl (da_cons (de_var 0) (da_cons (DP.de (DN.dp (dn_listRg1 rfl (DE.per (de_var 1)) rfl M.b_list rfl M.b_range))) da_nil)) (len_cons (len_cons len_nil))))) da_nil))))
theorem fn__law_is_int {f : Addr} {fd : FuncData} (Fd : Fun K "_law_is_int" "_law_is_int" s__law_is_int f fd) (M : MF K mg) : FnOk P w K mg base (L2.CX P w) 1 f fd ["thing"] (spD K mg 1 m__law_is_int) := by
  show FnOk P w K mg base (L2.CX P w) 1 f fd ["thing"] (spD K mg 1 (mkFn (List.length N__law_is_int) F__law_is_int))
  refine fn_okD (F := F__law_is_int) (n := 1) (N := N__law_is_int) Fd sc__law_is_int rfl (by decide) (fun cdv A outer s H E S R hr hp tk => ?_)
  exact (dss_one (ds_ret (dp_and (dp_isa typ_int (de_var 0) rfl M.b_isinstance rfl M.b_int bt_int) (dp_one (dp_not (dp_isa typ_bool (de_var 0) rfl M.b_isinstance rfl M.b_bool bt_bool))))))
theorem fn__law_are_below {f : Addr} {fd : FuncData} (Fd : Fun K "_law_are_below" "_law_are_below" s__law_are_below f fd) (M : MF K mg) (C__law_is_int : Cal P w K mg base "_law_is_int" 1 1 m__law_is_int) : FnOk P w K mg base (L2.CX P w) 2 f fd ["thing", "many"] (spD K mg 2 m__law_are_below) := by
  show FnOk P w K mg base (L2.CX P w) 2 f fd ["thing", "many"] (spD K mg 2 (mkFn (List.length N__law_are_below) F__law_are_below))
  refine fn_okD (F := F__law_are_below) (n := 2) (N := N__law_are_below) Fd sc__law_are_below rfl (by decide) (fun cdv A outer s H E S R hr hp tk => ?_)
  exact (dss_one (ds_ret (dp_and (dp_isa typ_tuple (de_var 0) rfl M.b_isinstance rfl M.b_tuple bt_tuple) (dp_one (dp_cmp (opd_eq hr.units) (DP.de (DN.dp (dn_lc (own := [("one", 2)]) rfl sc__law_are_below.nd (di_any (DE.per (de_var 0))) (blkOk_by (N := N__law_are_below) (sc := defScope s__law_are_below) (by decide +kernel)) (fun _ _ _ _ _ => (dg_name 2 sc__law_are_below.nd)) (fun _ _ _ _ _ => (dts_one (DW.dt (dw_or (dt_not (dt_val (DR.dp (dr_call (C__law_is_int.mono (by decide)) hr acc0 rfl (da_cons (DP.de (DE.per (de_var 2))) da_nil) (len_cons len_nil))))) (dw_or1 (dt_not (dt_chain (opd_le hr.units) (opd_lt hr.units) (DP.de dp_int) (de_var 2) (de_var 1)))))))) (fun _ _ _ _ _ => dp_int)))) (DP.de (DN.dp (dn_lst da_nil))))))))
theorem fn_is_integer {f : Addr} {fd : FuncData} (Fd : Fun K "is_integer" "is_integer" s_is_integer f fd) (M : MF K mg) : FnOk P w K mg base (L2.CX P w) 1 f fd ["thing"] (spD K mg 1 m_is_integer) := by
  show FnOk P w K mg base (L2.CX P w) 1 f fd ["thing"] (spD K mg 1 (mkFn (List.length N_is_integer) F_is_integer))
  refine fn_okD (F := F_is_integer) (n := 1) (N := N_is_integer) Fd sc_is_integer rfl (by decide) (fun cdv A outer s H E S R hr hp tk => ?_)
  exact (dss_one (ds_ret (dp_and (dp_isa typ_int (de_var 0) rfl M.b_isinstance rfl M.b_int bt_int) (dp_one (dp_not (dp_isa typ_bool (de_var 0) rfl M.b_isinstance rfl M.b_bool bt_bool))))))
theorem fn_is_within {f : Addr} {fd : FuncData} (Fd : Fun K "is_within" "is_within" s_is_within f fd) (M : MF K mg) (C_is_integer : Cal P w K mg base "is_integer" 1 1 m_is_integer) : FnOk P w K mg base (L2.CX P w) 2 f fd ["thing", "least", "most"] (spD K mg 3 m_is_within) := by
  show FnOk P w K mg base (L2.CX P w) 2 f fd ["thing", "least", "most"] (spD K mg 3 (mkFn (List.length N_is_within) F_is_within))
  refine fn_okD (F := F_is_within) (n := 3) (N := N_is_within) Fd sc_is_within rfl (by decide) (fun cdv A outer s H E S R hr hp tk => ?_)
  exact (dss_one (ds_ret (dp_and (DR.dp (dr_call (C_is_integer.mono (by decide)) hr tk rfl (da_cons (DP.de (DE.per (de_var 0))) da_nil) (len_cons len_nil))) (dp_one (dp_chain (opd_le hr.units) (opd_le hr.units) (de_var 1) (de_var 0) (de_var 2))))))
theorem fn_is_index {f : Addr} {fd : FuncData} (Fd : Fun K "is_index" "is_index" s_is_index f fd) (M : MF K mg) (C_is_within : Cal P w K mg base "is_within" 2 3 m_is_within) : FnOk P w K mg base (L2.CX P w) 3 f fd ["thing", "many"] (spD K mg 2 m_is_index) := by
  show FnOk P w K mg base (L2.CX P w) 3 f fd ["thing", "many"] (spD K mg 2 (mkFn (List.length N_is_index) F_is_index))
  refine fn_okD (F := F_is_index) (n := 2) (N := N_is_index) Fd sc_is_index rfl (by decide) (fun cdv A outer s H E S R hr hp tk => ?_)
  exact (dss_one (ds_retR (dr_call (C_is_within.mono (by decide)) hr tk rfl (da_cons (DP.de (DE.per (de_var 0))) (da_cons (DP.de dp_int) (da_cons (DP.de (dp_bin opd_sub (de_var 1) (DP.de dp_int))) da_nil))) (len_cons (len_cons (len_cons len_nil))))))
theorem fn_is_row_of {f : Addr} {fd : FuncData} (Fd : Fun K "is_row_of" "is_row_of" s_is_row_of f fd) (M : MF K mg) (C_is_index : Cal P w K mg base "is_index" 3 2 m_is_index) : FnOk P w K mg base (L2.CX P w) 4 f fd ["thing", "many", "most"] (spD K mg 3 m_is_row_of) := by
  show FnOk P w K mg base (L2.CX P w) 4 f fd ["thing", "many", "most"] (spD K mg 3 (mkFn (List.length N_is_row_of) F_is_row_of))
  refine fn_okD (F := F_is_row_of) (n := 3) (N := N_is_row_of) Fd sc_is_row_of rfl (by decide) (fun cdv A outer s H E S R hr hp tk => ?_)
  exact (dss_one (ds_ret (dp_and (dp_isa typ_tuple (de_var 0) rfl M.b_isinstance rfl M.b_tuple bt_tuple) (dp_and (dp_cmp (opd_le hr.units) (DP.de (dp_callB cd_len rfl M.b_len bt_len (da_cons (de_var 0) da_nil))) (de_var 2)) (dp_one (dp_callB (cd_all rfl) rfl M.b_all bt_all (da_cons (DP.de (DN.dp (dn_lc (own := [("one", 3)]) rfl sc_is_row_of.nd (di_any (DE.per (de_var 0))) (blkOk_by (N := N_is_row_of) (sc := defScope s_is_row_of) (by decide +kernel)) (fun _ _ _ _ _ => (dg_name 3 sc_is_row_of.nd)) (fun _ _ _ _ _ => dts_nil) (fun _ _ _ _ _ => (DR.dp (dr_call (C_is_index.mono (by decide)) hr acc0 rfl (da_cons (DP.de (DE.per (de_var 3))) (da_cons (DP.de (DE.per (de_var 1))) da_nil)) (len_cons (len_cons len_nil)))))))) da_nil)))))))
theorem fn_is_lot {f : Addr} {fd : FuncData} (Fd : Fun K "is_lot" "is_lot" s_is_lot f fd) (M : MF K mg) (C_is_row_of : Cal P w K mg base "is_row_of" 4 3 m_is_row_of) : FnOk P w K mg base (L2.CX P w) 5 f fd ["thing", "many"] (spD K mg 2 m_is_lot) := by
  show FnOk P w K mg base (L2.CX P w) 5 f fd ["thing", "many"] (spD K mg 2 (mkFn (List.length N_is_lot) F_is_lot))
  refine fn_okD (F := F_is_lot) (n := 2) (N := N_is_lot) Fd sc_is_lot rfl (by decide) (fun cdv A outer s H E S R hr hp tk => ?_)
  exact (dss_one (ds_ret (dp_and (DR.dp (dr_call (C_is_row_of.mono (by decide)) hr tk rfl (da_cons (DP.de (DE.per (de_var 0))) (da_cons (DP.de (DE.per (de_var 1))) (da_cons (DP.de (DE.per (de_var 1))) da_nil))) (len_cons (len_cons (len_cons len_nil))))) (dp_one (dp_cmp (opd_eq hr.units) (DP.de (DN.dp (dn_callT cn_list rfl M.b_list bt_list (da_cons (de_var 0) da_nil)))) (DP.de (DN.dp (dn_callB (cn_sorted rfl hr.units) rfl M.b_sorted bt_sorted (da_cons (DP.de (dp_dc (own := [("one", 2)]) rfl sc_is_lot.nd (di_any (DE.per (de_var 0))) (blkOk_by (N := N_is_lot) (sc := defScope s_is_lot) (by decide +kernel)) (fun _ _ _ _ _ => (dg_name 2 sc_is_lot.nd)) (fun _ _ _ _ _ => dts_nil) (fun _ _ _ _ _ => (DE.per (de_var 2))) (fun _ _ _ _ _ => dp_bool))) da_nil)))))))))
theorem fn_is_couple {f : Addr} {fd : FuncData} (Fd : Fun K "is_couple" "is_couple" s_is_couple f fd) (M : MF K mg) (C_is_index : Cal P w K mg base "is_index" 3 2 m_is_index) : FnOk P w K mg base (L2.CX P w) 4 f fd ["thing", "many", "other"] (spD K mg 3 m_is_couple) := by
  show FnOk P w K mg base (L2.CX P w) 4 f fd ["thing", "many", "other"] (spD K mg 3 (mkFn (List.length N_is_couple) F_is_couple))
  refine fn_okD (F := F_is_couple) (n := 3) (N := N_is_couple) Fd sc_is_couple rfl (by decide) (fun cdv A outer s H E S R hr hp tk => ?_)
  exact (dss_one (ds_ret (dp_and (dp_isa typ_tuple (de_var 0) rfl M.b_isinstance rfl M.b_tuple bt_tuple) (dp_and (dp_cmp (opd_eq hr.units) (DP.de (dp_callB cd_len rfl M.b_len bt_len (da_cons (de_var 0) da_nil))) (DP.de dp_int)) (dp_and (DR.dp (dr_call (C_is_index.mono (by decide)) hr tk rfl (da_cons (DP.de (dp_ix (de_var 0) (DP.de dp_int))) (da_cons (DP.de (DE.per (de_var 1))) da_nil)) (len_cons (len_cons len_nil)))) (dp_one (DR.dp (dr_call (C_is_index.mono (by decide)) hr tk rfl (da_cons (DP.de (dp_ix (de_var 0) (DP.de dp_int))) (da_cons (DP.de (DE.per (de_var 2))) da_nil)) (len_cons (len_cons len_nil))))))))))
theorem fn_is_order {f : Addr} {fd : FuncData} (Fd : Fun K "is_order" "is_order" s_is_order f fd) (M : MF K mg) (C_is_row_of : Cal P w K mg base "is_row_of" 4 3 m_is_row_of) : FnOk P w K mg base (L2.CX P w) 5 f fd ["thing", "many"] (spD K mg 2 m_is_order) := by
  show FnOk P w K mg base (L2.CX P w) 5 f fd ["thing", "many"] (spD K mg 2 (mkFn (List.length N_is_order) F_is_order))
  refine fn_okD (F := F_is_order) (n := 2) (N := N_is_order) Fd sc_is_order rfl (by decide) (fun cdv A outer s H E S R hr hp tk => ?_)
  exact (dss_one (ds_ret (dp_and (DR.dp (dr_call (C_is_row_of.mono (by decide)) hr tk rfl (da_cons (DP.de (DE.per (de_var 0))) (da_cons (DP.de (DE.per (de_var 1))) (da_cons (DP.de (DE.per (de_var 1))) da_nil))) (len_cons (len_cons (len_cons len_nil))))) (dp_and (dp_cmp (opd_eq hr.units) (DP.de (dp_callB cd_len rfl M.b_len bt_len (da_cons (de_var 0) da_nil))) (de_var 1)) (dp_one (dp_cmp (opd_eq hr.units) (DP.de (DN.dp (dn_callB (cn_sorted rfl hr.units) rfl M.b_sorted bt_sorted (da_cons (de_var 0) da_nil)))) (DP.de (DN.dp (dn_listRg1 rfl (DE.per (de_var 1)) rfl M.b_list rfl M.b_range)))))))))
theorem fn__law_are_rows_right {f : Addr} {fd : FuncData} (Fd : Fun K "_law_are_rows_right" "_law_are_rows_right" s__law_are_rows_right f fd) (M : MF K mg) (C__law_take : Cal P w K mg base "_law_take" 1 2 m__law_take) (C__law_order : Cal P w K mg base "_law_order" 3 2 m__law_order) (C__law_are_below : Cal P w K mg base "_law_are_below" 2 2 m__law_are_below) (C__law_some : Cal P w K mg base "_law_some" 2 2 m__law_some) (C_is_row_of : Cal P w K mg base "is_row_of" 4 3 m_is_row_of) (C_is_lot : Cal P w K mg base "is_lot" 5 2 m_is_lot) (C_is_couple : Cal P w K mg base "is_couple" 4 3 m_is_couple) (C_is_order : Cal P w K mg base "is_order" 5 2 m_is_order) (C__law_alike : Cal P w K mg base "_law_alike" 1 2 m__law_alike) : FnOk P w K mg base (L2.CX P w) 6 f fd ["bag", "many", "other"] (spD K mg 3 m__law_are_rows_right) := by
  show FnOk P w K mg base (L2.CX P w) 6 f fd ["bag", "many", "other"] (spD K mg 3 (mkFn (List.length N__law_are_rows_right) F__law_are_rows_right))
  refine fn_okD (F := F__law_are_rows_right) (n := 3) (N := N__law_are_rows_right) Fd sc__law_are_rows_right rfl (by decide) (fun cdv A outer s H E S R hr hp tk => ?_)
  exact (dss_cons (ds_asg (dp_callT cd_tuple rfl M.b_tuple bt_tuple (da_cons (DP.de (DN.dp (dn_lc (own := [("at", 11)]) rfl sc__law_are_rows_right.nd (di_range1 (DR.dp (dr_call (C__law_take.mono (by decide)) hr tk rfl (da_cons (de_var 0) (da_cons (DP.de dp_int) da_nil)) (len_cons (len_cons len_nil)))) rfl M.b_range) (blkOk_by (N := N__law_are_rows_right) (sc := defScope s__law_are_rows_right) (by decide +kernel)) (fun _ _ _ _ _ => (dg_name 11 sc__law_are_rows_right.nd)) (fun _ _ _ _ _ => dts_nil) (fun _ _ _ _ _ => (DR.dp (dr_call (C__law_some.mono (by decide)) hr acc0 rfl (da_cons (de_var 0) (da_cons (DP.de (DN.dp (dn_lst (da_cons (DP.de dp_int) (da_cons (DP.de dp_int) (da_cons (DP.de dp_int) (da_cons (DP.de dp_int) (da_cons (DP.de (dp_neg dp_int)) (da_cons (DP.de dp_int) (da_cons (DP.de dp_bool) (da_cons (DP.de dp_none) (da_cons (DP.de dp_str) da_nil)))))))))))) da_nil)) (len_cons (len_cons len_nil)))))))) da_nil)) (dg_name 3 sc__law_are_rows_right.nd))
    (dss_cons (ds_asg (dp_callT cd_tuple rfl M.b_tuple bt_tuple (da_cons (DP.de (DN.dp (dn_sortSet rfl hr.units (DP.de (DN.dp (dn_lc (own := [("at", 11)]) rfl sc__law_are_rows_right.nd (di_range1 (DR.dp (dr_call (C__law_take.mono (by decide)) hr tk rfl (da_cons (de_var 0) (da_cons (DP.de dp_int) da_nil)) (len_cons (len_cons len_nil)))) rfl M.b_range) (blkOk_by (N := N__law_are_rows_right) (sc := defScope s__law_are_rows_right) (by decide +kernel)) (fun _ _ _ _ _ => (dg_name 11 sc__law_are_rows_right.nd)) (fun _ _ _ _ _ => dts_nil) (fun _ _ _ _ _ => (DR.dp (dr_call (C__law_take.mono (by decide)) hr acc0 rfl (da_cons (de_var 0) (da_cons (DP.de dp_int) da_nil)) (len_cons (len_cons len_nil)))))))) rfl M.b_sorted rfl M.b_set))) da_nil)) (dg_name 4 sc__law_are_rows_right.nd))
    (dss_cons (ds_asg (DR.dp (dr_call (C__law_take.mono (by decide)) hr tk rfl (da_cons (de_var 0) (da_cons (DP.de dp_int) da_nil)) (len_cons (len_cons len_nil)))) (dg_name 5 sc__law_are_rows_right.nd))
    (dss_cons (ds_for hp rfl (di_any (dp_tup (da_cons (DP.de (DE.per (de_var 3))) (da_cons (DP.de (DE.per (de_var 4))) (da_cons (DP.de (DN.dp (dn_callT cn_list rfl M.b_list bt_list (da_cons (de_var 4) da_nil)))) (da_cons (DP.de (dp_rev (de_var 4))) (da_cons (DP.de (dp_bin opd_add (de_var 4) (DP.de (dp_sl (de_var 4) do_none (do_some dp_int))))) (da_cons (DP.de (dp_tup da_nil)) (da_cons (DP.de dp_none) (da_cons (DP.de dp_int) (da_cons (DP.de (dp_tup (da_cons (DP.de dp_int) (da_cons (DP.de dp_int) da_nil)))) (da_cons (DP.de (dp_tup (da_cons (DP.de dp_int) (da_cons (DP.de dp_int) da_nil)))) (da_cons (DP.de (DR.dp (dr_call (C__law_order.mono (by decide)) hr tk rfl (da_cons (de_var 0) (da_cons (DP.de (DE.per (de_var 1))) da_nil)) (len_cons (len_cons len_nil))))) (da_cons (DP.de (dp_tupRg1 rfl (DE.per (de_var 1)) rfl M.b_tuple rfl M.b_range)) (da_cons (DP.de dp_dict0) da_nil))))))))))))))) (dg_name 6 sc__law_are_rows_right.nd)
    (dss_cons (ds_asg (DR.dp (dr_call (C__law_are_below.mono (by decide)) hr tk rfl (da_cons (DP.de (DE.per (de_var 6))) (da_cons (DP.de (DE.per (de_var 1))) da_nil)) (len_cons (len_cons len_nil)))) (dg_name 7 sc__law_are_rows_right.nd))
    (dss_cons (ds_setR 8 (DN.dr (dn_lst (da_cons (DP.de (dp_and (DE.per (de_var 7)) (dp_one (dp_cmp (opd_le hr.units) (DP.de (dp_callB cd_len rfl M.b_len bt_len (da_cons (de_var 6) da_nil))) (de_var 5))))) (da_cons (DP.de (dp_and (DE.per (de_var 7)) (dp_one (dp_cmp (opd_eq hr.units) (DP.de (DN.dp (dn_callT cn_list rfl M.b_list bt_list (da_cons (de_var 6) da_nil)))) (DP.de (DN.dp (dn_sortSet rfl hr.units (de_var 6) rfl M.b_sorted rfl M.b_set))))))) da_nil)))) sc__law_are_rows_right.nd)
    (dss_cons (ds_asg (dp_and (dp_isa typ_tuple (de_var 6) rfl M.b_isinstance rfl M.b_tuple bt_tuple) (dp_one (dp_cmp (opd_eq hr.units) (DP.de (dp_callB cd_len rfl M.b_len bt_len (da_cons (de_var 6) da_nil))) (DP.de dp_int)))) (dg_name 9 sc__law_are_rows_right.nd))
    (dss_cons (ds_expr (de_append 8 (dp_and (DE.per (de_var 9)) (dp_and (DR.dp (dr_call (C__law_are_below.mono (by decide)) hr tk rfl (da_cons (DP.de (dp_sl (de_var 6) do_none (do_some dp_int))) (da_cons (DP.de (DE.per (de_var 1))) da_nil)) (len_cons (len_cons len_nil)))) (dp_one (DR.dp (dr_call (C__law_are_below.mono (by decide)) hr tk rfl (da_cons (DP.de (dp_sl (de_var 6) (do_some dp_int) do_none)) (da_cons (DP.de (DE.per (de_var 2))) da_nil)) (len_cons (len_cons len_nil)))))))))
    (dss_cons (ds_expr (de_append 8 (dp_and (DE.per (de_var 7)) (dp_one (dp_cmp (opd_eq hr.units) (DP.de (DN.dp (dn_callB (cn_sorted rfl hr.units) rfl M.b_sorted bt_sorted (da_cons (de_var 6) da_nil)))) (DP.de (DN.dp (dn_listRg1 rfl (DE.per (de_var 1)) rfl M.b_list rfl M.b_range))))))))
    (dss_cons (ds_asg (DN.dp (dn_lst (da_cons (DP.de (DR.dp (dr_call (C_is_row_of.mono (by decide)) hr tk rfl (da_cons (DP.de (DE.per (de_var 6))) (da_cons (DP.de (DE.per (de_var 1))) (da_cons (DP.de (DE.per (de_var 5))) da_nil))) (len_cons (len_cons (len_cons len_nil)))))) (da_cons (DP.de (DR.dp (dr_call (C_is_lot.mono (by decide)) hr tk rfl (da_cons (DP.de (DE.per (de_var 6))) (da_cons (DP.de (DE.per (de_var 1))) da_nil)) (len_cons (len_cons len_nil))))) (da_cons (DP.de (DR.dp (dr_call (C_is_couple.mono (by decide)) hr tk rfl (da_cons (DP.de (DE.per (de_var 6))) (da_cons (DP.de (DE.per (de_var 1))) (da_cons (DP.de (DE.per (de_var 2))) da_nil))) (len_cons (len_cons (len_cons len_nil)))))) (da_cons (DP.de (DR.dp (dr_call (C_is_order.mono (by decide)) hr tk rfl (da_cons (DP.de (DE.per (de_var 6))) (da_cons (DP.de (DE.per (de_var 1))) da_nil)) (len_cons (len_cons len_nil))))) da_nil)))))) (dg_name 10 sc__law_are_rows_right.nd))
    (dss_one (ds_if (dt_not (dt_val (DR.dp (dr_call (C__law_alike.mono (by decide)) hr tk rfl (da_cons (DP.de (DE.per (de_var 10))) (da_cons (DP.de (DE.per (de_var 8))) da_nil)) (len_cons (len_cons len_nil))))))
    (dss_one (ds_ret dp_bool))
    dss_nil)))))))))
    (dss_one (ds_ret dp_bool))))))
theorem fn_is_name {f : Addr} {fd : FuncData} (Fd : Fun K "is_name" "is_name" s_is_name f fd) (M : MF K mg) : FnOk P w K mg base (L2.CX P w) 1 f fd ["thing"] (spD K mg 1 m_is_name) := by
  show FnOk P w K mg base (L2.CX P w) 1 f fd ["thing"] (spD K mg 1 (mkFn (List.length N_is_name) F_is_name))
  refine fn_okD (F := F_is_name) (n := 1) (N := N_is_name) Fd sc_is_name rfl (by decide) (fun cdv A outer s H E S R hr hp tk => ?_)
  exact (dss_cons (ds_if (DW.dt (dw_or (dt_not (dt_val (dp_isa typ_str (de_var 0) rfl M.b_isinstance rfl M.b_str bt_str))) (dw_or (dt_not (dt_chain (opd_le hr.units) (opd_le hr.units) (DP.de dp_int) (DP.de (dp_callB cd_len rfl M.b_len bt_len (da_cons (de_var 0) da_nil))) (DP.de (dp_glob M.g_MOST_NAME rfl)))) (dw_or1 (dt_cmp (opd_in hr.units) (de_var 0) (DP.de (dp_glob M.g_RESERVED rfl)))))))
    (dss_one (ds_ret dp_bool))
    dss_nil)
    (dss_one (ds_ret (dp_callB (cd_all rfl) rfl M.b_all bt_all (da_cons (DP.de (DN.dp (dn_lc (own := [("sign", 1)]) rfl sc_is_name.nd (di_any (DE.per (de_var 0))) (blkOk_by (N := N_is_name) (sc := defScope s_is_name) (by decide +kernel)) (fun _ _ _ _ _ => (dg_name 1 sc_is_name.nd)) (fun _ _ _ _ _ => dts_nil) (fun _ _ _ _ _ => (dp_cmp (opd_in hr.units) (de_var 1) (DP.de (dp_glob M.g_LETTERS rfl))))))) da_nil)))))
theorem fn__law_named {f : Addr} {fd : FuncData} (Fd : Fun K "_law_named" "_law_named" s__law_named f fd) (M : MF K mg) : FnOk P w K mg base (L2.CX P w) 1 f fd ["thing"] (spD K mg 1 m__law_named) := by
  show FnOk P w K mg base (L2.CX P w) 1 f fd ["thing"] (spD K mg 1 (mkFn (List.length N__law_named) F__law_named))
  refine fn_okD (F := F__law_named) (n := 1) (N := N__law_named) Fd sc__law_named rfl (by decide) (fun cdv A outer s H E S R hr hp tk => ?_)
  exact (dss_cons (ds_if (DW.dt (dw_or (dt_not (dt_val (dp_isa typ_str (de_var 0) rfl M.b_isinstance rfl M.b_str bt_str))) (dw_or (dt_not (dt_chain (opd_le hr.units) (opd_le hr.units) (DP.de dp_int) (DP.de (dp_callB cd_len rfl M.b_len bt_len (da_cons (de_var 0) da_nil))) (DP.de dp_int))) (dw_or1 (dt_cmp (opd_in hr.units) (de_var 0) (DP.de (dp_tup (da_cons (DP.de dp_str) (da_cons (DP.de dp_str) (da_cons (DP.de dp_str) (da_cons (DP.de dp_str) (da_cons (DP.de dp_str) (da_cons (DP.de dp_str) (da_cons (DP.de dp_str) (da_cons (DP.de dp_str) da_nil)))))))))))))))
    (dss_one (ds_ret dp_bool))
    dss_nil)
    (dss_one (ds_ret (dp_cmp (opd_eq hr.units) (DP.de (DN.dp (dn_lc (own := [("sign", 1)]) rfl sc__law_named.nd (di_any (DE.per (de_var 0))) (blkOk_by (N := N__law_named) (sc := defScope s__law_named) (by decide +kernel)) (fun _ _ _ _ _ => (dg_name 1 sc__law_named.nd)) (fun _ _ _ _ _ => (dts_one (dt_cmp (opd_notIn hr.units) (de_var 1) (DP.de dp_str)))) (fun _ _ _ _ _ => dp_int)))) (DP.de (DN.dp (dn_lst da_nil)))))))
theorem fn_are_names {f : Addr} {fd : FuncData} (Fd : Fun K "are_names" "are_names" s_are_names f fd) (M : MF K mg) (C_is_name : Cal P w K mg base "is_name" 1 1 m_is_name) : FnOk P w K mg base (L2.CX P w) 2 f fd ["thing", "least", "most"] (spD K mg 3 m_are_names) := by
  show FnOk P w K mg base (L2.CX P w) 2 f fd ["thing", "least", "most"] (spD K mg 3 (mkFn (List.length N_are_names) F_are_names))
  refine fn_okD (F := F_are_names) (n := 3) (N := N_are_names) Fd sc_are_names rfl (by decide) (fun cdv A outer s H E S R hr hp tk => ?_)
  exact (dss_cons (ds_if (DW.dt (dw_or (dt_not (dt_val (dp_isa typ_tuple (de_var 0) rfl M.b_isinstance rfl M.b_tuple bt_tuple))) (dw_or (dt_not (dt_chain (opd_le hr.units) (opd_le hr.units) (de_var 1) (DP.de (dp_callB cd_len rfl M.b_len bt_len (da_cons (de_var 0) da_nil))) (de_var 2))) (dw_or1 (dt_not (dt_val (dp_callB (cd_all rfl) rfl M.b_all bt_all (da_cons (DP.de (DN.dp (dn_lc (own := [("one", 3)]) rfl sc_are_names.nd (di_any (DE.per (de_var 0))) (blkOk_by (N := N_are_names) (sc := defScope s_are_names) (by decide +kernel)) (fun _ _ _ _ _ => (dg_name 3 sc_are_names.nd)) (fun _ _ _ _ _ => dts_nil) (fun _ _ _ _ _ => (DR.dp (dr_call (C_is_name.mono (by decide)) hr acc0 rfl (da_cons (DP.de (DE.per (de_var 3))) da_nil) (len_cons len_nil))))))) da_nil))))))))
    (dss_one (ds_ret dp_bool))
    dss_nil)
    (dss_one (ds_ret (dp_cmp (opd_eq hr.units) (DP.de (dp_callB cd_len rfl M.b_len bt_len (da_cons (DP.de (dp_dc (own := [("one", 3)]) rfl sc_are_names.nd (di_any (DE.per (de_var 0))) (blkOk_by (N := N_are_names) (sc := defScope s_are_names) (by decide +kernel)) (fun _ _ _ _ _ => (dg_name 3 sc_are_names.nd)) (fun _ _ _ _ _ => dts_nil) (fun _ _ _ _ _ => (DE.per (de_var 3))) (fun _ _ _ _ _ => dp_bool))) da_nil))) (DP.de (dp_callB cd_len rfl M.b_len bt_len (da_cons (de_var 0) da_nil)))))))
theorem fn_law {f : Addr} {fd : FuncData} (Fd : Fun K "law" "law" s_law f fd) (M : MF K mg) (C__law_bag : Cal P w K mg base "_law_bag" 1 1 m__law_bag) (C__law_a_word : Cal P w K mg base "_law_a_word" 3 1 m__law_a_word) (C__law_some : Cal P w K mg base "_law_some" 2 2 m__law_some) (C__law_take : Cal P w K mg base "_law_take" 1 2 m__law_take) (C__law_alike : Cal P w K mg base "_law_alike" 1 2 m__law_alike) (C__law_are_rows_right : Cal P w K mg base "_law_are_rows_right" 6 3 m__law_are_rows_right) (C__law_is_int : Cal P w K mg base "_law_is_int" 1 1 m__law_is_int) (C_is_name : Cal P w K mg base "is_name" 1 1 m_is_name) (C_is_integer : Cal P w K mg base "is_integer" 1 1 m_is_integer) (C__law_named : Cal P w K mg base "_law_named" 1 1 m__law_named) (C_is_within : Cal P w K mg base "is_within" 2 3 m_is_within) (C_is_index : Cal P w K mg base "is_index" 3 2 m_is_index) (C_are_names : Cal P w K mg base "are_names" 2 3 m_are_names) : FnOk P w K mg base (L2.CX P w) 7 f fd ["script"] (spD K mg 1 m_law) := by
  show FnOk P w K mg base (L2.CX P w) 7 f fd ["script"] (spD K mg 1 (mkFn (List.length N_law) F_law))
  refine fn_okD (F := F_law) (n := 1) (N := N_law) Fd sc_law rfl (by decide) (fun cdv A outer s H E S R hr hp tk => ?_)
  exact (dss_cons (ds_setR 1 (dr_call (C__law_bag.mono (by decide)) hr tk rfl (da_cons (DP.de (DE.per (de_var 0))) da_nil) (len_cons len_nil)) sc_law.nd)
    (dss_cons (ds_for hp rfl (di_range1 dp_int rfl M.b_range) (dg_name 2 sc_law.nd)
    (dss_cons (ds_par2 3 4 rfl sc_law.nd (DP.dr (DR.dp (dr_call (C__law_a_word.mono (by decide)) hr tk rfl (da_cons (de_var 1) da_nil) (len_cons len_nil)))) (DP.dr (DR.dp (dr_call (C__law_some.mono (by decide)) hr tk rfl (da_cons (de_var 1) (da_cons (DP.de (DN.dp (dn_lst (da_cons (DP.de dp_int) (da_cons (DP.de dp_int) (da_cons (DP.de (dp_neg dp_int)) (da_cons (DP.de dp_int) (da_cons (DP.de dp_bool) (da_cons (DP.de dp_bool) (da_cons (DP.de dp_none) (da_cons (DP.de dp_str) (da_cons (DP.de (dp_bin opd_pow (DP.de dp_int) (DP.de dp_int))) (da_cons (DP.de (dp_tup (da_cons (DP.de dp_int) da_nil))) da_nil))))))))))))) da_nil)) (len_cons (len_cons len_nil))))))
    (dss_cons (ds_par2 5 6 rfl sc_law.nd (DP.dr (dp_bin opd_sub (DP.de (DR.dp (dr_call (C__law_take.mono (by decide)) hr tk rfl (da_cons (de_var 1) (da_cons (DP.de dp_int) da_nil)) (len_cons (len_cons len_nil))))) (DP.de dp_int))) (DP.dr (DR.dp (dr_call (C__law_take.mono (by decide)) hr tk rfl (da_cons (de_var 1) (da_cons (DP.de dp_int) da_nil)) (len_cons (len_cons len_nil))))))
    (dss_cons (ds_if (dt_not (dt_val (DR.dp (dr_call (C__law_alike.mono (by decide)) hr tk rfl (da_cons (DP.de (DN.dp (dn_lst (da_cons (DP.de (DR.dp (dr_call (C_is_name.mono (by decide)) hr tk rfl (da_cons (DP.de (DE.per (de_var 3))) da_nil) (len_cons len_nil)))) (da_cons (DP.de (DR.dp (dr_call (C_is_integer.mono (by decide)) hr tk rfl (da_cons (DP.de (DE.per (de_var 4))) da_nil) (len_cons len_nil)))) da_nil))))) (da_cons (DP.de (DN.dp (dn_lst (da_cons (DP.de (DR.dp (dr_call (C__law_named.mono (by decide)) hr tk rfl (da_cons (DP.de (DE.per (de_var 3))) da_nil) (len_cons len_nil)))) (da_cons (DP.de (DR.dp (dr_call (C__law_is_int.mono (by decide)) hr tk rfl (da_cons (DP.de (DE.per (de_var 4))) da_nil) (len_cons len_nil)))) da_nil))))) da_nil)) (len_cons (len_cons len_nil))))))
    (dss_one (ds_ret dp_bool))
    dss_nil)
    (dss_cons (ds_asg (DN.dp (dn_lst (da_cons (DP.de (dp_and (DR.dp (dr_call (C__law_is_int.mono (by decide)) hr tk rfl (da_cons (DP.de (DE.per (de_var 4))) da_nil) (len_cons len_nil))) (dp_one (dp_chain (opd_le hr.units) (opd_le hr.units) (de_var 5) (de_var 4) (de_var 6))))) (da_cons (DP.de (dp_and (DR.dp (dr_call (C__law_is_int.mono (by decide)) hr tk rfl (da_cons (DP.de (DE.per (de_var 4))) da_nil) (len_cons len_nil))) (dp_one (dp_chain (opd_le hr.units) (opd_lt hr.units) (DP.de dp_int) (de_var 4) (de_var 6))))) da_nil)))) (dg_name 7 sc_law.nd))
    (dss_cons (ds_if (dt_not (dt_val (DR.dp (dr_call (C__law_alike.mono (by decide)) hr tk rfl (da_cons (DP.de (DN.dp (dn_lst (da_cons (DP.de (DR.dp (dr_call (C_is_within.mono (by decide)) hr tk rfl (da_cons (DP.de (DE.per (de_var 4))) (da_cons (DP.de (DE.per (de_var 5))) (da_cons (DP.de (DE.per (de_var 6))) da_nil))) (len_cons (len_cons (len_cons len_nil)))))) (da_cons (DP.de (DR.dp (dr_call (C_is_index.mono (by decide)) hr tk rfl (da_cons (DP.de (DE.per (de_var 4))) (da_cons (DP.de (DE.per (de_var 6))) da_nil)) (len_cons (len_cons len_nil))))) da_nil))))) (da_cons (DP.de (DE.per (de_var 7))) da_nil)) (len_cons (len_cons len_nil))))))
    (dss_one (ds_ret dp_bool))
    dss_nil)
    (dss_cons (ds_asg (dp_callT cd_tuple rfl M.b_tuple bt_tuple (da_cons (DP.de (DN.dp (dn_lc (own := [("at", 11)]) rfl sc_law.nd (di_range1 (DR.dp (dr_call (C__law_take.mono (by decide)) hr tk rfl (da_cons (de_var 1) (da_cons (DP.de dp_int) da_nil)) (len_cons (len_cons len_nil)))) rfl M.b_range) (blkOk_by (N := N_law) (sc := defScope s_law) (by decide +kernel)) (fun _ _ _ _ _ => (dg_name 11 sc_law.nd)) (fun _ _ _ _ _ => dts_nil) (fun _ _ _ _ _ => (DR.dp (dr_call (C__law_a_word.mono (by decide)) hr acc0 rfl (da_cons (de_var 1) da_nil) (len_cons len_nil))))))) da_nil)) (dg_name 8 sc_law.nd))
    (dss_cons (ds_for hp rfl (di_any (dp_tup (da_cons (DP.de (DE.per (de_var 8))) (da_cons (DP.de (DN.dp (dn_callT cn_list rfl M.b_list bt_list (da_cons (de_var 8) da_nil)))) (da_cons (DP.de dp_none) (da_cons (DP.de (dp_bin opd_add (de_var 8) (de_var 8))) (da_cons (DP.de dp_str) (da_cons (DP.de (dp_tup (da_cons (DP.de dp_str) (da_cons (DP.de dp_str) da_nil)))) da_nil)))))))) (dg_name 9 sc_law.nd)
    (dss_cons (ds_asg (dp_and (dp_isa typ_tuple (de_var 9) rfl M.b_isinstance rfl M.b_tuple bt_tuple) (dp_one (dp_cmp (opd_eq hr.units) (DP.de (DN.dp (dn_lc (own := [("one", 12)]) rfl sc_law.nd (di_any (DE.per (de_var 9))) (blkOk_by (N := N_law) (sc := defScope s_law) (by decide +kernel)) (fun _ _ _ _ _ => (dg_name 12 sc_law.nd)) (fun _ _ _ _ _ => (dts_one (dt_not (dt_val (DR.dp (dr_call (C__law_named.mono (by decide)) hr acc0 rfl (da_cons (DP.de (DE.per (de_var 12))) da_nil) (len_cons len_nil))))))) (fun _ _ _ _ _ => dp_int)))) (DP.de (DN.dp (dn_lst da_nil)))))) (dg_name 10 sc_law.nd))
    (dss_cons (ds_asg (dp_and (DE.per (de_var 10)) (dp_one (dp_cmp (opd_eq hr.units) (DP.de (DN.dp (dn_lc (own := [("at", 11)]) rfl sc_law.nd (di_range1 (dp_callB cd_len rfl M.b_len bt_len (da_cons (de_var 9) da_nil)) rfl M.b_range) (blkOk_by (N := N_law) (sc := defScope s_law) (by decide +kernel)) (fun _ _ _ _ _ => (dg_name 11 sc_law.nd)) (fun _ _ _ _ _ => (dts_one (dt_cmp (opd_in hr.units) (DP.de (dp_ix (de_var 9) (de_var 11))) (DP.de (dp_sl (de_var 9) do_none (do_some (DE.per (de_var 11)))))))) (fun _ _ _ _ _ => dp_int)))) (DP.de (DN.dp (dn_lst da_nil)))))) (dg_name 10 sc_law.nd))
    (dss_one (ds_if (dt_not (dt_val (DR.dp (dr_call (C__law_alike.mono (by decide)) hr tk rfl (da_cons (DP.de (DR.dp (dr_call (C_are_names.mono (by decide)) hr tk rfl (da_cons (DP.de (DE.per (de_var 9))) (da_cons (DP.de (DE.per (de_var 5))) (da_cons (DP.de (DE.per (de_var 6))) da_nil))) (len_cons (len_cons (len_cons len_nil)))))) (da_cons (DP.de (dp_and (DE.per (de_var 10)) (dp_one (dp_chain (opd_le hr.units) (opd_le hr.units) (de_var 5) (DP.de (dp_callB cd_len rfl M.b_len bt_len (da_cons (de_var 9) da_nil))) (de_var 6))))) da_nil)) (len_cons (len_cons len_nil))))))
    (dss_one (ds_ret dp_bool))
    dss_nil)))))
    (dss_one (ds_if (dt_not (dt_val (DR.dp (dr_call (C__law_are_rows_right.mono (by decide)) hr tk rfl (da_cons (de_var 1) (da_cons (DP.de (DR.dp (dr_call (C__law_take.mono (by decide)) hr tk rfl (da_cons (de_var 1) (da_cons (DP.de dp_int) da_nil)) (len_cons (len_cons len_nil))))) (da_cons (DP.de (DR.dp (dr_call (C__law_take.mono (by decide)) hr tk rfl (da_cons (de_var 1) (da_cons (DP.de dp_int) da_nil)) (len_cons (len_cons len_nil))))) da_nil))) (len_cons (len_cons (len_cons len_nil)))))))
    (dss_one (ds_ret dp_bool))
    dss_nil))))))))))
    (dss_one (ds_ret dp_bool))))
end
/-- all of it, at the heap behind the top -/
theorem all_mk {l : PySem.W.OpenLaw} {w : World} {K : PySem.W.Frag} {h : Heap} {mg : Str → Option Value} {fa f0 f1 f2 f3 f4 f5 f6 f7 f8 f9 f10 f11 f12 f13 f14 f15 f16 f17 f18 f19 f20 : Addr} (X : K.In h) (G : h.Ns mainGlobals mg) (hfa : mg "law" = some (.ref fa)) (hpl : TrueAt m_law)
    {od0 an0 od1 an1 od2 an2 od3 an3 od4 an4 od5 an5 od6 an6 od7 an7 od8 an8 od9 an9 od10 an10 od11 an11 od12 an12 od13 an13 od14 an14 od15 an15 od16 an16 od17 an17 od18 an18 od19 an19 od20 an20 : Option Addr} {sl0 sl1 sl2 sl3 sl4 sl5 sl6 sl7 sl8 sl9 sl10 sl11 sl12 sl13 sl14 sl15 sl16 sl17 sl18 sl19 sl20 : Array (Option Value)} {oc0 kV0 dc0 pm0 cd0 ct0 oc1 kV1 dc1 pm1 cd1 ct1 oc2 kV2 dc2 pm2 cd2 ct2 oc3 kV3 dc3 pm3 cd3 ct3 oc4 kV4 dc4 pm4 cd4 ct4 oc5 kV5 dc5 pm5 cd5 ct5 oc6 kV6 dc6 pm6 cd6 ct6 oc7 kV7 dc7 pm7 cd7 ct7 oc8 kV8 dc8 pm8 cd8 ct8 oc9 kV9 dc9 pm9 cd9 ct9 oc10 kV10 dc10 pm10 cd10 ct10 oc11 kV11 dc11 pm11 cd11 ct11 oc12 kV12 dc12 pm12 cd12 ct12 oc13 kV13 dc13 pm13 cd13 ct13 oc14 kV14 dc14 pm14 cd14 ct14 oc15 kV15 dc15 pm15 cd15 ct15 oc16 kV16 dc16 pm16 cd16 ct16 oc17 kV17 dc17 pm17 cd17 ct17 oc18 kV18 dc18 pm18 cd18 ct18 oc19 kV19 dc19 pm19 cd19 ct19 oc20 kV20 dc20 pm20 cd20 ct20 : Value}
    (a0 : PySem.W.nsIn K mainGlobals "_law_bag" = some (some (.ref f0))) (l0 : K.lookup f0 = some ⟨oc0, od0, .func (PySem.W.fnOf "_law_bag" "_law_bag" (defArgs s__law_bag) (defBody s__law_bag) (defScope s__law_bag) .none kV0 dc0 pm0 an0 cd0 ct0), sl0⟩) (c0 : PySem.W.codeIn K cd0 "_law_bag" = true) (k0 : PySem.W.keepIn K (.ref f0) = true)
    (a1 : PySem.W.nsIn K mainGlobals "_law_take" = some (some (.ref f1))) (l1 : K.lookup f1 = some ⟨oc1, od1, .func (PySem.W.fnOf "_law_take" "_law_take" (defArgs s__law_take) (defBody s__law_take) (defScope s__law_take) .none kV1 dc1 pm1 an1 cd1 ct1), sl1⟩) (c1 : PySem.W.codeIn K cd1 "_law_take" = true) (k1 : PySem.W.keepIn K (.ref f1) = true)
    (a2 : PySem.W.nsIn K mainGlobals "_law_some" = some (some (.ref f2))) (l2 : K.lookup f2 = some ⟨oc2, od2, .func (PySem.W.fnOf "_law_some" "_law_some" (defArgs s__law_some) (defBody s__law_some) (defScope s__law_some) .none kV2 dc2 pm2 an2 cd2 ct2), sl2⟩) (c2 : PySem.W.codeIn K cd2 "_law_some" = true) (k2 : PySem.W.keepIn K (.ref f2) = true)
    (a3 : PySem.W.nsIn K mainGlobals "_law_a_word" = some (some (.ref f3))) (l3 : K.lookup f3 = some ⟨oc3, od3, .func (PySem.W.fnOf "_law_a_word" "_law_a_word" (defArgs s__law_a_word) (defBody s__law_a_word) (defScope s__law_a_word) .none kV3 dc3 pm3 an3 cd3 ct3), sl3⟩) (c3 : PySem.W.codeIn K cd3 "_law_a_word" = true) (k3 : PySem.W.keepIn K (.ref f3) = true)
    (a4 : PySem.W.nsIn K mainGlobals "_law_alike" = some (some (.ref f4))) (l4 : K.lookup f4 = some ⟨oc4, od4, .func (PySem.W.fnOf "_law_alike" "_law_alike" (defArgs s__law_alike) (defBody s__law_alike) (defScope s__law_alike) .none kV4 dc4 pm4 an4 cd4 ct4), sl4⟩) (c4 : PySem.W.codeIn K cd4 "_law_alike" = true) (k4 : PySem.W.keepIn K (.ref f4) = true)
    (a5 : PySem.W.nsIn K mainGlobals "_law_mixed" = some (some (.ref f5))) (l5 : K.lookup f5 = some ⟨oc5, od5, .func (PySem.W.fnOf "_law_mixed" "_law_mixed" (defArgs s__law_mixed) (defBody s__law_mixed) (defScope s__law_mixed) .none kV5 dc5 pm5 an5 cd5 ct5), sl5⟩) (c5 : PySem.W.codeIn K cd5 "_law_mixed" = true) (k5 : PySem.W.keepIn K (.ref f5) = true)
    (a6 : PySem.W.nsIn K mainGlobals "_law_order" = some (some (.ref f6))) (l6 : K.lookup f6 = some ⟨oc6, od6, .func (PySem.W.fnOf "_law_order" "_law_order" (defArgs s__law_order) (defBody s__law_order) (defScope s__law_order) .none kV6 dc6 pm6 an6 cd6 ct6), sl6⟩) (c6 : PySem.W.codeIn K cd6 "_law_order" = true) (k6 : PySem.W.keepIn K (.ref f6) = true)
    (a7 : PySem.W.nsIn K mainGlobals "_law_is_int" = some (some (.ref f7))) (l7 : K.lookup f7 = some ⟨oc7, od7, .func (PySem.W.fnOf "_law_is_int" "_law_is_int" (defArgs s__law_is_int) (defBody s__law_is_int) (defScope s__law_is_int) .none kV7 dc7 pm7 an7 cd7 ct7), sl7⟩) (c7 : PySem.W.codeIn K cd7 "_law_is_int" = true) (k7 : PySem.W.keepIn K (.ref f7) = true)
    (a8 : PySem.W.nsIn K mainGlobals "_law_are_below" = some (some (.ref f8))) (l8 : K.lookup f8 = some ⟨oc8, od8, .func (PySem.W.fnOf "_law_are_below" "_law_are_below" (defArgs s__law_are_below) (defBody s__law_are_below) (defScope s__law_are_below) .none kV8 dc8 pm8 an8 cd8 ct8), sl8⟩) (c8 : PySem.W.codeIn K cd8 "_law_are_below" = true) (k8 : PySem.W.keepIn K (.ref f8) = true)
    (a9 : PySem.W.nsIn K mainGlobals "is_integer" = some (some (.ref f9))) (l9 : K.lookup f9 = some ⟨oc9, od9, .func (PySem.W.fnOf "is_integer" "is_integer" (defArgs s_is_integer) (defBody s_is_integer) (defScope s_is_integer) .none kV9 dc9 pm9 an9 cd9 ct9), sl9⟩) (c9 : PySem.W.codeIn K cd9 "is_integer" = true) (k9 : PySem.W.keepIn K (.ref f9) = true)
    (a10 : PySem.W.nsIn K mainGlobals "is_within" = some (some (.ref f10))) (l10 : K.lookup f10 = some ⟨oc10, od10, .func (PySem.W.fnOf "is_within" "is_within" (defArgs s_is_within) (defBody s_is_within) (defScope s_is_within) .none kV10 dc10 pm10 an10 cd10 ct10), sl10⟩) (c10 : PySem.W.codeIn K cd10 "is_within" = true) (k10 : PySem.W.keepIn K (.ref f10) = true)
    (a11 : PySem.W.nsIn K mainGlobals "is_index" = some (some (.ref f11))) (l11 : K.lookup f11 = some ⟨oc11, od11, .func (PySem.W.fnOf "is_index" "is_index" (defArgs s_is_index) (defBody s_is_index) (defScope s_is_index) .none kV11 dc11 pm11 an11 cd11 ct11), sl11⟩) (c11 : PySem.W.codeIn K cd11 "is_index" = true) (k11 : PySem.W.keepIn K (.ref f11) = true)
    (a12 : PySem.W.nsIn K mainGlobals "is_row_of" = some (some (.ref f12))) (l12 : K.lookup f12 = some ⟨oc12, od12, .func (PySem.W.fnOf "is_row_of" "is_row_of" (defArgs s_is_row_of) (defBody s_is_row_of) (defScope s_is_row_of) .none kV12 dc12 pm12 an12 cd12 ct12), sl12⟩) (c12 : PySem.W.codeIn K cd12 "is_row_of" = true) (k12 : PySem.W.keepIn K (.ref f12) = true)
    (a13 : PySem.W.nsIn K mainGlobals "is_lot" = some (some (.ref f13))) (l13 : K.lookup f13 = some ⟨oc13, od13, .func (PySem.W.fnOf "is_lot" "is_lot" (defArgs s_is_lot) (defBody s_is_lot) (defScope s_is_lot) .none kV13 dc13 pm13 an13 cd13 ct13), sl13⟩) (c13 : PySem.W.codeIn K cd13 "is_lot" = true) (k13 : PySem.W.keepIn K (.ref f13) = true)
    (a14 : PySem.W.nsIn K mainGlobals "is_couple" = some (some (.ref f14))) (l14 : K.lookup f14 = some ⟨oc14, od14, .func (PySem.W.fnOf "is_couple" "is_couple" (defArgs s_is_couple) (defBody s_is_couple) (defScope s_is_couple) .none kV14 dc14 pm14 an14 cd14 ct14), sl14⟩) (c14 : PySem.W.codeIn K cd14 "is_couple" = true) (k14 : PySem.W.keepIn K (.ref f14) = true)
    (a15 : PySem.W.nsIn K mainGlobals "is_order" = some (some (.ref f15))) (l15 : K.lookup f15 = some ⟨oc15, od15, .func (PySem.W.fnOf "is_order" "is_order" (defArgs s_is_order) (defBody s_is_order) (defScope s_is_order) .none kV15 dc15 pm15 an15 cd15 ct15), sl15⟩) (c15 : PySem.W.codeIn K cd15 "is_order" = true) (k15 : PySem.W.keepIn K (.ref f15) = true)
    (a16 : PySem.W.nsIn K mainGlobals "_law_are_rows_right" = some (some (.ref f16))) (l16 : K.lookup f16 = some ⟨oc16, od16, .func (PySem.W.fnOf "_law_are_rows_right" "_law_are_rows_right" (defArgs s__law_are_rows_right) (defBody s__law_are_rows_right) (defScope s__law_are_rows_right) .none kV16 dc16 pm16 an16 cd16 ct16), sl16⟩) (c16 : PySem.W.codeIn K cd16 "_law_are_rows_right" = true) (k16 : PySem.W.keepIn K (.ref f16) = true)
    (a17 : PySem.W.nsIn K mainGlobals "is_name" = some (some (.ref f17))) (l17 : K.lookup f17 = some ⟨oc17, od17, .func (PySem.W.fnOf "is_name" "is_name" (defArgs s_is_name) (defBody s_is_name) (defScope s_is_name) .none kV17 dc17 pm17 an17 cd17 ct17), sl17⟩) (c17 : PySem.W.codeIn K cd17 "is_name" = true) (k17 : PySem.W.keepIn K (.ref f17) = true)
    (a18 : PySem.W.nsIn K mainGlobals "_law_named" = some (some (.ref f18))) (l18 : K.lookup f18 = some ⟨oc18, od18, .func (PySem.W.fnOf "_law_named" "_law_named" (defArgs s__law_named) (defBody s__law_named) (defScope s__law_named) .none kV18 dc18 pm18 an18 cd18 ct18), sl18⟩) (c18 : PySem.W.codeIn K cd18 "_law_named" = true) (k18 : PySem.W.keepIn K (.ref f18) = true)
    (a19 : PySem.W.nsIn K mainGlobals "are_names" = some (some (.ref f19))) (l19 : K.lookup f19 = some ⟨oc19, od19, .func (PySem.W.fnOf "are_names" "are_names" (defArgs s_are_names) (defBody s_are_names) (defScope s_are_names) .none kV19 dc19 pm19 an19 cd19 ct19), sl19⟩) (c19 : PySem.W.codeIn K cd19 "are_names" = true) (k19 : PySem.W.keepIn K (.ref f19) = true)
    (a20 : PySem.W.nsIn K mainGlobals "law" = some (some (.ref f20))) (l20 : K.lookup f20 = some ⟨oc20, od20, .func (PySem.W.fnOf "law" "law" (defArgs s_law) (defBody s_law) (defScope s_law) .none kV20 dc20 pm20 an20 cd20 ct20), sl20⟩) (c20 : PySem.W.codeIn K cd20 "law" = true) (k20 : PySem.W.keepIn K (.ref f20) = true)
    (z_abs : PySem.W.nsIn K mainGlobals "abs" = some none)
    (z_all : PySem.W.nsIn K mainGlobals "all" = some none)
    (z_bool : PySem.W.nsIn K mainGlobals "bool" = some none)
    (z_int : PySem.W.nsIn K mainGlobals "int" = some none)
    (z_isinstance : PySem.W.nsIn K mainGlobals "isinstance" = some none)
    (z_len : PySem.W.nsIn K mainGlobals "len" = some none)
    (z_list : PySem.W.nsIn K mainGlobals "list" = some none)
    (z_range : PySem.W.nsIn K mainGlobals "range" = some none)
    (z_set : PySem.W.nsIn K mainGlobals "set" = some none)
    (z_sorted : PySem.W.nsIn K mainGlobals "sorted" = some none)
    (z_str : PySem.W.nsIn K mainGlobals "str" = some none)
    (z_tuple : PySem.W.nsIn K mainGlobals "tuple" = some none)
    (z_zip : PySem.W.nsIn K mainGlobals "zip" = some none)
    {u_LETTERS : Value} (g_LETTERS : PySem.W.nsIn K mainGlobals "LETTERS" = some (some u_LETTERS)) (h_LETTERS : flatOk u_LETTERS c_LETTERS = true)
    {u_MOST_NAME : Value} (g_MOST_NAME : PySem.W.nsIn K mainGlobals "MOST_NAME" = some (some u_MOST_NAME)) (h_MOST_NAME : flatOk u_MOST_NAME c_MOST_NAME = true)
    {t_RESERVED : Addr} {o_RESERVED : Option Addr} {i_RESERVED : Array Value} {n_RESERVED : Nat} {x_RESERVED : Array (Option Value)} (g_RESERVED : PySem.W.nsIn K mainGlobals "RESERVED" = some (some (.ref t_RESERVED))) (l_RESERVED : K.lookup t_RESERVED = some ⟨.type "tuple", o_RESERVED, .seq i_RESERVED n_RESERVED, x_RESERVED⟩) (h_RESERVED : (flatsOk i_RESERVED.toList [(.str "book"), (.str "mark"), (.str "names"), (.str "net"), (.str "none"), (.str "pick"), (.str "things"), (.str "tie")] && decide (i_RESERVED.size ≤ 16777216)) = true)
    : ∃ fd : FuncData, (∀ (s : Shared) (v : Value), BindsTo s fd ⟨[v], []⟩ [("script", v)]) ∧ ∀ base : Heap, K.In base → base.Ns mainGlobals mg → FnOk l.prog w K mg base (L2.CX l.prog w) 7 fa fd ["script"] (spLaw K) := by
  have e := hfa.symm.trans (PySem.W.mg_of X G a20)
  cases e
  have F0 := fun_mk (st := s__law_bag) l0 c0 k0
  have F1 := fun_mk (st := s__law_take) l1 c1 k1
  have F2 := fun_mk (st := s__law_some) l2 c2 k2
  have F3 := fun_mk (st := s__law_a_word) l3 c3 k3
  have F4 := fun_mk (st := s__law_alike) l4 c4 k4
  have F5 := fun_mk (st := s__law_mixed) l5 c5 k5
  have F6 := fun_mk (st := s__law_order) l6 c6 k6
  have F7 := fun_mk (st := s__law_is_int) l7 c7 k7
  have F8 := fun_mk (st := s__law_are_below) l8 c8 k8
  have F9 := fun_mk (st := s_is_integer) l9 c9 k9
  have F10 := fun_mk (st := s_is_within) l10 c10 k10
  have F11 := fun_mk (st := s_is_index) l11 c11 k11
  have F12 := fun_mk (st := s_is_row_of) l12 c12 k12
  have F13 := fun_mk (st := s_is_lot) l13 c13 k13
  have F14 := fun_mk (st := s_is_couple) l14 c14 k14
  have F15 := fun_mk (st := s_is_order) l15 c15 k15
  have F16 := fun_mk (st := s__law_are_rows_right) l16 c16 k16
  have F17 := fun_mk (st := s_is_name) l17 c17 k17
  have F18 := fun_mk (st := s__law_named) l18 c18 k18
  have F19 := fun_mk (st := s_are_names) l19 c19 k19
  have F20 := fun_mk (st := s_law) l20 c20 k20
  have M : MF K mg := ⟨PySem.W.mg_none_of X G z_abs, PySem.W.mg_none_of X G z_all, PySem.W.mg_none_of X G z_bool, PySem.W.mg_none_of X G z_int, PySem.W.mg_none_of X G z_isinstance, PySem.W.mg_none_of X G z_len, PySem.W.mg_none_of X G z_list, PySem.W.mg_none_of X G z_range, PySem.W.mg_none_of X G z_set, PySem.W.mg_none_of X G z_sorted, PySem.W.mg_none_of X G z_str, PySem.W.mg_none_of X G z_tuple, PySem.W.mg_none_of X G z_zip, glo_flat (PySem.W.mg_of X G g_LETTERS) h_LETTERS, glo_flat (PySem.W.mg_of X G g_MOST_NAME) h_MOST_NAME, glo_tup (PySem.W.mg_of X G g_RESERVED) l_RESERVED h_RESERVED⟩
  have b0 := F0.binds (ps := ["script"]) fun _ _ _ _ _ _ us hl => match us, hl with | [_], _ => rfl
  have b1 := F1.binds (ps := ["bag", "many"]) fun _ _ _ _ _ _ us hl => match us, hl with | [_, _], _ => rfl
  have b2 := F2.binds (ps := ["bag", "things"]) fun _ _ _ _ _ _ us hl => match us, hl with | [_, _], _ => rfl
  have b3 := F3.binds (ps := ["bag"]) fun _ _ _ _ _ _ us hl => match us, hl with | [_], _ => rfl
  have b4 := F4.binds (ps := ["found", "due"]) fun _ _ _ _ _ _ us hl => match us, hl with | [_, _], _ => rfl
  have b5 := F5.binds (ps := ["bag", "things"]) fun _ _ _ _ _ _ us hl => match us, hl with | [_, _], _ => rfl
  have b6 := F6.binds (ps := ["bag", "many"]) fun _ _ _ _ _ _ us hl => match us, hl with | [_, _], _ => rfl
  have b7 := F7.binds (ps := ["thing"]) fun _ _ _ _ _ _ us hl => match us, hl with | [_], _ => rfl
  have b8 := F8.binds (ps := ["thing", "many"]) fun _ _ _ _ _ _ us hl => match us, hl with | [_, _], _ => rfl
  have b9 := F9.binds (ps := ["thing"]) fun _ _ _ _ _ _ us hl => match us, hl with | [_], _ => rfl
  have b10 := F10.binds (ps := ["thing", "least", "most"]) fun _ _ _ _ _ _ us hl => match us, hl with | [_, _, _], _ => rfl
  have b11 := F11.binds (ps := ["thing", "many"]) fun _ _ _ _ _ _ us hl => match us, hl with | [_, _], _ => rfl
  have b12 := F12.binds (ps := ["thing", "many", "most"]) fun _ _ _ _ _ _ us hl => match us, hl with | [_, _, _], _ => rfl
  have b13 := F13.binds (ps := ["thing", "many"]) fun _ _ _ _ _ _ us hl => match us, hl with | [_, _], _ => rfl
  have b14 := F14.binds (ps := ["thing", "many", "other"]) fun _ _ _ _ _ _ us hl => match us, hl with | [_, _, _], _ => rfl
  have b15 := F15.binds (ps := ["thing", "many"]) fun _ _ _ _ _ _ us hl => match us, hl with | [_, _], _ => rfl
  have b16 := F16.binds (ps := ["bag", "many", "other"]) fun _ _ _ _ _ _ us hl => match us, hl with | [_, _, _], _ => rfl
  have b17 := F17.binds (ps := ["thing"]) fun _ _ _ _ _ _ us hl => match us, hl with | [_], _ => rfl
  have b18 := F18.binds (ps := ["thing"]) fun _ _ _ _ _ _ us hl => match us, hl with | [_], _ => rfl
  have b19 := F19.binds (ps := ["thing", "least", "most"]) fun _ _ _ _ _ _ us hl => match us, hl with | [_, _, _], _ => rfl
  refine ⟨PySem.W.fnOf "law" "law" (defArgs s_law) (defBody s_law) (defScope s_law) .none kV20 dc20 pm20 an20 cd20 ct20, fun s v => .of_eq rfl, fun base _ _ => ?_⟩
  have C__law_bag : Cal l.prog w K mg base "_law_bag" 1 1 m__law_bag := ⟨_, _, _, fn__law_bag F0 M , PySem.W.mg_of X G a0, F0.kp, b0⟩
  have C__law_take : Cal l.prog w K mg base "_law_take" 1 2 m__law_take := ⟨_, _, _, fn__law_take F1 M , PySem.W.mg_of X G a1, F1.kp, b1⟩
  have C__law_some : Cal l.prog w K mg base "_law_some" 2 2 m__law_some := ⟨_, _, _, fn__law_some F2 M C__law_take, PySem.W.mg_of X G a2, F2.kp, b2⟩
  have C__law_a_word : Cal l.prog w K mg base "_law_a_word" 3 1 m__law_a_word := ⟨_, _, _, fn__law_a_word F3 M C__law_some, PySem.W.mg_of X G a3, F3.kp, b3⟩
  have C__law_alike : Cal l.prog w K mg base "_law_alike" 1 2 m__law_alike := ⟨_, _, _, fn__law_alike F4 M , PySem.W.mg_of X G a4, F4.kp, b4⟩
  have C__law_mixed : Cal l.prog w K mg base "_law_mixed" 2 2 m__law_mixed := ⟨_, _, _, fn__law_mixed F5 M C__law_take, PySem.W.mg_of X G a5, F5.kp, b5⟩
  have C__law_order : Cal l.prog w K mg base "_law_order" 3 2 m__law_order := ⟨_, _, _, fn__law_order F6 M C__law_mixed, PySem.W.mg_of X G a6, F6.kp, b6⟩
  have C__law_is_int : Cal l.prog w K mg base "_law_is_int" 1 1 m__law_is_int := ⟨_, _, _, fn__law_is_int F7 M , PySem.W.mg_of X G a7, F7.kp, b7⟩
  have C__law_are_below : Cal l.prog w K mg base "_law_are_below" 2 2 m__law_are_below := ⟨_, _, _, fn__law_are_below F8 M C__law_is_int, PySem.W.mg_of X G a8, F8.kp, b8⟩
  have C_is_integer : Cal l.prog w K mg base "is_integer" 1 1 m_is_integer := ⟨_, _, _, fn_is_integer F9 M , PySem.W.mg_of X G a9, F9.kp, b9⟩
  have C_is_within : Cal l.prog w K mg base "is_within" 2 3 m_is_within := ⟨_, _, _, fn_is_within F10 M C_is_integer, PySem.W.mg_of X G a10, F10.kp, b10⟩
  have C_is_index : Cal l.prog w K mg base "is_index" 3 2 m_is_index := ⟨_, _, _, fn_is_index F11 M C_is_within, PySem.W.mg_of X G a11, F11.kp, b11⟩
  have C_is_row_of : Cal l.prog w K mg base "is_row_of" 4 3 m_is_row_of := ⟨_, _, _, fn_is_row_of F12 M C_is_index, PySem.W.mg_of X G a12, F12.kp, b12⟩
  have C_is_lot : Cal l.prog w K mg base "is_lot" 5 2 m_is_lot := ⟨_, _, _, fn_is_lot F13 M C_is_row_of, PySem.W.mg_of X G a13, F13.kp, b13⟩
  have C_is_couple : Cal l.prog w K mg base "is_couple" 4 3 m_is_couple := ⟨_, _, _, fn_is_couple F14 M C_is_index, PySem.W.mg_of X G a14, F14.kp, b14⟩
  have C_is_order : Cal l.prog w K mg base "is_order" 5 2 m_is_order := ⟨_, _, _, fn_is_order F15 M C_is_row_of, PySem.W.mg_of X G a15, F15.kp, b15⟩
  have C__law_are_rows_right : Cal l.prog w K mg base "_law_are_rows_right" 6 3 m__law_are_rows_right := ⟨_, _, _, fn__law_are_rows_right F16 M C__law_take C__law_order C__law_are_below C__law_some C_is_row_of C_is_lot C_is_couple C_is_order C__law_alike, PySem.W.mg_of X G a16, F16.kp, b16⟩
  have C_is_name : Cal l.prog w K mg base "is_name" 1 1 m_is_name := ⟨_, _, _, fn_is_name F17 M , PySem.W.mg_of X G a17, F17.kp, b17⟩
  have C__law_named : Cal l.prog w K mg base "_law_named" 1 1 m__law_named := ⟨_, _, _, fn__law_named F18 M , PySem.W.mg_of X G a18, F18.kp, b18⟩
  have C_are_names : Cal l.prog w K mg base "are_names" 2 3 m_are_names := ⟨_, _, _, fn_are_names F19 M C_is_name, PySem.W.mg_of X G a19, F19.kp, b19⟩
  exact law_ok (fn_law F20 M C__law_bag C__law_a_word C__law_some C__law_take C__law_alike C__law_are_rows_right C__law_is_int C_is_name C_is_integer C__law_named C_is_within C_is_index C_are_names) hpl
end K01

/-! K01p: the plain law of k01 -/
namespace K01
open PySem PySem.Spec PyProof.Rows L2 DL
def isI : PyData → Bool
  | .int _ => true
  | _ => false
theorem isint (d : PyData) : m_is_integer [.dat d] = .ok (.dat (.bool (isI d))) [.un] := by cases d <;> rfl
theorem isint' (d : PyData) : m__law_is_int [.dat d] = .ok (.dat (.bool (isI d))) [.un] := by cases d <;> rfl
theorem nod0 : ([] : List Nat).Nodup := List.nodup_nil
theorem le_int (x y : Int) : leD (.int x) (.int y) = some (.bool (decide (x ≤ y))) := rfl
theorem lt_int (x y : Int) : ltD (.int x) (.int y) = some (.bool (decide (x < y))) := rfl
def within (d : PyData) (lo hi : Int) : Bool := match d with
  | .int i => decide (lo ≤ i) && decide (i ≤ hi)
  | _ => false
theorem iswithin (d : PyData) (lo hi : Int) : m_is_within [.dat d, .dat (.int lo), .dat (.int hi)] = .ok (.dat (.bool (within d lo hi))) [.un, .un, .un] := by
  have call : callF m_is_integer (aCons (pE (eP (kVar 0))) aNil) [.dat d, .dat (.int lo), .dat (.int hi)] = .ok (.dat (.bool (isI d))) [.dat d, .dat (.int lo), .dat (.int hi)] := e_callD [d] (e_acD rfl e_acN) (isint d)
  have key : kAnd (rP' (callF m_is_integer (aCons (pE (eP (kVar 0))) aNil))) (kChain leD leD (kVar 1) (kVar 0) (kVar 2)) [.dat d, .dat (.int lo), .dat (.int hi)] = .ok (.bool (within d lo hi)) [.dat d, .dat (.int lo), .dat (.int hi)] := by
    cases d with
    | int i => exact e_and1 (e_map call) (e_chain (f1 := kVar 1) (f2 := kVar 0) (f3 := kVar 2) rfl rfl rfl rfl (le_int _ _) (fun _ => rfl) (fun _ => rfl) fun _ => le_int _ _)
    | none => exact e_and0 (e_map call)
    | bool _ => exact e_and0 (e_map call)
    | str _ => exact e_and0 (e_map call)
    | list _ => exact e_and0 (e_map call)
    | tuple _ => exact e_and0 (e_map call)
    | dict _ => exact e_and0 (e_map call)
  exact e_fnR (e_ret key) rfl
def idx (d : PyData) (many : Int) : Bool := within d 0 (many - 1)
theorem isindex (d : PyData) (many : Int) : m_is_index [.dat d, .dat (.int many)] = .ok (.dat (.bool (idx d many))) [.un, .un] := by
  have call : callF m_is_within (aCons (pE (eP (kVar 0))) (aCons (pE (kConst (.int 0))) (aCons (pE (op2 subD (kVar 1) (pE (kConst (.int 1))))) aNil))) [.dat d, .dat (.int many)] = .ok (.dat (.bool (idx d many))) [.dat d, .dat (.int many)] :=
    e_callD [d, .int 0, .int (many - 1)] (e_acD rfl (e_acD rfl (e_acD rfl e_acN))) (iswithin d 0 (many - 1))
  exact e_fnR (e_retR call) rfl
/-- a row of things below many -/
def row (d : PyData) (many most : Int) : Bool := match d with
  | .tuple xs => decide ((xs.length : Int) ≤ most) && xs.all fun x => idx x many
  | _ => false
theorem isrow {d : PyData} (many most : Int) (hs : ∀ xs, d = .tuple xs → xs.length ≤ 16777216) : m_is_row_of [.dat d, .dat (.int many), .dat (.int most)] = .ok (.dat (.bool (row d many most))) [.un, .un, .un] := by
  have no : isaB "tuple" d = false → row d many most = false → m_is_row_of [.dat d, .dat (.int many), .dat (.int most)] = .ok (.dat (.bool (row d many most))) [.un, .un, .un] := fun h1 h2 => by
    rw [h2]
    refine e_fnR (e_ret (e_and0 (ε1 := [.dat d, .dat (.int many), .dat (.int most), .un]) ?_)) rfl
    rw [← h1]
    exact e_isa (f := kVar 0) rfl rfl
  cases d with
  | tuple xs =>
    have comp : nLc (wItems (eP (kVar 0))) [3] (gSet 3) jYes (rP' (callF m_is_index (aCons (pE (eP (kVar 3))) (aCons (pE (eP (kVar 1))) aNil)))) [.dat (.tuple xs), .dat (.int many), .dat (.int most), .un] = .ok (keepF (fun _ => true) (fun x => .bool (idx x many)) xs) [.dat (.tuple xs), .dat (.int many), .dat (.int most), .un] := by
      refine e_lc rfl (hs xs rfl) rfl fun x _ => ⟨_, _, rfl, rfl, fun _ => ⟨[.dat (.tuple xs), .dat (.int many), .dat (.int most), .dat x], ?_, rfl⟩, fun h => nomatch h⟩
      exact e_map (e_callD [x, .int many] (e_acD rfl (e_acD rfl e_acN)) (isindex x many))
    rw [keepF_all] at comp
    refine e_fnR (e_ret (e_and1 (ε1 := [.dat (.tuple xs), .dat (.int many), .dat (.int most), .un]) rfl (e_andB (e_op2 (e_map rfl) (f2 := kVar 2) rfl rfl rfl (le_int _ _)) fun _ => ?_))) rfl
    exact e_call (e_acons (e_map (e_map comp)) e_anil) rfl (all_ok _ _)
  | none => exact no rfl rfl
  | bool _ => exact no rfl rfl
  | int _ => exact no rfl rfl
  | str _ => exact no rfl rfl
  | list _ => exact no rfl rfl
  | dict _ => exact no rfl rfl

/-! ### what the law asks of rows -/
def below (d : PyData) (many : Int) : Bool := match d with
  | .tuple xs => xs.all fun x => idx x many
  | _ => false
theorem nonint_idx {x : PyData} {many : Int} (h : isI x = false) : idx x many = false := by cases x <;> first | rfl | cases h
theorem isbelow {d : PyData} (many : Int) (hs : ∀ xs, d = .tuple xs → xs.length ≤ 16777216) : m__law_are_below [.dat d, .dat (.int many)] = .ok (.dat (.bool (below d many))) [.un, .un] := by
  have no : isaB "tuple" d = false → below d many = false → m__law_are_below [.dat d, .dat (.int many)] = .ok (.dat (.bool (below d many))) [.un, .un] := fun h1 h2 => by
    rw [h2]
    refine e_fnR (e_ret (e_and0 (ε1 := [.dat d, .dat (.int many), .un]) ?_)) rfl
    rw [← h1]
    exact e_isa (f := kVar 0) rfl rfl
  cases d with
  | tuple xs =>
    have comp : nLc (wItems (eP (kVar 0))) [2] (gSet 2) (jOr (jNot (vB (rP' (callF m__law_is_int (aCons (pE (eP (kVar 2))) aNil))))) (jNot (vB (kChain leD ltD (pE (kConst (.int 0))) (kVar 2) (kVar 1))))) (kConst (.int 1)) [.dat (.tuple xs), .dat (.int many), .un] = .ok (keepF (fun x => !idx x many) (fun _ => .int 1) xs) [.dat (.tuple xs), .dat (.int many), .un] := by
      refine e_lc rfl (hs xs rfl) rfl fun x _ => ⟨[.dat (.tuple xs), .dat (.int many), .dat x], [.dat (.tuple xs), .dat (.int many), .dat x], rfl, ?_, fun _ => ⟨_, rfl, rfl⟩, fun _ => rfl⟩
      have hc : vB (rP' (callF m__law_is_int (aCons (pE (eP (kVar 2))) aNil))) [.dat (.tuple xs), .dat (.int many), .dat x] = .ok (isI x) [.dat (.tuple xs), .dat (.int many), .dat x] := e_toB (e_map (e_callD [x] (e_acD rfl e_acN) (isint' x)))
      cases hx : isI x with
      | false =>
        rw [nonint_idx hx]
        rw [hx] at hc
        exact e_jor1 (e_jnot hc)
      | true =>
        cases x with
        | int i =>
          have e : idx (.int i) many = (decide (0 ≤ i) && decide (i < many)) := by
            show (decide (0 ≤ i) && decide (i ≤ many - 1)) = _
            congr 1
            exact decide_eq_decide.mpr ⟨fun h => by omega, fun h => by omega⟩
          rw [e]
          exact e_jor0 (e_jnot hc) (e_jnot (e_toB (e_chain (f2 := kVar 2) (f3 := kVar 1) (e_map rfl) rfl rfl rfl (le_int _ _) (fun _ => rfl) (fun _ => rfl) fun _ => lt_int _ _)))
        | _ => cases hx
    have nk := none_kept (fun x => !idx x many) xs
    simp only [Bool.not_not] at nk
    exact e_fnR (e_ret (e_and1 (ε1 := [.dat (.tuple xs), .dat (.int many), .un]) rfl (e_op2 (e_map (e_map comp)) (e_map rfl) rfl rfl nk))) rfl
  | none => exact no rfl rfl
  | bool _ => exact no rfl rfl
  | int _ => exact no rfl rfl
  | str _ => exact no rfl rfl
  | list _ => exact no rfl rfl
  | dict _ => exact no rfl rfl
theorem row_below {d : PyData} {many most : Int} : row d many most = (below d many && (match d with | .tuple xs => decide ((xs.length : Int) ≤ most) | _ => false)) := by
  cases d with
  | tuple xs => exact Bool.and_comm _ _
  | _ => rfl
theorem idx_key {x : PyData} {many : Int} (h : idx x many = true) : ∃ i : Int, x = .int i := by cases x <;> first | exact ⟨_, rfl⟩ | cases h
theorem below_keys {xs : List PyData} {many : Int} (h : (xs.all fun x => idx x many) = true) : ∃ kl : List Key, xs = kl.map kD ∧ (∀ k ∈ kl, ∃ i, k = .inl i) ∧ allInt xs = true := by
  induction xs with
  | nil => exact ⟨[], rfl, (fun _ h => nomatch h), rfl⟩
  | cons x r ih =>
    rw [List.all_cons, Bool.and_eq_true] at h
    obtain ⟨i, rfl⟩ := idx_key h.1
    obtain ⟨kl, h1, h2, h3⟩ := ih h.2
    refine ⟨.inl i :: kl, by rw [List.map_cons, ← h1]; rfl, fun k hk => ?_, h3⟩
    rcases List.mem_cons.mp hk with rfl | hk
    · exact ⟨i, rfl⟩
    · exact h2 k hk
/-- the row is what its own things are, in order, each once -/
def lotB (kl : List Key) : Bool := PyData.eqvAll (kl.map kD) (sortD ((dedK [] kl).map kD))
theorem allInt_keys {ks : List Key} (h : ∀ k ∈ ks, ∃ i, k = .inl i) : allInt (ks.map kD) = true := by
  unfold allInt
  rw [List.all_map, List.all_eq_true]
  intro k hk
  obtain ⟨i, rfl⟩ := h k hk
  rfl
theorem allInt_sort {xs : List PyData} (h : allInt xs = true) : allInt (sortD xs) = true := by
  unfold allInt at h ⊢
  rw [List.all_eq_true] at h ⊢
  exact fun d hd => h d ((sortD_perm xs).mem_iff.mp hd)
theorem ded_ints {kl : List Key} (h : ∀ k ∈ kl, ∃ i, k = .inl i) : ∀ k ∈ dedK [] kl, ∃ i, k = .inl i := fun k hk => by
  rcases (dedK_mem kl []).mp hk with z | z
  · cases z
  · exact h k z
theorem islot {d : PyData} (many : Int) (hs : ∀ xs, d = .tuple xs → xs.length ≤ 4000) : ∃ b, m_is_lot [.dat d, .dat (.int many)] = .ok (.dat (.bool b)) [.un, .un] ∧ (row d many many = false → b = false) ∧ ∀ kl, d = .tuple (kl.map kD) → row d many many = true → b = lotB kl := by
  have call : callF m_is_row_of (aCons (pE (eP (kVar 0))) (aCons (pE (eP (kVar 1))) (aCons (pE (eP (kVar 1))) aNil))) [.dat d, .dat (.int many), .un] = .ok (.dat (.bool (row d many many))) [.dat d, .dat (.int many), .un] :=
    e_callD [d, .int many, .int many] (e_acD rfl (e_acD rfl (e_acD rfl e_acN))) (isrow many many fun xs h => Nat.le_trans (hs xs h) (by decide))
  cases hr : row d many many with
  | false =>
    rw [hr] at call
    exact ⟨false, e_fnR (e_ret (e_and0 (e_map call))) rfl, fun _ => rfl, fun _ _ h => nomatch h⟩
  | true =>
    rw [hr] at call
    cases d with
    | tuple xs =>
      have hb : (xs.all fun x => idx x many) = true := by
        have hr : (decide ((xs.length : Int) ≤ many) && xs.all fun x => idx x many) = true := hr
        rw [Bool.and_eq_true] at hr
        exact hr.2
      obtain ⟨kl, rfl, h2, h3⟩ := below_keys hb
      have hlen : kl.length ≤ 4000 := by have := hs _ rfl; rwa [List.length_map] at this
      have hded : (dedK [] kl).length ≤ 16777216 := by
        have := dedK_length kl []
        simp only [List.length_nil] at this
        omega
      obtain ⟨es, dc, hes⟩ := e_dc (it := wItems (eP (kVar 0))) (vs := [2]) (g := gSet 2) (c := jYes) (fk := eP (kVar 2)) (fv := kConst (.bool true)) (kl := kl) (ε := [.dat (.tuple (kl.map kD)), .dat (.int many), .un]) rfl (by omega) rfl
        fun k _ => ⟨[.dat (.tuple (kl.map kD)), .dat (.int many), .dat (kD k)], _, _, _, .bool true, rfl, rfl, rfl, rfl, rfl⟩
      have hsort : sortN [.dict es] = some (sortD ((dedK [] kl).map kD)) := sortN_ok (by rw [← hes]; rfl) (sortOk_int (ded_ints h2) hded)
      refine ⟨lotB kl, e_fnR (e_ret (e_and1 (e_map call) (e_op2 (e_map (e_map (e_ncall (e_acons (f := kVar 0) rfl e_anil) rfl rfl))) (e_map (e_map (e_ncall (e_acons (e_map dc) e_anil) rfl hsort))) rfl rfl (eq_ints h3 (allInt_sort (allInt_keys (ded_ints h2))))))) rfl, (fun h => nomatch h), fun kl' he _ => ?_⟩
      have e : kl.map kD = kl'.map kD := PyData.tuple.inj he
      have : kl = kl' := by
        have := congrArg keysOf e
        rw [keysOf_kD, keysOf_kD] at this
        exact Option.some.inj this
      rw [this]
    | none => cases hr
    | bool _ => cases hr
    | int _ => cases hr
    | str _ => cases hr
    | list _ => cases hr
    | dict _ => cases hr

/-- the row is 0, 1, .. in some order -/
def ordB (kl : List Key) (many : Int) : Bool := PyData.eqvAll (sortD (kl.map kD)) (rangeD 0 many.toNat)
theorem allInt_range (lo : Int) (n : Nat) : allInt (rangeD lo n) = true := by
  unfold allInt rangeD
  rw [List.all_map, List.all_eq_true]
  intro k _
  rfl
theorem rgOk_small {many : Int} (h0 : 0 ≤ many) (h1 : many ≤ 1000) : rgOk 0 many = true := by
  unfold rgOk
  simp only [Bool.and_eq_true, decide_eq_true_eq]
  omega
theorem isorder {d : PyData} {many : Int} (h0 : 0 ≤ many) (h1 : many ≤ 1000) (hs : ∀ xs, d = .tuple xs → xs.length ≤ 4000) : ∃ b, m_is_order [.dat d, .dat (.int many)] = .ok (.dat (.bool b)) [.un, .un] ∧ (below d many = false → b = false) ∧ ∀ kl, d = .tuple (kl.map kD) → below d many = true → b = ordB kl many := by
  have call : callF m_is_row_of (aCons (pE (eP (kVar 0))) (aCons (pE (eP (kVar 1))) (aCons (pE (eP (kVar 1))) aNil))) [.dat d, .dat (.int many)] = .ok (.dat (.bool (row d many many))) [.dat d, .dat (.int many)] :=
    e_callD [d, .int many, .int many] (e_acD rfl (e_acD rfl (e_acD rfl e_acN))) (isrow many many fun xs h => Nat.le_trans (hs xs h) (by decide))
  -- a row that is in order has many things
  have len_of : ∀ kl : List Key, ordB kl many = true → (kl.length : Int) = many := fun kl h => by
    have := eqv_length h
    rw [sortD_length, List.length_map] at this
    unfold rangeD at this
    rw [List.length_map, List.length_range] at this
    omega
  cases hr : row d many many with
  | false =>
    rw [hr] at call
    refine ⟨false, e_fnR (e_ret (e_and0 (e_map call))) rfl, fun _ => rfl, fun kl hd hb => ?_⟩
    subst hd
    cases ho : ordB kl many with
    | false => rfl
    | true =>
      have e := len_of kl ho
      rw [row_below, hb] at hr
      have : decide (((kl.map kD).length : Int) ≤ many) = false := by simpa using hr
      rw [List.length_map, decide_eq_false_iff_not] at this
      omega
  | true =>
    rw [hr] at call
    cases d with
    | tuple xs =>
      have hb : (xs.all fun x => idx x many) = true := by
        have hr : (decide ((xs.length : Int) ≤ many) && xs.all fun x => idx x many) = true := hr
        rw [Bool.and_eq_true] at hr
        exact hr.2
      obtain ⟨kl, rfl, h2, h3⟩ := below_keys hb
      have hlen : kl.length ≤ 4000 := by have := hs _ rfl; rwa [List.length_map] at this
      have hsort : sortN [.tuple (kl.map kD)] = some (sortD (kl.map kD)) := sortN_ok rfl (sortOk_int h2 (by omega))
      have hE : op2 eqD (pE (nD (nCall sortN (aCons (kVar 0) aNil)))) (pE (nD (nRg1 (eP (kVar 1))))) [.dat (.tuple (kl.map kD)), .dat (.int many)] = .ok (.bool (ordB kl many)) [.dat (.tuple (kl.map kD)), .dat (.int many)] := by
        refine e_op2 (e_map (e_map (e_ncall (e_acons (f := kVar 0) rfl e_anil) rfl hsort))) (e_map (e_map ?_)) rfl rfl (eq_ints (allInt_sort h3) (allInt_range 0 many.toNat))
        show (if rgOk 0 many = true then Out.ok (rangeD 0 many.toNat) _ else .stuck) = _
        rw [if_pos (rgOk_small h0 h1)]
      have hL : op2 eqD (pE (kCall lenD (aCons (kVar 0) aNil))) (kVar 1) [.dat (.tuple (kl.map kD)), .dat (.int many)] = .ok (.bool (((kl.map kD).length : Int) == many)) [.dat (.tuple (kl.map kD)), .dat (.int many)] := rfl
      refine ⟨_, e_fnR (e_ret (e_and1 (e_map call) (e_andB hL fun _ => hE))) rfl, fun h => ?_, fun kl' he _ => ?_⟩
      · have : below (.tuple (kl.map kD)) many = true := hb
        rw [this] at h
        cases h
      · have e : kl.map kD = kl'.map kD := PyData.tuple.inj he
        have e2 : kl = kl' := by
          have := congrArg keysOf e
          rw [keysOf_kD, keysOf_kD] at this
          exact Option.some.inj this
        subst e2
        cases ho : ordB kl many with
        | false => exact Bool.and_false _
        | true =>
          rw [List.length_map, len_of kl ho, Bool.and_true]
          exact beq_self_eq_true many
    | none => cases hr
    | bool _ => cases hr
    | int _ => cases hr
    | str _ => cases hr
    | list _ => cases hr
    | dict _ => cases hr
/-- a couple: one below many, one below other -/
def coup (d : PyData) (many other : Int) : Bool := match d with
  | .tuple [x, y] => idx x many && idx y other
  | _ => false
theorem iscouple (d : PyData) (many other : Int) : m_is_couple [.dat d, .dat (.int many), .dat (.int other)] = .ok (.dat (.bool (coup d many other))) [.un, .un, .un] := by
  have no : isaB "tuple" d = false → coup d many other = false → m_is_couple [.dat d, .dat (.int many), .dat (.int other)] = .ok (.dat (.bool (coup d many other))) [.un, .un, .un] := fun h1 h2 => by
    rw [h2]
    refine e_fnR (e_ret (e_and0 (ε1 := [.dat d, .dat (.int many), .dat (.int other)]) ?_)) rfl
    rw [← h1]
    exact e_isa (f := kVar 0) rfl rfl
  cases d with
  | tuple xs =>
    have hL : op2 eqD (pE (kCall lenD (aCons (kVar 0) aNil))) (pE (kConst (.int 2))) [.dat (.tuple xs), .dat (.int many), .dat (.int other)] = .ok (.bool ((xs.length : Int) == 2)) [.dat (.tuple xs), .dat (.int many), .dat (.int other)] := rfl
    by_cases h2 : xs.length = 2
    · match xs, h2 with
      | [x, y], _ =>
        have c1 : callF m_is_index (aCons (pE (op2 ixD (kVar 0) (pE (kConst (.int 0))))) (aCons (pE (eP (kVar 1))) aNil)) [.dat (.tuple [x, y]), .dat (.int many), .dat (.int other)] = .ok (.dat (.bool (idx x many))) [.dat (.tuple [x, y]), .dat (.int many), .dat (.int other)] := e_callD [x, .int many] (e_acD rfl (e_acD rfl e_acN)) (isindex x many)
        have c2 : callF m_is_index (aCons (pE (op2 ixD (kVar 0) (pE (kConst (.int 1))))) (aCons (pE (eP (kVar 2))) aNil)) [.dat (.tuple [x, y]), .dat (.int many), .dat (.int other)] = .ok (.dat (.bool (idx y other))) [.dat (.tuple [x, y]), .dat (.int many), .dat (.int other)] := e_callD [y, .int other] (e_acD rfl (e_acD rfl e_acN)) (isindex y other)
        exact e_fnR (e_ret (e_and1 (ε1 := [.dat (.tuple [x, y]), .dat (.int many), .dat (.int other)]) rfl (e_and1 (ε1 := [.dat (.tuple [x, y]), .dat (.int many), .dat (.int other)]) rfl (e_andB (e_map c1) fun _ => e_map c2)))) rfl
    · have e : coup (.tuple xs) many other = false := by
        unfold coup
        split
        · rename_i x y hd
          cases hd
          exact absurd rfl h2
        · rfl
      rw [e]
      rw [beq_eq_false_iff_ne.mpr (fun z => h2 (by omega))] at hL
      exact e_fnR (e_ret (e_and1 (ε1 := [.dat (.tuple xs), .dat (.int many), .dat (.int other)]) rfl (e_and0 hL))) rfl
  | none => exact no rfl rfl
  | bool _ => exact no rfl rfl
  | int _ => exact no rfl rfl
  | str _ => exact no rfl rfl
  | list _ => exact no rfl rfl
  | dict _ => exact no rfl rfl
end K01
/-! K01q: the plain law of k01: names -/
namespace K01
open PySem PySem.Spec PyProof.Rows L2 DL
def letB (d : PyData) : Bool := match inD d c_LETTERS with
  | some (.bool b) => b
  | _ => false
theorem let_in {z : Str} {d : PyData} (h : d ∈ DL.signs z) : inD d c_LETTERS = some (.bool (letB d)) ∧ notInD d c_LETTERS = some (.bool (!letB d)) := by
  unfold DL.signs at h
  obtain ⟨c, _, rfl⟩ := List.mem_map.mp h
  exact ⟨rfl, rfl⟩
theorem signs_length (z : Str) : (DL.signs z).length = z.length := by
  unfold DL.signs
  rw [List.length_map]
  rfl
def resB (z : Str) : Bool := ([.str "book", .str "mark", .str "names", .str "net", .str "none", .str "pick", .str "things", .str "tie"] : List PyData).any fun y => PyData.eqv y (.str z)
theorem res_in (z : Str) : inD (.str z) c_RESERVED = some (.bool (resB z)) := rfl
/-- a name -/
def nameB (d : PyData) : Bool := match d with
  | .str z => (decide ((1 : Int) ≤ z.length) && decide ((z.length : Int) ≤ 8)) && !resB z && (DL.signs z).all letB
  | _ => false
theorem len_str {z : Str} (h : z.length ≤ 16777216) : lenD [.str z] = some (.int z.length) := if_pos h
theorem isname {d : PyData} (hs : ∀ z, d = .str z → z.length ≤ 16777216) : m_is_name [.dat d] = .ok (.dat (.bool (nameB d))) [.un] := by
  have no : isaB "str" d = false → nameB d = false → m_is_name [.dat d] = .ok (.dat (.bool (nameB d))) [.un] := fun h1 h2 => by
    rw [h2]
    refine e_fnR (e_seqR (e_if1 (ε1 := [.dat d, .un]) (e_jor1 (e_jnot (b := false) (e_toB ?_))) rfl)) rfl
    rw [← h1]
    exact e_isa (f := kVar 0) rfl rfl
  cases d with
  | str z =>
    have hz := hs z rfl
    have hl : kCall lenD (aCons (kVar 0) aNil) [.dat (.str z), .un] = .ok (.int z.length) [.dat (.str z), .un] := e_call (e_acons (f := kVar 0) rfl e_anil) rfl (len_str hz)
    have hch : vB (kChain leD leD (pE (kConst (.int 1))) (pE (kCall lenD (aCons (kVar 0) aNil))) (pE (kConst c_MOST_NAME))) [.dat (.str z), .un] = .ok (decide ((1 : Int) ≤ z.length) && decide ((z.length : Int) ≤ 8)) [.dat (.str z), .un] :=
      e_toB (e_chain (e_map rfl) (e_map hl) rfl rfl (le_int _ _) (fun _ => e_map rfl) (fun _ => rfl) fun _ => le_int _ _)
    have hre : vB (op2 inD (kVar 0) (pE (kConst c_RESERVED))) [.dat (.str z), .un] = .ok (resB z) [.dat (.str z), .un] := e_toB (e_op2 (f1 := kVar 0) rfl (e_map rfl) rfl rfl (res_in z))
    have hstr : vB (kIsa "str" (kVar 0)) [.dat (.str z), .un] = .ok true [.dat (.str z), .un] := rfl
    have comp : nLc (wItems (eP (kVar 0))) [1] (gSet 1) jYes (op2 inD (kVar 1) (pE (kConst c_LETTERS))) [.dat (.str z), .un] = .ok (keepF (fun _ => true) (fun d => .bool (letB d)) (DL.signs z)) [.dat (.str z), .un] :=
      e_lc rfl (by rw [signs_length]; exact hz) rfl fun x hx => ⟨_, _, rfl, rfl, fun _ => ⟨[.dat (.str z), .dat x], e_op2 (f1 := kVar 1) rfl (e_map rfl) rfl rfl (let_in hx).1, rfl⟩, fun h => nomatch h⟩
    rw [keepF_all] at comp
    have hall : sRet (kCall allD (aCons (pE (nD (nLc (wItems (eP (kVar 0))) [1] (gSet 1) jYes (op2 inD (kVar 1) (pE (kConst c_LETTERS)))))) aNil)) [.dat (.str z), .un] = .rt (.dat (.bool ((DL.signs z).all letB))) [.dat (.str z), .un] :=
      e_ret (e_call (e_acons (e_map (e_map comp)) e_anil) rfl (all_ok _ _))
    unfold nameB
    dsimp only
    cases hb : (decide ((1 : Int) ≤ z.length) && decide ((z.length : Int) ≤ 8)) with
    | false =>
      rw [hb] at hch
      exact e_fnR (e_seqR (e_if1 (ε1 := [.dat (.str z), .un]) (e_jor0 (e_jnot hstr) (e_jor1 (e_jnot hch))) rfl)) rfl
    | true =>
      rw [hb] at hch
      cases hr : resB z with
      | true =>
        rw [hr] at hre
        exact e_fnR (e_seqR (e_if1 (ε1 := [.dat (.str z), .un]) (e_jor0 (e_jnot hstr) (e_jor0 (e_jnot hch) hre)) rfl)) rfl
      | false =>
        rw [hr] at hre
        exact e_fnR (e_seq (e_if0 (ε1 := [.dat (.str z), .un]) (e_jor0 (e_jnot hstr) (e_jor0 (e_jnot hch) hre)) rfl) hall) rfl
  | none => exact no rfl rfl
  | bool _ => exact no rfl rfl
  | int _ => exact no rfl rfl
  | tuple _ => exact no rfl rfl
  | list _ => exact no rfl rfl
  | dict _ => exact no rfl rfl
theorem isnamed {d : PyData} (hs : ∀ z, d = .str z → z.length ≤ 16777216) : m__law_named [.dat d] = .ok (.dat (.bool (nameB d))) [.un] := by
  have no : isaB "str" d = false → nameB d = false → m__law_named [.dat d] = .ok (.dat (.bool (nameB d))) [.un] := fun h1 h2 => by
    rw [h2]
    refine e_fnR (e_seqR (e_if1 (ε1 := [.dat d, .un]) (e_jor1 (e_jnot (b := false) (e_toB ?_))) rfl)) rfl
    rw [← h1]
    exact e_isa (f := kVar 0) rfl rfl
  cases d with
  | str z =>
    have hz := hs z rfl
    have hl : kCall lenD (aCons (kVar 0) aNil) [.dat (.str z), .un] = .ok (.int z.length) [.dat (.str z), .un] := e_call (e_acons (f := kVar 0) rfl e_anil) rfl (len_str hz)
    have hch : vB (kChain leD leD (pE (kConst (.int 1))) (pE (kCall lenD (aCons (kVar 0) aNil))) (pE (kConst (.int 8)))) [.dat (.str z), .un] = .ok (decide ((1 : Int) ≤ z.length) && decide ((z.length : Int) ≤ 8)) [.dat (.str z), .un] :=
      e_toB (e_chain (e_map rfl) (e_map hl) rfl rfl (le_int _ _) (fun _ => e_map rfl) (fun _ => rfl) fun _ => le_int _ _)
    have hre : vB (op2 inD (kVar 0) (pE (kTup (aCons (pE (kConst (.str "book"))) (aCons (pE (kConst (.str "mark"))) (aCons (pE (kConst (.str "names"))) (aCons (pE (kConst (.str "net"))) (aCons (pE (kConst (.str "none"))) (aCons (pE (kConst (.str "pick"))) (aCons (pE (kConst (.str "things"))) (aCons (pE (kConst (.str "tie"))) aNil))))))))))) [.dat (.str z), .un] = .ok (resB z) [.dat (.str z), .un] := e_toB (e_op2 (f1 := kVar 0) rfl (e_map rfl) rfl rfl (res_in z))
    have hstr : vB (kIsa "str" (kVar 0)) [.dat (.str z), .un] = .ok true [.dat (.str z), .un] := rfl
    have comp : nLc (wItems (eP (kVar 0))) [1] (gSet 1) (vB (op2 notInD (kVar 1) (pE (kConst (.str "abcdefghijklmnopqrstuvwxyz"))))) (kConst (.int 1)) [.dat (.str z), .un] = .ok (keepF (fun d => !letB d) (fun _ => .int 1) (DL.signs z)) [.dat (.str z), .un] :=
      e_lc rfl (by rw [signs_length]; exact hz) rfl fun x hx => ⟨[.dat (.str z), .dat x], [.dat (.str z), .dat x], rfl, e_toB (e_op2 (f1 := kVar 1) rfl (e_map rfl) rfl rfl (let_in hx).2), fun _ => ⟨_, rfl, rfl⟩, fun _ => rfl⟩
    have nk := none_kept (fun d => !letB d) (DL.signs z)
    simp only [Bool.not_not] at nk
    have hall : sRet (op2 eqD (pE (nD (nLc (wItems (eP (kVar 0))) [1] (gSet 1) (vB (op2 notInD (kVar 1) (pE (kConst (.str "abcdefghijklmnopqrstuvwxyz"))))) (kConst (.int 1))))) (pE (nD (nLst aNil)))) [.dat (.str z), .un] = .rt (.dat (.bool ((DL.signs z).all letB))) [.dat (.str z), .un] :=
      e_ret (e_op2 (e_map (e_map comp)) (e_map rfl) rfl rfl nk)
    unfold nameB
    dsimp only
    cases hb : (decide ((1 : Int) ≤ z.length) && decide ((z.length : Int) ≤ 8)) with
    | false =>
      rw [hb] at hch
      exact e_fnR (e_seqR (e_if1 (ε1 := [.dat (.str z), .un]) (e_jor0 (e_jnot hstr) (e_jor1 (e_jnot hch))) rfl)) rfl
    | true =>
      rw [hb] at hch
      cases hr : resB z with
      | true =>
        rw [hr] at hre
        exact e_fnR (e_seqR (e_if1 (ε1 := [.dat (.str z), .un]) (e_jor0 (e_jnot hstr) (e_jor0 (e_jnot hch) hre)) rfl)) rfl
      | false =>
        rw [hr] at hre
        exact e_fnR (e_seq (e_if0 (ε1 := [.dat (.str z), .un]) (e_jor0 (e_jnot hstr) (e_jor0 (e_jnot hch) hre)) rfl) hall) rfl
  | none => exact no rfl rfl
  | bool _ => exact no rfl rfl
  | int _ => exact no rfl rfl
  | tuple _ => exact no rfl rfl
  | list _ => exact no rfl rfl
  | dict _ => exact no rfl rfl
end K01
/-! K01r: the plain law of k01: rows of names -/
namespace K01
open PySem PySem.Spec PyProof.Rows L2 DL
/-! ### no key twice -/
def noRep : List Key → List Key → Bool
  | _, [] => true
  | acc, k :: r => !decide (k ∈ acc) && noRep (acc ++ [k]) r
theorem ded_len : ∀ (kl acc : List Key), decide ((dedK acc kl).length = acc.length + kl.length) = noRep acc kl
  | [], acc => decide_eq_true rfl
  | k :: r, acc => by
    show decide ((dedK (addK acc k) r).length = acc.length + (r.length + 1)) = (!decide (k ∈ acc) && noRep (acc ++ [k]) r)
    unfold addK
    by_cases hk : k ∈ acc
    · rw [if_pos hk, decide_eq_true hk]
      have := dedK_length r acc
      exact decide_eq_false (by omega)
    · rw [if_neg hk, decide_eq_false hk]
      have ih := ded_len r (acc ++ [k])
      rw [← ih, List.length_append, List.length_singleton]
      show decide _ = (true && decide _)
      rw [Bool.true_and]
      exact decide_eq_decide.mpr (by omega)
/-- no name stands ahead of itself -/
def aheadB (xs : List PyData) (i : Nat) : Bool := match xs[i]? with
  | some x => (xs.take i).any fun y => PyData.eqv y x
  | none => false
theorem noRep_ahead : ∀ (kl acc : List Key), noRep acc kl = (List.range kl.length).all fun i => !(match kl[i]? with
    | some k => decide (k ∈ acc ++ kl.take i)
    | none => false)
  | [], acc => rfl
  | k :: r, acc => by
    show (!decide (k ∈ acc) && noRep (acc ++ [k]) r) = _
    rw [List.length_cons, List.range_succ_eq_map, List.all_cons, noRep_ahead r (acc ++ [k]), List.all_map]
    congr 1
    · simp
    · congr 1
      funext i
      show (!(match r[i]? with | some x => decide (x ∈ acc ++ [k] ++ r.take i) | none => false)) = !(match (k :: r)[i + 1]? with | some x => decide (x ∈ acc ++ (k :: r).take (i + 1)) | none => false)
      rw [List.getElem?_cons_succ, List.take_succ_cons, List.append_assoc]
      rfl
theorem eqv_key (k k' : Key) : PyData.eqv (kD k) (kD k') = decide (k = k') := by
  cases k with
  | inl i => cases k' with
    | inl j =>
      show (i == j) = _
      by_cases h : i = j
      · subst h; simp
      · rw [beq_eq_false_iff_ne.mpr h, decide_eq_false (fun z => h (Sum.inl.inj z))]
    | inr y => exact (decide_eq_false (fun z => nomatch z)).symm
  | inr x => cases k' with
    | inl j => exact (decide_eq_false (fun z => nomatch z)).symm
    | inr y =>
      show (x == y) = _
      by_cases h : x = y
      · subst h; simp
      · rw [beq_eq_false_iff_ne.mpr h, decide_eq_false (fun z => h (Sum.inr.inj z))]
theorem any_eqv (k : Key) : ∀ kl : List Key, (kl.map kD).any (fun y => PyData.eqv y (kD k)) = decide (k ∈ kl)
  | [] => by simp
  | x :: r => by
    rw [List.map_cons, List.any_cons, any_eqv k r, eqv_key]
    by_cases hx : x = k
    · subst hx; simp
    · rw [decide_eq_false hx, Bool.false_or]
      by_cases hk : k ∈ r
      · rw [decide_eq_true hk, decide_eq_true (List.mem_cons_of_mem _ hk)]
      · rw [decide_eq_false hk, decide_eq_false (fun z => (List.mem_cons.mp z).elim (fun q => hx q.symm) hk)]
theorem ahead_key (kl : List Key) (i : Nat) : aheadB (kl.map kD) i = (match kl[i]? with
    | some k => decide (k ∈ ([] : List Key) ++ kl.take i)
    | none => false) := by
  unfold aheadB
  rw [List.getElem?_map]
  cases h : kl[i]? with
  | none => rfl
  | some k =>
    show (List.take i (kl.map kD)).any _ = _
    rw [← List.map_take, any_eqv]
    rfl
/-- all the same: how many keys, none ahead of itself -/
theorem reps (kl : List Key) : decide ((dedK [] kl).length = kl.length) = (List.range kl.length).all fun i => !aheadB (kl.map kD) i := by
  have h := ded_len kl []
  rw [List.length_nil, Nat.zero_add] at h
  rw [h, noRep_ahead]
  congr 1
  funext i
  rw [ahead_key]
/-! ### rows of names -/
theorem name_key {x : PyData} (h : nameB x = true) : ∃ z : Str, x = .str z := by cases x <;> first | exact ⟨_, rfl⟩ | cases h
theorem names_keys {xs : List PyData} (h : (xs.all nameB) = true) : ∃ kl : List Key, xs = kl.map kD ∧ ∀ k ∈ kl, ∃ z, k = .inr z := by
  induction xs with
  | nil => exact ⟨[], rfl, (fun _ h => nomatch h)⟩
  | cons x r ih =>
    rw [List.all_cons, Bool.and_eq_true] at h
    obtain ⟨z, rfl⟩ := name_key h.1
    obtain ⟨kl, h1, h2⟩ := ih h.2
    refine ⟨.inr z :: kl, by rw [List.map_cons, ← h1]; rfl, fun k hk => ?_⟩
    rcases List.mem_cons.mp hk with rfl | hk
    · exact ⟨z, rfl⟩
    · exact h2 k hk
/-- the names of a row are names, none twice -/
def namesB (d : PyData) (lo hi : Int) : Bool := match d with
  | .tuple xs => (decide (lo ≤ (xs.length : Int)) && decide ((xs.length : Int) ≤ hi)) && (xs.all nameB && (List.range xs.length).all fun i => !aheadB xs i)
  | _ => false
theorem arenames {d : PyData} (lo hi : Int) (hs : ∀ xs, d = .tuple xs → xs.length ≤ 16777216 ∧ ∀ x ∈ xs, ∀ z, x = .str z → z.length ≤ 16777216) : m_are_names [.dat d, .dat (.int lo), .dat (.int hi)] = .ok (.dat (.bool (namesB d lo hi))) [.un, .un, .un] := by
  have no : isaB "tuple" d = false → namesB d lo hi = false → m_are_names [.dat d, .dat (.int lo), .dat (.int hi)] = .ok (.dat (.bool (namesB d lo hi))) [.un, .un, .un] := fun h1 h2 => by
    rw [h2]
    refine e_fnR (e_seqR (e_if1 (ε1 := [.dat d, .dat (.int lo), .dat (.int hi), .un]) (e_jor1 (e_jnot (b := false) (e_toB ?_))) rfl)) rfl
    rw [← h1]
    exact e_isa (f := kVar 0) rfl rfl
  cases d with
  | tuple xs =>
    obtain ⟨hl, hz⟩ := hs xs rfl
    have hstr : vB (kIsa "tuple" (kVar 0)) [.dat (.tuple xs), .dat (.int lo), .dat (.int hi), .un] = .ok true [.dat (.tuple xs), .dat (.int lo), .dat (.int hi), .un] := rfl
    have hch : vB (kChain leD leD (kVar 1) (pE (kCall lenD (aCons (kVar 0) aNil))) (kVar 2)) [.dat (.tuple xs), .dat (.int lo), .dat (.int hi), .un] = .ok (decide (lo ≤ (xs.length : Int)) && decide ((xs.length : Int) ≤ hi)) [.dat (.tuple xs), .dat (.int lo), .dat (.int hi), .un] :=
      e_toB (e_chain (f1 := kVar 1) (f3 := kVar 2) rfl (e_map rfl) rfl rfl (le_int _ _) (fun _ => rfl) (fun _ => rfl) fun _ => le_int _ _)
    have comp : nLc (wItems (eP (kVar 0))) [3] (gSet 3) jYes (rP' (callF m_is_name (aCons (pE (eP (kVar 3))) aNil))) [.dat (.tuple xs), .dat (.int lo), .dat (.int hi), .un] = .ok (keepF (fun _ => true) (fun x => .bool (nameB x)) xs) [.dat (.tuple xs), .dat (.int lo), .dat (.int hi), .un] :=
      e_lc rfl hl rfl fun x hx => ⟨_, _, rfl, rfl, fun _ => ⟨[.dat (.tuple xs), .dat (.int lo), .dat (.int hi), .dat x], e_map (e_callD [x] (e_acD rfl e_acN) (isname (hz x hx))), rfl⟩, fun h => nomatch h⟩
    rw [keepF_all] at comp
    have hall : vB (kCall allD (aCons (pE (nD (nLc (wItems (eP (kVar 0))) [3] (gSet 3) jYes (rP' (callF m_is_name (aCons (pE (eP (kVar 3))) aNil)))))) aNil)) [.dat (.tuple xs), .dat (.int lo), .dat (.int hi), .un] = .ok (xs.all nameB) [.dat (.tuple xs), .dat (.int lo), .dat (.int hi), .un] :=
      e_toB (e_call (e_acons (e_map (e_map comp)) e_anil) rfl (all_ok _ _))
    unfold namesB
    dsimp only
    cases hb : (decide (lo ≤ (xs.length : Int)) && decide ((xs.length : Int) ≤ hi)) with
    | false =>
      rw [hb] at hch
      exact e_fnR (e_seqR (e_if1 (ε1 := [.dat (.tuple xs), .dat (.int lo), .dat (.int hi), .un]) (e_jor0 (e_jnot hstr) (e_jor1 (e_jnot hch))) rfl)) rfl
    | true =>
      rw [hb] at hch
      cases hn : xs.all nameB with
      | false =>
        rw [hn] at hall
        exact e_fnR (e_seqR (e_if1 (ε1 := [.dat (.tuple xs), .dat (.int lo), .dat (.int hi), .un]) (e_jor0 (e_jnot hstr) (e_jor0 (e_jnot hch) (e_jnot hall))) rfl)) rfl
      | true =>
        rw [hn] at hall
        obtain ⟨kl, rfl, _⟩ := names_keys hn
        rw [List.length_map] at hl
        obtain ⟨es, dc, hes⟩ := e_dc (it := wItems (eP (kVar 0))) (vs := [3]) (g := gSet 3) (c := jYes) (fk := eP (kVar 3)) (fv := kConst (.bool true)) (kl := kl) (ε := [.dat (.tuple (kl.map kD)), .dat (.int lo), .dat (.int hi), .un]) rfl hl rfl
          fun k _ => ⟨[.dat (.tuple (kl.map kD)), .dat (.int lo), .dat (.int hi), .dat (kD k)], _, _, _, .bool true, rfl, rfl, rfl, rfl, rfl⟩
        have hel : es.length = (dedK [] kl).length := by
          have := congrArg List.length hes
          rwa [List.length_map, List.length_map] at this
        have hE : op2 eqD (pE (kCall lenD (aCons (pE (kDc (wItems (eP (kVar 0))) [3] (gSet 3) jYes (eP (kVar 3)) (kConst (.bool true)))) aNil))) (pE (kCall lenD (aCons (kVar 0) aNil))) [.dat (.tuple (kl.map kD)), .dat (.int lo), .dat (.int hi), .un] = .ok (.bool ((es.length : Int) == ((kl.map kD).length : Int))) [.dat (.tuple (kl.map kD)), .dat (.int lo), .dat (.int hi), .un] :=
          e_op2 (e_map (e_call (e_acons (e_map dc) e_anil) rfl rfl)) (e_map rfl) rfl rfl rfl
        have hB : ((es.length : Int) == ((kl.map kD).length : Int)) = (List.range (kl.map kD).length).all fun i => !aheadB (kl.map kD) i := by
          rw [List.length_map, ← reps kl, hel]
          by_cases h : (dedK [] kl).length = kl.length
          · rw [h]
            simp
          · rw [decide_eq_false h]
            exact beq_eq_false_iff_ne.mpr fun z => h (by omega)
        rw [hB] at hE
        exact e_fnR (e_seq (e_if0 (ε1 := [.dat (.tuple (kl.map kD)), .dat (.int lo), .dat (.int hi), .un]) (e_jor0 (e_jnot hstr) (e_jor0 (e_jnot hch) (e_jnot hall))) rfl) (e_ret hE)) rfl
  | none => exact no rfl rfl
  | bool _ => exact no rfl rfl
  | int _ => exact no rfl rfl
  | str _ => exact no rfl rfl
  | list _ => exact no rfl rfl
  | dict _ => exact no rfl rfl
end K01
/-! K01s: the plain law of k01: what is drawn -/
namespace K01
open PySem PySem.Spec PyProof.Rows L2 DL
def words : List PyData := [.str "a", .str "zz", .str "book", .str "mark", .str "names", .str "net", .str "none", .str "pick", .str "things", .str "tie", .str "thing", .str "name", .str "ties", .str "abcdefgh", .str "abcdefghi", .str "", .str "A", .str "a1", .str "a ", .str "a-b", .none, .int 7, .bool true, .tuple [.str "a"], .list [.str "a"]]
/-- what a word of the law is like -/
def wordOk (d : PyData) : Bool := d.plain && decide (cnt d ≤ 4) && decide (d.depth ≤ 4) && (match d with
  | .str z => decide (z.length ≤ 100)
  | _ => true)
theorem words_ok : ∀ d ∈ words, wordOk d = true := fun d hd => List.all_eq_true.mp (show (words.all wordOk) = true from rfl) d hd
theorem word_ok {B : List PyData} (hB : BagOk B) : ∃ d B', m__law_a_word [.io B] = .ok (.dat d) [.io B'] ∧ BagOk B' ∧ wordOk d = true := by
  obtain ⟨d, B', h1, h2, h3⟩ := some_ok hB (t := .list words) (.inl rfl) (by decide) (by decide)
  have h1' : m__law_some [.io B, .dat (.list words)] = .ok (.dat d) [.io B', .un] := h1
  refine ⟨d, B', ?_, h2, words_ok d h3⟩
  have hargs : aCons (kVar 0) (aCons (pE (eP (kVar 1))) aNil) [.io B, .dat (.list words)] = .ok [.at 0, .dat (.list words)] [.io B, .dat (.list words)] := rfl
  have hcall : callF m__law_some (aCons (kVar 0) (aCons (pE (eP (kVar 1))) aNil)) [.io B, .dat (.list words)] = .ok (.dat d) [.io B', .dat (.list words)] := (e_callF hargs rfl (show ([0] : List Nat).Nodup by decide) h1').trans rfl
  exact e_fnR (ε1 := [.io B', .dat (.list words)]) (e_seq (ε1 := [.io B, .dat (.list (words.take 13))]) rfl (e_seq (ε1 := [.io B, .dat (.list words)]) rfl (e_retR hcall))) rfl
end K01
/-! K01t: the plain law of k01: orders -/
namespace K01
open PySem PySem.Spec PyProof.Rows L2 DL
theorem range_mem {n : Nat} {x : PyData} (h : x ∈ rangeD 0 n) : ∃ i : Int, x = .int i ∧ 0 ≤ i ∧ i < n := by
  unfold rangeD at h
  rw [List.mem_map] at h
  obtain ⟨k, hk, rfl⟩ := h
  rw [List.mem_range] at hk
  exact ⟨_, rfl, by omega, by omega⟩
theorem range_len (n : Nat) : (rangeD 0 n).length = n := by
  unfold rangeD
  rw [List.length_map, List.length_range]
theorem e_range {f : Sl → Out PyData} {ε ε1 : Sl} {many : Int} (p : f ε = .ok (.int many) ε1) (h0 : 0 ≤ many) (h1 : many ≤ 1000) : nRg1 f ε = .ok (rangeD 0 many.toNat) ε1 := by
  unfold nRg1
  rw [p]
  show (if rgOk 0 many = true then Out.ok (rangeD 0 many.toNat) _ else .stuck) = _
  rw [if_pos (rgOk_small h0 h1)]
theorem order_ok {B : List PyData} (hB : BagOk B) {many : Int} (h0 : 0 ≤ many) (h1 : many ≤ 1000) : ∃ ys B', m__law_order [.io B, .dat (.int many)] = .ok (.dat (.tuple ys)) [.io B', .un] ∧ BagOk B' ∧ ys.length = many.toNat ∧ ∀ y ∈ ys, ∃ i : Int, y = .int i := by
  obtain ⟨ys, B', z, hB', h2, h3⟩ := mixed_ok hB (t := .list (rangeD 0 many.toNat)) (.inl rfl) (fun x hx => by obtain ⟨i, rfl, _⟩ := range_mem hx; rfl) (by rw [range_len]; omega)
  have z' : m__law_mixed [.io B, .dat (.list (rangeD 0 many.toNat))] = .ok (.dat (.list ys)) [.io B', .un] := z
  rw [range_len] at h2
  have hargs : aCons (kVar 0) (aCons (pE (nD (nRg1 (eP (kVar 1))))) aNil) [.io B, .dat (.int many)] = .ok [.at 0, .dat (.list (rangeD 0 many.toNat))] [.io B, .dat (.int many)] :=
    e_acons (f := kVar 0) rfl (e_acons (e_map (e_map (e_range rfl h0 h1))) e_anil)
  have hcall : callF m__law_mixed (aCons (kVar 0) (aCons (pE (nD (nRg1 (eP (kVar 1))))) aNil)) [.io B, .dat (.int many)] = .ok (.dat (.list ys)) [.io B', .dat (.int many)] := (e_callF hargs rfl (show ([0] : List Nat).Nodup by decide) z').trans rfl
  refine ⟨ys, B', e_fnR (ε1 := [.io B', .dat (.int many)]) (e_ret (e_call (e_acons (e_map (e_map hcall)) e_anil) rfl rfl)) rfl, hB', h2, fun y hy => ?_⟩
  obtain ⟨i, hi, _⟩ := range_mem (h3 y hy)
  exact ⟨i, hi⟩
/-- no more different numbers below n than n -/
theorem pigeon : ∀ (n : Nat) (xs : List Nat), xs.Nodup → (∀ x ∈ xs, x < n) → xs.length ≤ n
  | 0, [], _, _ => Nat.le_refl _
  | 0, x :: _, _, h => absurd (h x List.mem_cons_self) (by omega)
  | n + 1, xs, hn, h => by
    have h1 := pigeon n (xs.erase n) (hn.erase n) fun x hx => by
      have h2 := h x (List.mem_of_mem_erase hx)
      have h3 : x ≠ n := fun e => by
        subst e
        exact (hn.not_mem_erase) hx
      omega
    have h4 := List.length_erase (a := n) (l := xs)
    split at h4 <;> omega
end K01
/-! K01u: the plain law of k01: different numbers in a lot -/
namespace K01
open PySem PySem.Spec PyProof.Rows L2 DL
theorem addK_nodup {ks : List Key} {k : Key} (h : ks.Nodup) : (addK ks k).Nodup := by
  unfold addK
  split
  · exact h
  · rename_i hk
    rw [List.nodup_append]
    refine ⟨h, by simp, fun a ha b hb => ?_⟩
    rw [List.mem_singleton] at hb
    subst hb
    intro e
    subst e
    exact hk ha
theorem dedK_nodup : ∀ (kl ks : List Key), ks.Nodup → (dedK ks kl).Nodup
  | [], _, h => h
  | k :: r, ks, h => dedK_nodup r (addK ks k) (addK_nodup h)
def keyN : Key → Nat
  | .inl i => i.toNat
  | .inr _ => 0
theorem lot_len {kl : List Key} {many : Int} (h0 : 0 ≤ many) (hk : ∀ k ∈ kl, ∃ i : Int, k = .inl i ∧ 0 ≤ i ∧ i < many) (h : lotB kl = true) : (kl.length : Int) ≤ many := by
  have e := eqv_length h
  rw [sortD_length, List.length_map, List.length_map] at e
  have hm : ∀ k ∈ dedK [] kl, ∃ i : Int, k = .inl i ∧ 0 ≤ i ∧ i < many := fun k hk' => by
    rcases (dedK_mem kl []).mp hk' with z | z
    · cases z
    · exact hk k z
  have hn : ((dedK [] kl).map keyN).Nodup := by
    unfold List.Nodup
    rw [List.pairwise_map]
    refine List.Pairwise.imp_of_mem (fun {a b} ha hb hab => ?_) (dedK_nodup kl [] List.nodup_nil)
    obtain ⟨i, rfl, i0, _⟩ := hm a ha
    obtain ⟨j, rfl, j0, _⟩ := hm b hb
    intro z
    apply hab
    have z : i.toNat = j.toNat := z
    rw [show i = j by omega]
  have p := pigeon many.toNat _ hn fun x hx => by
    rw [List.mem_map] at hx
    obtain ⟨k, hk', rfl⟩ := hx
    obtain ⟨i, rfl, i0, i1⟩ := hm k hk'
    show i.toNat < many.toNat
    omega
  rw [List.length_map] at p
  omega
theorem idx_bounds {x : PyData} {many : Int} (h : idx x many = true) : ∃ i : Int, x = .int i ∧ 0 ≤ i ∧ i < many := by
  obtain ⟨i, rfl⟩ := idx_key h
  have h : (decide (0 ≤ i) && decide (i ≤ many - 1)) = true := h
  rw [Bool.and_eq_true, decide_eq_true_eq, decide_eq_true_eq] at h
  exact ⟨i, rfl, h.1, by omega⟩
end K01
/-! K01v: the plain law of k01: what is due of a row -/
namespace K01
open PySem PySem.Spec PyProof.Rows L2 DL
section
variable {a0 e3 e4 e8 e9 e10 e11 : Ent} {many other most : Int} {d : PyData}
/-- the slots when `right` is known -/
abbrev RS (a0 e3 e4 e8 e9 e10 e11 : Ent) (many other most : Int) (d : PyData) : Sl := [a0, .dat (.int many), .dat (.int other), e3, e4, .dat (.int most), .dat d, .dat (.bool (below d many)), e8, e9, e10, e11]
theorem r7 {b : Bool} (h : below d many = b) : eP (kVar 7) (RS a0 e3 e4 e8 e9 e10 e11 many other most d) = .ok (.bool b) (RS a0 e3 e4 e8 e9 e10 e11 many other most d) := by rw [← h]; rfl
theorem due1 : kAnd (eP (kVar 7)) (op2 leD (pE (kCall lenD (aCons (kVar 6) aNil))) (kVar 5)) (RS a0 e3 e4 e8 e9 e10 e11 many other most d) = .ok (.bool (row d many most)) (RS a0 e3 e4 e8 e9 e10 e11 many other most d) := by
  rw [row_below]
  cases hb : below d many with
  | false => exact e_and0 (r7 hb)
  | true =>
    cases d with
    | tuple xs => exact e_and1 (r7 hb) (e_op2 (f2 := kVar 5) (e_map rfl) rfl rfl rfl (le_int _ _))
    | none => cases hb
    | bool _ => cases hb
    | int _ => cases hb
    | str _ => cases hb
    | list _ => cases hb
    | dict _ => cases hb
theorem due2 (h0 : 0 ≤ many) (hs : ∀ xs, d = .tuple xs → xs.length ≤ 4000) : ∃ b, m_is_lot [.dat d, .dat (.int many)] = .ok (.dat (.bool b)) [.un, .un] ∧
    ∀ {a0 e3 e4 e8 e9 e10 e11 : Ent} {other most : Int}, kAnd (eP (kVar 7)) (op2 eqD (pE (nD (nCall listN (aCons (kVar 6) aNil)))) (pE (nD (nSortSet (kVar 6))))) (RS a0 e3 e4 e8 e9 e10 e11 many other most d) = .ok (.bool b) (RS a0 e3 e4 e8 e9 e10 e11 many other most d) := by
  obtain ⟨b, z, z0, z1⟩ := islot many hs
  refine ⟨b, z, fun {a0 e3 e4 e8 e9 e10 e11 other most} => ?_⟩
  cases hb : below d many with
  | false =>
    rw [z0 (by rw [row_below, hb]; rfl)]
    exact e_and0 (r7 hb)
  | true =>
    cases d with
    | tuple xs =>
      obtain ⟨kl, rfl, h2, h3⟩ := below_keys (show (xs.all fun x => idx x many) = true from hb)
      have hl : kl.length ≤ 4000 := by have := hs _ rfl; rwa [List.length_map] at this
      have hded : (dedK [] kl).length ≤ 16777216 := by
        have := dedK_length kl []
        simp only [List.length_nil] at this
        omega
      have e : b = lotB kl := by
        cases hr : row (.tuple (kl.map kD)) many many with
        | true => exact z1 kl rfl hr
        | false =>
          rw [z0 hr]
          cases hL : lotB kl with
          | false => rfl
          | true =>
            have p := lot_len h0 (fun k hk => by
              have h4 := List.all_eq_true.mp (show ((kl.map kD).all fun x => idx x many) = true from hb) (kD k) (List.mem_map_of_mem hk)
              obtain ⟨i, h5, h6, h7⟩ := idx_bounds h4
              obtain ⟨j, rfl⟩ := h2 k hk
              have : j = i := PyData.int.inj h5
              exact ⟨j, rfl, by omega, by omega⟩) hL
            rw [row_below, hb] at hr
            have hr : decide (((kl.map kD).length : Int) ≤ many) = false := by simpa using hr
            rw [List.length_map, decide_eq_false_iff_not] at hr
            exact absurd p hr
      rw [e]
      exact e_and1 (r7 hb) (e_op2 (e_map (e_map (e_ncall (e_acons (f := kVar 6) rfl e_anil) rfl rfl))) (e_map (e_map (e_sortSet (f := kVar 6) rfl rfl (setK_ok rfl (by omega)) (sortOk_int (ded_ints h2) hded)))) rfl rfl (eq_ints h3 (allInt_sort (allInt_keys (ded_ints h2)))))
    | none => cases hb
    | bool _ => cases hb
    | int _ => cases hb
    | str _ => cases hb
    | list _ => cases hb
    | dict _ => cases hb
theorem due4 (h0 : 0 ≤ many) (h1 : many ≤ 1000) (hs : ∀ xs, d = .tuple xs → xs.length ≤ 4000) : ∃ b, m_is_order [.dat d, .dat (.int many)] = .ok (.dat (.bool b)) [.un, .un] ∧
    ∀ {a0 e3 e4 e8 e9 e10 e11 : Ent} {other most : Int}, kAnd (eP (kVar 7)) (op2 eqD (pE (nD (nCall sortN (aCons (kVar 6) aNil)))) (pE (nD (nRg1 (eP (kVar 1)))))) (RS a0 e3 e4 e8 e9 e10 e11 many other most d) = .ok (.bool b) (RS a0 e3 e4 e8 e9 e10 e11 many other most d) := by
  obtain ⟨b, z, z0, z1⟩ := isorder h0 h1 hs
  refine ⟨b, z, fun {a0 e3 e4 e8 e9 e10 e11 other most} => ?_⟩
  cases hb : below d many with
  | false =>
    rw [z0 hb]
    exact e_and0 (r7 hb)
  | true =>
    cases d with
    | tuple xs =>
      obtain ⟨kl, rfl, h2, h3⟩ := below_keys (show (xs.all fun x => idx x many) = true from hb)
      have hl : kl.length ≤ 4000 := by have := hs _ rfl; rwa [List.length_map] at this
      rw [z1 kl rfl hb]
      have hsort : sortN [.tuple (kl.map kD)] = some (sortD (kl.map kD)) := sortN_ok rfl (sortOk_int h2 (by omega))
      exact e_and1 (r7 hb) (e_op2 (e_map (e_map (e_ncall (e_acons (f := kVar 6) rfl e_anil) rfl hsort))) (e_map (e_map (e_range rfl h0 h1))) rfl rfl (eq_ints (allInt_sort h3) (allInt_range 0 many.toNat)))
    | none => cases hb
    | bool _ => cases hb
    | int _ => cases hb
    | str _ => cases hb
    | list _ => cases hb
    | dict _ => cases hb
def two (d : PyData) : Bool := match d with
  | .tuple xs => (xs.length : Int) == 2
  | _ => false
theorem istwo : kAnd (kIsa "tuple" (kVar 6)) (op2 eqD (pE (kCall lenD (aCons (kVar 6) aNil))) (pE (kConst (.int 2)))) (RS a0 e3 e4 e8 e9 e10 e11 many other most d) = .ok (.bool (two d)) (RS a0 e3 e4 e8 e9 e10 e11 many other most d) := by
  have no : isaB "tuple" d = false → two d = false → kAnd (kIsa "tuple" (kVar 6)) (op2 eqD (pE (kCall lenD (aCons (kVar 6) aNil))) (pE (kConst (.int 2)))) (RS a0 e3 e4 e8 e9 e10 e11 many other most d) = .ok (.bool (two d)) (RS a0 e3 e4 e8 e9 e10 e11 many other most d) := fun h1 h2 => by
    rw [h2]
    refine e_and0 (ε1 := (RS a0 e3 e4 e8 e9 e10 e11 many other most d)) ?_
    rw [← h1]
    exact e_isa (f := kVar 6) rfl rfl
  cases d with
  | tuple xs => rfl
  | none => exact no rfl rfl
  | bool _ => exact no rfl rfl
  | int _ => exact no rfl rfl
  | str _ => exact no rfl rfl
  | list _ => exact no rfl rfl
  | dict _ => exact no rfl rfl
theorem due3 {d : PyData} (e7 : Ent) : kAnd (eP (kVar 9)) (kAnd (rP' (callF m__law_are_below (aCons (pE (kSl (kVar 6) oNone (oSome (kConst (.int 1))))) (aCons (pE (eP (kVar 1))) aNil)))) (rP' (callF m__law_are_below (aCons (pE (kSl (kVar 6) (oSome (kConst (.int 1))) oNone)) (aCons (pE (eP (kVar 2))) aNil)))))
    [a0, .dat (.int many), .dat (.int other), e3, e4, .dat (.int most), .dat d, e7, e8, .dat (.bool (two d)), e10, e11] = .ok (.bool (coup d many other)) [a0, .dat (.int many), .dat (.int other), e3, e4, .dat (.int most), .dat d, e7, e8, .dat (.bool (two d)), e10, e11] := by
  cases h2 : two d with
  | false =>
    have e : coup d many other = false := by
      unfold coup
      split
      · cases h2
      · rfl
    rw [e]
    exact e_and0 rfl
  | true =>
    match d, h2 with
    | .tuple [x, y], _ =>
      have b1 : below (.tuple [x]) many = idx x many := Bool.and_true _
      have b2 : below (.tuple [y]) other = idx y other := Bool.and_true _
      have e : coup (.tuple [x, y]) many other = (idx x many && idx y other) := rfl
      rw [e, ← b1, ← b2]
      have c1 : callF m__law_are_below (aCons (pE (kSl (kVar 6) oNone (oSome (kConst (.int 1))))) (aCons (pE (eP (kVar 1))) aNil)) [a0, .dat (.int many), .dat (.int other), e3, e4, .dat (.int most), .dat (.tuple [x, y]), e7, e8, .dat (.bool true), e10, e11] = .ok (.dat (.bool (below (.tuple [x]) many))) [a0, .dat (.int many), .dat (.int other), e3, e4, .dat (.int most), .dat (.tuple [x, y]), e7, e8, .dat (.bool true), e10, e11] :=
        e_callD [.tuple [x], .int many] rfl (isbelow many fun xs h => by cases h; exact (by decide : 1 ≤ 16777216))
      have c2 : callF m__law_are_below (aCons (pE (kSl (kVar 6) (oSome (kConst (.int 1))) oNone)) (aCons (pE (eP (kVar 2))) aNil)) [a0, .dat (.int many), .dat (.int other), e3, e4, .dat (.int most), .dat (.tuple [x, y]), e7, e8, .dat (.bool true), e10, e11] = .ok (.dat (.bool (below (.tuple [y]) other))) [a0, .dat (.int many), .dat (.int other), e3, e4, .dat (.int most), .dat (.tuple [x, y]), e7, e8, .dat (.bool true), e10, e11] :=
        e_callD [.tuple [y], .int other] rfl (isbelow other fun xs h => by cases h; exact (by decide : 1 ≤ 16777216))
      exact e_and1 rfl (e_andB (e_map c1) fun _ => e_map c2)
end
end K01
/-! K01w: the plain law of k01: one row -/
namespace K01
open PySem PySem.Spec PyProof.Rows L2 DL
noncomputable def rowB : Sl → SO := (sSeq (sAsg (rP' (callF m__law_are_below (aCons (pE (eP (kVar 6))) (aCons (pE (eP (kVar 1))) aNil)))) (gSet 7))
  (sSeq (sSetR 8 (nR (nLst (aCons (pE (kAnd (eP (kVar 7)) (op2 leD (pE (kCall lenD (aCons (kVar 6) aNil))) (kVar 5)))) (aCons (pE (kAnd (eP (kVar 7)) (op2 eqD (pE (nD (nCall listN (aCons (kVar 6) aNil)))) (pE (nD (nSortSet (kVar 6))))))) aNil)))))
  (sSeq (sAsg (kAnd (kIsa "tuple" (kVar 6)) (op2 eqD (pE (kCall lenD (aCons (kVar 6) aNil))) (pE (kConst (.int 2))))) (gSet 9))
  (sSeq (sExpr (kAppend 8 (kAnd (eP (kVar 9)) (kAnd (rP' (callF m__law_are_below (aCons (pE (kSl (kVar 6) oNone (oSome (kConst (.int 1))))) (aCons (pE (eP (kVar 1))) aNil)))) (rP' (callF m__law_are_below (aCons (pE (kSl (kVar 6) (oSome (kConst (.int 1))) oNone)) (aCons (pE (eP (kVar 2))) aNil))))))))
  (sSeq (sExpr (kAppend 8 (kAnd (eP (kVar 7)) (op2 eqD (pE (nD (nCall sortN (aCons (kVar 6) aNil)))) (pE (nD (nRg1 (eP (kVar 1)))))))))
  (sSeq (sAsg (nD (nLst (aCons (pE (rP' (callF m_is_row_of (aCons (pE (eP (kVar 6))) (aCons (pE (eP (kVar 1))) (aCons (pE (eP (kVar 5))) aNil)))))) (aCons (pE (rP' (callF m_is_lot (aCons (pE (eP (kVar 6))) (aCons (pE (eP (kVar 1))) aNil))))) (aCons (pE (rP' (callF m_is_couple (aCons (pE (eP (kVar 6))) (aCons (pE (eP (kVar 1))) (aCons (pE (eP (kVar 2))) aNil)))))) (aCons (pE (rP' (callF m_is_order (aCons (pE (eP (kVar 6))) (aCons (pE (eP (kVar 1))) aNil))))) aNil)))))) (gSet 10))
  (sIf (jNot (vB (rP' (callF m__law_alike (aCons (pE (eP (kVar 10))) (aCons (pE (eP (kVar 8))) aNil))))))
  (sRet (kConst (.bool false)))
  sNil)))))))
theorem row_turn {a0 e3 e4 e7 e8 e9 e10 e11 : Ent} {many other most : Int} {d : PyData} (h0 : 0 ≤ many) (h1 : many ≤ 1000) (hs : ∀ xs, d = .tuple xs → xs.length ≤ 4000) : ∃ f7 f8 f9 f10, rowB [a0, .dat (.int many), .dat (.int other), e3, e4, .dat (.int most), .dat d, e7, e8, e9, e10, e11] = .nx [a0, .dat (.int many), .dat (.int other), e3, e4, .dat (.int most), .dat d, f7, f8, f9, f10, e11] := by
  obtain ⟨b2, z2, w2⟩ := due2 h0 hs
  obtain ⟨b4, z4, w4⟩ := due4 h0 h1 hs
  have c1 : callF m__law_are_below (aCons (pE (eP (kVar 6))) (aCons (pE (eP (kVar 1))) aNil)) [a0, .dat (.int many), .dat (.int other), e3, e4, .dat (.int most), .dat d, e7, e8, e9, e10, e11] = .ok (.dat (.bool (below d many))) [a0, .dat (.int many), .dat (.int other), e3, e4, .dat (.int most), .dat d, e7, e8, e9, e10, e11] := e_callD [d, .int many] rfl (isbelow many fun xs h => Nat.le_trans (hs xs h) (by decide))
  have s1 : (sAsg (rP' (callF m__law_are_below (aCons (pE (eP (kVar 6))) (aCons (pE (eP (kVar 1))) aNil)))) (gSet 7)) [a0, .dat (.int many), .dat (.int other), e3, e4, .dat (.int most), .dat d, e7, e8, e9, e10, e11] = .nx [a0, .dat (.int many), .dat (.int other), e3, e4, .dat (.int most), .dat d, (.dat (.bool (below d many))), e8, e9, e10, e11] := e_asg (e_map c1) rfl
  have s2 : (sSetR 8 (nR (nLst (aCons (pE (kAnd (eP (kVar 7)) (op2 leD (pE (kCall lenD (aCons (kVar 6) aNil))) (kVar 5)))) (aCons (pE (kAnd (eP (kVar 7)) (op2 eqD (pE (nD (nCall listN (aCons (kVar 6) aNil)))) (pE (nD (nSortSet (kVar 6))))))) aNil))))) [a0, .dat (.int many), .dat (.int other), e3, e4, .dat (.int most), .dat d, (.dat (.bool (below d many))), e8, e9, e10, e11] = .nx [a0, .dat (.int many), .dat (.int other), e3, e4, .dat (.int most), .dat d, (.dat (.bool (below d many))), (.own [(.bool (row d many most)), (.bool b2)]), e9, e10, e11] :=
    (e_setR (x := .lst [(.bool (row d many most)), (.bool b2)]) (e_map (e_lst (ds := [(.bool (row d many most)), (.bool b2)]) (e_acD due1 (e_acD w2 e_acN)) rfl (show (2 : Nat) ≤ 1000 by decide))) (show (8 : Nat) < 12 by decide)).trans rfl
  have s3 : (sAsg (kAnd (kIsa "tuple" (kVar 6)) (op2 eqD (pE (kCall lenD (aCons (kVar 6) aNil))) (pE (kConst (.int 2))))) (gSet 9)) [a0, .dat (.int many), .dat (.int other), e3, e4, .dat (.int most), .dat d, (.dat (.bool (below d many))), (.own [(.bool (row d many most)), (.bool b2)]), e9, e10, e11] = .nx [a0, .dat (.int many), .dat (.int other), e3, e4, .dat (.int most), .dat d, (.dat (.bool (below d many))), (.own [(.bool (row d many most)), (.bool b2)]), (.dat (.bool (two d))), e10, e11] := e_asg istwo rfl
  have s4 : (sExpr (kAppend 8 (kAnd (eP (kVar 9)) (kAnd (rP' (callF m__law_are_below (aCons (pE (kSl (kVar 6) oNone (oSome (kConst (.int 1))))) (aCons (pE (eP (kVar 1))) aNil)))) (rP' (callF m__law_are_below (aCons (pE (kSl (kVar 6) (oSome (kConst (.int 1))) oNone)) (aCons (pE (eP (kVar 2))) aNil)))))))) [a0, .dat (.int many), .dat (.int other), e3, e4, .dat (.int most), .dat d, (.dat (.bool (below d many))), (.own [(.bool (row d many most)), (.bool b2)]), (.dat (.bool (two d))), e10, e11] = .nx [a0, .dat (.int many), .dat (.int other), e3, e4, .dat (.int most), .dat d, (.dat (.bool (below d many))), (.own [(.bool (row d many most)), (.bool b2), (.bool (coup d many other))]), (.dat (.bool (two d))), e10, e11] := (e_expr (e_append (i := 8) (us := [(.bool (row d many most)), (.bool b2)]) (ds := [(.bool (row d many most)), (.bool b2)]) rfl (due3 (.dat (.bool (below d many)))) rfl (show (2 : Nat) < 16777216 by decide))).trans rfl
  have s5 : (sExpr (kAppend 8 (kAnd (eP (kVar 7)) (op2 eqD (pE (nD (nCall sortN (aCons (kVar 6) aNil)))) (pE (nD (nRg1 (eP (kVar 1))))))))) [a0, .dat (.int many), .dat (.int other), e3, e4, .dat (.int most), .dat d, (.dat (.bool (below d many))), (.own [(.bool (row d many most)), (.bool b2), (.bool (coup d many other))]), (.dat (.bool (two d))), e10, e11] = .nx [a0, .dat (.int many), .dat (.int other), e3, e4, .dat (.int most), .dat d, (.dat (.bool (below d many))), (.own [(.bool (row d many most)), (.bool b2), (.bool (coup d many other)), (.bool b4)]), (.dat (.bool (two d))), e10, e11] := (e_expr (e_append (i := 8) (us := [(.bool (row d many most)), (.bool b2), (.bool (coup d many other))]) (ds := [(.bool (row d many most)), (.bool b2), (.bool (coup d many other))]) rfl w4 rfl (show (3 : Nat) < 16777216 by decide))).trans rfl
  have t1 : callF m_is_row_of (aCons (pE (eP (kVar 6))) (aCons (pE (eP (kVar 1))) (aCons (pE (eP (kVar 5))) aNil))) [a0, .dat (.int many), .dat (.int other), e3, e4, .dat (.int most), .dat d, (.dat (.bool (below d many))), (.own [(.bool (row d many most)), (.bool b2), (.bool (coup d many other)), (.bool b4)]), (.dat (.bool (two d))), e10, e11] = .ok (.dat (.bool (row d many most))) [a0, .dat (.int many), .dat (.int other), e3, e4, .dat (.int most), .dat d, (.dat (.bool (below d many))), (.own [(.bool (row d many most)), (.bool b2), (.bool (coup d many other)), (.bool b4)]), (.dat (.bool (two d))), e10, e11] := e_callD [d, .int many, .int most] rfl (isrow many most fun xs h => Nat.le_trans (hs xs h) (by decide))
  have t2 : callF m_is_lot (aCons (pE (eP (kVar 6))) (aCons (pE (eP (kVar 1))) aNil)) [a0, .dat (.int many), .dat (.int other), e3, e4, .dat (.int most), .dat d, (.dat (.bool (below d many))), (.own [(.bool (row d many most)), (.bool b2), (.bool (coup d many other)), (.bool b4)]), (.dat (.bool (two d))), e10, e11] = .ok (.dat (.bool b2)) [a0, .dat (.int many), .dat (.int other), e3, e4, .dat (.int most), .dat d, (.dat (.bool (below d many))), (.own [(.bool (row d many most)), (.bool b2), (.bool (coup d many other)), (.bool b4)]), (.dat (.bool (two d))), e10, e11] := e_callD [d, .int many] rfl z2
  have t3 : callF m_is_couple (aCons (pE (eP (kVar 6))) (aCons (pE (eP (kVar 1))) (aCons (pE (eP (kVar 2))) aNil))) [a0, .dat (.int many), .dat (.int other), e3, e4, .dat (.int most), .dat d, (.dat (.bool (below d many))), (.own [(.bool (row d many most)), (.bool b2), (.bool (coup d many other)), (.bool b4)]), (.dat (.bool (two d))), e10, e11] = .ok (.dat (.bool (coup d many other))) [a0, .dat (.int many), .dat (.int other), e3, e4, .dat (.int most), .dat d, (.dat (.bool (below d many))), (.own [(.bool (row d many most)), (.bool b2), (.bool (coup d many other)), (.bool b4)]), (.dat (.bool (two d))), e10, e11] := e_callD [d, .int many, .int other] rfl (iscouple d many other)
  have t4 : callF m_is_order (aCons (pE (eP (kVar 6))) (aCons (pE (eP (kVar 1))) aNil)) [a0, .dat (.int many), .dat (.int other), e3, e4, .dat (.int most), .dat d, (.dat (.bool (below d many))), (.own [(.bool (row d many most)), (.bool b2), (.bool (coup d many other)), (.bool b4)]), (.dat (.bool (two d))), e10, e11] = .ok (.dat (.bool b4)) [a0, .dat (.int many), .dat (.int other), e3, e4, .dat (.int most), .dat d, (.dat (.bool (below d many))), (.own [(.bool (row d many most)), (.bool b2), (.bool (coup d many other)), (.bool b4)]), (.dat (.bool (two d))), e10, e11] := e_callD [d, .int many] rfl z4
  have s6 : (sAsg (nD (nLst (aCons (pE (rP' (callF m_is_row_of (aCons (pE (eP (kVar 6))) (aCons (pE (eP (kVar 1))) (aCons (pE (eP (kVar 5))) aNil)))))) (aCons (pE (rP' (callF m_is_lot (aCons (pE (eP (kVar 6))) (aCons (pE (eP (kVar 1))) aNil))))) (aCons (pE (rP' (callF m_is_couple (aCons (pE (eP (kVar 6))) (aCons (pE (eP (kVar 1))) (aCons (pE (eP (kVar 2))) aNil)))))) (aCons (pE (rP' (callF m_is_order (aCons (pE (eP (kVar 6))) (aCons (pE (eP (kVar 1))) aNil))))) aNil)))))) (gSet 10)) [a0, .dat (.int many), .dat (.int other), e3, e4, .dat (.int most), .dat d, (.dat (.bool (below d many))), (.own [(.bool (row d many most)), (.bool b2), (.bool (coup d many other)), (.bool b4)]), (.dat (.bool (two d))), e10, e11] = .nx [a0, .dat (.int many), .dat (.int other), e3, e4, .dat (.int most), .dat d, (.dat (.bool (below d many))), (.own [(.bool (row d many most)), (.bool b2), (.bool (coup d many other)), (.bool b4)]), (.dat (.bool (two d))), (.dat (.list [(.bool (row d many most)), (.bool b2), (.bool (coup d many other)), (.bool b4)])), e11] :=
    e_asg (e_map (e_lst (ds := [(.bool (row d many most)), (.bool b2), (.bool (coup d many other)), (.bool b4)]) (e_acD (e_map t1) (e_acD (e_map t2) (e_acD (e_map t3) (e_acD (e_map t4) e_acN)))) rfl (show (4 : Nat) ≤ 1000 by decide))) rfl
  have fine : Fine (.list [(.bool (row d many most)), (.bool b2), (.bool (coup d many other)), (.bool b4)]) := ⟨rfl, (by decide : (5 : Nat) ≤ 16777216)⟩
  have al : m__law_alike [.dat (.list [(.bool (row d many most)), (.bool b2), (.bool (coup d many other)), (.bool b4)]), .dat (.list [(.bool (row d many most)), (.bool b2), (.bool (coup d many other)), (.bool b4)])] = .ok (.dat (.bool true)) [.un, .un] := alike_ok fine
  have u : callF m__law_alike (aCons (pE (eP (kVar 10))) (aCons (pE (eP (kVar 8))) aNil)) [a0, .dat (.int many), .dat (.int other), e3, e4, .dat (.int most), .dat d, (.dat (.bool (below d many))), (.own [(.bool (row d many most)), (.bool b2), (.bool (coup d many other)), (.bool b4)]), (.dat (.bool (two d))), (.dat (.list [(.bool (row d many most)), (.bool b2), (.bool (coup d many other)), (.bool b4)])), e11] = .ok (.dat (.bool true)) [a0, .dat (.int many), .dat (.int other), e3, e4, .dat (.int most), .dat d, (.dat (.bool (below d many))), (.dat (.list [(.bool (row d many most)), (.bool b2), (.bool (coup d many other)), (.bool b4)])), (.dat (.bool (two d))), (.dat (.list [(.bool (row d many most)), (.bool b2), (.bool (coup d many other)), (.bool b4)])), e11] := e_callD [(.list [(.bool (row d many most)), (.bool b2), (.bool (coup d many other)), (.bool b4)]), (.list [(.bool (row d many most)), (.bool b2), (.bool (coup d many other)), (.bool b4)])] rfl al
  have s7 : (sIf (jNot (vB (rP' (callF m__law_alike (aCons (pE (eP (kVar 10))) (aCons (pE (eP (kVar 8))) aNil))))))
  (sRet (kConst (.bool false)))
  sNil) [a0, .dat (.int many), .dat (.int other), e3, e4, .dat (.int most), .dat d, (.dat (.bool (below d many))), (.own [(.bool (row d many most)), (.bool b2), (.bool (coup d many other)), (.bool b4)]), (.dat (.bool (two d))), (.dat (.list [(.bool (row d many most)), (.bool b2), (.bool (coup d many other)), (.bool b4)])), e11] = .nx [a0, .dat (.int many), .dat (.int other), e3, e4, .dat (.int most), .dat d, (.dat (.bool (below d many))), (.dat (.list [(.bool (row d many most)), (.bool b2), (.bool (coup d many other)), (.bool b4)])), (.dat (.bool (two d))), (.dat (.list [(.bool (row d many most)), (.bool b2), (.bool (coup d many other)), (.bool b4)])), e11] := e_if0 (e_jnot (b := true) (e_toB (e_map u))) rfl
  exact ⟨_, _, _, _, e_seq s1 (e_seq s2 (e_seq s3 (e_seq s4 (e_seq s5 (e_seq s6 s7)))))⟩
end K01
/-! K01x: the plain law of k01: all rows -/
namespace K01
open PySem PySem.Spec PyProof.Rows L2 DL
theorem take_call {B : List PyData} (hB : BagOk B) {n : Int} (h : 0 < n) (h2 : n < 1073741824) (r : Sl) : ∃ v B', callF m__law_take (aCons (kVar 0) (aCons (pE (kConst (.int n))) aNil)) (.io B :: r) = .ok (.dat (.int v)) (.io B' :: r) ∧ BagOk B' ∧ 0 ≤ v ∧ v < n := by
  obtain ⟨v, B', z, hB', v0, v1⟩ := take_ok hB h h2
  have z' : m__law_take [.io B, .dat (.int n)] = .ok (.dat (.int v)) [.io B', .un] := z
  have hargs : aCons (kVar 0) (aCons (pE (kConst (.int n))) aNil) (.io B :: r) = .ok [.at 0, .dat (.int n)] (.io B :: r) := rfl
  exact ⟨v, B', (e_callF hargs rfl (show ([0] : List Nat).Nodup by decide) z').trans rfl, hB', v0, v1⟩
theorem some_call {B : List PyData} (hB : BagOk B) {L : Sl → Out (List PyData)} {xs : List PyData} {r : Sl} (hL : L (.io B :: r) = .ok xs (.io B :: r)) (h0 : xs ≠ []) (hl : xs.length < 1000000) : ∃ d B', callF m__law_some (aCons (kVar 0) (aCons (pE (nD L)) aNil)) (.io B :: r) = .ok (.dat d) (.io B' :: r) ∧ BagOk B' ∧ d ∈ xs := by
  obtain ⟨d, B', z, hB', hd⟩ := some_ok hB (t := .list xs) (.inl rfl) h0 hl
  have z' : m__law_some [.io B, .dat (.list xs)] = .ok (.dat d) [.io B', .un] := z
  have hargs : aCons (kVar 0) (aCons (pE (nD L)) aNil) (.io B :: r) = .ok [.at 0, .dat (.list xs)] (.io B :: r) := e_acons (f := kVar 0) rfl (e_acons (e_map (e_map hL)) e_anil)
  exact ⟨d, B', (e_callF hargs rfl (show ([0] : List Nat).Nodup by decide) z').trans rfl, hB', hd⟩
theorem draws {r : Sl} {r' : PyData → Sl} {f : Sl → Out PyData} {Q : PyData → Prop} (hw : ∀ B, wipeE (.io B :: r) [11] = .io B :: r) (hr : ∀ B1 B2, restE (.io B1 :: r) (.io B2 :: r) [11] = .io B2 :: r)
    (hg : ∀ d B, gSet 11 d (.io B :: r) = some (.io B :: r' d)) (hw' : ∀ d B, wipeE (.io B :: r' d) [11] = .io B :: r)
    (hf : ∀ B d, BagOk B → ∃ y B', f (.io B :: r' d) = .ok y (.io B' :: r' d) ∧ BagOk B' ∧ Q y) {B : List PyData} (hB : BagOk B) {n : Int} (h : 0 < n) (h2 : n ≤ 1000) :
    ∃ ys B', nLc (wRange1 (rP' (callF m__law_take (aCons (kVar 0) (aCons (pE (kConst (.int n))) aNil))))) [11] (gSet 11) jYes f (.io B :: r) = .ok ys (.io B' :: r) ∧ BagOk B' ∧ (∀ y ∈ ys, Q y) ∧ ys.length ≤ n.toNat := by
  obtain ⟨v, B1, z, hB1, v0, v1⟩ := take_call hB h (by omega) r
  have hi : wRange1 (rP' (callF m__law_take (aCons (kVar 0) (aCons (pE (kConst (.int n))) aNil)))) (.io B :: r) = .ok (rangeD 0 v.toNat) (.io B1 :: r) := by
    unfold wRange1
    rw [show rP' (callF m__law_take (aCons (kVar 0) (aCons (pE (kConst (.int n))) aNil))) (.io B :: r) = .ok (.int v) (.io B1 :: r) from e_map z, Out.bind_ok]
    dsimp only
    exact if_pos ⟨by omega, by omega⟩
  obtain ⟨ys, ε', h1, ⟨B2, hB2, h3⟩, h4, h5⟩ := e_lcD (vs := [11]) (g := gSet 11) (c := jYes) (f := f) (St := fun W => ∃ B, BagOk B ∧ W = .io B :: r) (Q := Q) hi (by rw [range_len]; omega) ⟨B1, hB1, hw B1⟩ fun d _ W hW => by
    obtain ⟨B3, hB3, rfl⟩ := hW
    obtain ⟨y, B4, f1, f2, f3⟩ := hf B3 d hB3
    exact ⟨_, _, true, hg d B3, rfl, (fun _ => ⟨_, y, f1, f3, B4, f2, hw' d B4⟩), fun h => nomatch h⟩
  rw [← DL.rest_wipe (ε2 := ε'), h3, hr] at h1
  rw [range_len] at h5
  exact ⟨ys, B2, h1, hB2, h4, by omega⟩
end K01
/-! K01y: the plain law of k01: the rows, drawn and looked at -/
namespace K01
open PySem PySem.Spec PyProof.Rows L2 DL
theorem things_ok {B : List PyData} (hB : BagOk B) {many other most : Int} (h0 : 0 ≤ many) (h1 : many ≤ 1000) {xs lot : List PyData} (hx : xs.length ≤ 100) (hl : lot.length ≤ 100) :
    ∃ ds B', (wItems (kTup (aCons (pE (eP (kVar 3))) (aCons (pE (eP (kVar 4))) (aCons (pE (nD (nCall listN (aCons (kVar 4) aNil)))) (aCons (pE (kRev (kVar 4))) (aCons (pE (op2 addD (kVar 4) (pE (kSl (kVar 4) oNone (oSome (kConst (.int 1))))))) (aCons (pE (kTup aNil)) (aCons (pE (kConst .none)) (aCons (pE (kConst (.int 3))) (aCons (pE (kTup (aCons (pE (kConst (.int 0))) (aCons (pE (kConst (.int 0))) aNil)))) (aCons (pE (kTup (aCons (pE (kConst (.int 1))) (aCons (pE (kConst (.int 0))) aNil)))) (aCons (pE (rP' (callF m__law_order (aCons (kVar 0) (aCons (pE (eP (kVar 1))) aNil))))) (aCons (pE (tU (nRg1 (eP (kVar 1))))) (aCons (pE (kConst (.dict []))) aNil))))))))))))))) [.io B, .dat (.int many), .dat (.int other), (.dat (.tuple xs)), (.dat (.tuple lot)), (.dat (.int most)), .un, .un, .un, .un, .un, .un] = .ok ds [.io B', .dat (.int many), .dat (.int other), (.dat (.tuple xs)), (.dat (.tuple lot)), (.dat (.int most)), .un, .un, .un, .un, .un, .un] ∧ BagOk B' ∧ ∀ d ∈ ds, ∀ zs, d = .tuple zs → zs.length ≤ 4000 := by
  obtain ⟨ys, B', z, hB', hy, _⟩ := order_ok hB h0 h1
  have hargs : aCons (kVar 0) (aCons (pE (eP (kVar 1))) aNil) [.io B, .dat (.int many), .dat (.int other), (.dat (.tuple xs)), (.dat (.tuple lot)), (.dat (.int most)), .un, .un, .un, .un, .un, .un] = .ok [.at 0, .dat (.int many)] [.io B, .dat (.int many), .dat (.int other), (.dat (.tuple xs)), (.dat (.tuple lot)), (.dat (.int most)), .un, .un, .un, .un, .un, .un] := rfl
  have ord : callF m__law_order (aCons (kVar 0) (aCons (pE (eP (kVar 1))) aNil)) [.io B, .dat (.int many), .dat (.int other), (.dat (.tuple xs)), (.dat (.tuple lot)), (.dat (.int most)), .un, .un, .un, .un, .un, .un] = .ok (.dat (.tuple ys)) [.io B', .dat (.int many), .dat (.int other), (.dat (.tuple xs)), (.dat (.tuple lot)), (.dat (.int most)), .un, .un, .un, .un, .un, .un] := (e_callF hargs rfl (show ([0] : List Nat).Nodup by decide) z).trans rfl
  have hc : (DL.cutD lot none (some 1)).length ≤ 100 := by
    unfold DL.cutD
    rw [List.length_take, List.length_drop]
    omega
  have hadd : op2 addD (kVar 4) (pE (kSl (kVar 4) oNone (oSome (kConst (.int 1))))) [.io B, .dat (.int many), .dat (.int other), (.dat (.tuple xs)), (.dat (.tuple lot)), (.dat (.int most)), .un, .un, .un, .un, .un, .un] = .ok (.tuple (lot ++ DL.cutD lot none (some 1))) [.io B, .dat (.int many), .dat (.int other), (.dat (.tuple xs)), (.dat (.tuple lot)), (.dat (.int most)), .un, .un, .un, .un, .un, .un] :=
    e_op2 (f1 := kVar 4) rfl (e_map (show kSl (kVar 4) oNone (oSome (kConst (.int 1))) [.io B, .dat (.int many), .dat (.int other), (.dat (.tuple xs)), (.dat (.tuple lot)), (.dat (.int most)), .un, .un, .un, .un, .un, .un] = .ok (.tuple (DL.cutD lot none (some 1))) [.io B, .dat (.int many), .dat (.int other), (.dat (.tuple xs)), (.dat (.tuple lot)), (.dat (.int most)), .un, .un, .un, .un, .un, .un] from rfl)) rfl rfl (if_pos (by omega))
  have hr : tU (nRg1 (eP (kVar 1))) [.io B', .dat (.int many), .dat (.int other), (.dat (.tuple xs)), (.dat (.tuple lot)), (.dat (.int most)), .un, .un, .un, .un, .un, .un] = .ok (.tuple (rangeD 0 many.toNat)) [.io B', .dat (.int many), .dat (.int other), (.dat (.tuple xs)), (.dat (.tuple lot)), (.dat (.int most)), .un, .un, .un, .un, .un, .un] := e_map (e_range rfl h0 h1)
  have ha : (aCons (pE (eP (kVar 3))) (aCons (pE (eP (kVar 4))) (aCons (pE (nD (nCall listN (aCons (kVar 4) aNil)))) (aCons (pE (kRev (kVar 4))) (aCons (pE (op2 addD (kVar 4) (pE (kSl (kVar 4) oNone (oSome (kConst (.int 1))))))) (aCons (pE (kTup aNil)) (aCons (pE (kConst .none)) (aCons (pE (kConst (.int 3))) (aCons (pE (kTup (aCons (pE (kConst (.int 0))) (aCons (pE (kConst (.int 0))) aNil)))) (aCons (pE (kTup (aCons (pE (kConst (.int 1))) (aCons (pE (kConst (.int 0))) aNil)))) (aCons (pE (rP' (callF m__law_order (aCons (kVar 0) (aCons (pE (eP (kVar 1))) aNil))))) (aCons (pE (tU (nRg1 (eP (kVar 1))))) (aCons (pE (kConst (.dict []))) aNil))))))))))))) [.io B, .dat (.int many), .dat (.int other), (.dat (.tuple xs)), (.dat (.tuple lot)), (.dat (.int most)), .un, .un, .un, .un, .un, .un] = .ok (([.tuple xs, .tuple lot, .list lot, .tuple lot.reverse, .tuple (lot ++ DL.cutD lot none (some 1)), .tuple [], .none, .int 3, .tuple [.int 0, .int 0], .tuple [.int 1, .int 0], .tuple ys, .tuple (rangeD 0 many.toNat), .dict []] : List PyData).map Tk.dat) [.io B', .dat (.int many), .dat (.int other), (.dat (.tuple xs)), (.dat (.tuple lot)), (.dat (.int most)), .un, .un, .un, .un, .un, .un] :=
    e_acD rfl (e_acD rfl (e_acD rfl (e_acD rfl (e_acD hadd (e_acD rfl (e_acD rfl (e_acD rfl (e_acD rfl (e_acD rfl (e_acD (e_map ord) (e_acD hr (e_acD rfl e_acN))))))))))))
  have ht : (wItems (kTup (aCons (pE (eP (kVar 3))) (aCons (pE (eP (kVar 4))) (aCons (pE (nD (nCall listN (aCons (kVar 4) aNil)))) (aCons (pE (kRev (kVar 4))) (aCons (pE (op2 addD (kVar 4) (pE (kSl (kVar 4) oNone (oSome (kConst (.int 1))))))) (aCons (pE (kTup aNil)) (aCons (pE (kConst .none)) (aCons (pE (kConst (.int 3))) (aCons (pE (kTup (aCons (pE (kConst (.int 0))) (aCons (pE (kConst (.int 0))) aNil)))) (aCons (pE (kTup (aCons (pE (kConst (.int 1))) (aCons (pE (kConst (.int 0))) aNil)))) (aCons (pE (rP' (callF m__law_order (aCons (kVar 0) (aCons (pE (eP (kVar 1))) aNil))))) (aCons (pE (tU (nRg1 (eP (kVar 1))))) (aCons (pE (kConst (.dict []))) aNil))))))))))))))) [.io B, .dat (.int many), .dat (.int other), (.dat (.tuple xs)), (.dat (.tuple lot)), (.dat (.int most)), .un, .un, .un, .un, .un, .un] = .ok [.tuple xs, .tuple lot, .list lot, .tuple lot.reverse, .tuple (lot ++ DL.cutD lot none (some 1)), .tuple [], .none, .int 3, .tuple [.int 0, .int 0], .tuple [.int 1, .int 0], .tuple ys, .tuple (rangeD 0 many.toNat), .dict []] [.io B', .dat (.int many), .dat (.int other), (.dat (.tuple xs)), (.dat (.tuple lot)), (.dat (.int most)), .un, .un, .un, .un, .un, .un] := by
    unfold wItems
    rw [e_tup ha rfl (show (13 : Nat) ≤ 1000 by decide)]
    rfl
  refine ⟨_, B', ht, hB', fun d hd zs e => ?_⟩
  subst e
  have hrl := range_len many.toNat
  simp only [List.mem_cons, PyData.tuple.injEq, reduceCtorEq, false_or, or_false, List.not_mem_nil] at hd
  rcases hd with rfl | rfl | rfl | rfl | rfl | rfl | rfl | rfl | rfl <;> simp <;> omega
end K01
/-! K01z: the plain law of k01: all rows are right -/
namespace K01
open PySem PySem.Spec PyProof.Rows L2 DL
theorem int_keys : ∀ {ys : List PyData}, (∀ y ∈ ys, ∃ i : Int, y = .int i) → ∃ kl : List Key, ys = kl.map kD ∧ ∀ k ∈ kl, ∃ i, k = .inl i
  | [], _ => ⟨[], rfl, fun _ h => nomatch h⟩
  | y :: r, h => by
    obtain ⟨kl, h1, h2⟩ := int_keys fun z hz => h z (List.mem_cons_of_mem _ hz)
    obtain ⟨i, rfl⟩ := h y List.mem_cons_self
    refine ⟨.inl i :: kl, by rw [List.map_cons, ← h1]; rfl, fun k hk => ?_⟩
    rcases List.mem_cons.mp hk with rfl | hk
    · exact ⟨i, rfl⟩
    · exact h2 k hk
theorem rows_ok {B : List PyData} (hB : BagOk B) {many other : Int} (h0 : 0 ≤ many) (h1 : many ≤ 1000) : ∃ B', m__law_are_rows_right [.io B, .dat (.int many), .dat (.int other)] = .ok (.dat (.bool true)) [.io B', .un, .un] ∧ BagOk B' := by
  obtain ⟨xs, B1, z1, hB1, _, hx⟩ := draws (r := [.dat (.int many), .dat (.int other), .un, .un, .un, .un, .un, .un, .un, .un, .un]) (r' := fun d => [.dat (.int many), .dat (.int other), .un, .un, .un, .un, .un, .un, .un, .un, (.dat d)]) (f := (rP' (callF m__law_some (aCons (kVar 0) (aCons (pE (nD (nLst (aCons (pE (kConst (.int 0))) (aCons (pE (kConst (.int 1))) (aCons (pE (kConst (.int 2))) (aCons (pE (kConst (.int 3))) (aCons (pE (kNeg (kConst (.int 1)))) (aCons (pE (kConst (.int 4))) (aCons (pE (kConst (.bool true))) (aCons (pE (kConst .none)) (aCons (pE (kConst (.str "1"))) aNil)))))))))))) aNil))))) (Q := fun _ => True) (fun _ => rfl) (fun _ _ => rfl) (fun _ _ => rfl) (fun _ _ => rfl) (fun B d hB => by
    obtain ⟨y, B', y1, y2, _⟩ := some_call hB (r := [.dat (.int many), .dat (.int other), .un, .un, .un, .un, .un, .un, .un, .un, (.dat d)]) (L := (nLst (aCons (pE (kConst (.int 0))) (aCons (pE (kConst (.int 1))) (aCons (pE (kConst (.int 2))) (aCons (pE (kConst (.int 3))) (aCons (pE (kNeg (kConst (.int 1)))) (aCons (pE (kConst (.int 4))) (aCons (pE (kConst (.bool true))) (aCons (pE (kConst .none)) (aCons (pE (kConst (.str "1"))) aNil))))))))))) rfl (by decide) (by decide)
    exact ⟨y, B', e_map y1, y2, trivial⟩) hB (n := 5) (by decide) (by decide)
  have s1 : (sAsg (kCall tupleD (aCons (pE (nD (nLc (wRange1 (rP' (callF m__law_take (aCons (kVar 0) (aCons (pE (kConst (.int 5))) aNil))))) [11] (gSet 11) jYes (rP' (callF m__law_some (aCons (kVar 0) (aCons (pE (nD (nLst (aCons (pE (kConst (.int 0))) (aCons (pE (kConst (.int 1))) (aCons (pE (kConst (.int 2))) (aCons (pE (kConst (.int 3))) (aCons (pE (kNeg (kConst (.int 1)))) (aCons (pE (kConst (.int 4))) (aCons (pE (kConst (.bool true))) (aCons (pE (kConst .none)) (aCons (pE (kConst (.str "1"))) aNil)))))))))))) aNil))))))) aNil)) (gSet 3)) [.io B, .dat (.int many), .dat (.int other), .un, .un, .un, .un, .un, .un, .un, .un, .un] = .nx [.io B1, .dat (.int many), .dat (.int other), (.dat (.tuple xs)), .un, .un, .un, .un, .un, .un, .un, .un] := e_asg (e_call (e_acons (e_map (e_map z1)) e_anil) rfl rfl) rfl
  obtain ⟨ns, B2, z2, hB2, hi, hn⟩ := draws (r := [.dat (.int many), .dat (.int other), (.dat (.tuple xs)), .un, .un, .un, .un, .un, .un, .un, .un]) (r' := fun d => [.dat (.int many), .dat (.int other), (.dat (.tuple xs)), .un, .un, .un, .un, .un, .un, .un, (.dat d)]) (f := (rP' (callF m__law_take (aCons (kVar 0) (aCons (pE (kConst (.int 5))) aNil))))) (Q := fun y => ∃ i : Int, y = .int i) (fun _ => rfl) (fun _ _ => rfl) (fun _ _ => rfl) (fun _ _ => rfl) (fun B d hB => by
    obtain ⟨v, B', y1, y2, _⟩ := take_call hB (n := 5) (by decide) (by decide) [.dat (.int many), .dat (.int other), (.dat (.tuple xs)), .un, .un, .un, .un, .un, .un, .un, (.dat d)]
    exact ⟨.int v, B', e_map y1, y2, v, rfl⟩) hB1 (n := 5) (by decide) (by decide)
  obtain ⟨kl, rfl, hk⟩ := int_keys hi
  rw [List.length_map] at hn
  have hded : (dedK [] kl).length ≤ 5 := by
    have := dedK_length kl []
    simp only [List.length_nil] at this
    omega
  have hlot : (sortD ((dedK [] kl).map kD)).length ≤ 100 := by
    rw [sortD_length, List.length_map]
    omega
  have s2 : (sAsg (kCall tupleD (aCons (pE (nD (nSortSet (pE (nD (nLc (wRange1 (rP' (callF m__law_take (aCons (kVar 0) (aCons (pE (kConst (.int 5))) aNil))))) [11] (gSet 11) jYes (rP' (callF m__law_take (aCons (kVar 0) (aCons (pE (kConst (.int 5))) aNil)))))))))) aNil)) (gSet 4)) [.io B1, .dat (.int many), .dat (.int other), (.dat (.tuple xs)), .un, .un, .un, .un, .un, .un, .un, .un] = .nx [.io B2, .dat (.int many), .dat (.int other), (.dat (.tuple xs)), (.dat (.tuple (sortD ((dedK [] kl).map kD)))), .un, .un, .un, .un, .un, .un, .un] := e_asg (e_call (e_acons (e_map (e_map (e_sortSet (d := .list (kl.map kD)) (e_map (e_map z2)) rfl (setK_ok rfl (by omega)) (sortOk_int (ded_ints hk) (by omega))))) e_anil) rfl rfl) rfl
  obtain ⟨most, B3, z3, hB3, _, _⟩ := take_call hB2 (n := 6) (by decide) (by decide) [.dat (.int many), .dat (.int other), (.dat (.tuple xs)), (.dat (.tuple (sortD ((dedK [] kl).map kD)))), .un, .un, .un, .un, .un, .un, .un]
  have s3 : (sAsg (rP' (callF m__law_take (aCons (kVar 0) (aCons (pE (kConst (.int 6))) aNil)))) (gSet 5)) [.io B2, .dat (.int many), .dat (.int other), (.dat (.tuple xs)), (.dat (.tuple (sortD ((dedK [] kl).map kD)))), .un, .un, .un, .un, .un, .un, .un] = .nx [.io B3, .dat (.int many), .dat (.int other), (.dat (.tuple xs)), (.dat (.tuple (sortD ((dedK [] kl).map kD)))), (.dat (.int most)), .un, .un, .un, .un, .un, .un] := e_asg (e_map z3) rfl
  obtain ⟨ds, B4, z4, hB4, hd⟩ := things_ok hB3 (other := other) (most := most) h0 h1 (xs := xs) (by omega) hlot
  obtain ⟨ε', w, f6, f7, f8, f9, f10, f11, rfl⟩ := e_for (g := gSet 6) (F := rowB) (St := fun ε => ∃ e6 e7 e8 e9 e10 e11, ε = [.io B4, .dat (.int many), .dat (.int other), (.dat (.tuple xs)), (.dat (.tuple (sortD ((dedK [] kl).map kD)))), (.dat (.int most)), e6, e7, e8, e9, e10, e11]) ds [.io B4, .dat (.int many), .dat (.int other), (.dat (.tuple xs)), (.dat (.tuple (sortD ((dedK [] kl).map kD)))), (.dat (.int most)), .un, .un, .un, .un, .un, .un] ⟨_, _, _, _, _, _, rfl⟩ (fun d hm ε hε => by
    obtain ⟨e6, e7, e8, e9, e10, e11, rfl⟩ := hε
    obtain ⟨g7, g8, g9, g10, hg⟩ := row_turn (a0 := .io B4) (e3 := (.dat (.tuple xs))) (e4 := (.dat (.tuple (sortD ((dedK [] kl).map kD))))) (e7 := e7) (e8 := e8) (e9 := e9) (e10 := e10) (e11 := e11) (other := other) (most := most) h0 h1 (hd d hm)
    exact ⟨_, _, rfl, hg, _, _, _, _, _, _, rfl⟩)
  have s4 : sFor (wItems (kTup (aCons (pE (eP (kVar 3))) (aCons (pE (eP (kVar 4))) (aCons (pE (nD (nCall listN (aCons (kVar 4) aNil)))) (aCons (pE (kRev (kVar 4))) (aCons (pE (op2 addD (kVar 4) (pE (kSl (kVar 4) oNone (oSome (kConst (.int 1))))))) (aCons (pE (kTup aNil)) (aCons (pE (kConst .none)) (aCons (pE (kConst (.int 3))) (aCons (pE (kTup (aCons (pE (kConst (.int 0))) (aCons (pE (kConst (.int 0))) aNil)))) (aCons (pE (kTup (aCons (pE (kConst (.int 1))) (aCons (pE (kConst (.int 0))) aNil)))) (aCons (pE (rP' (callF m__law_order (aCons (kVar 0) (aCons (pE (eP (kVar 1))) aNil))))) (aCons (pE (tU (nRg1 (eP (kVar 1))))) (aCons (pE (kConst (.dict []))) aNil))))))))))))))) (gSet 6) rowB [.io B3, .dat (.int many), .dat (.int other), (.dat (.tuple xs)), (.dat (.tuple (sortD ((dedK [] kl).map kD)))), (.dat (.int most)), .un, .un, .un, .un, .un, .un] = .nx [.io B4, .dat (.int many), .dat (.int other), (.dat (.tuple xs)), (.dat (.tuple (sortD ((dedK [] kl).map kD)))), (.dat (.int most)), f6, f7, f8, f9, f10, f11] := e_sfor z4 w
  exact ⟨B4, e_fnR (e_seq s1 (e_seq s2 (e_seq s3 (e_seq s4 rfl)))) rfl, hB4⟩
end K01
/-! K01la: the plain law of k01: the loop of law, its names -/
namespace K01
open PySem PySem.Spec PyProof.Rows L2 DL
/-- the slots of law in the loop over names -/
abbrev LS (e0 e1 e2 e3 e4 e7 e8 : Ent) (lo hi : Int) (d : PyData) (e10 e11 e12 : Ent) : Sl := [e0, e1, e2, e3, e4, .dat (.int lo), .dat (.int hi), e7, e8, .dat d, e10, e11, e12]
def right1 (d : PyData) : Bool := match d with
  | .tuple xs => xs.all nameB
  | _ => false
theorem named_turn {e0 e1 e2 e3 e4 e7 e8 e10 e11 : Ent} {lo hi : Int} {d : PyData} (hs : ∀ xs, d = .tuple xs → xs.length ≤ 4000 ∧ ∀ x ∈ xs, ∀ z, x = .str z → z.length ≤ 16777216) :
    kAnd (kIsa "tuple" (kVar 9)) (op2 eqD (pE (nD (nLc (wItems (eP (kVar 9))) [12] (gSet 12) (jNot (vB (rP' (callF m__law_named (aCons (pE (eP (kVar 12))) aNil))))) (kConst (.int 1))))) (pE (nD (nLst aNil)))) (LS e0 e1 e2 e3 e4 e7 e8 lo hi d e10 e11 .un) = .ok (.bool (right1 d)) (LS e0 e1 e2 e3 e4 e7 e8 lo hi d e10 e11 .un) := by
  cases d with
  | tuple xs =>
    have comp : nLc (wItems (eP (kVar 9))) [12] (gSet 12) (jNot (vB (rP' (callF m__law_named (aCons (pE (eP (kVar 12))) aNil))))) (kConst (.int 1)) (LS e0 e1 e2 e3 e4 e7 e8 lo hi (.tuple xs) e10 e11 .un) = .ok (keepF (fun x => !nameB x) (fun _ => .int 1) xs) (LS e0 e1 e2 e3 e4 e7 e8 lo hi (.tuple xs) e10 e11 .un) := by
      refine e_lc rfl (Nat.le_trans (hs xs rfl).1 (by decide)) rfl fun x hx => ⟨LS e0 e1 e2 e3 e4 e7 e8 lo hi (.tuple xs) e10 e11 (.dat x), LS e0 e1 e2 e3 e4 e7 e8 lo hi (.tuple xs) e10 e11 (.dat x), rfl, ?_, fun _ => ⟨_, rfl, rfl⟩, fun _ => rfl⟩
      exact e_jnot (e_toB (e_map (e_callD [x] (e_acD rfl e_acN) (isnamed ((hs xs rfl).2 x hx)))))
    have nk := none_kept (fun x => !nameB x) xs
    simp only [Bool.not_not] at nk
    exact e_and1 (ε1 := LS e0 e1 e2 e3 e4 e7 e8 lo hi (.tuple xs) e10 e11 .un) rfl (e_op2 (e_map (e_map comp)) (e_map rfl) rfl rfl nk)
  | none => exact e_and0 rfl
  | bool _ => exact e_and0 rfl
  | int _ => exact e_and0 rfl
  | str _ => exact e_and0 rfl
  | list _ => exact e_and0 rfl
  | dict _ => exact e_and0 rfl
end K01
/-! K01lb: the plain law of k01: names seen ahead -/
namespace K01
open PySem PySem.Spec PyProof.Rows L2 DL
theorem plain_names : ∀ {xs : List PyData}, (∀ x ∈ xs, nameB x = true) → PyData.plainAll xs = true ∧ PyData.depthAll xs = 0
  | [], _ => ⟨rfl, rfl⟩
  | x :: r, h => by
    obtain ⟨h1, h2⟩ := plain_names fun y hy => h y (List.mem_cons_of_mem _ hy)
    obtain ⟨z, rfl⟩ := name_key (h x List.mem_cons_self)
    constructor
    · unfold PyData.plainAll
      rw [h1]
      rfl
    · unfold PyData.depthAll
      rw [h2]
      rfl
theorem cut_take (xs : List PyData) (i : Nat) : DL.cutD xs none (some (i : Int)) = xs.take i := by
  unfold DL.cutD
  rw [show HT.sIx xs.length 0 none = 0 from rfl, show HT.sIx xs.length xs.length (some (i : Int)) = min i xs.length from HT.sIx_nat _ _ i, List.drop_zero, Nat.sub_zero]
  rw [List.take_eq_take_iff]
  omega
theorem in_ahead {xs : List PyData} (h : ∀ x ∈ xs, nameB x = true) {i : Nat} (hi : i < xs.length) : inD xs[i] (.tuple (xs.take i)) = some (.bool (aheadB xs i)) := by
  obtain ⟨h1, h2⟩ := plain_names (xs := xs.take i) fun y hy => h y (List.mem_of_mem_take hy)
  have hx := h xs[i] (List.getElem_mem hi)
  have e : aheadB xs i = (xs.take i).any fun y => PyData.eqv y xs[i] := by
    unfold aheadB
    rw [List.getElem?_eq_getElem hi]
  rw [e]
  obtain ⟨z, hz⟩ := name_key hx
  rw [hz]
  exact if_pos ⟨h1, rfl, by rw [h2]; exact Nat.le_trans (Nat.min_le_left _ _) (by decide)⟩
end K01
/-! K01lc: the plain law of k01: right in the loop over names -/
namespace K01
open PySem PySem.Spec PyProof.Rows L2 DL
def right2 (d : PyData) : Bool := match d with
  | .tuple xs => xs.all nameB && (List.range xs.length).all fun i => !aheadB xs i
  | _ => false
theorem at_nat {xs : List PyData} {i : Nat} (hi : i < xs.length) : atI xs (i : Int) = some xs[i] := by
  have e : ixN xs.length (i : Int) = some i := by
    unfold ixN
    simp [hi]
  unfold L2.atI
  rw [e, Option.bind_some, List.getElem?_eq_getElem hi]
theorem ahead_turn {e0 e1 e2 e3 e4 e7 e8 e12 : Ent} {lo hi : Int} {d : PyData} (hs : ∀ xs, d = .tuple xs → xs.length ≤ 4000) :
    kAnd (eP (kVar 10)) (op2 eqD (pE (nD (nLc (wRange1 (kCall lenD (aCons (kVar 9) aNil))) [11] (gSet 11) (vB (op2 inD (pE (op2 ixD (kVar 9) (kVar 11))) (pE (kSl (kVar 9) oNone (oSome (eP (kVar 11))))))) (kConst (.int 1))))) (pE (nD (nLst aNil)))) (LS e0 e1 e2 e3 e4 e7 e8 lo hi d (.dat (.bool (right1 d))) .un e12) = .ok (.bool (right2 d)) (LS e0 e1 e2 e3 e4 e7 e8 lo hi d (.dat (.bool (right1 d))) .un e12) := by
  cases d with
  | tuple xs =>
    show _ = Out.ok (PyData.bool (xs.all nameB && (List.range xs.length).all fun i => !aheadB xs i)) _
    refine e_andB (h1 := eP (kVar 10)) rfl fun hn => ?_
    have hn : ∀ x ∈ xs, nameB x = true := List.all_eq_true.mp hn
    have hL := hs xs rfl
    have hwr : wRange1 (kCall lenD (aCons (kVar 9) aNil)) (LS e0 e1 e2 e3 e4 e7 e8 lo hi (.tuple xs) (.dat (.bool (right1 (.tuple xs)))) .un e12) = .ok (rangeD 0 xs.length) (LS e0 e1 e2 e3 e4 e7 e8 lo hi (.tuple xs) (.dat (.bool (right1 (.tuple xs)))) .un e12) :=
by
      unfold wRange1
      rw [show kCall lenD (aCons (kVar 9) aNil) (LS e0 e1 e2 e3 e4 e7 e8 lo hi (.tuple xs) (.dat (.bool (right1 (.tuple xs)))) .un e12) = .ok (.int xs.length) (LS e0 e1 e2 e3 e4 e7 e8 lo hi (.tuple xs) (.dat (.bool (right1 (.tuple xs)))) .un e12) from rfl, Out.bind_ok]
      dsimp only
      exact if_pos ⟨by omega, by omega⟩
    have comp := e_lc (vs := [11]) (g := gSet 11) (c := vB (op2 inD (pE (op2 ixD (kVar 9) (kVar 11))) (pE (kSl (kVar 9) oNone (oSome (eP (kVar 11)))))) ) (f := kConst (.int 1)) (p := fun x => match x with | .int i => aheadB xs i.toNat | _ => false) (y := fun _ => .int 1) hwr (by rw [range_len]; omega) rfl fun x hx => by
      obtain ⟨j, rfl, j0, j1⟩ := range_mem hx
      obtain ⟨i, rfl⟩ : ∃ i : Nat, j = (i : Int) := ⟨j.toNat, by omega⟩
      have hi' : i < xs.length := by omega
      refine ⟨LS e0 e1 e2 e3 e4 e7 e8 lo hi (.tuple xs) (.dat (.bool (right1 (.tuple xs)))) (.dat (.int i)) e12, LS e0 e1 e2 e3 e4 e7 e8 lo hi (.tuple xs) (.dat (.bool (right1 (.tuple xs)))) (.dat (.int i)) e12, rfl, ?_, fun _ => ⟨_, rfl, rfl⟩, fun _ => rfl⟩
      exact e_toB (e_op2 (e_map (e_op2 (f1 := kVar 9) (f2 := kVar 11) rfl rfl rfl rfl (at_nat hi'))) (e_map (e_sl (f := kVar 9) (x := none) (y := some (i : Int)) rfl rfl rfl rfl (congrArg (fun t => some (PyData.tuple t)) (cut_take xs i)))) rfl rfl (in_ahead hn hi'))
    have nk := none_kept (fun x => match x with | .int i => aheadB xs i.toNat | _ => false) (rangeD 0 xs.length)
    have er : ((rangeD 0 xs.length).all fun d => !(match d with | .int i => aheadB xs i.toNat | _ => false)) = (List.range xs.length).all fun i => !aheadB xs i := by
      unfold rangeD
      rw [List.all_map]
      refine congrArg (fun f => (List.range xs.length).all f) (funext fun i => ?_)
      show (!aheadB xs ((0 + (i : Int)).toNat)) = _
      rw [Int.zero_add]
      rfl
    rw [er] at nk
    exact e_op2 (e_map (e_map comp)) (e_map rfl) rfl rfl nk
  | none => exact e_and0 rfl
  | bool _ => exact e_and0 rfl
  | int _ => exact e_and0 rfl
  | str _ => exact e_and0 rfl
  | list _ => exact e_and0 rfl
  | dict _ => exact e_and0 rfl
end K01
/-! K01ld: the plain law of k01: one turn of the loop over names -/
namespace K01
open PySem PySem.Spec PyProof.Rows L2 DL
noncomputable def namB : Sl → SO := (sSeq (sAsg (kAnd (kIsa "tuple" (kVar 9)) (op2 eqD (pE (nD (nLc (wItems (eP (kVar 9))) [12] (gSet 12) (jNot (vB (rP' (callF m__law_named (aCons (pE (eP (kVar 12))) aNil))))) (kConst (.int 1))))) (pE (nD (nLst aNil))))) (gSet 10))
  (sSeq (sAsg (kAnd (eP (kVar 10)) (op2 eqD (pE (nD (nLc (wRange1 (kCall lenD (aCons (kVar 9) aNil))) [11] (gSet 11) (vB (op2 inD (pE (op2 ixD (kVar 9) (kVar 11))) (pE (kSl (kVar 9) oNone (oSome (eP (kVar 11))))))) (kConst (.int 1))))) (pE (nD (nLst aNil))))) (gSet 10))
  (sIf (jNot (vB (rP' (callF m__law_alike (aCons (pE (rP' (callF m_are_names (aCons (pE (eP (kVar 9))) (aCons (pE (eP (kVar 5))) (aCons (pE (eP (kVar 6))) aNil)))))) (aCons (pE (kAnd (eP (kVar 10)) (kChain leD leD (kVar 5) (pE (kCall lenD (aCons (kVar 9) aNil))) (kVar 6)))) aNil))))))
  (sRet (kConst (.bool false)))
  sNil)))
theorem due5 {e0 e1 e2 e3 e4 e7 e8 e11 e12 : Ent} {lo hi : Int} {d : PyData} (hs : ∀ xs, d = .tuple xs → xs.length ≤ 4000) : kAnd (eP (kVar 10)) (kChain leD leD (kVar 5) (pE (kCall lenD (aCons (kVar 9) aNil))) (kVar 6)) (LS e0 e1 e2 e3 e4 e7 e8 lo hi d (.dat (.bool (right2 d))) e11 e12) = .ok (.bool (namesB d lo hi)) (LS e0 e1 e2 e3 e4 e7 e8 lo hi d (.dat (.bool (right2 d))) e11 e12) := by
  cases d with
  | tuple xs =>
    have e : namesB (.tuple xs) lo hi = (right2 (.tuple xs) && (decide (lo ≤ (xs.length : Int)) && decide ((xs.length : Int) ≤ hi))) := Bool.and_comm _ _
    rw [e]
    exact e_andB (h1 := eP (kVar 10)) rfl fun _ => e_chain (f1 := kVar 5) (f3 := kVar 6) rfl (e_map rfl) rfl rfl (le_int _ _) (fun _ => rfl) (fun _ => rfl) fun _ => le_int _ _
  | none => exact e_and0 rfl
  | bool _ => exact e_and0 rfl
  | int _ => exact e_and0 rfl
  | str _ => exact e_and0 rfl
  | list _ => exact e_and0 rfl
  | dict _ => exact e_and0 rfl
end K01
/-! K01le: the plain law of k01: one turn of the loop over names, whole -/
namespace K01
open PySem PySem.Spec PyProof.Rows L2 DL
theorem names_turn {e0 e1 e2 e3 e4 e7 e8 e10 : Ent} {lo hi : Int} {d : PyData} (hs : ∀ xs, d = .tuple xs → xs.length ≤ 4000 ∧ ∀ x ∈ xs, ∀ z, x = .str z → z.length ≤ 16777216) : namB (LS e0 e1 e2 e3 e4 e7 e8 lo hi d e10 .un .un) = .nx (LS e0 e1 e2 e3 e4 e7 e8 lo hi d (.dat (.bool (right2 d))) .un .un) := by
  have s1 : (sAsg (kAnd (kIsa "tuple" (kVar 9)) (op2 eqD (pE (nD (nLc (wItems (eP (kVar 9))) [12] (gSet 12) (jNot (vB (rP' (callF m__law_named (aCons (pE (eP (kVar 12))) aNil))))) (kConst (.int 1))))) (pE (nD (nLst aNil))))) (gSet 10)) (LS e0 e1 e2 e3 e4 e7 e8 lo hi d e10 .un .un) = .nx (LS e0 e1 e2 e3 e4 e7 e8 lo hi d (.dat (.bool (right1 d))) .un .un) := e_asg (named_turn hs) rfl
  have s2 : (sAsg (kAnd (eP (kVar 10)) (op2 eqD (pE (nD (nLc (wRange1 (kCall lenD (aCons (kVar 9) aNil))) [11] (gSet 11) (vB (op2 inD (pE (op2 ixD (kVar 9) (kVar 11))) (pE (kSl (kVar 9) oNone (oSome (eP (kVar 11))))))) (kConst (.int 1))))) (pE (nD (nLst aNil))))) (gSet 10)) (LS e0 e1 e2 e3 e4 e7 e8 lo hi d (.dat (.bool (right1 d))) .un .un) = .nx (LS e0 e1 e2 e3 e4 e7 e8 lo hi d (.dat (.bool (right2 d))) .un .un) := e_asg (ahead_turn fun xs h => (hs xs h).1) rfl
  have t1 : callF m_are_names (aCons (pE (eP (kVar 9))) (aCons (pE (eP (kVar 5))) (aCons (pE (eP (kVar 6))) aNil))) (LS e0 e1 e2 e3 e4 e7 e8 lo hi d (.dat (.bool (right2 d))) .un .un) = .ok (.dat (.bool (namesB d lo hi))) (LS e0 e1 e2 e3 e4 e7 e8 lo hi d (.dat (.bool (right2 d))) .un .un) := e_callD [d, .int lo, .int hi] rfl (arenames lo hi fun xs h => ⟨Nat.le_trans (hs xs h).1 (by decide), (hs xs h).2⟩)
  have al : m__law_alike [.dat (.bool (namesB d lo hi)), .dat (.bool (namesB d lo hi))] = .ok (.dat (.bool true)) [.un, .un] := alike_ok ⟨rfl, (by decide : (1 : Nat) ≤ 16777216)⟩
  have s3 : (sIf (jNot (vB (rP' (callF m__law_alike (aCons (pE (rP' (callF m_are_names (aCons (pE (eP (kVar 9))) (aCons (pE (eP (kVar 5))) (aCons (pE (eP (kVar 6))) aNil)))))) (aCons (pE (kAnd (eP (kVar 10)) (kChain leD leD (kVar 5) (pE (kCall lenD (aCons (kVar 9) aNil))) (kVar 6)))) aNil))))))
  (sRet (kConst (.bool false)))
  sNil) (LS e0 e1 e2 e3 e4 e7 e8 lo hi d (.dat (.bool (right2 d))) .un .un) = .nx (LS e0 e1 e2 e3 e4 e7 e8 lo hi d (.dat (.bool (right2 d))) .un .un) := e_if0 (e_jnot (b := true) (e_toB (e_map (e_callD [.bool (namesB d lo hi), .bool (namesB d lo hi)] (e_acD (e_map t1) (e_acD (due5 fun xs h => (hs xs h).1) e_acN)) al)))) rfl
  exact e_seq s1 (e_seq s2 s3)
end K01
/-! K01lf: the plain law of k01: drawing with the bag in slot 1 -/
namespace K01
open PySem PySem.Spec PyProof.Rows L2 DL
theorem take1 {B : List PyData} (hB : BagOk B) {n : Int} (h : 0 < n) (h2 : n < 1073741824) (s0 : Ent) (r : Sl) : ∃ v B', callF m__law_take (aCons (kVar 1) (aCons (pE (kConst (.int n))) aNil)) (s0 :: .own B :: r) = .ok (.dat (.int v)) (s0 :: .own B' :: r) ∧ BagOk B' ∧ 0 ≤ v ∧ v < n := by
  obtain ⟨v, B', z, hB', v0, v1⟩ := take_ok hB h h2
  have z' : m__law_take [.io B, .dat (.int n)] = .ok (.dat (.int v)) [.io B', .un] := z
  have hargs : aCons (kVar 1) (aCons (pE (kConst (.int n))) aNil) (s0 :: .own B :: r) = .ok [.at 1, .dat (.int n)] (s0 :: .own B :: r) := rfl
  exact ⟨v, B', (e_callF hargs rfl (show ([1] : List Nat).Nodup by decide) z').trans rfl, hB', v0, v1⟩
theorem some1 {B : List PyData} (hB : BagOk B) {L : Sl → Out (List PyData)} {xs : List PyData} {s0 : Ent} {r : Sl} (hL : L (s0 :: .own B :: r) = .ok xs (s0 :: .own B :: r)) (h0 : xs ≠ []) (hl : xs.length < 1000000) : ∃ d B', callF m__law_some (aCons (kVar 1) (aCons (pE (nD L)) aNil)) (s0 :: .own B :: r) = .ok (.dat d) (s0 :: .own B' :: r) ∧ BagOk B' ∧ d ∈ xs := by
  obtain ⟨d, B', z, hB', hd⟩ := some_ok hB (t := .list xs) (.inl rfl) h0 hl
  have z' : m__law_some [.io B, .dat (.list xs)] = .ok (.dat d) [.io B', .un] := z
  have hargs : aCons (kVar 1) (aCons (pE (nD L)) aNil) (s0 :: .own B :: r) = .ok [.at 1, .dat (.list xs)] (s0 :: .own B :: r) := e_acons (f := kVar 1) rfl (e_acons (e_map (e_map hL)) e_anil)
  exact ⟨d, B', (e_callF hargs rfl (show ([1] : List Nat).Nodup by decide) z').trans rfl, hB', hd⟩
theorem word1 {B : List PyData} (hB : BagOk B) (s0 : Ent) (r : Sl) : ∃ d B', callF m__law_a_word (aCons (kVar 1) aNil) (s0 :: .own B :: r) = .ok (.dat d) (s0 :: .own B' :: r) ∧ BagOk B' ∧ wordOk d = true := by
  obtain ⟨d, B', z, hB', hd⟩ := word_ok hB
  have hargs : aCons (kVar 1) aNil (s0 :: .own B :: r) = .ok [.at 1] (s0 :: .own B :: r) := rfl
  exact ⟨d, B', (e_callF hargs rfl (show ([1] : List Nat).Nodup by decide) z).trans rfl, hB', hd⟩
end K01
/-! K01lg: the plain law of k01: a comprehension that draws, the bag in slot 1 -/
namespace K01
open PySem PySem.Spec PyProof.Rows L2 DL
theorem draws1 {s0 : Ent} {r : Sl} {r' : PyData → Sl} {f : Sl → Out PyData} {Q : PyData → Prop} (hw : ∀ B, wipeE (s0 :: .own B :: r) [11] = s0 :: .own B :: r) (hr : ∀ B1 B2, restE (s0 :: .own B1 :: r) (s0 :: .own B2 :: r) [11] = s0 :: .own B2 :: r)
    (hg : ∀ d B, gSet 11 d (s0 :: .own B :: r) = some (s0 :: .own B :: r' d)) (hw' : ∀ d B, wipeE (s0 :: .own B :: r' d) [11] = s0 :: .own B :: r)
    (hf : ∀ B d, BagOk B → ∃ y B', f (s0 :: .own B :: r' d) = .ok y (s0 :: .own B' :: r' d) ∧ BagOk B' ∧ Q y) {B : List PyData} (hB : BagOk B) {n : Int} (h : 0 < n) (h2 : n ≤ 1000) :
    ∃ ys B', nLc (wRange1 (rP' (callF m__law_take (aCons (kVar 1) (aCons (pE (kConst (.int n))) aNil))))) [11] (gSet 11) jYes f (s0 :: .own B :: r) = .ok ys (s0 :: .own B' :: r) ∧ BagOk B' ∧ (∀ y ∈ ys, Q y) ∧ ys.length ≤ n.toNat := by
  obtain ⟨v, B1, z, hB1, v0, v1⟩ := take1 hB h (by omega) s0 r
  have hi : wRange1 (rP' (callF m__law_take (aCons (kVar 1) (aCons (pE (kConst (.int n))) aNil)))) (s0 :: .own B :: r) = .ok (rangeD 0 v.toNat) (s0 :: .own B1 :: r) := by
    unfold wRange1
    rw [show rP' (callF m__law_take (aCons (kVar 1) (aCons (pE (kConst (.int n))) aNil))) (s0 :: .own B :: r) = .ok (.int v) (s0 :: .own B1 :: r) from e_map z, Out.bind_ok]
    dsimp only
    exact if_pos ⟨by omega, by omega⟩
  obtain ⟨ys, ε', h1, ⟨B2, hB2, h3⟩, h4, h5⟩ := e_lcD (vs := [11]) (g := gSet 11) (c := jYes) (f := f) (St := fun W => ∃ B, BagOk B ∧ W = s0 :: .own B :: r) (Q := Q) hi (by rw [range_len]; omega) ⟨B1, hB1, hw B1⟩ fun d _ W hW => by
    obtain ⟨B3, hB3, rfl⟩ := hW
    obtain ⟨y, B4, f1, f2, f3⟩ := hf B3 d hB3
    exact ⟨_, _, true, hg d B3, rfl, (fun _ => ⟨_, y, f1, f3, B4, f2, hw' d B4⟩), fun h => nomatch h⟩
  rw [← DL.rest_wipe (ε2 := ε'), h3, hr] at h1
  rw [range_len] at h5
  exact ⟨ys, B2, h1, hB2, h4, by omega⟩
end K01
/-! K01lh: the plain law of k01: a word and a number -/
namespace K01
open PySem PySem.Spec PyProof.Rows L2 DL
theorem fine2 (a b : Bool) : m__law_alike [.dat (.list [.bool a, .bool b]), .dat (.list [.bool a, .bool b])] = .ok (.dat (.bool true)) [.un, .un] := alike_ok ⟨rfl, (by decide : (3 : Nat) ≤ 16777216)⟩
theorem two_lst {h1 h2 : Sl → Out PyData} {ε : Sl} {a b : PyData} (p : h1 ε = .ok a ε) (q : h2 ε = .ok b ε) : nLst (aCons (pE h1) (aCons (pE h2) aNil)) ε = .ok [a, b] ε := e_lst (ds := [a, b]) (e_acD p (e_acD q e_acN)) rfl (show (2 : Nat) ≤ 1000 by decide)
theorem law_o3 {e0 e1 e2 e7 e8 e9 e10 e11 e12 : Ent} {lo hi : Int} {w m : PyData} (hs : ∀ z, w = .str z → z.length ≤ 16777216) : (sIf (jNot (vB (rP' (callF m__law_alike (aCons (pE (nD (nLst (aCons (pE (rP' (callF m_is_name (aCons (pE (eP (kVar 3))) aNil)))) (aCons (pE (rP' (callF m_is_integer (aCons (pE (eP (kVar 4))) aNil)))) aNil))))) (aCons (pE (nD (nLst (aCons (pE (rP' (callF m__law_named (aCons (pE (eP (kVar 3))) aNil)))) (aCons (pE (rP' (callF m__law_is_int (aCons (pE (eP (kVar 4))) aNil)))) aNil))))) aNil))))))
  (sRet (kConst (.bool false)))
  sNil) [e0, e1, e2, .dat w, .dat m, .dat (.int lo), .dat (.int hi), e7, e8, e9, e10, e11, e12] = .nx [e0, e1, e2, .dat w, .dat m, .dat (.int lo), .dat (.int hi), e7, e8, e9, e10, e11, e12] := by
  have t1 : callF m_is_name (aCons (pE (eP (kVar 3))) aNil) [e0, e1, e2, .dat w, .dat m, .dat (.int lo), .dat (.int hi), e7, e8, e9, e10, e11, e12] = .ok (.dat (.bool (nameB w))) [e0, e1, e2, .dat w, .dat m, .dat (.int lo), .dat (.int hi), e7, e8, e9, e10, e11, e12] := e_callD [w] rfl (isname hs)
  have t2 : callF m_is_integer (aCons (pE (eP (kVar 4))) aNil) [e0, e1, e2, .dat w, .dat m, .dat (.int lo), .dat (.int hi), e7, e8, e9, e10, e11, e12] = .ok (.dat (.bool (isI m))) [e0, e1, e2, .dat w, .dat m, .dat (.int lo), .dat (.int hi), e7, e8, e9, e10, e11, e12] := e_callD [m] rfl (isint m)
  have t3 : callF m__law_named (aCons (pE (eP (kVar 3))) aNil) [e0, e1, e2, .dat w, .dat m, .dat (.int lo), .dat (.int hi), e7, e8, e9, e10, e11, e12] = .ok (.dat (.bool (nameB w))) [e0, e1, e2, .dat w, .dat m, .dat (.int lo), .dat (.int hi), e7, e8, e9, e10, e11, e12] := e_callD [w] rfl (isnamed hs)
  have t4 : callF m__law_is_int (aCons (pE (eP (kVar 4))) aNil) [e0, e1, e2, .dat w, .dat m, .dat (.int lo), .dat (.int hi), e7, e8, e9, e10, e11, e12] = .ok (.dat (.bool (isI m))) [e0, e1, e2, .dat w, .dat m, .dat (.int lo), .dat (.int hi), e7, e8, e9, e10, e11, e12] := e_callD [m] rfl (isint' m)
  exact e_if0 (e_jnot (b := true) (e_toB (e_map (e_callD [(.list [.bool (nameB w), .bool (isI m)]), (.list [.bool (nameB w), .bool (isI m)])] (e_acD (e_map (two_lst (e_map t1) (e_map t2))) (e_acD (e_map (two_lst (e_map t3) (e_map t4))) e_acN)) (fine2 _ _))))) rfl
theorem idx_lt (i hi : Int) : idx (.int i) hi = (decide (0 ≤ i) && decide (i < hi)) := by
  show (decide (0 ≤ i) && decide (i ≤ hi - 1)) = _
  congr 1
  exact decide_eq_decide.mpr ⟨fun h => by omega, fun h => by omega⟩
theorem law_o4 {e0 e1 e2 e7 e8 e9 e10 e11 e12 : Ent} {lo hi : Int} {w m : PyData} : (sAsg (nD (nLst (aCons (pE (kAnd (rP' (callF m__law_is_int (aCons (pE (eP (kVar 4))) aNil))) (kChain leD leD (kVar 5) (kVar 4) (kVar 6)))) (aCons (pE (kAnd (rP' (callF m__law_is_int (aCons (pE (eP (kVar 4))) aNil))) (kChain leD ltD (pE (kConst (.int 0))) (kVar 4) (kVar 6)))) aNil)))) (gSet 7)) [e0, e1, e2, .dat w, .dat m, .dat (.int lo), .dat (.int hi), e7, e8, e9, e10, e11, e12] = .nx [e0, e1, e2, .dat w, .dat m, .dat (.int lo), .dat (.int hi), (.dat (.list [.bool (within m lo hi), .bool (idx m hi)])), e8, e9, e10, e11, e12] := by
  have t4 : callF m__law_is_int (aCons (pE (eP (kVar 4))) aNil) [e0, e1, e2, .dat w, .dat m, .dat (.int lo), .dat (.int hi), e7, e8, e9, e10, e11, e12] = .ok (.dat (.bool (isI m))) [e0, e1, e2, .dat w, .dat m, .dat (.int lo), .dat (.int hi), e7, e8, e9, e10, e11, e12] := e_callD [m] rfl (isint' m)
  have a1 : kAnd (rP' (callF m__law_is_int (aCons (pE (eP (kVar 4))) aNil))) (kChain leD leD (kVar 5) (kVar 4) (kVar 6)) [e0, e1, e2, .dat w, .dat m, .dat (.int lo), .dat (.int hi), e7, e8, e9, e10, e11, e12] = .ok (.bool (within m lo hi)) [e0, e1, e2, .dat w, .dat m, .dat (.int lo), .dat (.int hi), e7, e8, e9, e10, e11, e12] := by
    cases m with
    | int i => exact e_and1 (e_map t4) (e_chain (f1 := kVar 5) (f2 := kVar 4) (f3 := kVar 6) rfl rfl rfl rfl (le_int _ _) (fun _ => rfl) (fun _ => rfl) fun _ => le_int _ _)
    | _ => exact e_and0 (e_map t4)
  have a2 : kAnd (rP' (callF m__law_is_int (aCons (pE (eP (kVar 4))) aNil))) (kChain leD ltD (pE (kConst (.int 0))) (kVar 4) (kVar 6)) [e0, e1, e2, .dat w, .dat m, .dat (.int lo), .dat (.int hi), e7, e8, e9, e10, e11, e12] = .ok (.bool (idx m hi)) [e0, e1, e2, .dat w, .dat m, .dat (.int lo), .dat (.int hi), e7, e8, e9, e10, e11, e12] := by
    cases m with
    | int i =>
      rw [idx_lt]
      exact e_and1 (e_map t4) (e_chain (f2 := kVar 4) (f3 := kVar 6) (e_map rfl) rfl rfl rfl (le_int _ _) (fun _ => rfl) (fun _ => rfl) fun _ => lt_int _ _)
    | _ => exact e_and0 (e_map t4)
  exact e_asg (e_map (two_lst a1 a2)) rfl
theorem law_o5 {e0 e1 e2 e8 e9 e10 e11 e12 : Ent} {lo hi : Int} {w m : PyData} : (sIf (jNot (vB (rP' (callF m__law_alike (aCons (pE (nD (nLst (aCons (pE (rP' (callF m_is_within (aCons (pE (eP (kVar 4))) (aCons (pE (eP (kVar 5))) (aCons (pE (eP (kVar 6))) aNil)))))) (aCons (pE (rP' (callF m_is_index (aCons (pE (eP (kVar 4))) (aCons (pE (eP (kVar 6))) aNil))))) aNil))))) (aCons (pE (eP (kVar 7))) aNil))))))
  (sRet (kConst (.bool false)))
  sNil) [e0, e1, e2, .dat w, .dat m, .dat (.int lo), .dat (.int hi), (.dat (.list [.bool (within m lo hi), .bool (idx m hi)])), e8, e9, e10, e11, e12] = .nx [e0, e1, e2, .dat w, .dat m, .dat (.int lo), .dat (.int hi), (.dat (.list [.bool (within m lo hi), .bool (idx m hi)])), e8, e9, e10, e11, e12] := by
  have t1 : callF m_is_within (aCons (pE (eP (kVar 4))) (aCons (pE (eP (kVar 5))) (aCons (pE (eP (kVar 6))) aNil))) [e0, e1, e2, .dat w, .dat m, .dat (.int lo), .dat (.int hi), (.dat (.list [.bool (within m lo hi), .bool (idx m hi)])), e8, e9, e10, e11, e12] = .ok (.dat (.bool (within m lo hi))) [e0, e1, e2, .dat w, .dat m, .dat (.int lo), .dat (.int hi), (.dat (.list [.bool (within m lo hi), .bool (idx m hi)])), e8, e9, e10, e11, e12] := e_callD [m, .int lo, .int hi] rfl (iswithin m lo hi)
  have t2 : callF m_is_index (aCons (pE (eP (kVar 4))) (aCons (pE (eP (kVar 6))) aNil)) [e0, e1, e2, .dat w, .dat m, .dat (.int lo), .dat (.int hi), (.dat (.list [.bool (within m lo hi), .bool (idx m hi)])), e8, e9, e10, e11, e12] = .ok (.dat (.bool (idx m hi))) [e0, e1, e2, .dat w, .dat m, .dat (.int lo), .dat (.int hi), (.dat (.list [.bool (within m lo hi), .bool (idx m hi)])), e8, e9, e10, e11, e12] := e_callD [m, .int hi] rfl (isindex m hi)
  exact e_if0 (e_jnot (b := true) (e_toB (e_map (e_callD [(.list [.bool (within m lo hi), .bool (idx m hi)]), (.list [.bool (within m lo hi), .bool (idx m hi)])] (e_acD (e_map (two_lst (e_map t1) (e_map t2))) (e_acD (h := eP (kVar 7)) rfl e_acN)) (fine2 _ _))))) rfl
end K01
/-! K01li: the plain law of k01: the draws of a turn -/
namespace K01
open PySem PySem.Spec PyProof.Rows L2 DL
theorem law_o1 {B : List PyData} (hB : BagOk B) {e0 e2 e3 e4 e5 e6 e7 e8 e9 e10 : Ent} : ∃ w m B', (sPar2 3 4 (pR (rP' (callF m__law_a_word (aCons (kVar 1) aNil)))) (pR (rP' (callF m__law_some (aCons (kVar 1) (aCons (pE (nD (nLst (aCons (pE (kConst (.int 0))) (aCons (pE (kConst (.int 1))) (aCons (pE (kNeg (kConst (.int 1)))) (aCons (pE (kConst (.int 7))) (aCons (pE (kConst (.bool true))) (aCons (pE (kConst (.bool false))) (aCons (pE (kConst .none)) (aCons (pE (kConst (.str "1"))) (aCons (pE (op2 powD (pE (kConst (.int 10))) (pE (kConst (.int 40))))) (aCons (pE (kTup (aCons (pE (kConst (.int 1))) aNil))) aNil))))))))))))) aNil)))))) [e0, .own B, e2, e3, e4, e5, e6, e7, e8, e9, e10, .un, .un] = .nx [e0, .own B', e2, (.dat w), (.dat m), e5, e6, e7, e8, e9, e10, .un, .un] ∧ BagOk B' ∧ wordOk w = true := by
  obtain ⟨w, B1, z1, h1, hw⟩ := word1 hB e0 [e2, e3, e4, e5, e6, e7, e8, e9, e10, .un, .un]
  obtain ⟨m, B2, z2, h2, _⟩ := some1 h1 (s0 := e0) (r := [e2, e3, e4, e5, e6, e7, e8, e9, e10, .un, .un]) (L := (nLst (aCons (pE (kConst (.int 0))) (aCons (pE (kConst (.int 1))) (aCons (pE (kNeg (kConst (.int 1)))) (aCons (pE (kConst (.int 7))) (aCons (pE (kConst (.bool true))) (aCons (pE (kConst (.bool false))) (aCons (pE (kConst .none)) (aCons (pE (kConst (.str "1"))) (aCons (pE (op2 powD (pE (kConst (.int 10))) (pE (kConst (.int 40))))) (aCons (pE (kTup (aCons (pE (kConst (.int 1))) aNil))) aNil)))))))))))) (xs := [.int 0, .int 1, .int (-1), .int 7, .bool true, .bool false, .none, .str "1", .int (10 ^ 40), .tuple [.int 1]]) rfl (by decide) (by decide)
  refine ⟨w, m, B2, ?_, h2, hw⟩
  have p1 : (pR (rP' (callF m__law_a_word (aCons (kVar 1) aNil)))) [e0, .own B, e2, e3, e4, e5, e6, e7, e8, e9, e10, .un, .un] = .ok (.dat w) [e0, .own B1, e2, e3, e4, e5, e6, e7, e8, e9, e10, .un, .un] := e_map (e_map z1)
  have p2 : (pR (rP' (callF m__law_some (aCons (kVar 1) (aCons (pE (nD (nLst (aCons (pE (kConst (.int 0))) (aCons (pE (kConst (.int 1))) (aCons (pE (kNeg (kConst (.int 1)))) (aCons (pE (kConst (.int 7))) (aCons (pE (kConst (.bool true))) (aCons (pE (kConst (.bool false))) (aCons (pE (kConst .none)) (aCons (pE (kConst (.str "1"))) (aCons (pE (op2 powD (pE (kConst (.int 10))) (pE (kConst (.int 40))))) (aCons (pE (kTup (aCons (pE (kConst (.int 1))) aNil))) aNil))))))))))))) aNil))))) [e0, .own B1, e2, e3, e4, e5, e6, e7, e8, e9, e10, .un, .un] = .ok (.dat m) [e0, .own B2, e2, e3, e4, e5, e6, e7, e8, e9, e10, .un, .un] := e_map (e_map z2)
  exact (e_par2 (i := 3) (j := 4) p1 p2 ⟨(show (3 : Nat) < 13 by decide), (show (4 : Nat) < 13 by decide)⟩).trans rfl
end K01
/-! K01lj: the plain law of k01: the rest of a turn -/
namespace K01
open PySem PySem.Spec PyProof.Rows L2 DL
theorem law_o2 {B : List PyData} (hB : BagOk B) {e0 e2 e3 e4 e5 e6 e7 e8 e9 e10 : Ent} : ∃ lo hi B', (sPar2 5 6 (pR (op2 subD (pE (rP' (callF m__law_take (aCons (kVar 1) (aCons (pE (kConst (.int 4))) aNil))))) (pE (kConst (.int 1))))) (pR (rP' (callF m__law_take (aCons (kVar 1) (aCons (pE (kConst (.int 9))) aNil)))))) [e0, .own B, e2, e3, e4, e5, e6, e7, e8, e9, e10, .un, .un] = .nx [e0, .own B', e2, e3, e4, (.dat (.int lo)), (.dat (.int hi)), e7, e8, e9, e10, .un, .un] ∧ BagOk B' := by
  obtain ⟨v, B1, z1, h1, _, _⟩ := take1 hB (n := 4) (by decide) (by decide) e0 [e2, e3, e4, e5, e6, e7, e8, e9, e10, .un, .un]
  obtain ⟨u, B2, z2, h2, _, _⟩ := take1 h1 (n := 9) (by decide) (by decide) e0 [e2, e3, e4, e5, e6, e7, e8, e9, e10, .un, .un]
  have p1 : (pR (op2 subD (pE (rP' (callF m__law_take (aCons (kVar 1) (aCons (pE (kConst (.int 4))) aNil))))) (pE (kConst (.int 1))))) [e0, .own B, e2, e3, e4, e5, e6, e7, e8, e9, e10, .un, .un] = .ok (.dat (.int (v - 1))) [e0, .own B1, e2, e3, e4, e5, e6, e7, e8, e9, e10, .un, .un] := e_map (e_op2 (e_map (e_map z1)) (e_map rfl) rfl rfl rfl)
  have p2 : (pR (rP' (callF m__law_take (aCons (kVar 1) (aCons (pE (kConst (.int 9))) aNil))))) [e0, .own B1, e2, e3, e4, e5, e6, e7, e8, e9, e10, .un, .un] = .ok (.dat (.int u)) [e0, .own B2, e2, e3, e4, e5, e6, e7, e8, e9, e10, .un, .un] := e_map (e_map z2)
  exact ⟨v - 1, u, B2, (e_par2 (i := 5) (j := 6) p1 p2 ⟨(show (5 : Nat) < 13 by decide), (show (6 : Nat) < 13 by decide)⟩).trans rfl, h2⟩
theorem law_o6 {B : List PyData} (hB : BagOk B) {e0 e2 e3 e4 e5 e6 e7 e8 e9 e10 : Ent} : ∃ ws B', (sAsg (kCall tupleD (aCons (pE (nD (nLc (wRange1 (rP' (callF m__law_take (aCons (kVar 1) (aCons (pE (kConst (.int 4))) aNil))))) [11] (gSet 11) jYes (rP' (callF m__law_a_word (aCons (kVar 1) aNil)))))) aNil)) (gSet 8)) [e0, .own B, e2, e3, e4, e5, e6, e7, e8, e9, e10, .un, .un] = .nx [e0, .own B', e2, e3, e4, e5, e6, e7, (.dat (.tuple ws)), e9, e10, .un, .un] ∧ BagOk B' ∧ (∀ w ∈ ws, wordOk w = true) ∧ ws.length ≤ 4 := by
  obtain ⟨ws, B', z, h, hw, hl⟩ := draws1 (s0 := e0) (r := [e2, e3, e4, e5, e6, e7, e8, e9, e10, .un, .un]) (r' := fun d => [e2, e3, e4, e5, e6, e7, e8, e9, e10, (.dat d), .un]) (f := (rP' (callF m__law_a_word (aCons (kVar 1) aNil)))) (Q := fun y => wordOk y = true) (fun _ => rfl) (fun _ _ => rfl) (fun _ _ => rfl) (fun _ _ => rfl) (fun B d hB => by
    obtain ⟨w, B', z, h, hw⟩ := word1 hB e0 [e2, e3, e4, e5, e6, e7, e8, e9, e10, (.dat d), .un]
    exact ⟨w, B', e_map z, h, hw⟩) hB (n := 4) (by decide) (by decide)
  exact ⟨ws, B', e_asg (e_call (e_acons (e_map (e_map z)) e_anil) rfl rfl) rfl, h, hw, hl⟩
theorem word_str {w : PyData} (h : wordOk w = true) : ∀ z, w = .str z → z.length ≤ 16777216 := fun z e => by
  subst e
  unfold wordOk at h
  rw [Bool.and_eq_true, decide_eq_true_eq] at h
  exact Nat.le_trans h.2 (by decide)
theorem law_o7 {e0 e1 e2 e3 e4 e7 e9 e10 : Ent} {lo hi : Int} {ws : List PyData} (hw : ∀ w ∈ ws, wordOk w = true) (hl : ws.length ≤ 4) : ∃ f9 f10, (sFor (wItems (kTup (aCons (pE (eP (kVar 8))) (aCons (pE (nD (nCall listN (aCons (kVar 8) aNil)))) (aCons (pE (kConst .none)) (aCons (pE (op2 addD (kVar 8) (kVar 8))) (aCons (pE (kConst (.str "ab"))) (aCons (pE (kTup (aCons (pE (kConst (.str "a"))) (aCons (pE (kConst (.str "zz"))) aNil)))) aNil)))))))) (gSet 9)
  (sSeq (sAsg (kAnd (kIsa "tuple" (kVar 9)) (op2 eqD (pE (nD (nLc (wItems (eP (kVar 9))) [12] (gSet 12) (jNot (vB (rP' (callF m__law_named (aCons (pE (eP (kVar 12))) aNil))))) (kConst (.int 1))))) (pE (nD (nLst aNil))))) (gSet 10))
  (sSeq (sAsg (kAnd (eP (kVar 10)) (op2 eqD (pE (nD (nLc (wRange1 (kCall lenD (aCons (kVar 9) aNil))) [11] (gSet 11) (vB (op2 inD (pE (op2 ixD (kVar 9) (kVar 11))) (pE (kSl (kVar 9) oNone (oSome (eP (kVar 11))))))) (kConst (.int 1))))) (pE (nD (nLst aNil))))) (gSet 10))
  (sIf (jNot (vB (rP' (callF m__law_alike (aCons (pE (rP' (callF m_are_names (aCons (pE (eP (kVar 9))) (aCons (pE (eP (kVar 5))) (aCons (pE (eP (kVar 6))) aNil)))))) (aCons (pE (kAnd (eP (kVar 10)) (kChain leD leD (kVar 5) (pE (kCall lenD (aCons (kVar 9) aNil))) (kVar 6)))) aNil))))))
  (sRet (kConst (.bool false)))
  sNil)))) (([e0, e1, e2, e3, e4, (.dat (.int lo)), (.dat (.int hi)), e7, (.dat (.tuple ws)), e9, e10, .un, .un] : Sl)) = .nx [e0, e1, e2, e3, e4, (.dat (.int lo)), (.dat (.int hi)), e7, (.dat (.tuple ws)), f9, f10, .un, .un] := by
  have ha : (aCons (pE (eP (kVar 8))) (aCons (pE (nD (nCall listN (aCons (kVar 8) aNil)))) (aCons (pE (kConst .none)) (aCons (pE (op2 addD (kVar 8) (kVar 8))) (aCons (pE (kConst (.str "ab"))) (aCons (pE (kTup (aCons (pE (kConst (.str "a"))) (aCons (pE (kConst (.str "zz"))) aNil)))) aNil)))))) [e0, e1, e2, e3, e4, (.dat (.int lo)), (.dat (.int hi)), e7, (.dat (.tuple ws)), e9, e10, .un, .un] = .ok (([.tuple ws, .list ws, .none, .tuple (ws ++ ws), .str "ab", .tuple [.str "a", .str "zz"]] : List PyData).map Tk.dat) [e0, e1, e2, e3, e4, (.dat (.int lo)), (.dat (.int hi)), e7, (.dat (.tuple ws)), e9, e10, .un, .un] :=
    e_acD rfl (e_acD rfl (e_acD rfl (e_acD (e_op2 (f1 := kVar 8) (f2 := kVar 8) rfl rfl rfl rfl (if_pos (by omega))) (e_acD rfl (e_acD rfl e_acN)))))
  have ht : (wItems (kTup (aCons (pE (eP (kVar 8))) (aCons (pE (nD (nCall listN (aCons (kVar 8) aNil)))) (aCons (pE (kConst .none)) (aCons (pE (op2 addD (kVar 8) (kVar 8))) (aCons (pE (kConst (.str "ab"))) (aCons (pE (kTup (aCons (pE (kConst (.str "a"))) (aCons (pE (kConst (.str "zz"))) aNil)))) aNil)))))))) [e0, e1, e2, e3, e4, (.dat (.int lo)), (.dat (.int hi)), e7, (.dat (.tuple ws)), e9, e10, .un, .un] = .ok [.tuple ws, .list ws, .none, .tuple (ws ++ ws), .str "ab", .tuple [.str "a", .str "zz"]] [e0, e1, e2, e3, e4, (.dat (.int lo)), (.dat (.int hi)), e7, (.dat (.tuple ws)), e9, e10, .un, .un] := by
    unfold wItems
    rw [e_tup ha rfl (show (6 : Nat) ≤ 1000 by decide)]
    rfl
  obtain ⟨ε', w, f9, f10, rfl⟩ := e_for (g := gSet 9) (F := namB) (St := fun ε => ∃ e9 e10, ε = [e0, e1, e2, e3, e4, (.dat (.int lo)), (.dat (.int hi)), e7, (.dat (.tuple ws)), e9, e10, .un, .un]) [.tuple ws, .list ws, .none, .tuple (ws ++ ws), .str "ab", .tuple [.str "a", .str "zz"]] _ ⟨e9, e10, rfl⟩ (fun d hm ε hε => by
    obtain ⟨e9, e10, rfl⟩ := hε
    refine ⟨_, _, rfl, names_turn (d := d) (fun xs h => ?_), _, _, rfl⟩
    subst h
    simp only [List.mem_cons, PyData.tuple.injEq, reduceCtorEq, false_or, or_false, List.not_mem_nil] at hm
    rcases hm with rfl | rfl | rfl
    · exact ⟨by omega, fun x hx => word_str (hw x hx)⟩
    · refine ⟨by rw [List.length_append]; omega, fun x hx => ?_⟩
      rcases List.mem_append.mp hx with hx | hx
      · exact word_str (hw x hx)
      · exact word_str (hw x hx)
    · refine ⟨(by decide : (2 : Nat) ≤ 4000), fun x hx z e => ?_⟩
      subst e
      simp only [List.mem_cons, PyData.str.injEq, List.not_mem_nil, or_false] at hx
      rcases hx with rfl | rfl
      · exact (by decide : (1 : Nat) ≤ 16777216)
      · exact (by decide : (2 : Nat) ≤ 16777216))
  exact ⟨f9, f10, e_sfor ht w⟩
end K01
/-! K01lk: the plain law of k01: the law is True -/
namespace K01
open PySem PySem.Spec PyProof.Rows L2 DL
theorem law_o8 {B : List PyData} (hB : BagOk B) {e0 e2 e3 e4 e5 e6 e7 e8 e9 e10 : Ent} : ∃ B', (sIf (jNot (vB (rP' (callF m__law_are_rows_right (aCons (kVar 1) (aCons (pE (rP' (callF m__law_take (aCons (kVar 1) (aCons (pE (kConst (.int 5))) aNil))))) (aCons (pE (rP' (callF m__law_take (aCons (kVar 1) (aCons (pE (kConst (.int 4))) aNil))))) aNil)))))))
  (sRet (kConst (.bool false)))
  sNil) [e0, .own B, e2, e3, e4, e5, e6, e7, e8, e9, e10, .un, .un] = .nx [e0, .own B', e2, e3, e4, e5, e6, e7, e8, e9, e10, .un, .un] ∧ BagOk B' := by
  obtain ⟨v, B1, z1, h1, v0, v1⟩ := take1 hB (n := 5) (by decide) (by decide) e0 [e2, e3, e4, e5, e6, e7, e8, e9, e10, .un, .un]
  obtain ⟨u, B2, z2, h2, u0, u1⟩ := take1 h1 (n := 4) (by decide) (by decide) e0 [e2, e3, e4, e5, e6, e7, e8, e9, e10, .un, .un]
  obtain ⟨B3, z3, h3⟩ := rows_ok h2 (many := v) (other := u) v0 (by omega)
  have hargs : (aCons (kVar 1) (aCons (pE (rP' (callF m__law_take (aCons (kVar 1) (aCons (pE (kConst (.int 5))) aNil))))) (aCons (pE (rP' (callF m__law_take (aCons (kVar 1) (aCons (pE (kConst (.int 4))) aNil))))) aNil))) [e0, .own B, e2, e3, e4, e5, e6, e7, e8, e9, e10, .un, .un] = .ok [.at 1, .dat (.int v), .dat (.int u)] [e0, .own B2, e2, e3, e4, e5, e6, e7, e8, e9, e10, .un, .un] := e_acons (f := kVar 1) rfl (e_acons (e_map (e_map z1)) (e_acons (e_map (e_map z2)) e_anil))
  have c : (callF m__law_are_rows_right (aCons (kVar 1) (aCons (pE (rP' (callF m__law_take (aCons (kVar 1) (aCons (pE (kConst (.int 5))) aNil))))) (aCons (pE (rP' (callF m__law_take (aCons (kVar 1) (aCons (pE (kConst (.int 4))) aNil))))) aNil)))) [e0, .own B, e2, e3, e4, e5, e6, e7, e8, e9, e10, .un, .un] = .ok (.dat (.bool true)) [e0, .own B3, e2, e3, e4, e5, e6, e7, e8, e9, e10, .un, .un] := (e_callF hargs rfl (show ([1] : List Nat).Nodup by decide) z3).trans rfl
  exact ⟨B3, e_if0 (e_jnot (b := true) (e_toB (e_map c))) rfl, h3⟩
noncomputable def lawB : Sl → SO := (sSeq (sPar2 3 4 (pR (rP' (callF m__law_a_word (aCons (kVar 1) aNil)))) (pR (rP' (callF m__law_some (aCons (kVar 1) (aCons (pE (nD (nLst (aCons (pE (kConst (.int 0))) (aCons (pE (kConst (.int 1))) (aCons (pE (kNeg (kConst (.int 1)))) (aCons (pE (kConst (.int 7))) (aCons (pE (kConst (.bool true))) (aCons (pE (kConst (.bool false))) (aCons (pE (kConst .none)) (aCons (pE (kConst (.str "1"))) (aCons (pE (op2 powD (pE (kConst (.int 10))) (pE (kConst (.int 40))))) (aCons (pE (kTup (aCons (pE (kConst (.int 1))) aNil))) aNil))))))))))))) aNil))))))
  (sSeq (sPar2 5 6 (pR (op2 subD (pE (rP' (callF m__law_take (aCons (kVar 1) (aCons (pE (kConst (.int 4))) aNil))))) (pE (kConst (.int 1))))) (pR (rP' (callF m__law_take (aCons (kVar 1) (aCons (pE (kConst (.int 9))) aNil))))))
  (sSeq (sIf (jNot (vB (rP' (callF m__law_alike (aCons (pE (nD (nLst (aCons (pE (rP' (callF m_is_name (aCons (pE (eP (kVar 3))) aNil)))) (aCons (pE (rP' (callF m_is_integer (aCons (pE (eP (kVar 4))) aNil)))) aNil))))) (aCons (pE (nD (nLst (aCons (pE (rP' (callF m__law_named (aCons (pE (eP (kVar 3))) aNil)))) (aCons (pE (rP' (callF m__law_is_int (aCons (pE (eP (kVar 4))) aNil)))) aNil))))) aNil))))))
  (sRet (kConst (.bool false)))
  sNil)
  (sSeq (sAsg (nD (nLst (aCons (pE (kAnd (rP' (callF m__law_is_int (aCons (pE (eP (kVar 4))) aNil))) (kChain leD leD (kVar 5) (kVar 4) (kVar 6)))) (aCons (pE (kAnd (rP' (callF m__law_is_int (aCons (pE (eP (kVar 4))) aNil))) (kChain leD ltD (pE (kConst (.int 0))) (kVar 4) (kVar 6)))) aNil)))) (gSet 7))
  (sSeq (sIf (jNot (vB (rP' (callF m__law_alike (aCons (pE (nD (nLst (aCons (pE (rP' (callF m_is_within (aCons (pE (eP (kVar 4))) (aCons (pE (eP (kVar 5))) (aCons (pE (eP (kVar 6))) aNil)))))) (aCons (pE (rP' (callF m_is_index (aCons (pE (eP (kVar 4))) (aCons (pE (eP (kVar 6))) aNil))))) aNil))))) (aCons (pE (eP (kVar 7))) aNil))))))
  (sRet (kConst (.bool false)))
  sNil)
  (sSeq (sAsg (kCall tupleD (aCons (pE (nD (nLc (wRange1 (rP' (callF m__law_take (aCons (kVar 1) (aCons (pE (kConst (.int 4))) aNil))))) [11] (gSet 11) jYes (rP' (callF m__law_a_word (aCons (kVar 1) aNil)))))) aNil)) (gSet 8))
  (sSeq (sFor (wItems (kTup (aCons (pE (eP (kVar 8))) (aCons (pE (nD (nCall listN (aCons (kVar 8) aNil)))) (aCons (pE (kConst .none)) (aCons (pE (op2 addD (kVar 8) (kVar 8))) (aCons (pE (kConst (.str "ab"))) (aCons (pE (kTup (aCons (pE (kConst (.str "a"))) (aCons (pE (kConst (.str "zz"))) aNil)))) aNil)))))))) (gSet 9)
  (sSeq (sAsg (kAnd (kIsa "tuple" (kVar 9)) (op2 eqD (pE (nD (nLc (wItems (eP (kVar 9))) [12] (gSet 12) (jNot (vB (rP' (callF m__law_named (aCons (pE (eP (kVar 12))) aNil))))) (kConst (.int 1))))) (pE (nD (nLst aNil))))) (gSet 10))
  (sSeq (sAsg (kAnd (eP (kVar 10)) (op2 eqD (pE (nD (nLc (wRange1 (kCall lenD (aCons (kVar 9) aNil))) [11] (gSet 11) (vB (op2 inD (pE (op2 ixD (kVar 9) (kVar 11))) (pE (kSl (kVar 9) oNone (oSome (eP (kVar 11))))))) (kConst (.int 1))))) (pE (nD (nLst aNil))))) (gSet 10))
  (sIf (jNot (vB (rP' (callF m__law_alike (aCons (pE (rP' (callF m_are_names (aCons (pE (eP (kVar 9))) (aCons (pE (eP (kVar 5))) (aCons (pE (eP (kVar 6))) aNil)))))) (aCons (pE (kAnd (eP (kVar 10)) (kChain leD leD (kVar 5) (pE (kCall lenD (aCons (kVar 9) aNil))) (kVar 6)))) aNil))))))
  (sRet (kConst (.bool false)))
  sNil))))
  (sIf (jNot (vB (rP' (callF m__law_are_rows_right (aCons (kVar 1) (aCons (pE (rP' (callF m__law_take (aCons (kVar 1) (aCons (pE (kConst (.int 5))) aNil))))) (aCons (pE (rP' (callF m__law_take (aCons (kVar 1) (aCons (pE (kConst (.int 4))) aNil))))) aNil)))))))
  (sRet (kConst (.bool false)))
  sNil))))))))
theorem law_turn {B : List PyData} (hB : BagOk B) {e0 e2 e3 e4 e5 e6 e7 e8 e9 e10 : Ent} : ∃ B' f3 f4 f5 f6 f7 f8 f9 f10, lawB [e0, .own B, e2, e3, e4, e5, e6, e7, e8, e9, e10, .un, .un] = .nx [e0, .own B', e2, f3, f4, f5, f6, f7, f8, f9, f10, .un, .un] ∧ BagOk B' := by
  obtain ⟨w, m, B1, s1, h1, hw⟩ := law_o1 hB (e0 := e0) (e2 := e2) (e3 := e3) (e4 := e4) (e5 := e5) (e6 := e6) (e7 := e7) (e8 := e8) (e9 := e9) (e10 := e10)
  obtain ⟨lo, hi, B2, s2, h2⟩ := law_o2 h1 (e0 := e0) (e2 := e2) (e3 := .dat w) (e4 := .dat m) (e5 := e5) (e6 := e6) (e7 := e7) (e8 := e8) (e9 := e9) (e10 := e10)
  have s3 := law_o3 (e0 := e0) (e1 := .own B2) (e2 := e2) (e7 := e7) (e8 := e8) (e9 := e9) (e10 := e10) (e11 := .un) (e12 := .un) (lo := lo) (hi := hi) (w := w) (m := m) (word_str hw)
  have s4 := law_o4 (e0 := e0) (e1 := .own B2) (e2 := e2) (e7 := e7) (e8 := e8) (e9 := e9) (e10 := e10) (e11 := .un) (e12 := .un) (lo := lo) (hi := hi) (w := w) (m := m)
  have s5 := law_o5 (e0 := e0) (e1 := .own B2) (e2 := e2) (e8 := e8) (e9 := e9) (e10 := e10) (e11 := .un) (e12 := .un) (lo := lo) (hi := hi) (w := w) (m := m)
  obtain ⟨ws, B3, s6, h3, hws, hwl⟩ := law_o6 h2 (e0 := e0) (e2 := e2) (e3 := .dat w) (e4 := .dat m) (e5 := .dat (.int lo)) (e6 := .dat (.int hi)) (e7 := .dat (.list [.bool (within m lo hi), .bool (idx m hi)])) (e8 := e8) (e9 := e9) (e10 := e10)
  obtain ⟨f9, f10, s7⟩ := law_o7 (e0 := e0) (e1 := .own B3) (e2 := e2) (e3 := .dat w) (e4 := .dat m) (e7 := .dat (.list [.bool (within m lo hi), .bool (idx m hi)])) (e9 := e9) (e10 := e10) (lo := lo) (hi := hi) hws hwl
  obtain ⟨B4, s8, h4⟩ := law_o8 h3 (e0 := e0) (e2 := e2) (e3 := .dat w) (e4 := .dat m) (e5 := .dat (.int lo)) (e6 := .dat (.int hi)) (e7 := .dat (.list [.bool (within m lo hi), .bool (idx m hi)])) (e8 := .dat (.tuple ws)) (e9 := f9) (e10 := f10)
  exact ⟨B4, _, _, _, _, _, _, f9, f10, e_seq s1 (e_seq s2 (e_seq s3 (e_seq s4 (e_seq s5 (e_seq s6 (e_seq s7 s8)))))), h4⟩
end K01
/-! K01lm: the plain law of k01: the law is True -/
namespace K01
open PySem PySem.Spec PyProof.Rows L2 DL
theorem law_all {B : List PyData} (hB : BagOk B) {e0 : Ent} : ∃ ε', sFor (wRange1 (kConst (.int 10))) (gSet 2) lawB [e0, .own B, .un, .un, .un, .un, .un, .un, .un, .un, .un, .un, .un] = .nx ε' ∧ ∃ B' e2 e3 e4 e5 e6 e7 e8 e9 e10, ε' = [e0, .own B', e2, e3, e4, e5, e6, e7, e8, e9, e10, .un, .un] ∧ BagOk B' := by
  obtain ⟨ε', h, st⟩ := e_for (g := gSet 2) (F := lawB) (St := fun ε => ∃ B' e2 e3 e4 e5 e6 e7 e8 e9 e10, ε = [e0, .own B', e2, e3, e4, e5, e6, e7, e8, e9, e10, .un, .un] ∧ BagOk B') (rangeD 0 (10 : Int).toNat) [e0, .own B, .un, .un, .un, .un, .un, .un, .un, .un, .un, .un, .un] ⟨B, _, _, _, _, _, _, _, _, _, rfl, hB⟩ fun d _ ε hs => by
    obtain ⟨B1, e2, e3, e4, e5, e6, e7, e8, e9, e10, rfl, h1⟩ := hs
    obtain ⟨B2, f3, f4, f5, f6, f7, f8, f9, f10, s, h2⟩ := law_turn h1 (e0 := e0) (e2 := .dat d) (e3 := e3) (e4 := e4) (e5 := e5) (e6 := e6) (e7 := e7) (e8 := e8) (e9 := e9) (e10 := e10)
    exact ⟨_, _, rfl, s, B2, _, f3, f4, f5, f6, f7, f8, f9, f10, rfl, h2⟩
  refine ⟨ε', ?_, st⟩
  refine e_sfor ?_ h
  rfl
theorem plain : TrueAt m_law := by
  intro ns hl
  obtain ⟨B, hb, hB⟩ := bag_ok ns
  obtain ⟨ε', h, B', e2, e3, e4, e5, e6, e7, e8, e9, e10, rfl, hB'⟩ := law_all hB (e0 := .dat (.list (ns.map .int)))
  have c : (callF m__law_bag (aCons (pE (eP (kVar 0))) aNil)) [.dat (.list (ns.map .int)), .un, .un, .un, .un, .un, .un, .un, .un, .un, .un, .un, .un] = .ok (.lst B) [.dat (.list (ns.map .int)), .un, .un, .un, .un, .un, .un, .un, .un, .un, .un, .un, .un] := e_callD [.list (ns.map .int)] rfl hb
  have s1 : sSetR 1 (callF m__law_bag (aCons (pE (eP (kVar 0))) aNil)) [.dat (.list (ns.map .int)), .un, .un, .un, .un, .un, .un, .un, .un, .un, .un, .un, .un] = .nx [.dat (.list (ns.map .int)), .own B, .un, .un, .un, .un, .un, .un, .un, .un, .un, .un, .un] := (e_setR (x := .lst B) c (show 1 < 13 by decide)).trans rfl
  exact ⟨_, e_fnR (e_seq s1 (e_seq h (e_ret rfl))) rfl⟩
end K01
open PySem PySem.W PyProof.Rows
set_option maxHeartbeats 0 in
theorem PySem.Challenge.cw_tielooks_k01_forms_of_any_values_holds : PySem.Challenge.rw_tielooks_k01_forms_of_any_values.Holds := by
  w_on; o_law; k_head; (case hw => w_witness2)
  k_fill
  refine L2.walk_of (l := PySem.Challenge.rw_tielooks_k01_forms_of_any_values) (n := 63) (k := 7) (x := "script") (CX := fun w => L2.CX PySem.Challenge.rw_tielooks_k01_forms_of_any_values.prog w) (sp := fun w => DL.spLaw _) rfl (by decide) rfl ⟨rfl, by decide, by decide⟩ (fun w h Y => PySem.W.kIn_of Y) ?F (fun _ _ a ns hl hO hS => ⟨a, ns, rfl, DL.only_tbl hO, hS, hl, fun _ => rfl⟩) (fun _ _ _ _ _ h => DL.cx_no h)
  case F =>
    intro w mg fa h KX G hmg
    refine' K01.all_mk KX G hmg K01.plain ?a0 ?l0 ?c0 ?k0 ?a1 ?l1 ?c1 ?k1 ?a2 ?l2 ?c2 ?k2 ?a3 ?l3 ?c3 ?k3 ?a4 ?l4 ?c4 ?k4 ?a5 ?l5 ?c5 ?k5 ?a6 ?l6 ?c6 ?k6 ?a7 ?l7 ?c7 ?k7 ?a8 ?l8 ?c8 ?k8 ?a9 ?l9 ?c9 ?k9 ?a10 ?l10 ?c10 ?k10 ?a11 ?l11 ?c11 ?k11 ?a12 ?l12 ?c12 ?k12 ?a13 ?l13 ?c13 ?k13 ?a14 ?l14 ?c14 ?k14 ?a15 ?l15 ?c15 ?k15 ?a16 ?l16 ?c16 ?k16 ?a17 ?l17 ?c17 ?k17 ?a18 ?l18 ?c18 ?k18 ?a19 ?l19 ?c19 ?k19 ?a20 ?l20 ?c20 ?k20 ?z_abs ?z_all ?z_bool ?z_int ?z_isinstance ?z_len ?z_list ?z_range ?z_set ?z_sorted ?z_str ?z_tuple ?z_zip ?g_LETTERS ?h_LETTERS ?g_MOST_NAME ?h_MOST_NAME ?g_RESERVED ?l_RESERVED ?h_RESERVED
    (case a0 => k_is); (case l0 => k_is); (case c0 => k_is); (case k0 => k_is); (case a1 => k_is); (case l1 => k_is); (case c1 => k_is); (case k1 => k_is); (case a2 => k_is); (case l2 => k_is); (case c2 => k_is); (case k2 => k_is); (case a3 => k_is); (case l3 => k_is); (case c3 => k_is); (case k3 => k_is); (case a4 => k_is); (case l4 => k_is); (case c4 => k_is); (case k4 => k_is); (case a5 => k_is); (case l5 => k_is); (case c5 => k_is); (case k5 => k_is); (case a6 => k_is); (case l6 => k_is); (case c6 => k_is); (case k6 => k_is); (case a7 => k_is); (case l7 => k_is); (case c7 => k_is); (case k7 => k_is); (case a8 => k_is); (case l8 => k_is); (case c8 => k_is); (case k8 => k_is); (case a9 => k_is); (case l9 => k_is); (case c9 => k_is); (case k9 => k_is); (case a10 => k_is); (case l10 => k_is); (case c10 => k_is); (case k10 => k_is); (case a11 => k_is); (case l11 => k_is); (case c11 => k_is); (case k11 => k_is); (case a12 => k_is); (case l12 => k_is); (case c12 => k_is); (case k12 => k_is); (case a13 => k_is); (case l13 => k_is); (case c13 => k_is); (case k13 => k_is); (case a14 => k_is); (case l14 => k_is); (case c14 => k_is); (case k14 => k_is); (case a15 => k_is); (case l15 => k_is); (case c15 => k_is); (case k15 => k_is); (case a16 => k_is); (case l16 => k_is); (case c16 => k_is); (case k16 => k_is); (case a17 => k_is); (case l17 => k_is); (case c17 => k_is); (case k17 => k_is); (case a18 => k_is); (case l18 => k_is); (case c18 => k_is); (case k18 => k_is); (case a19 => k_is); (case l19 => k_is); (case c19 => k_is); (case k19 => k_is); (case a20 => k_is); (case l20 => k_is); (case c20 => k_is); (case k20 => k_is); (case z_abs => k_is); (case z_all => k_is); (case z_bool => k_is); (case z_int => k_is); (case z_isinstance => k_is); (case z_len => k_is); (case z_list => k_is); (case z_range => k_is); (case z_set => k_is); (case z_sorted => k_is); (case z_str => k_is); (case z_tuple => k_is); (case z_zip => k_is); (case g_LETTERS => k_is); (case h_LETTERS => (first | rfl | decide +kernel)); (case g_MOST_NAME => k_is); (case h_MOST_NAME => (first | rfl | decide +kernel)); (case g_RESERVED => k_is); (case l_RESERVED => k_is); (case h_RESERVED => (first | rfl | decide +kernel))
