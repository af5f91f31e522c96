import PyProof.Rows.All
import Wide.All
import OpenK.AllK
import Wide.FinOn
import HandS.ForMost
import HandS.ForExc
import HandS.Walk
import HandS.Zip
import HandS.IsInst
import HandS.Wide
import HandS.Flow
import HandS.TupAny
import HandS.TupMul
import HandS.Deep
import HandS.ExcIs
import KE.GoesEnum
import KE.KStateDown
import HandS.Defaults
import HandS.Head0
import HandS.Head1
import HandS.Head2
import HandS.HeadEnd
import HandS.EndBits
import HandS.HeadHook1
import HandS.HeadHook2
import PySem.Challenge.RW_ratenets_k16_best_attempts
set_option Elab.async false
set_option linter.all false
set_option maxRecDepth 100000
set_option maxHeartbeats 2000000
section
namespace RD
open PySem L2

abbrev D := PyData
/-- the written part of the heap -/
class HasK where
  K : PySem.W.Frag
  mg : Str → Option Value
variable [HasK]
/-- what an expression comes to: data, an exception of the program's own class n (with a field), or nothing told -/
inductive Res (α : Type) where
  | ok (a : α)
  | exc (n : Str) (p : Option (Str × D))
  | stuck
def Res.bind {α β : Type} : Res α → (α → Res β) → Res β
  | .ok a, f => f a
  | .exc n p, _ => .exc n p
  | .stuck, _ => .stuck
def Res.ofO {α : Type} : Option α → Res α
  | some a => .ok a
  | none => .stuck
inductive Sl where
  | no
  | val (d : D)
  | own (d : D)
abbrev DEnv := List Sl
inductive Out where
  | next (δ : DEnv)
  | ret (d : D)
  | brk (δ : DEnv)
  | cont (δ : DEnv)
  | exc (n : Str) (p : Option (Str × D)) (δ : DEnv)
  | stuck
abbrev DE := DEnv → Res D
abbrev DT := DEnv → Res Bool
abbrev DA := DEnv → Res (List D)
abbrev DS := DEnv → Out

def keyD : Key → D
  | .inl i => .int i
  | .inr x => .str x
def Ex (H H' : Hp) : Prop := ∀ a o, H a = some o → H' a = some o
theorem Ex.refl (H : Hp) : Ex H H := fun _ _ h => h
theorem Ex.trans {H H1 H2 : Hp} (a : Ex H H1) (b : Ex H1 H2) : Ex H H2 := fun x o h => b x o (a x o h)
theorem Ex.back {H H' : Hp} {p : Addr} (e : Ex H H') (h : H' p = none) : H p = none := by
  cases q : H p with
  | none => rfl
  | some o => rw [e p o q] at h; cases h
theorem Ex.put {H : Hp} {p : Addr} {o : HO} (h : H p = none) : Ex H (upd H p o) := fun a u e => by
  rw [upd_ne (ne_of_none e h)]; exact e
theorem Ex.over {H H' : Hp} {p : Addr} {o : HO} (e : Ex H H') (h : H p = none) : Ex H (upd H' p o) := fun a u ha => by
  rw [upd_ne (ne_of_none ha h)]; exact e a u ha
theorem Ex.both {H H' : Hp} {p : Addr} {o : HO} (e : Ex H H') : Ex (upd H p o) (upd H' p o) := fun a u ha => by
  by_cases hp : a = p
  · subst hp; rw [upd_same] at ha ⊢; exact ha
  · rw [upd_ne hp] at ha ⊢; exact e a u ha

theorem rd_ex {H H' : Hp} {a : Addr} {u : HO} (e : Ex H H') (h : Rd H a u) : Rd H' a u := by
  rcases h with h | ⟨o, h⟩
  · exact .inl (e a _ h)
  · exact .inr ⟨o, e a _ h⟩
/-- the law's script (a list that is never changed), told apart from other lists -/
def scrD (ns : List Int) : D := .dict [(.none, .list (ns.map .int))]
mutual
inductive Rp (H : Hp) : V → D → Prop
  | non : Rp H .non .none
  | bl (b : Bool) : Rp H (.bl b) (.bool b)
  | int (i : Int) : Rp H (.int i) (.int i)
  | str (x : Str) : Rp H (.str x) (.str x)
  | lst {a : Addr} {xs : List V} {ds : List D} : H a = some (.lst xs) → RpAll H xs ds → Rp H (.ref a) (.list ds)
  | tup {a : Addr} {xs : List V} {ds : List D} : H a = some (.tup xs) → RpAll H xs ds → Rp H (.ref a) (.tuple ds)
  | scr {a : Addr} {ns : List Int} : SqL HasK.K H a (ns.map V.int) → Rp H (.ref a) (scrD ns)
  | dK {a : Addr} {o : Obj} {kvs : List (Key × V)} {ds : List D} : H a = some (.frz o (.dK kvs)) → RpAll H (kvs.map Prod.snd) ds → Rp H (.ref a) (.dict ((kvs.map fun p => keyD p.1).zip ds))
  | dT {a : Addr} {o : Obj} {kvs : List (List Key × V)} {ds : List D} : H a = some (.frz o (.dT kvs)) → RpAll H (kvs.map Prod.snd) ds → Rp H (.ref a) (.dict ((kvs.map fun p => PyData.tuple (p.1.map keyD)).zip ds))
inductive RpAll (H : Hp) : List V → List D → Prop
  | nil : RpAll H [] []
  | cons {v : V} {vs : List V} {d : D} {ds : List D} : Rp H v d → RpAll H vs ds → RpAll H (v :: vs) (d :: ds)
end
mutual
theorem Rp.mono {H H' : Hp} (e : Ex H H') : ∀ {v : V} {d : D}, Rp H v d → Rp H' v d
  | _, _, .non => .non
  | _, _, .bl b => .bl b
  | _, _, .int i => .int i
  | _, _, .str x => .str x
  | _, _, .lst h r => .lst (e _ _ h) (RpAll.mono e r)
  | _, _, .tup h r => .tup (e _ _ h) (RpAll.mono e r)
  | _, _, .scr h => .scr (h.imp (rd_ex e) id)
  | _, _, .dK h r => .dK (e _ _ h) (RpAll.mono e r)
  | _, _, .dT h r => .dT (e _ _ h) (RpAll.mono e r)
theorem RpAll.mono {H H' : Hp} (e : Ex H H') : ∀ {vs : List V} {ds : List D}, RpAll H vs ds → RpAll H' vs ds
  | _, _, .nil => .nil
  | _, _, .cons h r => .cons (Rp.mono e h) (RpAll.mono e r)
end
theorem RpAll.len {H : Hp} : ∀ {vs : List V} {ds : List D}, RpAll H vs ds → vs.length = ds.length
  | _, _, .nil => rfl
  | _, _, .cons _ r => by rw [List.length_cons, List.length_cons, r.len]
theorem RpAll.app {H : Hp} : ∀ {vs ws : List V} {ds es : List D}, RpAll H vs ds → RpAll H ws es → RpAll H (vs ++ ws) (ds ++ es)
  | _, _, _, _, .nil, s => s
  | _, _, _, _, .cons h r, s => .cons h (r.app s)
theorem RpAll.get {H : Hp} : ∀ {vs : List V} {ds : List D}, RpAll H vs ds → ∀ (i : Nat), (vs[i]? = none ∧ ds[i]? = none) ∨ ∃ v d, vs[i]? = some v ∧ ds[i]? = some d ∧ Rp H v d
  | _, _, .nil, i => by simp
  | _, _, .cons h r, 0 => .inr ⟨_, _, rfl, rfl, h⟩
  | _, _, .cons h r, i + 1 => by simpa using r.get i
theorem RpAll.getD {H : Hp} {vs : List V} {ds : List D} (r : RpAll H vs ds) {i : Nat} {d : D} (h : ds[i]? = some d) : ∃ v, vs[i]? = some v ∧ Rp H v d := by
  rcases r.get i with ⟨_, b⟩ | ⟨v, d', a, b, c⟩
  · rw [h] at b; cases b
  · rw [h] at b; cases b; exact ⟨v, a, c⟩
theorem RpAll.getV {H : Hp} {vs : List V} {ds : List D} (r : RpAll H vs ds) {i : Nat} {v : V} (h : vs[i]? = some v) : ∃ d, ds[i]? = some d ∧ Rp H v d := by
  rcases r.get i with ⟨a, _⟩ | ⟨v', d', a, b, c⟩
  · rw [h] at a; cases a
  · rw [h] at a; cases a; exact ⟨d', b, c⟩
theorem RpAll.take {H : Hp} : ∀ {vs : List V} {ds : List D} (n : Nat), RpAll H vs ds → RpAll H (vs.take n) (ds.take n)
  | _, _, 0, _ => .nil
  | _, _, _ + 1, .nil => .nil
  | _, _, n + 1, .cons h r => .cons h (r.take n)
theorem RpAll.drop {H : Hp} : ∀ {vs : List V} {ds : List D} (n : Nat), RpAll H vs ds → RpAll H (vs.drop n) (ds.drop n)
  | _, _, 0, r => r
  | _, _, _ + 1, .nil => .nil
  | _, _, n + 1, .cons _ r => r.drop n
theorem RpAll.set {H : Hp} {v : V} {d : D} (h : Rp H v d) : ∀ {vs : List V} {ds : List D} (n : Nat), RpAll H vs ds → RpAll H (vs.set n v) (ds.set n d)
  | _, _, _, .nil => .nil
  | _, _, 0, .cons _ r => .cons h r
  | _, _, n + 1, .cons q r => .cons q (r.set h n)
theorem RpAll.erase {H : Hp} : ∀ {vs : List V} {ds : List D} (n : Nat), RpAll H vs ds → RpAll H (vs.eraseIdx n) (ds.eraseIdx n)
  | _, _, _, .nil => .nil
  | _, _, 0, .cons _ r => r
  | _, _, n + 1, .cons q r => .cons q (r.erase n)
theorem RpAll.dropLast {H : Hp} {vs : List V} {ds : List D} (r : RpAll H vs ds) : RpAll H vs.dropLast ds.dropLast := by
  rw [List.dropLast_eq_take, List.dropLast_eq_take, r.len]; exact r.take _
theorem RpAll.rep {H : Hp} {vs : List V} {ds : List D} (r : RpAll H vs ds) : ∀ k : Nat, RpAll H (List.replicate k vs).flatten (List.replicate k ds).flatten
  | 0 => .nil
  | k + 1 => by
    rw [List.replicate_succ, List.replicate_succ, List.flatten_cons, List.flatten_cons]
    exact r.app (r.rep k)
theorem RpAll.ints {H : Hp} : ∀ ns : List Int, RpAll H (ns.map V.int) (ns.map PyData.int)
  | [] => .nil
  | n :: ns => .cons (.int n) (RpAll.ints ns)

/-! ### heaps: F what stands for ever, H all -/
structure Step (F H F' H' : Hp) : Prop where
  ff : Ex F F'
  fh : Ex F' H'
  hh : Ex H H'
  new : ∀ a, F a = none → F' a ≠ none → H a = none
theorem Step.refl {F H : Hp} (e : Ex F H) : Step F H F H := ⟨.refl _, e, .refl _, fun a h n => absurd h n⟩
theorem Step.trans {F H F1 H1 F2 H2 : Hp} (a : Step F H F1 H1) (b : Step F1 H1 F2 H2) : Step F H F2 H2 :=
  ⟨a.ff.trans b.ff, b.fh, a.hh.trans b.hh, fun p h n => by
    by_cases q : F1 p = none
    · exact a.hh.back (b.new p q n)
    · exact a.new p h q⟩
/-- a new object, frozen at once -/
theorem Step.put {F H : Hp} (e : Ex F H) {p : Addr} (o : HO) (h : H p = none) : Step F H (upd F p o) (upd H p o) :=
  ⟨.put (e.back h), e.both, .put h, fun a ha hn => by
    by_cases q : a = p
    · rw [q]; exact h
    · rw [upd_ne q] at hn; exact absurd ha hn⟩
/-- a new object, not frozen -/
theorem Step.side {F H : Hp} (e : Ex F H) {p : Addr} (o : HO) (h : H p = none) : Step F H F (upd H p o) :=
  ⟨.refl _, e.over (e.back h), .put h, fun a ha hn => absurd ha hn⟩

def OwnA (F H : Hp) (a : Addr) : D → Prop
  | .list ds => ∃ xs, H a = some (.lst xs) ∧ RpAll F xs ds
  | .dict es => (∃ kvs ds, H a = some (.dK kvs) ∧ RpAll F (kvs.map Prod.snd) ds ∧ es = (kvs.map fun p => keyD p.1).zip ds) ∨
      ∃ kvs ds, H a = some (.dT kvs) ∧ RpAll F (kvs.map Prod.snd) ds ∧ es = (kvs.map fun p => PyData.tuple (p.1.map keyD)).zip ds
  | _ => False
theorem OwnA.mono {F H F' H' : Hp} {a : Addr} {d : D} (ef : Ex F F') (eh : Ex H H') (h : OwnA F H a d) : OwnA F' H' a d := by
  cases d with
  | list ds => obtain ⟨xs, h1, h2⟩ := h; exact ⟨xs, eh _ _ h1, h2.mono ef⟩
  | dict es =>
    rcases h with ⟨kvs, ds, h1, h2, h3⟩ | ⟨kvs, ds, h1, h2, h3⟩
    · exact .inl ⟨kvs, ds, eh _ _ h1, h2.mono ef, h3⟩
    · exact .inr ⟨kvs, ds, eh _ _ h1, h2.mono ef, h3⟩
  | _ => exact h.elim
/-- another object changes -/
theorem OwnA.other {F H : Hp} {a p : Addr} {o : HO} {d : D} (ne : a ≠ p) (h : OwnA F H a d) : OwnA F (upd H p o) a d := by
  cases d with
  | list ds => obtain ⟨xs, h1, h2⟩ := h; exact ⟨xs, by rw [upd_ne ne]; exact h1, h2⟩
  | dict es =>
    rcases h with ⟨kvs, ds, h1, h2, h3⟩ | ⟨kvs, ds, h1, h2, h3⟩
    · exact .inl ⟨kvs, ds, by rw [upd_ne ne]; exact h1, h2, h3⟩
    · exact .inr ⟨kvs, ds, by rw [upd_ne ne]; exact h1, h2, h3⟩
  | _ => exact h.elim
/-- read: frozen, or one's own -/
def Bw (F H : Hp) (v : V) (d : D) : Prop := Rp F v d ∨ ∃ a, v = .ref a ∧ OwnA F H a d
theorem Rp.bw {F H : Hp} {v : V} {d : D} (h : Rp F v d) : Bw F H v d := .inl h
theorem Bw.mono {F H F' H' : Hp} {v : V} {d : D} (ef : Ex F F') (eh : Ex H H') (h : Bw F H v d) : Bw F' H' v d := by
  rcases h with h | ⟨a, h1, h2⟩
  · exact .inl (h.mono ef)
  · exact .inr ⟨a, h1, h2.mono ef eh⟩
theorem Bw.lst {F H : Hp} {v : V} {ds : List D} (e : Ex F H) (h : Bw F H v (.list ds)) : ∃ a xs, v = .ref a ∧ H a = some (.lst xs) ∧ RpAll F xs ds := by
  rcases h with h | ⟨a, h1, xs, h2, h3⟩
  · cases h with
    | lst h r => exact ⟨_, _, rfl, e _ _ h, r⟩
  · exact ⟨a, xs, h1, h2, h3⟩
theorem Bw.tup {F H : Hp} {v : V} {ds : List D} (e : Ex F H) (h : Bw F H v (.tuple ds)) : ∃ a xs, v = .ref a ∧ H a = some (.tup xs) ∧ RpAll F xs ds := by
  rcases h with h | ⟨a, h1, h2⟩
  · cases h with
    | tup h r => exact ⟨_, _, rfl, e _ _ h, r⟩
  · exact h2.elim
theorem Bw.int {F H : Hp} {v : V} {i : Int} (h : Bw F H v (.int i)) : v = .int i := by
  rcases h with h | ⟨a, h1, h2⟩
  · cases h; rfl
  · exact h2.elim
theorem Bw.bl {F H : Hp} {v : V} {i : Bool} (h : Bw F H v (.bool i)) : v = .bl i := by
  rcases h with h | ⟨a, h1, h2⟩
  · cases h; rfl
  · exact h2.elim
theorem Bw.str {F H : Hp} {v : V} {i : Str} (h : Bw F H v (.str i)) : v = .str i := by
  rcases h with h | ⟨a, h1, h2⟩
  · cases h; rfl
  · exact h2.elim
theorem Bw.non {F H : Hp} {v : V} (h : Bw F H v .none) : v = .non := by
  rcases h with h | ⟨a, h1, h2⟩
  · cases h; rfl
  · exact h2.elim
theorem Bw.rpT {F H : Hp} {v : V} {ds : List D} (h : Bw F H v (.tuple ds)) : Rp F v (.tuple ds) := by
  rcases h with h | ⟨a, h1, h2⟩
  · exact h
  · exact h2.elim
inductive BwAll (F H : Hp) : List V → List D → Prop
  | nil : BwAll F H [] []
  | cons {v : V} {vs : List V} {d : D} {ds : List D} : Bw F H v d → BwAll F H vs ds → BwAll F H (v :: vs) (d :: ds)
theorem BwAll.mono {F H F' H' : Hp} (ef : Ex F F') (eh : Ex H H') : ∀ {vs : List V} {ds : List D}, BwAll F H vs ds → BwAll F' H' vs ds
  | _, _, .nil => .nil
  | _, _, .cons h r => .cons (h.mono ef eh) (r.mono ef eh)

/-! ### the state of a def's run; F0, H0: as it was entered -/
structure Sr (F0 H0 F H : Hp) (σ : St) (δ : DEnv) : Prop where
  st : Step F0 H0 F H
  len : σ.length = δ.length
  val : ∀ (i : Nat) d, δ[i]? = some (.val d) → ∃ v, σ[i]? = some (some v) ∧ Rp F v d
  own : ∀ (i : Nat) d, δ[i]? = some (.own d) → ∃ a, σ[i]? = some (some (.ref a)) ∧ H0 a = none ∧ F a = none ∧ OwnA F H a d
  apart : ∀ (i j : Nat) a d e, δ[i]? = some (.own d) → δ[j]? = some (.own e) → σ[i]? = some (some (.ref a)) → σ[j]? = some (some (.ref a)) → i = j
theorem OwnA.there {F H : Hp} {a : Addr} {d : D} (h : OwnA F H a d) : H a ≠ none := by
  cases d with
  | list ds => obtain ⟨xs, h1, _⟩ := h; rw [h1]; exact fun z => nomatch z
  | dict es =>
    rcases h with ⟨kvs, ds, h1, h2, h3⟩ | ⟨kvs, ds, h1, h2, h3⟩
    · rw [h1]; exact fun z => nomatch z
    · rw [h1]; exact fun z => nomatch z
  | _ => exact h.elim
theorem Sr.step {F0 H0 F H F' H' : Hp} {σ : St} {δ : DEnv} (S : Sr F0 H0 F H σ δ) (t : Step F H F' H') : Sr F0 H0 F' H' σ δ where
  st := S.st.trans t
  len := S.len
  val := fun i d h => by
    obtain ⟨v, h1, h2⟩ := S.val i d h
    exact ⟨v, h1, h2.mono t.ff⟩
  own := fun i d h => by
    obtain ⟨a, h1, h2, h3, h4⟩ := S.own i d h
    refine ⟨a, h1, h2, ?_, h4.mono t.ff t.hh⟩
    cases q : F' a with
    | none => rfl
    | some o => exact absurd (t.new a h3 (by rw [q]; exact fun z => nomatch z)) h4.there
  apart := S.apart
theorem Sr.fh {F0 H0 F H : Hp} {σ : St} {δ : DEnv} (S : Sr F0 H0 F H σ δ) : Ex F H := S.st.fh
theorem set_get {α : Type} {l : List α} {i j : Nat} {x y : α} (h : (l.set i x)[j]? = some y) : (j = i ∧ y = x ∧ i < l.length) ∨ (j ≠ i ∧ l[j]? = some y) := by
  by_cases e : j = i
  · subst e
    rw [List.getElem?_set_self'] at h
    cases q : l[j]? with
    | none => rw [q] at h; cases h
    | some z =>
      rw [q] at h
      exact .inl ⟨rfl, (Option.some.inj h).symm, (List.getElem?_eq_some_iff.mp q).1⟩
  · rw [List.getElem?_set_ne (fun z => e z.symm)] at h
    exact .inr ⟨e, h⟩
theorem set_at {α : Type} {l : List α} {i : Nat} {x : α} (h : i < l.length) : (l.set i x)[i]? = some x := by
  rw [List.getElem?_set_self h]
theorem set_off {α : Type} {l : List α} {i j : Nat} {x : α} (h : j ≠ i) : (l.set i x)[j]? = l[j]? := List.getElem?_set_ne (fun z => h z.symm)
/-- a slot gets a value -/
theorem Sr.set {F0 H0 F H : Hp} {σ : St} {δ : DEnv} (S : Sr F0 H0 F H σ δ) {v : V} {d : D} (r : Rp F v d) (i : Nat) : Sr F0 H0 F H (σ.set i (some v)) (δ.set i (.val d)) where
  st := S.st
  len := by rw [List.length_set, List.length_set]; exact S.len
  val := fun j e h => by
    rcases set_get h with ⟨rfl, q, hl⟩ | ⟨ne, h⟩
    · cases q; exact ⟨v, set_at (by rw [S.len]; exact hl), r⟩
    · rw [set_off ne]; exact S.val j e h
  own := fun j e h => by
    rcases set_get h with ⟨rfl, q, hl⟩ | ⟨ne, h⟩
    · cases q
    · rw [set_off ne]; exact S.own j e h
  apart := fun j k a e f h1 h2 h3 h4 => by
    rcases set_get h1 with ⟨rfl, q, hl⟩ | ⟨n1, h1⟩
    · cases q
    · rcases set_get h2 with ⟨rfl, q, hl⟩ | ⟨n2, h2⟩
      · cases q
      · rw [set_off n1] at h3; rw [set_off n2] at h4
        exact S.apart j k a e f h1 h2 h3 h4
/-- a slot is forgotten -/
theorem Sr.drop {F0 H0 F H : Hp} {σ : St} {δ : DEnv} (S : Sr F0 H0 F H σ δ) (i : Nat) (o : Option V) : Sr F0 H0 F H (σ.set i o) (δ.set i .no) where
  st := S.st
  len := by rw [List.length_set, List.length_set]; exact S.len
  val := fun j e h => by
    rcases set_get h with ⟨rfl, q, hl⟩ | ⟨ne, h⟩
    · cases q
    · rw [set_off ne]; exact S.val j e h
  own := fun j e h => by
    rcases set_get h with ⟨rfl, q, hl⟩ | ⟨ne, h⟩
    · cases q
    · rw [set_off ne]; exact S.own j e h
  apart := fun j k a e f h1 h2 h3 h4 => by
    rcases set_get h1 with ⟨rfl, q, hl⟩ | ⟨n1, h1⟩
    · cases q
    · rcases set_get h2 with ⟨rfl, q, hl⟩ | ⟨n2, h2⟩
      · cases q
      · rw [set_off n1] at h3; rw [set_off n2] at h4
        exact S.apart j k a e f h1 h2 h3 h4
/-- a slot gets an object of the def's own, which no other slot holds -/
theorem Sr.setOwn {F0 H0 F H : Hp} {σ : St} {δ : DEnv} (S : Sr F0 H0 F H σ δ) {a : Addr} {d : D} (h0 : H0 a = none) (hF : F a = none) (ho : OwnA F H a d)
    (ap : ∀ (j : Nat) e, δ[j]? = some (.own e) → σ[j]? ≠ some (some (.ref a))) (i : Nat) : Sr F0 H0 F H (σ.set i (some (.ref a))) (δ.set i (.own d)) where
  st := S.st
  len := by rw [List.length_set, List.length_set]; exact S.len
  val := fun j e h => by
    rcases set_get h with ⟨rfl, q, hl⟩ | ⟨ne, h⟩
    · cases q
    · rw [set_off ne]; exact S.val j e h
  own := fun j e h => by
    rcases set_get h with ⟨rfl, q, hl⟩ | ⟨ne, h⟩
    · cases q; exact ⟨a, set_at (by rw [S.len]; exact hl), h0, hF, ho⟩
    · rw [set_off ne]; exact S.own j e h
  apart := fun j k b e f h1 h2 h3 h4 => by
    rcases set_get h1 with ⟨rfl, q, hl⟩ | ⟨n1, h1⟩
    · rcases set_get h2 with ⟨rfl, q2, hl2⟩ | ⟨n2, h2⟩
      · rfl
      · rw [set_at (by rw [S.len]; exact hl)] at h3
        cases h3
        rw [set_off n2] at h4
        exact absurd h4 (ap k f h2)
    · rcases set_get h2 with ⟨rfl, q, hl⟩ | ⟨n2, h2⟩
      · rw [set_at (by rw [S.len]; exact hl)] at h4
        cases h4
        rw [set_off n1] at h3
        exact absurd h3 (ap j e (by rw [set_off n1] at h1; exact h1))
      · rw [set_off n1] at h3; rw [set_off n2] at h4
        exact S.apart j k b e f h1 h2 h3 h4
/-- the object in a slot changes -/
theorem Sr.write {F0 H0 F H : Hp} {σ : St} {δ : DEnv} (S : Sr F0 H0 F H σ δ) {i : Nat} {a : Addr} {d d' : D} {o : HO} (hd : δ[i]? = some (.own d)) (hs : σ[i]? = some (some (.ref a)))
    (hn : OwnA F (upd H a o) a d') : Sr F0 H0 F (upd H a o) σ (δ.set i (.own d')) := by
  obtain ⟨a', e1, h0, hF, ho⟩ := S.own i d hd
  rw [hs] at e1
  cases e1
  refine ⟨⟨S.st.ff, S.st.fh.over hF, S.st.hh.over h0, S.st.new⟩, by rw [List.length_set]; exact S.len, fun j e h => ?_, fun j e h => ?_, fun j k b e f h1 h2 h3 h4 => ?_⟩
  · rcases set_get h with ⟨rfl, q, hl⟩ | ⟨ne, h⟩
    · cases q
    · exact S.val j e h
  · rcases set_get h with ⟨rfl, q, hl⟩ | ⟨ne, h⟩
    · cases q; exact ⟨a, hs, h0, hF, hn⟩
    · obtain ⟨b, q1, q2, q3, q4⟩ := S.own j e h
      refine ⟨b, q1, q2, q3, q4.other fun z => ?_⟩
      subst z
      exact ne (S.apart j i b e d h hd q1 hs)
  · rcases set_get h1 with ⟨rfl, q, hl⟩ | ⟨n1, h1⟩
    · rcases set_get h2 with ⟨rfl, q2, hl2⟩ | ⟨n2, h2⟩
      · rfl
      · exact S.apart j k b d f hd h2 h3 h4
    · rcases set_get h2 with ⟨rfl, q2, hl2⟩ | ⟨n2, h2⟩
      · exact S.apart j k b e d (by rw [set_off n1] at h1; exact h1) hd h3 h4
      · exact S.apart j k b e f h1 h2 h3 h4
/-- a list in a slot is frozen -/
theorem Sr.freezeL {F0 H0 F H : Hp} {σ : St} {δ : DEnv} (S : Sr F0 H0 F H σ δ) {i : Nat} {ds : List D} (hd : δ[i]? = some (.own (.list ds))) :
    ∃ a F', σ[i]? = some (some (.ref a)) ∧ Rp F' (.ref a) (.list ds) ∧ Ex F F' ∧ Sr F0 H0 F' H σ (δ.set i (.val (.list ds))) := by
  obtain ⟨a, e1, h0, hF, xs, hx, hr⟩ := S.own i _ hd
  have st2 : Step F0 H0 (upd F a (.lst xs)) H := ⟨S.st.ff.trans (.put hF), fun b o h => by
    by_cases q : b = a
    · subst q; rw [upd_same] at h; rw [hx]; exact h
    · rw [upd_ne q] at h; exact S.st.fh b o h, S.st.hh, fun b h n => by
    by_cases q : b = a
    · rw [q]; exact h0
    · rw [upd_ne q] at n; exact S.st.new b h n⟩
  have rp : Rp (upd F a (.lst xs)) (.ref a) (.list ds) := .lst upd_same (hr.mono (.put hF))
  refine ⟨a, upd F a (.lst xs), e1, rp, .put hF, st2, by rw [List.length_set]; exact S.len, fun j e h => ?_, fun j e h => ?_, fun j k b e f h1 h2 h3 h4 => ?_⟩
  · rcases set_get h with ⟨rfl, q, hl⟩ | ⟨ne, h⟩
    · cases q; exact ⟨_, e1, rp⟩
    · obtain ⟨v, q1, q2⟩ := S.val j e h
      exact ⟨v, q1, q2.mono (.put hF)⟩
  · rcases set_get h with ⟨rfl, q, hl⟩ | ⟨ne, h⟩
    · cases q
    · obtain ⟨b, q1, q2, q3, q4⟩ := S.own j e h
      have nb : b ≠ a := fun z => by
        subst z
        exact ne (S.apart j i b e _ h hd q1 e1)
      exact ⟨b, q1, q2, by rw [upd_ne nb]; exact q3, q4.mono (.put hF) (.refl _)⟩
  · rcases set_get h1 with ⟨rfl, q, hl⟩ | ⟨n1, h1⟩
    · cases q
    · rcases set_get h2 with ⟨rfl, q, hl⟩ | ⟨n2, h2⟩
      · cases q
      · exact S.apart j k b e f h1 h2 h3 h4
end RD

end
section
namespace RD
open PySem L2
variable [HasK]
def clA (mg : Str → Option Value) (n : Str) : Addr := match mg n with
  | some (.ref a) => a
  | _ => 0
/-- a place in a def: its context, the heaps at its entry, what is wished of an exception -/
structure Cc where
  X : Cx
  F0 : Hp
  H0 : Hp
  W : WX
  hK : X.K = HasK.K
  hM : X.mg = HasK.mg
def XPost (mg : Str → Option Value) (W : WX) (F H : Hp) (σ : St) (n : Str) : Option (Str × D) → Prop
  | none => ∀ F' H', Step F H F' H' → W (.ref (clA mg n)) none σ H'
  | some (f, p) => ∀ F' H' dd v, Step F H F' H' → H' dd = some (.xd [(f, v)]) → F' dd = none → Rp F' v p → W (.ref (clA mg n)) (some dd) σ H'
def PostG {α β : Type} (Rel : Hp → Hp → β → α → Prop) (mg : Str → Option Value) (W : WX) (F H : Hp) (σ : St) (Q : β → Hp → Prop) : Res α → Prop
  | .ok d => ∀ v F' H', Step F H F' H' → Rel F' H' v d → Q v H'
  | .exc n p => XPost mg W F H σ n p
  | .stuck => False
theorem XPost.step {mg : Str → Option Value} {W : WX} {F H F' H' : Hp} {σ : St} {n : Str} {p : Option (Str × D)} (t : Step F H F' H') (h : XPost mg W F H σ n p) : XPost mg W F' H' σ n p := by
  cases p with
  | none => exact fun F2 H2 s => h F2 H2 (t.trans s)
  | some q => exact fun F2 H2 dd v s => h F2 H2 dd v (t.trans s)
theorem PostG.step {α β : Type} {Rel : Hp → Hp → β → α → Prop} {mg : Str → Option Value} {W : WX} {F H F' H' : Hp} {σ : St} {Q : β → Hp → Prop} {r : Res α} (t : Step F H F' H') (h : PostG Rel mg W F H σ Q r) : PostG Rel mg W F' H' σ Q r := by
  cases r with
  | ok d => exact fun v F2 H2 s => h v F2 H2 (t.trans s)
  | exc n p => exact XPost.step t h
  | stuck => exact h
abbrev TG_ (β : Type) := St → Hp → (β → Hp → Prop) → Prop
def Sim {α β : Type} (Rel : Hp → Hp → β → α → Prop) (c : Cc) (t : TG_ β) (d : DEnv → Res α) : Prop :=
  ∀ F H σ δ Q, Sr c.F0 c.H0 F H σ δ → PostG Rel HasK.mg c.W F H σ Q (d δ) → t σ H Q
/-- run a part, then go on -/
theorem Sim.go {α β α' β' : Type} {Rel : Hp → Hp → β → α → Prop} {Rel' : Hp → Hp → β' → α' → Prop} {c : Cc} {t : TG_ β} {d : DEnv → Res α} (h : Sim Rel c t d) {F H : Hp} {σ : St} {δ : DEnv} {Q : β' → Hp → Prop} {K : β → Hp → Prop} {r : α → Res α'}
    (S : Sr c.F0 c.H0 F H σ δ) (P : PostG Rel' HasK.mg c.W F H σ Q ((d δ).bind r))
    (k : ∀ F' H' x a, Step F H F' H' → Sr c.F0 c.H0 F' H' σ δ → Rel F' H' x a → PostG Rel' HasK.mg c.W F' H' σ Q (r a) → K x H') : t σ H K := by
  refine h F H σ δ K S ?_
  cases q : d δ with
  | stuck => rw [q] at P; exact P
  | exc n p => rw [q] at P; exact P
  | ok a =>
    rw [q] at P
    exact fun v F' H' s r => k F' H' v a s (S.step s) r (PostG.step s P)
theorem Sim.last {α β : Type} {Rel : Hp → Hp → β → α → Prop} {mg : Str → Option Value} {W : WX} {F H : Hp} {σ : St} {Q : β → Hp → Prop} {g : Option α} {G : Prop} (P : PostG Rel mg W F H σ Q (Res.ofO g))
    (h : ∀ z, g = some z → (∀ v F' H', Step F H F' H' → Rel F' H' v z → Q v H') → G) : G := by
  cases g with
  | none => exact P.elim
  | some z => exact h z rfl P
abbrev RF : Hp → Hp → V → D → Prop := fun F _ v d => Rp F v d
abbrev RB : Hp → Hp → V → D → Prop := Bw
abbrev RT : Hp → Hp → Bool → Bool → Prop := fun _ _ b k => b = k
abbrev RA : Hp → Hp → List V → List D → Prop := fun F _ v d => RpAll F v d
abbrev RAB : Hp → Hp → List V → List D → Prop := BwAll
abbrev RO : Hp → Hp → Option Int → Option Int → Prop := fun _ _ b k => b = k
structure JE (c : Cc) (e : Expr) (t : TE) (d : DE) : Prop where
  p : PE c.X e t
  s : Sim RF c t d
structure JB (c : Cc) (e : Expr) (t : TE) (d : DE) : Prop where
  p : PE c.X e t
  s : Sim RB c t d
structure JT (c : Cc) (e : Expr) (t : TT) (d : DT) : Prop where
  p : PT c.X e t
  s : Sim RT c t d
structure JW (c : Cc) (e : Expr) (t : TT) (d : DT) : Prop where
  p : PW c.X e t
  s : Sim RT c t d
structure JA (c : Cc) (es : List Expr) (t : TA) (d : DA) : Prop where
  p : PA c.X es t
  s : Sim RA c t d
structure JAB (c : Cc) (es : List Expr) (t : TA) (d : DA) : Prop where
  p : PA c.X es t
  s : Sim RAB c t d
structure JO (c : Cc) (e : Option Expr) (t : TO) (d : DEnv → Res (Option Int)) : Prop where
  p : PO c.X e t
  s : Sim RO c t d
theorem PostG.imp {α β : Type} {Rel Rel' : Hp → Hp → β → α → Prop} {mg : Str → Option Value} {W : WX} {F H : Hp} {σ : St} {Q : β → Hp → Prop} {r : Res α} (hr : ∀ F H x a, Rel' F H x a → Rel F H x a) (h : PostG Rel mg W F H σ Q r) : PostG Rel' mg W F H σ Q r := by
  cases r with
  | ok d => exact fun v F2 H2 s q => h v F2 H2 s (hr _ _ _ _ q)
  | exc n p => exact h
  | stuck => exact h
section
variable {c : Cc} {e a b : Expr} {es : List Expr} {da db : DE} {pos : Pos} {ta tb tc : TE} {tt tt' : TT}
theorem JE.toB (h : JE c e ta da) : JB c e ta da := ⟨h.p, fun F H σ δ Q S P => h.s F H σ δ Q S (P.imp fun _ _ _ _ q => .inl q)⟩
theorem JW.t {d : DT} (h : JW c e tt d) : JT c e tt d := ⟨h.p.pt, h.s⟩
/-! ### constants, names -/
def dC (d : D) : DE := fun _ => .ok d
theorem sim_c {v : V} {d : D} (r : ∀ F, Rp F v d) : Sim RF c (tC v) (dC d) := fun F H σ δ Q S P => P v F H (.refl S.fh) (r F)
theorem je_int {i j pos} : JE c (.Constant (.int i) j pos) (tC (.int i)) (dC (.int i)) := ⟨pe_int, sim_c fun _ => .int i⟩
theorem je_bl {i j pos} : JE c (.Constant (.bool i) j pos) (tC (.bl i)) (dC (.bool i)) := ⟨pe_bl, sim_c fun _ => .bl i⟩
theorem je_non {j pos} : JE c (.Constant .none j pos) (tC .non) (dC .none) := ⟨pe_non, sim_c fun _ => .non⟩
theorem je_str {x j pos} : JE c (.Constant (.str x) j pos) (tC (.str x)) (dC (.str x)) := ⟨pe_str, sim_c fun _ => .str x⟩
def dVar (i : Nat) : DE := fun δ => match δ[i]? with
  | some (.val d) => .ok d
  | _ => .stuck
def dVarB (i : Nat) : DE := fun δ => match δ[i]? with
  | some (.val d) => .ok d
  | some (.own d) => .ok d
  | _ => .stuck
theorem sim_var {i : Nat} : Sim RF c (tVar i) (dVar i) := fun F H σ δ Q S P => by
  unfold dVar at P
  cases q : δ[i]? with
  | none => rw [q] at P; exact P.elim
  | some s =>
    rw [q] at P
    cases s with
    | val d =>
      obtain ⟨v, h1, h2⟩ := S.val i d q
      exact ⟨v, h1, P v F H (.refl S.fh) h2⟩
    | no => exact P.elim
    | own d => exact P.elim
theorem sim_varB {i : Nat} : Sim RB c (tVar i) (dVarB i) := fun F H σ δ Q S P => by
  unfold dVarB at P
  cases q : δ[i]? with
  | none => rw [q] at P; exact P.elim
  | some s =>
    rw [q] at P
    cases s with
    | val d =>
      obtain ⟨v, h1, h2⟩ := S.val i d q
      exact ⟨v, h1, P v F H (.refl S.fh) (.inl h2)⟩
    | no => exact P.elim
    | own d =>
      obtain ⟨a, h1, h2, h3, h4⟩ := S.own i d q
      exact ⟨.ref a, h1, P _ F H (.refl S.fh) (.inr ⟨a, rfl, h4⟩)⟩
theorem je_var (i : Nat) {x : Str} (hN : c.X.N[i]? = some x := by rfl) (hv : Vis c.X.env.scope x := by first | exact Or.inl rfl | exact Or.inr (Or.inl rfl) | exact Or.inr (Or.inr rfl)) (hd : (x == ("__debug__" : Str)) = false := by decide)
    (hcd : (x == ("__classdict__" : Str)) = false := by decide) : JE c (.Name x pos) (tVar i) (dVar i) := ⟨pe_var hN hv hd hcd, sim_var⟩
theorem jb_var (i : Nat) {x : Str} (hN : c.X.N[i]? = some x := by rfl) (hv : Vis c.X.env.scope x := by first | exact Or.inl rfl | exact Or.inr (Or.inl rfl) | exact Or.inr (Or.inr rfl)) (hd : (x == ("__debug__" : Str)) = false := by decide)
    (hcd : (x == ("__classdict__" : Str)) = false := by decide) : JB c (.Name x pos) (tVar i) (dVarB i) := ⟨pe_var hN hv hd hcd, sim_varB⟩
/-- a module's constant -/
def IntG (mg : Str → Option Value) (x : Str) (n : Int) : Prop := ∃ t, mg x = some (.int n t)
theorem je_gint {x : Str} {n : Int} (hm : IntG c.X.mg x n) (hg : Gl c.X x) (hd : (x == ("__debug__" : Str)) = false := by decide) : JE c (.Name x pos) (tC (.int n)) (dC (.int n)) := by
  obtain ⟨t, hm⟩ := hm
  exact ⟨pe_glob (v := .int n) hg hm ⟨t, rfl⟩ hd, sim_c fun _ => .int n⟩
def StrG (mg : Str → Option Value) (x : Str) (n : Str) : Prop := ∃ t, mg x = some (.str n t)
theorem je_gstr {x : Str} {n : Str} (hm : StrG c.X.mg x n) (hg : Gl c.X x) (hd : (x == ("__debug__" : Str)) = false := by decide) : JE c (.Name x pos) (tC (.str n)) (dC (.str n)) := by
  obtain ⟨t, hm⟩ := hm
  exact ⟨pe_glob (v := .str n) hg hm ⟨t, rfl⟩ hd, sim_c fun _ => .str n⟩

/-! ### operators -/
def OpS (r : R2) (g : D → D → Option D) : Prop := ∀ F H x y d e z Q, Ex F H → Bw F H x d → Bw F H y e → g d e = some z → (∀ v F' H', Step F H F' H' → Rp F' v z → Q v H') → r x y H Q
def dOp (g : D → D → Option D) (da db : DE) : DE := fun δ => (da δ).bind fun d => (db δ).bind fun e => Res.ofO (g d e)
theorem sim_op {r : R2} {g : D → D → Option D} (hs : OpS r g) (ha : Sim RB c ta da) (hb : Sim RB c tb db) : Sim RF c (tOp r ta tb) (dOp g da db) := fun F H σ δ Q S P =>
  ha.go S P fun F1 H1 x d s1 S1 hx P1 => hb.go S1 P1 fun F2 H2 y e s2 S2 hy P2 => Sim.last P2 fun z hz k => hs F2 H2 x y d e z Q S2.fh (hx.mono s2.ff s2.hh) hy hz k
theorem je_bin {op : Operator} {r : R2} {g : D → D → Option D} (ho : OpR c.X (binaryOp op) r) (hs : OpS r g) (ha : JB c a ta da) (hb : JB c b tb db) : JE c (.BinOp a op b pos) (tOp r ta tb) (dOp g da db) := by
  exact ⟨pe_op ho ha.p hb.p, sim_op hs ha.s hb.s⟩
theorem je_cmpR {op : CmpOp} {r : R2} {g : D → D → Option D} (ho : OpR c.X (compareOp op) r) (hs : OpS r g) (ha : JB c a ta da) (hb : JB c b tb db) (hm : behindInMarks op b = false) : JE c (.Compare a [op] [b] pos) (tOp r ta tb) (dOp g da db) := by
  exact ⟨pe_cmpR ho ha.p hb.p hm, sim_op hs ha.s hb.s⟩
/-- a value that is True or False, as a test -/
def dTest (d : DE) : DT := fun δ => (d δ).bind fun x => match x with
  | .bool b => .ok b
  | _ => .stuck
theorem sim_test {t : TE} (h : Sim RF c t da) : Sim RT c (tTest t) (dTest da) := fun F H σ δ Q S P =>
  h.go S P fun F1 H1 x d s1 S1 hx P1 => by
    cases d with
    | bool b => cases hx; exact ⟨b, rfl, P1 b F1 H1 (.refl S1.fh) rfl⟩
    | _ => exact P1.elim
theorem jt_cmpR {op : CmpOp} {r : R2} {g : D → D → Option D} (ho : OpR c.X (compareOp op) r) (hs : OpS r g) (ha : JB c a ta da) (hb : JB c b tb db) (hm : behindInMarks op b = false) : JT c (.Compare a [op] [b] pos) (tTest (tOp r ta tb)) (dTest (dOp g da db)) := by
  exact ⟨pt_cmpR ho ha.p hb.p hm, sim_test (sim_op hs ha.s hb.s)⟩

theorem new_tup {F H : Hp} {xs : List V} {ds : List D} {Q : VK} (e : Ex F H) (r : RpAll F xs ds) (h : ∀ v F' H', Step F H F' H' → Rp F' v (.tuple ds) → Q v H') : ∀ p, H p = none → Q (.ref p) (upd H p (.tup xs)) := fun p hp =>
  h _ _ _ (Step.put e (.tup xs) hp) (.tup upd_same (r.mono (.put (e.back hp))))
theorem new_lst {F H : Hp} {xs : List V} {ds : List D} {Q : VK} (e : Ex F H) (r : RpAll F xs ds) (h : ∀ v F' H', Step F H F' H' → Rp F' v (.list ds) → Q v H') : ∀ p, H p = none → Q (.ref p) (upd H p (.lst xs)) := fun p hp =>
  h _ _ _ (Step.put e (.lst xs) hp) (.lst upd_same (r.mono (.put (e.back hp))))
def Sz (n : Nat) : Prop := n ≤ 1000000
instance (n : Nat) : Decidable (Sz n) := inferInstanceAs (Decidable (n ≤ 1000000))
theorem Sz.le {n : Nat} (h : Sz n) : n ≤ sizeLine := by rw [sizeLine_eq]; exact Nat.le_trans h (by decide)
theorem Sz.lt {n : Nat} (h : Sz n) : n < sizeLine := by rw [sizeLine_eq]; exact Nat.lt_of_le_of_lt h (by decide)
theorem sqT {K : PySem.W.Frag} {H : Hp} {a : Addr} {xs : List V} (h : H a = some (.tup xs)) : SqT K H a xs := .inl (.inl h)
theorem sqL {K : PySem.W.Frag} {H : Hp} {a : Addr} {xs : List V} (h : H a = some (.lst xs)) : SqL K H a xs := .inl (.inl h)
/-- + -/
def addD : D → D → Option D
  | .int i, .int j => some (.int (i + j))
  | .tuple x, .tuple y => if Sz (x.length + y.length) then some (.tuple (x ++ y)) else none
  | .list x, .list y => if Sz (x.length + y.length) then some (.list (x ++ y)) else none
  | .str x, .str y => if Sz (x.length + y.length) then some (.str (x ++ y)) else none
  | _, _ => none
def rAddA (K : PySem.W.Frag) : R2 := fun x y H Q => rI0 (fun i j => .int (i + j)) x y H Q ∨ (rCatA K x y H Q ∨ (rCat x y H Q ∨ ∃ i j, x = .str i ∧ y = .str j ∧ i.length + j.length ≤ sizeLine ∧ Q (.str (i ++ j)) H))
theorem op_addA {X : Cx} : OpR X (binaryOp .Add) (rAddA X.K) := OpR.or op_add (OpR.or op_catA (OpR.or op_cat op_add_str))
theorem s_addA {K : PySem.W.Frag} : OpS (rAddA K) addD := by
  intro F H x y d e z Q ex bx by_ hz h
  cases d with
  | int i =>
    cases e with
    | int j => cases hz; exact .inl ⟨i, j, bx.int, by_.int, h _ F H (.refl ex) (.int _)⟩
    | _ => cases hz
  | tuple xs =>
    cases e with
    | tuple ys =>
      by_cases hs : Sz (xs.length + ys.length)
      · have hz2 : some (PyData.tuple (xs ++ ys)) = some z := by rw [← hz]; exact (if_pos hs).symm
        cases hz2
        obtain ⟨a, us, rfl, ha, ra⟩ := bx.tup ex
        obtain ⟨b, ws, rfl, hb, rb⟩ := by_.tup ex
        refine .inr (.inl ⟨a, b, us, ws, rfl, rfl, sqT ha, sqT hb, by rw [ra.len, rb.len]; exact hs.le, fun q => ?_, fun _ q => ?_, fun _ _ => new_tup ex (ra.app rb) h⟩)
        · subst q
          cases ra
          exact h _ F H (.refl ex) by_.rpT
        · subst q
          cases rb
          rw [List.append_nil] at h
          exact h _ F H (.refl ex) bx.rpT
      · have hz2 : (none : Option D) = some z := by rw [← hz]; exact (if_neg hs).symm
        cases hz2
    | _ => cases hz
  | list xs =>
    cases e with
    | list ys =>
      by_cases hs : Sz (xs.length + ys.length)
      · have hz2 : some (PyData.list (xs ++ ys)) = some z := by rw [← hz]; exact (if_pos hs).symm
        cases hz2
        obtain ⟨a, us, rfl, ha, ra⟩ := bx.lst ex
        obtain ⟨b, ws, rfl, hb, rb⟩ := by_.lst ex
        exact .inr (.inr (.inl ⟨a, b, us, ws, rfl, rfl, ha, hb, by rw [ra.len, rb.len]; exact hs.le, new_lst ex (ra.app rb) h⟩))
      · have hz2 : (none : Option D) = some z := by rw [← hz]; exact (if_neg hs).symm
        cases hz2
    | _ => cases hz
  | str xs =>
    cases e with
    | str ys =>
      by_cases hs : Sz (xs.length + ys.length)
      · have hz2 : some (PyData.str (xs ++ ys)) = some z := by rw [← hz]; exact (if_pos hs).symm
        cases hz2
        exact .inr (.inr (.inr ⟨xs, ys, bx.str, by_.str, hs.le, h _ F H (.refl ex) (.str _)⟩))
      · have hz2 : (none : Option D) = some z := by rw [← hz]; exact (if_neg hs).symm
        cases hz2
    | _ => cases hz
  | none => cases hz
  | bool k => cases hz
  | dict k => cases hz
theorem je_add (ha : JB c a ta da) (hb : JB c b tb db) : JE c (.BinOp a .Add b pos) (tOp (rAddA HasK.K) ta tb) (dOp addD da db) := by
  rw [← c.hK]
  exact je_bin op_addA s_addA ha hb
/-- two ints -/
def i2 (f : Int → Int → Option D) : D → D → Option D
  | .int i, .int j => f i j
  | _, _ => none
theorem s_i2 {r : R2} {f : Int → Int → Option D} (h : ∀ F H i j z Q, Ex F H → f i j = some z → (∀ v F' H', Step F H F' H' → Rp F' v z → Q v H') → r (.int i) (.int j) H Q) : OpS r (i2 f) := by
  intro F H x y d e z Q ex bx by_ hz k
  cases d with
  | int i =>
    cases e with
    | int j =>
      have h1 := bx.int; have h2 := by_.int
      subst h1; subst h2
      exact h F H i j z Q ex hz k
    | _ => cases hz
  | _ => cases hz
def fT (p : Int → Int → Prop) [∀ i j, Decidable (p i j)] (f : Int → Int → D) : Int → Int → Option D := fun i j => if p i j then some (f i j) else none
theorem fT_some {p : Int → Int → Prop} [∀ i j, Decidable (p i j)] {f : Int → Int → D} {i j : Int} {z : D} (h : fT p f i j = some z) : p i j ∧ z = f i j := by
  unfold fT at h
  split at h
  · exact ⟨by assumption, (Option.some.inj h).symm⟩
  · cases h
def subD := i2 fun i j => some (.int (i - j))
theorem je_sub (ha : JB c a ta da) (hb : JB c b tb db) : JE c (.BinOp a .Sub b pos) (tOp (rI0 fun i j => .int (i - j)) ta tb) (dOp subD da db) :=
  je_bin op_sub (s_i2 fun F H i j z Q ex hz k => ⟨i, j, rfl, rfl, by cases hz; exact k _ F H (.refl ex) (.int _)⟩) ha hb
instance (i j : Int) : Decidable (CDiv i j) := inferInstanceAs (Decidable (0 < j ∧ j < 1073741824))
instance (i j : Int) : Decidable (CMul i j) := inferInstanceAs (Decidable ((-(2 ^ 64) < i ∧ i < 2 ^ 64) ∨ (-(2 ^ 64) < j ∧ j < 2 ^ 64)))
instance (i j : Int) : Decidable (CPow i j) := inferInstanceAs (Decidable (0 ≤ j ∧ j ≤ 1000000 ∧ i.natAbs < 2 ^ 64))
def fdivD := i2 (fT CDiv fun i j => .int (i / j))
theorem je_fdiv (ha : JB c a ta da) (hb : JB c b tb db) : JE c (.BinOp a .FloorDiv b pos) (tOp (rI CDiv fun i j => .int (i / j)) ta tb) (dOp fdivD da db) :=
  je_bin op_fdiv (s_i2 fun F H i j z Q ex hz k => by
    obtain ⟨h1, rfl⟩ := fT_some hz
    exact ⟨i, j, rfl, rfl, h1, k _ F H (.refl ex) (.int _)⟩) ha hb
def modD := i2 (fT (fun _ j => 0 < j) fun i j => .int (i % j))
theorem je_mod (ha : JB c a ta da) (hb : JB c b tb db) : JE c (.BinOp a .Mod b pos) (tOp (rI (fun _ j => 0 < j) fun i j => .int (i % j)) ta tb) (dOp modD da db) :=
  je_bin op_mod (s_i2 fun F H i j z Q ex hz k => by
    obtain ⟨h1, rfl⟩ := fT_some hz
    exact ⟨i, j, rfl, rfl, h1, k _ F H (.refl ex) (.int _)⟩) ha hb
def powD := i2 (fT CPow fun i j => .int (i ^ j.toNat))
theorem je_pow (ha : JB c a ta da) (hb : JB c b tb db) : JE c (.BinOp a .Pow b pos) (tOp (rI CPow fun i j => .int (i ^ j.toNat)) ta tb) (dOp powD da db) :=
  je_bin op_pow (s_i2 fun F H i j z Q ex hz k => by
    obtain ⟨h1, rfl⟩ := fT_some hz
    exact ⟨i, j, rfl, rfl, h1, k _ F H (.refl ex) (.int _)⟩) ha hb
/-- * -/
def mulD : D → D → Option D
  | .int i, .int j => if CMul i j then some (.int (i * j)) else none
  | .list x, .int k => if 0 ≤ k ∧ Sz (x.length * k.toNat) ∧ k < 2 ^ 60 then some (.list (List.replicate k.toNat x).flatten) else none
  | .tuple x, .int k => if x ≠ [] ∧ 2 ≤ k ∧ k ≤ 1000 ∧ x.length ≤ 1000 then some (.tuple (List.replicate k.toNat x).flatten) else none
  | _, _ => none
def rMulA (K : PySem.W.Frag) : R2 := fun x y H Q => rI CMul (fun i j => .int (i * j)) x y H Q ∨ (rRep x y H Q ∨ rRepT K x y H Q)
theorem op_mulA {X : Cx} : OpR X (binaryOp .Mult) (rMulA X.K) := OpR.or op_mul (OpR.or op_rep op_repT)
theorem s_mulA {K : PySem.W.Frag} : OpS (rMulA K) mulD := by
  intro F H x y d e z Q ex bx by_ hz h
  cases d with
  | int i =>
    cases e with
    | int j =>
      by_cases hs : CMul i j
      · have hz2 : some (PyData.int (i * j)) = some z := by rw [← hz]; exact (if_pos hs).symm
        cases hz2
        exact .inl ⟨i, j, bx.int, by_.int, hs, h _ F H (.refl ex) (.int _)⟩
      · have hz2 : (none : Option D) = some z := by rw [← hz]; exact (if_neg hs).symm
        cases hz2
    | _ => cases hz
  | list xs =>
    cases e with
    | int k =>
      by_cases hs : 0 ≤ k ∧ Sz (xs.length * k.toNat) ∧ k < 2 ^ 60
      · have hz2 : some (PyData.list (List.replicate k.toNat xs).flatten) = some z := by rw [← hz]; exact (if_pos hs).symm
        cases hz2
        obtain ⟨a, us, rfl, ha, ra⟩ := bx.lst ex
        exact .inr (.inl ⟨a, k, us, rfl, by_.int, ha, by omega, by omega, by rw [ra.len]; exact hs.2.1.le, new_lst ex (ra.rep _) h⟩)
      · have hz2 : (none : Option D) = some z := by rw [← hz]; exact (if_neg hs).symm
        cases hz2
    | _ => cases hz
  | tuple xs =>
    cases e with
    | int k =>
      by_cases hs : xs ≠ [] ∧ 2 ≤ k ∧ k ≤ 1000 ∧ xs.length ≤ 1000
      · have hz2 : some (PyData.tuple (List.replicate k.toNat xs).flatten) = some z := by rw [← hz]; exact (if_pos hs).symm
        cases hz2
        obtain ⟨a, us, rfl, ha, ra⟩ := bx.tup ex
        exact .inr (.inr ⟨a, k, us, rfl, by_.int, sqT ha, (fun q => by subst q; cases ra; exact hs.1 rfl), hs.2.1, hs.2.2.1, by rw [ra.len]; exact hs.2.2.2, new_tup ex (ra.rep _) h⟩)
      · have hz2 : (none : Option D) = some z := by rw [← hz]; exact (if_neg hs).symm
        cases hz2
    | _ => cases hz
  | _ => cases hz
theorem je_mul (ha : JB c a ta da) (hb : JB c b tb db) : JE c (.BinOp a .Mult b pos) (tOp (rMulA HasK.K) ta tb) (dOp mulD da db) := by
  rw [← c.hK]
  exact je_bin op_mulA s_mulA ha hb
end
end RD

end
section
namespace RD
open PySem L2
variable [HasK]
theorem if_some {α : Type} {p : Prop} [Decidable p] {a z : α} (h : (if p then some a else none) = some z) : p ∧ a = z := by
  split at h
  · exact ⟨by assumption, Option.some.inj h⟩
  · cases h
mutual
theorem Rp.dp {K : PySem.W.Frag} {H : Hp} : ∀ {v : V} {d : D}, Rp H v d → d.canLay0 = true → Dp K H v d
  | _, _, .non, _ => .non
  | _, _, .bl b, _ => .bl b
  | _, _, .int i, _ => .int i
  | _, _, .str x, _ => .str x
  | _, _, .lst h r, q => .lst (sqL h) (RpAll.dp r (by simpa [PyData.canLay0] using q))
  | _, _, .tup h r, q => .tup (sqT h) (RpAll.dp r (by simpa [PyData.canLay0] using q))
  | _, _, .scr h, q => by simp [scrD, PyData.canLay0] at q
  | _, _, .dK h r, q => by simp [PyData.canLay0] at q
  | _, _, .dT h r, q => by simp [PyData.canLay0] at q
theorem RpAll.dp {K : PySem.W.Frag} {H : Hp} : ∀ {vs : List V} {ds : List D}, RpAll H vs ds → PyData.canLayAll0 ds = true → DpAll K H vs ds
  | _, _, .nil, _ => .nil
  | _, _, .cons h r, q => by
    have q2 := q
    simp only [PyData.canLayAll0, Bool.and_eq_true] at q2
    exact .cons (Rp.dp h q2.1) (RpAll.dp r q2.2)
end
theorem Bw.dp {K : PySem.W.Frag} {F H : Hp} {v : V} {d : D} (e : Ex F H) (h : Bw F H v d) (q : d.canLay0 = true) : Dp K H v d := by
  rcases h with h | ⟨a, h1, h2⟩
  · exact (h.mono e).dp q
  · cases d with
    | list ds =>
      obtain ⟨xs, h3, h4⟩ := h2
      subst h1
      exact .lst (sqL h3) ((h4.mono e).dp (by simpa [PyData.canLay0] using q))
    | dict es => simp [PyData.canLay0] at q
    | _ => exact h2.elim
theorem shp {d : D} (h : SeqAt.shaped d = true) : d.canLay0 = true := SeqAt.canLay_of_shaped h
section
variable {c : Cc} {e a b : Expr} {es : List Expr} {da db dc : DE} {pos : Pos} {ta tb tc : TE} {tt tt' : TT} {tl th : TO} {tr : TA}
/-- ==, != -/
def eqD (neg : Bool) : D → D → Option D := fun d e => match d, e with
  | .int i, .int j => some (.bool (if neg then !decide (i = j) else decide (i = j)))
  | d, e => if SeqAt.shaped d = true ∧ SeqAt.shaped e = true then some (.bool (if neg then !PyData.eqv d e else PyData.eqv d e)) else none
theorem eqD_cases {neg : Bool} {d e z : D} (h : eqD neg d e = some z) : (∃ i j, d = .int i ∧ e = .int j ∧ z = .bool (if neg then !decide (i = j) else decide (i = j))) ∨
    (SeqAt.shaped d = true ∧ SeqAt.shaped e = true ∧ z = .bool (if neg then !PyData.eqv d e else PyData.eqv d e)) := by
  unfold eqD at h
  split at h
  · cases h; exact .inl ⟨_, _, rfl, rfl, rfl⟩
  · obtain ⟨⟨h1, h2⟩, h3⟩ := if_some h
    exact .inr ⟨h1, h2, h3.symm⟩
def rEqA (K : PySem.W.Frag) : R2 := fun x y H Q => rEq x y H Q ∨ rEqD K x y H Q
def rNeA (K : PySem.W.Frag) : R2 := fun x y H Q => rNe x y H Q ∨ rNeD K x y H Q
theorem vint_inj {i j : Int} : decide (V.int i = V.int j) = decide (i = j) := by
  by_cases h : i = j
  · subst h; simp
  · rw [decide_eq_false h, decide_eq_false (fun q => h (by injection q))]
theorem s_eqA {K : PySem.W.Frag} : OpS (rEqA K) (eqD false) := by
  intro F H x y d e z Q ex bx by_ hz h
  rcases eqD_cases hz with ⟨i, j, rfl, rfl, rfl⟩ | ⟨h1, h2, rfl⟩
  · have e1 := bx.int; have e2 := by_.int
    subst e1; subst e2
    refine .inl ⟨rfl, ?_⟩
    rw [vint_inj]
    exact h _ F H (.refl ex) (.bl _)
  · exact .inr ⟨d, e, bx.dp ex (shp h1), by_.dp ex (shp h2), h1, h2, h _ F H (.refl ex) (.bl _)⟩
theorem s_neA {K : PySem.W.Frag} : OpS (rNeA K) (eqD true) := by
  intro F H x y d e z Q ex bx by_ hz h
  rcases eqD_cases hz with ⟨i, j, rfl, rfl, rfl⟩ | ⟨h1, h2, rfl⟩
  · have e1 := bx.int; have e2 := by_.int
    subst e1; subst e2
    refine .inl ⟨rfl, ?_⟩
    rw [vint_inj]
    exact h _ F H (.refl ex) (.bl _)
  · exact .inr ⟨d, e, bx.dp ex (shp h1), by_.dp ex (shp h2), h1, h2, h _ F H (.refl ex) (.bl _)⟩
theorem je_eq (hu : c.X.A.units + 64 < cLine) (ha : JB c a ta da) (hb : JB c b tb db) : JE c (.Compare a [.Eq] [b] pos) (tOp (rEqA HasK.K) ta tb) (dOp (eqD false) da db) := by
  rw [← c.hK]
  exact je_cmpR (OpR.or op_eq (op_eqD hu)) s_eqA ha hb (nomark _)
theorem je_ne (hu : c.X.A.units + 64 < cLine) (ha : JB c a ta da) (hb : JB c b tb db) : JE c (.Compare a [.NotEq] [b] pos) (tOp (rNeA HasK.K) ta tb) (dOp (eqD true) da db) := by
  rw [← c.hK]
  exact je_cmpR (OpR.or op_ne (op_neD hu)) s_neA ha hb (nomark _)
theorem jt_eq (hu : c.X.A.units + 64 < cLine) (ha : JB c a ta da) (hb : JB c b tb db) : JT c (.Compare a [.Eq] [b] pos) (tTest (tOp (rEqA HasK.K) ta tb)) (dTest (dOp (eqD false) da db)) := by
  rw [← c.hK]
  exact jt_cmpR (OpR.or op_eq (op_eqD hu)) s_eqA ha hb (nomark _)
theorem jt_ne (hu : c.X.A.units + 64 < cLine) (ha : JB c a ta da) (hb : JB c b tb db) : JT c (.Compare a [.NotEq] [b] pos) (tTest (tOp (rNeA HasK.K) ta tb)) (dTest (dOp (eqD true) da db)) := by
  rw [← c.hK]
  exact jt_cmpR (OpR.or op_ne (op_neD hu)) s_neA ha hb (nomark _)
/-- <, <=, >, >= of ints -/
def ltD := i2 fun i j => some (.bool (decide (i < j)))
def leD := i2 fun i j => some (.bool (decide (i ≤ j)))
def gtD := i2 fun i j => some (.bool (decide (j < i)))
def geD := i2 fun i j => some (.bool (decide (j ≤ i)))
theorem s_b2 {g : Int → Int → Bool} : OpS (rI0 fun i j => .bl (g i j)) (i2 fun i j => some (.bool (g i j))) := s_i2 fun F H i j z Q ex hz k => ⟨i, j, rfl, rfl, by cases hz; exact k _ F H (.refl ex) (.bl _)⟩
theorem je_lt (ha : JB c a ta da) (hb : JB c b tb db) : JE c (.Compare a [.Lt] [b] pos) (tOp (rI0 fun i j => .bl (decide (i < j))) ta tb) (dOp ltD da db) := je_cmpR op_lt s_b2 ha hb (nomark _)
theorem je_le (ha : JB c a ta da) (hb : JB c b tb db) : JE c (.Compare a [.LtE] [b] pos) (tOp (rI0 fun i j => .bl (decide (i ≤ j))) ta tb) (dOp leD da db) := je_cmpR op_le s_b2 ha hb (nomark _)
theorem je_gt (ha : JB c a ta da) (hb : JB c b tb db) : JE c (.Compare a [.Gt] [b] pos) (tOp (rI0 fun i j => .bl (decide (j < i))) ta tb) (dOp gtD da db) := je_cmpR op_gt s_b2 ha hb (nomark _)
theorem je_ge (ha : JB c a ta da) (hb : JB c b tb db) : JE c (.Compare a [.GtE] [b] pos) (tOp (rI0 fun i j => .bl (decide (j ≤ i))) ta tb) (dOp geD da db) := je_cmpR op_ge s_b2 ha hb (nomark _)
theorem jt_lt (ha : JB c a ta da) (hb : JB c b tb db) : JT c (.Compare a [.Lt] [b] pos) (tTest (tOp (rI0 fun i j => .bl (decide (i < j))) ta tb)) (dTest (dOp ltD da db)) := jt_cmpR op_lt s_b2 ha hb (nomark _)
theorem jt_le (ha : JB c a ta da) (hb : JB c b tb db) : JT c (.Compare a [.LtE] [b] pos) (tTest (tOp (rI0 fun i j => .bl (decide (i ≤ j))) ta tb)) (dTest (dOp leD da db)) := jt_cmpR op_le s_b2 ha hb (nomark _)
theorem jt_gt (ha : JB c a ta da) (hb : JB c b tb db) : JT c (.Compare a [.Gt] [b] pos) (tTest (tOp (rI0 fun i j => .bl (decide (j < i))) ta tb)) (dTest (dOp gtD da db)) := jt_cmpR op_gt s_b2 ha hb (nomark _)
theorem jt_ge (ha : JB c a ta da) (hb : JB c b tb db) : JT c (.Compare a [.GtE] [b] pos) (tTest (tOp (rI0 fun i j => .bl (decide (j ≤ i))) ta tb)) (dTest (dOp geD da db)) := jt_cmpR op_ge s_b2 ha hb (nomark _)
/-- a <= b <= c -/
def dChain (g g' : D → D → Option D) (da db dc : DE) : DE := fun δ => (da δ).bind fun x => (db δ).bind fun y => (Res.ofO (g x y)).bind fun z => match z with
  | .bool true => (dc δ).bind fun w => Res.ofO (g' y w)
  | .bool false => .ok (.bool false)
  | _ => .stuck
theorem sim_chain {r r' : R2} {g g' : D → D → Option D} (hs : OpS r g) (hs' : OpS r' g') (ha : Sim RB c ta da) (hb : Sim RB c tb db) (hc : Sim RB c tc dc) : Sim RF c (tChain r r' ta tb tc) (dChain g g' da db dc) := fun F H σ δ Q S P =>
  ha.go S P fun F1 H1 x d s1 S1 hx P1 => hb.go S1 P1 fun F2 H2 y e s2 S2 hy P2 => by
    have hx2 := hx.mono s2.ff s2.hh
    cases q : g d e with
    | none => rw [q] at P2; exact P2.elim
    | some z =>
      rw [q] at P2
      refine hs F2 H2 x y d e z _ S2.fh hx2 hy q fun v F3 H3 s3 hv => ?_
      cases z with
      | bool k =>
        cases hv
        refine ⟨k, rfl, ?_⟩
        cases k with
        | false => exact iteF (P2 _ F3 H3 s3 (.bl _))
        | true =>
          refine iteT (hc.go (S2.step s3) (PostG.step s3 P2) fun F4 H4 w f s4 S4 hw P4 => Sim.last P4 fun z hz k => hs' F4 H4 y w e f z Q S4.fh ((hy.mono s3.ff s3.hh).mono s4.ff s4.hh) hw hz k)
      | _ => exact P2.elim
theorem je_chain {op op' : CmpOp} {r r' : R2} {g g' : D → D → Option D} {x : Expr} (ho : OpR c.X (compareOp op) r) (hs : OpS r g) (ho' : OpR c.X (compareOp op') r') (hs' : OpS r' g') (ha : JB c a ta da) (hb : JB c b tb db) (hc : JB c x tc dc)
    (hm : lastMarks [op, op'] [b, x] = false) : JE c (.Compare a [op, op'] [b, x] pos) (tChain r r' ta tb tc) (dChain g g' da db dc) := by
  obtain ⟨a1, a2⟩ := ha
  obtain ⟨b1, b2⟩ := hb
  obtain ⟨c1, c2⟩ := hc
  exact ⟨pe_chain ho ho' a1 b1 c1 hm, sim_chain hs hs' a2 b2 c2⟩
theorem jt_chain {op op' : CmpOp} {r r' : R2} {g g' : D → D → Option D} {x : Expr} (ho : OpR c.X (compareOp op) r) (hs : OpS r g) (ho' : OpR c.X (compareOp op') r') (hs' : OpS r' g') (ha : JB c a ta da) (hb : JB c b tb db) (hc : JB c x tc dc)
    (hm : lastMarks [op, op'] [b, x] = false) : JT c (.Compare a [op, op'] [b, x] pos) (tTest (tChain r r' ta tb tc)) (dTest (dChain g g' da db dc)) := by
  obtain ⟨a1, a2⟩ := ha
  obtain ⟨b1, b2⟩ := hb
  obtain ⟨c1, c2⟩ := hc
  exact ⟨pt_chain ho ho' a1 b1 c1 hm, sim_test (sim_chain hs hs' a2 b2 c2)⟩
theorem je_lele {x : Expr} (ha : JB c a ta da) (hb : JB c b tb db) (hc : JB c x tc dc) (hm : lastMarks [.LtE, .LtE] [b, x] = false := by with_unfolding_all rfl) : JE c (.Compare a [.LtE, .LtE] [b, x] pos) (tChain (rI0 fun i j => .bl (decide (i ≤ j))) (rI0 fun i j => .bl (decide (i ≤ j))) ta tb tc) (dChain leD leD da db dc) := je_chain op_le s_b2 op_le s_b2 ha hb hc hm
theorem jt_lele {x : Expr} (ha : JB c a ta da) (hb : JB c b tb db) (hc : JB c x tc dc) (hm : lastMarks [.LtE, .LtE] [b, x] = false := by with_unfolding_all rfl) : JT c (.Compare a [.LtE, .LtE] [b, x] pos) (tTest (tChain (rI0 fun i j => .bl (decide (i ≤ j))) (rI0 fun i j => .bl (decide (i ≤ j))) ta tb tc)) (dTest (dChain leD leD da db dc)) := jt_chain op_le s_b2 op_le s_b2 ha hb hc hm
/-- x is None -/
def dIsN (neg : Bool) (da : DE) : DE := fun δ => (da δ).bind fun x => match x with
  | .none => .ok (.bool (!neg))
  | _ => .ok (.bool neg)
theorem isN_of {F : Hp} {v : V} {d : D} (h : Rp F v d) : decide (v = .non) = (match d with | .none => true | _ => false) := by
  cases h <;> rfl
theorem sim_isN {ta : TE} (ha : Sim RF c ta da) : Sim RF c (tIsN ta) (dIsN false da) := fun F H σ δ Q S P =>
  ha.go S P fun F1 H1 x d s1 S1 hx P1 => by
    show Q (.bl (decide (x = .non))) H1
    rw [isN_of hx]
    cases d <;> exact P1 _ F1 H1 (.refl S1.fh) (.bl _)
theorem sim_notN {ta : TE} (ha : Sim RF c ta da) : Sim RF c (tNotN ta) (dIsN true da) := fun F H σ δ Q S P =>
  ha.go S P fun F1 H1 x d s1 S1 hx P1 => by
    show Q (.bl (!decide (x = .non))) H1
    rw [isN_of hx]
    cases d <;> exact P1 _ F1 H1 (.refl S1.fh) (.bl _)
theorem je_isN {j pos'} (ha : JE c a ta da) : JE c (.Compare a [.Is] [.Constant .none j pos'] pos) (tIsN ta) (dIsN false da) := let ⟨a1, a2⟩ := ha; ⟨pe_cmp (pc_isN a1), sim_isN a2⟩
theorem je_notN {j pos'} (ha : JE c a ta da) : JE c (.Compare a [.IsNot] [.Constant .none j pos'] pos) (tNotN ta) (dIsN true da) := let ⟨a1, a2⟩ := ha; ⟨pe_cmp (pc_notN a1), sim_notN a2⟩
theorem jt_isN {j pos'} (ha : JE c a ta da) : JT c (.Compare a [.Is] [.Constant .none j pos'] pos) (tB (tIsN ta)) (dTest (dIsN false da)) := let ⟨a1, a2⟩ := ha; ⟨pt_cmp (pc_isN a1), sim_test (sim_isN a2)⟩
theorem jt_notN {j pos'} (ha : JE c a ta da) : JT c (.Compare a [.IsNot] [.Constant .none j pos'] pos) (tB (tNotN ta)) (dTest (dIsN true da)) := let ⟨a1, a2⟩ := ha; ⟨pt_cmp (pc_notN a1), sim_test (sim_notN a2)⟩
/-- -x -/
def negD : D → Option D
  | .int i => some (.int (-i))
  | _ => none
def dUn (g : D → Option D) (da : DE) : DE := fun δ => (da δ).bind fun x => Res.ofO (g x)
theorem je_neg (ha : JE c a ta da) : JE c (.UnaryOp .USub a pos) (tUn (rU fun i => .int (-i)) ta) (dUn negD da) := by
  obtain ⟨a1, a2⟩ := ha
  refine ⟨pe_un un_neg a1, fun F H σ δ Q S P => a2.go S P fun F1 H1 x d s1 S1 hx P1 => ?_⟩
  cases d with
  | int i => cases hx; exact ⟨i, rfl, P1 _ F1 H1 (.refl S1.fh) (.int _)⟩
  | _ => exact P1.elim
/-- truth -/
def truD : D → Option Bool
  | .none => some false
  | .bool b => some b
  | .int i => some (i != 0)
  | .str x => if Sz x.length then some ((x.length : Int) != 0) else none
  | .list x => some (!x.isEmpty)
  | .tuple x => some (!x.isEmpty)
  | .dict _ => none
theorem tru_of {K : PySem.W.Frag} {F H : Hp} {v : V} {d : D} {k : Bool} (e : Ex F H) (h : Bw F H v d) (q : truD d = some k) : TruV K v H k := by
  cases d with
  | none => have h1 := h.non; subst h1; cases q; rfl
  | bool b => have h1 := h.bl; subst h1; cases q; rfl
  | int i => have h1 := h.int; subst h1; cases q; rfl
  | str x =>
    have h1 := h.str; subst h1
    obtain ⟨h2, h3⟩ := if_some q
    exact ⟨h2.le, h3.symm⟩
  | list x =>
    obtain ⟨a, xs, rfl, h1, h2⟩ := h.lst e
    cases q
    refine .inl ⟨xs, sqL h1, ?_⟩
    cases h2 <;> rfl
  | tuple x =>
    obtain ⟨a, xs, rfl, h1, h2⟩ := h.tup e
    cases q
    refine .inr (.inl ⟨xs, sqT h1, ?_⟩)
    cases h2 <;> rfl
  | dict x => cases q
def dTru (da : DE) : DT := fun δ => (da δ).bind fun x => Res.ofO (truD x)
def tTru (K : PySem.W.Frag) (ta : TE) : TT := fun σ H Q => ta σ H fun x H' => ∃ k, TruV K x H' k ∧ Q k H'
theorem jt_tru (ha : JB c a ta da) (he : ∀ whole, isTrue a c.X.env whole = (do let v ← whole; standAt a.pos; holding [v] (truthy v)) := by intro _; rfl) : JT c a (tTru HasK.K ta) (dTru da) := by
  rw [← c.hK]
  obtain ⟨a1, a2⟩ := ha
  refine ⟨pt_truth a1 he, fun F H σ δ Q S P => a2.go S P fun F1 H1 x d s1 S1 hx P1 => Sim.last P1 fun z hz k => ?_⟩
  exact ⟨z, tru_of S1.fh hx hz, k _ F1 H1 (.refl S1.fh) rfl⟩
def dNotV (da : DE) : DE := fun δ => (da δ).bind fun x => (Res.ofO (truD x)).bind fun k => .ok (.bool (!k))
theorem je_not (ha : JB c a ta da) : JE c (.UnaryOp .Not a pos) (tNotT HasK.K ta) (dNotV da) := by
  rw [← c.hK]
  obtain ⟨a1, a2⟩ := ha
  refine ⟨pe_notT a1, fun F H σ δ Q S P => a2.go S P fun F1 H1 x d s1 S1 hx P1 => ?_⟩
  cases q : truD d with
  | none => rw [q] at P1; exact P1.elim
  | some k =>
    rw [q] at P1
    exact ⟨k, tru_of S1.fh hx q, P1 _ F1 H1 (.refl S1.fh) (.bl _)⟩
/-- tests -/
def dNot (d : DT) : DT := fun δ => (d δ).bind fun k => .ok (!k)
theorem jt_not {d : DT} (ha : JT c a tt d) : JT c (.UnaryOp .Not a pos) (tNot tt) (dNot d) := by
  obtain ⟨a1, a2⟩ := ha
  refine ⟨pt_not a1, fun F H σ δ Q S P => a2.go S P fun F1 H1 x k s1 S1 hx P1 => ?_⟩
  subst hx
  exact P1 _ F1 H1 (.refl S1.fh) rfl
def dAnd (d e : DT) : DT := fun δ => (d δ).bind fun k => if k then e δ else .ok false
def dOr (d e : DT) : DT := fun δ => (d δ).bind fun k => if k then .ok true else e δ
variable {rest : List Expr} {d d' : DT}
theorem jw_and1 (ha : JT c a tt d) : JW c (.BoolOp .And [a] pos) tt d := let ⟨a1, a2⟩ := ha; ⟨pw_and1 a1, a2⟩
theorem jw_or1 (ha : JT c a tt d) : JW c (.BoolOp .Or [a] pos) tt d := let ⟨a1, a2⟩ := ha; ⟨pw_or1 a1, a2⟩
theorem jw_and (ha : JT c a tt d) (hb : JW c (.BoolOp .And (b :: rest) pos) tt' d') : JW c (.BoolOp .And (a :: b :: rest) pos) (tAnd tt tt') (dAnd d d') := by
  obtain ⟨a1, a2⟩ := ha
  obtain ⟨b1, b2⟩ := hb
  refine ⟨pw_and a1 b1, fun F H σ δ Q S P => a2.go S P fun F1 H1 x k s1 S1 hx P1 => ?_⟩
  subst hx
  cases x with
  | true => exact iteT (b2 F1 H1 σ δ Q S1 P1)
  | false => exact iteF (P1 _ F1 H1 (.refl S1.fh) rfl)
theorem jw_or (ha : JT c a tt d) (hb : JW c (.BoolOp .Or (b :: rest) pos) tt' d') : JW c (.BoolOp .Or (a :: b :: rest) pos) (tOr tt tt') (dOr d d') := by
  obtain ⟨a1, a2⟩ := ha
  obtain ⟨b1, b2⟩ := hb
  refine ⟨pw_or a1 b1, fun F H σ δ Q S P => a2.go S P fun F1 H1 x k s1 S1 hx P1 => ?_⟩
  subst hx
  cases x with
  | true => exact iteT (P1 _ F1 H1 (.refl S1.fh) rfl)
  | false => exact iteF (b2 F1 H1 σ δ Q S1 P1)
/-- and, or as values: all but the last True or False -/
def dAndV (da db : DE) : DE := fun δ => (da δ).bind fun x => match x with
  | .bool true => db δ
  | .bool false => .ok (.bool false)
  | _ => .stuck
def dOrV (da db : DE) : DE := fun δ => (da δ).bind fun x => match x with
  | .bool true => .ok (.bool true)
  | .bool false => db δ
  | _ => .stuck
variable {op : BoolOp}
theorem je_one (ha : JE c a ta da) : JE c (.BoolOp op [a] pos) ta da := let ⟨a1, a2⟩ := ha; ⟨pe_one a1, a2⟩
theorem je_and (ha : JE c a ta da) (hb : JE c (.BoolOp .And (b :: rest) pos) tb db) : JE c (.BoolOp .And (a :: b :: rest) pos) (tAndV ta tb) (dAndV da db) := by
  obtain ⟨a1, a2⟩ := ha
  obtain ⟨b1, b2⟩ := hb
  refine ⟨pe_and a1 b1, fun F H σ δ Q S P => a2.go S P fun F1 H1 x k s1 S1 hx P1 => ?_⟩
  cases k with
  | bool k =>
    cases hx
    refine ⟨k, rfl, ?_⟩
    cases k with
    | true => exact iteT (b2 F1 H1 σ δ Q S1 P1)
    | false => exact iteF (P1 _ F1 H1 (.refl S1.fh) (.bl _))
  | _ => exact P1.elim
theorem je_or (ha : JE c a ta da) (hb : JE c (.BoolOp .Or (b :: rest) pos) tb db) : JE c (.BoolOp .Or (a :: b :: rest) pos) (tOrV ta tb) (dOrV da db) := by
  obtain ⟨a1, a2⟩ := ha
  obtain ⟨b1, b2⟩ := hb
  refine ⟨pe_or a1 b1, fun F H σ δ Q S P => a2.go S P fun F1 H1 x k s1 S1 hx P1 => ?_⟩
  cases k with
  | bool k =>
    cases hx
    refine ⟨k, rfl, ?_⟩
    cases k with
    | true => exact iteT (P1 _ F1 H1 (.refl S1.fh) (.bl _))
    | false => exact iteF (b2 F1 H1 σ δ Q S1 P1)
  | _ => exact P1.elim
def dIf (d : DT) (da db : DE) : DE := fun δ => (d δ).bind fun k => if k then da δ else db δ
theorem je_if {x : Expr} (hc : JT c x tt d) (ha : JE c a ta da) (hb : JE c b tb db) : JE c (.IfExp x a b pos) (tIf tt ta tb) (dIf d da db) := by
  obtain ⟨c1, c2⟩ := hc
  obtain ⟨a1, a2⟩ := ha
  obtain ⟨b1, b2⟩ := hb
  refine ⟨pe_ifExp c1 a1 b1, fun F H σ δ Q S P => c2.go S P fun F1 H1 x k s1 S1 hx P1 => ?_⟩
  subst hx
  cases x with
  | true => exact iteT (a2 F1 H1 σ δ Q S1 P1)
  | false => exact iteF (b2 F1 H1 σ δ Q S1 P1)
/-! ### arguments, displays -/
def dNil : DA := fun _ => .ok []
def dCons (da : DE) (dr : DA) : DA := fun δ => (da δ).bind fun x => (dr δ).bind fun xs => .ok (x :: xs)
variable {dr : DA}
theorem ja_nil : JA c [] tNil dNil := ⟨pa_nil, fun F H σ δ Q S P => P [] F H (.refl S.fh) .nil⟩
theorem jab_nil : JAB c [] tNil dNil := ⟨pa_nil, fun F H σ δ Q S P => P [] F H (.refl S.fh) .nil⟩
theorem ja_cons (ha : JE c e ta da) (hr : JA c es tr dr) (hs : starEach (e :: es) c.X.env = (false, eval e c.X.env) :: starEach es c.X.env := by rfl) : JA c (e :: es) (tCons ta tr) (dCons da dr) := by
  obtain ⟨a1, a2⟩ := ha
  obtain ⟨r1, r2⟩ := hr
  exact ⟨pa_cons a1 r1 hs, fun F H σ δ Q S P => a2.go S P fun F1 H1 x d s1 S1 hx P1 => r2.go S1 P1 fun F2 H2 xs ds s2 S2 hxs P2 => P2 _ F2 H2 (.refl S2.fh) (.cons (hx.mono s2.ff) hxs)⟩
theorem jab_cons (ha : JB c e ta da) (hr : JAB c es tr dr) (hs : starEach (e :: es) c.X.env = (false, eval e c.X.env) :: starEach es c.X.env := by rfl) : JAB c (e :: es) (tCons ta tr) (dCons da dr) := by
  obtain ⟨a1, a2⟩ := ha
  obtain ⟨r1, r2⟩ := hr
  exact ⟨pa_cons a1 r1 hs, fun F H σ δ Q S P => a2.go S P fun F1 H1 x d s1 S1 hx P1 => r2.go S1 P1 fun F2 H2 xs ds s2 S2 hxs P2 => P2 _ F2 H2 (.refl S2.fh) (.cons (hx.mono s2.ff s2.hh) hxs)⟩
def dTup (dr : DA) : DE := fun δ => (dr δ).bind fun xs => if Sz xs.length then .ok (.tuple xs) else .stuck
def dLst (dr : DA) : DE := fun δ => (dr δ).bind fun xs => if Sz xs.length then .ok (.list xs) else .stuck
theorem je_tup {x1} (h : JA c es tr dr) : JE c (.Tuple es x1 pos) (tTup tr) (dTup dr) := by
  obtain ⟨a1, a2⟩ := h
  refine ⟨pe_tup a1, fun F H σ δ Q S P => a2.go S P fun F1 H1 x ds s1 S1 hx P1 => ?_⟩
  by_cases hs : Sz ds.length
  · rw [if_pos hs] at P1
    exact ⟨by rw [hx.len]; exact hs.le, new_tup S1.fh hx P1⟩
  · rw [if_neg hs] at P1; exact P1.elim
theorem je_lst (h : JA c es tr dr) : JE c (.List es pos) (tLst tr) (dLst dr) := by
  obtain ⟨a1, a2⟩ := h
  refine ⟨pe_lst a1, fun F H σ δ Q S P => a2.go S P fun F1 H1 x ds s1 S1 hx P1 => ?_⟩
  by_cases hs : Sz ds.length
  · rw [if_pos hs] at P1
    exact ⟨by rw [hx.len]; exact hs.le, new_lst S1.fh hx P1⟩
  · rw [if_neg hs] at P1; exact P1.elim
/-! ### subscripts -/
def ixD : D → D → Option D
  | .list xs, .int i => atI xs i
  | .tuple xs, .int i => atI xs i
  | .dict [(.none, .list xs)], .int i => atI xs i
  | _, _ => none
theorem atI_rp {F : Hp} {vs : List V} {ds : List D} {i : Int} {d : D} (r : RpAll F vs ds) (h : atI ds i = some d) : ∃ v, atI vs i = some v ∧ Rp F v d := by
  unfold atI at h ⊢
  rw [r.len]
  cases q : ixN ds.length i with
  | none => rw [q] at h; cases h
  | some j =>
    rw [q] at h
    exact r.getD h
theorem Rp.invD {F : Hp} {v : V} {d : D} (h : Rp F v d) : ∀ es, d = .dict es → (∃ (a : Addr) (ns : List Int), v = .ref a ∧ SqL HasK.K F a (ns.map V.int) ∧ d = scrD ns) ∨
    (∃ (a : Addr) (o : Obj) (kvs : List (Key × V)) (ds : List D), v = .ref a ∧ F a = some (.frz o (.dK kvs)) ∧ RpAll F (kvs.map Prod.snd) ds ∧ es = (kvs.map fun p => keyD p.1).zip ds) ∨
    (∃ (a : Addr) (o : Obj) (kvs : List (List Key × V)) (ds : List D), v = .ref a ∧ F a = some (.frz o (.dT kvs)) ∧ RpAll F (kvs.map Prod.snd) ds ∧ es = (kvs.map fun p => PyData.tuple (p.1.map keyD)).zip ds) := by
  cases h with
  | scr h => exact fun es q => .inl ⟨_, _, rfl, h, rfl⟩
  | dK h r => exact fun es q => .inr (.inl ⟨_, _, _, _, rfl, h, r, by injection q with q; exact q.symm⟩)
  | dT h r => exact fun es q => .inr (.inr ⟨_, _, _, _, rfl, h, r, by injection q with q; exact q.symm⟩)
  | _ => exact fun es q => nomatch q
theorem zip_none {α : Type} {f : α → D} (hf : ∀ a, f a ≠ .none) {l : List α} {ds : List D} {x : D} {r : List (D × D)} : (PyData.none, x) :: r ≠ (l.map f).zip ds := by
  cases l with
  | nil => intro h; simp at h
  | cons a l =>
    cases ds with
    | nil => intro h; simp at h
    | cons d ds =>
      intro h
      simp at h
      exact hf a h.1.1.symm
theorem Bw.scr {F H : Hp} {v : V} {xs : List D} (e : Ex F H) (h : Bw F H v (.dict [(.none, .list xs)])) : ∃ (a : Addr) (ns : List Int), v = .ref a ∧ SqL HasK.K H a (ns.map V.int) ∧ xs = ns.map .int := by
  have kd : ∀ a : Key × V, keyD a.1 ≠ .none := fun a => by rcases a with ⟨k | k, _⟩ <;> exact fun q => nomatch q
  have kt : ∀ a : List Key × V, PyData.tuple (a.1.map keyD) ≠ .none := fun a q => nomatch q
  rcases h with h | ⟨a, h1, h2⟩
  · rcases h.invD _ rfl with ⟨a, ns, h1, h2, h3⟩ | ⟨a, o, kvs, ds, h1, h2, h3, h4⟩ | ⟨a, o, kvs, ds, h1, h2, h3, h4⟩
    · refine ⟨a, ns, h1, h2.imp (rd_ex e) id, ?_⟩
      unfold scrD at h3
      injection h3 with h3
      injection h3 with h3
      injection h3 with h3 h5
      injection h5
    · exact absurd h4 (zip_none kd)
    · exact absurd h4 (zip_none kt)
  · rcases h2 with ⟨kvs, ds, h2, h3, h4⟩ | ⟨kvs, ds, h2, h3, h4⟩
    · exact absurd h4 (zip_none kd)
    · exact absurd h4 (zip_none kt)
theorem s_ix : OpS (rIx HasK.K) ixD := by
  intro F H x y d e z Q ex bx by_ hz h
  unfold ixD at hz
  split at hz
  · obtain ⟨a, us, rfl, h1, h2⟩ := bx.lst ex
    obtain ⟨v, h3, h4⟩ := atI_rp h2 hz
    exact .inl ⟨a, us, _, v, rfl, by_.int, sqL h1, h3, h _ F H (.refl ex) h4⟩
  · obtain ⟨a, us, rfl, h1, h2⟩ := bx.tup ex
    obtain ⟨v, h3, h4⟩ := atI_rp h2 hz
    exact .inr (.inl ⟨a, us, _, v, rfl, by_.int, sqT h1, h3, h _ F H (.refl ex) h4⟩)
  · obtain ⟨a, ns, rfl, h1, h2⟩ := bx.scr ex
    subst h2
    obtain ⟨v, h3, h4⟩ := atI_rp (RpAll.ints (H := F) ns) hz
    exact .inl ⟨a, _, _, v, rfl, by_.int, h1, h3, h _ F H (.refl ex) h4⟩
  · cases hz
theorem je_ix (ha : JB c a ta da) (hb : JB c b tb db) (hs : PlainIx b := by exact fun _ _ => rfl) : JE c (.Subscript a b pos) (tOp (rIx HasK.K) ta tb) (dOp ixD da db) := by
  obtain ⟨a1, a2⟩ := ha
  obtain ⟨b1, b2⟩ := hb
  exact ⟨by rw [← c.hK]; exact pe_ix ix_seq a1 b1 hs, sim_op s_ix a2 b2⟩
/-- slices -/
def dNoP : DEnv → Res (Option Int) := fun _ => .ok none
def dP (da : DE) : DEnv → Res (Option Int) := fun δ => (da δ).bind fun x => match x with
  | .int i => .ok (some i)
  | _ => .stuck
theorem jo_none : JO c none tNoPart dNoP := ⟨po_none, fun F H σ δ Q S P => P none F H (.refl S.fh) rfl⟩
theorem jo_some (ha : JB c e ta da) : JO c (some e) (tPart ta) (dP da) := by
  obtain ⟨a1, a2⟩ := ha
  refine ⟨po_some a1, fun F H σ δ Q S P => a2.go S P fun F1 H1 x d s1 S1 hx P1 => ?_⟩
  cases d with
  | int i => exact ⟨i, hx.int, P1 _ F1 H1 (.refl S1.fh) rfl⟩
  | _ => exact P1.elim
def cutD (xs : List D) (lo hi : Option Int) : List D := (xs.drop (HT.sIx xs.length 0 lo)).take (HT.sIx xs.length xs.length hi - HT.sIx xs.length 0 lo)
theorem cut_rp {F : Hp} {vs : List V} {ds : List D} (r : RpAll F vs ds) (lo hi : Option Int) : RpAll F (cutV vs lo hi) (cutD ds lo hi) := by
  unfold cutV cutD
  rw [r.len]
  exact (r.drop _).take _
def slD : D → Option Int → Option Int → Option D
  | .list xs, lo, hi => some (.list (cutD xs lo hi))
  | .tuple xs, lo, hi => some (.tuple (cutD xs lo hi))
  | _, _, _ => none
def dSl (da : DE) (dl dh : DEnv → Res (Option Int)) : DE := fun δ => (da δ).bind fun x => (dl δ).bind fun lo => (dh δ).bind fun hi => Res.ofO (slD x lo hi)
def rSlAny (K : PySem.W.Frag) : V → Option Int → Option Int → Hp → VK → Prop := fun x lo hi H Q => rSlL K x lo hi H Q ∨ rSlA K x lo hi H Q
theorem je_slice {lo hi : Option Expr} {dl dh : DEnv → Res (Option Int)} {p2 : Pos} (ha : JB c e ta da) (hl : JO c lo tl dl) (hh : JO c hi th dh) : JE c (.Subscript e (.Slice lo hi none p2) pos) (tSl (rSlAny HasK.K) ta tl th) (dSl da dl dh) := by
  obtain ⟨a1, a2⟩ := ha
  obtain ⟨l1, l2⟩ := hl
  obtain ⟨h1, h2⟩ := hh
  rw [← c.hK]
  refine ⟨pe_slice (SlR.or sl_list sl_tupA) a1 l1 h1, fun F H σ δ Q S P => a2.go S P fun F1 H1 x d s1 S1 hx P1 => l2.go S1 P1 fun F2 H2 lo' lo s2 S2 e2 P2 => h2.go S2 P2 fun F3 H3 hi' hi s3 S3 e3 P3 => Sim.last P3 fun z hz k => ?_⟩
  subst e2; subst e3
  have hx3 := (hx.mono s2.ff s2.hh).mono s3.ff s3.hh
  have ex := S3.fh
  cases d with
  | list ds =>
    cases hz
    obtain ⟨a, us, rfl, h3, h4⟩ := hx3.lst ex
    exact .inl ⟨a, us, rfl, sqL h3, new_lst ex (cut_rp h4 _ _) k⟩
  | tuple ds =>
    cases hz
    obtain ⟨a, us, e4, h3, h4⟩ := hx3.tup ex
    subst e4
    refine .inr ⟨a, us, rfl, sqT h3, fun q => ?_, fun _ => new_tup ex (cut_rp h4 _ _) k⟩
    have q1 : HT.sIx ds.length 0 lo' = 0 := by rw [← h4.len]; exact q.1
    have q2 : HT.sIx ds.length ds.length hi' = ds.length := by rw [← h4.len]; exact q.2
    refine k _ F3 H3 (.refl ex) ?_
    have ec : cutD ds lo' hi' = ds := by
      unfold cutD
      rw [q1, q2]
      simp
    rw [ec]
    exact hx3.rpT
  | _ => cases hz
/-! ### calls -/
def CallS (r : List V → Hp → VK → Prop) (g : List D → Option D) : Prop := ∀ F H xs ds z Q, Ex F H → BwAll F H xs ds → g ds = some z → (∀ v F' H', Step F H F' H' → Rp F' v z → Q v H') → r xs H Q
def dCB (g : List D → Option D) (dr : DA) : DE := fun δ => (dr δ).bind fun xs => Res.ofO (g xs)
theorem sim_cb {r : List V → Hp → VK → Prop} {g : List D → Option D} (hs : CallS r g) (h : Sim RAB c tr dr) : Sim RF c (tCB r tr) (dCB g dr) := fun F H σ δ Q S P =>
  h.go S P fun F1 H1 xs ds s1 S1 hx P1 => Sim.last P1 fun z hz k => hs F1 H1 xs ds z Q S1.fh hx hz k
theorem je_callB {id : String} {x : Str} {p : Pos} {r : List V → Hp → VK → Prop} {g : List D → Option D} (hc : CallR c.X (.builtin id) r) (hs : CallS r g) (hg : Gl c.X x) (hm : c.X.mg x = none) (hv : bootBuiltins x = some (.builtin id)) (ha : JAB c (e :: es) tr dr)
    (hn : x ≠ "__name__" := by decide) (hdb : (x == ("__debug__" : Str)) = false := by decide)
    (he : starEach (e :: es) c.X.env = (false, eval e c.X.env) :: starEach es c.X.env := by rfl) (hpl : (backTo pos (starEach es c.X.env)).any (·.1) = false := by rfl) : JE c (.Call (.Name x p) (e :: es) [] pos) (tCB r tr) (dCB g dr) := by
  obtain ⟨a1, a2⟩ := ha
  exact ⟨pe_callB hc hg hm hv a1 hn hdb he hpl, sim_cb hs a2⟩
theorem je_callTy {T : String} {x : Str} {p : Pos} {r : List V → Hp → VK → Prop} {g : List D → Option D} (hc : CallR c.X (.type T) r) (hs : CallS r g) (hg : Gl c.X x) (hm : c.X.mg x = none) (hv : bootBuiltins x = some (.type T)) (ha : JAB c (e :: es) tr dr)
    (hn : x ≠ "__name__" := by decide) (hdb : (x == ("__debug__" : Str)) = false := by decide)
    (he : starEach (e :: es) c.X.env = (false, eval e c.X.env) :: starEach es c.X.env := by rfl) (hpl : (backTo pos (starEach es c.X.env)).any (·.1) = false := by rfl) : JE c (.Call (.Name x p) (e :: es) [] pos) (tCB r tr) (dCB g dr) := by
  obtain ⟨a1, a2⟩ := ha
  exact ⟨pe_callTy hc hg hm hv a1 hn hdb he hpl, sim_cb hs a2⟩
end
end RD

end
section
namespace RD
open PySem L2
variable [HasK]
def XPostS (mg : Str → Option Value) (W : WX) (F H : Hp) (σ : St) (n : Str) : Option (Str × D) → Prop
  | none => W (.ref (clA mg n)) none σ H
  | some (f, p) => ∀ dd v, H dd = some (.xd [(f, v)]) → F dd = none → Rp F v p → W (.ref (clA mg n)) (some dd) σ H
def PostS (c : Cc) (F : Hp) (D : Ends) : Out → Prop
  | .next δ => ∀ σ' F' H', Ex F F' → Sr c.F0 c.H0 F' H' σ' δ → D.nx σ' H'
  | .brk δ => ∀ σ' F' H', Ex F F' → Sr c.F0 c.H0 F' H' σ' δ → D.bk σ' H'
  | .cont δ => ∀ σ' F' H', Ex F F' → Sr c.F0 c.H0 F' H' σ' δ → D.ct σ' H'
  | .ret d => ∀ v F' H', Ex F F' → Step c.F0 c.H0 F' H' → Rp F' v d → D.rt v H'
  | .exc n p δ => ∀ σ' F' H', Ex F F' → Sr c.F0 c.H0 F' H' σ' δ → XPostS HasK.mg c.W F' H' σ' n p
  | .stuck => False
theorem PostS.up {c : Cc} {F F' : Hp} {D : Ends} {o : Out} (e : Ex F F') (h : PostS c F D o) : PostS c F' D o := by
  cases o with
  | next δ => exact fun σ F2 H2 e2 => h σ F2 H2 (e.trans e2)
  | brk δ => exact fun σ F2 H2 e2 => h σ F2 H2 (e.trans e2)
  | cont δ => exact fun σ F2 H2 e2 => h σ F2 H2 (e.trans e2)
  | ret d => exact fun v F2 H2 e2 => h v F2 H2 (e.trans e2)
  | exc n p δ => exact fun σ F2 H2 e2 => h σ F2 H2 (e.trans e2)
  | stuck => exact h
def SimS (c : Cc) (t : TS) (d : DS) : Prop := ∀ F H σ δ D, Sr c.F0 c.H0 F H σ δ → PostS c F D (d δ) → t D σ H
structure JS (c : Cc) (st : Stmt) (t : TS) (d : DS) : Prop where
  p : PS c.X st t
  s : SimS c t d
structure JSs (c : Cc) (st : List Stmt) (t : TS) (d : DS) : Prop where
  p : PSs c.X st t
  s : SimS c t d
def Res.out {α : Type} (r : Res α) (δ : DEnv) (f : α → Out) : Out := match r with
  | .ok a => f a
  | .exc n p => .exc n p δ
  | .stuck => .stuck
theorem XPost.ofS {c : Cc} {F H : Hp} {D : Ends} {σ : St} {δ : DEnv} {n : Str} {p : Option (Str × PyData)} (S : Sr c.F0 c.H0 F H σ δ) (h : PostS c F D (.exc n p δ)) : XPost HasK.mg c.W F H σ n p := by
  cases p with
  | none => exact fun F' H' s => h σ F' H' s.ff (S.step s)
  | some q => exact fun F' H' dd v s a b r => h σ F' H' s.ff (S.step s) dd v a b r
/-- run an expression in a statement, then go on -/
theorem Sim.gos {α β : Type} {Rel : Hp → Hp → β → α → Prop} {c : Cc} {t : TG_ β} {d : DEnv → Res α} (h : Sim Rel c t d) {F H : Hp} {σ : St} {δ : DEnv} {D : Ends} {K : β → Hp → Prop} {r : α → Out}
    (S : Sr c.F0 c.H0 F H σ δ) (P : PostS c F D ((d δ).out δ r))
    (k : ∀ F' H' x a, Step F H F' H' → Sr c.F0 c.H0 F' H' σ δ → Rel F' H' x a → PostS c F' D (r a) → K x H') : t σ H K := by
  refine h F H σ δ K S ?_
  cases q : d δ with
  | stuck => rw [q] at P; exact P
  | exc n p => rw [q] at P; exact XPost.ofS S P
  | ok a =>
    rw [q] at P
    exact fun v F' H' s r => k F' H' v a s (S.step s) r (P.up s.ff)
section
variable {c : Cc} {e a b : Expr} {es : List Expr} {da db : DE} {pos : Pos} {ta tb tc : TE} {tt tt' : TT} {st : Stmt} {rest : List Stmt} {t u : TS} {ds du : DS} {d : DT} {X : Cx}
/-! ### blocks -/
def dNext : DS := fun δ => .next δ
def dSeq (d e : DS) : DS := fun δ => match d δ with
  | .next δ' => e δ'
  | o => o
theorem jss_nil : JSs c [] tNext dNext := ⟨pss_nil, fun F H σ δ D S P => P σ F H (.refl _) S⟩
theorem sim_seq (h1 : SimS c t ds) (h2 : SimS c u du) : SimS c (tSeq t u) (dSeq ds du) := fun F H σ δ D S P => by
  refine h1 F H σ δ _ S ?_
  unfold dSeq at P
  cases q : ds δ with
  | next δ' =>
    rw [q] at P
    exact fun σ' F' H' e S' => h2 F' H' σ' δ' D S' (P.up e)
  | brk δ' => rw [q] at P; exact P
  | cont δ' => rw [q] at P; exact P
  | ret x => rw [q] at P; exact P
  | exc n p δ' => rw [q] at P; exact P
  | stuck => rw [q] at P; exact P
theorem jss_cons (h1 : JS c st t ds) (h2 : JSs c rest u du) : JSs c (st :: rest) (tSeq t u) (dSeq ds du) := ⟨pss_cons h1.p h2.p, sim_seq h1.s h2.s⟩
theorem jss_one (h1 : JS c st t ds) : JSs c [st] t ds := ⟨pss_one h1.p, h1.s⟩
theorem js_pass : JS c (.Pass pos) tNext dNext := ⟨ps_pass, jss_nil.s⟩
/-! ### simple statements -/
def dDrop (da : DE) : DS := fun δ => (da δ).out δ fun _ => .next δ
theorem js_expr (he : JE c e ta da) (hs : swapsWith e none pos.line c.X.env = pure false := by rfl) : JS c (.Expr e pos) (tDrop ta) (dDrop da) :=
  ⟨ps_expr he.p hs, fun F H σ δ D S P => he.s.gos S P fun F1 H1 x a s1 S1 hx P1 => P1 σ F1 H1 (.refl _) S1⟩
def dRet (da : DE) : DS := fun δ => (da δ).out δ fun x => .ret x
theorem js_ret (he : JE c e ta da) : JS c (.Return (some e) pos) (tRet ta) (dRet da) :=
  ⟨ps_ret he.p, fun F H σ δ D S P => he.s.gos S P fun F1 H1 x a s1 S1 hx P1 => P1 x F1 H1 (.refl _) S1.st hx⟩
def dIfS (d : DT) (ds du : DS) : DS := fun δ => (d δ).out δ fun k => if k then ds δ else du δ
theorem js_if {x : Expr} {p q : List Stmt} (hc : JT c x tt d) (ha : JSs c p t ds) (hb : JSs c q u du) : JS c (.If x p q pos) (tIfS tt t u) (dIfS d ds du) :=
  ⟨ps_if hc.p ha.p hb.p, fun F H σ δ D S P => hc.s.gos S P fun F1 H1 x k s1 S1 hx P1 => by
    subst hx
    cases x with
    | true => exact iteT (ha.s F1 H1 σ δ D S1 P1)
    | false => exact iteF (hb.s F1 H1 σ δ D S1 P1)⟩
def dSet (i : Nat) (da : DE) : DS := fun δ => (da δ).out δ fun x => .next (δ.set i (.val x))
theorem js_set {i : Nat} {x : Str} {pos' : Pos} (hN : c.X.N.Nodup) (he : JE c e ta da) (hi : c.X.N[i]? = some x := by rfl) (hx : Loc c.X.env.scope x := by first | exact Or.inl rfl | exact Or.inr rfl)
    (hs : swapsWith e (some (.Name x pos')) pos.line c.X.env = pure false := by rfl) (hf : c.X.fn x = true ∨ c.X.env.scope.names.lookup x = some .local := by first | exact .inl rfl | exact .inr rfl) :
    JS c (.Assign [.Name x pos'] e pos) (tAsg ta (gName i)) (dSet i da) :=
  ⟨ps_set hN hi hx he.p hs hf, fun F H σ δ D S P => he.s.gos S P fun F1 H1 x a s1 S1 hx P1 => P1 _ F1 H1 (.refl _) (S1.set hx i)⟩
/-! ### new objects of one's own -/
def PostN (mg : Str → Option Value) (W : WX) (F H : Hp) (σ : St) (Q : VK) : Res D → Prop
  | .ok d => ∀ a F' H', Step F H F' H' → H a = none → F' a = none → OwnA F' H' a d → Q (.ref a) H'
  | .exc n p => XPost mg W F H σ n p
  | .stuck => False
def SimN (c : Cc) (t : TE) (d : DE) : Prop := ∀ F H σ δ Q, Sr c.F0 c.H0 F H σ δ → PostN HasK.mg c.W F H σ Q (d δ) → t σ H Q
structure JN (c : Cc) (e : Expr) (t : TE) (d : DE) : Prop where
  p : PE c.X e t
  s : SimN c t d
theorem Sr.newOwn {F0 H0 F H F' H' : Hp} {σ : St} {δ : DEnv} (S : Sr F0 H0 F H σ δ) (s : Step F H F' H') {a : Addr} {d : D} (h : H a = none) (hF : F' a = none) (ho : OwnA F' H' a d) (i : Nat) :
    Sr F0 H0 F' H' (σ.set i (some (.ref a))) (δ.set i (.own d)) := by
  refine (S.step s).setOwn (S.st.hh.back h) hF ho (fun j e hj hs => ?_) i
  obtain ⟨b, h1, h2, h3, h4⟩ := S.own j e hj
  rw [hs] at h1
  cases h1
  exact h4.there h
def dSetN (i : Nat) (da : DE) : DS := fun δ => (da δ).out δ fun x => .next (δ.set i (.own x))
theorem sim_setN {i : Nat} (h : SimN c ta da) : SimS c (tAsg ta (gName i)) (dSetN i da) := fun F H σ δ D S P => by
  refine h F H σ δ _ S ?_
  unfold dSetN at P
  cases q : da δ with
  | stuck => rw [q] at P; exact P
  | exc n p => rw [q] at P; exact XPost.ofS S P
  | ok x =>
    rw [q] at P
    exact fun a F' H' s h1 h2 h3 => P _ F' H' s.ff (S.newOwn s h1 h2 h3 i)
theorem js_setN {i : Nat} {x : Str} {pos' : Pos} (hN : c.X.N.Nodup) (he : JN c e ta da) (hi : c.X.N[i]? = some x := by rfl) (hx : Loc c.X.env.scope x := by first | exact Or.inl rfl | exact Or.inr rfl)
    (hs : swapsWith e (some (.Name x pos')) pos.line c.X.env = pure false := by rfl) (hf : c.X.fn x = true ∨ c.X.env.scope.names.lookup x = some .local := by first | exact .inl rfl | exact .inr rfl) :
    JS c (.Assign [.Name x pos'] e pos) (tAsg ta (gName i)) (dSetN i da) := ⟨ps_set hN hi hx he.p hs hf, sim_setN he.s⟩
theorem own_new {F H : Hp} {xs : List V} {ds : List D} {Q : VK} (e : Ex F H) (r : RpAll F xs ds) (h : ∀ a F' H', Step F H F' H' → H a = none → F' a = none → OwnA F' H' a (.list ds) → Q (.ref a) H') : ∀ p, H p = none → Q (.ref p) (upd H p (.lst xs)) := fun p hp =>
  h p F _ (Step.side e (.lst xs) hp) hp (e.back hp) ⟨xs, upd_same, r⟩
/-- a part of an expression that makes a new object -/
theorem Sim.gon {α β : Type} {Rel : Hp → Hp → β → α → Prop} {c : Cc} {t : TG_ β} {d : DEnv → Res α} (h : Sim Rel c t d) {F H : Hp} {σ : St} {δ : DEnv} {Q : VK} {K : β → Hp → Prop} {r : α → Res D}
    (S : Sr c.F0 c.H0 F H σ δ) (P : PostN HasK.mg c.W F H σ Q ((d δ).bind r))
    (k : ∀ F' H' x a, Step F H F' H' → Sr c.F0 c.H0 F' H' σ δ → Rel F' H' x a → PostN HasK.mg c.W F' H' σ Q (r a) → K x H') : t σ H K := by
  refine h F H σ δ K S ?_
  cases q : d δ with
  | stuck => rw [q] at P; exact P
  | exc n p => rw [q] at P; exact P
  | ok a =>
    rw [q] at P
    have P' : PostN HasK.mg c.W F H σ Q (r a) := P
    refine fun v F' H' s rr => k F' H' v a s (S.step s) rr ?_
    cases q2 : r a with
    | stuck => rw [q2] at P'; exact P'
    | exc n p => rw [q2] at P'; exact XPost.step s P'
    | ok x =>
      rw [q2] at P'
      exact fun a F2 H2 s2 h1 h2 h3 => P' a F2 H2 (s.trans s2) (s.hh.back h1) h2 h3
variable {tr : TA} {dr : DA}
theorem jn_lst (h : JA c es tr dr) : JN c (.List es pos) (tLst tr) (dLst dr) :=
  ⟨pe_lst h.p, fun F H σ δ Q S P => h.s.gon S P fun F1 H1 x ds s1 S1 hx P1 => by
    by_cases hs : Sz ds.length
    · rw [if_pos hs] at P1
      exact ⟨by rw [hx.len]; exact hs.le, own_new S1.fh hx P1⟩
    · rw [if_neg hs] at P1; exact P1.elim⟩
/-- [..] * n -/
def repD : D → D → Option D
  | .list x, .int k => if 0 ≤ k ∧ Sz (x.length * k.toNat) ∧ k < 2 ^ 60 then some (.list (List.replicate k.toNat x).flatten) else none
  | _, _ => none
theorem PostN.last {mg : Str → Option Value} {W : WX} {F H : Hp} {σ : St} {Q : VK} {g : Option D} {G : Prop} (P : PostN mg W F H σ Q (Res.ofO g))
    (h : ∀ z, g = some z → (∀ a F' H', Step F H F' H' → H a = none → F' a = none → OwnA F' H' a z → Q (.ref a) H') → G) : G := by
  cases g with
  | none => exact P.elim
  | some z => exact h z rfl P
theorem jn_rep (ha : JB c a ta da) (hb : JB c b tb db) : JN c (.BinOp a .Mult b pos) (tOp rRep ta tb) (dOp repD da db) :=
  ⟨pe_op op_rep ha.p hb.p, fun F H σ δ Q S P => ha.s.gon S P fun F1 H1 x d s1 S1 hx P1 => hb.s.gon S1 P1 fun F2 H2 y e s2 S2 hy P2 => PostN.last P2 fun z hz k => by
    have hx2 := hx.mono s2.ff s2.hh
    unfold repD at hz
    split at hz
    · obtain ⟨hs, rfl⟩ := if_some hz
      obtain ⟨a, us, rfl, h1, h2⟩ := hx2.lst S2.fh
      exact ⟨a, _, us, rfl, hy.int, h1, by omega, by omega, by rw [h2.len]; exact hs.2.1.le, own_new S2.fh (h2.rep _) k⟩
    · cases hz⟩
/-- list(x) -/
def listD : List D → Option D
  | [.list xs] => some (.list xs)
  | [.tuple xs] => some (.list xs)
  | [.dict [(.none, .list xs)]] => some (.list xs)
  | _ => none
def rListA (K : PySem.W.Frag) : List V → Hp → VK → Prop := fun xs H Q => ∃ p ys, xs = [.ref p] ∧ (SqL K H p ys ∨ SqT K H p ys) ∧ ∀ l, H l = none → Q (.ref l) (upd H l (.lst ys))
theorem listD_of {K : PySem.W.Frag} (hK : K = HasK.K) {F H : Hp} {vs : List V} {ds : List D} {z : D} (ex : Ex F H) (h : BwAll F H vs ds) (hz : listD ds = some z) : ∃ p ys es, vs = [.ref p] ∧ (SqL K H p ys ∨ SqT K H p ys) ∧ RpAll F ys es ∧ z = .list es := by
  unfold listD at hz
  split at hz
  · cases h with
    | cons h hn =>
      cases hn
      cases hz
      obtain ⟨a, us, rfl, h1, h2⟩ := h.lst ex
      exact ⟨a, us, _, rfl, .inl (sqL h1), h2, rfl⟩
  · cases h with
    | cons h hn =>
      cases hn
      cases hz
      obtain ⟨a, us, rfl, h1, h2⟩ := h.tup ex
      exact ⟨a, us, _, rfl, .inr (sqT h1), h2, rfl⟩
  · cases h with
    | cons h hn =>
      cases hn
      cases hz
      obtain ⟨a, ns, rfl, h1, h2⟩ := h.scr ex
      subst h2
      exact ⟨a, _, _, rfl, .inl (by rw [hK]; exact h1), RpAll.ints ns, rfl⟩
  · cases hz
theorem je_list {p : Pos} (hg : Gl c.X "list") (hm : c.X.mg "list" = none) (ha : JAB c [e] tr dr) (he : starEach [e] c.X.env = (false, eval e c.X.env) :: starEach [] c.X.env := by rfl) (hpl : (backTo pos (starEach [] c.X.env)).any (·.1) = false := by rfl) :
    JE c (.Call (.Name "list" p) [e] [] pos) (tCB (rListA HasK.K) tr) (dCB listD dr) := by
  rw [← c.hK]
  exact je_callTy (T := "list") call_list_of (fun F H xs ds z Q ex h hz k => by
    obtain ⟨p, ys, es, rfl, h1, h2, rfl⟩ := listD_of c.hK ex h hz
    exact ⟨p, ys, rfl, h1, new_lst ex h2 k⟩) hg hm (by decide +kernel) ha (by decide) (by decide) he hpl
theorem jn_list {p : Pos} (hg : Gl c.X "list") (hm : c.X.mg "list" = none) (ha : JAB c [e] tr dr) (he : starEach [e] c.X.env = (false, eval e c.X.env) :: starEach [] c.X.env := by rfl) (hpl : (backTo pos (starEach [] c.X.env)).any (·.1) = false := by rfl) :
    JN c (.Call (.Name "list" p) [e] [] pos) (tCB (rListA HasK.K) tr) (dCB listD dr) := by
  rw [← c.hK]
  exact ⟨pe_callTy (T := "list") call_list_of hg hm (by decide +kernel) ha.p (by decide) (by decide) he hpl, fun F H σ δ Q S P => ha.s.gon S P fun F1 H1 x ds s1 S1 hx P1 => PostN.last P1 fun z hz k => by
    obtain ⟨p, ys, es, rfl, h1, h2, rfl⟩ := listD_of c.hK S1.fh hx hz
    exact ⟨p, ys, rfl, h1, own_new S1.fh h2 k⟩⟩
/-- tuple(x) -/
def tupleD : List D → Option D
  | [.list xs] => some (.tuple xs)
  | [.tuple xs] => some (.tuple xs)
  | _ => none
def rTupleA (K : PySem.W.Frag) : List V → Hp → VK → Prop := fun xs H Q => ∃ p ys, xs = [.ref p] ∧ ((SqL K H p ys ∧ ∀ l, H l = none → Q (.ref l) (upd H l (.tup ys))) ∨ (SqT K H p ys ∧ Q (.ref p) H))
theorem je_tuple {p : Pos} (hg : Gl c.X "tuple") (hm : c.X.mg "tuple" = none) (ha : JAB c [e] tr dr) (he : starEach [e] c.X.env = (false, eval e c.X.env) :: starEach [] c.X.env := by rfl) (hpl : (backTo pos (starEach [] c.X.env)).any (·.1) = false := by rfl) :
    JE c (.Call (.Name "tuple" p) [e] [] pos) (tCB (rTupleA HasK.K) tr) (dCB tupleD dr) := by
  rw [← c.hK]
  exact je_callTy (T := "tuple") call_tuple_of (fun F H xs ds z Q ex h hz k => by
    unfold tupleD at hz
    split at hz
    · cases h with
      | cons h hn =>
        cases hn
        cases hz
        obtain ⟨a, us, rfl, h1, h2⟩ := h.lst ex
        exact ⟨a, us, rfl, .inl ⟨sqL h1, new_tup ex h2 k⟩⟩
    · cases h with
      | cons h hn =>
        cases hn
        cases hz
        obtain ⟨a, us, e1, h1, h2⟩ := h.tup ex
        subst e1
        exact ⟨a, us, rfl, .inr ⟨sqT h1, k _ F H (.refl ex) h.rpT⟩⟩
    · cases hz) hg hm (by decide +kernel) ha (by decide) (by decide) he hpl
/-- len(x) -/
def lenD : List D → Option D
  | [.list xs] => some (.int xs.length)
  | [.tuple xs] => some (.int xs.length)
  | [.dict [(.none, .list xs)]] => some (.int xs.length)
  | [.str x] => if Sz x.length then some (.int x.length) else none
  | _ => none
def rLenA (K : PySem.W.Frag) : List V → Hp → VK → Prop := fun xs H Q => ∃ x n, xs = [x] ∧ LenV K x H n ∧ Q (.int n) H
theorem je_len {p : Pos} (hg : Gl c.X "len") (hm : c.X.mg "len" = none) (ha : JAB c [e] tr dr) (he : starEach [e] c.X.env = (false, eval e c.X.env) :: starEach [] c.X.env := by rfl) (hpl : (backTo pos (starEach [] c.X.env)).any (·.1) = false := by rfl) :
    JE c (.Call (.Name "len" p) [e] [] pos) (tCB (rLenA HasK.K) tr) (dCB lenD dr) := by
  rw [← c.hK]
  exact je_callB (id := "len") call_len (fun F H xs ds z Q ex h hz k => by
    unfold lenD at hz
    split at hz
    · cases h with
      | cons h hn =>
        cases hn
        cases hz
        obtain ⟨a, us, rfl, h1, h2⟩ := h.lst ex
        exact ⟨_, _, rfl, .inl ⟨us, sqL h1, rfl⟩, by rw [h2.len]; exact k _ F H (.refl ex) (.int _)⟩
    · cases h with
      | cons h hn =>
        cases hn
        cases hz
        obtain ⟨a, us, rfl, h1, h2⟩ := h.tup ex
        exact ⟨_, _, rfl, .inr ⟨us, sqT h1, rfl⟩, by rw [h2.len]; exact k _ F H (.refl ex) (.int _)⟩
    · cases h with
      | cons h hn =>
        cases hn
        cases hz
        obtain ⟨a, ns, rfl, h1, h2⟩ := h.scr ex
        subst h2
        exact ⟨_, _, rfl, .inl ⟨_, by rw [c.hK]; exact h1, rfl⟩, by rw [List.length_map] at k ⊢; exact k _ F H (.refl ex) (.int _)⟩
    · cases h with
      | cons h hn =>
        cases hn
        obtain ⟨hs, rfl⟩ := if_some hz
        have e1 := h.str
        subst e1
        exact ⟨_, _, rfl, ⟨hs.le, rfl⟩, k _ F H (.refl ex) (.int _)⟩
    · cases hz) hg hm PySem.boot_len ha (by decide) (by decide) he hpl
/-- int(x) of an int, a bool -/
def intD : List D → Option D
  | [.int i] => some (.int i)
  | [.bool k] => some (.int (if k then 1 else 0))
  | _ => none
def rIntA : List V → Hp → VK → Prop := fun xs H Q => (∃ i, xs = [.int i] ∧ Q (.int i) H) ∨ ∃ k, xs = [.bl k] ∧ Q (.int (if k then 1 else 0)) H
theorem je_intc {p : Pos} (hg : Gl c.X "int") (hm : c.X.mg "int" = none) (ha : JAB c [e] tr dr) (he : starEach [e] c.X.env = (false, eval e c.X.env) :: starEach [] c.X.env := by rfl) (hpl : (backTo pos (starEach [] c.X.env)).any (·.1) = false := by rfl) :
    JE c (.Call (.Name "int" p) [e] [] pos) (tCB rIntA tr) (dCB intD dr) :=
  je_callTy (T := "int") call_int1 (fun F H xs ds z Q ex h hz k => by
    unfold intD at hz
    split at hz
    · cases h with
      | cons h hn =>
        cases hn
        cases hz
        have e1 := h.int
        subst e1
        exact .inl ⟨_, rfl, k _ F H (.refl ex) (.int _)⟩
    · cases h with
      | cons h hn =>
        cases hn
        cases hz
        have e1 := h.bl
        subst e1
        exact .inr ⟨_, rfl, k _ F H (.refl ex) (.int _)⟩
    · cases hz) hg hm (by decide +kernel) ha (by decide) (by decide) he hpl
/-- max, min of two ints -/
def maxD : List D → Option D
  | [.int i, .int j] => some (.int (if j > i then j else i))
  | _ => none
def minD : List D → Option D
  | [.int i, .int j] => some (.int (if j < i then j else i))
  | _ => none
theorem je_max2 {p : Pos} (hg : Gl c.X "max") (hm : c.X.mg "max" = none) (hc : c.X.calm = true) (ha : JAB c [a, b] tr dr) (he : starEach [a, b] c.X.env = (false, eval a c.X.env) :: starEach [b] c.X.env := by rfl) (hpl : (backTo pos (starEach [b] c.X.env)).any (·.1) = false := by rfl) :
    JE c (.Call (.Name "max" p) [a, b] [] pos) (tCB (fun xs H Q => ∃ i j, xs = [.int i, .int j] ∧ Q (.int (if j > i then j else i)) H) tr) (dCB maxD dr) :=
  je_callB (id := "max") (call_max2 hc) (fun F H xs ds z Q ex h hz k => by
    unfold maxD at hz
    split at hz
    · cases h with
      | cons h hn =>
        cases hn with
        | cons h2 hn =>
          cases hn
          cases hz
          have e1 := h.int
          have e2 := h2.int
          subst e1; subst e2
          exact ⟨_, _, rfl, k _ F H (.refl ex) (.int _)⟩
    · cases hz) hg hm (by decide +kernel) ha (by decide) (by decide) he hpl
theorem je_min2 {p : Pos} (hg : Gl c.X "min") (hm : c.X.mg "min" = none) (hc : c.X.calm = true) (ha : JAB c [a, b] tr dr) (he : starEach [a, b] c.X.env = (false, eval a c.X.env) :: starEach [b] c.X.env := by rfl) (hpl : (backTo pos (starEach [b] c.X.env)).any (·.1) = false := by rfl) :
    JE c (.Call (.Name "min" p) [a, b] [] pos) (tCB (fun xs H Q => ∃ i j, xs = [.int i, .int j] ∧ Q (.int (if j < i then j else i)) H) tr) (dCB minD dr) :=
  je_callB (id := "min") (call_min2 hc) (fun F H xs ds z Q ex h hz k => by
    unfold minD at hz
    split at hz
    · cases h with
      | cons h hn =>
        cases hn with
        | cons h2 hn =>
          cases hn
          cases hz
          have e1 := h.int
          have e2 := h2.int
          subst e1; subst e2
          exact ⟨_, _, rfl, k _ F H (.refl ex) (.int _)⟩
    · cases hz) hg hm (by decide +kernel) ha (by decide) (by decide) he hpl
/-- isinstance(x, T), T a built-in type -/
inductive Ty where
  | int | bool | tuple | list | str
def Ty.nm : Ty → String
  | .int => "int"
  | .bool => "bool"
  | .tuple => "tuple"
  | .list => "list"
  | .str => "str"
def isiD : Ty → D → Option Bool
  | .int, .int _ => some true
  | .int, .bool _ => some true
  | .bool, .bool _ => some true
  | .tuple, .tuple _ => some true
  | .list, .list _ => some true
  | .str, .str _ => some true
  | _, .dict _ => none
  | _, _ => some false
def dIsi (T : Ty) (da : DE) : DE := fun δ => (da δ).bind fun x => (Res.ofO (isiD T x)).bind fun k => .ok (.bool k)
theorem isi_of {K : PySem.W.Frag} {F H : Hp} {v : V} {d : D} {T : Ty} {k : Bool} (ex : Ex F H) (h : Rp F v d) (q : isiD T d = some k) : ∃ t, TyX K H v t ∧ PySem.W.kitOne K t (.type T.nm) = some k := by
  cases h with
  | non => exact ⟨_, .base .non, by cases T <;> cases q <;> exact kit_ty (by decide +kernel)⟩
  | bl b => exact ⟨_, .base (.bl b), by cases T <;> cases q <;> exact kit_ty (by decide +kernel)⟩
  | int b => exact ⟨_, .base (.int b), by cases T <;> cases q <;> exact kit_ty (by decide +kernel)⟩
  | str b => exact ⟨_, .base (.str b), by cases T <;> cases q <;> exact kit_ty (by decide +kernel)⟩
  | lst h r => exact ⟨_, .base (.lst (ex _ _ h)), by cases T <;> cases q <;> exact kit_ty (by decide +kernel)⟩
  | tup h r => exact ⟨_, .base (.tup (ex _ _ h)), by cases T <;> cases q <;> exact kit_ty (by decide +kernel)⟩
  | scr h => cases T <;> cases q
  | dK h r => cases T <;> cases q
  | dT h r => cases T <;> cases q
theorem je_isi {x : Str} {p p2 : Pos} (T : Ty) (hg : Gl c.X "isinstance") (hm : c.X.mg "isinstance" = none) (hg2 : Gl c.X x) (hm2 : c.X.mg x = none) (hb : bootBuiltins x = some (.type T.nm)) (hn : x ≠ "__name__") (hd : (x == ("__debug__" : Str)) = false)
    (ha : JE c a ta da) (he : starEach [a, .Name x p2] c.X.env = (false, eval a c.X.env) :: starEach [.Name x p2] c.X.env := by rfl) (he2 : starEach [.Name x p2] c.X.env = (false, eval (.Name x p2) c.X.env) :: starEach [] c.X.env := by rfl) (hpl : (backTo pos (starEach [.Name x p2] c.X.env)).any (·.1) = false := by rfl) :
    JE c (.Call (.Name "isinstance" p) [a, .Name x p2] [] pos) (tCB (rIsi HasK.K) (tCons ta (tCons (tC (.ty T.nm)) tNil))) (dIsi T da) := by
  rw [← c.hK]
  exact ⟨pe_callB (id := "isinstance") call_isi hg hm (by decide +kernel) (pa_cons ha.p (pa_cons (pe_bltn (v := .ty T.nm) hg2 hm2 hb rfl hn hd) pa_nil he2) he) (by decide) (by decide) he hpl,
   fun F H σ δ Q S P => ha.s.go S P fun F1 H1 x d s1 S1 hx P1 => by
    cases q : isiD T d with
    | none => rw [q] at P1; exact P1.elim
    | some k =>
      rw [q] at P1
      obtain ⟨t, h1, h2⟩ := isi_of (K := c.X.K) S1.fh hx q
      exact ⟨x, .ty T.nm, t, .type T.nm, k, rfl, .ty _, h1, h2, P1 _ F1 H1 (.refl S1.fh) (.bl _)⟩⟩
end
end RD

end
section
namespace RD
open PySem L2
variable [HasK]
section
variable {c : Cc} {e a b : Expr} {es : List Expr} {da db : DE} {pos : Pos} {ta tb tc : TE} {tt tt' : TT} {st : Stmt} {rest : List Stmt} {t u : TS} {ds du : DS} {d : DT} {X : Cx} {tr : TA} {dr : DA}
/-! ### changes of one's own lists -/
/-- x.append(e) -/
def dApp (i : Nat) (da : DE) : DS := fun δ => match δ[i]? with
  | some (.own (.list xs)) => (da δ).out δ fun x => if Sz xs.length then .next (δ.set i (.own (.list (xs ++ [x])))) else .stuck
  | _ => .stuck
theorem ownL {δ : DEnv} {i : Nat} {f : List D → Out} {c : Cc} {F : Hp} {D : Ends} {G : Prop} (P : PostS c F D (match δ[i]? with | some (.own (.list xs)) => f xs | _ => .stuck)) (k : ∀ xs, δ[i]? = some (.own (.list xs)) → PostS c F D (f xs) → G) : G := by
  split at P
  · exact k _ (by assumption) P
  · exact P.elim
theorem Sr.var {F0 H0 F H : Hp} {σ : St} {δ : DEnv} {i : Nat} {ds : List D} (S : Sr F0 H0 F H σ δ) (h : δ[i]? = some (.own (.list ds))) : ∃ l xs, σ[i]? = some (some (.ref l)) ∧ H l = some (.lst xs) ∧ RpAll F xs ds := by
  obtain ⟨l, h1, h2, h3, xs, h4, h5⟩ := S.own i _ h
  exact ⟨l, xs, h1, h4, h5⟩
/-- the same list later -/
theorem Sr.var2 {F0 H0 F H : Hp} {σ : St} {δ : DEnv} {i : Nat} {ds : List D} {l : Addr} (S : Sr F0 H0 F H σ δ) (h : δ[i]? = some (.own (.list ds))) (hl : σ[i]? = some (some (.ref l))) : ∃ xs, H l = some (.lst xs) ∧ RpAll F xs ds := by
  obtain ⟨l', xs, h1, h2, h3⟩ := S.var h
  rw [hl] at h1
  cases h1
  exact ⟨xs, h2, h3⟩
theorem tyL {K : PySem.W.Frag} {H : Hp} {l : Addr} {xs : List V} (h : H l = some (.lst xs)) : tyV K "list" (.ref l) H := Or.inl ⟨rfl, _, sqL h⟩
theorem sim_app {K : PySem.W.Frag} {i : Nat} (h : Sim RF c ta da) : SimS c (tDrop (tBM K "list" rAppend (tVar i) (tCons ta tNil))) (dApp i da) := fun F H σ δ D S P =>
  ownL P fun xs hxs P => by
    obtain ⟨l, vs, h1, h2, h3⟩ := S.var hxs
    refine ⟨.ref l, h1, tyL h2, h.gos S P fun F' H' y z s S' hy P' => ?_⟩
    obtain ⟨vs', h2', h3'⟩ := S'.var2 hxs h1
    by_cases hs : Sz xs.length
    · rw [if_pos hs] at P'
      exact ⟨l, vs', y, rfl, rfl, h2', by rw [h3'.len]; exact hs.lt, P' σ F' _ (.refl _) (S'.write hxs h1 ⟨_, upd_same, h3'.app (.cons hy .nil)⟩)⟩
    · rw [if_neg hs] at P'
      exact P'.elim
theorem js_app {i : Nat} {x : Str} {p ap cp : Pos} (he : JE c e ta da) (hN : c.X.N[i]? = some x := by rfl) (hv : Vis c.X.env.scope x := by first | exact Or.inl rfl | exact Or.inr (Or.inl rfl) | exact Or.inr (Or.inr rfl))
    (hd : (x == ("__debug__" : Str)) = false := by decide) (hcd : (x == ("__classdict__" : Str)) = false := by decide)
    (hbase : attributeBase (.Name x p) "append" c.X.env (eval (.Name x p) c.X.env) = eval (.Name x p) c.X.env := by rfl)
    (hfew : ((backTo cp (starEach [e] c.X.env)).all (fun x => !x.1) && (backToKw cp (keywordEach [] c.X.env)).all (fun x => x.1.isSome) && decide ([e].length + ([] : List Keyword).length + (if ([] : List Keyword).isEmpty then 0 else 1) < 30)) = true := by rfl)
    (hline : (ap.endLine == cp.line) = true := by rfl) (hst : starEach [e] c.X.env = (false, eval e c.X.env) :: starEach [] c.X.env := by rfl) (hpl : (backTo cp (starEach [] c.X.env)).any (·.1) = false := by rfl)
    (hs : swapsWith (.Call (.Attribute (.Name x p) "append" ap) [e] [] cp) none pos.line c.X.env = pure false := by rfl) :
    JS c (.Expr (.Call (.Attribute (.Name x p) "append" ap) [e] [] cp) pos) (tDrop (tBM HasK.K "list" rAppend (tVar i) (tCons ta tNil))) (dApp i da) :=
  ⟨by rw [← c.hK]; exact ps_expr (pe_bm PySem.F.plainAttrs_list PySem.F.slot_list_append PySem.F.type_list_append mt_append (pe_var hN hv hd hcd) (pa_cons he.p pa_nil hst) hbase hfew hline hst hpl) hs, sim_app he.s⟩
/-- x.extend(e) -/
def dExt (i : Nat) (da : DE) : DS := fun δ => match δ[i]? with
  | some (.own (.list xs)) => (da δ).out δ fun x => match x with
    | .list ys => if Sz (xs.length + ys.length) then .next (δ.set i (.own (.list (xs ++ ys)))) else .stuck
    | _ => .stuck
  | _ => .stuck
theorem sim_ext {K : PySem.W.Frag} {i : Nat} (h : Sim RF c ta da) : SimS c (tDrop (tBM K "list" rExtend (tVar i) (tCons ta tNil))) (dExt i da) := fun F H σ δ D S P =>
  ownL P fun xs hxs P => by
    obtain ⟨l, vs, h1, h2, h3⟩ := S.var hxs
    refine ⟨.ref l, h1, tyL h2, h.gos S P fun F' H' y z s S' hy P' => ?_⟩
    obtain ⟨vs', h2', h3'⟩ := S'.var2 hxs h1
    cases z with
    | list ys =>
      by_cases hs : Sz (xs.length + ys.length)
      · have P2 : PostS c F' D (.next (δ.set i (.own (.list (xs ++ ys))))) := by
          have e2 : (if Sz (xs.length + ys.length) then Out.next (δ.set i (.own (.list (xs ++ ys)))) else .stuck) = .next (δ.set i (.own (.list (xs ++ ys)))) := if_pos hs
          rw [← e2]; exact P'
        cases hy with
        | lst hb rb => exact ⟨l, _, vs', _, rfl, rfl, h2', S'.fh _ _ hb, by rw [h3'.len, rb.len]; exact hs.le, P2 σ F' _ (.refl _) (S'.write hxs h1 ⟨_, upd_same, h3'.app rb⟩)⟩
      · have e2 : (if Sz (xs.length + ys.length) then Out.next (δ.set i (.own (.list (xs ++ ys)))) else .stuck) = .stuck := if_neg hs
        have P2 : PostS c F' D (if Sz (xs.length + ys.length) then Out.next (δ.set i (.own (.list (xs ++ ys)))) else .stuck) := P'
        rw [e2] at P2
        exact P2.elim
    | _ => exact P'.elim
theorem js_ext {i : Nat} {x : Str} {p ap cp : Pos} (he : JE c e ta da) (hN : c.X.N[i]? = some x := by rfl) (hv : Vis c.X.env.scope x := by first | exact Or.inl rfl | exact Or.inr (Or.inl rfl) | exact Or.inr (Or.inr rfl))
    (hd : (x == ("__debug__" : Str)) = false := by decide) (hcd : (x == ("__classdict__" : Str)) = false := by decide)
    (hbase : attributeBase (.Name x p) "extend" c.X.env (eval (.Name x p) c.X.env) = eval (.Name x p) c.X.env := by rfl)
    (hfew : ((backTo cp (starEach [e] c.X.env)).all (fun x => !x.1) && (backToKw cp (keywordEach [] c.X.env)).all (fun x => x.1.isSome) && decide ([e].length + ([] : List Keyword).length + (if ([] : List Keyword).isEmpty then 0 else 1) < 30)) = true := by rfl)
    (hline : (ap.endLine == cp.line) = true := by rfl) (hst : starEach [e] c.X.env = (false, eval e c.X.env) :: starEach [] c.X.env := by rfl) (hpl : (backTo cp (starEach [] c.X.env)).any (·.1) = false := by rfl)
    (hs : swapsWith (.Call (.Attribute (.Name x p) "extend" ap) [e] [] cp) none pos.line c.X.env = pure false := by rfl) :
    JS c (.Expr (.Call (.Attribute (.Name x p) "extend" ap) [e] [] cp) pos) (tDrop (tBM HasK.K "list" rExtend (tVar i) (tCons ta tNil))) (dExt i da) :=
  ⟨by rw [← c.hK]; exact ps_expr (pe_bm PySem.F.plainAttrs_list PySem.F.slot_list_extend PySem.F.type_list_extend mt_extend (pe_var hN hv hd hcd) (pa_cons he.p pa_nil hst) hbase hfew hline hst hpl) hs, sim_ext he.s⟩
/-- x[e] = f -/
def setD (xs : List D) (v : D) : D → Option (List D)
  | .int k => (ixN xs.length k).map fun j => xs.set j v
  | _ => none
def Opt.out {α : Type} (o : Option α) (f : α → Out) : Out := match o with
  | some a => f a
  | none => .stuck
theorem outO {α : Type} {o : Option α} {f : α → Out} {c : Cc} {F : Hp} {D : Ends} {G : Prop} (P : PostS c F D (Opt.out o f)) (k : ∀ a, o = some a → PostS c F D (f a) → G) : G := by
  cases o with
  | none => exact P.elim
  | some a => exact k a rfl P
def dSetIx (i : Nat) (da db : DE) : DS := fun δ => match δ[i]? with
  | some (.own (.list xs)) => (db δ).out δ fun v => (da δ).out δ fun k => Opt.out (setD xs v k) fun ys => .next (δ.set i (.own (.list ys)))
  | _ => .stuck
theorem sim_setIx {i : Nat} (ha : Sim RF c ta da) (hb : Sim RF c tb db) : SimS c (tAsg tb (gSub (tVar i) ta rSetL)) (dSetIx i da db) := fun F H σ δ D S P =>
  ownL P fun xs hxs P => hb.gos S P fun F1 H1 v z s1 S1 hv P1 => by
    obtain ⟨l, vs, h1, h2, h3⟩ := S1.var hxs
    refine ⟨.ref l, h1, ha.gos S1 P1 fun F2 H2 k kd s2 S2 hk P2 => outO P2 fun ys hy P3 => ?_⟩
    obtain ⟨vs', h2', h3'⟩ := S2.var2 hxs h1
    cases kd with
    | int k =>
      cases hk
      obtain ⟨j, hj, rfl⟩ := Option.map_eq_some_iff.mp hy
      exact ⟨l, vs', k, j, rfl, rfl, h2', by rw [h3'.len]; exact hj, P3 σ F2 _ (.refl _) (S2.write hxs h1 ⟨_, upd_same, h3'.set (hv.mono s2.ff) j⟩)⟩
    | _ => cases hy
theorem js_setIx {i : Nat} {x : Str} {p sp : Pos} (ha : JE c a ta da) (hb : JE c b tb db) (hN : c.X.N[i]? = some x := by rfl) (hv : Vis c.X.env.scope x := by first | exact Or.inl rfl | exact Or.inr (Or.inl rfl) | exact Or.inr (Or.inr rfl))
    (hd : (x == ("__debug__" : Str)) = false := by decide) (hcd : (x == ("__classdict__" : Str)) = false := by decide)
    (hg : PE c.X (.Name x p) (tVar i) → PE c.X a ta → PG c.X (.Subscript (.Name x p) a sp) (gSub (tVar i) ta rSetL) := by exact fun h1 h2 => pg_sub h1 h2 set_list)
    (hs : swapsWithSole [.Subscript (.Name x p) a sp] b pos.line c.X.env = pure false := by rfl) (hw : swappedStores [.Subscript (.Name x p) a sp] b c.X.env = pure none := by rfl) :
    JS c (.Assign [.Subscript (.Name x p) a sp] b pos) (tAsg tb (gSub (tVar i) ta rSetL)) (dSetIx i da db) :=
  ⟨ps_asg hb.p (hg (pe_var hN hv hd hcd) ha.p) hs hw, sim_setIx ha.s hb.s⟩
end
end RD

end
section
namespace RD
open PySem L2
variable [HasK]
section
variable {c : Cc} {e a b tg : Expr} {es : List Expr} {da db : DE} {pos : Pos} {ta tb tc : TE} {tt tt' : TT} {st : Stmt} {rest : List Stmt} {t u : TS} {ds du : DS} {d : DT} {X : Cx} {tr : TA} {dr : DA}
/-! ### targets -/
abbrev DG := D → DEnv → Option DEnv
abbrev DGs := List D → DEnv → Option DEnv
def SimG (c : Cc) (g : TG) (dg : DG) : Prop := ∀ F H σ δ v d δ' (Q : St → Hp → Prop), Sr c.F0 c.H0 F H σ δ → Rp F v d → dg d δ = some δ' → (∀ σ', Sr c.F0 c.H0 F H σ' δ' → Q σ' H) → g v σ H Q
def SimGs (c : Cc) (g : TGs) (dg : DGs) : Prop := ∀ F H σ δ v d δ' (Q : St → Hp → Prop), Sr c.F0 c.H0 F H σ δ → RpAll F v d → dg d δ = some δ' → (∀ σ', Sr c.F0 c.H0 F H σ' δ' → Q σ' H) → g v σ H Q
structure JG (c : Cc) (e : Expr) (g : TG) (d : DG) : Prop where
  p : PG c.X e g
  s : SimG c g d
structure JGs (c : Cc) (e : List Expr) (g : TGs) (d : DGs) : Prop where
  p : PGs c.X e g
  s : SimGs c g d
def gN (i : Nat) : DG := fun d δ => some (δ.set i (.val d))
def gsN : DGs := fun ds δ => match ds with
  | [] => some δ
  | _ => none
def gsC (g : DG) (r : DGs) : DGs := fun ds δ => match ds with
  | d :: ds => (g d δ).bind (r ds)
  | [] => none
def gT (n : Nat) (g : DGs) : DG := fun d δ => match d with
  | .tuple ds => if ds.length = n then g ds δ else none
  | _ => none
theorem jg_name {i : Nat} {x : Str} (hN : c.X.N.Nodup) (hi : c.X.N[i]? = some x := by rfl) (hx : Loc c.X.env.scope x := by first | exact Or.inl rfl | exact Or.inr rfl) (hf : c.X.fn x = true ∨ c.X.env.scope.names.lookup x = some .local := by first | exact .inl rfl | exact .inr rfl) : JG c (.Name x pos) (gName i) (gN i) :=
  ⟨pg_name hN hi hx hf, fun F H σ δ v d δ' Q S hv hd k => by
    cases hd
    exact k _ (S.set hv i)⟩
theorem jgs_nil : JGs c [] gNil gsN := ⟨pgs_nil, fun F H σ δ v d δ' Q S hv hd k => by
  cases hv with
  | nil => cases hd; exact ⟨rfl, k σ S⟩
  | cons _ _ => cases hd⟩
theorem jgs_cons {g : TG} {gs : TGs} {dg : DG} {dgs : DGs} (h1 : JG c e g dg) (h2 : JGs c es gs dgs) (hp : PG c.X e g → PGs c.X es gs → PGs c.X (e :: es) (gCons g gs) := by exact fun a b => pgs_cons a b) : JGs c (e :: es) (gCons g gs) (gsC dg dgs) :=
  ⟨hp h1.p h2.p, fun F H σ δ v d δ' Q S hv hd k => by
    cases hv with
    | nil => cases hd
    | cons hx hr =>
      obtain ⟨δ1, q1, q2⟩ := Option.bind_eq_some_iff.mp hd
      exact ⟨_, _, rfl, h1.s F H σ δ _ _ δ1 _ S hx q1 fun σ' S' => h2.s F H σ' δ1 _ _ δ' Q S' hr q2 k⟩⟩
theorem jg_tup {gs : TGs} {dgs : DGs} {k n : Nat} (hc : c.X.calm = true) (h : JGs c es gs dgs) (hp : PGs c.X es gs → PG c.X (.Tuple es k pos) (gTup c.X.K n gs) := by exact fun a => pg_tup rfl a) : JG c (.Tuple es k pos) (gTup HasK.K n gs) (gT n dgs) := by
  rw [← c.hK]
  exact ⟨hp h.p, fun F H σ δ v d δ' Q S hv hd k => by
    cases d with
    | tuple ds =>
      have hd2 : (if ds.length = n then dgs ds δ else none) = some δ' := hd
      split at hd2
      · cases hv with
        | tup ha ra => exact ⟨_, _, rfl, sqT (S.fh _ _ ha), by rw [ra.len]; assumption, h.s F H σ δ _ ds δ' Q S ra hd2 k⟩
      · cases hd2
    | _ => cases hd⟩
def dAsg (da : DE) (g : DG) : DS := fun δ => (da δ).out δ fun x => Opt.out (g x δ) .next
theorem js_asg {g : TG} {dg : DG} (he : JE c e ta da) (hg : JG c tg g dg) (hs : swapsWithSole [tg] e pos.line c.X.env = pure false := by rfl) (hw : swappedStores [tg] e c.X.env = pure none := by rfl)
    (h1 : (assignEach [tg] c.X.env).map (·.2) = [assign tg c.X.env] := by rfl) : JS c (.Assign [tg] e pos) (tAsg ta g) (dAsg da dg) :=
  ⟨ps_asg he.p hg.p hs hw h1, fun F H σ δ D S P => he.s.gos S P fun F1 H1 x z s1 S1 hx P1 => outO P1 fun δ' hd P2 => hg.s F1 H1 σ δ x z δ' D.nx S1 hx hd fun σ' S' => P2 σ' F1 H1 (.refl _) S'⟩
/-- a, b = e, f -/
def dPar (i j : Nat) (dr : DA) : DS := fun δ => (dr δ).out δ fun xs => match xs with
  | [x, y] => .next ((δ.set i (.val x)).set j (.val y))
  | _ => .stuck
theorem js_par {i j : Nat} {x y : Str} {px py pt : Pos} {kt k2 pt2} (hc : c.X.calm = true) (hN : c.X.N.Nodup) (ha : JA c [a, b] tr dr)
    (hp : PA c.X [a, b] tr → PS c.X (.Assign [.Tuple [.Name x px, .Name y py] kt pt] (.Tuple [a, b] k2 pt2) pos) (tPar i j tr)) :
    JS c (.Assign [.Tuple [.Name x px, .Name y py] kt pt] (.Tuple [a, b] k2 pt2) pos) (tPar i j tr) (dPar i j dr) :=
  ⟨hp ha.p, fun F H σ δ D S P => ha.s.gos S P fun F1 H1 xs zs s1 S1 hx P1 => by
    cases hx with
    | nil => exact P1.elim
    | cons h1 r1 =>
      cases r1 with
      | nil => exact P1.elim
      | cons h2 r2 =>
        cases r2 with
        | nil => exact ⟨_, _, rfl, P1 _ F1 H1 (.refl _) ((S1.set h1 i).set h2 j)⟩
        | cons _ _ => exact P1.elim⟩
/-- x += e of ints -/
def dAug (i : Nat) (f : Int → Int → Int) (da : DE) : DS := fun δ => match δ[i]? with
  | some (.val (.int k)) => (da δ).out δ fun y => match y with
    | .int m => .next (δ.set i (.val (.int (f k m))))
    | _ => .stuck
  | _ => .stuck
theorem js_aug {i : Nat} {x : Str} {op : Operator} {f : Int → Int → Int} {pos' : Pos} (hN : c.X.N.Nodup) (ho : PIp c.X op (ipI f)) (he : JE c e ta da) (hi : c.X.N[i]? = some x := by rfl) (hx : Loc c.X.env.scope x := by first | exact Or.inl rfl | exact Or.inr rfl)
    (hf : c.X.fn x = true ∨ c.X.env.scope.names.lookup x = some .local := by first | exact .inl rfl | exact .inr rfl)
    (hp : PE c.X e ta → PS c.X (.AugAssign (.Name x pos') op e pos) (tAug i ta (ipI f)) := by exact fun h => ps_aug (by assumption) rfl (by first | exact Or.inl rfl | exact Or.inr rfl) h (by assumption)) :
    JS c (.AugAssign (.Name x pos') op e pos) (tAug i ta (ipI f)) (dAug i f da) :=
  ⟨hp he.p, fun F H σ δ D S P => by
    unfold dAug at P
    split at P
    · rename_i k q
      obtain ⟨v, h1, h2⟩ := S.val i _ q
      cases h2
      refine ⟨_, h1, he.s.gos S P fun F1 H1 y z s1 S1 hy P1 => ?_⟩
      cases z with
      | int m => cases hy; exact ⟨k, m, rfl, rfl, P1 _ F1 H1 (.refl _) (S1.set (.int _) i)⟩
      | _ => exact P1.elim
    · exact P.elim⟩
/-- y = x.pop(k), y = x.pop() -/
def dPopAt (i j : Nat) (da : DE) : DS := fun δ => match δ[i]? with
  | some (.own (.list xs)) => (da δ).out δ fun k => match k with
    | .int k => if k < 2 ^ 60 ∧ -(2 ^ 60) < k then Opt.out (ixN xs.length k) fun m => Opt.out xs[m]? fun y => .next ((δ.set i (.own (.list (xs.eraseIdx m)))).set j (.val y)) else .stuck
    | _ => .stuck
  | _ => .stuck
theorem sim_popAt {K : PySem.W.Frag} {i j : Nat} (h : Sim RF c ta da) : SimS c (tAsg (tBM K "list" rPopAt (tVar i) (tCons ta tNil)) (gName j)) (dPopAt i j da) := fun F H σ δ D S P =>
  ownL P fun xs hxs P => by
    obtain ⟨l, vs, h1, h2, h3⟩ := S.var hxs
    refine ⟨.ref l, h1, tyL h2, h.gos S P fun F' H' y z s S' hy P' => ?_⟩
    obtain ⟨vs', h2', h3'⟩ := S'.var2 hxs h1
    cases z with
    | int k =>
      cases hy
      by_cases hk : k < 2 ^ 60 ∧ -(2 ^ 60) < k
      · have P2 : PostS c F' D (Opt.out (ixN xs.length k) fun m => Opt.out xs[m]? fun y => .next ((δ.set i (.own (.list (xs.eraseIdx m)))).set j (.val y))) := by
          have e2 : (if k < 2 ^ 60 ∧ -(2 ^ 60) < k then Opt.out (ixN xs.length k) fun m => Opt.out xs[m]? fun y => Out.next ((δ.set i (.own (.list (xs.eraseIdx m)))).set j (.val y)) else .stuck) = _ := if_pos hk
          rw [← e2]; exact P'
        refine outO P2 fun m hm P3 => outO P3 fun y hy P4 => ?_
        obtain ⟨w, hw, rw_⟩ := h3'.getD hy
        obtain ⟨q1, q2, q3, q4⟩ := ixN_seq hm
        refine ⟨l, vs', k, m, w, rfl, rfl, h2', by omega, by omega, by rw [h3'.len]; exact q1, hw, P4 _ F' _ (.refl _) ?_⟩
        exact Sr.set (S'.write (d' := .list (xs.eraseIdx m)) hxs h1 ⟨_, upd_same, h3'.erase m⟩) rw_ j
      · have e2 : (if k < 2 ^ 60 ∧ -(2 ^ 60) < k then Opt.out (ixN xs.length k) fun m => Opt.out xs[m]? fun y => Out.next ((δ.set i (.own (.list (xs.eraseIdx m)))).set j (.val y)) else .stuck) = .stuck := if_neg hk
        have P2 : PostS c F' D (if k < 2 ^ 60 ∧ -(2 ^ 60) < k then Opt.out (ixN xs.length k) fun m => Opt.out xs[m]? fun y => Out.next ((δ.set i (.own (.list (xs.eraseIdx m)))).set j (.val y)) else .stuck) := P'
        rw [e2] at P2
        exact P2.elim
    | _ => exact P'.elim
theorem js_popAt {i j : Nat} {y : Str} {p : Pos} (hN : c.X.N.Nodup) (he : JE c e ta da) (hp : PE c.X e ta → PE c.X a (tBM c.X.K "list" rPopAt (tVar i) (tCons ta tNil)))
    (hj : c.X.N[j]? = some y := by rfl) (hx : Loc c.X.env.scope y := by first | exact Or.inl rfl | exact Or.inr rfl)
    (hs : swapsWith a (some (.Name y p)) pos.line c.X.env = pure false := by rfl) (hf : c.X.fn y = true ∨ c.X.env.scope.names.lookup y = some .local := by first | exact .inl rfl | exact .inr rfl) :
    JS c (.Assign [.Name y p] a pos) (tAsg (tBM HasK.K "list" rPopAt (tVar i) (tCons ta tNil)) (gName j)) (dPopAt i j da) := by
  rw [← c.hK]
  exact ⟨ps_set hN hj hx (hp he.p) hs hf, sim_popAt he.s⟩
def dPopG (i : Nat) (g : DG) : DS := fun δ => match δ[i]? with
  | some (.own (.list xs)) => Opt.out xs[xs.length - 1]? fun y => Opt.out (g y (δ.set i (.own (.list xs.dropLast)))) .next
  | _ => .stuck
theorem sim_popG {K : PySem.W.Frag} {i : Nat} {g : TG} {dg : DG} (hg : SimG c g dg) : SimS c (tAsg (tBM0 K "list" rPop (tVar i)) g) (dPopG i dg) := fun F H σ δ D S P =>
  ownL P fun xs hxs P => outO P fun y hy P2 => outO P2 fun δ' hd P3 => by
    obtain ⟨l, vs, h1, h2, h3⟩ := S.var hxs
    obtain ⟨w, hw, rw_⟩ := h3.getD hy
    refine ⟨.ref l, h1, tyL h2, l, vs, w, rfl, rfl, h2, by rw [h3.len]; exact hw, ?_⟩
    exact hg F _ σ _ w y δ' D.nx (S.write (d' := .list xs.dropLast) hxs h1 ⟨_, upd_same, h3.dropLast⟩) rw_ hd fun σ' S' => P3 σ' F _ (.refl _) S'
theorem js_popG {i : Nat} {g : TG} {dg : DG} (hp : PE c.X a (tBM0 c.X.K "list" rPop (tVar i))) (hg : JG c tg g dg) (hs : swapsWithSole [tg] a pos.line c.X.env = pure false := by rfl) (hw : swappedStores [tg] a c.X.env = pure none := by rfl)
    (h1 : (assignEach [tg] c.X.env).map (·.2) = [assign tg c.X.env] := by rfl) : JS c (.Assign [tg] a pos) (tAsg (tBM0 HasK.K "list" rPop (tVar i)) g) (dPopG i dg) := by
  rw [← c.hK]
  exact ⟨ps_asg hp hg.p hs hw h1, sim_popG hg.s⟩
/-! ### a list of one's own is given away -/
def frz (i : Nat) (δ : DEnv) : Option DEnv := match δ[i]? with
  | some (.own (.list xs)) => some (δ.set i (.val (.list xs)))
  | some (.val _) => some δ
  | _ => none
def dFrz (i : Nat) (ds : DS) : DS := fun δ => Opt.out (frz i δ) ds
theorem sim_frz {i : Nat} (h : SimS c t ds) : SimS c t (dFrz i ds) := fun F H σ δ D S P => outO P fun δ' hd P2 => by
  unfold frz at hd
  split at hd
  · rename_i xs q
    cases hd
    obtain ⟨a, F', h1, h2, h3, S'⟩ := S.freezeL q
    exact h F' H σ _ D S' (P2.up h3)
  · cases hd
    exact h F H σ _ D S P2
  · cases hd
theorem jss_frz (i : Nat) {sts : List Stmt} (h : JSs c sts t ds) : JSs c sts t (dFrz i ds) := ⟨h.p, sim_frz h.s⟩
end
end RD

end
section
namespace RD
open PySem L2
variable [HasK]
section
variable {c : Cc} {e a b tg iter : Expr} {es : List Expr} {da db : DE} {pos : Pos} {ta tb tc : TE} {tt tt' : TT} {st : Stmt} {rest : List Stmt} {t u : TS} {ds du : DS} {d : DT} {X : Cx} {tr : TA} {dr : DA}
/-! ### what is walked -/
abbrev DI := DEnv → Res (List D)
def RI : Hp → Hp → It → List D → Prop := fun F _ J ds => ∃ (G : Hp → Prop) (Y : Nat → Hp → V → Hp → Prop), Walk J ds.length G Y ∧ (∀ F2 H2, Ex F F2 → Ex F2 H2 → G H2) ∧
  ∀ (i : Nat) F2 H2 x H3, i < ds.length → Ex F F2 → Ex F2 H2 → Y i H2 x H3 → ∃ d F3, ds[i]? = some d ∧ Step F2 H2 F3 H3 ∧ Rp F3 x d
structure JI (c : Cc) (tg iter : Expr) (w : TI) (d : DI) : Prop where
  p : PI c.X tg iter w
  s : Sim RI c w d
theorem ri_list {K : PySem.W.Frag} {F H : Hp} {a : Addr} {xs : List V} {ds : List D} (h : F a = some (.lst xs)) (r : RpAll F xs ds) : RI F H (Itl K a) ds := by
  refine ⟨_, _, by rw [← r.len]; exact walk_list, fun F2 H2 e1 e2 => sqL (e2 _ _ (e1 _ _ h)), fun i F2 H2 x H3 hi e1 e2 hy => ?_⟩
  obtain ⟨rfl, hx⟩ := hy
  obtain ⟨d, hd, hr⟩ := r.getV hx
  exact ⟨d, F2, hd, .refl e2, hr.mono e1⟩
theorem ri_tup {K : PySem.W.Frag} {F H : Hp} {a : Addr} {xs : List V} {ds : List D} (h : F a = some (.tup xs)) (r : RpAll F xs ds) : RI F H (Itt K a) ds := by
  refine ⟨_, _, by rw [← r.len]; exact walk_tup, fun F2 H2 e1 e2 => sqT (e2 _ _ (e1 _ _ h)), fun i F2 H2 x H3 hi e1 e2 hy => ?_⟩
  obtain ⟨rfl, hx⟩ := hy
  obtain ⟨d, hd, hr⟩ := r.getV hx
  exact ⟨d, F2, hd, .refl e2, hr.mono e1⟩
theorem ri_scr {K : PySem.W.Frag} {F H : Hp} {a : Addr} {ns : List Int} (h : SqL K F a (ns.map V.int)) : RI F H (Itl K a) (ns.map .int) := by
  refine ⟨_, _, by rw [← (RpAll.ints (H := F) ns).len]; exact walk_list, fun F2 H2 e1 e2 => (h.imp (fun z => rd_ex e2 (rd_ex e1 z)) id : SqL K H2 a (ns.map V.int)), fun i F2 H2 x H3 hi e1 e2 hy => ?_⟩
  obtain ⟨rfl, hx⟩ := hy
  obtain ⟨d, hd, hr⟩ := (RpAll.ints (H := F2) ns).getV hx
  exact ⟨d, F2, hd, .refl e2, hr⟩
def wOr (v w : TI) : TI := fun σ H R => v σ H R ∨ w σ H R
theorem pi_or {v w : TI} (h1 : PI X tg iter v) (h2 : PI X tg iter w) : PI X tg iter (wOr v w) := ⟨fun pins s σ H R I h => by
  rcases h with h | h
  · exact h1.run pins s σ H R I h
  · exact h2.run pins s σ H R I h⟩
/-- a list, a tuple, the script -/
def itemsD : D → Option (List D)
  | .list xs => some xs
  | .tuple xs => some xs
  | .dict [(.none, .list xs)] => some xs
  | _ => none
def dItems (da : DE) : DI := fun δ => (da δ).bind fun x => Res.ofO (itemsD x)
def wSeq (K : PySem.W.Frag) (ta : TE) : TI := fun σ H R => ta σ H fun x H1 => (∃ a, x = .ref a ∧ (∃ xs, SqL K H1 a xs) ∧ R (Itl K a) H1) ∨ ∃ a, x = .ref a ∧ (∃ xs, SqT K H1 a xs) ∧ R (Itt K a) H1
theorem pi_seq (h : PE X e ta) : PI X tg e (wSeq X.K ta) := by
  refine ⟨fun pins s σ H R I hw => ?_⟩
  refine thn (h.run pins s σ H _ I hw) fun v s1 hv => ?_
  obtain ⟨x, H1, I1, r1, q1⟩ := hv
  have fp : ∀ b ∈ [s1.heap.objs.size], FpOk X pins H1 b := fun b hb => by
    rw [List.mem_singleton.mp hb]
    exact I1.fpOk (Nat.le_refl _) (I1.hok.fresh (Nat.le_refl _))
  rcases q1 with ⟨a, rfl, ⟨xs, hq⟩, q⟩ | ⟨a, rfl, ⟨xs, hq⟩, q⟩
  · cases r1
    obtain ⟨its, _, p, _⟩ := I1.list hq
    exact wpAny_pyIter_list p.isList ⟨_, _, _, _, H1, rfl, I1.kept (t' := s1.toks) (fun b o k => Heap.get?_push_of_some _ k), turn_list a _, ⟨_, Heap.get?_push_size _ rfl, rfl, rfl⟩, fp, q⟩
  · cases r1
    obtain ⟨its, _, p, _⟩ := I1.tuple hq
    exact wpAny_pyIter_tuple (show s1.heap.IsTuple a its.toArray from p) ⟨_, _, _, _, H1, rfl, I1.kept (t' := s1.toks) (fun b o k => Heap.get?_push_of_some _ k), turn_tuple a _, ⟨_, Heap.get?_push_size _ rfl, rfl, rfl⟩, fp, q⟩
theorem ji_seq (h : JE c e ta da) : JI c tg e (wSeq HasK.K ta) (dItems da) := by
  rw [← c.hK]
  exact ⟨pi_seq h.p, fun F H σ δ Q S P => h.s.go S P fun F1 H1 x z s1 S1 hx P1 => Sim.last P1 fun ds hz k => by
    unfold itemsD at hz
    split at hz
    · cases hz
      cases hx with
      | lst ha ra => exact .inl ⟨_, rfl, ⟨_, sqL (S1.fh _ _ ha)⟩, k _ F1 H1 (.refl S1.fh) (ri_list ha ra)⟩
    · cases hz
      cases hx with
      | tup ha ra => exact .inr ⟨_, rfl, ⟨_, sqT (S1.fh _ _ ha)⟩, k _ F1 H1 (.refl S1.fh) (ri_tup ha ra)⟩
    · cases hz
      rcases hx.invD _ rfl with ⟨a, ns, h1, h2, h3⟩ | ⟨a, o, kvs, ds', h1, h2, h3, h4⟩ | ⟨a, o, kvs, ds', h1, h2, h3, h4⟩
      · unfold scrD at h3
        injection h3 with h3
        injection h3 with h3
        injection h3 with h3 h5
        injection h5 with h5
        subst h1; subst h5
        rw [← c.hK] at h2
        exact .inl ⟨_, rfl, ⟨_, h2.imp (rd_ex S1.fh) id⟩, k _ F1 H1 (.refl S1.fh) (ri_scr h2)⟩
      · exact absurd h4 (zip_none fun a => by rcases a with ⟨k | k, _⟩ <;> exact fun q => nomatch q)
      · exact absurd h4 (zip_none (f := fun p : List Key × V => PyData.tuple (p.1.map keyD)) (fun a q => nomatch q))
    · cases hz⟩
/-- range -/
def rng (lo : Int) (n : Nat) : List D := (List.range n).map fun (i : Nat) => .int (lo + (i : Int))
def dRng1 (dr : DA) : DI := fun δ => (dr δ).bind fun xs => match xs with
  | [.int j] => if -(2 ^ 62) ≤ j ∧ j < 2 ^ 62 then .ok (rng 0 j.toNat) else .stuck
  | _ => .stuck
def dRng2 (dr : DA) : DI := fun δ => (dr δ).bind fun xs => match xs with
  | [.int i, .int j] => if -(2 ^ 62) ≤ i ∧ i < 2 ^ 62 ∧ -(2 ^ 62) ≤ j ∧ j < 2 ^ 62 then .ok (rng i (j - i).toNat) else .stuck
  | _ => .stuck
theorem ri_rng {F H : Hp} {lo : Int} {n : Nat} : RI F H (Itr lo n) (rng lo n) := by
  have hl : (rng lo n).length = n := by unfold rng; rw [List.length_map, List.length_range]
  refine ⟨_, _, by rw [hl]; exact walk_range, fun _ _ _ _ => trivial, fun i F2 H2 x H3 hi e1 e2 hy => ?_⟩
  obtain ⟨rfl, rfl⟩ := hy
  rw [hl] at hi
  refine ⟨_, F2, ?_, .refl e2, .int _⟩
  unfold rng
  rw [List.getElem?_map, List.getElem?_range hi]
  rfl
theorem ji_rng1 {p : Pos} (hg : Gl c.X "range") (hm : c.X.mg "range" = none) (ha : JA c [a] tr dr) (hs : starEach [a] c.X.env = [(false, eval a c.X.env)] := by rfl) : JI c tg (.Call (.Name "range" p) [a] [] pos) (iRng1 tr) (dRng1 dr) :=
  ⟨pi_range1 hg hm ha.p hs, fun F H σ δ Q S P => ha.s.go S P fun F1 H1 xs zs s1 S1 hx P1 => by
    split at P1
    · split at P1
      · cases hx with
        | cons h1 hn =>
          cases hn
          cases h1
          rename_i j hj
          exact ⟨j, rfl, hj.1, hj.2, P1 _ F1 H1 (.refl S1.fh) ri_rng⟩
      · exact P1.elim
    · exact P1.elim⟩
theorem ji_rng2 {p : Pos} (hg : Gl c.X "range") (hm : c.X.mg "range" = none) (ha : JA c [a, b] tr dr) (hp : PA c.X [a, b] tr → PI c.X tg (.Call (.Name "range" p) [a, b] [] pos) (iRng2 tr)) : JI c tg (.Call (.Name "range" p) [a, b] [] pos) (iRng2 tr) (dRng2 dr) :=
  ⟨hp ha.p, fun F H σ δ Q S P => ha.s.go S P fun F1 H1 xs zs s1 S1 hx P1 => by
    split at P1
    · split at P1
      · cases hx with
        | cons h1 hn =>
          cases hn with
          | cons h2 hn =>
            cases hn
            cases h1
            cases h2
            rename_i i j hj
            exact ⟨i, j, rfl, hj, P1 _ F1 H1 (.refl S1.fh) ri_rng⟩
      · exact P1.elim
    · exact P1.elim⟩
/-- zip of two lists, of two tuples -/
def zipD (xs ys : List D) : List D := (xs.zip ys).map fun p => .tuple [p.1, p.2]
def dZip (dr : DA) : DI := fun δ => (dr δ).bind fun xs => match xs with
  | [.list x, .list y] => .ok (zipD x y)
  | [.tuple x, .tuple y] => .ok (zipD x y)
  | _ => .stuck
theorem zipD_len (xs ys : List D) : (zipD xs ys).length = min xs.length ys.length := by unfold zipD; rw [List.length_map, List.length_zip]
theorem zipD_get {xs ys : List D} {i : Nat} {x y : D} (h1 : xs[i]? = some x) (h2 : ys[i]? = some y) : (zipD xs ys)[i]? = some (.tuple [x, y]) := by
  unfold zipD
  rw [List.getElem?_map, List.getElem?_zip_eq_some (z := (x, y)).mpr ⟨h1, h2⟩]
  rfl
theorem pair_step {F H : Hp} {T : Addr} {x y : V} {d e : D} (ex : Ex F H) (hT : H T = none) (h1 : Rp F x d) (h2 : Rp F y e) : Step F H (upd F T (.tup [x, y])) (upd H T (.tup [x, y])) ∧ Rp (upd F T (.tup [x, y])) (.ref T) (.tuple [d, e]) :=
  ⟨Step.put ex _ hT, .tup upd_same (.cons (h1.mono (.put (ex.back hT))) (.cons (h2.mono (.put (ex.back hT))) .nil))⟩
theorem ri_zipL {K : PySem.W.Frag} {F H : Hp} {a b : Addr} {xs ys : List V} {ds es : List D} (h : F a = some (.lst xs)) (r : RpAll F xs ds) (h' : F b = some (.lst ys)) (r' : RpAll F ys es) : RI F H (Itz K a b) (zipD ds es) := by
  refine ⟨_, _, walk_zip (xs := xs) (ys := ys) (by rw [zipD_len, r.len, r'.len]), fun F2 H2 e1 e2 => ⟨sqL (e2 _ _ (e1 _ _ h)), sqL (e2 _ _ (e1 _ _ h'))⟩, fun i F2 H2 x H3 hi e1 e2 hy => ?_⟩
  obtain ⟨T, x, y, rfl, hT, rfl, h1, h2⟩ := hy
  obtain ⟨d, hd, hr⟩ := r.getV h1
  obtain ⟨e, he, hr'⟩ := r'.getV h2
  obtain ⟨s1, s2⟩ := pair_step e2 hT (hr.mono e1) (hr'.mono e1)
  exact ⟨_, _, zipD_get hd he, s1, s2⟩
theorem walk_zipT {K : PySem.W.Frag} {a b : Addr} {xs ys : List V} {n : Nat} (hn : n = min xs.length ys.length) : Walk (RZ.ItzT K a b) n (fun H => SqT K H a xs ∧ SqT K H b ys) (YPair (fun i => xs[i]?) (fun i => ys[i]?)) where
  goes := fun i H hi g => ⟨xs, ys, xs[i]'(by omega), ys[i]'(by omega), g.1, g.2, List.getElem?_eq_getElem _, List.getElem?_eq_getElem _⟩
  stops := fun H g => ⟨xs, ys, g.1, g.2, by omega⟩
  yields := fun i H x H' hi g h => by
    obtain ⟨T, x, y, rfl, hT, rfl, h1, h2⟩ := h
    exact ⟨T, x, y, rfl, hT, rfl, h1 _ g.1, h2 _ g.2⟩
theorem ri_zipT {K : PySem.W.Frag} {F H : Hp} {a b : Addr} {xs ys : List V} {ds es : List D} (h : F a = some (.tup xs)) (r : RpAll F xs ds) (h' : F b = some (.tup ys)) (r' : RpAll F ys es) : RI F H (RZ.ItzT K a b) (zipD ds es) := by
  refine ⟨_, _, walk_zipT (xs := xs) (ys := ys) (by rw [zipD_len, r.len, r'.len]), fun F2 H2 e1 e2 => ⟨sqT (e2 _ _ (e1 _ _ h)), sqT (e2 _ _ (e1 _ _ h'))⟩, fun i F2 H2 x H3 hi e1 e2 hy => ?_⟩
  obtain ⟨T, x, y, rfl, hT, rfl, h1, h2⟩ := hy
  obtain ⟨d, hd, hr⟩ := r.getV h1
  obtain ⟨e, he, hr'⟩ := r'.getV h2
  obtain ⟨s1, s2⟩ := pair_step e2 hT (hr.mono e1) (hr'.mono e1)
  exact ⟨_, _, zipD_get hd he, s1, s2⟩
theorem ji_zip {p tpos : Pos} {elts : List Expr} {kk : Nat} (hg : Gl c.X "zip") (hm : c.X.mg "zip" = none) (ha : JA c [a, b] tr dr) (hs : starEach [a, b] c.X.env = (false, eval a c.X.env) :: starEach [b] c.X.env := by rfl) (hpl : (backTo pos (starEach [b] c.X.env)).any (·.1) = false := by rfl) :
    JI c (.Tuple elts kk tpos) (.Call (.Name "zip" p) [a, b] [] pos) (RZ.iZipA HasK.K tr) (dZip dr) := by
  rw [← c.hK]
  exact ⟨RZ.pi_zipA hg hm ha.p hs hpl, fun F H σ δ Q S P => ha.s.go S P fun F1 H1 xs zs s1 S1 hx P1 => by
    split at P1
    · cases hx with
      | cons h1 hn =>
        cases hn with
        | cons h2 hn =>
          cases hn
          cases h1 with
          | lst x1 r1 =>
            cases h2 with
            | lst x2 r2 => exact ⟨_, _, _, _, rfl, .inl ⟨sqL (S1.fh _ _ x1), sqL (S1.fh _ _ x2), P1 _ F1 H1 (.refl S1.fh) (ri_zipL x1 r1 x2 r2)⟩⟩
    · cases hx with
      | cons h1 hn =>
        cases hn with
        | cons h2 hn =>
          cases hn
          cases h1 with
          | tup x1 r1 =>
            cases h2 with
            | tup x2 r2 => exact ⟨_, _, _, _, rfl, .inr ⟨sqT (S1.fh _ _ x1), sqT (S1.fh _ _ x2), P1 _ F1 H1 (.refl S1.fh) (ri_zipT x1 r1 x2 r2)⟩⟩
    · exact P1.elim⟩
/-! ### for -/
def forL (g : DG) (ds : DS) : List D → DS
  | [] => .next
  | x :: xs => fun δ => Opt.out (g x δ) fun δ1 => match ds δ1 with
    | .next δ2 => forL g ds xs δ2
    | .cont δ2 => forL g ds xs δ2
    | .brk δ2 => .next δ2
    | o => o
def dFor (di : DI) (g : DG) (ds : DS) : DS := fun δ => (di δ).out δ fun xs => forL g ds xs δ
theorem sim_for {w : TI} {di : DI} {g : TG} {dg : DG} (hi : Sim RI c w di) (hg : SimG c g dg) (hb : SimS c t ds) : SimS c (tFor w g t) (dFor di dg ds) := fun F H σ δ D S P =>
  hi.gos S P fun F1 H1 J items s1 S1 hJ P1 => by
    obtain ⟨G, Y, hw, hG, hY⟩ := hJ
    refine for_it hw (fun i σ' H' => ∃ δ' F', Ex F1 F' ∧ Sr c.F0 c.H0 F' H' σ' δ' ∧ PostS c F' D (forL dg ds (items.drop i) δ')) ⟨δ, F1, .refl _, S1, P1⟩ (fun i σ' H' _ p => ?_) (fun i x σ' H' H2 hi p hy => ?_) (fun σ' H' p => ?_)
    · obtain ⟨δ', F', e1, S', _⟩ := p
      exact hG F' H' e1 S'.fh
    · obtain ⟨δ', F', e1, S', P'⟩ := p
      obtain ⟨z, F3, hz, s3, hx⟩ := hY i F' H' x H2 hi e1 S'.fh hy
      have hdrop : items.drop i = z :: items.drop (i + 1) := by
        rw [List.drop_eq_getElem_cons hi]
        congr 1
        rw [List.getElem?_eq_getElem hi] at hz
        exact Option.some.inj hz
      rw [hdrop] at P'
      refine outO P' fun δ1 hd P2 => ?_
      refine hg F3 H2 σ' δ' x z δ1 _ (S'.step s3) hx hd fun σ2 S2 => ?_
      refine hb F3 H2 σ2 δ1 _ S2 ?_
      have e3 : Ex F1 F3 := e1.trans s3.ff
      cases q : ds δ1 with
      | next δ2 =>
        rw [q] at P2
        exact fun σ3 F4 H4 e4 S4 => ⟨δ2, F4, e3.trans e4, S4, PostS.up (s3.ff.trans e4) P2⟩
      | cont δ2 =>
        rw [q] at P2
        exact fun σ3 F4 H4 e4 S4 => ⟨δ2, F4, e3.trans e4, S4, PostS.up (s3.ff.trans e4) P2⟩
      | brk δ2 =>
        rw [q] at P2
        exact fun σ3 F4 H4 e4 S4 => P2 σ3 F4 H4 (s3.ff.trans e4) S4
      | ret r =>
        rw [q] at P2
        exact fun v F4 H4 e4 => P2 v F4 H4 (s3.ff.trans e4)
      | exc n p δ2 =>
        rw [q] at P2
        exact fun σ3 F4 H4 e4 => P2 σ3 F4 H4 (s3.ff.trans e4)
      | stuck => rw [q] at P2; exact P2
    · obtain ⟨δ', F', e1, S', P'⟩ := p
      rw [List.drop_of_length_le (Nat.le_refl _)] at P'
      exact P' σ' F' H' (.refl _) S'
theorem js_for {w : TI} {di : DI} {g : TG} {dg : DG} {body : List Stmt} (hp : PassesOwn (model c.X.prog c.X.w) c.X.A c.X.env c.X.xe) (hc : c.X.calm = true) (hi : JI c tg iter w di) (hg : JG c tg g dg) (hb : JSs c body t ds)
    (hs : ∀ x, foldedSetIterable iter c.X.env x = pure x := by intro _; rfl) : JS c (.For tg iter body [] pos) (tFor w g t) (dFor di dg ds) := ⟨ps_for hp hc hi.p hg.p hb.p hs, sim_for hi.s hg.s hb.s⟩
/-! ### while -/
def whileN (d : DT) (ds : DS) : Nat → DS
  | 0 => fun _ => .stuck
  | n + 1 => fun δ => (d δ).out δ fun k => if k then (match ds δ with
    | .next δ2 => whileN d ds n δ2
    | .cont δ2 => whileN d ds n δ2
    | .brk δ2 => .next δ2
    | o => o) else .next δ
theorem sim_while {n : Nat} (hc : Sim RT c tt d) (hb : SimS c t ds) : SimS c (tWhile tt t) (whileN d ds n) := fun F H σ δ D S P => by
  refine ⟨fun m σ' H' => ∃ δ' F', Ex F F' ∧ Sr c.F0 c.H0 F' H' σ' δ' ∧ PostS c F' D (whileN d ds m δ'), ⟨n, δ, F, .refl _, S, P⟩, fun m σ' H' p => ?_⟩
  obtain ⟨δ', F', e1, S', P'⟩ := p
  cases m with
  | zero => exact P'.elim
  | succ m =>
    refine hc.gos S' P' fun F1 H1 x k s1 S1 hx P1 => ?_
    subst hx
    cases x with
    | false => exact iteF (P1 σ' F1 H1 (.refl _) S1)
    | true =>
      refine iteT ⟨fun σ2 H2 => ∃ δ2 F2, Ex F F2 ∧ Sr c.F0 c.H0 F2 H2 σ2 δ2 ∧ PostS c F2 D (whileN d ds m δ2), fun σ2 H2 q => ⟨m, Nat.lt_succ_self m, q⟩, ?_⟩
      refine hb F1 H1 σ' δ' _ S1 ?_
      have e3 : Ex F F1 := e1.trans s1.ff
      have P2 : PostS c F1 D (match ds δ' with
        | .next δ2 => whileN d ds m δ2
        | .cont δ2 => whileN d ds m δ2
        | .brk δ2 => .next δ2
        | o => o) := P1
      cases q : ds δ' with
      | next δ2 => rw [q] at P2; exact fun σ3 F4 H4 e4 S4 => ⟨δ2, F4, e3.trans e4, S4, PostS.up e4 P2⟩
      | cont δ2 => rw [q] at P2; exact fun σ3 F4 H4 e4 S4 => ⟨δ2, F4, e3.trans e4, S4, PostS.up e4 P2⟩
      | brk δ2 => rw [q] at P2; exact P2
      | ret r => rw [q] at P2; exact P2
      | exc n p δ2 => rw [q] at P2; exact P2
      | stuck => rw [q] at P2; exact P2
theorem js_while (n : Nat) {x : Expr} {body : List Stmt} (hp : PassesOwn (model c.X.prog c.X.w) c.X.A c.X.env c.X.xe) (hc : JT c x tt d) (hb : JSs c body t ds) : JS c (.While x body [] pos) (tWhile tt t) (whileN d ds n) := ⟨ps_while hp hc.p hb.p, sim_while hc.s hb.s⟩
theorem js_break : JS c (.Break pos) tBreak .brk := ⟨ps_break, fun F H σ δ D S P => P σ F H (.refl _) S⟩
theorem js_continue : JS c (.Continue pos) tCont .cont := ⟨ps_continue, fun F H σ δ D S P => P σ F H (.refl _) S⟩
end
end RD

end
section
namespace RD
open PySem L2
variable [HasK]
/-- the place within a comprehension's block -/
abbrev Cc.blk (c : Cc) (s : Shared) (H : Hp) (scope : Scope) (C : Addr) (cl : List (Str × Addr)) (fp : List Addr) : Cc :=
  ⟨c.X.blk s H scope (compEnvC scope cl C c.X.env) fp, c.F0, c.H0, fun _ _ _ _ => False, c.hK, c.hM⟩
section
variable {c : Cc} {e a b tg iter elt : Expr} {ifs es : List Expr} {da db : DE} {pos : Pos} {ta tb tc te : TE} {tt tt' : TT} {st : Stmt} {rest : List Stmt} {t u : TS} {ds du : DS} {d : DT} {X : Cx} {tr : TA} {dr : DA}
structure JTs (c : Cc) (ifs : List Expr) (t : TT) (d : DT) : Prop where
  p : PTs c.X ifs t
  s : Sim RT c t d
def dYes : DT := fun _ => .ok true
theorem jts_nil : JTs c [] tYes dYes := ⟨pts_nil, fun F H σ δ Q S P => P true F H (.refl S.fh) rfl⟩
theorem jts_one {x : Expr} (h : JT c x tt d) : JTs c [x] tt d := ⟨pts_one h.p, h.s⟩
def wipeD (δ : DEnv) : List Nat → DEnv
  | [] => δ
  | v :: vs => (wipeD δ vs).set v .no
theorem Sr.wipe {F0 H0 F H : Hp} {σ : St} {δ : DEnv} (S : Sr F0 H0 F H σ δ) : ∀ vs : List Nat, Sr F0 H0 F H (L2.wipe σ vs) (wipeD δ vs)
  | [] => S
  | v :: vs => by
    unfold L2.wipe wipeD
    exact (S.wipe vs).drop v none
/-- the items that come out -/
def compL (g : DG) (d : DT) (da : DE) (δ : DEnv) : List D → Res (List D)
  | [] => .ok []
  | x :: xs => match g x δ with
    | none => .stuck
    | some δ1 => match d δ1 with
      | .ok true => (match da δ1 with
        | .ok y => (compL g d da δ xs).bind fun ys => .ok (y :: ys)
        | _ => .stuck)
      | .ok false => compL g d da δ xs
      | _ => .stuck
/-- the target's names lie among the block's -/
def Stays (g : TG) (vs : List Nat) : Prop := ∀ x σ H (Q Q' : St → Hp → Prop), g x σ H Q → (∀ σ' H', Q σ' H' → L2.wipe σ' vs = L2.wipe σ vs → Q' σ' H') → g x σ H Q'
def dLc (di : DI) (g : DG) (d : DT) (da : DE) (vs : List Nat) : DE := fun δ => (di δ).bind fun xs => if Sz xs.length then (compL g d da (wipeD δ vs) xs).bind fun ys => .ok (.list ys) else .stuck
theorem compL_len {g : DG} {d : DT} {da : DE} {δ : DEnv} : ∀ {xs ys : List D}, compL g d da δ xs = .ok ys → ys.length ≤ xs.length
  | [], ys, h => by cases h; exact Nat.le_refl _
  | x :: xs, ys, h => by
    unfold compL at h
    split at h
    · cases h
    · split at h
      · split at h
        · cases q : compL g d da δ xs with
          | ok zs =>
            rw [q] at h
            cases h
            have := compL_len q
            simp only [List.length_cons]
            omega
          | exc n p => rw [q] at h; cases h
          | stuck => rw [q] at h; cases h
        · cases h
      · have := compL_len h
        simp only [List.length_cons]
        omega
      · cases h
theorem wipe_at (σ : L2.St) : ∀ (vs : List Nat) (i : Nat), (L2.wipe σ vs)[i]? = if i ∈ vs then σ[i]?.map (fun _ => none) else σ[i]?
  | [], i => by simp [L2.wipe]
  | v :: vs, i => by
    unfold L2.wipe
    by_cases h : i = v
    · subst h
      rw [List.getElem?_set_self', wipe_at σ vs i]
      by_cases h2 : i ∈ vs
      · rw [if_pos h2, if_pos (List.mem_cons_self ..)]
        cases σ[i]? <;> rfl
      · rw [if_neg h2, if_pos (List.mem_cons_self ..)]
        cases σ[i]? <;> rfl
    · rw [List.getElem?_set_ne (fun z => h z.symm), wipe_at σ vs i]
      by_cases h2 : i ∈ vs
      · rw [if_pos h2, if_pos (List.mem_cons_of_mem _ h2)]
      · rw [if_neg h2, if_neg (fun z => (List.mem_cons.mp z).elim h h2)]
theorem wipe_same {σ σ' : L2.St} {vs : List Nat} (h : ∀ i : Nat, σ'[i]?.isSome = σ[i]?.isSome ∧ (i ∉ vs → σ'[i]? = σ[i]?)) : L2.wipe σ' vs = L2.wipe σ vs := by
  apply List.ext_getElem?
  intro i
  rw [wipe_at, wipe_at]
  by_cases h2 : i ∈ vs
  · rw [if_pos h2, if_pos h2]
    have := (h i).1
    cases q1 : σ'[i]? <;> cases q2 : σ[i]? <;> rw [q1, q2] at this <;> first | rfl | cases this
  · rw [if_neg h2, if_neg h2]
    exact (h i).2 h2
theorem wipe_wipe (σ : L2.St) (vs : List Nat) : L2.wipe (L2.wipe σ vs) vs = L2.wipe σ vs := by
  refine wipe_same fun i => ⟨?_, fun h => ?_⟩
  · rw [wipe_at]
    split
    · cases σ[i]? <;> rfl
    · rfl
  · rw [wipe_at, if_neg h]
theorem wipe_set {σ : L2.St} {vs : List Nat} {j : Nat} {o : Option V} (h : j ∈ vs) : L2.wipe (σ.set j o) vs = L2.wipe σ vs := by
  refine wipe_same fun i => ⟨?_, fun h2 => ?_⟩
  · by_cases e : i = j
    · subst e
      rw [List.getElem?_set_self']
      cases σ[i]? <;> rfl
    · rw [List.getElem?_set_ne (fun z => e z.symm)]
  · rw [List.getElem?_set_ne (fun z => h2 (by rw [← z]; exact h))]
def StaysS (g : TGs) (vs : List Nat) : Prop := ∀ x σ H (Q Q' : St → Hp → Prop), g x σ H Q → (∀ σ' H', Q σ' H' → L2.wipe σ' vs = L2.wipe σ vs → Q' σ' H') → g x σ H Q'
theorem stays_name {i : Nat} {vs : List Nat} (h : i ∈ vs) : Stays (gName i) vs := fun x σ H Q Q' q k => k _ _ q (wipe_set h)
theorem stays_nil {vs : List Nat} : StaysS gNil vs := fun x σ H Q Q' q k => ⟨q.1, k _ _ q.2 rfl⟩
theorem stays_cons {g : TG} {gs : TGs} {vs : List Nat} (h1 : Stays g vs) (h2 : StaysS gs vs) : StaysS (gCons g gs) vs := fun x σ H Q Q' q k => by
  obtain ⟨v, r, e, q⟩ := q
  exact ⟨v, r, e, h1 v σ H _ _ q fun σ' H' q1 w1 => h2 r σ' H' _ _ q1 fun σ2 H2 q2 w2 => k σ2 H2 q2 (w2.trans w1)⟩
theorem stays_tup {K : PySem.W.Frag} {n : Nat} {gs : TGs} {vs : List Nat} (h : StaysS gs vs) : Stays (gTup K n gs) vs := fun x σ H Q Q' q k => by
  obtain ⟨a, xs, e1, e2, e3, q⟩ := q
  exact ⟨a, xs, e1, e2, e3, h xs σ H _ _ q k⟩
/-- an object that no slot holds changes -/
theorem Sr.poke {F0 H0 F H : Hp} {σ : St} {δ : DEnv} {p : Addr} {o : HO} (S : Sr F0 H0 F H σ δ) (hF : F p = none) (h0 : H0 p = none) (hn : ∀ (j : Nat) e, δ[j]? = some (.own e) → σ[j]? ≠ some (some (.ref p))) : Sr F0 H0 F (upd H p o) σ δ where
  st := ⟨S.st.ff, S.st.fh.over hF, S.st.hh.over h0, S.st.new⟩
  len := S.len
  val := S.val
  own := fun i d h => by
    obtain ⟨a, h1, h2, h3, h4⟩ := S.own i d h
    exact ⟨a, h1, h2, h3, h4.other fun z => by subst z; exact hn i d h h1⟩
  apart := S.apart
theorem Step.keepNone {F H F' H' : Hp} {p : Addr} (s : Step F H F' H') (hF : F p = none) (hH : H p ≠ none) : F' p = none := by
  cases q : F' p with
  | none => rfl
  | some o => exact absurd (s.new p hF (by rw [q]; exact fun z => nomatch z)) hH
/-- the block's run: from a list so far to the whole -/
theorem lc_run {c' : Cc} {w : TI} {di : DI} {g : TG} {dg : DG} {vs : List Nat} (hi : Sim RI c w di) (hF : c'.F0 = c.F0) (hH : c'.H0 = c.H0) (hg : SimG c' g dg) (hst : Stays g vs) (ht : Sim RT c' tt d) (he : Sim RF c' te da)
    {F H : Hp} {σ : St} {δ : DEnv} {Q : VK}
    (S : Sr c.F0 c.H0 F H σ δ)
    (hP : ∀ xs, di δ = .ok xs → Sz xs.length ∧ ∃ ys, compL dg d da (wipeD δ vs) xs = .ok ys ∧ ∀ D F1 H1 zs, Step F H F1 H1 → H D = none → F1 D = none → H1 D = some (.lst zs) → RpAll F1 zs ys → Q (.ref D) H1)
    (hx : ∀ n p, di δ = .exc n p → XPost HasK.mg c.W F H σ n p) (hs : di δ ≠ .stuck) : tLc w g tt te vs σ H Q := by
  refine hi F H σ δ _ S ?_
  cases q : di δ with
  | stuck => exact absurd q hs
  | exc n p => exact hx n p q
  | ok items =>
    obtain ⟨hsz, ys, hc, hQ⟩ := hP items q
    intro J F1 H1 s1 hJ D hD
    obtain ⟨G, Y, hw, hG, hY⟩ := hJ
    have S1 := S.step s1
    have Sw0 : Sr c'.F0 c'.H0 F1 H1 (L2.wipe σ vs) (wipeD δ vs) := by
      rw [hF, hH]
      exact S1.wipe vs
    have hD0 : H D = none := s1.hh.back hD
    have hDH : c'.H0 D = none := by
      rw [hH]
      exact S1.st.hh.back hD
    have hown : ∀ (j : Nat) e, (wipeD δ vs)[j]? = some (.own e) → (L2.wipe σ vs)[j]? ≠ some (some (.ref D)) := fun j e hj hs => by
      obtain ⟨a, h1, h2, h3, h4⟩ := Sw0.own j e hj
      rw [hs] at h1
      cases h1
      exact h4.there hD
    have Sw : Sr c'.F0 c'.H0 F1 (upd H1 D (.lst [])) (L2.wipe σ vs) (wipeD δ vs) := Sw0.poke (S1.fh.back hD) hDH hown
    refine lc_it hw (fun i H' => ∃ F' zs as bs, Step F1 H1 F' H' ∧ F' D = none ∧ Sr c'.F0 c'.H0 F' H' (L2.wipe σ vs) (wipeD δ vs) ∧ H' D = some (.lst zs) ∧ RpAll F' zs as ∧ zs.length ≤ i ∧ compL dg d da (wipeD δ vs) (items.drop i) = .ok bs ∧ as ++ bs = ys)
      ⟨F1, [], [], ys, Step.side S1.fh _ hD, S1.fh.back hD, Sw, upd_same, .nil, Nat.le_refl _, hc, rfl⟩ (fun i H' _ p => ?_) (fun i x H' H2 hi p hy => ?_) (fun H' p => ?_)
    · obtain ⟨F', zs, as, bs, k1, k2, k3, _⟩ := p
      exact hG F' H' k1.ff k1.fh
    · obtain ⟨F', zs, as, bs, k1, k2, k3, k4, k5, k6, k7, k8⟩ := p
      obtain ⟨z, F3, hz, s3, hx3⟩ := hY i F' H' x H2 hi k1.ff k1.fh hy
      have hdrop : items.drop i = z :: items.drop (i + 1) := by
        rw [List.drop_eq_getElem_cons hi]
        congr 1
        rw [List.getElem?_eq_getElem hi] at hz
        exact Option.some.inj hz
      rw [hdrop] at k7
      unfold compL at k7
      have kD : ∀ {F4 H4 : Hp}, Step F' H' F4 H4 → F4 D = none ∧ H4 D = some (.lst zs) := fun {F4 H4} s => ⟨s.keepNone k2 (by rw [k4]; exact fun z => nomatch z), s.hh _ _ k4⟩
      have fresh : ∀ {F4 H4 : Hp}, Step F' H' F4 H4 → Step F1 H1 F4 H4 := fun {F4 H4} s => k1.trans s
      split at k7
      · cases k7
      · rename_i δ1 hd1
        refine hst x _ H2 (fun σ2 H3 => H3 = H2 ∧ Sr c'.F0 c'.H0 F3 H2 σ2 δ1) _ (hg F3 H2 _ _ x z δ1 _ (k3.step s3) hx3 hd1 fun σ' S' => ⟨rfl, S'⟩) fun σ2 H3 hq hwp => ?_
        obtain ⟨rfl, S2⟩ := hq
        refine ⟨hwp.trans (wipe_wipe σ vs), ?_⟩
        split at k7
        · -- the test holds
          rename_i htrue
          refine ht F3 H3 σ2 δ1 _ S2 ?_
          rw [htrue]
          intro b F4 H4 s4 hb
          subst hb
          refine iteT (he F4 H4 σ2 δ1 _ (S2.step s4) ?_)
          split at k7
          · rename_i y hy2
            rw [hy2]
            intro v F5 H5 s5 hv
            have st := (s3.trans s4).trans s5
            obtain ⟨kF, kH⟩ := kD st
            cases q2 : compL dg d da (wipeD δ vs) (items.drop (i + 1)) with
            | ok bs2 =>
              rw [q2] at k7
              cases k7
              refine ⟨zs, kH, ?_, F5, zs ++ [v], as ++ [y], bs2, ?_, kF, ?_, upd_same, (k5.mono st.ff).app (.cons hv .nil), ?_, rfl, ?_⟩
              · have h9 : zs.length < items.length := Nat.lt_of_le_of_lt k6 hi
                exact Nat.lt_trans h9 hsz.lt
              · have k := fresh st
                exact ⟨k.ff, k.fh.over kF, k.hh.over hD, k.new⟩
              · exact (k3.step st).poke kF hDH hown
              · rw [List.length_append]
                exact Nat.succ_le_succ k6
              · rw [List.append_assoc]
                exact k8
            | exc n p => rw [q2] at k7; cases k7
            | stuck => rw [q2] at k7; cases k7
          · cases k7
        · rename_i hfalse
          refine ht F3 H3 σ2 δ1 _ S2 ?_
          rw [hfalse]
          intro b F4 H4 s4 hb
          subst hb
          have st := s3.trans s4
          obtain ⟨kF, kH⟩ := kD st
          exact iteF ⟨F4, zs, as, bs, fresh st, kF, k3.step st, kH, k5.mono st.ff, Nat.le_succ_of_le k6, k7, k8⟩
        · cases k7
    · obtain ⟨F', zs, as, bs, k1, k2, k3, k4, k5, k6, k7, k8⟩ := p
      rw [List.drop_of_length_le (Nat.le_refl _)] at k7
      cases k7
      rw [List.append_nil] at k8
      subst k8
      exact hQ D F' H' zs (s1.trans k1) hD0 k2 k4 k5
theorem lc_post {dg : DG} {vs : List Nat} {di : DI} {δ : DEnv} {r : Res D} (hr : r = dLc di dg d da vs δ) (hn : r ≠ .stuck) : di δ ≠ .stuck ∧ (∀ n p, di δ = .exc n p → r = .exc n p) ∧
    ∀ xs, di δ = .ok xs → Sz xs.length ∧ ((∃ ys, compL dg d da (wipeD δ vs) xs = .ok ys ∧ r = .ok (.list ys)) ∨ ∃ n p, compL dg d da (wipeD δ vs) xs = .exc n p) := by
  subst hr
  unfold dLc at hn ⊢
  refine ⟨fun q => hn (by rw [q]; rfl), fun n p q => by rw [q]; rfl, fun xs q => ?_⟩
  rw [q] at hn ⊢
  by_cases hs : Sz xs.length
  · refine ⟨hs, ?_⟩
    have e : ∀ f : List D → Res D, (Res.bind (.ok xs) fun xs => if Sz xs.length then (compL dg d da (wipeD δ vs) xs).bind f else .stuck) = (compL dg d da (wipeD δ vs) xs).bind f := fun f => if_pos hs
    rw [e] at hn ⊢
    cases q2 : compL dg d da (wipeD δ vs) xs with
    | ok ys => exact .inl ⟨ys, rfl, rfl⟩
    | exc n p => exact .inr ⟨n, p, rfl⟩
    | stuck => rw [q2] at hn; exact absurd rfl hn
  · exfalso
    apply hn
    exact if_neg hs
theorem compL_noexc {g : DG} {d : DT} {da : DE} {δ : DEnv} {n : Str} {p : Option (Str × D)} : ∀ {xs : List D}, compL g d da δ xs ≠ .exc n p
  | [], h => by cases h
  | x :: xs, h => by
    unfold compL at h
    split at h
    · cases h
    · split at h
      · split at h
        · cases q : compL g d da δ xs with
          | ok zs => rw [q] at h; cases h
          | exc n p => exact compL_noexc q
          | stuck => rw [q] at h; cases h
        · cases h
      · exact compL_noexc h
      · cases h
theorem sim_lc {c' : Cc} {w : TI} {di : DI} {g : TG} {dg : DG} {vs : List Nat} (hi : Sim RI c w di) (hF : c'.F0 = c.F0) (hH : c'.H0 = c.H0) (hg : SimG c' g dg) (hst : Stays g vs) (ht : Sim RT c' tt d) (he : Sim RF c' te da) : Sim RF c (tLc w g tt te vs) (dLc di dg d da vs) := fun F H σ δ Q S P => by
  have hn : dLc di dg d da vs δ ≠ .stuck := fun q => by rw [q] at P; exact P
  obtain ⟨n1, n2, n3⟩ := lc_post rfl hn
  refine lc_run hi hF hH hg hst ht he S (fun xs q => ?_) (fun n p q => by rw [n2 n p q] at P; exact P) n1
  obtain ⟨h1, ⟨ys, h2, h3⟩ | ⟨n, p, h2⟩⟩ := n3 xs q
  · refine ⟨h1, ys, h2, fun D F1 H1 zs s1 k1 k2 k3 k4 => ?_⟩
    rw [h3] at P
    have ex : Ex (upd F1 D (.lst zs)) H1 := fun b o hb => by
      by_cases e : b = D
      · subst e; rw [upd_same] at hb; rw [k3]; exact hb
      · rw [upd_ne e] at hb; exact s1.fh b o hb
    refine P _ (upd F1 D (.lst zs)) H1 ⟨s1.ff.trans (.put k2), ex, s1.hh, fun b hb hnb => ?_⟩ (.lst upd_same (k4.mono (.put k2)))
    by_cases e : b = D
    · rw [e]; exact k1
    · rw [upd_ne e] at hnb; exact s1.new b hb hnb
  · exact absurd h2 compL_noexc
theorem simN_lc {c' : Cc} {w : TI} {di : DI} {g : TG} {dg : DG} {vs : List Nat} (hi : Sim RI c w di) (hF : c'.F0 = c.F0) (hH : c'.H0 = c.H0) (hg : SimG c' g dg) (hst : Stays g vs) (ht : Sim RT c' tt d) (he : Sim RF c' te da) : SimN c (tLc w g tt te vs) (dLc di dg d da vs) := fun F H σ δ Q S P => by
  have hn : dLc di dg d da vs δ ≠ .stuck := fun q => by rw [q] at P; exact P
  obtain ⟨n1, n2, n3⟩ := lc_post rfl hn
  refine lc_run hi hF hH hg hst ht he S (fun xs q => ?_) (fun n p q => by rw [n2 n p q] at P; exact P) n1
  obtain ⟨h1, ⟨ys, h2, h3⟩ | ⟨n, p, h2⟩⟩ := n3 xs q
  · refine ⟨h1, ys, h2, fun D F1 H1 zs s1 k1 k2 k3 k4 => ?_⟩
    rw [h3] at P
    exact P D F1 H1 s1 k1 k2 ⟨zs, k3, k4⟩
  · exact absurd h2 compL_noexc
end
end RD

end
section
namespace RD
open PySem L2
variable [HasK]
section
variable {c : Cc} {e a b tg iter elt : Expr} {ifs es : List Expr} {da db : DE} {pos : Pos} {ta tb tc te : TE} {tt tt' : TT} {st : Stmt} {rest : List Stmt} {t u : TS} {ds du : DS} {d : DT} {X : Cx} {tr : TA} {dr : DA}
variable {scope : Scope} {own : List (Str × Nat)} {w : TI} {di : DI} {g : TG} {dg : DG}
theorem je_lc {vs : List Nat} (own : List (Str × Nat)) (hvs : own.map (·.2) = vs) (hc : c.X.calm = true) (hN : c.X.N.Nodup) (hi : JI c tg iter w di) (ok : BlkOk c.X.N c.X.env.scope scope own) (hst : Stays g vs)
    (hg : ∀ (s : Shared) (H : Hp) (C : Addr) (cl : List (Str × Addr)) (fp : List Addr), JG (c.blk s H scope C cl fp) tg g dg)
    (ht : ∀ (s : Shared) (H : Hp) (C : Addr) (cl : List (Str × Addr)) (fp : List Addr), JTs (c.blk s H scope C cl fp) ifs tt d)
    (he : ∀ (s : Shared) (H : Hp) (C : Addr) (cl : List (Str × Addr)) (fp : List Addr), JE (c.blk s H scope C cl fp) elt te da)
    (hs : ∀ x, foldedSetIterable iter c.X.env x = pure x := by intro _; rfl) : JE c (.ListComp elt [⟨tg, iter, ifs, 0⟩] scope pos) (tLc w g tt te vs) (dLc di dg d da vs) := by
  subst hvs
  refine ⟨pe_lc hc hN hi.p ok (fun s H C cl fp => (hg s H C cl fp).p) (fun s H C cl fp => (ht s H C cl fp).p) (fun s H C cl fp => (he s H C cl fp).p) hs, ?_⟩
  exact sim_lc (c' := c.blk c.X.s_0 c.H0 scope 0 [] []) hi.s rfl rfl (hg _ _ _ _ _).s hst (ht _ _ _ _ _).s (he _ _ _ _ _).s
theorem jn_lc {vs : List Nat} (own : List (Str × Nat)) (hvs : own.map (·.2) = vs) (hc : c.X.calm = true) (hN : c.X.N.Nodup) (hi : JI c tg iter w di) (ok : BlkOk c.X.N c.X.env.scope scope own) (hst : Stays g vs)
    (hg : ∀ (s : Shared) (H : Hp) (C : Addr) (cl : List (Str × Addr)) (fp : List Addr), JG (c.blk s H scope C cl fp) tg g dg)
    (ht : ∀ (s : Shared) (H : Hp) (C : Addr) (cl : List (Str × Addr)) (fp : List Addr), JTs (c.blk s H scope C cl fp) ifs tt d)
    (he : ∀ (s : Shared) (H : Hp) (C : Addr) (cl : List (Str × Addr)) (fp : List Addr), JE (c.blk s H scope C cl fp) elt te da)
    (hs : ∀ x, foldedSetIterable iter c.X.env x = pure x := by intro _; rfl) : JN c (.ListComp elt [⟨tg, iter, ifs, 0⟩] scope pos) (tLc w g tt te vs) (dLc di dg d da vs) := by
  subst hvs
  refine ⟨pe_lc hc hN hi.p ok (fun s H C cl fp => (hg s H C cl fp).p) (fun s H C cl fp => (ht s H C cl fp).p) (fun s H C cl fp => (he s H C cl fp).p) hs, ?_⟩
  exact simN_lc (c' := c.blk c.X.s_0 c.H0 scope 0 [] []) hi.s rfl rfl (hg _ _ _ _ _).s hst (ht _ _ _ _ _).s (he _ _ _ _ _).s
/-- y = [..] on one line, y a local name -/
theorem js_setLc {i : Nat} {y : Str} {py spos : Pos} {vs : List Nat} (own : List (Str × Nat)) (hvs : own.map (·.2) = vs) (hc : c.X.calm = true) (hN : c.X.N.Nodup) (hi : JI c tg iter w di) (ok : BlkOk c.X.N c.X.env.scope scope own) (hst : Stays g vs)
    (hg : ∀ (s : Shared) (H : Hp) (C : Addr) (cl : List (Str × Addr)) (fp : List Addr), JG (c.blk s H scope C cl fp) tg g dg)
    (ht : ∀ (s : Shared) (H : Hp) (C : Addr) (cl : List (Str × Addr)) (fp : List Addr), JTs (c.blk s H scope C cl fp) ifs tt d)
    (he : ∀ (s : Shared) (H : Hp) (C : Addr) (cl : List (Str × Addr)) (fp : List Addr), JE (c.blk s H scope C cl fp) elt te da)
    (hsw : swapsWith (.ListComp elt [⟨tg, iter, ifs, 0⟩] scope pos) (some (.Name y py)) spos.line c.X.env = pure true) (hy : c.X.N[i]? = some y := by rfl) (hyl : c.X.env.scope.names.lookup y = some .local := by rfl)
    (hs : ∀ x, foldedSetIterable iter c.X.env x = pure x := by intro _; rfl) :
    JS c (.Assign [.Name y py] (.ListComp elt [⟨tg, iter, ifs, 0⟩] scope pos) spos) (tAsg (tLc w g tt te vs) (gName i)) (dSet i (dLc di dg d da vs)) := by
  subst hvs
  refine ⟨ps_setLc hc hN hy hyl hsw hi.p ok (fun s H C cl fp => (hg s H C cl fp).p) (fun s H C cl fp => (ht s H C cl fp).p) (fun s H C cl fp => (he s H C cl fp).p) hs, fun F H σ δ D S P => ?_⟩
  exact (sim_lc (c' := c.blk c.X.s_0 c.H0 scope 0 [] []) hi.s rfl rfl (hg _ _ _ _ _).s hst (ht _ _ _ _ _).s (he _ _ _ _ _).s).gos S P fun F1 H1 x a s1 S1 hx P1 => P1 _ F1 H1 (.refl _) (S1.set hx i)
theorem js_setLcN {i : Nat} {y : Str} {py spos : Pos} {vs : List Nat} (own : List (Str × Nat)) (hvs : own.map (·.2) = vs) (hc : c.X.calm = true) (hN : c.X.N.Nodup) (hi : JI c tg iter w di) (ok : BlkOk c.X.N c.X.env.scope scope own) (hst : Stays g vs)
    (hg : ∀ (s : Shared) (H : Hp) (C : Addr) (cl : List (Str × Addr)) (fp : List Addr), JG (c.blk s H scope C cl fp) tg g dg)
    (ht : ∀ (s : Shared) (H : Hp) (C : Addr) (cl : List (Str × Addr)) (fp : List Addr), JTs (c.blk s H scope C cl fp) ifs tt d)
    (he : ∀ (s : Shared) (H : Hp) (C : Addr) (cl : List (Str × Addr)) (fp : List Addr), JE (c.blk s H scope C cl fp) elt te da)
    (hsw : swapsWith (.ListComp elt [⟨tg, iter, ifs, 0⟩] scope pos) (some (.Name y py)) spos.line c.X.env = pure true) (hy : c.X.N[i]? = some y := by rfl) (hyl : c.X.env.scope.names.lookup y = some .local := by rfl)
    (hs : ∀ x, foldedSetIterable iter c.X.env x = pure x := by intro _; rfl) :
    JS c (.Assign [.Name y py] (.ListComp elt [⟨tg, iter, ifs, 0⟩] scope pos) spos) (tAsg (tLc w g tt te vs) (gName i)) (dSetN i (dLc di dg d da vs)) := by
  subst hvs
  refine ⟨ps_setLc hc hN hy hyl hsw hi.p ok (fun s H C cl fp => (hg s H C cl fp).p) (fun s H C cl fp => (ht s H C cl fp).p) (fun s H C cl fp => (he s H C cl fp).p) hs, ?_⟩
  exact sim_setN (simN_lc (c' := c.blk c.X.s_0 c.H0 scope 0 [] []) hi.s rfl rfl (hg _ _ _ _ _).s hst (ht _ _ _ _ _).s (he _ _ _ _ _).s)
/-! ### defs -/
/-- no exception is wished for -/
abbrev W0 : WX := fun _ _ _ _ => False
def spD (n : Nat) (den : List D → Res D) : Sp := fun vs H Q E => vs.length = n ∧ ∃ F ds, Ex F H ∧ RpAll F vs ds ∧ PostG RF HasK.mg (fun cls d _ H' => E cls d H') F H [] Q (den ds)
theorem PostG.slots {mg : Str → Option Value} {W : WX} {F H : Hp} {σ : St} {Q : VK} {r : Res D} (h : PostG RF mg W F H σ Q r) : PostG RF mg (fun cls d _ H' => W cls d σ H') F H [] Q r := by
  cases r with
  | ok d => exact h
  | exc n p => cases p <;> exact h
  | stuck => exact h
def dCall (n : Nat) (den : List D → Res D) (dr : DA) : DE := fun δ => (dr δ).bind fun xs => if xs.length = n then den xs else .stuck
theorem sim_call {n : Nat} {den : List D → Res D} {W : WX} (hW : c.W = W) (h : Sim RA c tr dr) : Sim RF c (tCallS (spD n den) (WE W) tr) (dCall n den dr) := fun F H σ δ Q S P => by
  subst hW
  exact h.go S P fun F1 H1 xs ds s1 S1 hx P1 => by
    by_cases hn : ds.length = n
    · rw [if_pos hn] at P1
      exact ⟨by rw [hx.len]; exact hn, F1, ds, S1.fh, hx, P1.slots⟩
    · rw [if_neg hn] at P1; exact P1.elim
/-- .. over the written part K -/
abbrev spK (K : PySem.W.Frag) (mg : Str → Option Value) (n : Nat) (den : List D → Res D) : Sp := @spD ⟨K, mg⟩ n den
theorem spK_eq {inst : HasK} {K : PySem.W.Frag} {mg : Str → Option Value} {n : Nat} {den : List D → Res D} (h : K = inst.K) (h2 : mg = inst.mg) : spK K mg n den = @spD inst n den := by
  cases inst
  cases h
  cases h2
  rfl
/-- a def that keeps its promise, as a callee -/
structure Cal (P : Program) (w : World) (K : PySem.W.Frag) (mg : Str → Option Value) (base : Heap) (k : Nat) (x : Str) (n : Nat) (den : List D → Res D) : Prop where
  ex : ∃ (f : Addr) (fd : FuncData) (ps : List Str), FnOk P w K mg base (L2.CX P w) k f fd ps (spK K mg n den) ∧ mg x = some (.ref f) ∧ PySem.W.keepIn K (.ref f) = true ∧ Binds K fd ps []
theorem je_call {k j n : Nat} (W : WX) (hW : c.W = W) {x : Str} {den : List D → Res D} {p : Pos} (G : Cal c.X.prog c.X.w c.X.K c.X.mg c.X.base k x n den) (hr : Room j c.X.A) (hk : k ≤ j) (tk : Takes c.X c.W) (hg : Gl c.X x) (ha : JA c (e :: es) tr dr)
    (hdb : (x == ("__debug__" : Str)) = false := by decide) (he : starEach (e :: es) c.X.env = (false, eval e c.X.env) :: starEach es c.X.env := by rfl) (hpl : (backTo pos (starEach es c.X.env)).any (·.1) = false := by rfl) :
    JE c (.Call (.Name x p) (e :: es) [] pos) (tCallS (spD n den) (WE W) tr) (dCall n den dr) := by
  subst hW
  obtain ⟨f, fd, ps, h1, h2, h3, h4⟩ := G.ex
  rw [spK_eq c.hK c.hM] at h1
  exact ⟨pe_callS h1 (hr.mono hk) hg h2 h3 h4 (fun σ => passAt tk σ) ha.p hdb he hpl, sim_call rfl ha.s⟩
/-- what a body comes to -/
def runB (ds : DS) (m : Nat) : List D → Res D := fun xs => match ds (xs.map .val ++ List.replicate m .no) with
  | .next _ => .ok .none
  | .ret d => .ok d
  | .exc n p _ => .exc n p
  | _ => .stuck
theorem sr_start {F H : Hp} {N : List Str} {vs : List V} {xs : List D} (ex : Ex F H) (r : RpAll F vs xs) : Sr F H F H (L2.start N vs) (xs.map .val ++ List.replicate (N.length - vs.length) .no) where
  st := .refl ex
  len := by unfold L2.start; simp [r.len]
  val := fun i d h => by
    unfold L2.start
    by_cases hi : i < xs.length
    · rw [List.getElem?_append_left (by simpa using hi), List.getElem?_map] at h
      rw [List.getElem?_append_left (by simpa [r.len] using hi), List.getElem?_map]
      cases q : xs[i]? with
      | none => rw [q] at h; cases h
      | some z =>
        rw [q] at h
        cases h
        obtain ⟨v, h1, h2⟩ := r.getD q
        exact ⟨v, by rw [h1]; rfl, h2⟩
    · rw [List.getElem?_append_right (by simpa using hi), List.getElem?_replicate] at h
      split at h <;> cases h
  own := fun i d h => by
    by_cases hi : i < xs.length
    · rw [List.getElem?_append_left (by simpa using hi), List.getElem?_map] at h
      cases q : xs[i]? with
      | none => rw [q] at h; cases h
      | some z => rw [q] at h; cases h
    · rw [List.getElem?_append_right (by simpa using hi), List.getElem?_replicate] at h
      split at h <;> cases h
  apart := fun i j a d e h => by
    by_cases hi : i < xs.length
    · rw [List.getElem?_append_left (by simpa using hi), List.getElem?_map] at h
      cases q : xs[i]? with
      | none => rw [q] at h; cases h
      | some z => rw [q] at h; cases h
    · rw [List.getElem?_append_right (by simpa using hi), List.getElem?_replicate] at h
      split at h <;> cases h
end
section
variable {P : Program} {w : World} {K : PySem.W.Frag} {mg : Str → Option Value} {base : Heap}
/-- THE RULE for a def: its body as a derivation gives its denotation -/
theorem fn_den {x qual : Str} {st : Stmt} {f : Addr} {fd : FuncData} {N ps : List Str} {k m : Nat} {ds : DS} (F : Fun K x qual st f fd) (S : FnScope N ps (defScope st)) (hm : N.length = ps.length + m)
    (hbody : ∀ (cdv : Value) (A : Around) (outer : List Env) (s : Shared) (H : Hp) (E : XK) (F0 : Hp), Room k (A.deeper (PyProof.Rows.envOfC qual (defScope st) s.heap.objs.size f cdv)) →
      ∃ t, @JSs ⟨K, mg⟩ (@Cc.mk ⟨K, mg⟩ (cxOf (L2.CX P w) P w K mg base N qual (defScope st) f cdv A outer s H E) F0 H (fun cls d _ H' => E cls d H') rfl rfl) (defBody st) t ds) : FnOk P w K mg base (L2.CX P w) (k + 1) f fd ps (spK K mg ps.length (runB ds m)) := by
  letI hk : HasK := ⟨K, mg⟩
  refine F.okX S (fun vs H Q E h => h.1) fun cdv A outer s H vs Q E hr h => ?_
  obtain ⟨hl, F0, xs, ex, r, post⟩ := h
  obtain ⟨t, J⟩ := hbody cdv A outer s H E F0 hr
  refine ⟨t, J.p, J.s F0 H _ _ _ (sr_start (N := N) ex r) ?_⟩
  have em : N.length - vs.length = m := by omega
  rw [em]
  unfold runB at post
  cases q : ds (xs.map .val ++ List.replicate m .no) with
  | next δ => rw [q] at post; exact fun σ' F' H' e S' => post .non F' H' S'.st .non
  | ret d => rw [q] at post; exact fun v F' H' e s' r' => post v F' H' s' r'
  | exc n p δ =>
    rw [q] at post
    intro σ' F' H' e S'
    cases p with
    | none => exact post F' H' S'.st
    | some y => exact fun dd v h1 h2 h3 => post F' H' dd v S'.st h1 h2 h3
  | brk δ => rw [q] at post; exact post.elim
  | cont δ => rw [q] at post; exact post.elim
  | stuck => rw [q] at post; exact post.elim
end
/-! ### raise -/
section
variable {c : Cc} {pos : Pos}
structure ExcT (K : PySem.W.Frag) (mg : Str → Option Value) (x : Str) : Prop where
  ex : ∃ (C : Addr) (bmB : List Value) (B newId initId : String), ExcBaseFacts B newId initId bmB ∧ PySem.W.excIn K C bmB newId = true ∧ mg x = some (.ref C) ∧ PySem.W.keepIn K (.ref C) = true ∧ PySem.W.subIn K (.ref C) (.type "BaseException") = some true ∧ PySem.W.typeIn K (.ref C) = some (.type "type")
def dRaise (x : Str) : DS := fun δ => .exc x none δ
theorem js_raise {x m : Str} {j : Nat} {p p2 p3 : Pos} (T : ExcT c.X.K c.X.mg x) (hc : c.X.calm = true) (tk : Takes c.X c.W) (hg : Gl c.X x) (hdb : (x == ("__debug__" : Str)) = false := by decide) :
    JS c (.Raise (some (.Call (.Name x p) [.Constant (.str m) j p2] [] p3)) none pos) (fun _ σ H => c.W (.ref (clA HasK.mg x)) none σ H) (dRaise x) := by
  obtain ⟨C, bmB, B, n1, n2, h1, h2, h3, h4, h5, h6⟩ := T.ex
  have eC : clA HasK.mg x = C := by unfold clA; rw [← c.hM, h3]
  rw [eC]
  refine ⟨ps_raise hc tk (pmk_own h1 h2 h3 h4 (raises_own h5 h6) hg hdb), fun F H σ δ D S P => ?_⟩
  have P2 := P σ F H (.refl _) S
  unfold XPostS at P2
  rw [eC] at P2
  exact P2
end
end RD

end
section
namespace RD
open PySem L2
abbrev TSx := Addr → Value → Option Addr → TS
/-- the ends of a suite whose name at slot i is let go behind it -/
def Ends.letGo (D : Ends) (i : Nat) : Ends := ⟨fun σ H => D.nx (σ.set i none) H, D.rt, fun σ H => D.bk (σ.set i none) H, fun σ H => D.ct (σ.set i none) H⟩
/-- what clauses «except C as n» wish, one behind the other -/
def wAll (K : PySem.W.Frag) (Wout : WX) (D : Ends) (i : Nat) : List (Value × TSx) → WX
  | [] => Wout
  | p :: r => fun cls d σ H => ∃ b, PySem.W.exmOne K cls p.1 = some b ∧ (b = true → ∀ a, H a = none → p.2 a cls d (Ends.letGo D i) (σ.set i (some (.ref a))) H) ∧ (b = false → wAll K Wout D i r cls d σ H)
inductive HdAs (X : Cx) (n : Str) : List ExceptHandler → List (Value × TSx) → Prop
  | nil : HdAs X n [] []
  | cons {x : Str} {v : Value} {ts : TSx} {b0 : Stmt} {su : List Stmt} {np pp : Pos} {hs : List ExceptHandler} {l : List (Value × TSx)} (nm : Names X x v)
      (su_ok : ∀ (a : Addr) (oe : Obj) (cls : Value) (d : Option Addr) (pn : List (Addr × Obj)), Zc cls d oe → (∃ vs, oe.data = .fields vs) → PSs (X.suite a ((a, oe) :: pn)) (b0 :: su) (ts a cls d)) (tl : HdAs X n hs l) :
      HdAs X n (.ExceptHandler (some (.Name x np)) (some n) (b0 :: su) pp :: hs) ((v, ts) :: l)
section
variable {X : Cx} {n : Str} {i : Nat} {body : List Stmt} {h0 : ExceptHandler} {hs : List ExceptHandler} {l : List (Value × TSx)} {pos : Pos} {tb : WX → TS} {Wout : WX}
theorem ps_try_allAs (stk : X.stack = X.env :: X.outer) (fr : X.env.frame = some X.env.locals) (nd : X.N.Nodup) (at_i : X.N[i]? = some n) (loc : X.env.kindOf n = some .local) (tk : Takes X Wout)
    (bd : ∀ (W : WX) (pn : List (Addr × Obj)) (xe : Value → Shared → Prop), Takes (X.tr pn xe) W → PassesOwn (model X.prog X.w) X.A X.env xe → PSs (X.tr pn xe) body (tb W))
    (hd : HdAs X n (h0 :: hs) l) : PS X (.Try body (h0 :: hs) [] [] pos) (fun D σ H => tb (wAll X.K Wout D i l) D σ H) := by
  refine ⟨fun pins s σ H D I rd => ?_⟩
  have xok := I.ok
  have frames : X.A.frames = some (X.env :: X.outer) := stk ▸ xok.frames
  refine wpAny_Try_except (wpAny_mono ((bd (wAll X.K Wout D i l) (X.pn ++ pins) (fun e s1 => wpAny (model X.prog X.w) X.A (noteFrame e X.env) (fun _ s2 => wpAny (model X.prog X.w) X.A (setFlight e none) (fun _ s3 =>
    wpAny (model X.prog X.w) X.A (handleBy e X.env (h0 :: hs)) (SP X pins D) X.xe s3) X.xe s2) X.xe s1) (fun u sx caught => ?_) PassesOwn.looking).run [] s σ H D (I.toTry _) rd) (fun fl sx fin => ?_) fun e sx k => k)
  case refine_2 =>
    cases fl with
    | next => obtain ⟨σ1, H1, J, q⟩ := fin; exact wpAny_execs_nil ⟨σ1, H1, J.ofTry xok, q⟩
    | ret u => obtain ⟨v, σ1, H1, J, rv, q⟩ := fin; exact ⟨v, σ1, H1, J.ofTry xok, rv, q⟩
    | brk => obtain ⟨σ1, H1, J, q⟩ := fin; exact ⟨σ1, H1, J.ofTry xok, q⟩
    | cont => obtain ⟨σ1, H1, J, q⟩ := fin; exact ⟨σ1, H1, J.ofTry xok, q⟩
  obtain ⟨a, B, sI, pins1, σ1, H1, cls, d, ue, J0, nb, up, sky, na, os, ag, wish⟩ := caught
  subst ue
  have J : Inv X pins σ1 H1 sI := J0.ofTry xok
  refine Sky.land Zc.steady frames fr (show Sky B (X.env :: X.outer) a (Zc cls d) X.env.locals sx.heap from stk ▸ sky) fun h3 fl3 up3 => ?_
  have J3 : Inv X pins σ1 H1 { sx with heap := h3 } := J.landed nb fl3.1 (up.trans up3) os ag
  obtain ⟨o3, v3, g3, z3, f3⟩ := fl3.there
  have away : a ∉ frs (X.env :: X.outer) := fun hm => by
    obtain ⟨_, o', e', no⟩ := fl3.2.2.1.mem hm
    rw [g3] at e'
    cases e'
    exact no _ f3
  have nL : a ≠ X.env.locals := fun z => away (List.mem_filterMap.mpr ⟨X.env, List.mem_cons_self, by rw [fr, z]⟩)
  have nF : a ∉ X.fs := fun hm => by
    obtain ⟨en, he, q⟩ := List.mem_filterMap.mp hm
    exact away (List.mem_filterMap.mpr ⟨en, List.mem_cons_of_mem _ he, q⟩)
  have S3 := J3.suite g3 f3 na nL nF
  have ty : PySem.W.Looks (model X.prog X.w) h3 (typeOf (.ref a)) cls := fun A Q E s k q => wpAny_typeOf_ref (k _ _ g3) (by rw [z3.1]; exact q)
  suffices go : ∀ {hs' : List ExceptHandler} {l' : List (Value × TSx)}, HdAs X n hs' l' → wAll X.K Wout D i l' cls d σ1 H1 → wpAny (model X.prog X.w) X.A (handleBy (.ref a) X.env hs') (SP X pins D) X.xe { sx with heap := h3 } from go hd wish
  intro hs' l' hk
  induction hk with
  | nil =>
    intro out
    refine wpAny_handleBy_nil ?_
    obtain ⟨_, _, _, oe, vs, T, _, _, he, _, hf, h1, _⟩ := id fl3
    have last : wpAny (model X.prog X.w) X.A (setFlight (.ref a) X.env.frame) (fun _ s4 => wpAny (model X.prog X.w) X.A (throw (.ref a) : Sem Flow) (SP X pins D) X.xe s4) X.xe { sx with heap := h3 } := by
      rw [fr]
      refine HandSPX.setFlight_upZ fl3 fun h4 held up4 => wpAny_throw (tk _ _ ⟨a, B, sI, pins, σ1, H1, cls, d, rfl, J, nb, (up.trans up3).trans up4, .inr (.inr ?_), na, os, ag, out⟩)
      rw [stk]
      exact held
    unfold PySem.passOn
    refine wpAny_bind (wpAny_field he hf h1 ?_)
    rw [if_neg (by simp)]
    first
      | exact wpAny_bind (wpAny_pure (wpAny_bind last))
      | exact wpAny_bind last
  | @cons x v ts b0 su np pp hs2 l2 nm su_ok tl ih =>
    intro chain
    obtain ⟨b, hb, yes, no⟩ := chain
    refine wpAny_handleBy_cons (codeAny_handlers_test ?_) (fun z => nomatch z)
    have named : ∀ {Q : Value → Shared → Prop} {E : Value → Shared → Prop}, Q v { sx with heap := h3 } → wpAny (model X.prog X.w) (X.A.mark (some (.ref a))) (eval (.Name x np) X.env) Q E { sx with heap := h3 } := fun {Q E} q => by
      rcases nm with ⟨g, dbg, m | ⟨m, bv, nn⟩⟩
      · exact ld_glob (X := X.suite a ((a, o3) :: (X.pn ++ pins))) S3 g m q dbg
      · exact ld_blt (X := X.suite a ((a, o3) :: (X.pn ++ pins))) S3 g m bv q nn dbg
    refine named ((PySem.W.exm_one (M := model X.prog X.w) J3.kIn ty hb).here ?_)
    cases b with
    | false => exact ih (no rfl)
    | true =>
      refine codeAny_handlers_suite_as (HandSPX.lands_againZ fl3 fun h4 fl4 up4 => ?_)
      have J4 : Inv X pins σ1 H1 { sx with heap := h4 } := J.landed nb fl4.1 ((up.trans up3).trans up4) os ag
      obtain ⟨o4, v4, g4, z4, f4⟩ := fl4.there
      refine store_ok (X := X.suite a ((a, o4) :: (X.pn ++ pins))) (v := .ref a) (J4.suite g4 f4 na nL nF) nd at_i (.inl loc) rfl (fun s5 S5 => ?_) (.inr loc)
      refine wpAny_mono ((su_ok a o4 cls d (X.pn ++ pins) z4 ⟨_, f4⟩).run [] s5 _ H1 _ S5 (yes rfl a na)) (fun fl s6 fin => ?_) fun _ _ z => z.elim
      have gone : ∀ {σ6 : L2.St} {H6 : Hp} {Q : Shared → Prop}, Inv (X.suite a ((a, o4) :: (X.pn ++ pins))) [] σ6 H6 s6 → (∀ s7, Inv X pins (σ6.set i none) H6 s7 → Q s7) →
          wpAny (model X.prog X.w) X.A (do bindName X.env n .none; unbindBehindTheSuite X.env n pp) (fun _ s7 => Q s7) X.xe s6 := fun S6 k => gone_ok (S6.unsuite xok) nd at_i loc k
      cases fl with
      | next => obtain ⟨σ6, H6, S6, q6⟩ := fin; exact gone S6 fun s7 J7 => ⟨_, _, J7, q6⟩
      | ret u => obtain ⟨w6, σ6, H6, S6, r6, q6⟩ := fin; exact gone S6 fun s7 J7 => ⟨_, _, _, J7, r6, q6⟩
      | brk => obtain ⟨σ6, H6, S6, q6⟩ := fin; exact gone S6 fun s7 J7 => ⟨_, _, J7, q6⟩
      | cont => obtain ⟨σ6, H6, S6, q6⟩ := fin; exact gone S6 fun s7 J7 => ⟨_, _, J7, q6⟩
end
variable [HasK]
/-! ### except C as e: return s if isinstance(e, A) and not isinstance(e, B) else t -/
structure Hd where
  c : Str
  a : Str
  b : Str
  s1 : Str
  s2 : Str
def subB (n c : Str) : Bool := n == c || c == "NetError"
structure ExK (K : PySem.W.Frag) (mg : Str → Option Value) (l : List Str) : Prop where
  cls : ∀ n ∈ l, ExcC K (clA mg n) ∧ mg n = some (.ref (clA mg n))
  exm : ∀ n ∈ l, ∀ c ∈ l, PySem.W.exmOne K (.ref (clA mg n)) (.ref (clA mg c)) = some (subB n c)
  kit : ∀ n ∈ l, ∀ c ∈ l, PySem.W.kitOne K (.ref (clA mg n)) (.ref (clA mg c)) = some (subB n c)
def tIsE (K : PySem.W.Frag) (Dc a : Addr) (i : Nat) (C : Addr) : TE := tCB (rIsE K Dc a) (tCons (tVar i) (tCons (tC (.ref C)) tNil))
section
variable {X : Cx} {pos p p1 p2 : Pos} {n x : Str} {i : Nat} {C Dc a : Addr} {oe : Obj} {pn : List (Addr × Obj)}
theorem pe_isE (hg : Gl X "isinstance") (hm : X.mg "isinstance" = none) (hN : X.N[i]? = some n) (hv : Vis X.env.scope n) (hd : (n == ("__debug__" : Str)) = false) (hcd : (n == ("__classdict__" : Str)) = false)
    (gx : Gl X x) (mx : X.mg x = some (.ref C)) (dx : (x == ("__debug__" : Str)) = false) (E : ExcC X.K Dc) (hz : Zc (.ref Dc) none oe) (hf : ∃ vs, oe.data = .fields vs) :
    PE (X.suite a ((a, oe) :: pn)) (.Call (.Name "isinstance" p) [.Name n p1, .Name x p2] [] pos) (tIsE X.K Dc a i C) :=
  pe_callB (X := X.suite a ((a, oe) :: pn)) (id := "isinstance") (call_isE E hz hf) hg hm (by decide +kernel)
    (pa_cons (pe_var (X := X.suite a ((a, oe) :: pn)) hN hv hd hcd) (pa_cons (pe_glob (X := X.suite a ((a, oe) :: pn)) (v := .ref C) gx mx rfl dx) pa_nil (by rfl)) (by rfl)) (by decide) (by decide) (by rfl) (by rfl)
/-- the suite's reading -/
def tsR (K : PySem.W.Frag) (i : Nat) (A B : Addr) (s1 s2 : Str) : TSx := fun a cls d D σ H => ∃ Dc, cls = .ref Dc ∧ d = none ∧ ExcC K Dc ∧
  tRet (tIf (tAnd (L2.tB (tIsE K Dc a i A)) (tNot (L2.tB (tIsE K Dc a i B)))) (tC (.str s1)) (tC (.str s2))) D σ H
theorem suite_ret {A B : Addr} {s1 s2 xa xb : Str} {j1 j2 : Nat} {q1 q2 q3 q4 q5 q6 u1 u2 u3 u4 w1 w2 w3 w4 : Pos} (hg : Gl X "isinstance") (hm : X.mg "isinstance" = none) (hN : X.N[i]? = some n) (hv : Vis X.env.scope n) (hd : (n == ("__debug__" : Str)) = false) (hcd : (n == ("__classdict__" : Str)) = false)
    (ga : Gl X xa) (ma : X.mg xa = some (.ref A)) (da : (xa == ("__debug__" : Str)) = false) (gb : Gl X xb) (mb : X.mg xb = some (.ref B)) (db : (xb == ("__debug__" : Str)) = false)
    (a : Addr) (oe : Obj) (cls : Value) (d : Option Addr) (pn : List (Addr × Obj)) (hz : Zc cls d oe) (hf : ∃ vs, oe.data = .fields vs) :
    PSs (X.suite a ((a, oe) :: pn)) [.Return (some (.IfExp (.BoolOp .And [.Call (.Name "isinstance" u1) [.Name n u2, .Name xa u3] [] u4, .UnaryOp .Not (.Call (.Name "isinstance" w1) [.Name n w2, .Name xb w3] [] w4) q1] q2) (.Constant (.str s1) j1 q3) (.Constant (.str s2) j2 q4) q5)) q6] (tsR X.K i A B s1 s2 a cls d) := by
  refine ⟨fun pins s σ H D I h => ?_⟩
  obtain ⟨Dc, rfl, rfl, E, h⟩ := h
  refine (pss_one (ps_ret (pe_ifExp (PW.pt (pw_and (pt_val (pe_isE hg hm hN hv hd hcd ga ma da E hz hf) (fun _ => rfl)) (pw_and1 (pt_not (pt_val (pe_isE hg hm hN hv hd hcd gb mb db E hz hf) (fun _ => rfl)))))) pe_str pe_str))).run pins s σ H D I h
end
def handle : List Hd → Str → Option Str
  | [], _ => none
  | h :: r, n => if subB n h.c then some (if subB n h.a && !subB n h.b then h.s1 else h.s2) else handle r n
def dTry (i : Nat) (ds : DS) (known : List Str) (hs : List Hd) : DS := fun δ => match ds δ with
  | .exc n none δ' => if n ∈ known ∧ i < δ'.length then (match handle hs n with
    | some s => .ret (.str s)
    | none => .exc n none δ') else .stuck
  | .exc _ (some _) _ => .stuck
  | o => o
def hdL (i : Nat) (hs : List Hd) : List (Value × TSx) := hs.map fun h => (.ref (clA HasK.mg h.c), tsR HasK.K i (clA HasK.mg h.a) (clA HasK.mg h.b) h.s1 h.s2)
def JH (c : Cc) (n : Str) (i : Nat) (hs : List ExceptHandler) (l : List Hd) : Prop := HdAs c.X n hs (hdL i l)
section
variable {c : Cc} {n : Str} {i : Nat} {hs : List ExceptHandler} {l : List Hd} {known : List Str}
theorem jh_nil : JH c n i [] [] := .nil
theorem jh_cons {x xa xb s1 s2 : Str} {np pp : Pos} {j1 j2 : Nat} {q1 q2 q3 q4 q5 q6 u1 u2 u3 u4 w1 w2 w3 w4 : Pos} (T : ExK c.X.K c.X.mg known) (hm : c.X.mg "isinstance" = none) (hx : x ∈ known) (ha : xa ∈ known) (hb : xb ∈ known)
    (tl : JH c n i hs l) (hg : Gl c.X "isinstance" := by rfl) (hN : c.X.N[i]? = some n := by rfl) (hv : Vis c.X.env.scope n := by exact Or.inl rfl) (hd : (n == ("__debug__" : Str)) = false := by decide) (hcd : (n == ("__classdict__" : Str)) = false := by decide)
    (gx : Gl c.X x := by rfl) (ga : Gl c.X xa := by rfl) (gb : Gl c.X xb := by rfl) (dx : (x == ("__debug__" : Str)) = false := by decide) (da : (xa == ("__debug__" : Str)) = false := by decide) (db : (xb == ("__debug__" : Str)) = false := by decide) :
    JH c n i (.ExceptHandler (some (.Name x np)) (some n) [.Return (some (.IfExp (.BoolOp .And [.Call (.Name "isinstance" u1) [.Name n u2, .Name xa u3] [] u4, .UnaryOp .Not (.Call (.Name "isinstance" w1) [.Name n w2, .Name xb w3] [] w4) q1] q2) (.Constant (.str s1) j1 q3) (.Constant (.str s2) j2 q4) q5)) q6] pp :: hs) (⟨x, xa, xb, s1, s2⟩ :: l) := by
  have e1 : clA HasK.mg = clA c.X.mg := by rw [c.hM]
  unfold JH hdL
  rw [List.map_cons, e1, ← c.hK]
  refine .cons ⟨gx, dx, .inl (T.cls x hx).2⟩ (fun a oe cls d pn hz hf => suite_ret hg hm hN hv hd hcd ga (T.cls xa ha).2 da gb (T.cls xb hb).2 db a oe cls d pn hz hf) ?_
  have tl2 : HdAs c.X n hs (hdL i l) := tl
  unfold hdL at tl2
  rw [e1, ← c.hK] at tl2
  exact tl2
variable {body : List Stmt} {h0 : ExceptHandler} {pos : Pos} {ds : DS}
/-- the reading by data alone -/
def tDat (F0 H0 : Hp) (W : WX) (ds : DS) (P : Hp → Ends → Out → Prop) : TS := fun D σ H => ∃ F δ, Sr F0 H0 F H σ δ ∧ P F D (ds δ)
theorem JSs.dat {sts : List Stmt} {t : TS} (J : JSs c sts t ds) : PSs c.X sts (tDat c.F0 c.H0 c.W ds (PostS c)) := ⟨fun pins s σ H D I h => by
  obtain ⟨F, δ, S, P⟩ := h
  exact J.p.run pins s σ H D I (J.s F H σ δ D S P)⟩
theorem try_reads (T : ExK c.X.K c.X.mg known) (hin : ∀ h ∈ l, h.c ∈ known ∧ h.a ∈ known ∧ h.b ∈ known) {D : Ends} {σ : St} {H : Hp} (h : tDat c.F0 c.H0 c.W (dTry i ds known l) (PostS c) D σ H) :
    tDat c.F0 c.H0 (wAll HasK.K c.W D i (hdL i l)) ds (PostS ⟨c.X, c.F0, c.H0, wAll HasK.K c.W D i (hdL i l), c.hK, c.hM⟩) D σ H := by
  obtain ⟨F, δ, S, P⟩ := h
  refine ⟨F, δ, S, ?_⟩
  have e1 : clA HasK.mg = clA c.X.mg := by rw [c.hM]
  unfold dTry at P
  cases q : ds δ with
  | next δ' => rw [q] at P; exact P
  | ret r => rw [q] at P; exact P
  | brk δ' => rw [q] at P; exact P
  | cont δ' => rw [q] at P; exact P
  | stuck => rw [q] at P; exact P
  | exc m pl δ' =>
    rw [q] at P
    cases pl with
    | some y => exact P.elim
    | none =>
      have P2 : PostS c F D (if m ∈ known ∧ i < δ'.length then (match handle l m with | some s => .ret (.str s) | none => .exc m none δ') else .stuck) := P
      by_cases hm' : m ∈ known ∧ i < δ'.length
      · rw [if_pos hm'] at P2
        obtain ⟨hm, hil⟩ := hm'
        intro σ' F' H' e' S'
        show wAll HasK.K c.W D i (hdL i l) (.ref (clA HasK.mg m)) none σ' H'
        have gen : ∀ l2 : List Hd, (∀ h ∈ l2, h.c ∈ known ∧ h.a ∈ known ∧ h.b ∈ known) → PostS c F D (match handle l2 m with | some s => .ret (.str s) | none => .exc m none δ') → wAll HasK.K c.W D i (hdL i l2) (.ref (clA HasK.mg m)) none σ' H' := by
          intro l2
          induction l2 with
          | nil =>
            intro _ Q
            exact Q σ' F' H' e' S'
          | cons h r ih =>
            intro hi2 Q
            obtain ⟨k1, k2, k3⟩ := hi2 h List.mem_cons_self
            have x1 := T.exm m hm h.c k1
            have x2 := T.kit m hm h.a k2
            have x3 := T.kit m hm h.b k3
            have x4 := (T.cls m hm).1
            rw [← e1, c.hK] at x1 x2 x3
            rw [← e1, c.hK] at x4
            refine ⟨subB m h.c, x1, fun hb2 a na => ?_, fun hb2 => ih (fun z hz => hi2 z (List.mem_cons_of_mem _ hz)) ?_⟩
            · have Q2 : PostS c F D (.ret (.str (if subB m h.a && !subB m h.b then h.s1 else h.s2))) := by
                have e2 : handle (h :: r) m = some (if subB m h.a && !subB m h.b then h.s1 else h.s2) := if_pos hb2
                rw [e2] at Q
                exact Q
              refine ⟨_, rfl, rfl, x4, ?_⟩
              have hs : (σ'.set i (some (.ref a)))[i]? = some (some (V.ref a)) := set_at (by rw [S'.len]; exact hil)
              have fin : ∀ s, s = (if subB m h.a && !subB m h.b then h.s1 else h.s2) → D.rt (.str s) H' := fun s es => by
                subst es
                exact Q2 _ F' H' e' S'.st (.str _)
              refine ⟨_, hs, .ref (clA HasK.mg h.a), .ref (clA HasK.mg h.a), subB m h.a, rfl, fun u hu => hu, x2, subB m h.a, rfl, ?_⟩
              cases qa : subB m h.a with
              | false => exact iteF (iteF (fin _ (by rw [qa]; rfl)))
              | true =>
                refine iteT ⟨_, hs, .ref (clA HasK.mg h.b), .ref (clA HasK.mg h.b), subB m h.b, rfl, fun u hu => hu, x3, subB m h.b, rfl, ?_⟩
                cases qb : subB m h.b with
                | false => exact iteT (fin _ (by rw [qa, qb]; rfl))
                | true => exact iteF (fin _ (by rw [qa, qb]; rfl))
            · have e2 : handle (h :: r) m = handle r m := by
                rw [handle, hb2]
                exact if_neg Bool.false_ne_true
              rw [e2] at Q
              exact Q
        exact gen l hin P2
      · rw [if_neg hm'] at P2
        exact P2.elim
theorem js_try (T : ExK c.X.K c.X.mg known) (hin : ∀ h ∈ l, h.c ∈ known ∧ h.a ∈ known ∧ h.b ∈ known) (tk : Takes c.X c.W) (nd : c.X.N.Nodup)
    (hb : ∀ (W : WX) (pn : List (Addr × Obj)) (xe : Value → Shared → Prop), Takes (c.X.tr pn xe) W → PassesOwn (model c.X.prog c.X.w) c.X.A c.X.env xe → ∃ t, JSs ⟨c.X.tr pn xe, c.F0, c.H0, W, c.hK, c.hM⟩ body t ds)
    (hh : JH c n i (h0 :: hs) l) (stk : c.X.stack = c.X.env :: c.X.outer := by rfl) (fr : c.X.env.frame = some c.X.env.locals := by rfl) (hi : c.X.N[i]? = some n := by rfl) (hl : c.X.env.kindOf n = some .local := by rfl) :
    JS c (.Try body (h0 :: hs) [] [] pos) (tDat c.F0 c.H0 c.W (dTry i ds known l) (PostS c)) (dTry i ds known l) := by
  refine ⟨⟨fun pins s σ H D I h => ?_⟩, fun F H σ δ D S P => ⟨F, δ, S, P⟩⟩
  have R := try_reads T hin h
  have hd : HdAs c.X n (h0 :: hs) (hdL i l) := hh
  have K := ps_try_allAs (pos := pos) (tb := fun W => tDat c.F0 c.H0 W ds (PostS ⟨c.X, c.F0, c.H0, W, c.hK, c.hM⟩)) stk fr nd hi hl tk (fun W pn xe t1 t2 => by
    obtain ⟨t, J⟩ := hb W pn xe t1 t2
    exact J.dat) hd
  refine K.run pins s σ H D I ?_
  rw [c.hK]
  exact R
end
end RD

end
section
namespace RD
open PySem L2
variable [HasK]
def flatD : D → Bool
  | .none => true
  | .bool _ => true
  | .int _ => true
  | .str _ => true
  | _ => false
theorem flat_v {F : Hp} {v : V} {d : D} (h : Rp F v d) (f : flatD d = true) : flatV v = true := by
  cases h <;> first | rfl | cases f
theorem flat_eq {F : Hp} {v w : V} {d e : D} (h : Rp F v d) (h' : Rp F w e) (f : flatD d = true) (f' : flatD e = true) : eqV v w = PyData.eqv d e := by
  cases h <;> first | cases f; done | (cases h' <;> first | cases f'; done | (simp only [eqV, PyData.eqv]))
theorem flat_all {F : Hp} : ∀ {vs : List V} {ds : List D}, RpAll F vs ds → ds.all flatD = true → vs.all flatV = true
  | _, _, .nil, _ => rfl
  | _, _, .cons h r, f => by
    simp only [List.all_cons, Bool.and_eq_true] at f ⊢
    exact ⟨flat_v h f.1, flat_all r f.2⟩
theorem flat_in {F : Hp} {x : V} {d : D} (hx : Rp F x d) (fx : flatD d = true) : ∀ {vs : List V} {ds : List D}, RpAll F vs ds → ds.all flatD = true → inV x vs = ds.any fun z => PyData.eqv z d
  | _, _, .nil, _ => rfl
  | _, _, .cons h r, f => by
    simp only [List.all_cons, Bool.and_eq_true] at f
    have ih := flat_in hx fx r f.2
    unfold inV at ih ⊢
    rw [List.any_cons, List.any_cons, ih, flat_eq h hx f.1 fx]
def inD (neg : Bool) : D → D → Option D := fun x y => match y with
  | .list ys => if (flatD x = true ∧ ys.all flatD = true) ∨ (SeqAt.shaped x = true ∧ SeqAt.shaped (.list ys) = true) then some (.bool (if neg then !ys.any fun z => PyData.eqv z x else ys.any fun z => PyData.eqv z x)) else none
  | .tuple ys => if flatD x = true ∧ ys.all flatD = true then some (.bool (if neg then !ys.any fun z => PyData.eqv z x else ys.any fun z => PyData.eqv z x)) else none
  | _ => none
def rInA (K : PySem.W.Frag) : R2 := fun x y H Q => rIn K false x y H Q ∨ rInD K x y H Q
def rNotInA (K : PySem.W.Frag) : R2 := fun x y H Q => rIn K true x y H Q ∨ rNotInD K x y H Q
theorem Bw.rpF {F H : Hp} {v : V} {d : D} (h : Bw F H v d) (f : flatD d = true) : Rp F v d := by
  rcases h with h | ⟨a, _, h⟩
  · exact h
  · cases d <;> first | exact h.elim | cases f
theorem s_in {K : PySem.W.Frag} : OpS (rInA K) (inD false) := by
  intro F H x y d e z Q ex bx by_ hz h
  unfold inD at hz
  split at hz
  · obtain ⟨hc, rfl⟩ := if_some hz
    rcases hc with ⟨f1, f2⟩ | ⟨f1, f2⟩
    · obtain ⟨a, us, rfl, h1, h2⟩ := by_.lst ex
      have hx := bx.rpF f1
      refine .inl ⟨a, us, rfl, .inl (sqL h1), flat_v hx f1, flat_all h2 f2, ?_⟩
      rw [flat_in hx f1 h2 f2]
      exact h _ F H (.refl ex) (.bl _)
    · exact .inr ⟨d, _, bx.dp ex (shp f1), by_.dp ex (shp f2), f1, f2, h _ F H (.refl ex) (.bl _)⟩
  · obtain ⟨⟨f1, f2⟩, rfl⟩ := if_some hz
    obtain ⟨a, us, rfl, h1, h2⟩ := by_.tup ex
    have hx := bx.rpF f1
    refine .inl ⟨a, us, rfl, .inr (sqT h1), flat_v hx f1, flat_all h2 f2, ?_⟩
    rw [flat_in hx f1 h2 f2]
    exact h _ F H (.refl ex) (.bl _)
  · cases hz
theorem s_notin {K : PySem.W.Frag} : OpS (rNotInA K) (inD true) := by
  intro F H x y d e z Q ex bx by_ hz h
  unfold inD at hz
  split at hz
  · obtain ⟨hc, rfl⟩ := if_some hz
    rcases hc with ⟨f1, f2⟩ | ⟨f1, f2⟩
    · obtain ⟨a, us, rfl, h1, h2⟩ := by_.lst ex
      have hx := bx.rpF f1
      refine .inl ⟨a, us, rfl, .inl (sqL h1), flat_v hx f1, flat_all h2 f2, ?_⟩
      rw [flat_in hx f1 h2 f2]
      exact h _ F H (.refl ex) (.bl _)
    · exact .inr ⟨d, _, bx.dp ex (shp f1), by_.dp ex (shp f2), f1, f2, h _ F H (.refl ex) (.bl _)⟩
  · obtain ⟨⟨f1, f2⟩, rfl⟩ := if_some hz
    obtain ⟨a, us, rfl, h1, h2⟩ := by_.tup ex
    have hx := bx.rpF f1
    refine .inl ⟨a, us, rfl, .inr (sqT h1), flat_v hx f1, flat_all h2 f2, ?_⟩
    rw [flat_in hx f1 h2 f2]
    exact h _ F H (.refl ex) (.bl _)
  · cases hz
theorem Room.u65 {k : Nat} {A : Around} (r : Room k A) : A.units + 65 < cLine := by have := r.un; omega
section
variable {c : Cc} {a b : Expr} {da db : DE} {pos : Pos} {ta tb : TE} {k : Nat}
theorem je_in (hr : Room k c.X.A) (ha : JB c a ta da) (hb : JB c b tb db) (hm : behindInMarks .In b = false := by rfl) : JE c (.Compare a [.In] [b] pos) (tOp (rInA HasK.K) ta tb) (dOp (inD false) da db) := by
  rw [← c.hK]
  exact je_cmpR (OpR.or op_in_seq (op_inD (Room.u65 hr))) s_in ha hb hm
theorem je_notin (hr : Room k c.X.A) (ha : JB c a ta da) (hb : JB c b tb db) (hm : behindInMarks .NotIn b = false := by rfl) : JE c (.Compare a [.NotIn] [b] pos) (tOp (rNotInA HasK.K) ta tb) (dOp (inD true) da db) := by
  rw [← c.hK]
  exact je_cmpR (OpR.or op_notIn_seq (op_notInD (Room.u65 hr))) s_notin ha hb hm
theorem jt_in (hr : Room k c.X.A) (ha : JB c a ta da) (hb : JB c b tb db) (hm : behindInMarks .In b = false := by rfl) : JT c (.Compare a [.In] [b] pos) (tTest (tOp (rInA HasK.K) ta tb)) (dTest (dOp (inD false) da db)) := by
  rw [← c.hK]
  exact jt_cmpR (OpR.or op_in_seq (op_inD (Room.u65 hr))) s_in ha hb hm
theorem jt_notin (hr : Room k c.X.A) (ha : JB c a ta da) (hb : JB c b tb db) (hm : behindInMarks .NotIn b = false := by rfl) : JT c (.Compare a [.NotIn] [b] pos) (tTest (tOp (rNotInA HasK.K) ta tb)) (dTest (dOp (inD true) da db)) := by
  rw [← c.hK]
  exact jt_cmpR (OpR.or op_notIn_seq (op_notInD (Room.u65 hr))) s_notin ha hb hm
end
end RD

end
section
namespace RD
open PySem L2
/-! ### enumerate(tuple) -/
theorem meets_enum1 {u : Value} {ob : Obj} {G : Heap → Prop} (B : Begins u ob G) :
    Meets (Builtin.«enumerate.__new__» ⟨[.type "enumerate", u], []⟩) (fun _ R s => G s.heap ∧
      R (.ok (.ret (.ref (s.heap.push ob).objs.size))) { s with heap := (s.heap.push ob).push { cls := .type "enumerate", data := .fields #[.none, .bool false, .ref s.heap.objs.size, rawInt 0, .none, .none] } }) :=
  .of_wp fun prog w A R s0 h0 => by
    obtain ⟨hp, g, d, tk, os⟩ := s0
    obtain ⟨g1, h0⟩ := h0
    have hsub := sub_enumerate
    have q1 : ∀ {A' : Around} {E : Value → Shared → Prop} {Q : Value → Shared → Prop}, Q (.ref hp.objs.size) ⟨hp.push ob, g, d, tk, os⟩ → wpAny (model prog w) A' (pyIter u) Q E ⟨hp, g, d, tk, os⟩ := fun k => B.iter prog w _ _ ⟨hp, g, d, tk, os⟩ _ g1 k
    wp_walk using q1
    refine wpAny_stack_any fun st => wpAny_pure ?_
    split
    · rename_i z _ _ _ _ _
      cases (z == Value.type "enumerate") <;> (wp_walk using q1; exact ⟨_, rfl, h0⟩)
    · wp_walk using q1; exact ⟨_, rfl, h0⟩
section
variable {prog : Program} {w : World} {A : Around} {E : Value → Shared → Prop} {s : Shared}
theorem call_enum1 {u : Value} {ob : Obj} {G : Heap → Prop} {Q : Value → Shared → Prop} (B : Begins u ob G) (g1 : G s.heap)
    (k : ∀ h1, IsEnum h1 (s.heap.objs.size + 1) s.heap.objs.size 0 .none → h1.get? s.heap.objs.size = some ob → h1.objs.size = s.heap.objs.size + 2 → (∀ b o, s.heap.get? b = some o → h1.get? b = some o) → Q (.ref (s.heap.objs.size + 1)) { s with heap := h1 }) :
    wpAny (model prog w) A (call (.type "enumerate") [u]) Q E s := by
  refine callType_new F.called_enumerate (by decide) (F.typeCall_enumerate_1 _) (F.newCall_enumerate_1 _) (fun x => F.args_object_init_2 x _) F.entry_enumerate_new (meets_enum1 B) ⟨g1, ?_⟩
  have z1 : (s.heap.push ob).objs.size = s.heap.objs.size + 1 := by rw [Heap.size_push]
  show _ ∧ _
  rw [z1]
  have he : IsEnum ((s.heap.push ob).push { cls := .type "enumerate", data := .fields #[.none, .bool false, .ref s.heap.objs.size, rawInt 0, .none, .none] }) (s.heap.objs.size + 1) s.heap.objs.size 0 .none := by
    have q := Heap.get?_push_size (s.heap.push ob) (o := { cls := .type "enumerate", data := .fields #[.none, .bool false, .ref s.heap.objs.size, rawInt 0, .none, .none] }) rfl
    rw [z1] at q
    exact q
  exact ⟨⟨_, he, rfl⟩, k _ he (Heap.get?_push_of_some _ (Heap.get?_push_size _ B.free)) (by rw [Heap.size_push, z1]) fun b o e => Heap.get?_push_of_some _ (Heap.get?_push_of_some _ e)⟩
end
/-- the tuple at a, each item in a new pair with its place -/
def ItET (K : PySem.W.Frag) (a : Addr) : It :=
  ⟨fun i H => ∃ (xs : List V) (x : V), SqT K H a xs ∧ xs[i]? = some x, fun i H v H' => ∃ T x, v = .ref T ∧ H T = none ∧ H' = upd H T (.tup [.int (i : Nat), x]) ∧ ∀ xs, SqT K H a xs → xs[i]? = some x, fun i H => ∃ xs : List V, SqT K H a xs ∧ xs.length ≤ i⟩
theorem turn_enumT {P : Program} {w : World} {K : PySem.W.Frag} {elts : List Expr} {kk : Nat} {tpos : Pos} (a e it : Addr) :
    Turn P w K (.Tuple elts kk tpos) (ItET K a) [e, it] e (fun i h => (∃ old, IsEnum h e it ((i : Nat) : Int) old) ∧ h.IsTupleIter it a i ∧ e ≠ it) where
  mem := by simp
  obj := fun i h st b hb => by
    obtain ⟨⟨old, he⟩, ⟨o, ho, hc, hd⟩, _⟩ := st
    rcases (by simpa using hb : b = e ∨ b = it) with z | z
    · subst z; exact ⟨_, he, fun v q => nomatch q⟩
    · subst z; exact ⟨o, ho, fun v q => by rw [hd] at q; cases q⟩
  keep := fun i h h' st k => by
    obtain ⟨⟨old, he⟩, hi, hne⟩ := st
    exact ⟨⟨old, k e (by simp) _ he⟩, hi.at fun o q => k it (by simp) o q, hne⟩
  item := by
    intro X hP hw hK hc i pins s σ H E I hf st hg
    subst hP hw hK
    obtain ⟨⟨old, he⟩, hit, hne⟩ := st
    obtain ⟨xs, x, hq, hx⟩ := hg
    obtain ⟨its, rv, p, hz⟩ := I.tuple hq
    obtain ⟨u, hu, ru⟩ := rv.get hx
    have hel := Heap.lt_size he
    have hil : it < s.heap.objs.size := let ⟨_, q, _⟩ := hit; Heap.lt_size q
    have hai : a ≠ it := fun z => by
      subst z
      obtain ⟨o1, q1, c1, _⟩ := hit
      obtain ⟨o2, q2, c2, _⟩ := id p
      rw [q1] at q2; cases q2
      rw [c1] at c2
      exact absurd c2 (by decide)
    have hae : e ∉ [it, a] := fun z => by
      rcases (by simpa using z : e = it ∨ e = a) with z | z
      · exact hne z
      · subst z
        obtain ⟨o2, q2, c2, _⟩ := id p
        have q1 : s.heap.get? e = some _ := he
        rw [q1] at q2; cases q2
        exact absurd (show Value.type "enumerate" = Value.type "tuple" from c2) (by decide)
    have hlt : i < its.toArray.size := by
      have := (List.getElem?_eq_some_iff.mp hu).1
      simpa using this
    refine wpAny_pyNext_enum_itemD (Draws.tuple (A := X.A.in1) (show X.A.in1.handled = none from I.ok.hd hc) it a hai its.toArray) he ⟨hit, p⟩ hlt hne hae fun y h1 tk py ho hst hT hsz hk => ?_
    obtain ⟨hit', _⟩ := hst
    obtain rfl : y = u := by
      have e1 : its.toArray[i]? = some u := by simpa using hu
      rw [e1] at py
      exact (Option.some.inj py).symm
    refine ⟨_, rfl, wpAny_letOwnedTupleGo_enum (s := { s with heap := h1, toks := tk + 1 }) ho fun h2 he' sb => ?_⟩
    have hT2 := (sb.2 _ (Nat.ne_of_gt hel)).trans hT
    have new : ObjOk X.prog X.w (upd H s.heap.objs.size (.tup [.int (i : Nat), x])) h2 s.heap.objs.size (.tup [.int (i : Nat), x]) := ⟨by show 2 ≤ sizeLine; decide, [.int i tk, y], .cons ⟨_, rfl⟩ (.cons ru .nil), ⟨_, hT2, rfl, _, rfl⟩⟩
    have I1 : Inv X pins σ (upd H s.heap.objs.size (.tup [.int (i : Nat), x])) { s with heap := h2, toks := tk + 1 } :=
      I.turnedNew (ch := [e, it]) (fun b ob hb q => (sb.2 b (fun z => hb (by simp [z]))).trans (hk b ob (fun z => hb (by simp [z])) (fun z => hb (by simp [z])) q)) hf (Nat.le_refl _) new
    refine ⟨.ref s.heap.objs.size, _, I1, rfl, ⟨_, x, rfl, I.hok.fresh (Nat.le_refl _), rfl, fun ys hy => by rw [I.tuple_inj hy hq]; exact hx⟩, ⟨⟨y, ?_⟩, hit'.at fun o q => (sb.2 it (Ne.symm hne)).trans q, hne⟩, fun b hb => ?_⟩
    · rw [show ((i + 1 : Nat) : Int) = (i : Int) + 1 by omega]
      exact he'
    · have hb' : b < s.heap.objs.size := by
        rcases (by simpa using hb : b = e ∨ b = it) with z | z
        · subst z; exact hel
        · subst z; exact hil
      rw [upd_ne (Nat.ne_of_lt hb')]
      exact (hf b hb).1
  done := by
    intro X hP hw hK hc i pins s σ H E I hf st hg
    subst hP hw hK
    obtain ⟨⟨old, he⟩, hit, hne⟩ := st
    obtain ⟨xs, hq, hx⟩ := hg
    obtain ⟨its, rv, p, hz⟩ := I.tuple hq
    obtain ⟨f0, f1, f2, f3, f4, f5⟩ := hf it (by simp)
    have hl := rv.length
    have hT : s.TypeIs (.ref e) "enumerate" := ⟨_, he, rfl⟩
    unfold pyNext
    refine wpAny_bind (wpAny_attempt (wpAny_callSpecial?_slot (name := Str.ofString "__next__") hT F.slot_enumerate_next (wpAny_call_entry F.slot_enumerate_next hT F.entry_enumerate_next ?_ (F.args_enumerate_next_1 _))))
    show wpAny _ _ (field (.ref e) 2 >>= _) _ _ _
    refine wpAny_bind (wpAny_field he rfl (x := .ref it) rfl ?_)
    refine wpAny_bind (wpAny_nextOf_tuple_end (I.ok.hd hc) hit p (by simp; omega) fun h1 x1 he1 hx1 => ?_)
    obtain ⟨o, ho, hc1⟩ := hx1
    refine wpAny_bind (wpAny_isInstance (T := "StopIteration") (b := true) ⟨o, ho, hc1⟩ isSubtype_stop ?_)
    exact wpAny_pure ⟨rfl, I.turned (t' := s.toks) (fun b o hb q => he1 b o hb q) f0 f1 f3 f4 f5⟩
  self := fun A i s Q E st h => let ⟨⟨_, he⟩, _⟩ := st; wpAny_pyIter_enum he h
def iEnumT (K : PySem.W.Frag) (ta : TA) : TI := fun σ H R => ta σ H fun vs H1 => ∃ a xs, vs = [.ref a] ∧ SqT K H1 a xs ∧ R (ItET K a) H1
theorem pi_enumT {X : Cx} {e : Expr} {ta : TA} {p pos tpos : Pos} {elts : List Expr} {kk : Nat} (hg : Gl X "enumerate") (hm : X.mg "enumerate" = none) (ha : PA X [e] ta) (hs : starEach [e] X.env = [(false, eval e X.env)] := by rfl) :
    PI X (.Tuple elts kk tpos) (.Call (.Name "enumerate" p) [e] [] pos) (iEnumT X.K ta) := by
  refine ⟨fun pins s σ H R I h => ?_⟩
  refine PyProof.Rows.Call_ (ld_blt I hg hm PyProof.Rows.boot_enumerate (PyProof.Rows.callWith_type1 (thn (ha.run pos pins s σ H _ I h) fun us s1 q0 => ?_) hs rfl))
  obtain ⟨vs, H1, I1, r1, a, xs, ex, hq, q⟩ := q0
  subst ex
  cases r1 with
  | cons r rr =>
    cases rr
    cases r
    obtain ⟨its, rv, p', hz⟩ := I1.tuple hq
    refine call_enum1 (begins_tuple a its.toArray) p' fun h1 he hit hsz hk => wpAny_pyIter_enum he ?_
    have I2 : Inv X pins σ H1 { s1 with heap := h1 } := I1.kept (t' := s1.toks) hk
    refine ⟨s1.heap.objs.size + 1, [s1.heap.objs.size + 1, s1.heap.objs.size], _, _, H1, rfl, I2, turn_enumT a (s1.heap.objs.size + 1) s1.heap.objs.size, ⟨⟨.none, he⟩, ⟨_, hit, rfl, rfl⟩, Nat.succ_ne_self _⟩, fun b hb => ?_, q⟩
    have hle : s1.heap.objs.size ≤ b := by
      rcases (by simpa using hb : b = s1.heap.objs.size + 1 ∨ b = s1.heap.objs.size) with z | z
      · subst z; exact Nat.le_add_right _ _
      · subst z; exact Nat.le_refl _
    exact I1.fpOk hle (I1.hok.fresh hle)
theorem walk_enumT {K : PySem.W.Frag} {a : Addr} {xs : List V} : Walk (ItET K a) xs.length (fun H => SqT K H a xs) (YPair (fun i => some (.int (i : Nat))) (fun i => xs[i]?)) where
  goes := fun i H hi g => ⟨xs, xs[i], g, List.getElem?_eq_getElem _⟩
  stops := fun H g => ⟨xs, g, Nat.le_refl _⟩
  yields := fun i H x H' hi g h => by
    obtain ⟨T, x, rfl, hT, rfl, h1⟩ := h
    exact ⟨T, _, x, rfl, hT, rfl, rfl, h1 _ g⟩
variable [HasK]
section
variable {c : Cc} {e : Expr} {pos : Pos} {tr : TA} {dr : DA}
/-- the items with their places -/
def enumD (xs : List D) : List D := xs.mapIdx fun i x => .tuple [.int (i : Int), x]
def dEnum (dr : DA) : DI := fun δ => (dr δ).bind fun xs => match xs with
  | [.tuple x] => .ok (enumD x)
  | _ => .stuck
theorem enumD_len (xs : List D) : (enumD xs).length = xs.length := by unfold enumD; rw [List.length_mapIdx]
theorem ri_enumT {K : PySem.W.Frag} {F H : Hp} {a : Addr} {xs : List V} {ds : List D} (h : F a = some (.tup xs)) (r : RpAll F xs ds) : RI F H (ItET K a) (enumD ds) := by
  refine ⟨_, _, by rw [enumD_len, ← r.len]; exact walk_enumT, fun F2 H2 e1 e2 => sqT (e2 _ _ (e1 _ _ h)), fun i F2 H2 x H3 hi e1 e2 hy => ?_⟩
  obtain ⟨T, x, y, rfl, hT, rfl, h1, h2⟩ := hy
  cases h1
  obtain ⟨d, hd, hr⟩ := r.getV h2
  obtain ⟨s1, s2⟩ := pair_step (d := .int (i : Int)) e2 hT (.int _) (hr.mono e1)
  exact ⟨_, _, by unfold enumD; rw [List.getElem?_mapIdx, hd]; rfl, s1, s2⟩
theorem ji_enum {p tpos : Pos} {elts : List Expr} {kk : Nat} (hg : Gl c.X "enumerate") (hm : c.X.mg "enumerate" = none) (ha : JA c [e] tr dr) (hs : starEach [e] c.X.env = [(false, eval e c.X.env)] := by rfl) :
    JI c (.Tuple elts kk tpos) (.Call (.Name "enumerate" p) [e] [] pos) (iEnumT HasK.K tr) (dEnum dr) := by
  rw [← c.hK]
  exact ⟨pi_enumT hg hm ha.p hs, fun F H σ δ Q S P => ha.s.go S P fun F1 H1 xs zs s1 S1 hx P1 => by
    split at P1
    · cases hx with
      | cons h1 hn =>
        cases hn
        cases h1 with
        | tup x1 r1 => exact ⟨_, _, rfl, sqT (S1.fh _ _ x1), P1 _ F1 H1 (.refl S1.fh) (ri_enumT x1 r1)⟩
    · exact P1.elim⟩
end
end RD

end
section
namespace RD
open PySem L2
/-! ### x *= e -/
def ipC (C : Int → Int → Prop) (f : Int → Int → Int) : TIp := fun x y H Q => ∃ i j, x = .int i ∧ y = .int j ∧ C i j ∧ Q (.int (f i j)) H
theorem ip_mul {X : Cx} : PIp X .Mult (ipC CMul fun i j => i * j) := fun pins s σ H x y v u Q I r1 r2 h => by
  obtain ⟨i, j, rfl, rfl, hc, q⟩ := h
  obtain ⟨t, rfl⟩ := r1
  obtain ⟨t2, rfl⟩ := r2
  exact P.imul_int ⟨.int _, H, I.tok _, ⟨_, rfl⟩, q⟩ hc.ok
variable [HasK]
section
variable {c : Cc} {e a b : Expr} {es : List Expr} {pos : Pos} {tr : TA} {dr : DA} {ta tb : TE} {da db : DE}
def dAugM (i : Nat) (da : DE) : DS := fun δ => match δ[i]? with
  | some (.val (.int k)) => (da δ).out δ fun y => match y with
    | .int m => if CMul k m then .next (δ.set i (.val (.int (k * m)))) else .stuck
    | _ => .stuck
  | _ => .stuck
theorem js_augM {i : Nat} {x : Str} {pos' : Pos} (hN : c.X.N.Nodup) (he : JE c e ta da) (hi : c.X.N[i]? = some x := by rfl) (hx : Loc c.X.env.scope x := by first | exact Or.inl rfl | exact Or.inr rfl)
    (hf : c.X.fn x = true ∨ c.X.env.scope.names.lookup x = some .local := by first | exact .inl rfl | exact .inr rfl) :
    JS c (.AugAssign (.Name x pos') .Mult e pos) (tAug i ta (ipC CMul fun i j => i * j)) (dAugM i da) :=
  ⟨ps_aug hN hi hx he.p ip_mul hf, fun F H σ δ D S P => by
    unfold dAugM at P
    split at P
    · rename_i k q
      obtain ⟨v, h1, h2⟩ := S.val i _ q
      cases h2
      refine ⟨_, h1, he.s.gos S P fun F1 H1 y z s1 S1 hy P1 => ?_⟩
      cases z with
      | int m =>
        cases hy
        by_cases hm : CMul k m
        · have P2 : PostS c F1 D (.next (δ.set i (.val (.int (k * m))))) := by
            have := P1
            simp only [hm, if_true] at this
            exact this
          exact ⟨k, m, rfl, rfl, hm, P2 _ F1 H1 (.refl _) (S1.set (.int _) i)⟩
        · simp only [hm, if_false] at P1
          exact P1.elim
      | _ => exact P1.elim
    · exact P.elim⟩
/-! ### ints of a list -/
def intsD : List D → Option (List Int)
  | [] => some []
  | .int i :: xs => (intsD xs).map (i :: ·)
  | _ :: _ => none
theorem ints_of {F : Hp} : ∀ {vs : List V} {ds : List D} {ns : List Int}, RpAll F vs ds → intsD ds = some ns → vs = ns.map V.int
  | _, _, _, .nil, h => by cases h; rfl
  | _, _, ns, .cons (d := d) r rs, h => by
    cases d with
    | int i =>
      obtain ⟨m, hm, rfl⟩ := Option.map_eq_some_iff.mp h
      cases r
      rw [ints_of rs hm]
      rfl
    | _ => cases h
theorem intsD_len : ∀ {ds : List D} {ns : List Int}, intsD ds = some ns → ns.length = ds.length
  | [], _, h => by cases h; rfl
  | .int i :: ds, _, h => by
    obtain ⟨m, hm, rfl⟩ := Option.map_eq_some_iff.mp h
    simp [intsD_len hm]
  | .none :: _, _, h => by cases h
  | .bool _ :: _, _, h => by cases h
  | .str _ :: _, _, h => by cases h
  | .list _ :: _, _, h => by cases h
  | .tuple _ :: _, _, h => by cases h
  | .dict _ :: _, _, h => by cases h
def maxL : List Int → Int
  | [] => 0
  | a :: l => l.foldl max a
def minL : List Int → Int
  | [] => 0
  | a :: l => l.foldl min a
theorem foldl_max_le : ∀ (l : List Int) (a : Int), a ≤ l.foldl max a ∧ (∀ y ∈ l, y ≤ l.foldl max a) ∧ (l.foldl max a = a ∨ l.foldl max a ∈ l)
  | [], a => ⟨Int.le_refl _, (fun _ h => by cases h), .inl rfl⟩
  | b :: l, a => by
    obtain ⟨h1, h2, h3⟩ := foldl_max_le l (max a b)
    simp only [List.foldl_cons]
    refine ⟨by omega, fun y hy => ?_, ?_⟩
    · rcases List.mem_cons.mp hy with rfl | hy
      · omega
      · exact h2 y hy
    · rcases h3 with h3 | h3
      · by_cases h : a ≤ b
        · right; rw [h3, show max a b = b by omega]; exact List.mem_cons_self
        · left; rw [h3]; omega
      · exact .inr (List.mem_cons_of_mem _ h3)
theorem foldl_min_le : ∀ (l : List Int) (a : Int), l.foldl min a ≤ a ∧ (∀ y ∈ l, l.foldl min a ≤ y) ∧ (l.foldl min a = a ∨ l.foldl min a ∈ l)
  | [], a => ⟨Int.le_refl _, (fun _ h => by cases h), .inl rfl⟩
  | b :: l, a => by
    obtain ⟨h1, h2, h3⟩ := foldl_min_le l (min a b)
    simp only [List.foldl_cons]
    refine ⟨by omega, fun y hy => ?_, ?_⟩
    · rcases List.mem_cons.mp hy with rfl | hy
      · omega
      · exact h2 y hy
    · rcases h3 with h3 | h3
      · by_cases h : b ≤ a
        · right; rw [h3, show min a b = b by omega]; exact List.mem_cons_self
        · left; rw [h3]; omega
      · exact .inr (List.mem_cons_of_mem _ h3)
theorem maxL_is {l : List Int} {m : Int} (h : m ∈ l) (hm : ∀ y ∈ l, y ≤ m) : maxL l = m := by
  cases l with
  | nil => cases h
  | cons a l =>
    obtain ⟨h1, h2, h3⟩ := foldl_max_le l a
    show l.foldl max a = m
    have u1 : l.foldl max a ≤ m := by
      rcases h3 with h3 | h3
      · rw [h3]; exact hm a List.mem_cons_self
      · exact hm _ (List.mem_cons_of_mem _ h3)
    have u2 : m ≤ l.foldl max a := by
      rcases List.mem_cons.mp h with rfl | h
      · exact h1
      · exact h2 m h
    omega
theorem minL_is {l : List Int} {m : Int} (h : m ∈ l) (hm : ∀ y ∈ l, m ≤ y) : minL l = m := by
  cases l with
  | nil => cases h
  | cons a l =>
    obtain ⟨h1, h2, h3⟩ := foldl_min_le l a
    show l.foldl min a = m
    have u1 : m ≤ l.foldl min a := by
      rcases h3 with h3 | h3
      · rw [h3]; exact hm a List.mem_cons_self
      · exact hm _ (List.mem_cons_of_mem _ h3)
    have u2 : l.foldl min a ≤ m := by
      rcases List.mem_cons.mp h with rfl | h
      · exact h1
      · exact h2 m h
    omega
def aggD (f : List Int → Int) (ne : Bool) : List D → Option D
  | [.list xs] => (intsD xs).bind fun ns => if ne = true ∧ ns = [] then none else some (.int (f ns))
  | _ => none
theorem agg_of {f : List Int → Int} {ne : Bool} {F H : Hp} {vs : List V} {ds : List D} {z : D} (ex : Ex F H) (h : BwAll F H vs ds) (hz : aggD f ne ds = some z) : ∃ a ns, vs = [.ref a] ∧ SqL HasK.K H a (ns.map V.int) ∧ (ne = true → ns ≠ []) ∧ z = .int (f ns) := by
  unfold aggD at hz
  split at hz
  · cases h with
    | cons h hn =>
      cases hn
      obtain ⟨a, us, rfl, h1, h2⟩ := h.lst ex
      obtain ⟨ns, q1, q2⟩ := Option.bind_eq_some_iff.mp hz
      split at q2
      · cases q2
      · rename_i q3
        cases q2
        refine ⟨a, ns, rfl, ?_, fun e e2 => q3 ⟨e, e2⟩, rfl⟩
        rw [← ints_of h2 q1]
        exact sqL h1
  · cases hz
theorem je_max1 {p : Pos} (hg : Gl c.X "max") (hm : c.X.mg "max" = none) (hc : c.X.calm = true) (ha : JAB c [a] tr dr) (he : starEach [a] c.X.env = (false, eval a c.X.env) :: starEach [] c.X.env := by rfl) (hpl : (backTo pos (starEach [] c.X.env)).any (·.1) = false := by rfl) :
    JE c (.Call (.Name "max" p) [a] [] pos) (tCB (rMax HasK.K) tr) (dCB (aggD maxL true) dr) := by
  rw [← c.hK]
  exact je_callB (id := "max") (cr_max hc) (fun F H xs ds z Q ex h hz k => by
    obtain ⟨a, ns, rfl, h1, h2, rfl⟩ := agg_of ex h hz
    rw [c.hK]
    exact ⟨a, ns, rfl, h1, List.length_pos_iff.mpr (h2 rfl), fun m m1 m2 => by rw [← maxL_is m1 m2]; exact k _ F H (.refl ex) (.int _)⟩) hg hm (by decide +kernel) ha (by decide) (by decide) he hpl
theorem je_min1 {p : Pos} (hg : Gl c.X "min") (hm : c.X.mg "min" = none) (hc : c.X.calm = true) (ha : JAB c [a] tr dr) (he : starEach [a] c.X.env = (false, eval a c.X.env) :: starEach [] c.X.env := by rfl) (hpl : (backTo pos (starEach [] c.X.env)).any (·.1) = false := by rfl) :
    JE c (.Call (.Name "min" p) [a] [] pos) (tCB (rMin HasK.K) tr) (dCB (aggD minL true) dr) := by
  rw [← c.hK]
  exact je_callB (id := "min") (cr_min hc) (fun F H xs ds z Q ex h hz k => by
    obtain ⟨a, ns, rfl, h1, h2, rfl⟩ := agg_of ex h hz
    rw [c.hK]
    exact ⟨a, ns, rfl, h1, List.length_pos_iff.mpr (h2 rfl), fun m m1 m2 => by rw [← minL_is m1 m2]; exact k _ F H (.refl ex) (.int _)⟩) hg hm (by decide +kernel) ha (by decide) (by decide) he hpl
theorem je_sum1 {p : Pos} (hg : Gl c.X "sum") (hm : c.X.mg "sum" = none) (hc : c.X.calm = true) (ha : JAB c [a] tr dr) (he : starEach [a] c.X.env = (false, eval a c.X.env) :: starEach [] c.X.env := by rfl) (hpl : (backTo pos (starEach [] c.X.env)).any (·.1) = false := by rfl) :
    JE c (.Call (.Name "sum" p) [a] [] pos) (tCB (rSum HasK.K) tr) (dCB (aggD List.sum false) dr) := by
  rw [← c.hK]
  exact je_callB (id := "sum") (cr_sum hc) (fun F H xs ds z Q ex h hz k => by
    obtain ⟨a, ns, rfl, h1, _, rfl⟩ := agg_of ex h hz
    rw [c.hK]
    exact ⟨a, ns, rfl, h1, k _ F H (.refl ex) (.int _)⟩) hg hm (by decide +kernel) ha (by decide) (by decide) he hpl
end
end RD

end
section
namespace RD
open PySem L2
theorem fun_of {K : PySem.W.Frag} {x q : Str} {st : Stmt} {f : Addr} {fd : FuncData} (F : FunD K x q (defArgs st) (defBody st) (defScope st) [] [] f fd) : Fun K x q st f fd := by
  obtain ⟨⟨oc, od, dV, kV, doc, pm, an, cdv, ct, osl, h1, h2, h3, h4, h5⟩, kp⟩ := F
  rcases h4 with ⟨_, rfl⟩ | ⟨e, _⟩
  · exact ⟨⟨oc, od, kV, doc, pm, an, cdv, ct, osl, h1, h2, h3⟩, kp⟩
  · exact absurd rfl e
/-! ### the exceptions' facts, as one Bool over the written part -/
def dO (a b : Option (Option Value)) : Bool := decide (a = b)
def excOk (K : PySem.W.Frag) (n : Str) : Bool :=
  dO (PySem.W.nsIn K mainGlobals n) (some (some (.ref (He.ga K n)))) &&
  (dO (PySem.W.findIn K (.ref (He.ga K n)) "__getattribute__") (some (some (.builtin "BaseException.__getattribute__"))) &&
  (dO (PySem.W.findIn K (.ref (He.ga K n)) "__getattr__") (some none) &&
  (decide (PySem.W.subIn K (.ref (He.ga K n)) (.type "BaseException") = some true) &&
  (PySem.W.hasDictIn K (He.ga K n) &&
  (dO (PySem.W.findIn K (.ref (He.ga K n)) "__class__") (some (some (.builtin "object.__class__"))) &&
  (dO (PySem.W.specialIn K (.builtin "object.__class__") "__get__") (some (some (.builtin "getset_descriptor.__get__"))) &&
  (decide (PySem.W.takesIn K (.builtin "object.__class__") = some true) &&
  decide (PySem.W.mroIn K (He.ga K n) (.type "object") = some true))))))))
def pairOk (K : PySem.W.Frag) (n c : Str) : Bool :=
  decide (PySem.W.exmOne K (.ref (He.ga K n)) (.ref (He.ga K c)) = some (subB n c)) && decide (PySem.W.kitOne K (.ref (He.ga K n)) (.ref (He.ga K c)) = some (subB n c))
def exkB (l : List Str) (K : PySem.W.Frag) : Bool := (l.all fun n => excOk K n) && l.all fun n => l.all fun c => pairOk K n c
theorem clA_of {mg : Str → Option Value} {n : Str} {a : Addr} (h : mg n = some (.ref a)) : clA mg n = a := by
  unfold clA
  rw [h]
theorem exk_of {K : PySem.W.Frag} {h : Heap} {mg : Str → Option Value} (X : K.In h) (G : h.Ns mainGlobals mg) {l : List Str} (c : exkB l K = true) : ExK K mg l := by
  have c2 := Bool.and_eq_true_iff.mp c
  have one : ∀ n ∈ l, excOk K n = true := fun n hn => List.all_eq_true.mp c2.1 n hn
  have m : ∀ n ∈ l, mg n = some (.ref (He.ga K n)) := fun n hn => PySem.W.mg_of X G (of_decide_eq_true (Bool.and_eq_true_iff.mp (one n hn)).1)
  have ca : ∀ n ∈ l, clA mg n = He.ga K n := fun n hn => clA_of (m n hn)
  have two : ∀ n ∈ l, ∀ c ∈ l, pairOk K n c = true := fun n hn c hc => List.all_eq_true.mp (List.all_eq_true.mp c2.2 n hn) c hc
  refine ⟨fun n hn => ?_, fun n hn c hc => ?_, fun n hn c hc => ?_⟩
  · have z := one n hn
    unfold excOk at z
    simp only [Bool.and_eq_true] at z
    obtain ⟨_, z2, z3, z4, z5, z6, z7, z8, z9⟩ := z
    rw [ca n hn]
    exact ⟨⟨of_decide_eq_true z2, of_decide_eq_true z3, of_decide_eq_true z4, z5, of_decide_eq_true z6, of_decide_eq_true z7, of_decide_eq_true z8, of_decide_eq_true z9⟩, m n hn⟩
  · rw [ca n hn, ca c hc]
    exact of_decide_eq_true (Bool.and_eq_true_iff.mp (two n hn c hc)).1
  · rw [ca n hn, ca c hc]
    exact of_decide_eq_true (Bool.and_eq_true_iff.mp (two n hn c hc)).2
theorem excT_of {K : PySem.W.Frag} {h : Heap} {mg : Str → Option Value} (X : K.In h) (G : h.Ns mainGlobals mg) {x : Str} (g : (He.Fa.glo x).ok K = true) (c : (He.Fa.exc x).ok K = true) : ExcT K mg x := by
  obtain ⟨c1, c2, c3, c4⟩ := He.exc_ok c
  exact ⟨_, _, _, _, _, PySem.F.excBase_ValueError, c1, He.glo_ok X G g, c2, c3, c4⟩
/-! ### the Hook: facts, defs, one Bool more -/
def hookR (n : Nat) (fa : List He.Fa) (fn : List He.DefD) (ck : PySem.W.Frag → Bool) : PySem.W.Hook where
  α := He.AlD × Bool
  obs := fun s => (He.obsDG n fa fn s.heap.get?, ck (He.frG s.heap.get? (He.asD s.heap.get? n)))
  val := fun _ => (He.valD fn, true)
  says := fun _ h => ∃ K : PySem.W.Frag, K.In h ∧ He.SaysD fa fn K ∧ ck K = true
  of := fun _ _ e => ⟨_, He.frG_in, congrArg Prod.fst e, congrArg Prod.snd e⟩
  keeps := fun _ _ _ ⟨K, hK, c⟩ k => ⟨K, PySem.W.Frag.In.keeps hK k, c⟩
def obR (n : Nat) (fa : List He.Fa) (fn : List He.DefD) (ck : PySem.W.Frag → Bool) (s : PySem.W.SharedT) : He.AlD × Bool :=
  let K := He.frG (HandSHeadRun.getT s) (He.asD (HandSHeadRun.getT s) n)
  (He.obsD fa fn K, ck K)
theorem obR_eq {n : Nat} {fa : List He.Fa} {fn : List He.DefD} {ck : PySem.W.Frag → Bool} (s : PySem.W.SharedT) : obR n fa fn ck s = (hookR n fa fn ck).obs s.abs := by
  have e : HandSHeadRun.getT s = s.abs.heap.get? := funext (HandSHeadRun.getT_eq s)
  unfold obR
  rw [e]
  rfl
/-- a callee out of its facts -/
theorem cal_of {P : Program} {w : World} {K : PySem.W.Frag} {mg : Str → Option Value} {base : Heap} {k n : Nat} {x : Str} {f : Addr} {fd : FuncData} {ps : List Str} {den : List D → Res D} (h : FnOk P w K mg base (L2.CX P w) k f fd ps (spK K mg n den)) (g : mg x = some (.ref f)) (kp : PySem.W.keepIn K (.ref f) = true) (b : Binds K fd ps []) : Cal P w K mg base k x n den :=
  ⟨f, fd, ps, h, g, kp, b⟩
/-- the law's own promise, from its denotation -/
theorem law_sp {K : PySem.W.Frag} {mg : Str → Option Value} {den : List D → Res D} {H : Hp} {a : Addr} {ns : List Int} (hS : SqL K H a (ns.map V.int)) (h : den [scrD ns] = .ok (.bool true)) : spK K mg 1 den [.ref a] H (fun v _ => v = .bl true) fun _ _ _ => False := by
  letI : HasK := ⟨K, mg⟩
  refine ⟨rfl, H, [scrD ns], .refl _, .cons (.scr hS) .nil, ?_⟩
  rw [h]
  intro v F' H' s r
  cases r
  rfl
theorem cx_never {P : Program} {w : World} {H : Hp} {s : Shared} {e : Value} {s' : Shared} (h : L2.CX P w [] H s (fun _ _ _ => False) e s') : False := by
  obtain ⟨_, _, _, _, _, _, _, _, _, _, _, _, z⟩ := h
  exact z
/-- a law by its denotation: what the head says gives the def and its promise -/
theorem walk_ofR {l : PySem.W.OpenLaw} {n k : Nat} {q : Program} {loose : List Str} {XP : (Str → Option Value) → Heap → Prop} {YP : World → Heap → Prop} {d : DefRec} {x : Str} {den : List D → Res D}
    (hn : l.most = some n) (hn2 : n ≤ sizeLine) (hdf : d.params.defaults = []) (hr : Room k callerA)
    (hF : ∀ (w : World) (mg : Str → Option Value) (fa : Addr) (h : Heap), YP w h → h.Ns mainGlobals mg → mg d.name = some (.ref fa) →
      ∃ (K : PySem.W.Frag) (fd : FuncData), K.In h ∧ (∀ (s : Shared) (u : Value), BindsTo s fd ⟨[u], []⟩ [(x, u)]) ∧ ∀ base : Heap, K.In base → base.Ns mainGlobals mg → FnOk l.prog w K mg base (L2.CX l.prog w) k fa fd [x] (spK K mg 1 den))
    (hd : ∀ ns : List Int, ns.length ≤ n → (∀ z ∈ ns, Builtin.Int.intBits z ≤ 1048576) → den [scrD ns] = .ok (.bool true)) :
    PySem.W.WalkO q loose XP YP l.row.toRowW d [] (fun f vs => PySem.call f vs) := by
  refine Att.attach_callB hn hdf fun w s0 s1 mg mb fa o pm cd doc a vs ns G Y ho hdd hcd hmg hobj hints hlen hbits hg => ?_
  obtain ⟨K, fd, KX, hb, hFn⟩ := hF w mg fa _ Y G.T.g hmg
  exact law_call KX G.T.g G.T.b G.T.builtins G.T.nolimit hg hobj hints (Nat.le_trans hlen hn2) hr hFn hb (fun H _ hS => law_sp hS (hd ns hlen hbits)) fun H e s' => cx_never
end RD

end
section
namespace RN
open PySem L2 RD
def den_in_range : List D → Res D := runB
    (dRet (dAndV (dIsi .int (dVar 0)) (dAndV (dNotV (dIsi .bool (dVar 0))) (dChain leD leD (dVarB 1) (dVarB 0) (dVarB 2))))) 0
def den_is_channel : List D → Res D := runB
    (dSeq (dIfS (dOr (dNot (dTru (dIsi .tuple (dVar 1)))) (dTest (dOp (eqD true) (dCB lenD (dCons (dVarB 1) dNil)) (dC (.int 4))))) (dRet (dC (.bool false))) dNext)
    (dSeq (dIfS (dOr (dNot (dTru (dCall 3 RN.den_in_range (dCons (dOp ixD (dVarB 1) (dC (.int 0))) (dCons (dC (.int 0)) (dCons (dOp subD (dVarB 0) (dC (.int 1))) dNil)))))) (dOr (dNot (dTru (dCall 3 RN.den_in_range (dCons (dOp ixD (dVarB 1) (dC (.int 1))) (dCons (dC (.int 0)) (dCons (dOp subD (dVarB 0) (dC (.int 1))) dNil)))))) (dTest (dOp (eqD false) (dOp ixD (dVarB 1) (dC (.int 0))) (dOp ixD (dVarB 1) (dC (.int 1))))))) (dRet (dC (.bool false))) dNext)
    (dRet (dAndV (dCall 3 RN.den_in_range (dCons (dOp ixD (dVarB 1) (dC (.int 2))) (dCons (dC (.int 1)) (dCons (dC (.int 4)) dNil)))) (dCall 3 RN.den_in_range (dCons (dOp ixD (dVarB 1) (dC (.int 3))) (dCons (dC (.int 1)) (dCons (dC (.int 4)) dNil)))))))) 0
def den_is_net_t1 : DT := (dNot (dTru (dCall 2 RN.den_is_channel (dCons (dOp ixD (dVarB 0) (dC (.int 0))) (dCons (dVar 1) dNil)))))
def den_is_net_e1 : DE := (dVar 1)
def den_is_net : List D → Res D := runB
    (dSeq (dIfS (dOr (dNot (dTru (dIsi .tuple (dVar 0)))) (dOr (dTest (dOp (eqD true) (dCB lenD (dCons (dVarB 0) dNil)) (dC (.int 2)))) (dNot (dTru (dCall 3 RN.den_in_range (dCons (dOp ixD (dVarB 0) (dC (.int 0))) (dCons (dC (.int 1)) (dCons (dC (.int 4)) dNil)))))))) (dRet (dC (.bool false))) dNext)
    (dSeq (dIfS (dOr (dNot (dTru (dIsi .tuple (dOp ixD (dVarB 0) (dC (.int 1)))))) (dTest (dOp gtD (dCB lenD (dCons (dOp ixD (dVarB 0) (dC (.int 1))) dNil)) (dC (.int 5))))) (dRet (dC (.bool false))) dNext)
    (dRet (dNotV (dLc (dItems (dOp ixD (dVarB 0) (dC (.int 1)))) (gN 1) den_is_net_t1 den_is_net_e1 [1]))))) 1
def den_check_net : List D → Res D := runB
    (dIfS (dNot (dTru (dCall 1 RN.den_is_net (dCons (dVar 0) dNil)))) (dRaise "InvalidNet") dNext) 0
def den_is_stock_t1 : DT := (dNot (dTru (dCall 3 RN.den_in_range (dCons (dVar 2) (dCons (dC (.int 0)) (dCons (dC (.int 9)) dNil))))))
def den_is_stock_e1 : DE := (dVar 2)
def den_is_stock : List D → Res D := runB
    (dSeq (dIfS (dOr (dNot (dTru (dIsi .tuple (dVar 1)))) (dTest (dOp (eqD true) (dCB lenD (dCons (dVarB 1) dNil)) (dCB lenD (dCons (dOp ixD (dVarB 0) (dC (.int 1))) dNil))))) (dRet (dC (.bool false))) dNext)
    (dRet (dNotV (dLc (dItems (dVar 1)) (gN 2) den_is_stock_t1 den_is_stock_e1 [2])))) 1
def den_check_stock : List D → Res D := runB
    (dSeq (dDrop (dCall 1 RN.den_check_net (dCons (dVar 0) dNil)))
    (dIfS (dNot (dTru (dCall 2 RN.den_is_stock (dCons (dVar 0) (dCons (dVar 1) dNil))))) (dRaise "InvalidStock") dNext)) 0
def den_check_step : List D → Res D := runB
    (dIfS (dNot (dTru (dCall 3 RN.den_in_range (dCons (dVar 1) (dCons (dC (.int 0)) (dCons (dOp subD (dOp ixD (dVarB 0) (dC (.int 0))) (dC (.int 1))) dNil)))))) (dRaise "InvalidStep") dNext) 0
def den_is_ready_t1 : DT := (dAnd (dTest (dOp (eqD false) (dOp ixD (dVarB 3) (dC (.int 1))) (dVarB 2))) (dTest (dOp ltD (dVarB 4) (dOp ixD (dVarB 3) (dC (.int 3))))))
def den_is_ready_e1 : DE := (dC (.int 1))
def den_is_ready : List D → Res D := runB
    (dRet (dNotV (dLc (dZip (dCons (dOp ixD (dVarB 0) (dC (.int 1))) (dCons (dVar 1) dNil))) (gT 2 (gsC (gN 3) (gsC (gN 4) gsN))) den_is_ready_t1 den_is_ready_e1 [3, 4]))) 2
def den_after_run_b1 : DS := (dApp 3 (dOp subD (dOp addD (dVarB 8) (dOp mulD (dVarB 6) (dCB intD (dCons (dOp (eqD false) (dVarB 4) (dVarB 2)) dNil)))) (dOp mulD (dVarB 7) (dCB intD (dCons (dOp (eqD false) (dVarB 5) (dVarB 2)) dNil)))))
def den_after_run : List D → Res D := runB
    (dSeq (dSetN 3 (dLst dNil))
    (dSeq (dFor (dZip (dCons (dOp ixD (dVarB 0) (dC (.int 1))) (dCons (dVar 1) dNil))) (gT 2 (gsC (gT 4 (gsC (gN 4) (gsC (gN 5) (gsC (gN 6) (gsC (gN 7) gsN))))) (gsC (gN 8) gsN))) den_after_run_b1)
    (dRet (dCB tupleD (dCons (dVarB 3) dNil))))) 6
def den_ready_steps_t1 : DT := (dTru (dCall 3 RN.den_is_ready (dCons (dVar 0) (dCons (dVar 1) (dCons (dVar 2) dNil)))))
def den_ready_steps_e1 : DE := (dVar 2)
def den_ready_steps : List D → Res D := runB
    (dSeq (dDrop (dCall 2 RN.den_check_stock (dCons (dVar 0) (dCons (dVar 1) dNil))))
    (dRet (dLc (dRng1 (dCons (dOp ixD (dVarB 0) (dC (.int 0))) dNil)) (gN 2) den_ready_steps_t1 den_ready_steps_e1 [2]))) 1
def den_run : List D → Res D := runB
    (dSeq (dDrop (dCall 2 RN.den_check_stock (dCons (dVar 0) (dCons (dVar 1) dNil))))
    (dSeq (dDrop (dCall 2 RN.den_check_step (dCons (dVar 0) (dCons (dVar 2) dNil))))
    (dSeq (dIfS (dNot (dTru (dCall 3 RN.den_is_ready (dCons (dVar 0) (dCons (dVar 1) (dCons (dVar 2) dNil)))))) (dRaise "CannotRun") dNext)
    (dRet (dCall 3 RN.den_after_run (dCons (dVar 0) (dCons (dVar 1) (dCons (dVar 2) dNil)))))))) 0
def den_are_attempts_b1 : DS := (dSeq (dIfS (dOr (dNot (dTru (dIsi .tuple (dVar 2)))) (dOr (dTest (dOp (eqD true) (dCB lenD (dCons (dVarB 2) dNil)) (dC (.int 2)))) (dNot (dTru (dCall 3 RN.den_in_range (dCons (dOp ixD (dVarB 2) (dC (.int 0))) (dCons (dC (.int 0)) (dCons (dOp subD (dOp ixD (dVarB 0) (dC (.int 0))) (dC (.int 1))) dNil)))))))) (dRet (dC (.bool false))) dNext)
    (dIfS (dNot (dTru (dIsi .bool (dOp ixD (dVarB 2) (dC (.int 1)))))) (dRet (dC (.bool false))) dNext))
def den_are_attempts : List D → Res D := runB
    (dSeq (dIfS (dOr (dNot (dTru (dIsi .tuple (dVar 1)))) (dTest (dOp gtD (dCB lenD (dCons (dVarB 1) dNil)) (dC (.int 40))))) (dRet (dC (.bool false))) dNext)
    (dSeq (dFor (dItems (dVar 1)) (gN 2) den_are_attempts_b1)
    (dRet (dC (.bool true))))) 1
def den_all_stocks_e1 : DE := (dOp addD (dVarB 5) (dTup (dCons (dVar 6) dNil)))
def den_all_stocks_b1 : DS := (dExt 4 (dLc (dRng1 (dCons (dOp addD (dVarB 1) (dC (.int 1))) dNil)) (gN 6) dYes den_all_stocks_e1 [6]))
def den_all_stocks_b2 : DS := (dSeq (dSetN 4 (dLst dNil))
    (dSeq (dFor (dItems (dVar 2)) (gN 5) den_all_stocks_b1)
    (dFrz 4 (dSet 2 (dVar 4)))))
def den_all_stocks : List D → Res D := runB
    (dSeq (dSet 2 (dLst (dCons (dTup dNil) dNil)))
    (dSeq (dFor (dRng1 (dCons (dVar 0) dNil)) (gN 3) den_all_stocks_b2)
    (dRet (dVar 2)))) 5
def den_follow_b1 : DS := (dSeq (dIfS (dTest (dOp (eqD true) (dCall 3 RN.den_is_ready (dCons (dVar 0) (dCons (dVar 3) (dCons (dVar 4) dNil)))) (dVarB 5))) (dRet (dC .none)) dNext)
    (dIfS (dTru (dVarB 5)) (dSet 3 (dCall 3 RN.den_after_run (dCons (dVar 0) (dCons (dVar 3) (dCons (dVar 4) dNil))))) dNext))
def den_follow : List D → Res D := runB
    (dSeq (dSet 3 (dVar 1))
    (dSeq (dFor (dItems (dVar 2)) (gT 2 (gsC (gN 4) (gsC (gN 5) gsN))) den_follow_b1)
    (dRet (dVar 3)))) 3
def den_check_search_b1 : DS := (dAugM 3 (dOp addD (dVarB 2) (dC (.int 1))))
def den_check_search : List D → Res D := runB
    (dSeq (dDrop (dCall 1 RN.den_check_net (dCons (dVar 0) dNil)))
    (dSeq (dIfS (dNot (dTru (dCall 2 RN.den_are_attempts (dCons (dVar 0) (dCons (dVar 1) dNil))))) (dRaise "InvalidAttempts") dNext)
    (dSeq (dIfS (dNot (dTru (dCall 3 RN.den_in_range (dCons (dVar 2) (dCons (dC (.int 0)) (dCons (dC (.int 9)) dNil)))))) (dRaise "InvalidBound") dNext)
    (dSeq (dSet 3 (dC (.int 1)))
    (dSeq (dFor (dItems (dOp ixD (dVarB 0) (dC (.int 1)))) (gN 4) den_check_search_b1)
    (dIfS (dTest (dOp gtD (dVarB 3) (dC (.int 2000)))) (dRaise "TooLong") dNext)))))) 2
def den_agreeing_stocks_t1 : DT := (dTest (dIsN true (dCall 3 RN.den_follow (dCons (dVar 0) (dCons (dVar 3) (dCons (dVar 1) dNil))))))
def den_agreeing_stocks_e1 : DE := (dVar 3)
def den_agreeing_stocks : List D → Res D := runB
    (dSeq (dDrop (dCall 3 RN.den_check_search (dCons (dVar 0) (dCons (dVar 1) (dCons (dVar 2) dNil)))))
    (dRet (dLc (dItems (dCall 2 RN.den_all_stocks (dCons (dCB lenD (dCons (dOp ixD (dVarB 0) (dC (.int 1))) dNil)) (dCons (dVar 2) dNil)))) (gN 3) den_agreeing_stocks_t1 den_agreeing_stocks_e1 [3]))) 1
def den__law_cell : List D → Res D := runB
    (dSeq (dIfS (dTest (dOp ltD (dVarB 1) (dCB lenD (dCons (dVarB 0) dNil)))) (dRet (dOp ixD (dVarB 0) (dVarB 1))) dNext)
    (dRet (dC (.int 0)))) 0
def den__law_row_b1 : DS := (dIfS (dTest (dOp ltD (dCall 2 RN.den__law_cell (dCons (dVar 0) (dCons (dVar 1) dNil))) (dOp powD (dC (.int 10)) (dC (.int 18))))) (dSeq (dSet 2 (dOp modD (dOp addD (dOp addD (dOp addD (dOp mulD (dVarB 2) (dC (.int 48271))) (dOp mulD (dC (.int 131)) (dVarB 4))) (dC (.int 7))) (dCall 2 RN.den__law_cell (dCons (dVar 0) (dCons (dOp modD (dOp addD (dOp addD (dVarB 1) (dC (.int 1))) (dVarB 4)) (dC (.int 20))) dNil)))) (dC (.int 2147483647))))
    (dApp 3 (dOp modD (dOp fdivD (dVarB 2) (dC (.int 11))) (dC (.int 1000))))) (dSeq (dApp 3 (dOp modD (dVarB 2) (dC (.int 1000))))
    (dSet 2 (dOp fdivD (dVarB 2) (dC (.int 1000))))))
def den__law_row : List D → Res D := runB
    (dSeq (dSet 2 (dCall 2 RN.den__law_cell (dCons (dVar 0) (dCons (dVar 1) dNil))))
    (dSeq (dSetN 3 (dLst dNil))
    (dSeq (dFor (dRng1 (dCons (dC (.int 60)) dNil)) (gN 4) den__law_row_b1)
    (dFrz 3 (dRet (dVar 3)))))) 3
def den__law_gcd_b1 : DS := (dPar 0 1 (dCons (dVar 1) (dCons (dOp modD (dVarB 0) (dVarB 1)) dNil)))
def den__law_gcd : List D → Res D := runB
    (dSeq (whileN (dTest (dOp (eqD true) (dVarB 1) (dC (.int 0)))) den__law_gcd_b1 100000)
    (dRet (dVar 0))) 0
def den__law_net_e1 : DE := (dOp ixD (dLst (dCons (dC (.int 1)) (dCons (dC (.int 1)) (dCons (dC (.int 2)) (dCons (dC (.int 2)) (dCons (dC (.int 3)) (dCons (dC (.int 4)) dNil))))))) (dOp modD (dOp ixD (dVarB 4) (dOp addD (dC (.int 1)) (dVarB 14))) (dC (.int 6))))
def den__law_net_b1 : DS := (dSeq (dSet 9 (dOp modD (dOp ixD (dVarB 4) (dOp addD (dC (.int 10)) (dOp mulD (dC (.int 4)) (dVarB 8)))) (dVarB 5)))
    (dSeq (dSet 10 (dOp modD (dOp addD (dOp addD (dVarB 9) (dC (.int 1))) (dOp modD (dOp ixD (dVarB 4) (dOp addD (dC (.int 11)) (dOp mulD (dC (.int 4)) (dVarB 8)))) (dOp subD (dVarB 5) (dC (.int 1))))) (dVarB 5)))
    (dSeq (dSet 11 (dCall 2 RN.den__law_gcd (dCons (dOp ixD (dVarB 6) (dVarB 9)) (dCons (dOp ixD (dVarB 6) (dVarB 10)) dNil))))
    (dSeq (dSet 12 (dOp fdivD (dOp ixD (dVarB 6) (dVarB 10)) (dVarB 11)))
    (dSeq (dSet 13 (dOp fdivD (dOp ixD (dVarB 6) (dVarB 9)) (dVarB 11)))
    (dSeq (dIfS (dAnd (dTest (dOp (eqD false) (dOp modD (dOp ixD (dVarB 4) (dC (.int 7))) (dC (.int 4))) (dC (.int 0)))) (dTest (dOp (eqD false) (dOp modD (dOp ixD (dVarB 4) (dOp addD (dC (.int 12)) (dOp mulD (dC (.int 4)) (dVarB 8)))) (dC (.int 2))) (dC (.int 0))))) (dSeq (dSet 12 (dOp addD (dC (.int 1)) (dOp modD (dOp ixD (dVarB 4) (dOp addD (dC (.int 13)) (dOp mulD (dC (.int 4)) (dVarB 8)))) (dC (.int 4)))))
    (dSet 13 (dOp addD (dC (.int 1)) (dOp modD (dOp ixD (dVarB 4) (dOp addD (dC (.int 12)) (dOp mulD (dC (.int 4)) (dVarB 8)))) (dC (.int 4)))))) dNext)
    (dApp 7 (dTup (dCons (dVar 9) (dCons (dVar 10) (dCons (dVar 12) (dCons (dVar 13) dNil))))))))))))
def den__law_net : List D → Res D := runB
    (dSeq (dSet 4 (dCall 2 RN.den__law_row (dCons (dVar 0) (dCons (dVar 1) dNil))))
    (dSeq (dSet 5 (dOp addD (dC (.int 1)) (dOp modD (dOp ixD (dVarB 4) (dC (.int 0))) (dVarB 2))))
    (dSeq (dSet 6 (dLc (dRng1 (dCons (dVar 5) dNil)) (gN 14) dYes den__law_net_e1 [14]))
    (dSeq (dSetN 7 (dLst dNil))
    (dSeq (dIfS (dTest (dOp gtD (dVarB 5) (dC (.int 1)))) (dFor (dRng1 (dCons (dOp modD (dOp ixD (dVarB 4) (dC (.int 6))) (dOp addD (dVarB 3) (dC (.int 1)))) dNil)) (gN 8) den__law_net_b1) dNext)
    (dRet (dTup (dCons (dVar 5) (dCons (dCB tupleD (dCons (dVarB 7) dNil)) dNil))))))))) 11
def den__law_stock_e1 : DE := (dOp modD (dOp ixD (dVarB 4) (dOp addD (dC (.int 40)) (dVarB 5))) (dOp addD (dVarB 3) (dC (.int 1))))
def den__law_stock : List D → Res D := runB
    (dSeq (dSet 4 (dCall 2 RN.den__law_row (dCons (dVar 0) (dCons (dVar 1) dNil))))
    (dRet (dCB tupleD (dCons (dLc (dRng1 (dCons (dCB lenD (dCons (dOp ixD (dVarB 2) (dC (.int 1))) dNil)) dNil)) (gN 5) dYes den__law_stock_e1 [5]) dNil)))) 2
def den__law_ready_b1 : DS := (dIfS (dAnd (dTest (dOp (eqD false) (dOp ixD (dOp ixD (dOp ixD (dVarB 0) (dC (.int 1))) (dVarB 3)) (dC (.int 1))) (dVarB 2))) (dTest (dOp ltD (dOp ixD (dVarB 1) (dVarB 3)) (dOp ixD (dOp ixD (dOp ixD (dVarB 0) (dC (.int 1))) (dVarB 3)) (dC (.int 3)))))) (dRet (dC (.bool false))) dNext)
def den__law_ready : List D → Res D := runB
    (dSeq (dFor (dRng1 (dCons (dCB lenD (dCons (dOp ixD (dVarB 0) (dC (.int 1))) dNil)) dNil)) (gN 3) den__law_ready_b1)
    (dRet (dC (.bool true)))) 1
def den__law_amounts_b1 : DS := (dSeq (dAsg (dOp ixD (dOp ixD (dVarB 0) (dC (.int 1))) (dVarB 4)) (gT 4 (gsC (gN 5) (gsC (gN 6) (gsC (gN 7) (gsC (gN 8) gsN))))))
    (dSeq (dSet 9 (dOp subD (dOp mulD (dVarB 7) (dOp ixD (dVarB 2) (dVarB 5))) (dOp mulD (dVarB 8) (dOp ixD (dVarB 2) (dVarB 6)))))
    (dApp 3 (dOp addD (dOp ixD (dVarB 1) (dVarB 4)) (dVarB 9)))))
def den__law_amounts : List D → Res D := runB
    (dSeq (dSetN 3 (dLst dNil))
    (dSeq (dFor (dRng1 (dCons (dCB lenD (dCons (dOp ixD (dVarB 0) (dC (.int 1))) dNil)) dNil)) (gN 4) den__law_amounts_b1)
    (dRet (dCB tupleD (dCons (dVarB 3) dNil))))) 7
def den_amount_ranges_b1 : DS := (dSeq (dSet 7 (dCall 3 RN.den_follow (dCons (dVar 0) (dCons (dVar 4) (dCons (dVar 1) dNil)))))
    (dIfS (dTest (dIsN true (dVar 7))) (dApp 3 (dVar 7)) dNext))
def den_amount_ranges_e1 : DE := (dOp ixD (dVarB 8) (dVarB 6))
def den_amount_ranges_b2 : DS := (dFrz 3 (dSeq (dSet 7 (dLc (dItems (dVar 3)) (gN 8) dYes den_amount_ranges_e1 [8]))
    (dApp 5 (dTup (dCons (dCB (aggD minL true) (dCons (dVarB 7) dNil)) (dCons (dCB (aggD maxL true) (dCons (dVarB 7) dNil)) dNil))))))
def den_amount_ranges : List D → Res D := runB
    (dSeq (dDrop (dCall 3 RN.den_check_search (dCons (dVar 0) (dCons (dVar 1) (dCons (dVar 2) dNil)))))
    (dSeq (dSetN 3 (dLst dNil))
    (dSeq (dFor (dItems (dCall 2 RN.den_all_stocks (dCons (dCB lenD (dCons (dOp ixD (dVarB 0) (dC (.int 1))) dNil)) (dCons (dVar 2) dNil)))) (gN 4) den_amount_ranges_b1)
    (dSeq (dIfS (dNot (dTru (dVarB 3))) (dRaise "InvalidAttempts") dNext)
    (dSeq (dSetN 5 (dLst dNil))
    (dSeq (dFor (dRng1 (dCons (dCB lenD (dCons (dOp ixD (dVarB 0) (dC (.int 1))) dNil)) dNil)) (gN 6) den_amount_ranges_b2)
    (dFrz 5 (dRet (dVar 5))))))))) 6
def den_best_attempt_e1 : DE := (dCall 3 RN.den_follow (dCons (dVar 0) (dCons (dVar 8) (dCons (dVar 1) dNil))))
def den_best_attempt_t1 : DT := (dTest (dIsN true (dVar 9)))
def den_best_attempt_e2 : DE := (dVar 9)
def den_best_attempt_t2 : DT := (dTru (dCall 3 RN.den_is_ready (dCons (dVar 0) (dCons (dVar 9) (dCons (dVar 5) dNil)))))
def den_best_attempt_e3 : DE := (dVar 9)
def den_best_attempt_b1 : DS := (dSeq (dSet 6 (dCB lenD (dCons (dLc (dItems (dVar 3)) (gN 9) den_best_attempt_t2 den_best_attempt_e3 [9]) dNil)))
    (dSeq (dSet 7 (dCB maxD (dCons (dVarB 6) (dCons (dOp subD (dCB lenD (dCons (dVarB 3) dNil)) (dVarB 6)) dNil))))
    (dIfS (dAnd (dTest (dOp ltD (dVarB 7) (dCB lenD (dCons (dVarB 3) dNil)))) (dOr (dTest (dIsN false (dVar 4))) (dTest (dOp ltD (dVarB 7) (dOp ixD (dVarB 4) (dC (.int 0))))))) (dSet 4 (dTup (dCons (dVar 7) (dCons (dVar 5) dNil)))) dNext)))
def den_best_attempt : List D → Res D := runB
    (dSeq (dDrop (dCall 3 RN.den_check_search (dCons (dVar 0) (dCons (dVar 1) (dCons (dVar 2) dNil)))))
    (dSeq (dSet 3 (dLc (dItems (dCall 2 RN.den_all_stocks (dCons (dCB lenD (dCons (dOp ixD (dVarB 0) (dC (.int 1))) dNil)) (dCons (dVar 2) dNil)))) (gN 8) dYes den_best_attempt_e1 [8]))
    (dSeq (dSet 3 (dLc (dItems (dVar 3)) (gN 9) den_best_attempt_t1 den_best_attempt_e2 [9]))
    (dSeq (dIfS (dNot (dTru (dVarB 3))) (dRaise "InvalidAttempts") dNext)
    (dSeq (dSet 4 (dC .none))
    (dSeq (dFor (dRng1 (dCons (dOp ixD (dVarB 0) (dC (.int 0))) dNil)) (gN 5) den_best_attempt_b1)
    (dRet (dIf (dTest (dIsN false (dVar 4))) (dC .none) (dOp ixD (dVarB 4) (dC (.int 1))))))))))) 7
def den__law_attempts_b1 : DS := (dSeq (dSet 8 (dOp modD (dOp ixD (dVarB 4) (dOp addD (dC (.int 1)) (dVarB 7))) (dOp ixD (dVarB 2) (dC (.int 0)))))
    (dSeq (dSet 9 (dOp (eqD true) (dCall 3 RN.den__law_ready (dCons (dVar 2) (dCons (dCall 3 RN.den__law_amounts (dCons (dVar 2) (dCons (dVar 3) (dCons (dVar 6) dNil)))) (dCons (dVar 8) dNil)))) (dOp (eqD false) (dOp modD (dOp ixD (dVarB 4) (dOp addD (dC (.int 10)) (dVarB 7))) (dC (.int 12))) (dC (.int 0)))))
    (dSeq (dApp 5 (dTup (dCons (dVar 8) (dCons (dVar 9) dNil))))
    (dIfS (dTru (dVarB 9)) (dSet 6 (dOp addD (dOp addD (dSl (dVarB 6) dNoP (dP (dVarB 8))) (dTup (dCons (dOp addD (dOp ixD (dVarB 6) (dVarB 8)) (dC (.int 1))) dNil))) (dSl (dVarB 6) (dP (dOp addD (dVarB 8) (dC (.int 1)))) dNoP))) dNext))))
def den__law_attempts : List D → Res D := runB
    (dSeq (dSet 4 (dCall 2 RN.den__law_row (dCons (dVar 0) (dCons (dVar 1) dNil))))
    (dSeq (dSetN 5 (dLst dNil))
    (dSeq (dSet 6 (dCB tupleD (dCons (dOp mulD (dLst (dCons (dC (.int 0)) dNil)) (dOp ixD (dVarB 2) (dC (.int 0)))) dNil)))
    (dSeq (dFor (dRng1 (dCons (dOp modD (dOp ixD (dVarB 4) (dC (.int 0))) (dC (.int 7))) dNil)) (gN 7) den__law_attempts_b1)
    (dRet (dCB tupleD (dCons (dVarB 5) dNil))))))) 6
def den__law_follow_b1 : DS := (dSeq (dIfS (dTest (dOp (eqD true) (dCall 3 RN.den__law_ready (dCons (dVar 0) (dCons (dCall 3 RN.den__law_amounts (dCons (dVar 0) (dCons (dVar 1) (dCons (dVar 3) dNil)))) (dCons (dVar 4) dNil)))) (dVarB 5))) (dRet (dC .none)) dNext)
    (dIfS (dTru (dVarB 5)) (dSet 3 (dOp addD (dOp addD (dSl (dVarB 3) dNoP (dP (dVarB 4))) (dTup (dCons (dOp addD (dOp ixD (dVarB 3) (dVarB 4)) (dC (.int 1))) dNil))) (dSl (dVarB 3) (dP (dOp addD (dVarB 4) (dC (.int 1)))) dNoP))) dNext))
def den__law_follow : List D → Res D := runB
    (dSeq (dSet 3 (dCB tupleD (dCons (dOp mulD (dLst (dCons (dC (.int 0)) dNil)) (dOp ixD (dVarB 0) (dC (.int 0)))) dNil)))
    (dSeq (dFor (dItems (dVar 2)) (gT 2 (gsC (gN 4) (gsC (gN 5) gsN))) den__law_follow_b1)
    (dRet (dCall 3 RN.den__law_amounts (dCons (dVar 0) (dCons (dVar 1) (dCons (dVar 3) dNil))))))) 3
def den__law_every_stock_e1 : DE := (dOp addD (dVarB 5) (dTup (dCons (dVar 6) dNil)))
def den__law_every_stock_b1 : DS := (dSet 4 (dOp addD (dVarB 4) (dLc (dRng1 (dCons (dOp addD (dVarB 1) (dC (.int 1))) dNil)) (gN 6) dYes den__law_every_stock_e1 [6])))
def den__law_every_stock_b2 : DS := (dSeq (dSet 4 (dLst dNil))
    (dSeq (dFor (dItems (dVar 2)) (gN 5) den__law_every_stock_b1)
    (dSet 2 (dVar 4))))
def den__law_every_stock : List D → Res D := runB
    (dSeq (dSet 2 (dLst (dCons (dTup dNil) dNil)))
    (dSeq (dFor (dRng1 (dCons (dCB lenD (dCons (dOp ixD (dVarB 0) (dC (.int 1))) dNil)) dNil)) (gN 3) den__law_every_stock_b2)
    (dRet (dVar 2)))) 5
def den__law_hidden : List D → Res D := runB
    (dTry 4 (dSeq (dIfS (dTest (dOp (eqD false) (dVarB 0) (dC (.int 0)))) (dRet (dCall 3 RN.den_agreeing_stocks (dCons (dVar 1) (dCons (dVar 2) (dCons (dVar 3) dNil))))) dNext)
    (dRet (dIf (dTest (dOp (eqD false) (dVarB 0) (dC (.int 1)))) (dCall 3 RN.den_amount_ranges (dCons (dVar 1) (dCons (dVar 2) (dCons (dVar 3) dNil)))) (dCall 3 RN.den_best_attempt (dCons (dVar 1) (dCons (dVar 2) (dCons (dVar 3) dNil))))))) ["NetError", "InvalidNet", "InvalidAttempts", "InvalidBound", "TooLong"] [⟨"InvalidAttempts", "NetError", "InvalidBound", "attempts", "other"⟩, ⟨"InvalidBound", "NetError", "InvalidAttempts", "bound", "other"⟩, ⟨"TooLong", "NetError", "InvalidBound", "long", "other"⟩]) 1
def den_law_k16_e1 : DE := (dCall 3 RN.den__law_follow (dCons (dVar 1) (dCons (dVar 14) (dCons (dVar 3) dNil))))
def den_law_k16_t1 : DT := (dTest (dIsN true (dVar 15)))
def den_law_k16_e2 : DE := (dVar 15)
def den_law_k16_e3 : DE := (dOp ixD (dVarB 15) (dVarB 8))
def den_law_k16_b1 : DS := (dSeq (dSet 11 (dLc (dItems (dVar 4)) (gN 15) dYes den_law_k16_e3 [15]))
    (dApp 7 (dTup (dCons (dCB (aggD minL true) (dCons (dVarB 11) dNil)) (dCons (dCB (aggD maxL true) (dCons (dVarB 11) dNil)) dNil)))))
def den_law_k16_t2 : DT := (dTru (dCall 3 RN.den__law_ready (dCons (dVar 1) (dCons (dVar 15) (dCons (dVar 10) dNil)))))
def den_law_k16_e4 : DE := (dVar 15)
def den_law_k16_b2 : DS := (dSeq (dSet 12 (dCB lenD (dCons (dLc (dItems (dVar 4)) (gN 15) den_law_k16_t2 den_law_k16_e4 [15]) dNil)))
    (dSeq (dSet 13 (dCB maxD (dCons (dVarB 12) (dCons (dOp subD (dCB lenD (dCons (dVarB 4) dNil)) (dVarB 12)) dNil))))
    (dIfS (dAnd (dTest (dOp ltD (dVarB 13) (dCB lenD (dCons (dVarB 4) dNil)))) (dOr (dTest (dIsN false (dVar 9))) (dTest (dOp ltD (dVarB 13) (dOp ixD (dVarB 9) (dC (.int 0))))))) (dSet 9 (dTup (dCons (dVar 13) (dCons (dVar 10) dNil)))) dNext)))
def den_law_k16 : List D → Res D := runB
    (dSeq (dSet 1 (dCall 4 RN.den__law_net (dCons (dVar 0) (dCons (dC (.int 2)) (dCons (dC (.int 4)) (dCons (dC (.int 3)) dNil))))))
    (dSeq (dSet 2 (dC (.int 4)))
    (dSeq (dSet 3 (dCall 4 RN.den__law_attempts (dCons (dVar 0) (dCons (dC (.int 4)) (dCons (dVar 1) (dCons (dCall 4 RN.den__law_stock (dCons (dVar 0) (dCons (dC (.int 3)) (dCons (dVar 1) (dCons (dVar 2) dNil))))) dNil))))))
    (dSeq (dSet 4 (dLc (dItems (dCall 2 RN.den__law_every_stock (dCons (dVar 1) (dCons (dVar 2) dNil)))) (gN 14) dYes den_law_k16_e1 [14]))
    (dSeq (dSet 4 (dLc (dItems (dVar 4)) (gN 15) den_law_k16_t1 den_law_k16_e2 [15]))
    (dSeq (dSet 5 (dCall 4 RN.den__law_hidden (dCons (dC (.int 1)) (dCons (dVar 1) (dCons (dVar 3) (dCons (dVar 2) dNil))))))
    (dSeq (dSet 6 (dCall 4 RN.den__law_hidden (dCons (dC (.int 2)) (dCons (dVar 1) (dCons (dVar 3) (dCons (dVar 2) dNil))))))
    (dSeq (dIfS (dTest (dOp (eqD false) (dVarB 4) (dLst dNil))) (dRet (dAndV (dOp (eqD false) (dVarB 5) (dC (.str "attempts"))) (dOp (eqD false) (dVarB 6) (dC (.str "attempts"))))) dNext)
    (dSeq (dSetN 7 (dLst dNil))
    (dSeq (dFor (dRng1 (dCons (dCB lenD (dCons (dOp ixD (dVarB 1) (dC (.int 1))) dNil)) dNil)) (gN 8) den_law_k16_b1)
    (dSeq (dSet 9 (dC .none))
    (dSeq (dFor (dRng1 (dCons (dOp ixD (dVarB 1) (dC (.int 0))) dNil)) (gN 10) den_law_k16_b2)
    (dRet (dAndV (dOp (eqD false) (dVarB 5) (dVarB 7)) (dOp (eqD false) (dVarB 6) (dIf (dTest (dIsN false (dVar 9))) (dC .none) (dOp ixD (dVarB 9) (dC (.int 1))))))))))))))))))) 15
end RN

end
section
namespace RN
open PySem L2 RD
/-! ### loops over data -/
theorem forL_cons_next {g : DG} {ds : DS} {x : D} {xs : List D} {δ δ1 δ2 : DEnv} (h1 : g x δ = some δ1) (h2 : ds δ1 = .next δ2) : forL g ds (x :: xs) δ = forL g ds xs δ2 := by
  simp only [forL, h1, Opt.out, h2]
theorem forL_cons_ret {g : DG} {ds : DS} {x : D} {xs : List D} {δ δ1 : DEnv} {r : D} (h1 : g x δ = some δ1) (h2 : ds δ1 = .ret r) : forL g ds (x :: xs) δ = .ret r := by
  simp only [forL, h1, Opt.out, h2]
theorem forL_nil {g : DG} {ds : DS} {δ : DEnv} : forL g ds [] δ = .next δ := rfl
theorem rng_zero {lo : Int} : rng lo 0 = [] := rfl
theorem rng_succ {lo : Int} {n : Nat} : rng lo (n + 1) = .int lo :: rng (lo + 1) n := by
  unfold rng
  rw [List.range_succ_eq_map, List.map_cons, List.map_map]
  congr 1
  · simp
  · apply List.map_congr_left
    intro a _
    simp only [Function.comp]
    congr 1
    omega
/-- an invariant over range(n) -/
theorem forR {g : DG} {ds : DS} (P : Nat → DEnv → Prop) (n : Nat) (hs : ∀ i δ, i < n → P i δ → ∃ δ1, g (.int (i : Int)) δ = some δ1 ∧ ∃ δ2, ds δ1 = .next δ2 ∧ P (i + 1) δ2) :
    ∀ (m i : Nat) δ, i + m = n → P i δ → ∃ δ', forL g ds (rng (i : Int) m) δ = .next δ' ∧ P n δ'
  | 0, i, δ, e, p => ⟨δ, rfl, by rw [← e]; exact p⟩
  | m + 1, i, δ, e, p => by
    obtain ⟨δ1, h1, δ2, h2, h3⟩ := hs i δ (by omega) p
    rw [rng_succ, forL_cons_next h1 h2]
    have := forR P n hs m (i + 1) δ2 (by omega) h3
    simpa using this
theorem forR0 {g : DG} {ds : DS} (P : Nat → DEnv → Prop) (n : Nat) {δ : DEnv} (h0 : P 0 δ) (hs : ∀ i δ, i < n → P i δ → ∃ δ1, g (.int (i : Int)) δ = some δ1 ∧ ∃ δ2, ds δ1 = .next δ2 ∧ P (i + 1) δ2) :
    ∃ δ', forL g ds (rng 0 n) δ = .next δ' ∧ P n δ' := forR P n hs n 0 δ (by omega) h0
/-- a search over range(n): the first that returns -/
theorem forRs {g : DG} {ds : DS} (P : DEnv → Prop) (n : Nat) (q : Nat → Bool) (r : D) (hs : ∀ i δ, i < n → P δ → ∃ δ1, g (.int (i : Int)) δ = some δ1 ∧ if q i then ds δ1 = .ret r else ∃ δ2, ds δ1 = .next δ2 ∧ P δ2) :
    ∀ (m i : Nat) δ, i + m = n → P δ → (if (List.range' i m).any q then forL g ds (rng (i : Int) m) δ = .ret r else ∃ δ', forL g ds (rng (i : Int) m) δ = .next δ' ∧ P δ')
  | 0, i, δ, e, p => by simp only [List.range'_zero, List.any_nil]; exact ⟨δ, rfl, p⟩
  | m + 1, i, δ, e, p => by
    obtain ⟨δ1, h1, h2⟩ := hs i δ (by omega) p
    rw [List.range'_succ, List.any_cons, rng_succ]
    cases qi : q i with
    | true =>
      rw [qi] at h2
      simp only [Bool.true_or, if_true] at h2 ⊢
      exact forL_cons_ret h1 h2
    | false =>
      rw [qi] at h2
      simp only [Bool.false_or] at h2 ⊢
      obtain ⟨δ2, h3, h4⟩ := h2
      rw [forL_cons_next h1 h3]
      have := forRs P n q r hs m (i + 1) δ2 (by omega) h4
      simpa using this
/-- an invariant over a list of items -/
theorem forI {α : Type} {g : DG} {ds : DS} (enc : α → D) (P : List α → DEnv → Prop) (l : List α) (hs : ∀ pre x post δ, l = pre ++ x :: post → P pre δ → ∃ δ1, g (enc x) δ = some δ1 ∧ ∃ δ2, ds δ1 = .next δ2 ∧ P (pre ++ [x]) δ2) :
    ∀ (post pre : List α) δ, pre ++ post = l → P pre δ → ∃ δ', forL g ds (post.map enc) δ = .next δ' ∧ P l δ'
  | [], pre, δ, e, p => ⟨δ, rfl, by rw [← e, List.append_nil]; exact p⟩
  | x :: post, pre, δ, e, p => by
    obtain ⟨δ1, h1, δ2, h2, h3⟩ := hs pre x post δ e.symm p
    rw [List.map_cons, forL_cons_next h1 h2]
    exact forI enc P l hs post (pre ++ [x]) δ2 (by rw [← e]; simp) h3
/-! ### comprehensions over data -/
theorem compL_map {α : Type} {g : DG} {d : DT} {da : DE} {δ : DEnv} (enc : α → D) (p : α → Bool) (f : α → D) : ∀ l : List α, (∀ a ∈ l, ∃ δ1, g (enc a) δ = some δ1 ∧ d δ1 = .ok (p a) ∧ (p a = true → da δ1 = .ok (f a))) → compL g d da δ (l.map enc) = .ok ((l.filter p).map f)
  | [], _ => rfl
  | a :: l, h => by
    obtain ⟨δ1, h1, h2, h3⟩ := h a List.mem_cons_self
    have ih := compL_map enc p f l fun b hb => h b (List.mem_cons_of_mem _ hb)
    rw [List.map_cons, compL, h1]
    simp only [h2]
    cases q : p a with
    | true =>
      rw [List.filter_cons_of_pos q, List.map_cons]
      simp only [h3 q, ih, Res.bind]
    | false =>
      rw [List.filter_cons_of_neg (by rw [q]; exact Bool.false_ne_true)]
      exact ih
theorem compL_rng {g : DG} {d : DT} {da : DE} {δ : DEnv} (p : Nat → Bool) (f : Nat → D) (n : Nat) (h : ∀ i, i < n → ∃ δ1, g (.int (i : Int)) δ = some δ1 ∧ d δ1 = .ok (p i) ∧ (p i = true → da δ1 = .ok (f i))) : compL g d da δ (rng 0 n) = .ok (((List.range n).filter p).map f) := by
  have e : rng 0 n = (List.range n).map fun i : Nat => PyData.int (i : Int) := by
    unfold rng
    apply List.map_congr_left
    intro a _
    congr 1
    omega
  rw [e]
  exact compL_map (fun i : Nat => PyData.int (i : Int)) p f (List.range n) fun a ha => h a (List.mem_range.mp ha)
theorem filter_true {α : Type} (l : List α) : l.filter (fun _ => true) = l := by simp
/-! ### operations -/
theorem addI {i j : Int} : addD (.int i) (.int j) = some (.int (i + j)) := rfl
theorem subI {i j : Int} : subD (.int i) (.int j) = some (.int (i - j)) := rfl
theorem mulI {i j : Int} (h : -18446744073709551616 < j ∧ j < 18446744073709551616) : mulD (.int i) (.int j) = some (.int (i * j)) := if_pos (Or.inr h)
theorem mulI' {i j : Int} (h : -18446744073709551616 < i ∧ i < 18446744073709551616) : mulD (.int i) (.int j) = some (.int (i * j)) := if_pos (Or.inl h)
theorem divI {i j : Int} (h : 0 < j ∧ j < 1073741824) : fdivD (.int i) (.int j) = some (.int (i / j)) := if_pos h
theorem modI {i j : Int} (h : 0 < j) : modD (.int i) (.int j) = some (.int (i % j)) := if_pos h
theorem ltI {i j : Int} : ltD (.int i) (.int j) = some (.bool (decide (i < j))) := rfl
theorem leI {i j : Int} : leD (.int i) (.int j) = some (.bool (decide (i ≤ j))) := rfl
theorem gtI {i j : Int} : gtD (.int i) (.int j) = some (.bool (decide (j < i))) := rfl
theorem geI {i j : Int} : geD (.int i) (.int j) = some (.bool (decide (j ≤ i))) := rfl
theorem eqI {i j : Int} : eqD false (.int i) (.int j) = some (.bool (decide (i = j))) := rfl
theorem neI {i j : Int} : eqD true (.int i) (.int j) = some (.bool (!decide (i = j))) := rfl
theorem powC : powD (.int 10) (.int 18) = some (.int 1000000000000000000) := by
  show (if CPow 10 18 then some (PyData.int (10 ^ (18 : Int).toNat)) else none) = _
  rw [if_pos (by decide)]
  rfl
theorem szT {α : Type} {n : Nat} {a b : α} (h : n ≤ 1000000) : (if Sz n then a else b) = a := if_pos h
theorem rngT {α : Type} {j : Int} {a b : α} (h0 : -4611686018427387904 ≤ j) (h1 : j < 4611686018427387904) : (if -4611686018427387904 ≤ j ∧ j < 4611686018427387904 then a else b) = a := if_pos ⟨h0, h1⟩
theorem rng_len {lo : Int} {n : Nat} : (rng lo n).length = n := by unfold rng; rw [List.length_map, List.length_range]
theorem ixL {l : List D} {i : Int} : ixD (.list l) (.int i) = atI l i := rfl
theorem ixT {l : List D} {i : Int} : ixD (.tuple l) (.int i) = atI l i := rfl
theorem rng1_ok {dr : DA} {δ : DEnv} {n : Int} (h : dr δ = .ok [.int n]) (h0 : -1000000000 ≤ n) (h1 : n ≤ 1000000000) : dRng1 dr δ = .ok (rng 0 n.toNat) := by
  unfold dRng1
  rw [h]
  exact if_pos ⟨by omega, by omega⟩
/-! ### items -/
theorem atI_in {α : Type} {xs : List α} {i : Int} (h0 : 0 ≤ i) (h1 : i < xs.length) : atI xs i = xs[i.toNat]? := by
  unfold atI ixN
  rw [if_pos h0, if_pos h1]
  rfl
theorem atI_int {l : List Int} {i : Int} (h0 : 0 ≤ i) (h1 : i < l.length) : atI (l.map PyData.int) i = some (.int (l.getD i.toNat 0)) := by
  rw [atI_in h0 (by rw [List.length_map]; exact h1), List.getElem?_map]
  have : i.toNat < l.length := by omega
  rw [List.getElem?_eq_getElem this, List.getD_eq_getElem?_getD, List.getElem?_eq_getElem this]
  rfl
abbrev encI (l : List Int) : List D := l.map PyData.int
theorem ixI {l : List Int} {i : Int} (h0 : 0 ≤ i) (h1 : i < l.length) : atI (encI l) i = some (.int (l.getD i.toNat 0)) := atI_int h0 h1
theorem at0 {α : Type} {x : α} {l : List α} : atI (x :: l) 0 = some x := by
  rw [atI_in (by omega) (by simp)]
  rfl
theorem at1 {α : Type} {x y : α} {l : List α} : atI (x :: y :: l) 1 = some y := by
  rw [atI_in (by omega) (by simp; omega)]
  rfl
theorem at2 {α : Type} {x y z : α} {l : List α} : atI (x :: y :: z :: l) 2 = some z := by
  rw [atI_in (by omega) (by simp; omega)]
  rfl
theorem at3 {α : Type} {x y z u : α} {l : List α} : atI (x :: y :: z :: u :: l) 3 = some u := by
  rw [atI_in (by omega) (by simp; omega)]
  rfl
/-! ### the script's cells and rows -/
def cellZ (ns : List Int) (k : Int) : Int := ns.getD k.toNat 0
theorem e_cell (ns : List Int) (k : Int) (hk : 0 ≤ k) : den__law_cell [scrD ns, .int k] = .ok (.int (cellZ ns k)) := by
  unfold den__law_cell runB
  simp only [List.map_cons, List.map_nil, List.replicate_zero, List.append_nil, List.cons_append, List.nil_append, dSeq, dIfS, dTest, dOp, dVarB, dCB, dCons, dNil, dRet, dC, Res.bind, Res.out, Res.ofO, lenD, scrD, ltD, i2, List.getElem?_cons_zero, List.getElem?_cons_succ, List.length_map, dNext, ixD]
  by_cases h : k < (ns.length : Int)
  · simp only [h, decide_true, if_true]
    rw [atI_int hk h]
    rfl
  · simp only [h, decide_false, if_false, Bool.false_eq_true]
    unfold cellZ
    rw [List.getD_eq_getElem?_getD, List.getElem?_eq_none (by omega)]
    rfl
/-! ### evaluation, step by step -/
section
variable {α β : Type} {a : α} {f : α → Res β} {g : α → Out} {δ δ' : DEnv} {n : Str} {p : Option (Str × D)} {d : D} {da db dc : DE} {dr : DA} {dt dt' : DT} {ds du : DS} {i j k m : Nat} {xs : List D} {x y : D}
theorem bind_ok : (Res.ok a).bind f = f a := rfl
theorem bind_exc : (Res.exc n p : Res α).bind f = .exc n p := rfl
theorem bind_stuck : (Res.stuck : Res α).bind f = .stuck := rfl
theorem ofO_some : Res.ofO (some a) = .ok a := rfl
theorem out_ok : (Res.ok a).out δ g = g a := rfl
theorem out_exc : (Res.exc n p : Res α).out δ g = .exc n p δ := rfl
theorem oout_some : Opt.out (some a) g = g a := rfl
def seqO (o : Out) (e : DS) : Out := match o with
  | .next δ' => e δ'
  | o => o
theorem x_seq : dSeq ds du δ = seqO (ds δ) du := rfl
theorem seq_next : seqO (.next δ) ds = ds δ := rfl
theorem seq_ret : seqO (.ret d) ds = .ret d := rfl
theorem seq_exc : seqO (.exc n p δ) ds = .exc n p δ := rfl
theorem seq_brk : seqO (.brk δ) ds = .brk δ := rfl
theorem seq_cont : seqO (.cont δ) ds = .cont δ := rfl
def finO : Out → Res D
  | .next _ => .ok .none
  | .ret d => .ok d
  | .exc n p _ => .exc n p
  | _ => .stuck
theorem x_run : runB ds m xs = finO (ds (xs.map .val ++ List.replicate m .no)) := rfl
theorem fin_next : finO (.next δ) = .ok .none := rfl
theorem fin_ret : finO (.ret d) = .ok d := rfl
theorem fin_exc : finO (.exc n p δ) = .exc n p := rfl
def varO : Option Sl → Res D
  | some (.val d) => .ok d
  | _ => .stuck
def varOB : Option Sl → Res D
  | some (.val d) => .ok d
  | some (.own d) => .ok d
  | _ => .stuck
theorem x_var : dVar i δ = varO δ[i]? := rfl
theorem x_varB : dVarB i δ = varOB δ[i]? := rfl
theorem var_val : varO (some (.val d)) = .ok d := rfl
theorem varB_val : varOB (some (.val d)) = .ok d := rfl
theorem varB_own : varOB (some (.own d)) = .ok d := rfl
theorem x_op {g : D → D → Option D} : dOp g da db δ = (da δ).bind fun d => (db δ).bind fun e => Res.ofO (g d e) := rfl
theorem x_c : dC d δ = .ok d := rfl
def testO : D → Res Bool
  | .bool b => .ok b
  | _ => .stuck
theorem x_test : dTest da δ = (da δ).bind testO := rfl
theorem test_b {b : Bool} : testO (.bool b) = .ok b := rfl
theorem x_cb {g : List D → Option D} : dCB g dr δ = (dr δ).bind fun xs => Res.ofO (g xs) := rfl
theorem x_nil : dNil δ = .ok [] := rfl
theorem x_cons : dCons da dr δ = (da δ).bind fun x => (dr δ).bind fun xs => .ok (x :: xs) := rfl
theorem x_ret : dRet da δ = (da δ).out δ .ret := rfl
theorem x_drop : dDrop da δ = (da δ).out δ fun _ => .next δ := rfl
theorem x_set : dSet i da δ = (da δ).out δ fun x => .next (δ.set i (.val x)) := rfl
theorem x_setN : dSetN i da δ = (da δ).out δ fun x => .next (δ.set i (.own x)) := rfl
theorem x_next : dNext δ = .next δ := rfl
def appO (i : Nat) (r : Res D) (δ : DEnv) : Option Sl → Out
  | some (.own (.list xs)) => r.out δ fun x => if Sz xs.length then .next (δ.set i (.own (.list (xs ++ [x])))) else .stuck
  | _ => .stuck
theorem x_app : dApp i da δ = appO i (da δ) δ δ[i]? := rfl
theorem app_own (h : xs.length ≤ 1000000) : appO i (.ok x) δ (some (.own (.list xs))) = .next (δ.set i (.own (.list (xs ++ [x])))) := if_pos h
def extO (i : Nat) (r : Res D) (δ : DEnv) : Option Sl → Out
  | some (.own (.list xs)) => r.out δ fun x => match x with
    | .list ys => if Sz (xs.length + ys.length) then .next (δ.set i (.own (.list (xs ++ ys)))) else .stuck
    | _ => .stuck
  | _ => .stuck
theorem x_ext : dExt i da δ = extO i (da δ) δ δ[i]? := rfl
theorem ext_own {ys : List D} (h : xs.length + ys.length ≤ 1000000) : extO i (.ok (.list ys)) δ (some (.own (.list xs))) = .next (δ.set i (.own (.list (xs ++ ys)))) := if_pos h
def setIxO (i : Nat) (rk rv : Res D) (δ : DEnv) : Option Sl → Out
  | some (.own (.list xs)) => rv.out δ fun v => rk.out δ fun k => Opt.out (setD xs v k) fun ys => .next (δ.set i (.own (.list ys)))
  | _ => .stuck
theorem x_setIx : dSetIx i da db δ = setIxO i (da δ) (db δ) δ δ[i]? := rfl
theorem setIx_own {v : D} {q : Int} (h0 : 0 ≤ q) (h1 : q < xs.length) : setIxO i (.ok (.int q)) (.ok v) δ (some (.own (.list xs))) = .next (δ.set i (.own (.list (xs.set q.toNat v)))) := by
  show Opt.out ((ixN xs.length q).map fun j => xs.set j v) _ = _
  unfold ixN
  rw [if_pos h0, if_pos h1]
  rfl
def parO (i j : Nat) (δ : DEnv) : List D → Out
  | [x, y] => .next ((δ.set i (.val x)).set j (.val y))
  | _ => .stuck
theorem x_par : dPar i j dr δ = (dr δ).out δ (parO i j δ) := rfl
theorem par_2 : parO i j δ [x, y] = .next ((δ.set i (.val x)).set j (.val y)) := rfl
def augO (i : Nat) (f : Int → Int → Int) (r : Res D) (δ : DEnv) : Option Sl → Out
  | some (.val (.int k)) => r.out δ fun y => match y with
    | .int m => .next (δ.set i (.val (.int (f k m))))
    | _ => .stuck
  | _ => .stuck
theorem x_aug {f : Int → Int → Int} : dAug i f da δ = augO i f (da δ) δ δ[i]? := rfl
theorem aug_val {f : Int → Int → Int} {u v : Int} : augO i f (.ok (.int v)) δ (some (.val (.int u))) = .next (δ.set i (.val (.int (f u v)))) := rfl
def frzO (i : Nat) (δ : DEnv) : Option Sl → Option DEnv
  | some (.own (.list xs)) => some (δ.set i (.val (.list xs)))
  | some (.val _) => some δ
  | _ => none
theorem x_frz : dFrz i ds δ = Opt.out (frzO i δ δ[i]?) ds := rfl
theorem frz_own : frzO i δ (some (.own (.list xs))) = some (δ.set i (.val (.list xs))) := rfl
theorem frz_val : frzO i δ (some (.val d)) = some δ := rfl
def augMO (i : Nat) (r : Res D) (δ : DEnv) : Option Sl → Out
  | some (.val (.int k)) => r.out δ fun y => match y with
    | .int m => if CMul k m then .next (δ.set i (.val (.int (k * m)))) else .stuck
    | _ => .stuck
  | _ => .stuck
theorem x_augM : dAugM i da δ = augMO i (da δ) δ δ[i]? := rfl
theorem augM_val {u v : Int} (h : -18446744073709551616 < v ∧ v < 18446744073709551616) : augMO i (.ok (.int v)) δ (some (.val (.int u))) = .next (δ.set i (.val (.int (u * v)))) := if_pos (Or.inr h)
def enumO : List D → Res (List D)
  | [.tuple x] => .ok (enumD x)
  | _ => .stuck
theorem x_enum : dEnum dr δ = (dr δ).bind enumO := rfl
theorem enum_t : enumO [.tuple xs] = .ok (enumD xs) := rfl
theorem x_asg {g : DG} : dAsg da g δ = (da δ).out δ fun x => Opt.out (g x δ) .next := rfl
theorem x_tup : dTup dr δ = (dr δ).bind fun xs => if Sz xs.length then .ok (.tuple xs) else .stuck := rfl
theorem x_lst : dLst dr δ = (dr δ).bind fun xs => if Sz xs.length then .ok (.list xs) else .stuck := rfl
theorem x_ifS : dIfS dt ds du δ = (dt δ).out δ fun k => if k then ds δ else du δ := rfl
theorem x_if : dIf dt da db δ = (dt δ).bind fun k => if k then da δ else db δ := rfl
theorem x_and : dAnd dt dt' δ = (dt δ).bind fun k => if k then dt' δ else .ok false := rfl
theorem x_or : dOr dt dt' δ = (dt δ).bind fun k => if k then .ok true else dt' δ := rfl
theorem x_not : dNot dt δ = (dt δ).bind fun k => .ok (!k) := rfl
def andO (r : Res D) : D → Res D
  | .bool true => r
  | .bool false => .ok (.bool false)
  | _ => .stuck
def orO (r : Res D) : D → Res D
  | .bool true => .ok (.bool true)
  | .bool false => r
  | _ => .stuck
theorem x_andV : dAndV da db δ = (da δ).bind (andO (db δ)) := by
  unfold dAndV andO
  rfl
theorem x_orV : dOrV da db δ = (da δ).bind (orO (db δ)) := by
  unfold dOrV orO
  rfl
theorem and_b {r : Res D} {b : Bool} : andO r (.bool b) = if b then r else .ok (.bool false) := by cases b <;> rfl
theorem or_b {r : Res D} {b : Bool} : orO r (.bool b) = if b then .ok (.bool true) else r := by cases b <;> rfl
theorem x_notV : dNotV da δ = (da δ).bind fun x => (Res.ofO (truD x)).bind fun k => .ok (.bool (!k)) := rfl
theorem x_tru : dTru da δ = (da δ).bind fun x => Res.ofO (truD x) := rfl
theorem tru_b {b : Bool} : truD (.bool b) = some b := rfl
theorem tru_i {q : Int} : truD (.int q) = some (q != 0) := rfl
theorem tru_l : truD (.list xs) = some (!xs.isEmpty) := rfl
theorem tru_t : truD (.tuple xs) = some (!xs.isEmpty) := rfl
theorem tru_n : truD .none = some false := rfl
def isNO (neg : Bool) : D → Res D
  | .none => .ok (.bool (!neg))
  | _ => .ok (.bool neg)
theorem x_isN {neg : Bool} : dIsN neg da δ = (da δ).bind (isNO neg) := rfl
theorem isN_n {neg : Bool} : isNO neg .none = .ok (.bool (!neg)) := rfl
theorem isN_i {neg : Bool} {q : Int} : isNO neg (.int q) = .ok (.bool neg) := rfl
theorem isN_t {neg : Bool} : isNO neg (.tuple xs) = .ok (.bool neg) := rfl
theorem isN_l {neg : Bool} : isNO neg (.list xs) = .ok (.bool neg) := rfl
theorem isN_b {neg b : Bool} : isNO neg (.bool b) = .ok (.bool neg) := rfl
theorem x_un {g : D → Option D} : dUn g da δ = (da δ).bind fun x => Res.ofO (g x) := rfl
theorem neg_i {q : Int} : negD (.int q) = some (.int (-q)) := rfl
def chO (r : Res D) : D → Res D
  | .bool true => r
  | .bool false => .ok (.bool false)
  | _ => .stuck
theorem x_chain {g g' : D → D → Option D} : dChain g g' da db dc δ = (da δ).bind fun x => (db δ).bind fun y => (Res.ofO (g x y)).bind (chO ((dc δ).bind fun w => Res.ofO (g' y w))) := by
  unfold dChain chO
  rfl
theorem ch_b {r : Res D} {b : Bool} : chO r (.bool b) = if b then r else .ok (.bool false) := by cases b <;> rfl
theorem x_noP : dNoP δ = .ok none := rfl
def pO : D → Res (Option Int)
  | .int i => .ok (some i)
  | _ => .stuck
theorem x_P : dP da δ = (da δ).bind pO := rfl
theorem p_i {q : Int} : pO (.int q) = .ok (some q) := rfl
theorem x_sl {dl dh : DEnv → Res (Option Int)} : dSl da dl dh δ = (da δ).bind fun x => (dl δ).bind fun lo => (dh δ).bind fun hi => Res.ofO (slD x lo hi) := rfl
theorem sl_l {lo hi : Option Int} : slD (.list xs) lo hi = some (.list (cutD xs lo hi)) := rfl
theorem sl_t {lo hi : Option Int} : slD (.tuple xs) lo hi = some (.tuple (cutD xs lo hi)) := rfl
theorem x_isi {T : Ty} : dIsi T da δ = (da δ).bind fun x => (Res.ofO (isiD T x)).bind fun k => .ok (.bool k) := rfl
theorem x_call {den : List D → Res D} : dCall k den dr δ = (dr δ).bind fun xs => if xs.length = k then den xs else .stuck := rfl
theorem x_raise : dRaise n δ = .exc n none δ := rfl
theorem x_items : dItems da δ = (da δ).bind fun x => Res.ofO (itemsD x) := rfl
theorem items_l : itemsD (.list xs) = some xs := rfl
theorem items_t : itemsD (.tuple xs) = some xs := rfl
def rng1O : List D → Res (List D)
  | [.int j] => if -(2 ^ 62) ≤ j ∧ j < 2 ^ 62 then .ok (rng 0 j.toNat) else .stuck
  | _ => .stuck
def rng2O : List D → Res (List D)
  | [.int i, .int j] => if -(2 ^ 62) ≤ i ∧ i < 2 ^ 62 ∧ -(2 ^ 62) ≤ j ∧ j < 2 ^ 62 then .ok (rng i (j - i).toNat) else .stuck
  | _ => .stuck
theorem x_rng1 : dRng1 dr δ = (dr δ).bind rng1O := rfl
theorem x_rng2 : dRng2 dr δ = (dr δ).bind rng2O := rfl
theorem rng1_i {j : Int} (h : j.natAbs ≤ 1000000) : rng1O [.int j] = .ok (rng 0 j.toNat) := if_pos ⟨by omega, by omega⟩
theorem rng2_i {i j : Int} (h0 : i.natAbs ≤ 1000000) (h2 : j.natAbs ≤ 1000000) : rng2O [.int i, .int j] = .ok (rng i (j - i).toNat) := if_pos ⟨by omega, by omega, by omega, by omega⟩
def zipO : List D → Res (List D)
  | [.list x, .list y] => .ok (zipD x y)
  | [.tuple x, .tuple y] => .ok (zipD x y)
  | _ => .stuck
theorem x_zip : dZip dr δ = (dr δ).bind zipO := rfl
theorem zip_l {ys : List D} : zipO [.list xs, .list ys] = .ok (zipD xs ys) := rfl
theorem zip_t {ys : List D} : zipO [.tuple xs, .tuple ys] = .ok (zipD xs ys) := rfl
theorem x_for {di : DI} {g : DG} : dFor di g ds δ = (di δ).out δ fun xs => forL g ds xs δ := rfl
theorem x_lc {di : DI} {g : DG} {vs : List Nat} : dLc di g dt da vs δ = (di δ).bind fun xs => if Sz xs.length then (compL g dt da (wipeD δ vs) xs).bind fun ys => .ok (.list ys) else .stuck := rfl
theorem x_yes : dYes δ = .ok true := rfl
theorem x_gN : gN i d δ = some (δ.set i (.val d)) := rfl
theorem gsN_nil : gsN [] δ = some δ := rfl
theorem gsC_cons {g : DG} {r : DGs} : gsC g r (x :: xs) δ = (g x δ).bind (r xs) := rfl
theorem gT_tup {g : DGs} (h : xs.length = k) : gT k g (.tuple xs) δ = g xs δ := if_pos h
theorem obind_some {f : α → Option β} : (some a).bind f = f a := rfl
theorem len_l : lenD [.list xs] = some (.int xs.length) := rfl
theorem len_t : lenD [.tuple xs] = some (.int xs.length) := rfl
theorem len_s {ns : List Int} : lenD [scrD ns] = some (.int ns.length) := by
  show some (PyData.int ((ns.map PyData.int).length : Int)) = _
  rw [List.length_map]
theorem int_i {q : Int} : intD [.int q] = some (.int q) := rfl
theorem int_b {b : Bool} : intD [.bool b] = some (.int (if b then 1 else 0)) := rfl
theorem max_i {u v : Int} : maxD [.int u, .int v] = some (.int (if v > u then v else u)) := rfl
theorem min_i {u v : Int} : minD [.int u, .int v] = some (.int (if v < u then v else u)) := rfl
theorem tuple_l : tupleD [.list xs] = some (.tuple xs) := rfl
theorem tuple_t : tupleD [.tuple xs] = some (.tuple xs) := rfl
theorem list_l : listD [.list xs] = some (.list xs) := rfl
theorem list_t : listD [.tuple xs] = some (.list xs) := rfl
end
end RN

end
section
namespace RN
open PySem L2 RD
local macro_rules | `(tactic| walk_at "ev") => `(tactic| simp -implicitDefEqProofs (disch := first | omega | (simp only [List.length_map, List.length_append, List.length_cons, List.length_nil, rng_len]; omega)) only [x_run, x_seq, seq_next, seq_ret, seq_exc, seq_brk, seq_cont, fin_next, fin_ret, fin_exc, bind_ok, bind_exc, ofO_some, out_ok, out_exc, oout_some, x_var, x_varB, var_val, varB_val, varB_own, x_op, x_c, x_test, test_b, x_cb, x_nil, x_cons, x_ret, x_drop, x_set, x_setN, x_next, x_app, app_own, x_ext, ext_own, x_setIx, setIx_own, x_par, par_2, x_aug, aug_val, x_frz, frz_own, x_asg, x_tup, x_lst, x_ifS, x_if, x_and, x_or, x_not, x_andV, x_orV, and_b, or_b, x_notV, x_tru, tru_b, tru_i, tru_l, tru_t, tru_n, x_isN, isN_n, isN_i, isN_t, isN_l, isN_b, x_un, neg_i, x_chain, ch_b, x_noP, x_P, p_i, x_sl, sl_l, sl_t, x_isi, isiD, x_call, x_raise, x_items, items_l, items_t, x_rng1, x_rng2, rng1_i, rng2_i, x_zip, zip_l, zip_t, x_for, x_lc, x_yes, x_gN, gsN_nil, gsC_cons, gT_tup, obind_some, len_l, len_t, len_s, int_i, int_b, max_i, min_i, tuple_l, tuple_t, list_l, list_t, ltI, leI, gtI, geI, eqI, neI, addI, subI, mulI, mulI', divI, modI, powC, szT, rng_len, ixL, ixT, at0, at1, at2, at3, ixI, wipeD, List.map_cons, List.map_nil, List.replicate_succ, List.replicate_zero, List.append_nil, List.cons_append, List.nil_append, List.getElem?_cons_zero, List.getElem?_cons_succ, List.set_cons_zero, List.set_cons_succ, List.length_map, List.length_cons, List.length_nil, decide_eq_true_eq, decide_true, decide_false, if_true, if_false, Bool.false_eq_true, Bool.not_true, Bool.not_false, ite_true, ite_false, Nat.reduceAdd, Nat.reduceEqDiff, Int.reduceToNat, and_true, true_and, and_self, Nat.zero_add])

structure Row (ds : List Int) : Prop where
  len : ds.length = 60
  ran : ∀ d ∈ ds, 0 ≤ d ∧ d < 1000
theorem e_row (ns : List Int) (k : Int) (hk : 0 ≤ k) : ∃ ds, Row ds ∧ den__law_row [scrD ns, .int k] = .ok (.list (encI ds)) := by
  unfold den__law_row
  have e1 := e_cell ns k hk
  walk_at "ev"
  generalize hf : den__law_cell = f at e1 ⊢
  simp only [e1]
  walk_at "ev"
  have step : ∀ (i : Nat) (δ : DEnv), i < 60 → (∃ cell ds v, δ = [Sl.val (scrD ns), Sl.val (PyData.int k), Sl.val (PyData.int cell), Sl.own (PyData.list (encI ds)), v] ∧ ds.length = i ∧ ∀ d ∈ ds, 0 ≤ d ∧ d < 1000) →
      ∃ δ1, gN 4 (.int (i : Int)) δ = some δ1 ∧ ∃ δ2, den__law_row_b1 δ1 = .next δ2 ∧ (∃ cell ds v, δ2 = [Sl.val (scrD ns), Sl.val (PyData.int k), Sl.val (PyData.int cell), Sl.own (PyData.list (encI ds)), v] ∧ ds.length = i + 1 ∧ ∀ d ∈ ds, 0 ≤ d ∧ d < 1000) := by
    intro i δ hi p
    obtain ⟨cell, ds, v, rfl, h3, h4⟩ := p
    have hs : ds.length ≤ 1000000 := by omega
    have app : ∀ z, encI ds ++ [PyData.int z] = encI (ds ++ [z]) := fun z => by simp [encI]
    have e2 := e_cell ns ((k + 1 + (i : Int)) % 20) (by omega)
    refine ⟨_, rfl, ?_⟩
    walk_at "ev"
    unfold den__law_row_b1
    walk_at "ev"
    simp only [e_cell ns k hk]
    by_cases hc : cellZ ns k < 1000000000000000000
    · walk_at "ev"
      simp only [e2, hc]
      walk_at "ev"
      refine ⟨_, rfl, _, ds ++ [_], _, by rw [app], by simp [h3], fun d hd => ?_⟩
      rcases List.mem_append.mp hd with hd | hd
      · exact h4 d hd
      · rw [List.mem_singleton.mp hd]
        omega
    · walk_at "ev"
      simp only [hc]
      walk_at "ev"
      refine ⟨_, rfl, _, ds ++ [_], _, by rw [app], by simp [h3], fun d hd => ?_⟩
      rcases List.mem_append.mp hd with hd | hd
      · exact h4 d hd
      · rw [List.mem_singleton.mp hd]
        omega
  obtain ⟨δ', h1, cell, ds, v, rfl, h3, h4⟩ := forR0 (g := gN 4) (ds := den__law_row_b1) (δ := [Sl.val (scrD ns), Sl.val (PyData.int k), Sl.val (PyData.int (cellZ ns k)), Sl.own (PyData.list []), Sl.no]) _ 60 ⟨_, [], _, rfl, rfl, fun _ h => nomatch h⟩ step
  rw [h1]
  walk_at "ev"
  exact ⟨ds, ⟨h3, h4⟩, rfl⟩
end RN

end
section
namespace RN
open PySem L2 RD
local macro_rules | `(tactic| walk_at "ev") => `(tactic| simp -implicitDefEqProofs (disch := first | omega | (simp only [List.length_map, List.length_append, List.length_cons, List.length_nil, rng_len]; omega)) only [x_run, x_seq, seq_next, seq_ret, seq_exc, seq_brk, seq_cont, fin_next, fin_ret, fin_exc, bind_ok, bind_exc, ofO_some, out_ok, out_exc, oout_some, x_var, x_varB, var_val, varB_val, varB_own, x_op, x_c, x_test, test_b, x_cb, x_nil, x_cons, x_ret, x_drop, x_set, x_setN, x_next, x_app, app_own, x_ext, ext_own, x_setIx, setIx_own, x_par, par_2, x_aug, aug_val, x_frz, frz_own, x_asg, x_tup, x_lst, x_ifS, x_if, x_and, x_or, x_not, x_andV, x_orV, and_b, or_b, x_notV, x_tru, tru_b, tru_i, tru_l, tru_t, tru_n, x_isN, isN_n, isN_i, isN_t, isN_l, isN_b, x_un, neg_i, x_chain, ch_b, x_noP, x_P, p_i, x_sl, sl_l, sl_t, x_isi, isiD, x_call, x_raise, x_items, items_l, items_t, x_rng1, x_rng2, rng1_i, rng2_i, x_zip, zip_l, zip_t, x_for, x_lc, x_yes, x_gN, gsN_nil, gsC_cons, gT_tup, obind_some, len_l, len_t, len_s, int_i, int_b, max_i, min_i, tuple_l, tuple_t, list_l, list_t, ltI, leI, gtI, geI, eqI, neI, addI, subI, mulI, mulI', divI, modI, powC, szT, rng_len, ixL, ixT, at0, at1, at2, at3, ixI, wipeD, List.map_cons, List.map_nil, List.replicate_succ, List.replicate_zero, List.append_nil, List.cons_append, List.nil_append, List.getElem?_cons_zero, List.getElem?_cons_succ, List.set_cons_zero, List.set_cons_succ, List.length_map, List.length_cons, List.length_nil, decide_eq_true_eq, decide_true, decide_false, if_true, if_false, Bool.false_eq_true, Bool.not_true, Bool.not_false, ite_true, ite_false, Nat.reduceAdd, Nat.reduceEqDiff, Int.reduceToNat, and_true, true_and, and_self, Nat.zero_add])

theorem Row.at {ds : List Int} (r : Row ds) (i : Nat) : 0 ≤ ds.getD i 0 ∧ ds.getD i 0 < 1000 := by
  rw [List.getD_eq_getElem?_getD]
  cases q : ds[i]? with
  | none => simp
  | some d => exact r.ran d (List.mem_of_getElem? q)
/-! ### nets -/
structure Ch where
  g : Int
  t : Int
  gv : Int
  tk : Int
structure Net where
  s : Int
  cs : List Ch
def encC (c : Ch) : D := .tuple [.int c.g, .int c.t, .int c.gv, .int c.tk]
def encN (n : Net) : D := .tuple [.int n.s, .tuple (n.cs.map encC)]
structure Ch.Ok (s : Int) (c : Ch) : Prop where
  g0 : 0 ≤ c.g
  g1 : c.g < s
  t0 : 0 ≤ c.t
  t1 : c.t < s
  ne : c.g ≠ c.t
  v0 : 1 ≤ c.gv
  v1 : c.gv ≤ 4
  k0 : 1 ≤ c.tk
  k1 : c.tk ≤ 4
structure Net.Ok (n : Net) : Prop where
  s0 : 1 ≤ n.s
  s1 : n.s ≤ 4
  len : n.cs.length ≤ 5
  ch : ∀ c ∈ n.cs, c.Ok n.s
theorem e_gcd4 {a b : Int} (ha : 1 ≤ a ∧ a ≤ 4) (hb : 1 ≤ b ∧ b ≤ 4) : ∃ g, den__law_gcd [.int a, .int b] = .ok (.int g) ∧ 1 ≤ g ∧ g ≤ 4 ∧ 1 ≤ a / g ∧ a / g ≤ 4 ∧ 1 ≤ b / g ∧ b / g ≤ 4 := by
  have h1 : a = 1 ∨ a = 2 ∨ a = 3 ∨ a = 4 := by omega
  have h2 : b = 1 ∨ b = 2 ∨ b = 3 ∨ b = 4 := by omega
  rcases h1 with rfl | rfl | rfl | rfl <;> rcases h2 with rfl | rfl | rfl | rfl <;> exact ⟨_, rfl, by decide⟩
theorem mod_rng (a m : Int) (h : 0 < m) : 0 ≤ a % m ∧ a % m < m := ⟨Int.emod_nonneg _ (by omega), Int.emod_lt_of_pos _ h⟩
theorem getD_all {p : Int → Prop} {l : List Int} (h : ∀ x ∈ l, p x) {i : Nat} (hi : i < l.length) : p (l.getD i 0) := by
  rw [List.getD_eq_getElem?_getD, List.getElem?_eq_getElem hi]
  exact h _ (List.getElem_mem hi)
def hidL : List Int := [1, 1, 2, 2, 3, 4]
theorem net_hid {a0 a1 a2 a3 a5 : Sl} {ds : List Int} (r : Row ds) {n : Nat} (hn : n ≤ 4) : ∃ hid : List Int, hid.length = n ∧ (∀ h ∈ hid, 1 ≤ h ∧ h ≤ 4) ∧
    compL (gN 14) dYes den__law_net_e1 [a0, a1, a2, a3, Sl.val (PyData.list (encI ds)), a5, Sl.no, Sl.no, Sl.no, Sl.no, Sl.no, Sl.no, Sl.no, Sl.no, Sl.no] (rng 0 n) = .ok (encI hid) := by
  have hl := r.len
  refine ⟨(List.range n).map fun i : Nat => hidL.getD (ds.getD (1 + (i : Int)).toNat 0 % 6).toNat 0, by simp, fun h hh => ?_, ?_⟩
  · obtain ⟨i, hi, rfl⟩ := List.mem_map.mp hh
    have := mod_rng (ds.getD (1 + (i : Int)).toNat 0) 6 (by omega)
    exact getD_all (p := fun h => 1 ≤ h ∧ h ≤ 4) (by unfold hidL; decide) (by unfold hidL; simp; omega)
  · rw [compL_rng (fun _ => true) (fun i => .int (hidL.getD (ds.getD (1 + (i : Int)).toNat 0 % 6).toNat 0)) n, filter_true]
    · simp only [encI, List.map_map]
      rfl
    · intro i hi
      refine ⟨_, rfl, rfl, fun _ => ?_⟩
      unfold den__law_net_e1
      have m := mod_rng (ds.getD (1 + (i : Int)).toNat 0) 6 (by omega)
      walk_at "ev"
      have e : [PyData.int 1, PyData.int 1, PyData.int 2, PyData.int 2, PyData.int 3, PyData.int 4] = encI hidL := rfl
      rw [e, ixI m.1 (by unfold hidL; simp; omega)]
      rfl
theorem net_step {a0 a1 a2 a3 v9 v10 v11 v12 v13 v14 : Sl} {ds hid : List Int} (r : Row ds) {s : Int} (hs1 : 2 ≤ s) (hs : s ≤ 4) (hh : hid.length = s.toNat) (hv : ∀ h ∈ hid, 1 ≤ h ∧ h ≤ 4) {cs : List Ch} {i : Nat} (hi : i < 5) (hc : cs.length = i) (ho : ∀ c ∈ cs, c.Ok s) :
    ∃ c w9 w10 w11 w12 w13, Ch.Ok s c ∧ den__law_net_b1 [a0, a1, a2, a3, Sl.val (PyData.list (encI ds)), Sl.val (PyData.int s), Sl.val (PyData.list (encI hid)), Sl.own (PyData.list (cs.map encC)), Sl.val (PyData.int (i : Int)), v9, v10, v11, v12, v13, v14] =
      .next [a0, a1, a2, a3, Sl.val (PyData.list (encI ds)), Sl.val (PyData.int s), Sl.val (PyData.list (encI hid)), Sl.own (PyData.list (cs.map encC ++ [encC c])), Sl.val (PyData.int (i : Int)), w9, w10, w11, w12, w13, v14] := by
  have hl := r.len
  have hlh : (hid.length : Int) = s := by omega
  have m1 := mod_rng (ds.getD (10 + 4 * (i : Int)).toNat 0) s (by omega)
  have m2 := mod_rng (ds.getD (11 + 4 * (i : Int)).toNat 0) (s - 1) (by omega)
  have m3 := mod_rng (ds.getD (13 + 4 * (i : Int)).toNat 0) 4 (by omega)
  have m4 := mod_rng (ds.getD (12 + 4 * (i : Int)).toNat 0) 4 (by omega)
  unfold den__law_net_b1
  walk_at "ev"
  generalize ds.getD (10 + 4 * (i : Int)).toNat 0 % s = g at *
  generalize ds.getD (11 + 4 * (i : Int)).toNat 0 % (s - 1) = t at *
  have m5 := mod_rng (g + 1 + t) s (by omega)
  have ne : g ≠ (g + 1 + t) % s := by
    intro e
    have h1 : (g + 1 + t) % s = g + 1 + t ∨ (g + 1 + t) % s = g + 1 + t - s := by
      by_cases hlt : g + 1 + t < s
      · exact .inl (Int.emod_eq_of_lt (by omega) hlt)
      · right
        rw [← Int.sub_emod_right]
        exact Int.emod_eq_of_lt (by omega) (by omega)
    omega
  generalize (g + 1 + t) % s = t2 at *
  have hg := getD_all (p := fun h => 1 ≤ h ∧ h ≤ 4) hv (i := g.toNat) (by omega)
  have ht := getD_all (p := fun h => 1 ≤ h ∧ h ≤ 4) hv (i := t2.toNat) (by omega)
  obtain ⟨dv, ed, k1, k2, k3, k4, k5, k6⟩ := e_gcd4 hg ht
  generalize den__law_gcd = f at ed ⊢
  walk_at "ev"
  simp only [ed]
  walk_at "ev"
  have hcs : cs.length ≤ 1000000 := by omega
  by_cases c1 : ds.getD 7 0 % 4 = 0
  · by_cases c2 : ds.getD (12 + 4 * (i : Int)).toNat 0 % 2 = 0
    · simp only [c1, c2, if_true, decide_true]
      walk_at "ev"
      exact ⟨⟨g, t2, _, _⟩, _, _, _, _, _, ⟨m1.1, m1.2, m5.1, m5.2, ne, by dsimp only; omega, by dsimp only; omega, by dsimp only; omega, by dsimp only; omega⟩, rfl⟩
    · simp only [c1, c2, if_true, decide_false]
      walk_at "ev"
      exact ⟨⟨g, t2, _, _⟩, _, _, _, _, _, ⟨m1.1, m1.2, m5.1, m5.2, ne, k5, k6, k3, k4⟩, rfl⟩
  · simp only [c1, if_false]
    walk_at "ev"
    exact ⟨⟨g, t2, _, _⟩, _, _, _, _, _, ⟨m1.1, m1.2, m5.1, m5.2, ne, k5, k6, k3, k4⟩, rfl⟩
theorem e_net (ns : List Int) (k ms mc : Int) (hk : 0 ≤ k) (h1 : 1 ≤ ms) (h2 : ms ≤ 4) (h3 : 0 ≤ mc) (h4 : mc ≤ 5) :
    ∃ n : Net, n.Ok ∧ n.s ≤ ms ∧ (n.cs.length : Int) ≤ mc ∧ den__law_net [scrD ns, .int k, .int ms, .int mc] = .ok (encN n) := by
  obtain ⟨ds, r, er⟩ := e_row ns k hk
  have hl := r.len
  have m0 := mod_rng (ds.getD 0 0) ms (by omega)
  have m6 := mod_rng (ds.getD 6 0) (mc + 1) (by omega)
  unfold den__law_net
  generalize den__law_row = f at er ⊢
  walk_at "ev"
  simp only [er]
  walk_at "ev"
  have hs1 : 1 ≤ 1 + ds.getD 0 0 % ms := by omega
  have hs2 : 1 + ds.getD 0 0 % ms ≤ ms := by omega
  generalize 1 + ds.getD 0 0 % ms = s at *
  obtain ⟨hid, i1, i2, i3⟩ := net_hid (a0 := Sl.val (scrD ns)) (a1 := Sl.val (PyData.int k)) (a2 := Sl.val (PyData.int ms)) (a3 := Sl.val (PyData.int mc)) (a5 := Sl.val (PyData.int s)) r (n := s.toNat) (by omega)
  have e62 : (-4611686018427387904 ≤ s ∧ s < 4611686018427387904) := by omega
  simp only [i3]
  walk_at "ev"
  by_cases hs3 : 1 < s
  · simp only [hs3, if_true]
    have step : ∀ (i : Nat) (δ : DEnv), i < (ds.getD 6 0 % (mc + 1)).toNat → (∃ (cs : List Ch) (v8 v9 v10 v11 v12 v13 : Sl), cs.length = i ∧ (∀ c ∈ cs, c.Ok s) ∧ δ = [Sl.val (scrD ns), Sl.val (PyData.int k), Sl.val (PyData.int ms), Sl.val (PyData.int mc), Sl.val (PyData.list (encI ds)), Sl.val (PyData.int s), Sl.val (PyData.list (encI hid)), Sl.own (PyData.list (cs.map encC)), v8, v9, v10, v11, v12, v13, Sl.no]) →
        ∃ δ1, gN 8 (.int (i : Int)) δ = some δ1 ∧ ∃ δ2, den__law_net_b1 δ1 = .next δ2 ∧ (∃ (cs : List Ch) (v8 v9 v10 v11 v12 v13 : Sl), cs.length = i + 1 ∧ (∀ c ∈ cs, c.Ok s) ∧ δ2 = [Sl.val (scrD ns), Sl.val (PyData.int k), Sl.val (PyData.int ms), Sl.val (PyData.int mc), Sl.val (PyData.list (encI ds)), Sl.val (PyData.int s), Sl.val (PyData.list (encI hid)), Sl.own (PyData.list (cs.map encC)), v8, v9, v10, v11, v12, v13, Sl.no]) := by
      intro i δ hi p
      obtain ⟨cs, v8, v9, v10, v11, v12, v13, p1, p2, rfl⟩ := p
      refine ⟨_, rfl, ?_⟩
      obtain ⟨c, w9, w10, w11, w12, w13, q1, q2⟩ := net_step (a0 := Sl.val (scrD ns)) (a1 := Sl.val (PyData.int k)) (a2 := Sl.val (PyData.int ms)) (a3 := Sl.val (PyData.int mc)) (v9 := v9) (v10 := v10) (v11 := v11) (v12 := v12) (v13 := v13) (v14 := Sl.no) r (s := s) (by omega) (by omega) i1 i2 (i := i) (by omega) p1 p2
      refine ⟨_, q2, cs ++ [c], _, w9, w10, w11, w12, w13, by simp [p1], fun c' hc' => ?_, by rw [List.map_append]; rfl⟩
      rcases List.mem_append.mp hc' with h | h
      · exact p2 c' h
      · rw [List.mem_singleton.mp h]; exact q1
    obtain ⟨δ', j1, cs, v8, v9, v10, v11, v12, v13, j2, j3, rfl⟩ := forR0 (g := gN 8) (ds := den__law_net_b1) (δ := [Sl.val (scrD ns), Sl.val (PyData.int k), Sl.val (PyData.int ms), Sl.val (PyData.int mc), Sl.val (PyData.list (encI ds)), Sl.val (PyData.int s), Sl.val (PyData.list (encI hid)), Sl.own (PyData.list []), Sl.no, Sl.no, Sl.no, Sl.no, Sl.no, Sl.no, Sl.no]) _ _ ⟨[], _, _, _, _, _, _, rfl, (fun _ h => by cases h), rfl⟩ step
    rw [j1]
    walk_at "ev"
    exact ⟨⟨s, cs⟩, ⟨hs1, by dsimp only; omega, by dsimp only; omega, j3⟩, hs2, by dsimp only; omega, rfl⟩
  · simp only [hs3, if_false]
    walk_at "ev"
    exact ⟨⟨s, []⟩, ⟨hs1, by dsimp only; omega, by simp, (fun _ h => by cases h)⟩, hs2, by simpa using h3, rfl⟩
end RN

end
section
namespace RN
open PySem L2 RD
/-- data that may be compared: no dict, not deep -/
def ShN (k : Nat) (d : D) : Prop := d.canLay0 = true ∧ d.depth ≤ k
theorem ShN.up {k m : Nat} {d : D} (h : ShN k d) (l : k ≤ m) : ShN m d := ⟨h.1, by have := h.2; omega⟩
theorem sh_int {i : Int} : ShN 0 (.int i) := ⟨by simp [PyData.canLay0], by simp [PyData.depth]⟩
theorem sh_bool {b : Bool} : ShN 0 (.bool b) := ⟨by simp [PyData.canLay0], by simp [PyData.depth]⟩
theorem sh_none : ShN 0 .none := ⟨by simp [PyData.canLay0], by simp [PyData.depth]⟩
theorem sh_str {s : Str} (h : PyData.strOk s = true) : ShN 0 (.str s) := ⟨by simp [PyData.canLay0, h], by simp [PyData.depth]⟩
theorem sh_all {k : Nat} : ∀ {xs : List D}, (∀ x ∈ xs, ShN k x) → PyData.canLayAll0 xs = true ∧ PyData.depthAll xs ≤ k
  | [], _ => ⟨by simp [PyData.canLayAll0], by simp [PyData.depthAll]⟩
  | x :: xs, h => by
    have h1 := h x List.mem_cons_self
    have h2 := sh_all fun y hy => h y (List.mem_cons_of_mem _ hy)
    refine ⟨by simp [PyData.canLayAll0, h1.1, h2.1], ?_⟩
    simp only [PyData.depthAll]
    have := h1.2
    omega
theorem sh_tuple {k : Nat} {xs : List D} (h : ∀ x ∈ xs, ShN k x) : ShN (k + 1) (.tuple xs) := ⟨by simp [PyData.canLay0, (sh_all h).1], by have := (sh_all h).2; simp only [PyData.depth]; omega⟩
theorem sh_list {k : Nat} {xs : List D} (h : ∀ x ∈ xs, ShN k x) : ShN (k + 1) (.list xs) := ⟨by simp [PyData.canLay0, (sh_all h).1], by have := (sh_all h).2; simp only [PyData.depth]; omega⟩
theorem sh_map {α : Type} {k : Nat} {enc : α → D} {l : List α} (h : ∀ a, ShN k (enc a)) : ∀ x ∈ l.map enc, ShN k x := fun x hx => by
  obtain ⟨a, _, rfl⟩ := List.mem_map.mp hx
  exact h a
theorem sh_encI {l : List Int} : ∀ x ∈ encI l, ShN 0 x := sh_map fun _ => sh_int
theorem sh_nil {k : Nat} : ∀ x ∈ ([] : List D), ShN k x := fun _ h => by cases h
theorem sh_cons {k : Nat} {x : D} {xs : List D} (h1 : ShN k x) (h2 : ∀ y ∈ xs, ShN k y) : ∀ y ∈ x :: xs, ShN k y := fun y hy => by
  rcases List.mem_cons.mp hy with rfl | hy
  · exact h1
  · exact h2 y hy
theorem eqD_sh {neg : Bool} {k m : Nat} {d e : D} (hd : ShN k d) (he : ShN m e) (hk : k ≤ 64) (hm : m ≤ 64) : eqD neg d e = some (.bool (if neg then !PyData.eqv d e else PyData.eqv d e)) := by
  have s1 : SeqAt.shaped d = true := by unfold SeqAt.shaped; rw [hd.1, decide_eq_true (Nat.le_trans hd.2 hk)]; rfl
  have s2 : SeqAt.shaped e = true := by unfold SeqAt.shaped; rw [he.1, decide_eq_true (Nat.le_trans he.2 hm)]; rfl
  unfold eqD
  split
  · next i j => simp only [PyData.eqv]; cases neg <;> rfl
  · rw [if_pos ⟨s1, s2⟩]
theorem eqv_int {i j : Int} : PyData.eqv (.int i) (.int j) = decide (i = j) := by simp only [PyData.eqv]; rfl
theorem eqv_str {i j : Str} : PyData.eqv (.str i) (.str j) = (i == j) := by simp only [PyData.eqv]
theorem eqv_list {xs ys : List D} : PyData.eqv (.list xs) (.list ys) = PyData.eqvAll xs ys := by simp only [PyData.eqv]
theorem eqv_tuple {xs ys : List D} : PyData.eqv (.tuple xs) (.tuple ys) = PyData.eqvAll xs ys := by simp only [PyData.eqv]
theorem eqvAll_map {α : Type} [DecidableEq α] {enc : α → D} (h : ∀ a b, PyData.eqv (enc a) (enc b) = decide (a = b)) : ∀ l m : List α, PyData.eqvAll (l.map enc) (m.map enc) = decide (l = m)
  | [], [] => by simp [PyData.eqvAll]
  | [], _ :: _ => by simp [PyData.eqvAll]
  | _ :: _, [] => by simp [PyData.eqvAll]
  | a :: l, b :: m => by
    simp only [List.map_cons, PyData.eqvAll, h, eqvAll_map h l m]
    by_cases h1 : a = b <;> by_cases h2 : l = m <;> simp [h1, h2]
theorem eqv_encI {l m : List Int} : PyData.eqvAll (encI l) (encI m) = decide (l = m) := eqvAll_map (fun _ _ => eqv_int) l m
mutual
theorem eqv_same : ∀ d : D, d.canLay0 = true → PyData.eqv d d = true
  | .none, _ => by simp [PyData.eqv]
  | .bool b, _ => by simp [PyData.eqv]
  | .int i, _ => by simp [PyData.eqv]
  | .str s, _ => by simp [PyData.eqv]
  | .list xs, h => by
    simp only [PyData.eqv]
    exact eqvAll_same xs (by simpa [PyData.canLay0] using h)
  | .tuple xs, h => by
    simp only [PyData.eqv]
    exact eqvAll_same xs (by simpa [PyData.canLay0] using h)
  | .dict _, h => by simp [PyData.canLay0] at h
theorem eqvAll_same : ∀ xs : List D, PyData.canLayAll0 xs = true → PyData.eqvAll xs xs = true
  | [], _ => by simp [PyData.eqvAll]
  | x :: xs, h => by
    have h' : x.canLay0 = true ∧ PyData.canLayAll0 xs = true := by simpa [PyData.canLayAll0] using h
    simp only [PyData.eqvAll, eqv_same x h'.1, eqvAll_same xs h'.2, Bool.and_self]
end
theorem eq_same {k : Nat} {d : D} (h : ShN k d) (hk : k ≤ 64) : eqD false d d = some (.bool true) := by
  rw [eqD_sh h h hk hk, eqv_same d h.1]
  rfl
theorem ne_same {k : Nat} {d : D} (h : ShN k d) (hk : k ≤ 64) : eqD true d d = some (.bool false) := by
  rw [eqD_sh h h hk hk, eqv_same d h.1]
  rfl
end RN

end
section
namespace RN
open PySem L2 RD
local macro_rules | `(tactic| walk_at "ev") => `(tactic| simp -implicitDefEqProofs (disch := first | omega | (simp only [List.length_map, List.length_append, List.length_cons, List.length_nil, rng_len]; done) | (simp only [List.length_map, List.length_append, List.length_cons, List.length_nil, rng_len]; omega)) only [Int.toNat_natCast, Int.cast_ofNat_Int, eq_self, Int.reduceEq, Int.reduceLT, Int.reduceLE, Int.reduceSub, Int.reduceAdd, x_run, x_seq, seq_next, seq_ret, seq_exc, seq_brk, seq_cont, fin_next, fin_ret, fin_exc, bind_ok, bind_exc, ofO_some, out_ok, out_exc, oout_some, x_var, x_varB, var_val, varB_val, varB_own, x_op, x_c, x_test, test_b, x_cb, x_nil, x_cons, x_ret, x_drop, x_set, x_setN, x_next, x_app, app_own, x_ext, ext_own, x_setIx, setIx_own, x_par, par_2, x_aug, aug_val, x_frz, frz_own, frz_val, x_augM, augM_val, x_enum, enum_t, x_asg, x_tup, x_lst, x_ifS, x_if, x_and, x_or, x_not, x_andV, x_orV, and_b, or_b, x_notV, x_tru, tru_b, tru_i, tru_l, tru_t, tru_n, x_isN, isN_n, isN_i, isN_t, isN_l, isN_b, x_un, neg_i, x_chain, ch_b, x_noP, x_P, p_i, x_sl, sl_l, sl_t, x_isi, isiD, x_call, x_raise, x_items, items_l, items_t, x_rng1, x_rng2, rng1_i, rng2_i, x_zip, zip_l, zip_t, x_for, x_lc, x_yes, x_gN, gsN_nil, gsC_cons, gT_tup, obind_some, len_l, len_t, len_s, int_i, int_b, max_i, min_i, tuple_l, tuple_t, list_l, list_t, ltI, leI, gtI, geI, eqI, neI, addI, subI, mulI, mulI', divI, modI, powC, szT, rng_len, ixL, ixT, at0, at1, at2, at3, ixI, wipeD, List.map_cons, List.map_nil, List.replicate_succ, List.replicate_zero, List.append_nil, List.cons_append, List.nil_append, List.getElem?_cons_zero, List.getElem?_cons_succ, List.set_cons_zero, List.set_cons_succ, List.length_map, List.length_cons, List.length_nil, decide_eq_true_eq, decide_true, decide_false, if_true, if_false, Bool.false_eq_true, Bool.not_true, Bool.not_false, ite_true, ite_false, Nat.reduceAdd, Nat.reduceEqDiff, Int.reduceToNat, and_true, true_and, and_self, Nat.zero_add])

def inR (d : D) (lo hi : Int) : Bool := match d with
  | .int i => decide (lo ≤ i) && decide (i ≤ hi)
  | _ => false
def noDic : D → Bool
  | .dict _ => false
  | _ => true
theorem e_in_range {d : D} {lo hi : Int} (h : noDic d = true) : den_in_range [d, .int lo, .int hi] = .ok (.bool (inR d lo hi)) := by
  unfold den_in_range inR
  cases d with
  | int i =>
    walk_at "ev"
    by_cases h : lo ≤ i
    · simp only [h, decide_true, Bool.true_and]
      walk_at "ev"
    · simp only [h, decide_false, Bool.false_and]
      walk_at "ev"
  | bool b =>
    walk_at "ev"
  | dict _ => cases h
  | _ => walk_at "ev"
theorem inR_int {i lo hi : Int} : inR (.int i) lo hi = (decide (lo ≤ i) && decide (i ≤ hi)) := rfl
theorem in_int {i lo hi : Int} : den_in_range [.int i, .int lo, .int hi] = .ok (.bool (decide (lo ≤ i) && decide (i ≤ hi))) := e_in_range rfl
theorem e_is_channel {s : Int} {c : Ch} (h : c.Ok s) : den_is_channel [.int s, encC c] = .ok (.bool true) := by
  have := h.g0; have := h.g1; have := h.t0; have := h.t1; have := h.v0; have := h.v1; have := h.k0; have := h.k1
  have ne := h.ne
  unfold den_is_channel encC
  have e1 : den_in_range [.int c.g, .int 0, .int (s - 1)] = .ok (.bool true) := by rw [in_int]; simp; omega
  have e2 : den_in_range [.int c.t, .int 0, .int (s - 1)] = .ok (.bool true) := by rw [in_int]; simp; omega
  have e3 : den_in_range [.int c.gv, .int 1, .int 4] = .ok (.bool true) := by rw [in_int]; simp; omega
  have e4 : den_in_range [.int c.tk, .int 1, .int 4] = .ok (.bool true) := by rw [in_int]; simp; omega
  generalize den_in_range = f at *
  repeat first | walk_at "ev" | simp only [e1, e2, e3, e4, ne]
theorem e_is_net {n : Net} (h : n.Ok) : den_is_net [encN n] = .ok (.bool true) := by
  have := h.s0; have := h.s1; have hl := h.len
  unfold den_is_net encN
  have e1 : den_in_range [.int n.s, .int 1, .int 4] = .ok (.bool true) := by rw [in_int]; simp; omega
  generalize den_in_range = f at *
  have h5 : ¬((5 : Int) < (n.cs.length : Int)) := by omega
  repeat first | walk_at "ev" | simp only [e1, h5]
  rw [compL_map encC (fun _ => false) (fun c => encC c) n.cs]
  · rw [show n.cs.filter (fun _ => false) = [] by simp]
    rfl
  · intro c hc
    refine ⟨_, rfl, ?_, fun h => by cases h⟩
    have e2 := e_is_channel (h.ch c hc)
    unfold den_is_net_t1
    generalize den_is_channel = f at *
    walk_at "ev"
    simp only [e2]
    walk_at "ev"
theorem e_check_net {n : Net} (h : n.Ok) : den_check_net [encN n] = .ok .none := by
  have e1 := e_is_net h
  unfold den_check_net
  generalize den_is_net = f at *
  walk_at "ev"
  simp only [e1]
  walk_at "ev"
def stkD (m : Nat) (d : D) : Bool := match d with
  | .tuple xs => decide (xs.length = m) && xs.all (fun x => inR x 0 9)
  | _ => false
def noDics (d : D) : Bool := noDic d && match d with
  | .tuple xs => xs.all noDic
  | _ => true
theorem filter_all {α : Type} (p : α → Bool) (l : List α) : (l.filter fun x => !p x).isEmpty = l.all p := by
  induction l with
  | nil => rfl
  | cons a l ih => cases h : p a <;> simp [List.filter_cons, h, ih]
theorem isE_map {α β : Type} (f : α → β) (l : List α) : (l.map f).isEmpty = l.isEmpty := by cases l <;> rfl
theorem e_is_stock {n : Net} {d : D} (hl : n.cs.length ≤ 5) (h : noDics d = true) : den_is_stock [encN n, d] = .ok (.bool (stkD n.cs.length d)) := by
  unfold den_is_stock encN stkD
  cases d with
  | tuple xs =>
    walk_at "ev"
    by_cases hx : xs.length = n.cs.length
    · have hx' : ((xs.length : Int) = (n.cs.length : Int)) := by omega
      simp only [hx, decide_true]
      walk_at "ev"
      have e : compL (gN 2) den_is_stock_t1 den_is_stock_e1 [Sl.val (PyData.tuple [PyData.int n.s, PyData.tuple (List.map encC n.cs)]), Sl.val (PyData.tuple xs), Sl.no] (xs.map id) = .ok ((xs.filter fun x => !inR x 0 9).map id) := by
        apply compL_map
        intro x hm
        refine ⟨_, rfl, ?_, fun _ => rfl⟩
        have hd : noDic x = true := by
          have : xs.all noDic = true := by simpa [noDics, noDic] using h
          exact List.all_eq_true.mp this x hm
        have e1 := e_in_range (lo := 0) (hi := 9) hd
        unfold den_is_stock_t1
        generalize den_in_range = f at *
        walk_at "ev"
        simp only [id, e1]
        walk_at "ev"
      simp only [List.map_id] at e
      have hs : xs.length ≤ 1000000 := by omega
      rw [e]
      walk_at "ev"
      rw [filter_all]
      simp
    · have hx' : ¬((xs.length : Int) = (n.cs.length : Int)) := by omega
      simp only [hx, hx', decide_false]
      walk_at "ev"
      rfl
  | dict _ => simp [noDics, noDic] at h
  | _ => walk_at "ev"
theorem e_check_stock {n : Net} {d : D} (hn : n.Ok) (h : noDics d = true) : den_check_stock [encN n, d] = if stkD n.cs.length d then .ok .none else .exc "InvalidStock" none := by
  have e1 := e_check_net hn
  have e2 := e_is_stock hn.len h
  unfold den_check_stock
  generalize den_check_net = f at *
  generalize den_is_stock = f2 at *
  cases q : stkD n.cs.length d <;> rw [q] at e2 <;> (repeat first | walk_at "ev" | simp only [e1, e2]) 
theorem e_check_step {n : Net} {d : D} (h : noDic d = true) : den_check_step [encN n, d] = if inR d 0 (n.s - 1) then .ok .none else .exc "InvalidStep" none := by
  have e2 := e_in_range (lo := 0) (hi := n.s - 1) h
  unfold den_check_step encN
  generalize den_in_range = f2 at *
  cases q : inR d 0 (n.s - 1) <;> rw [q] at e2 <;> (repeat first | walk_at "ev" | simp only [e2])
/-! ### steps that run -/
def isReady (n : Net) (st : List Int) (s : Int) : Bool := (n.cs.zip st).all fun p => !(decide (p.1.t = s) && decide (p.2 < p.1.tk))
def encP (p : Ch × Int) : D := .tuple [encC p.1, .int p.2]
theorem zip_enc (cs : List Ch) (st : List Int) : zipD (cs.map encC) (encI st) = (cs.zip st).map encP := by
  unfold zipD
  rw [List.zip_map, List.map_map]
  rfl
theorem e_is_ready {n : Net} {st : List Int} {s : Int} (hl : n.cs.length ≤ 1000000) : den_is_ready [encN n, .tuple (encI st), .int s] = .ok (.bool (isReady n st s)) := by
  unfold den_is_ready encN
  walk_at "ev"
  have e : compL (gT 2 (gsC (gN 3) (gsC (gN 4) gsN))) den_is_ready_t1 den_is_ready_e1 [Sl.val (PyData.tuple [PyData.int n.s, PyData.tuple (List.map encC n.cs)]), Sl.val (PyData.tuple (encI st)), Sl.val (PyData.int s), Sl.no, Sl.no] ((n.cs.zip st).map encP) = .ok (((n.cs.zip st).filter fun p => !(!(decide (p.1.t = s) && decide (p.2 < p.1.tk)))).map fun _ => .int 1) := by
    apply compL_map
    intro p hm
    refine ⟨_, rfl, ?_, fun _ => rfl⟩
    unfold den_is_ready_t1
    walk_at "ev"
    by_cases h : p.1.t = s
    · simp only [h, decide_true, Bool.true_and]
      unfold encC
      repeat first | walk_at "ev" | simp only [h, Bool.not_not]
    · unfold encC
      repeat first | walk_at "ev" | simp only [h, Bool.not_not, Bool.false_and]
  rw [zip_enc, e]
  have hz : (n.cs.zip st).length ≤ 1000000 := by rw [List.length_zip]; omega
  walk_at "ev"
  rw [isE_map, filter_all]
  simp [isReady]
def aftr (n : Net) (st : List Int) (s : Int) : List Int := (n.cs.zip st).map fun p => p.2 + p.1.gv * (if p.1.g = s then 1 else 0) - p.1.tk * (if p.1.t = s then 1 else 0)
theorem e_after_run {n : Net} {st : List Int} {s : Int} (hn : n.Ok) : den_after_run [encN n, .tuple (encI st), .int s] = .ok (.tuple (encI (aftr n st s))) := by
  have hl := hn.len
  unfold den_after_run encN
  walk_at "ev"
  rw [zip_enc]
  have step : ∀ (pre : List (Ch × Int)) (x : Ch × Int) (post : List (Ch × Int)) (δ : DEnv), n.cs.zip st = pre ++ x :: post → (∃ v4 v5 v6 v7 v8 : Sl, δ = [Sl.val (PyData.tuple [PyData.int n.s, PyData.tuple (List.map encC n.cs)]), Sl.val (PyData.tuple (encI st)), Sl.val (PyData.int s), Sl.own (PyData.list (encI (pre.map fun p => p.2 + p.1.gv * (if p.1.g = s then 1 else 0) - p.1.tk * (if p.1.t = s then 1 else 0)))), v4, v5, v6, v7, v8]) →
      ∃ δ1, gT 2 (gsC (gT 4 (gsC (gN 4) (gsC (gN 5) (gsC (gN 6) (gsC (gN 7) gsN))))) (gsC (gN 8) gsN)) (encP x) δ = some δ1 ∧ ∃ δ2, den_after_run_b1 δ1 = .next δ2 ∧ (∃ v4 v5 v6 v7 v8 : Sl, δ2 = [Sl.val (PyData.tuple [PyData.int n.s, PyData.tuple (List.map encC n.cs)]), Sl.val (PyData.tuple (encI st)), Sl.val (PyData.int s), Sl.own (PyData.list (encI ((pre ++ [x]).map fun p => p.2 + p.1.gv * (if p.1.g = s then 1 else 0) - p.1.tk * (if p.1.t = s then 1 else 0)))), v4, v5, v6, v7, v8]) := by
    intro pre x post δ hp p
    obtain ⟨v4, v5, v6, v7, v8, rfl⟩ := p
    refine ⟨_, rfl, ?_⟩
    have hx : x ∈ n.cs.zip st := by rw [hp]; simp
    have hc := hn.ch x.1 (List.of_mem_zip hx).1
    have := hc.v0; have := hc.v1; have := hc.k0; have := hc.k1
    have hlen : pre.length ≤ 1000000 := by
      have := congrArg List.length hp
      rw [List.length_zip, List.length_append] at this
      omega
    unfold den_after_run_b1
    walk_at "ev"
    exact ⟨_, rfl, _, _, _, _, _, by simp only [encI, List.map_append]; rfl⟩
  obtain ⟨δ', h1, v4, v5, v6, v7, v8, rfl⟩ := forI (g := gT 2 (gsC (gT 4 (gsC (gN 4) (gsC (gN 5) (gsC (gN 6) (gsC (gN 7) gsN))))) (gsC (gN 8) gsN))) (ds := den_after_run_b1) encP _ (n.cs.zip st) step (n.cs.zip st) [] [Sl.val (PyData.tuple [PyData.int n.s, PyData.tuple (List.map encC n.cs)]), Sl.val (PyData.tuple (encI st)), Sl.val (PyData.int s), Sl.own (PyData.list []), Sl.no, Sl.no, Sl.no, Sl.no, Sl.no] rfl ⟨_, _, _, _, _, rfl⟩
  rw [h1]
  walk_at "ev"
  rfl
def readyL (n : Net) (st : List Int) : List Int := ((List.range n.s.toNat).filter fun i : Nat => isReady n st (i : Int)).map fun i : Nat => (i : Int)
theorem stk_good {n : Net} {st : List Int} (h1 : st.length = n.cs.length) (h2 : ∀ x ∈ st, 0 ≤ x ∧ x ≤ 9) : stkD n.cs.length (.tuple (encI st)) = true := by
  simp only [stkD, List.length_map, h1, decide_true, Bool.true_and, List.all_map, List.all_eq_true]
  intro x hx
  have := h2 x hx
  simp [inR]
  omega
theorem noDics_int {st : List Int} : noDics (.tuple (encI st)) = true := by
  simp [noDics, noDic, List.all_map]
theorem e_ready_steps {n : Net} {st : List Int} (hn : n.Ok) (h1 : st.length = n.cs.length) (h2 : ∀ x ∈ st, 0 ≤ x ∧ x ≤ 9) : den_ready_steps [encN n, .tuple (encI st)] = .ok (.list (encI (readyL n st))) := by
  have e1 := e_check_stock hn (noDics_int (st := st))
  rw [stk_good h1 h2, if_pos rfl] at e1
  have := hn.s0; have := hn.s1; have hl := hn.len
  unfold den_ready_steps
  generalize den_check_stock = f at *
  repeat first | walk_at "ev" | simp only [e1]
  have e : compL (gN 2) den_ready_steps_t1 den_ready_steps_e1 [Sl.val (encN n), Sl.val (PyData.tuple (encI st)), Sl.no] (rng 0 n.s.toNat) = .ok (((List.range n.s.toNat).filter fun i : Nat => isReady n st (i : Int)).map fun i : Nat => .int (i : Int)) := by
    apply compL_rng
    intro i hi
    refine ⟨_, rfl, ?_, fun _ => rfl⟩
    have e2 := e_is_ready (n := n) (st := st) (s := (i : Int)) (by omega)
    unfold den_ready_steps_t1
    generalize den_is_ready = f2 at *
    repeat first | walk_at "ev" | simp only [e2]
  have e0 : ixD (encN n) (.int 1) = some (.tuple (n.cs.map encC)) := rfl
  have e9 : ixD (encN n) (.int 0) = some (.int n.s) := rfl
  repeat first | walk_at "ev" | simp only [e9, e]
  simp [readyL]
end RN

end
section
namespace RN
open PySem L2 RD
local macro_rules | `(tactic| walk_at "ev") => `(tactic| simp -implicitDefEqProofs (disch := first | omega | (simp only [List.length_map, List.length_append, List.length_cons, List.length_nil, rng_len]; omega)) only [x_run, x_seq, seq_next, seq_ret, seq_exc, seq_brk, seq_cont, fin_next, fin_ret, fin_exc, bind_ok, bind_exc, ofO_some, out_ok, out_exc, oout_some, x_var, x_varB, var_val, varB_val, varB_own, x_op, x_c, x_test, test_b, x_cb, x_nil, x_cons, x_ret, x_drop, x_set, x_setN, x_next, x_app, app_own, x_ext, ext_own, x_setIx, setIx_own, x_par, par_2, x_aug, aug_val, x_frz, frz_own, x_asg, x_tup, x_lst, x_ifS, x_if, x_and, x_or, x_not, x_andV, x_orV, and_b, or_b, x_notV, x_tru, tru_b, tru_i, tru_l, tru_t, tru_n, x_isN, isN_n, isN_i, isN_t, isN_l, isN_b, x_un, neg_i, x_chain, ch_b, x_noP, x_P, p_i, x_sl, sl_l, sl_t, x_isi, isiD, x_call, x_raise, x_items, items_l, items_t, x_rng1, x_rng2, rng1_i, rng2_i, x_zip, zip_l, zip_t, x_for, x_lc, x_yes, x_gN, gsN_nil, gsC_cons, gT_tup, obind_some, len_l, len_t, len_s, int_i, int_b, max_i, min_i, tuple_l, tuple_t, list_l, list_t, ltI, leI, gtI, geI, eqI, neI, addI, subI, mulI, mulI', divI, modI, powC, szT, rng_len, ixL, ixT, at0, at1, at2, at3, ixI, wipeD, List.map_cons, List.map_nil, List.replicate_succ, List.replicate_zero, List.append_nil, List.cons_append, List.nil_append, List.getElem?_cons_zero, List.getElem?_cons_succ, List.set_cons_zero, List.set_cons_succ, List.length_map, List.length_cons, List.length_nil, decide_eq_true_eq, decide_true, decide_false, if_true, if_false, Bool.false_eq_true, Bool.not_true, Bool.not_false, ite_true, ite_false, Nat.reduceAdd, Nat.reduceEqDiff, Int.reduceToNat, and_true, true_and, and_self, Nat.zero_add])

theorem e_stock (ns : List Int) (k : Int) (n : Net) (most : Int) (hk : 0 ≤ k) (hn : n.Ok) (h0 : 0 ≤ most) : ∃ st : List Int, st.length = n.cs.length ∧ (∀ x ∈ st, 0 ≤ x ∧ x ≤ most) ∧ den__law_stock [scrD ns, .int k, encN n, .int most] = .ok (.tuple (encI st)) := by
  obtain ⟨ds, r, er⟩ := e_row ns k hk
  have hl := r.len
  have hn5 := hn.len
  refine ⟨(List.range n.cs.length).map fun i : Nat => ds.getD (40 + (i : Int)).toNat 0 % (most + 1), by simp, fun x hx => ?_, ?_⟩
  · obtain ⟨i, hi, rfl⟩ := List.mem_map.mp hx
    have := mod_rng (ds.getD (40 + (i : Int)).toNat 0) (most + 1) (by omega)
    omega
  · unfold den__law_stock encN
    generalize den__law_row = f at er ⊢
    walk_at "ev"
    simp only [er]
    walk_at "ev"
    rw [show ((n.cs.length : Int)).toNat = n.cs.length by omega]
    rw [compL_rng (fun _ => true) (fun i => .int (ds.getD (40 + (i : Int)).toNat 0 % (most + 1))) n.cs.length, filter_true]
    · walk_at "ev"
      simp only [encI, List.map_map]
      rfl
    · intro i hi
      refine ⟨_, rfl, rfl, fun _ => ?_⟩
      unfold den__law_stock_e1
      walk_at "ev"
end RN

end
section
namespace RN
open PySem L2 RD
local macro_rules | `(tactic| walk_at "ev") => `(tactic| simp -implicitDefEqProofs (disch := first | omega | (simp only [List.length_map, List.length_append, List.length_cons, List.length_nil, rng_len]; done) | (simp only [List.length_map, List.length_append, List.length_cons, List.length_nil, rng_len]; omega)) only [Int.toNat_natCast, Int.cast_ofNat_Int, eq_self, Int.reduceEq, Int.reduceLT, Int.reduceLE, Int.reduceSub, Int.reduceAdd, x_run, x_seq, seq_next, seq_ret, seq_exc, seq_brk, seq_cont, fin_next, fin_ret, fin_exc, bind_ok, bind_exc, ofO_some, out_ok, out_exc, oout_some, x_var, x_varB, var_val, varB_val, varB_own, x_op, x_c, x_test, test_b, x_cb, x_nil, x_cons, x_ret, x_drop, x_set, x_setN, x_next, x_app, app_own, x_ext, ext_own, x_setIx, setIx_own, x_par, par_2, x_aug, aug_val, x_frz, frz_own, frz_val, x_augM, augM_val, x_enum, enum_t, x_asg, x_tup, x_lst, x_ifS, x_if, x_and, x_or, x_not, x_andV, x_orV, and_b, or_b, x_notV, x_tru, tru_b, tru_i, tru_l, tru_t, tru_n, x_isN, isN_n, isN_i, isN_t, isN_l, isN_b, x_un, neg_i, x_chain, ch_b, x_noP, x_P, p_i, x_sl, sl_l, sl_t, x_isi, isiD, x_call, x_raise, x_items, items_l, items_t, x_rng1, x_rng2, rng1_i, rng2_i, x_zip, zip_l, zip_t, x_for, x_lc, x_yes, x_gN, gsN_nil, gsC_cons, gT_tup, obind_some, len_l, len_t, len_s, int_i, int_b, max_i, min_i, tuple_l, tuple_t, list_l, list_t, ltI, leI, gtI, geI, eqI, neI, addI, subI, mulI, mulI', divI, modI, powC, szT, rng_len, ixL, ixT, at0, at1, at2, at3, ixI, wipeD, List.map_cons, List.map_nil, List.replicate_succ, List.replicate_zero, List.append_nil, List.cons_append, List.nil_append, List.getElem?_cons_zero, List.getElem?_cons_succ, List.set_cons_zero, List.set_cons_succ, List.length_map, List.length_cons, List.length_nil, decide_eq_true_eq, decide_true, decide_false, if_true, if_false, Bool.false_eq_true, Bool.not_true, Bool.not_false, ite_true, ite_false, Nat.reduceAdd, Nat.reduceEqDiff, Int.reduceToNat, and_true, true_and, and_self, Nat.zero_add])

theorem run_bad_stock {n : Net} {d e : D} (hn : n.Ok) (h : noDics d = true) (hb : stkD n.cs.length d = false) : den_run [encN n, d, e] = .exc "InvalidStock" none := by
  have e1 := e_check_stock hn h
  rw [hb] at e1
  unfold den_run
  generalize den_check_stock = f at *
  repeat first | walk_at "ev" | simp only [e1]
theorem run_bad_step {n : Net} {d e : D} (hn : n.Ok) (h : noDics d = true) (hb : stkD n.cs.length d = true) (h2 : noDic e = true) (h3 : inR e 0 (n.s - 1) = false) : den_run [encN n, d, e] = .exc "InvalidStep" none := by
  have e1 := e_check_stock hn h
  rw [hb] at e1
  have e2 := e_check_step (n := n) h2
  rw [h3] at e2
  unfold den_run
  generalize den_check_stock = f at *
  generalize den_check_step = f2 at *
  repeat first | walk_at "ev" | simp only [e1, e2]
theorem e_run {n : Net} {st : List Int} {s : Int} (hn : n.Ok) (h1 : st.length = n.cs.length) (h2 : ∀ x ∈ st, 0 ≤ x ∧ x ≤ 9) (h3 : 0 ≤ s) (h4 : s < n.s) : den_run [encN n, .tuple (encI st), .int s] = if isReady n st s then .ok (.tuple (encI (aftr n st s))) else .exc "CannotRun" none := by
  have hl := hn.len
  have e1 := e_check_stock hn (noDics_int (st := st))
  rw [stk_good h1 h2] at e1
  have e2 := e_check_step (n := n) (d := .int s) rfl
  rw [show inR (.int s) 0 (n.s - 1) = true by simp [inR]; omega] at e2
  have e3 := e_is_ready (n := n) (st := st) (s := s) (by omega)
  have e4 := e_after_run (st := st) (s := s) hn
  unfold den_run
  generalize den_check_stock = f at *
  generalize den_check_step = f2 at *
  generalize den_is_ready = f3 at *
  generalize den_after_run = f4 at *
  cases q : isReady n st s <;> rw [q] at e3 <;> (repeat first | walk_at "ev" | simp only [e1, e2, e3, e4])
theorem try_ret {i : Nat} {ds : DS} {known : List Str} {hs : List Hd} {δ : DEnv} {d : D} (h : ds δ = .ret d) : dTry i ds known hs δ = .ret d := by
  unfold dTry
  rw [h]
theorem try_exc {i : Nat} {ds : DS} {known : List Str} {hs : List Hd} {δ δ' : DEnv} {n s : Str} (h : ds δ = .exc n none δ') (h1 : n ∈ known) (h2 : i < δ'.length) (h3 : handle hs n = some s) : dTry i ds known hs δ = .ret (.str s) := by
  unfold dTry
  rw [h]
  simp only [h1, h2, h3, and_self, if_true]
instance : Inhabited Ch := ⟨⟨0, 0, 0, 0⟩⟩
theorem ixC {cs : List Ch} {i : Nat} (h1 : i < cs.length) : atI (cs.map encC) (i : Int) = some (.tuple [.int (cs.getD i default).g, .int (cs.getD i default).t, .int (cs.getD i default).gv, .int (cs.getD i default).tk]) := by
  rw [atI_in (by omega) (by rw [List.length_map]; omega), List.getElem?_map, Int.toNat_natCast, List.getElem?_eq_getElem h1, List.getD_eq_getElem?_getD, List.getElem?_eq_getElem h1]
  rfl
theorem ixN' {l : List Int} {i : Nat} (h1 : i < l.length) : atI (encI l) (i : Int) = some (.int (l.getD i 0)) := by
  rw [ixI (by omega) (by omega), Int.toNat_natCast]
theorem zip_range {β : Type} (cs : List Ch) (st : List Int) (F : Ch → Int → β) (h : st.length = cs.length) : (List.range cs.length).map (fun i => F (cs.getD i default) (st.getD i 0)) = (cs.zip st).map fun p => F p.1 p.2 := by
  apply List.ext_getElem
  · simp [h]
  · intro i h1 h2
    simp only [List.length_map, List.length_range, List.length_zip] at h1 h2
    simp [List.getElem?_eq_getElem h1, List.getElem?_eq_getElem (show i < st.length by omega)]
theorem zip_all (cs : List Ch) (st : List Int) (F : Ch → Int → Bool) (h : st.length = cs.length) : (List.range' 0 cs.length).any (fun i => F (cs.getD i default) (st.getD i 0)) = !(cs.zip st).all fun p => !F p.1 p.2 := by
  have := congrArg (fun l : List Bool => l.any id) (zip_range cs st F h)
  simp only [List.any_map] at this
  rw [← List.range_eq_range']
  simp only [Function.comp_def, id] at this
  rw [this]
  simp [List.any_eq_not_all_not]
theorem e_law_ready {n : Net} {st : List Int} {s : Int} (hl : n.cs.length ≤ 5) (h1 : st.length = n.cs.length) : den__law_ready [encN n, .tuple (encI st), .int s] = .ok (.bool (isReady n st s)) := by
  unfold den__law_ready encN
  walk_at "ev"
  have step : ∀ (i : Nat) (δ : DEnv), i < n.cs.length → (∃ v, δ = [Sl.val (PyData.tuple [PyData.int n.s, PyData.tuple (List.map encC n.cs)]), Sl.val (PyData.tuple (encI st)), Sl.val (PyData.int s), v]) →
      ∃ δ1, gN 3 (.int (i : Int)) δ = some δ1 ∧ if (fun i : Nat => decide ((n.cs.getD i default).t = s) && decide (st.getD i 0 < (n.cs.getD i default).tk)) i then den__law_ready_b1 δ1 = .ret (.bool false) else ∃ δ2, den__law_ready_b1 δ1 = .next δ2 ∧ (∃ v, δ2 = [Sl.val (PyData.tuple [PyData.int n.s, PyData.tuple (List.map encC n.cs)]), Sl.val (PyData.tuple (encI st)), Sl.val (PyData.int s), v]) := by
    intro i δ hi p
    obtain ⟨v, rfl⟩ := p
    refine ⟨_, rfl, ?_⟩
    unfold den__law_ready_b1
    have e1 := ixC (cs := n.cs) hi
    have e2 := ixN' (l := st) (i := i) (by omega)
    by_cases c1 : (n.cs.getD i default).t = s
    · by_cases c2 : st.getD i 0 < (n.cs.getD i default).tk
      · repeat first | walk_at "ev" | simp only [e1, e2, c1, c2]
        simp
      · repeat first | walk_at "ev" | simp only [e1, e2, c1, c2]
        exact ⟨_, rfl, _, rfl⟩
    · repeat first | walk_at "ev" | simp only [e1, e2, c1]
      simp only [Bool.false_and]
      exact ⟨_, rfl, _, rfl⟩
  have := forRs (g := gN 3) (ds := den__law_ready_b1) _ n.cs.length _ _ step n.cs.length 0 _ (by omega) ⟨Sl.no, rfl⟩
  rw [zip_all n.cs st (fun c a => decide (c.t = s) && decide (a < c.tk)) h1] at this
  change (if (!isReady n st s) = true then _ else _) at this
  cases q : isReady n st s with
  | true =>
    rw [q] at this
    simp only [Bool.not_true, Bool.false_eq_true, if_false] at this
    obtain ⟨δ', h3, v, rfl⟩ := this
    simp only [Int.ofNat_zero, Int.cast_ofNat_Int] at h3
    rw [h3]
    walk_at "ev"
  | false =>
    rw [q] at this
    simp only [Bool.not_false, if_true] at this
    simp only [Int.ofNat_zero, Int.cast_ofNat_Int] at this
    rw [this]
    walk_at "ev"
/-! ### the amounts -/
def amts (n : Net) (st cnt : List Int) : List Int := (n.cs.zip st).map fun p => p.2 + (p.1.gv * cnt.getD p.1.g.toNat 0 - p.1.tk * cnt.getD p.1.t.toNat 0)
theorem e_law_amounts {n : Net} {st cnt : List Int} (hn : n.Ok) (h1 : st.length = n.cs.length) (h2 : (cnt.length : Int) = n.s) : den__law_amounts [encN n, .tuple (encI st), .tuple (encI cnt)] = .ok (.tuple (encI (amts n st cnt))) := by
  have hl := hn.len
  unfold den__law_amounts encN
  walk_at "ev"
  have step : ∀ (i : Nat) (δ : DEnv), i < n.cs.length → (∃ v4 v5 v6 v7 v8 v9, δ = [Sl.val (PyData.tuple [PyData.int n.s, PyData.tuple (List.map encC n.cs)]), Sl.val (PyData.tuple (encI st)), Sl.val (PyData.tuple (encI cnt)), Sl.own (PyData.list (encI ((List.range i).map fun i => st.getD i 0 + ((n.cs.getD i default).gv * cnt.getD (n.cs.getD i default).g.toNat 0 - (n.cs.getD i default).tk * cnt.getD (n.cs.getD i default).t.toNat 0)))), v4, v5, v6, v7, v8, v9]) →
      ∃ δ1, gN 4 (.int (i : Int)) δ = some δ1 ∧ ∃ δ2, den__law_amounts_b1 δ1 = .next δ2 ∧ (∃ v4 v5 v6 v7 v8 v9, δ2 = [Sl.val (PyData.tuple [PyData.int n.s, PyData.tuple (List.map encC n.cs)]), Sl.val (PyData.tuple (encI st)), Sl.val (PyData.tuple (encI cnt)), Sl.own (PyData.list (encI ((List.range (i + 1)).map fun i => st.getD i 0 + ((n.cs.getD i default).gv * cnt.getD (n.cs.getD i default).g.toNat 0 - (n.cs.getD i default).tk * cnt.getD (n.cs.getD i default).t.toNat 0)))), v4, v5, v6, v7, v8, v9]) := by
    intro i δ hi p
    obtain ⟨v4, v5, v6, v7, v8, v9, rfl⟩ := p
    refine ⟨_, rfl, ?_⟩
    have hc := hn.ch (n.cs.getD i default) (by rw [List.getD_eq_getElem?_getD, List.getElem?_eq_getElem hi]; exact List.getElem_mem hi)
    have := hc.v0; have := hc.v1; have := hc.k0; have := hc.k1; have := hc.g0; have := hc.g1; have := hc.t0; have := hc.t1
    have e1 := ixC (cs := n.cs) hi
    have e2 := ixN' (l := st) (i := i) (by omega)
    unfold den__law_amounts_b1
    have hlen : (List.range i).length ≤ 1000000 := by simp; omega
    repeat first | walk_at "ev" | simp only [e1, e2]
    exact ⟨_, rfl, _, _, _, _, _, _, by rw [List.range_succ]; simp only [encI, List.map_append]; rfl⟩
  obtain ⟨δ', j1, v4, v5, v6, v7, v8, v9, rfl⟩ := forR0 (g := gN 4) (ds := den__law_amounts_b1) (δ := [Sl.val (PyData.tuple [PyData.int n.s, PyData.tuple (List.map encC n.cs)]), Sl.val (PyData.tuple (encI st)), Sl.val (PyData.tuple (encI cnt)), Sl.own (PyData.list []), Sl.no, Sl.no, Sl.no, Sl.no, Sl.no, Sl.no]) _ n.cs.length ⟨_, _, _, _, _, _, rfl⟩ step
  rw [j1]
  walk_at "ev"
  rw [zip_range n.cs st (fun c a => a + (c.gv * cnt.getD c.g.toNat 0 - c.tk * cnt.getD c.t.toNat 0)) h1]
  rfl
/-! ### the law -/
theorem cut_sub {xs : List D} {lo hi : Option Int} {x : D} (h : x ∈ cutD xs lo hi) : x ∈ xs := List.mem_of_mem_drop (List.mem_of_mem_take h)
theorem cut_len {xs : List D} {lo hi : Option Int} : (cutD xs lo hi).length ≤ xs.length := by
  unfold cutD
  rw [List.length_take, List.length_drop]
  omega
theorem addT {x y : List D} (h : x.length + y.length ≤ 1000000) : addD (.tuple x) (.tuple y) = some (.tuple (x ++ y)) := if_pos h
theorem in_list {i : Int} {l : List Int} : inD false (.int i) (.list (encI l)) = some (.bool (decide (i ∈ l))) := by
  have h : flatD (.int i) = true ∧ (encI l).all flatD = true := ⟨rfl, by simp [List.all_map, flatD]⟩
  refine (if_pos (.inl h)).trans ?_
  clear h
  have e : (encI l).any (fun z => PyData.eqv z (.int i)) = decide (i ∈ l) := by
    induction l with
    | nil => rfl
    | cons a l ih =>
      simp only [encI, List.map_cons, List.any_cons, eqv_int] at ih ⊢
      rw [ih]
      by_cases h : a = i
      · simp [h]
      · simp [h, Ne.symm h]
  rw [e]
  rfl
theorem mem_readyL {n : Net} {st : List Int} {s : Int} (h0 : 0 ≤ s) (h1 : s < n.s) : decide (s ∈ readyL n st) = isReady n st s := by
  have : s ∈ readyL n st ↔ isReady n st s = true := by
    unfold readyL
    rw [List.mem_map]
    constructor
    · rintro ⟨i, hi, rfl⟩
      exact (List.mem_filter.mp hi).2
    · intro h
      refine ⟨s.toNat, List.mem_filter.mpr ⟨List.mem_range.mpr (by omega), ?_⟩, by omega⟩
      rw [show ((s.toNat : Nat) : Int) = s by omega]
      exact h
  by_cases h : s ∈ readyL n st
  · simp [h, this.mp h]
  · have : isReady n st s = false := by
      cases q : isReady n st s
      · rfl
      · exact absurd (this.mpr q) h
    simp [h, this]
def oneL (n : Net) (s : Int) : List Int := (List.range n.s.toNat).map fun i : Nat => if (i : Int) = s then 1 else 0
theorem oneL_at {n : Net} {s g : Int} (h0 : 0 ≤ g) (h1 : g < n.s) : (oneL n s).getD g.toNat 0 = if g = s then 1 else 0 := by
  unfold oneL
  rw [List.getD_eq_getElem?_getD, List.getElem?_map, List.getElem?_range (by omega)]
  simp only [Option.map_some, Option.getD_some]
  rw [show ((g.toNat : Nat) : Int) = g by omega]
theorem amts_one {n : Net} {st : List Int} {s : Int} (hn : n.Ok) : amts n st (oneL n s) = aftr n st s := by
  unfold amts aftr
  apply List.map_congr_left
  intro p hp
  have hc := hn.ch p.1 (List.of_mem_zip hp).1
  rw [oneL_at hc.g0 hc.g1, oneL_at hc.t0 hc.t1]
  omega
theorem str_same {s : Str} (h : PyData.strOk s = true) : eqD true (.str s) (.str s) = some (.bool false) := ne_same (sh_str h) (by omega)
end RN

end
section
namespace RN
open PySem L2 RD
local macro_rules | `(tactic| walk_at "ev") => `(tactic| simp -implicitDefEqProofs (disch := first | omega | (simp only [List.length_map, List.length_append, List.length_cons, List.length_nil, rng_len]; done) | (simp only [List.length_map, List.length_append, List.length_cons, List.length_nil, rng_len]; omega)) only [Int.toNat_natCast, Int.cast_ofNat_Int, eq_self, Int.reduceEq, Int.reduceLT, Int.reduceLE, Int.reduceSub, Int.reduceAdd, x_run, x_seq, seq_next, seq_ret, seq_exc, seq_brk, seq_cont, fin_next, fin_ret, fin_exc, bind_ok, bind_exc, ofO_some, out_ok, out_exc, oout_some, x_var, x_varB, var_val, varB_val, varB_own, x_op, x_c, x_test, test_b, x_cb, x_nil, x_cons, x_ret, x_drop, x_set, x_setN, x_next, x_app, app_own, x_ext, ext_own, x_setIx, setIx_own, x_par, par_2, x_aug, aug_val, x_frz, frz_own, frz_val, x_augM, augM_val, x_enum, enum_t, x_asg, x_tup, x_lst, x_ifS, x_if, x_and, x_or, x_not, x_andV, x_orV, and_b, or_b, x_notV, x_tru, tru_b, tru_i, tru_l, tru_t, tru_n, x_isN, isN_n, isN_i, isN_t, isN_l, isN_b, x_un, neg_i, x_chain, ch_b, x_noP, x_P, p_i, x_sl, sl_l, sl_t, x_isi, isiD, x_call, x_raise, x_items, items_l, items_t, x_rng1, x_rng2, rng1_i, rng2_i, x_zip, zip_l, zip_t, x_for, x_lc, x_yes, x_gN, gsN_nil, gsC_cons, gT_tup, obind_some, len_l, len_t, len_s, int_i, int_b, max_i, min_i, tuple_l, tuple_t, list_l, list_t, ltI, leI, gtI, geI, eqI, neI, addI, subI, mulI, mulI', divI, modI, powC, szT, rng_len, ixL, ixT, at0, at1, at2, at3, ixI, wipeD, List.map_cons, List.map_nil, List.replicate_succ, List.replicate_zero, List.append_nil, List.cons_append, List.nil_append, List.getElem?_cons_zero, List.getElem?_cons_succ, List.set_cons_zero, List.set_cons_succ, List.length_map, List.length_cons, List.length_nil, decide_eq_true_eq, decide_true, decide_false, if_true, if_false, Bool.false_eq_true, Bool.not_true, Bool.not_false, ite_true, ite_false, Nat.reduceAdd, Nat.reduceEqDiff, Int.reduceToNat, and_true, true_and, and_self, Nat.zero_add])

/-- a loop with an early return -/
theorem forF {α σ : Type} {g : DG} {ds : DS} (enc : α → D) (R : σ → DEnv → Prop) (F : σ → α → Option σ) (r : D) : ∀ (l : List α) (s : σ) (δ : DEnv),
    (∀ x ∈ l, ∀ s δ, R s δ → ∃ δ1, g (enc x) δ = some δ1 ∧ match F s x with | none => ds δ1 = .ret r | some s' => ∃ δ2, ds δ1 = .next δ2 ∧ R s' δ2) → R s δ →
    match l.foldlM F s with | none => forL g ds (l.map enc) δ = .ret r | some s' => ∃ δ', forL g ds (l.map enc) δ = .next δ' ∧ R s' δ'
  | [], s, δ, _, h => ⟨δ, rfl, h⟩
  | x :: l, s, δ, hs, h => by
    obtain ⟨δ1, h1, h2⟩ := hs x List.mem_cons_self s δ h
    rw [List.foldlM_cons]
    cases q : F s x with
    | none =>
      rw [q] at h2
      exact forL_cons_ret h1 h2
    | some s' =>
      rw [q] at h2
      obtain ⟨δ2, h3, h4⟩ := h2
      have ih := forF enc R F r l s' δ2 (fun y hy => hs y (List.mem_cons_of_mem _ hy)) h4
      rw [List.map_cons, forL_cons_next h1 h3]
      exact ih
theorem cut_hi {xs : List D} {i : Int} (h0 : 0 ≤ i) (h1 : i ≤ xs.length) : cutD xs none (some i) = xs.take i.toNat := by
  unfold cutD
  rw [HT.sIx_none, show i = ((i.toNat : Nat) : Int) by omega, HT.sIx_nat, Int.toNat_natCast]
  simp only [List.drop_zero, Nat.sub_zero]
  congr 1
  omega
theorem cut_lo {xs : List D} {i : Int} (h0 : 0 ≤ i) (h1 : i ≤ xs.length) : cutD xs (some i) none = xs.drop i.toNat := by
  unfold cutD
  rw [HT.sIx_none, show i = ((i.toNat : Nat) : Int) by omega, HT.sIx_nat, Int.toNat_natCast, Nat.min_eq_left (by omega)]
  exact List.take_of_length_le (by rw [List.length_drop]; exact Nat.le_refl _)
/-! ### attempts -/
def encA (a : Int × Bool) : D := .tuple [.int a.1, .bool a.2]
def stepF (n : Net) (st : List Int) (a : Int × Bool) : Option (List Int) := if isReady n st a.1 = a.2 then some (if a.2 then aftr n st a.1 else st) else none
def followM (n : Net) (st : List Int) (l : List (Int × Bool)) : Option (List Int) := l.foldlM (stepF n) st
def optD : Option (List Int) → D
  | none => .none
  | some l => .tuple (encI l)
theorem neB {a b : Bool} : eqD true (.bool a) (.bool b) = some (.bool (!(a == b))) := by
  rw [eqD_sh sh_bool sh_bool (by omega) (by omega)]
  simp only [PyData.eqv, if_true]
theorem e_follow {n : Net} {st : List Int} {l : List (Int × Bool)} (hn : n.Ok) : den_follow [encN n, .tuple (encI st), .tuple (l.map encA)] = .ok (optD (followM n st l)) := by
  have hl := hn.len
  have e1 : ∀ st s, den_is_ready [encN n, .tuple (encI st), .int s] = .ok (.bool (isReady n st s)) := fun st s => e_is_ready (by omega)
  have e2 : ∀ st s, den_after_run [encN n, .tuple (encI st), .int s] = .ok (.tuple (encI (aftr n st s))) := fun st s => e_after_run hn
  unfold den_follow
  walk_at "ev"
  have := forF (g := gT 2 (gsC (gN 4) (gsC (gN 5) gsN))) (ds := den_follow_b1) encA (fun s δ => ∃ v4 v5, δ = [Sl.val (encN n), Sl.val (.tuple (encI st)), Sl.val (.tuple (l.map encA)), Sl.val (.tuple (encI s)), v4, v5]) (stepF n) .none l st [Sl.val (encN n), Sl.val (.tuple (encI st)), Sl.val (.tuple (l.map encA)), Sl.val (.tuple (encI st)), Sl.no, Sl.no] (by
    intro x hx s δ p
    obtain ⟨v4, v5, rfl⟩ := p
    refine ⟨_, rfl, ?_⟩
    unfold den_follow_b1 stepF
    generalize den_is_ready = f1 at *
    generalize den_after_run = f2 at *
    obtain ⟨z, b⟩ := x
    by_cases h : isReady n s z = b
    · subst h
      cases q : isReady n s z
      · repeat first | walk_at "ev" | simp only [e1, neB, q, beq_self_eq_true]
        exact ⟨_, rfl, _, _, rfl⟩
      · repeat first | walk_at "ev" | simp only [e1, e2, neB, q, beq_self_eq_true]
        exact ⟨_, rfl, _, _, rfl⟩
    · have hb : (isReady n s z == b) = false := by simpa using h
      repeat first | walk_at "ev" | simp only [e1, neB, hb, h]) ⟨_, _, rfl⟩
  unfold followM
  cases q : l.foldlM (stepF n) st with
  | none =>
    rw [q] at this
    simp only at this
    rw [this]
    rfl
  | some r =>
    rw [q] at this
    obtain ⟨δ', h1, v4, v5, rfl⟩ := this
    rw [h1]
    walk_at "ev"
    rfl
end RN

end
section
namespace RN
open PySem L2 RD
local macro_rules | `(tactic| walk_at "ev") => `(tactic| simp -implicitDefEqProofs (disch := first | omega | (simp only [List.length_map, List.length_append, List.length_cons, List.length_nil, rng_len]; done) | (simp only [List.length_map, List.length_append, List.length_cons, List.length_nil, rng_len]; omega)) only [Int.toNat_natCast, Int.cast_ofNat_Int, eq_self, Int.reduceEq, Int.reduceLT, Int.reduceLE, Int.reduceSub, Int.reduceAdd, x_run, x_seq, seq_next, seq_ret, seq_exc, seq_brk, seq_cont, fin_next, fin_ret, fin_exc, bind_ok, bind_exc, ofO_some, out_ok, out_exc, oout_some, x_var, x_varB, var_val, varB_val, varB_own, x_op, x_c, x_test, test_b, x_cb, x_nil, x_cons, x_ret, x_drop, x_set, x_setN, x_next, x_app, app_own, x_ext, ext_own, x_setIx, setIx_own, x_par, par_2, x_aug, aug_val, x_frz, frz_own, frz_val, x_augM, augM_val, x_enum, enum_t, x_asg, x_tup, x_lst, x_ifS, x_if, x_and, x_or, x_not, x_andV, x_orV, and_b, or_b, x_notV, x_tru, tru_b, tru_i, tru_l, tru_t, tru_n, x_isN, isN_n, isN_i, isN_t, isN_l, isN_b, x_un, neg_i, x_chain, ch_b, x_noP, x_P, p_i, x_sl, sl_l, sl_t, x_isi, isiD, x_call, x_raise, x_items, items_l, items_t, x_rng1, x_rng2, rng1_i, rng2_i, x_zip, zip_l, zip_t, x_for, x_lc, x_yes, x_gN, gsN_nil, gsC_cons, gT_tup, obind_some, len_l, len_t, len_s, int_i, int_b, max_i, min_i, tuple_l, tuple_t, list_l, list_t, ltI, leI, gtI, geI, eqI, neI, addI, subI, mulI, mulI', divI, modI, powC, szT, rng_len, ixL, ixT, at0, at1, at2, at3, ixI, wipeD, List.map_cons, List.map_nil, List.replicate_succ, List.replicate_zero, List.append_nil, List.cons_append, List.nil_append, List.getElem?_cons_zero, List.getElem?_cons_succ, List.set_cons_zero, List.set_cons_succ, List.length_map, List.length_cons, List.length_nil, decide_eq_true_eq, decide_true, decide_false, if_true, if_false, Bool.false_eq_true, Bool.not_true, Bool.not_false, ite_true, ite_false, Nat.reduceAdd, Nat.reduceEqDiff, Int.reduceToNat, and_true, true_and, and_self, Nat.zero_add])

def upC (cnt : List Int) (s : Int) : List Int := cnt.set s.toNat (cnt.getD s.toNat 0 + 1)
theorem upC_len {cnt : List Int} {s : Int} : (upC cnt s).length = cnt.length := by unfold upC; rw [List.length_set]
theorem upC_at {cnt : List Int} {s g : Int} (h0 : 0 ≤ s) (h1 : s < cnt.length) (hg : 0 ≤ g) (hg1 : g < cnt.length) : (upC cnt s).getD g.toNat 0 = cnt.getD g.toNat 0 + if g = s then 1 else 0 := by
  unfold upC
  have e : ∀ i : Nat, i < cnt.length → (cnt.set s.toNat (cnt.getD s.toNat 0 + 1)).getD i 0 = if s.toNat = i then cnt.getD s.toNat 0 + 1 else cnt.getD i 0 := by
    intro i hi
    rw [List.getD_eq_getElem?_getD, List.getElem?_eq_getElem (by rw [List.length_set]; exact hi), List.getElem_set]
    rw [List.getD_eq_getElem?_getD (l := cnt) (i := i), List.getElem?_eq_getElem hi]
    rfl
  rw [e _ (by omega)]
  by_cases h : g = s
  · subst h; simp
  · rw [if_neg (by omega), if_neg h]; omega
theorem up_a {cnt : List Int} {s : Int} {v : D} (hl : cnt.length ≤ 1000) : addD (.tuple (cutD (encI cnt) none (some s))) (.tuple [v]) = some (.tuple (cutD (encI cnt) none (some s) ++ [v])) := by
  apply addT
  have := cut_len (xs := encI cnt) (lo := none) (hi := some s)
  rw [List.length_map] at this
  simp only [List.length_cons, List.length_nil]
  omega
theorem up_b {cnt : List Int} {s v : Int} (h0 : 0 ≤ s) (h1 : s < cnt.length) (hl : cnt.length ≤ 1000) : addD (.tuple (cutD (encI cnt) none (some s) ++ [.int v])) (.tuple (cutD (encI cnt) (some (s + 1)) none)) = some (.tuple (encI (cnt.set s.toNat v))) := by
  have a1 := cut_len (xs := encI cnt) (lo := none) (hi := some s)
  have a2 := cut_len (xs := encI cnt) (lo := some (s + 1)) (hi := none)
  rw [List.length_map] at a1 a2
  rw [addT (by simp only [List.length_append, List.length_cons, List.length_nil]; omega)]
  rw [cut_hi h0 (by rw [List.length_map]; omega), cut_lo (by omega) (by rw [List.length_map]; omega)]
  rw [List.set_eq_take_append_cons_drop, if_pos (by omega)]
  simp only [encI, List.map_append, List.map_cons, List.map_take, List.map_drop, List.append_assoc, List.cons_append, List.nil_append]
  rw [show (s + 1).toNat = s.toNat + 1 by omega]
theorem mul_z {s : Int} (h0 : 0 ≤ s) (h1 : s ≤ 1000) : mulD (.list [.int 0]) (.int s) = some (.list (encI (List.replicate s.toNat 0))) := by
  show (if 0 ≤ s ∧ Sz (1 * s.toNat) ∧ s < 2 ^ 60 then some (PyData.list (List.replicate s.toNat [PyData.int 0]).flatten) else none) = _
  rw [if_pos ⟨h0, show 1 * s.toNat ≤ 1000000 by omega, by omega⟩]
  congr 2
  rw [encI, List.map_replicate]
  generalize s.toNat = k
  induction k with
  | zero => rfl
  | succ k ih => rw [List.replicate_succ, List.flatten_cons, ih, List.replicate_succ]; rfl
theorem zip_zip {α β γ : Type} (f : α × β → β) (G : α × β → γ) : ∀ (cs : List α) (st : List β), (cs.zip ((cs.zip st).map f)).map G = (cs.zip st).map fun p => G (p.1, f p)
  | [], _ => rfl
  | _ :: _, [] => rfl
  | c :: cs, a :: st => by
    simp only [List.zip_cons_cons, List.map_cons]
    rw [zip_zip f G cs st]
theorem amts_up {n : Net} {st cnt : List Int} {s : Int} (hn : n.Ok) (hc : (cnt.length : Int) = n.s) (h0 : 0 ≤ s) (h1 : s < n.s) : amts n st (upC cnt s) = aftr n (amts n st cnt) s := by
  unfold amts aftr
  rw [zip_zip]
  apply List.map_congr_left
  intro p hp
  have hk := hn.ch p.1 (List.of_mem_zip hp).1
  have b1 := hk.g0; have b2 := hk.g1; have b3 := hk.t0; have b4 := hk.t1
  rw [upC_at h0 (by omega) hk.g0 (by omega), upC_at h0 (by omega) hk.t0 (by omega)]
  simp only [Int.mul_add]
  omega
theorem amts_zero {n : Net} {st : List Int} (k : Nat) (h : st.length = n.cs.length) : amts n st (List.replicate k 0) = st := by
  unfold amts
  have e : ∀ i : Nat, (List.replicate k (0 : Int)).getD i 0 = 0 := by
    intro i
    rw [List.getD_eq_getElem?_getD]
    by_cases hi : i < k
    · rw [List.getElem?_replicate, if_pos hi]; rfl
    · rw [List.getElem?_replicate, if_neg hi]; rfl
  have e2 : ((n.cs.zip st).map fun p => p.2 + (p.1.gv * (List.replicate k (0 : Int)).getD p.1.g.toNat 0 - p.1.tk * (List.replicate k (0 : Int)).getD p.1.t.toNat 0)) = (n.cs.zip st).map Prod.snd := by
    apply List.map_congr_left
    intro p _
    rw [e, e]
    simp
  rw [e2, List.map_snd_zip (by omega)]
theorem amts_len {n : Net} {st cnt : List Int} (h : st.length = n.cs.length) : (amts n st cnt).length = n.cs.length := by
  unfold amts
  rw [List.length_map, List.length_zip]
  omega
theorem aftr_len {n : Net} {st : List Int} {s : Int} (h : st.length = n.cs.length) : (aftr n st s).length = n.cs.length := by
  unfold aftr
  rw [List.length_map, List.length_zip]
  omega
def stepG (n : Net) (st cnt : List Int) (a : Int × Bool) : Option (List Int) := if isReady n (amts n st cnt) a.1 = a.2 then some (if a.2 then upC cnt a.1 else cnt) else none
theorem followG {n : Net} {st : List Int} (hn : n.Ok) : ∀ (l : List (Int × Bool)) (cnt : List Int), (cnt.length : Int) = n.s → (∀ a ∈ l, 0 ≤ a.1 ∧ a.1 < n.s) → (l.foldlM (stepG n st) cnt).map (amts n st) = l.foldlM (stepF n) (amts n st cnt)
  | [], cnt, _, _ => rfl
  | a :: l, cnt, hc, hl => by
    rw [List.foldlM_cons, List.foldlM_cons]
    have ha := hl a List.mem_cons_self
    unfold stepG stepF
    by_cases h : isReady n (amts n st cnt) a.1 = a.2
    · simp only [h, if_true]
      cases q : a.2
      · exact followG hn l cnt hc fun b hb => hl b (List.mem_cons_of_mem _ hb)
      · have ih := followG (st := st) hn l (upC cnt a.1) (by rw [upC_len]; exact hc) fun b hb => hl b (List.mem_cons_of_mem _ hb)
        rw [amts_up hn hc ha.1 ha.2] at ih
        exact ih
    · simp only [h, if_false]
      rfl
theorem e_law_follow {n : Net} {st : List Int} {l : List (Int × Bool)} (hn : n.Ok) (hs : st.length = n.cs.length) (hl : ∀ a ∈ l, 0 ≤ a.1 ∧ a.1 < n.s) : den__law_follow [encN n, .tuple (encI st), .tuple (l.map encA)] = .ok (optD (followM n st l)) := by
  have h5 := hn.len
  have := hn.s0; have := hn.s1
  have e1 : ∀ st s, st.length = n.cs.length → den__law_ready [encN n, .tuple (encI st), .int s] = .ok (.bool (isReady n st s)) := fun st s h => e_law_ready (by omega) h
  have e2 : ∀ cnt : List Int, (cnt.length : Int) = n.s → den__law_amounts [encN n, .tuple (encI st), .tuple (encI cnt)] = .ok (.tuple (encI (amts n st cnt))) := fun cnt h => e_law_amounts hn hs h
  have e9 : ixD (encN n) (.int 0) = some (.int n.s) := rfl
  unfold den__law_follow
  repeat first | walk_at "ev" | simp only [e9, mul_z (show 0 ≤ n.s by omega) (show n.s ≤ 1000 by omega)]
  have key := forF (g := gT 2 (gsC (gN 4) (gsC (gN 5) gsN))) (ds := den__law_follow_b1) encA (fun cnt δ => (cnt.length : Int) = n.s ∧ ∃ v4 v5, δ = [Sl.val (encN n), Sl.val (.tuple (encI st)), Sl.val (.tuple (l.map encA)), Sl.val (.tuple (encI cnt)), v4, v5]) (stepG n st) .none l (List.replicate n.s.toNat 0) [Sl.val (encN n), Sl.val (.tuple (encI st)), Sl.val (.tuple (l.map encA)), Sl.val (.tuple (encI (List.replicate n.s.toNat 0))), Sl.no, Sl.no] (by
    intro x hx cnt δ p
    obtain ⟨hc, v4, v5, rfl⟩ := p
    obtain ⟨hx0, hx1⟩ := hl x hx
    refine ⟨_, rfl, ?_⟩
    have e3 := e2 cnt hc
    have e4 := e1 (amts n st cnt) x.1 (amts_len hs)
    unfold den__law_follow_b1 stepG
    generalize den__law_ready = f1 at *
    generalize den__law_amounts = f2 at *
    obtain ⟨z, b⟩ := x
    simp only at hx0 hx1 e4
    by_cases h : isReady n (amts n st cnt) z = b
    · subst h
      cases q : isReady n (amts n st cnt) z
      · rw [q] at e4
        repeat first | walk_at "ev" | simp only [e3, e4, neB, q, beq_self_eq_true]
        exact ⟨_, rfl, hc, _, _, rfl⟩
      · rw [q] at e4
        repeat first | walk_at "ev" | simp only [e3, e4, neB, q, beq_self_eq_true, up_a (show cnt.length ≤ 1000 by omega), up_b hx0 (show z < cnt.length by omega) (show cnt.length ≤ 1000 by omega)]
        exact ⟨_, rfl, by rw [upC_len]; exact hc, _, _, rfl⟩
    · have hb : (isReady n (amts n st cnt) z == b) = false := by simpa using h
      repeat first | walk_at "ev" | simp only [e3, e4, neB, hb, h]) ⟨by simp; omega, _, _, rfl⟩
  have hg := followG (st := st) hn l (List.replicate n.s.toNat 0) (by simp; omega) hl
  rw [amts_zero _ hs] at hg
  unfold followM
  rw [← hg]
  cases q : l.foldlM (stepG n st) (List.replicate n.s.toNat 0) with
  | none =>
    rw [q] at key
    simp only at key
    rw [key]
    rfl
  | some r =>
    rw [q] at key
    obtain ⟨δ', h1, hr, v4, v5, rfl⟩ := key
    have e3 := e2 r hr
    rw [h1]
    generalize den__law_amounts = f2 at *
    repeat first | walk_at "ev" | simp only [e3]
    rfl
end RN

end
section
namespace RN
open PySem L2 RD
local macro_rules | `(tactic| walk_at "ev") => `(tactic| simp -implicitDefEqProofs (disch := first | omega | (simp only [List.length_map, List.length_append, List.length_cons, List.length_nil, rng_len]; done) | (simp only [List.length_map, List.length_append, List.length_cons, List.length_nil, rng_len]; omega)) only [Int.toNat_natCast, Int.cast_ofNat_Int, eq_self, Int.reduceEq, Int.reduceLT, Int.reduceLE, Int.reduceSub, Int.reduceAdd, x_run, x_seq, seq_next, seq_ret, seq_exc, seq_brk, seq_cont, fin_next, fin_ret, fin_exc, bind_ok, bind_exc, ofO_some, out_ok, out_exc, oout_some, x_var, x_varB, var_val, varB_val, varB_own, x_op, x_c, x_test, test_b, x_cb, x_nil, x_cons, x_ret, x_drop, x_set, x_setN, x_next, x_app, app_own, x_ext, ext_own, x_setIx, setIx_own, x_par, par_2, x_aug, aug_val, x_frz, frz_own, frz_val, x_augM, augM_val, x_enum, enum_t, x_asg, x_tup, x_lst, x_ifS, x_if, x_and, x_or, x_not, x_andV, x_orV, and_b, or_b, x_notV, x_tru, tru_b, tru_i, tru_l, tru_t, tru_n, x_isN, isN_n, isN_i, isN_t, isN_l, isN_b, x_un, neg_i, x_chain, ch_b, x_noP, x_P, p_i, x_sl, sl_l, sl_t, x_isi, isiD, x_call, x_raise, x_items, items_l, items_t, x_rng1, x_rng2, rng1_i, rng2_i, x_zip, zip_l, zip_t, x_for, x_lc, x_yes, x_gN, gsN_nil, gsC_cons, gT_tup, obind_some, len_l, len_t, len_s, int_i, int_b, max_i, min_i, tuple_l, tuple_t, list_l, list_t, ltI, leI, gtI, geI, eqI, neI, addI, subI, mulI, mulI', divI, modI, powC, szT, rng_len, ixL, ixT, at0, at1, at2, at3, ixI, wipeD, List.map_cons, List.map_nil, List.replicate_succ, List.replicate_zero, List.append_nil, List.cons_append, List.nil_append, List.getElem?_cons_zero, List.getElem?_cons_succ, List.set_cons_zero, List.set_cons_succ, List.length_map, List.length_cons, List.length_nil, decide_eq_true_eq, decide_true, decide_false, if_true, if_false, Bool.false_eq_true, Bool.not_true, Bool.not_false, ite_true, ite_false, Nat.reduceAdd, Nat.reduceEqDiff, Int.reduceToNat, and_true, true_and, and_self, Nat.zero_add])

theorem eqB {a b : Bool} : eqD false (.bool a) (.bool b) = some (.bool (a == b)) := by
  rw [eqD_sh sh_bool sh_bool (by omega) (by omega)]
  simp only [PyData.eqv, Bool.false_eq_true, if_false]
theorem e_law_attempts (ns : List Int) (k : Int) {n : Net} {st : List Int} (hk : 0 ≤ k) (hn : n.Ok) (hs : st.length = n.cs.length) : ∃ l : List (Int × Bool), l.length ≤ 6 ∧ (∀ a ∈ l, 0 ≤ a.1 ∧ a.1 < n.s) ∧ den__law_attempts [scrD ns, .int k, encN n, .tuple (encI st)] = .ok (.tuple (l.map encA)) := by
  obtain ⟨ds, r, er⟩ := e_row ns k hk
  have hl := r.len
  have h5 := hn.len
  have := hn.s0; have := hn.s1
  have m0 := mod_rng (ds.getD 0 0) 7 (by omega)
  have e1 : ∀ st s, st.length = n.cs.length → den__law_ready [encN n, .tuple (encI st), .int s] = .ok (.bool (isReady n st s)) := fun st s h => e_law_ready (by omega) h
  have e2 : ∀ cnt : List Int, (cnt.length : Int) = n.s → den__law_amounts [encN n, .tuple (encI st), .tuple (encI cnt)] = .ok (.tuple (encI (amts n st cnt))) := fun cnt h => e_law_amounts hn hs h
  have e9 : ixD (encN n) (.int 0) = some (.int n.s) := rfl
  unfold den__law_attempts
  generalize den__law_row = f0 at *
  repeat first | walk_at "ev" | simp only [er, e9, mul_z (show 0 ≤ n.s by omega) (show n.s ≤ 1000 by omega)]
  have step : ∀ (i : Nat) (δ : DEnv), i < (ds.getD 0 0 % 7).toNat → (∃ (l : List (Int × Bool)) (cnt : List Int) (v7 v8 v9 : Sl), l.length = i ∧ (∀ a ∈ l, 0 ≤ a.1 ∧ a.1 < n.s) ∧ (cnt.length : Int) = n.s ∧ δ = [Sl.val (scrD ns), Sl.val (.int k), Sl.val (encN n), Sl.val (.tuple (encI st)), Sl.val (.list (encI ds)), Sl.own (.list (l.map encA)), Sl.val (.tuple (encI cnt)), v7, v8, v9]) →
      ∃ δ1, gN 7 (.int (i : Int)) δ = some δ1 ∧ ∃ δ2, den__law_attempts_b1 δ1 = .next δ2 ∧ (∃ (l : List (Int × Bool)) (cnt : List Int) (v7 v8 v9 : Sl), l.length = i + 1 ∧ (∀ a ∈ l, 0 ≤ a.1 ∧ a.1 < n.s) ∧ (cnt.length : Int) = n.s ∧ δ2 = [Sl.val (scrD ns), Sl.val (.int k), Sl.val (encN n), Sl.val (.tuple (encI st)), Sl.val (.list (encI ds)), Sl.own (.list (l.map encA)), Sl.val (.tuple (encI cnt)), v7, v8, v9]) := by
    intro i δ hi p
    obtain ⟨l, cnt, v7, v8, v9, p1, p2, p3, rfl⟩ := p
    refine ⟨_, rfl, ?_⟩
    have ms := mod_rng (ds.getD (1 + (i : Int)).toNat 0) n.s (by omega)
    have e3 := e2 cnt p3
    have e4 := e1 (amts n st cnt) (ds.getD (1 + (i : Int)).toNat 0 % n.s) (amts_len hs)
    have hle : l.length ≤ 1000000 := by omega
    unfold den__law_attempts_b1
    generalize den__law_ready = f1 at *
    generalize den__law_amounts = f2 at *
    repeat first | walk_at "ev" | simp only [e3, e4, e9, neB]
    generalize hb : (!(isReady n (amts n st cnt) (ds.getD (1 + (i : Int)).toNat 0 % n.s) == decide (ds.getD (10 + (i : Int)).toNat 0 % 12 = 0))) = b
    generalize ds.getD (1 + (i : Int)).toNat 0 % n.s = z at *
    have hv : ∀ a ∈ l ++ [(z, b)], 0 ≤ a.1 ∧ a.1 < n.s := fun a ha => by
      rcases List.mem_append.mp ha with ha | ha
      · exact p2 a ha
      · rw [List.mem_singleton.mp ha]; exact ms
    have ap : l.map encA ++ [PyData.tuple [.int z, .bool b]] = (l ++ [(z, b)]).map encA := by rw [List.map_append]; rfl
    cases b
    · repeat first | walk_at "ev" | simp only [ap]
      exact ⟨_, rfl, l ++ [(z, false)], cnt, _, _, _, by simp [p1], hv, p3, rfl⟩
    · repeat first | walk_at "ev" | simp only [ap, up_a (show cnt.length ≤ 1000 by omega), up_b ms.1 (show z < cnt.length by omega) (show cnt.length ≤ 1000 by omega)]
      exact ⟨_, rfl, l ++ [(z, true)], upC cnt z, _, _, _, by simp [p1], hv, by rw [upC_len]; exact p3, rfl⟩
  obtain ⟨δ', j1, l, cnt, v7, v8, v9, p1, p2, p3, rfl⟩ := forR0 (g := gN 7) (ds := den__law_attempts_b1) (δ := [Sl.val (scrD ns), Sl.val (.int k), Sl.val (encN n), Sl.val (.tuple (encI st)), Sl.val (.list (encI ds)), Sl.own (.list []), Sl.val (.tuple (encI (List.replicate n.s.toNat 0))), Sl.no, Sl.no, Sl.no]) _ _ ⟨[], _, _, _, _, rfl, (fun _ h => by cases h), by simp; omega, rfl⟩ step
  rw [j1]
  walk_at "ev"
  exact ⟨l, by omega, p2, rfl⟩
/-! ### all stocks -/
def allS (b : Nat) : Nat → List (List Int)
  | 0 => [[]]
  | m + 1 => (allS b m).flatMap fun one => (List.range b).map fun i : Nat => one ++ [(i : Int)]
def encS (st : List Int) : D := .tuple (encI st)
theorem allS_len (b : Nat) : ∀ m, (allS b m).length = b ^ m
  | 0 => rfl
  | m + 1 => by
    unfold allS
    rw [List.length_flatMap]
    simp only [List.length_map, List.length_range]
    rw [List.map_const', List.sum_replicate_nat, allS_len b m]
    rw [Nat.pow_succ]
theorem allS_mem {b : Nat} : ∀ {m : Nat} {st : List Int}, st ∈ allS b m → st.length = m ∧ ∀ x ∈ st, 0 ≤ x ∧ x < b
  | 0, st, h => by
    rw [List.mem_singleton.mp h]
    exact ⟨rfl, fun _ h => by cases h⟩
  | m + 1, st, h => by
    obtain ⟨one, h1, h2⟩ := List.mem_flatMap.mp h
    obtain ⟨i, hi, rfl⟩ := List.mem_map.mp h2
    obtain ⟨q1, q2⟩ := allS_mem h1
    refine ⟨by simp [q1], fun x hx => ?_⟩
    rcases List.mem_append.mp hx with hx | hx
    · exact q2 x hx
    · rw [List.mem_singleton.mp hx]
      have := List.mem_range.mp hi
      omega
def extS (b : Nat) (one : List Int) : List (List Int) := (List.range b).map fun i : Nat => one ++ [(i : Int)]
theorem ext_room {b : Nat} {l pre post : List (List Int)} {x : List Int} (h : l = pre ++ x :: post) : (pre.flatMap (extS b)).length + (extS b x).length ≤ (l.flatMap (extS b)).length := by
  rw [h, List.flatMap_append, List.flatMap_cons, List.length_append, List.length_append]
  omega
theorem ext_comp {e : DE} {δ : DEnv} {g : DG} {b : Nat} {x : List Int} (he : ∀ i : Nat, i < b → ∃ δ1, g (.int (i : Int)) δ = some δ1 ∧ e δ1 = .ok (encS (x ++ [(i : Int)]))) : compL g dYes e δ (rng 0 b) = .ok ((extS b x).map encS) := by
  rw [compL_rng (fun _ => true) (fun i => encS (x ++ [(i : Int)])) b, filter_true]
  · unfold extS
    rw [List.map_map]
    rfl
  · intro i hi
    obtain ⟨δ1, h1, h2⟩ := he i hi
    exact ⟨δ1, h1, rfl, fun _ => h2⟩
theorem e_all_stocks {m : Nat} {b : Int} (h0 : 0 ≤ b) (hb : b ≤ 9) (hm : m ≤ 5) (hz : ∀ i, i ≤ m → (b + 1).toNat ^ i ≤ 1000000) : den_all_stocks [.int (m : Int), .int b] = .ok (.list ((allS (b + 1).toNat m).map encS)) := by
  unfold den_all_stocks
  walk_at "ev"
  have outer : ∀ (i : Nat) (δ : DEnv), i < m → (∃ v3 v4 v5 v6, δ = [Sl.val (.int (m : Int)), Sl.val (.int b), Sl.val (.list ((allS (b + 1).toNat i).map encS)), v3, v4, v5, v6]) →
      ∃ δ1, gN 3 (.int (i : Int)) δ = some δ1 ∧ ∃ δ2, den_all_stocks_b2 δ1 = .next δ2 ∧ (∃ v3 v4 v5 v6, δ2 = [Sl.val (.int (m : Int)), Sl.val (.int b), Sl.val (.list ((allS (b + 1).toNat (i + 1)).map encS)), v3, v4, v5, v6]) := by
    intro i δ hi p
    obtain ⟨v3, v4, v5, v6, rfl⟩ := p
    refine ⟨_, rfl, ?_⟩
    unfold den_all_stocks_b2
    walk_at "ev"
    have hroom : ((allS (b + 1).toNat i).flatMap (extS (b + 1).toNat)).length ≤ 1000000 := by
      have := hz (i + 1) hi
      rw [← allS_len] at this
      exact this
    have inner : ∀ (pre : List (List Int)) (x : List Int) (post : List (List Int)) (δ : DEnv), allS (b + 1).toNat i = pre ++ x :: post → (∃ v5 v6, δ = [Sl.val (.int (m : Int)), Sl.val (.int b), Sl.val (.list ((allS (b + 1).toNat i).map encS)), Sl.val (.int (i : Int)), Sl.own (.list ((pre.flatMap (extS (b + 1).toNat)).map encS)), v5, v6]) →
        ∃ δ1, gN 5 (encS x) δ = some δ1 ∧ ∃ δ2, den_all_stocks_b1 δ1 = .next δ2 ∧ (∃ v5 v6, δ2 = [Sl.val (.int (m : Int)), Sl.val (.int b), Sl.val (.list ((allS (b + 1).toNat i).map encS)), Sl.val (.int (i : Int)), Sl.own (.list (((pre ++ [x]).flatMap (extS (b + 1).toNat)).map encS)), v5, v6]) := by
      intro pre x post δ hp p
      obtain ⟨v5, v6, rfl⟩ := p
      refine ⟨_, rfl, ?_⟩
      have hr := ext_room (b := (b + 1).toNat) hp
      have hx : x.length ≤ 5 := by
        have := (allS_mem (b := (b + 1).toNat) (m := i) (st := x) (by rw [hp]; simp)).1
        omega
      unfold den_all_stocks_b1
      walk_at "ev"
      rw [ext_comp (b := (b + 1).toNat) (x := x) (by
        intro j hj
        refine ⟨_, rfl, ?_⟩
        unfold den_all_stocks_e1 encS
        have a1 : addD (.tuple (encI x)) (.tuple [.int (j : Int)]) = some (.tuple (encI (x ++ [(j : Int)]))) := by
          rw [addT (by simp; omega)]
          simp [encI]
        repeat first | walk_at "ev" | simp only [a1])]
      walk_at "ev"
      have ea : ((pre ++ [x]).flatMap (extS (b + 1).toNat)).map encS = (pre.flatMap (extS (b + 1).toNat)).map encS ++ (extS (b + 1).toNat x).map encS := by
        rw [List.flatMap_append, List.map_append]
        simp only [List.flatMap_cons, List.flatMap_nil, List.append_nil]
      rw [ea]
      exact ⟨_, rfl, _, _, rfl⟩
    obtain ⟨δ', h1, v5', v6', rfl⟩ := forI (g := gN 5) (ds := den_all_stocks_b1) encS _ (allS (b + 1).toNat i) inner (allS (b + 1).toNat i) [] _ rfl ⟨_, _, rfl⟩
    simp only [List.flatMap_nil, List.map_nil] at h1
    rw [h1]
    walk_at "ev"
    exact ⟨_, rfl, _, _, _, _, rfl⟩
  obtain ⟨δ', j1, v3, v4, v5, v6, rfl⟩ := forR0 (g := gN 3) (ds := den_all_stocks_b2) (δ := [Sl.val (.int (m : Int)), Sl.val (.int b), Sl.val (.list [.tuple []]), Sl.no, Sl.no, Sl.no, Sl.no]) _ m ⟨_, _, _, _, rfl⟩ outer
  rw [j1]
  walk_at "ev"
end RN

end
section
namespace RN
open PySem L2 RD
local macro_rules | `(tactic| walk_at "ev") => `(tactic| simp -implicitDefEqProofs (disch := first | omega | (simp only [List.length_map, List.length_append, List.length_cons, List.length_nil, rng_len]; done) | (simp only [List.length_map, List.length_append, List.length_cons, List.length_nil, rng_len]; omega)) only [Int.toNat_natCast, Int.cast_ofNat_Int, eq_self, Int.reduceEq, Int.reduceLT, Int.reduceLE, Int.reduceSub, Int.reduceAdd, x_run, x_seq, seq_next, seq_ret, seq_exc, seq_brk, seq_cont, fin_next, fin_ret, fin_exc, bind_ok, bind_exc, ofO_some, out_ok, out_exc, oout_some, x_var, x_varB, var_val, varB_val, varB_own, x_op, x_c, x_test, test_b, x_cb, x_nil, x_cons, x_ret, x_drop, x_set, x_setN, x_next, x_app, app_own, x_ext, ext_own, x_setIx, setIx_own, x_par, par_2, x_aug, aug_val, x_frz, frz_own, frz_val, x_augM, augM_val, x_enum, enum_t, x_asg, x_tup, x_lst, x_ifS, x_if, x_and, x_or, x_not, x_andV, x_orV, and_b, or_b, x_notV, x_tru, tru_b, tru_i, tru_l, tru_t, tru_n, x_isN, isN_n, isN_i, isN_t, isN_l, isN_b, x_un, neg_i, x_chain, ch_b, x_noP, x_P, p_i, x_sl, sl_l, sl_t, x_isi, isiD, x_call, x_raise, x_items, items_l, items_t, x_rng1, x_rng2, rng1_i, rng2_i, x_zip, zip_l, zip_t, x_for, x_lc, x_yes, x_gN, gsN_nil, gsC_cons, gT_tup, obind_some, len_l, len_t, len_s, int_i, int_b, max_i, min_i, tuple_l, tuple_t, list_l, list_t, ltI, leI, gtI, geI, eqI, neI, addI, subI, mulI, mulI', divI, modI, powC, szT, rng_len, ixL, ixT, at0, at1, at2, at3, ixI, wipeD, List.map_cons, List.map_nil, List.replicate_succ, List.replicate_zero, List.append_nil, List.cons_append, List.nil_append, List.getElem?_cons_zero, List.getElem?_cons_succ, List.set_cons_zero, List.set_cons_succ, List.length_map, List.length_cons, List.length_nil, decide_eq_true_eq, decide_true, decide_false, if_true, if_false, Bool.false_eq_true, Bool.not_true, Bool.not_false, ite_true, ite_false, Nat.reduceAdd, Nat.reduceEqDiff, Int.reduceToNat, and_true, true_and, and_self, Nat.zero_add])

theorem addL {x y : List D} (h : x.length + y.length ≤ 1000000) : addD (.list x) (.list y) = some (.list (x ++ y)) := if_pos h
theorem e_every_stock {n : Net} {b : Int} (h0 : 0 ≤ b) (hb : b ≤ 9) (hm : n.cs.length ≤ 5) (hz : ∀ i, i ≤ n.cs.length → (b + 1).toNat ^ i ≤ 1000000) : den__law_every_stock [encN n, .int b] = .ok (.list ((allS (b + 1).toNat n.cs.length).map encS)) := by
  unfold den__law_every_stock encN
  walk_at "ev"
  generalize PyData.tuple [PyData.int n.s, PyData.tuple (List.map encC n.cs)] = nn
  generalize n.cs.length = m at *
  have outer : ∀ (i : Nat) (δ : DEnv), i < m → (∃ v3 v4 v5 v6, δ = [Sl.val nn, Sl.val (.int b), Sl.val (.list ((allS (b + 1).toNat i).map encS)), v3, v4, v5, v6]) →
      ∃ δ1, gN 3 (.int (i : Int)) δ = some δ1 ∧ ∃ δ2, den__law_every_stock_b2 δ1 = .next δ2 ∧ (∃ v3 v4 v5 v6, δ2 = [Sl.val nn, Sl.val (.int b), Sl.val (.list ((allS (b + 1).toNat (i + 1)).map encS)), v3, v4, v5, v6]) := by
    intro i δ hi p
    obtain ⟨v3, v4, v5, v6, rfl⟩ := p
    refine ⟨_, rfl, ?_⟩
    unfold den__law_every_stock_b2
    walk_at "ev"
    have hroom : ((allS (b + 1).toNat i).flatMap (extS (b + 1).toNat)).length ≤ 1000000 := by
      have := hz (i + 1) hi
      rw [← allS_len] at this
      exact this
    have inner : ∀ (pre : List (List Int)) (x : List Int) (post : List (List Int)) (δ : DEnv), allS (b + 1).toNat i = pre ++ x :: post → (∃ v5 v6, δ = [Sl.val nn, Sl.val (.int b), Sl.val (.list ((allS (b + 1).toNat i).map encS)), Sl.val (.int (i : Int)), Sl.val (.list ((pre.flatMap (extS (b + 1).toNat)).map encS)), v5, v6]) →
        ∃ δ1, gN 5 (encS x) δ = some δ1 ∧ ∃ δ2, den__law_every_stock_b1 δ1 = .next δ2 ∧ (∃ v5 v6, δ2 = [Sl.val nn, Sl.val (.int b), Sl.val (.list ((allS (b + 1).toNat i).map encS)), Sl.val (.int (i : Int)), Sl.val (.list (((pre ++ [x]).flatMap (extS (b + 1).toNat)).map encS)), v5, v6]) := by
      intro pre x post δ hp p
      obtain ⟨v5, v6, rfl⟩ := p
      refine ⟨_, rfl, ?_⟩
      have hr := ext_room (b := (b + 1).toNat) hp
      have hx : x.length ≤ 5 := by
        have := (allS_mem (b := (b + 1).toNat) (m := i) (st := x) (by rw [hp]; simp)).1
        omega
      unfold den__law_every_stock_b1
      walk_at "ev"
      rw [ext_comp (b := (b + 1).toNat) (x := x) (by
        intro j hj
        refine ⟨_, rfl, ?_⟩
        unfold den__law_every_stock_e1 encS
        have a1 : addD (.tuple (encI x)) (.tuple [.int (j : Int)]) = some (.tuple (encI (x ++ [(j : Int)]))) := by
          rw [addT (by simp; omega)]
          simp [encI]
        repeat first | walk_at "ev" | simp only [a1])]
      have ea : ((pre ++ [x]).flatMap (extS (b + 1).toNat)).map encS = (pre.flatMap (extS (b + 1).toNat)).map encS ++ (extS (b + 1).toNat x).map encS := by
        rw [List.flatMap_append, List.map_append]
        simp only [List.flatMap_cons, List.flatMap_nil, List.append_nil]
      rw [ea]
      have ad := addL (x := (pre.flatMap (extS (b + 1).toNat)).map encS) (y := (extS (b + 1).toNat x).map encS) (by rw [List.length_map, List.length_map]; omega)
      repeat first | walk_at "ev" | simp only [ad]
      exact ⟨_, rfl, _, _, rfl⟩
    obtain ⟨δ', h1, v5', v6', rfl⟩ := forI (g := gN 5) (ds := den__law_every_stock_b1) encS _ (allS (b + 1).toNat i) inner (allS (b + 1).toNat i) [] _ rfl ⟨_, _, rfl⟩
    simp only [List.flatMap_nil, List.map_nil] at h1
    rw [h1]
    walk_at "ev"
    exact ⟨_, rfl, _, _, _, _, rfl⟩
  obtain ⟨δ', j1, v3, v4, v5, v6, rfl⟩ := forR0 (g := gN 3) (ds := den__law_every_stock_b2) (δ := [Sl.val nn, Sl.val (.int b), Sl.val (.list [.tuple []]), Sl.no, Sl.no, Sl.no, Sl.no]) _ m ⟨_, _, _, _, rfl⟩ outer
  rw [j1]
  walk_at "ev"
/-! ### are these attempts -/
theorem att_good {n : Net} {v : Sl} {a : Int × Bool} {q : D} (h0 : 0 ≤ a.1) (h1 : a.1 < n.s) : den_are_attempts_b1 [Sl.val (encN n), v, Sl.val (encA a)] = .next [Sl.val (encN n), v, Sl.val (encA a)] := by
  have e1 : den_in_range [.int a.1, .int 0, .int (n.s - 1)] = .ok (.bool true) := by rw [in_int]; simp; omega
  have e9 : ixD (encN n) (.int 0) = some (.int n.s) := rfl
  unfold den_are_attempts_b1 encA
  generalize den_in_range = f at *
  repeat first | walk_at "ev" | simp only [e1, e9]
def wrongs (n : Net) : List D := [.tuple [.int n.s, .bool true], .tuple [.int (-1), .bool true], .tuple [.int 0, .int 1], .tuple [.int 0], .list [.int 0, .bool true], .none, .tuple [.bool true, .bool true], .tuple [.int 0, .none]]
theorem att_bad {n : Net} {v : Sl} {d : D} (hn : n.Ok) (h : d ∈ wrongs n) : den_are_attempts_b1 [Sl.val (encN n), v, Sl.val d] = .ret (.bool false) := by
  have := hn.s0
  have e1 : den_in_range [.int n.s, .int 0, .int (n.s - 1)] = .ok (.bool false) := by rw [in_int]; simp; omega
  have e2 : den_in_range [.int (-1), .int 0, .int (n.s - 1)] = .ok (.bool false) := by rw [in_int]; simp
  have e3 : den_in_range [.int 0, .int 0, .int (n.s - 1)] = .ok (.bool true) := by rw [in_int]; simp; omega
  have e4 : den_in_range [.bool true, .int 0, .int (n.s - 1)] = .ok (.bool false) := e_in_range rfl
  have e9 : ixD (encN n) (.int 0) = some (.int n.s) := rfl
  unfold den_are_attempts_b1
  generalize den_in_range = f at *
  simp only [wrongs, List.mem_cons, List.not_mem_nil, or_false] at h
  rcases h with rfl | rfl | rfl | rfl | rfl | rfl | rfl | rfl <;> (repeat first | walk_at "ev" | simp only [e1, e2, e3, e4, e9])
theorem e_are_attempts {n : Net} {l : List (Int × Bool)} (h : ∀ a ∈ l, 0 ≤ a.1 ∧ a.1 < n.s) (hl : l.length ≤ 40) : den_are_attempts [encN n, .tuple (l.map encA)] = .ok (.bool true) := by
  unfold den_are_attempts
  have h40 : ¬((40 : Int) < (l.length : Int)) := by omega
  repeat first | walk_at "ev" | simp only [h40]
  have key := forF (g := gN 2) (ds := den_are_attempts_b1) encA (fun (_ : Unit) δ => ∃ v, δ = [Sl.val (encN n), Sl.val (.tuple (l.map encA)), v]) (fun _ _ => some ()) .none l () [Sl.val (encN n), Sl.val (.tuple (l.map encA)), Sl.no] (by
    intro x hx _ δ p
    obtain ⟨v, rfl⟩ := p
    obtain ⟨hx0, hx1⟩ := h x hx
    exact ⟨_, rfl, _, att_good (q := .none) hx0 hx1, _, rfl⟩) ⟨_, rfl⟩
  have e : l.foldlM (fun (_ : Unit) (_ : Int × Bool) => some ()) () = some () := by
    clear key h hl h40
    induction l with
    | nil => rfl
    | cons a l ih => exact ih
  rw [e] at key
  obtain ⟨δ', h1, v, rfl⟩ := key
  rw [h1]
  walk_at "ev"
theorem e_are_bad {n : Net} {l : List (Int × Bool)} {d : D} (hn : n.Ok) (h : ∀ a ∈ l, 0 ≤ a.1 ∧ a.1 < n.s) (hl : l.length ≤ 39) (hd : d ∈ wrongs n) : den_are_attempts [encN n, .tuple (l.map encA ++ [d])] = .ok (.bool false) := by
  unfold den_are_attempts
  have h40 : ¬((40 : Int) < ((l.length + 1 : Nat) : Int)) := by omega
  walk_at "ev"
  simp only [List.length_append, List.length_map, List.length_cons, List.length_nil, Nat.zero_add, h40]
  repeat first | walk_at "ev" | simp only [h40]
  have key : ∀ (l : List (Int × Bool)) (hl : ∀ a ∈ l, 0 ≤ a.1 ∧ a.1 < n.s) (u v : Sl), forL (gN 2) den_are_attempts_b1 (l.map encA ++ [d]) [Sl.val (encN n), u, v] = .ret (.bool false) := by
    intro l
    induction l with
    | nil =>
      intro _ u v
      exact forL_cons_ret rfl (att_bad hn hd)
    | cons a l ih =>
      intro hl u v
      obtain ⟨h0, h1⟩ := hl a List.mem_cons_self
      rw [List.map_cons, List.cons_append, forL_cons_next rfl (att_good (q := .none) h0 h1)]
      exact ih (fun b hb => hl b (List.mem_cons_of_mem _ hb)) u _
  rw [key l h]
  walk_at "ev"
end RN

end
section
namespace RN
open PySem L2 RD
local macro_rules | `(tactic| walk_at "ev") => `(tactic| simp -implicitDefEqProofs (disch := first | omega | (simp only [List.length_map, List.length_append, List.length_cons, List.length_nil, rng_len]; done) | (simp only [List.length_map, List.length_append, List.length_cons, List.length_nil, rng_len]; omega)) only [Int.toNat_natCast, Int.cast_ofNat_Int, eq_self, Int.reduceEq, Int.reduceLT, Int.reduceLE, Int.reduceSub, Int.reduceAdd, x_run, x_seq, seq_next, seq_ret, seq_exc, seq_brk, seq_cont, fin_next, fin_ret, fin_exc, bind_ok, bind_exc, ofO_some, out_ok, out_exc, oout_some, x_var, x_varB, var_val, varB_val, varB_own, x_op, x_c, x_test, test_b, x_cb, x_nil, x_cons, x_ret, x_drop, x_set, x_setN, x_next, x_app, app_own, x_ext, ext_own, x_setIx, setIx_own, x_par, par_2, x_aug, aug_val, x_frz, frz_own, frz_val, x_augM, augM_val, x_enum, enum_t, x_asg, x_tup, x_lst, x_ifS, x_if, x_and, x_or, x_not, x_andV, x_orV, and_b, or_b, x_notV, x_tru, tru_b, tru_i, tru_l, tru_t, tru_n, x_isN, isN_n, isN_i, isN_t, isN_l, isN_b, x_un, neg_i, x_chain, ch_b, x_noP, x_P, p_i, x_sl, sl_l, sl_t, x_isi, isiD, x_call, x_raise, x_items, items_l, items_t, x_rng1, x_rng2, rng1_i, rng2_i, x_zip, zip_l, zip_t, x_for, x_lc, x_yes, x_gN, gsN_nil, gsC_cons, gT_tup, obind_some, len_l, len_t, len_s, int_i, int_b, max_i, min_i, tuple_l, tuple_t, list_l, list_t, ltI, leI, gtI, geI, eqI, neI, addI, subI, mulI, mulI', divI, modI, powC, szT, rng_len, ixL, ixT, at0, at1, at2, at3, ixI, wipeD, List.map_cons, List.map_nil, List.replicate_succ, List.replicate_zero, List.append_nil, List.cons_append, List.nil_append, List.getElem?_cons_zero, List.getElem?_cons_succ, List.set_cons_zero, List.set_cons_succ, List.length_map, List.length_cons, List.length_nil, decide_eq_true_eq, decide_true, decide_false, if_true, if_false, Bool.false_eq_true, Bool.not_true, Bool.not_false, ite_true, ite_false, Nat.reduceAdd, Nat.reduceEqDiff, Int.reduceToNat, and_true, true_and, and_self, Nat.zero_add])

theorem cs_att {n : Net} {a bd : D} (hn : n.Ok) (ha : den_are_attempts [encN n, a] = .ok (.bool false)) : den_check_search [encN n, a, bd] = .exc "InvalidAttempts" none := by
  have e1 := e_check_net hn
  unfold den_check_search
  generalize den_check_net = f1 at *
  generalize den_are_attempts = f2 at *
  repeat first | walk_at "ev" | simp only [e1, ha]
theorem cs_bd {n : Net} {a bd : D} (hn : n.Ok) (ha : den_are_attempts [encN n, a] = .ok (.bool true)) (hb : noDic bd = true) (h : inR bd 0 9 = false) : den_check_search [encN n, a, bd] = .exc "InvalidBound" none := by
  have e1 := e_check_net hn
  have e2 := e_in_range (lo := 0) (hi := 9) hb
  rw [h] at e2
  unfold den_check_search
  generalize den_check_net = f1 at *
  generalize den_are_attempts = f2 at *
  generalize den_in_range = f3 at *
  repeat first | walk_at "ev" | simp only [e1, ha, e2]
theorem cs_ok {n : Net} {a : D} {b : Int} (hn : n.Ok) (ha : den_are_attempts [encN n, a] = .ok (.bool true)) (h0 : 0 ≤ b) (h9 : b ≤ 9) : den_check_search [encN n, a, .int b] = if 2000 < (b + 1) ^ n.cs.length then .exc "TooLong" none else .ok .none := by
  have e1 := e_check_net hn
  have e2 : den_in_range [.int b, .int 0, .int 9] = .ok (.bool true) := by rw [in_int]; simp; omega
  have e9 : ixD (encN n) (.int 1) = some (.tuple (n.cs.map encC)) := rfl
  unfold den_check_search
  generalize den_check_net = f1 at *
  generalize den_are_attempts = f2 at *
  generalize den_in_range = f3 at *
  repeat first | walk_at "ev" | simp only [e1, ha, e2, e9]
  have step : ∀ (pre : List Ch) (x : Ch) (post : List Ch) (δ : DEnv), n.cs = pre ++ x :: post → (∃ v4, δ = [Sl.val (encN n), Sl.val a, Sl.val (.int b), Sl.val (.int ((b + 1) ^ pre.length)), v4]) →
      ∃ δ1, gN 4 (encC x) δ = some δ1 ∧ ∃ δ2, den_check_search_b1 δ1 = .next δ2 ∧ (∃ v4, δ2 = [Sl.val (encN n), Sl.val a, Sl.val (.int b), Sl.val (.int ((b + 1) ^ (pre ++ [x]).length)), v4]) := by
    intro pre x post δ hp p
    obtain ⟨v4, rfl⟩ := p
    refine ⟨_, rfl, ?_⟩
    unfold den_check_search_b1
    walk_at "ev"
    rw [List.length_append, List.length_cons, List.length_nil, Nat.zero_add, Int.pow_succ]
    exact ⟨_, rfl, _, rfl⟩
  obtain ⟨δ', j1, v4, rfl⟩ := forI (g := gN 4) (ds := den_check_search_b1) encC _ n.cs step n.cs [] [Sl.val (encN n), Sl.val a, Sl.val (.int b), Sl.val (.int 1), Sl.no] rfl ⟨Sl.no, by rw [List.length_nil, Int.pow_zero]⟩
  rw [j1]
  by_cases h : 2000 < (b + 1) ^ n.cs.length
  · repeat first | walk_at "ev" | simp only [h]
  · repeat first | walk_at "ev" | simp only [h]
theorem isN_opt {r : Option (List Int)} : isNO true (optD r) = .ok (.bool r.isSome) := by cases r <;> rfl
theorem ag_exc {a b c : D} {x : Str} (h : den_check_search [a, b, c] = .exc x none) : den_agreeing_stocks [a, b, c] = .exc x none := by
  unfold den_agreeing_stocks
  generalize den_check_search = f1 at *
  repeat first | walk_at "ev" | simp only [h]
theorem ar_exc {a b c : D} {x : Str} (h : den_check_search [a, b, c] = .exc x none) : den_amount_ranges [a, b, c] = .exc x none := by
  unfold den_amount_ranges
  generalize den_check_search = f1 at *
  repeat first | walk_at "ev" | simp only [h]
theorem ba_exc {a b c : D} {x : Str} (h : den_check_search [a, b, c] = .exc x none) : den_best_attempt [a, b, c] = .exc x none := by
  unfold den_best_attempt
  generalize den_check_search = f1 at *
  repeat first | walk_at "ev" | simp only [h]
theorem pow_room {b : Int} {m : Nat} (h0 : 0 ≤ b) (h : (b + 1) ^ m ≤ 2000) : ∀ i, i ≤ m → (b + 1).toNat ^ i ≤ 2000 := fun i hi => by
  have e : (((b + 1).toNat : Nat) : Int) = b + 1 := by omega
  rw [← e] at h
  have h2 : (b + 1).toNat ^ m ≤ 2000 := by exact_mod_cast h
  exact Nat.le_trans (Nat.pow_le_pow_right (by omega) hi) h2
def agreeL (n : Net) (l : List (Int × Bool)) (b : Int) : List (List Int) := (allS (b + 1).toNat n.cs.length).filter fun st => (followM n st l).isSome
theorem ag_ok {n : Net} {l : List (Int × Bool)} {b : Int} (hn : n.Ok) (hl : ∀ a ∈ l, 0 ≤ a.1 ∧ a.1 < n.s) (h40 : l.length ≤ 40) (h0 : 0 ≤ b) (h9 : b ≤ 9) (hp : (b + 1) ^ n.cs.length ≤ 2000) : den_agreeing_stocks [encN n, .tuple (l.map encA), .int b] = .ok (.list ((agreeL n l b).map encS)) := by
  have h5 := hn.len
  have e1 := cs_ok hn (e_are_attempts hl h40) h0 h9
  rw [if_neg (by omega)] at e1
  have hr := pow_room h0 hp
  have e2 := e_all_stocks (m := n.cs.length) h0 h9 h5 (fun i hi => by have := hr i hi; omega)
  have e9 : ixD (encN n) (.int 1) = some (.tuple (n.cs.map encC)) := rfl
  have hsz : (allS (b + 1).toNat n.cs.length).length ≤ 1000000 := by
    rw [allS_len]
    have := hr n.cs.length (Nat.le_refl _)
    omega
  unfold den_agreeing_stocks
  generalize den_check_search = f1 at *
  generalize den_all_stocks = f2 at *
  repeat first | walk_at "ev" | simp only [e1, e2, e9]
  have key := compL_map (g := gN 3) (d := den_agreeing_stocks_t1) (da := den_agreeing_stocks_e1) (δ := [Sl.val (encN n), Sl.val (.tuple (l.map encA)), Sl.val (.int b), Sl.no]) encS (fun st => (followM n st l).isSome) encS (allS (b + 1).toNat n.cs.length) (by
    intro st hst
    refine ⟨_, rfl, ?_, fun _ => rfl⟩
    have e3 := e_follow (st := st) (l := l) hn
    unfold den_agreeing_stocks_t1
    unfold encS
    generalize den_follow = f3 at *
    repeat first | walk_at "ev" | simp only [e3, isN_opt])
  rw [key]
  walk_at "ev"
  rfl
/-! ### the law's own calls -/
theorem hid_exc {m : Int} {a b c : D} {x s : Str} (h1 : den_agreeing_stocks [a, b, c] = .exc x none) (h2 : den_amount_ranges [a, b, c] = .exc x none) (h3 : den_best_attempt [a, b, c] = .exc x none)
    (hk : x ∈ (["NetError", "InvalidNet", "InvalidAttempts", "InvalidBound", "TooLong"] : List Str)) (hh : handle [⟨"InvalidAttempts", "NetError", "InvalidBound", "attempts", "other"⟩, ⟨"InvalidBound", "NetError", "InvalidAttempts", "bound", "other"⟩, ⟨"TooLong", "NetError", "InvalidBound", "long", "other"⟩] x = some s) :
    den__law_hidden [.int m, a, b, c] = .ok (.str s) := by
  unfold den__law_hidden
  generalize den_agreeing_stocks = f1 at *
  generalize den_amount_ranges = f2 at *
  generalize den_best_attempt = f3 at *
  walk_at "ev"
  rw [try_exc (n := x) (s := s) (δ' := [Sl.val (.int m), Sl.val a, Sl.val b, Sl.val c, Sl.no]) ?_ hk (by simp) hh]
  · rfl
  · by_cases c0 : m = 0
    · repeat first | walk_at "ev" | simp only [c0, h1]
    · by_cases c1 : m = 1
      · repeat first | walk_at "ev" | simp only [c0, c1, h2]
      · repeat first | walk_at "ev" | simp only [c0, c1, h3]
theorem hid_ok0 {a b c r : D} (h1 : den_agreeing_stocks [a, b, c] = .ok r) : den__law_hidden [.int 0, a, b, c] = .ok r := by
  unfold den__law_hidden
  generalize den_agreeing_stocks = f1 at *
  walk_at "ev"
  rw [try_ret (d := r) (by repeat first | walk_at "ev" | simp only [h1])]
  rfl
end RN

end
section
namespace RN
open PySem L2 RD
local macro_rules | `(tactic| walk_at "ev") => `(tactic| simp -implicitDefEqProofs (disch := first | omega | (simp only [List.length_map, List.length_append, List.length_cons, List.length_nil, rng_len]; done) | (simp only [List.length_map, List.length_append, List.length_cons, List.length_nil, rng_len]; omega)) only [Int.toNat_natCast, Int.cast_ofNat_Int, eq_self, Int.reduceEq, Int.reduceLT, Int.reduceLE, Int.reduceSub, Int.reduceAdd, x_run, x_seq, seq_next, seq_ret, seq_exc, seq_brk, seq_cont, fin_next, fin_ret, fin_exc, bind_ok, bind_exc, ofO_some, out_ok, out_exc, oout_some, x_var, x_varB, var_val, varB_val, varB_own, x_op, x_c, x_test, test_b, x_cb, x_nil, x_cons, x_ret, x_drop, x_set, x_setN, x_next, x_app, app_own, x_ext, ext_own, x_setIx, setIx_own, x_par, par_2, x_aug, aug_val, x_frz, frz_own, frz_val, x_augM, augM_val, x_enum, enum_t, x_asg, x_tup, x_lst, x_ifS, x_if, x_and, x_or, x_not, x_andV, x_orV, and_b, or_b, x_notV, x_tru, tru_b, tru_i, tru_l, tru_t, tru_n, x_isN, isN_n, isN_i, isN_t, isN_l, isN_b, x_un, neg_i, x_chain, ch_b, x_noP, x_P, p_i, x_sl, sl_l, sl_t, x_isi, isiD, x_call, x_raise, x_items, items_l, items_t, x_rng1, x_rng2, rng1_i, rng2_i, x_zip, zip_l, zip_t, x_for, x_lc, x_yes, x_gN, gsN_nil, gsC_cons, gT_tup, obind_some, len_l, len_t, len_s, int_i, int_b, max_i, min_i, tuple_l, tuple_t, list_l, list_t, ltI, leI, gtI, geI, eqI, neI, addI, subI, mulI, mulI', divI, modI, powC, szT, rng_len, ixL, ixT, at0, at1, at2, at3, ixI, wipeD, List.map_cons, List.map_nil, List.replicate_succ, List.replicate_zero, List.append_nil, List.cons_append, List.nil_append, List.getElem?_cons_zero, List.getElem?_cons_succ, List.set_cons_zero, List.set_cons_succ, List.length_map, List.length_cons, List.length_nil, decide_eq_true_eq, decide_true, decide_false, if_true, if_false, Bool.false_eq_true, Bool.not_true, Bool.not_false, ite_true, ite_false, Nat.reduceAdd, Nat.reduceEqDiff, Int.reduceToNat, and_true, true_and, and_self, Nat.zero_add])

theorem ints_encI : ∀ l : List Int, intsD (encI l) = some l
  | [] => rfl
  | a :: l => by
    show (intsD (encI l)).map (a :: ·) = _
    rw [ints_encI l]
    rfl
theorem agg_i {f : List Int → Int} {l : List Int} (h : l ≠ []) : aggD f true [.list (encI l)] = some (.int (f l)) := by
  show (intsD (encI l)).bind (fun ns => if true = true ∧ ns = [] then none else some (PyData.int (f ns))) = _
  rw [ints_encI]
  simp [h]
def folL (n : Net) (l : List (Int × Bool)) (b : Int) : List (List Int) := (allS (b + 1).toNat n.cs.length).filterMap fun st => followM n st l
theorem followM_len {n : Net} : ∀ {l : List (Int × Bool)} {st r : List Int}, st.length = n.cs.length → followM n st l = some r → r.length = n.cs.length
  | [], st, r, h, q => by cases q; exact h
  | a :: l, st, r, h, q => by
    unfold followM at q
    rw [List.foldlM_cons] at q
    unfold stepF at q
    split at q
    · refine followM_len (l := l) (st := if a.2 then aftr n st a.1 else st) ?_ q
      split
      · exact aftr_len h
      · exact h
    · cases q
theorem folL_len {n : Net} {l : List (Int × Bool)} {b : Int} {x : List Int} (h : x ∈ folL n l b) : x.length = n.cs.length := by
  obtain ⟨st, h1, h2⟩ := List.mem_filterMap.mp h
  exact followM_len (allS_mem h1).1 h2
def col (fol : List (List Int)) (i : Nat) : List Int := fol.map fun a => a.getD i 0
def rngD (fol : List (List Int)) (i : Nat) : D := .tuple [.int (minL (col fol i)), .int (maxL (col fol i))]
def isNe (fol : List (List Int)) : Bool := !fol.isEmpty
theorem map_isE {α β : Type} (f : α → β) (l : List α) : (l.map f).isEmpty = l.isEmpty := by cases l <;> rfl
theorem ar_ok {n : Net} {l : List (Int × Bool)} {b : Int} (hn : n.Ok) (hl : ∀ a ∈ l, 0 ≤ a.1 ∧ a.1 < n.s) (h40 : l.length ≤ 40) (h0 : 0 ≤ b) (h9 : b ≤ 9) (hp : (b + 1) ^ n.cs.length ≤ 2000) :
    den_amount_ranges [encN n, .tuple (l.map encA), .int b] = if (folL n l b).isEmpty then .exc "InvalidAttempts" none else .ok (.list ((List.range n.cs.length).map (rngD (folL n l b)))) := by
  have h5 := hn.len
  have e1 := cs_ok hn (e_are_attempts hl h40) h0 h9
  rw [if_neg (by omega)] at e1
  have hr := pow_room h0 hp
  have e2 := e_all_stocks (m := n.cs.length) h0 h9 h5 (fun i hi => by have := hr i hi; omega)
  have e9 : ixD (encN n) (.int 1) = some (.tuple (n.cs.map encC)) := rfl
  have hsz : (allS (b + 1).toNat n.cs.length).length ≤ 2000 := by
    rw [allS_len]
    exact hr n.cs.length (Nat.le_refl _)
  have hlen := fun x (h : x ∈ folL n l b) => folL_len h
  have hfl : (folL n l b).length ≤ 2000 := Nat.le_trans (List.length_filterMap_le _ _) hsz
  have e3 : ∀ st : List Int, den_follow [encN n, .tuple (encI st), .tuple (l.map encA)] = .ok (optD (followM n st l)) := fun st => e_follow hn
  unfold den_amount_ranges
  generalize den_check_search = f1 at *
  generalize den_all_stocks = f2 at *
  repeat first | walk_at "ev" | simp only [e1, e2, e9]
  have step : ∀ (pre : List (List Int)) (x : List Int) (post : List (List Int)) (δ : DEnv), allS (b + 1).toNat n.cs.length = pre ++ x :: post → (∃ v4 v7, δ = [Sl.val (encN n), Sl.val (.tuple (l.map encA)), Sl.val (.int b), Sl.own (.list ((pre.filterMap fun st => followM n st l).map encS)), v4, Sl.no, Sl.no, v7, Sl.no]) →
      ∃ δ1, gN 4 (encS x) δ = some δ1 ∧ ∃ δ2, den_amount_ranges_b1 δ1 = .next δ2 ∧ (∃ v4 v7, δ2 = [Sl.val (encN n), Sl.val (.tuple (l.map encA)), Sl.val (.int b), Sl.own (.list (((pre ++ [x]).filterMap fun st => followM n st l).map encS)), v4, Sl.no, Sl.no, v7, Sl.no]) := by
    intro pre x post δ hp p
    obtain ⟨v4, v7, rfl⟩ := p
    refine ⟨_, rfl, ?_⟩
    have hpl : (pre.filterMap fun st => followM n st l).length ≤ 1000000 := by
      have h1 := List.length_filterMap_le (fun st => followM n st l) pre
      have h2 := congrArg List.length hp
      rw [List.length_append] at h2
      omega
    have e4 := e3 x
    unfold den_amount_ranges_b1
    generalize den_follow = f3 at *
    unfold encS
    rw [List.filterMap_append]
    cases q : followM n x l with
    | none =>
      rw [q] at e4
      repeat first | walk_at "ev" | simp only [e4, isN_opt, optD, Option.isSome, List.filterMap_cons, List.filterMap_nil, q]
      exact ⟨_, rfl, _, _, rfl⟩
    | some r =>
      rw [q] at e4
      have eo : optD (some r) = .tuple (encI r) := rfl
      repeat first | walk_at "ev" | simp only [e4, isN_opt, Option.isSome, List.filterMap_cons, List.filterMap_nil, q, eo, List.map_append]
      exact ⟨_, rfl, _, _, rfl⟩
  obtain ⟨δ', j1, v4, v7, rfl⟩ := forI (g := gN 4) (ds := den_amount_ranges_b1) encS _ (allS (b + 1).toNat n.cs.length) step (allS (b + 1).toNat n.cs.length) [] [Sl.val (encN n), Sl.val (.tuple (l.map encA)), Sl.val (.int b), Sl.own (.list []), Sl.no, Sl.no, Sl.no, Sl.no, Sl.no] rfl ⟨_, _, rfl⟩
  rw [j1]
  change _ = if (folL n l b).isEmpty = true then _ else _
  rw [show ((allS (b + 1).toNat n.cs.length).filterMap fun st => followM n st l) = folL n l b from rfl]
  generalize folL n l b = fol at *
  by_cases hf : fol = []
  · subst hf
    repeat first | walk_at "ev" | simp only [List.isEmpty_nil]
  · have hne : fol.isEmpty = false := by cases fol with | nil => exact absurd rfl hf | cons _ _ => rfl
    have hcol : ∀ i, col fol i ≠ [] := fun i => by
      unfold col
      cases fol with
      | nil => exact absurd rfl hf
      | cons _ _ => simp
    repeat first | walk_at "ev" | simp only [map_isE, hne, e9]
    have loop : ∀ (i : Nat) (δ : DEnv), i < n.cs.length → (∃ s3 v6 v7 v8, (s3 = Sl.own (.list (fol.map encS)) ∨ s3 = Sl.val (.list (fol.map encS))) ∧ δ = [Sl.val (encN n), Sl.val (.tuple (l.map encA)), Sl.val (.int b), s3, v4, Sl.own (.list ((List.range i).map (rngD fol))), v6, v7, v8]) →
        ∃ δ1, gN 6 (.int (i : Int)) δ = some δ1 ∧ ∃ δ2, den_amount_ranges_b2 δ1 = .next δ2 ∧ (∃ s3 v6 v7 v8, (s3 = Sl.own (.list (fol.map encS)) ∨ s3 = Sl.val (.list (fol.map encS))) ∧ δ2 = [Sl.val (encN n), Sl.val (.tuple (l.map encA)), Sl.val (.int b), s3, v4, Sl.own (.list ((List.range (i + 1)).map (rngD fol))), v6, v7, v8]) := by
      intro i δ hi p
      obtain ⟨s3, v6, v7, v8, hs3, rfl⟩ := p
      refine ⟨_, rfl, ?_⟩
      have ec : compL (gN 8) dYes den_amount_ranges_e1 [Sl.val (encN n), Sl.val (.tuple (l.map encA)), Sl.val (.int b), Sl.val (.list (fol.map encS)), v4, Sl.own (.list ((List.range i).map (rngD fol))), Sl.val (.int (i : Int)), v7, Sl.no] (fol.map encS) = .ok (encI (col fol i)) := by
        rw [compL_map encS (fun _ => true) (fun a => .int (a.getD i 0)) fol, filter_true]
        · unfold col
          simp only [encI, List.map_map]
          rfl
        · intro a ha
          refine ⟨_, rfl, rfl, fun _ => ?_⟩
          unfold den_amount_ranges_e1 encS
          have := ixN' (l := a) (i := i) (by rw [hlen a ha]; exact hi)
          repeat first | walk_at "ev" | simp only [this]
      have a1 := agg_i (f := minL) (hcol i)
      have a2 := agg_i (f := maxL) (hcol i)
      have hrl : (List.range i).length ≤ 1000000 := by simp; omega
      unfold den_amount_ranges_b2
      rcases hs3 with rfl | rfl
      · repeat first | walk_at "ev" | simp only [ec, a1, a2]
        rw [List.range_succ, List.map_append]
        exact ⟨_, rfl, _, _, _, _, .inr rfl, rfl⟩
      · repeat first | walk_at "ev" | simp only [ec, a1, a2]
        rw [List.range_succ, List.map_append]
        exact ⟨_, rfl, _, _, _, _, .inr rfl, rfl⟩
    obtain ⟨δ', j2, s3, v6, v7', v8, hs3, rfl⟩ := forR0 (g := gN 6) (ds := den_amount_ranges_b2) (δ := [Sl.val (encN n), Sl.val (.tuple (l.map encA)), Sl.val (.int b), Sl.own (.list (fol.map encS)), v4, Sl.own (.list []), Sl.no, v7, Sl.no]) _ n.cs.length ⟨_, _, _, _, .inl rfl, rfl⟩ loop
    rw [j2]
    walk_at "ev"
/-! ### the best attempt -/
def worstI (n : Net) (fol : List (List Int)) (s : Int) : Int :=
  if (fol.length : Int) - ((fol.filter fun a => isReady n a s).length : Nat) > ((fol.filter fun a => isReady n a s).length : Nat) then (fol.length : Int) - ((fol.filter fun a => isReady n a s).length : Nat) else ((fol.filter fun a => isReady n a s).length : Nat)
def bestW (len w s : Int) : Option (Int × Int) → Option (Int × Int)
  | none => if w < len then some (w, s) else none
  | some p => if w < len then (if w < p.1 then some (w, s) else some p) else some p
def bestS (n : Net) (fol : List (List Int)) (best : Option (Int × Int)) (s : Nat) : Option (Int × Int) := bestW fol.length (worstI n fol s) s best
def bestO (n : Net) (fol : List (List Int)) (k : Nat) : Option (Int × Int) := (List.range k).foldl (bestS n fol) none
def encB : Option (Int × Int) → D
  | none => .none
  | some p => .tuple [.int p.1, .int p.2]
theorem bestO_succ {n : Net} {fol : List (List Int)} {k : Nat} : bestO n fol (k + 1) = bestS n fol (bestO n fol k) k := by
  unfold bestO
  rw [List.range_succ, List.foldl_append]
  rfl
def bestD : Option (Int × Int) → D
  | none => .none
  | some p => .int p.2
theorem fol_map (f : List Int → Option (List Int)) : ∀ L : List (List Int), (L.filter fun st => (f st).isSome).map (fun st => optD (f st)) = (L.filterMap f).map encS
  | [] => rfl
  | a :: L => by
    have ih := fol_map f L
    cases q : f a with
    | none => rw [List.filter_cons_of_neg (by simp [q]), List.filterMap_cons_none q]; exact ih
    | some r => rw [List.filter_cons_of_pos (by simp [q]), List.filterMap_cons_some q, List.map_cons, List.map_cons, ih, q]; rfl
theorem ba_ok {n : Net} {l : List (Int × Bool)} {b : Int} (hn : n.Ok) (hl : ∀ a ∈ l, 0 ≤ a.1 ∧ a.1 < n.s) (h40 : l.length ≤ 40) (h0 : 0 ≤ b) (h9 : b ≤ 9) (hp : (b + 1) ^ n.cs.length ≤ 2000) :
    den_best_attempt [encN n, .tuple (l.map encA), .int b] = if (folL n l b).isEmpty then .exc "InvalidAttempts" none else .ok (bestD (bestO n (folL n l b) n.s.toNat)) := by
  have h5 := hn.len
  have := hn.s0; have := hn.s1
  have e1 := cs_ok hn (e_are_attempts hl h40) h0 h9
  rw [if_neg (by omega)] at e1
  have hr := pow_room h0 hp
  have e2 := e_all_stocks (m := n.cs.length) h0 h9 h5 (fun i hi => by have := hr i hi; omega)
  have e9 : ixD (encN n) (.int 1) = some (.tuple (n.cs.map encC)) := rfl
  have e8 : ixD (encN n) (.int 0) = some (.int n.s) := rfl
  have hsz : (allS (b + 1).toNat n.cs.length).length ≤ 2000 := by
    rw [allS_len]
    exact hr n.cs.length (Nat.le_refl _)
  have hfl : (folL n l b).length ≤ 2000 := Nat.le_trans (List.length_filterMap_le _ _) hsz
  have e3 : ∀ st : List Int, den_follow [encN n, .tuple (encI st), .tuple (l.map encA)] = .ok (optD (followM n st l)) := fun st => e_follow hn
  have e4 : ∀ (st : List Int) (s : Int), den_is_ready [encN n, .tuple (encI st), .int s] = .ok (.bool (isReady n st s)) := fun st s => e_is_ready (by omega)
  have ec1 : compL (gN 8) dYes den_best_attempt_e1 [Sl.val (encN n), Sl.val (.tuple (l.map encA)), Sl.val (.int b), Sl.no, Sl.no, Sl.no, Sl.no, Sl.no, Sl.no, Sl.no] ((allS (b + 1).toNat n.cs.length).map encS) = .ok ((allS (b + 1).toNat n.cs.length).map fun st => optD (followM n st l)) := by
    rw [compL_map encS (fun _ => true) (fun st => optD (followM n st l)), filter_true]
    intro st _
    refine ⟨_, rfl, rfl, fun _ => ?_⟩
    unfold den_best_attempt_e1 encS
    have e3' := e3 st
    generalize den_follow = f3 at *
    repeat first | walk_at "ev" | simp only [e3']
  have ec2 : ∀ v3 : Sl, compL (gN 9) den_best_attempt_t1 den_best_attempt_e2 [Sl.val (encN n), Sl.val (.tuple (l.map encA)), Sl.val (.int b), v3, Sl.no, Sl.no, Sl.no, Sl.no, Sl.no, Sl.no] ((allS (b + 1).toNat n.cs.length).map fun st => optD (followM n st l)) = .ok ((folL n l b).map encS) := by
    intro v3
    rw [compL_map (fun st => optD (followM n st l)) (fun st => (followM n st l).isSome) (fun st => optD (followM n st l))]
    · rw [fol_map]
      rfl
    · intro st _
      refine ⟨_, rfl, ?_, fun _ => rfl⟩
      unfold den_best_attempt_t1
      repeat first | walk_at "ev" | simp only [isN_opt]
  unfold den_best_attempt
  generalize den_check_search = f1 at *
  generalize den_all_stocks = f2 at *
  repeat first | walk_at "ev" | simp only [e1, e2, e9, ec1, ec2]
  generalize folL n l b = fol at *
  by_cases hf : fol = []
  · subst hf
    repeat first | walk_at "ev" | simp only [List.isEmpty_nil]
  · have hne : fol.isEmpty = false := by cases fol with | nil => exact absurd rfl hf | cons _ _ => rfl
    repeat first | walk_at "ev" | simp only [map_isE, hne, e8]
    have loop : ∀ (i : Nat) (δ : DEnv), i < n.s.toNat → (∃ v5 v6 v7, δ = [Sl.val (encN n), Sl.val (.tuple (l.map encA)), Sl.val (.int b), Sl.val (.list (fol.map encS)), Sl.val (encB (bestO n fol i)), v5, v6, v7, Sl.no, Sl.no]) →
        ∃ δ1, gN 5 (.int (i : Int)) δ = some δ1 ∧ ∃ δ2, den_best_attempt_b1 δ1 = .next δ2 ∧ (∃ v5 v6 v7, δ2 = [Sl.val (encN n), Sl.val (.tuple (l.map encA)), Sl.val (.int b), Sl.val (.list (fol.map encS)), Sl.val (encB (bestO n fol (i + 1))), v5, v6, v7, Sl.no, Sl.no]) := by
      intro i δ hi p
      obtain ⟨v5, v6, v7, rfl⟩ := p
      refine ⟨_, rfl, ?_⟩
      have ec : compL (gN 9) den_best_attempt_t2 den_best_attempt_e3 [Sl.val (encN n), Sl.val (.tuple (l.map encA)), Sl.val (.int b), Sl.val (.list (fol.map encS)), Sl.val (encB (bestO n fol i)), Sl.val (.int (i : Int)), v6, v7, Sl.no, Sl.no] (fol.map encS) = .ok ((fol.filter fun a => isReady n a (i : Int)).map encS) := by
        apply compL_map encS (fun a => isReady n a (i : Int)) encS
        intro a _
        refine ⟨_, rfl, ?_, fun _ => rfl⟩
        have e4' := e4 a (i : Int)
        unfold den_best_attempt_t2 encS
        generalize den_is_ready = f4 at *
        repeat first | walk_at "ev" | simp only [e4']
      rw [bestO_succ]
      unfold den_best_attempt_b1 bestS
      repeat first | walk_at "ev" | simp only [ec]
      have hw : (if (fol.length : Int) - ((fol.filter fun a => isReady n a (i : Int)).length : Nat) > ((fol.filter fun a => isReady n a (i : Int)).length : Nat) then (fol.length : Int) - ((fol.filter fun a => isReady n a (i : Int)).length : Nat) else ((fol.filter fun a => isReady n a (i : Int)).length : Nat)) = worstI n fol i := rfl
      simp only [hw]
      generalize worstI n fol i = w
      have hi0 : isNO false .none = .ok (.bool true) := rfl
      by_cases c1 : w < (fol.length : Int)
      · cases hq : bestO n fol i with
        | none =>
          unfold encB bestW
          repeat first | walk_at "ev" | simp only [c1]
          exact ⟨_, rfl, _, _, _, rfl⟩
        | some p =>
          unfold encB bestW
          by_cases c2 : w < p.1
          · repeat first | walk_at "ev" | simp only [c1, c2]
            exact ⟨_, rfl, _, _, _, rfl⟩
          · repeat first | walk_at "ev" | simp only [c1, c2]
            exact ⟨_, rfl, _, _, _, rfl⟩
      · have hb : bestW fol.length w i (bestO n fol i) = bestO n fol i := by
          cases bestO n fol i <;> simp [bestW, c1]
        rw [hb]
        repeat first | walk_at "ev" | simp only [c1]
        exact ⟨_, rfl, _, _, _, rfl⟩
    obtain ⟨δ', j2, v5, v6, v7, rfl⟩ := forR0 (g := gN 5) (ds := den_best_attempt_b1) (δ := [Sl.val (encN n), Sl.val (.tuple (l.map encA)), Sl.val (.int b), Sl.val (.list (fol.map encS)), Sl.val .none, Sl.no, Sl.no, Sl.no, Sl.no, Sl.no]) _ n.s.toNat ⟨_, _, _, rfl⟩ loop
    rw [j2]
    cases hq : bestO n fol n.s.toNat with
    | none =>
      unfold encB bestD
      walk_at "ev"
    | some p =>
      unfold encB bestD
      walk_at "ev"
end RN

end
section
namespace RN
open PySem L2 RD
local macro_rules | `(tactic| walk_at "ev") => `(tactic| simp -implicitDefEqProofs (disch := first | omega | (simp only [List.length_map, List.length_append, List.length_cons, List.length_nil, rng_len]; done) | (simp only [List.length_map, List.length_append, List.length_cons, List.length_nil, rng_len]; omega)) only [Int.toNat_natCast, Int.cast_ofNat_Int, eq_self, Int.reduceEq, Int.reduceLT, Int.reduceLE, Int.reduceSub, Int.reduceAdd, x_run, x_seq, seq_next, seq_ret, seq_exc, seq_brk, seq_cont, fin_next, fin_ret, fin_exc, bind_ok, bind_exc, ofO_some, out_ok, out_exc, oout_some, x_var, x_varB, var_val, varB_val, varB_own, x_op, x_c, x_test, test_b, x_cb, x_nil, x_cons, x_ret, x_drop, x_set, x_setN, x_next, x_app, app_own, x_ext, ext_own, x_setIx, setIx_own, x_par, par_2, x_aug, aug_val, x_frz, frz_own, frz_val, x_augM, augM_val, x_enum, enum_t, x_asg, x_tup, x_lst, x_ifS, x_if, x_and, x_or, x_not, x_andV, x_orV, and_b, or_b, x_notV, x_tru, tru_b, tru_i, tru_l, tru_t, tru_n, x_isN, isN_n, isN_i, isN_t, isN_l, isN_b, x_un, neg_i, x_chain, ch_b, x_noP, x_P, p_i, x_sl, sl_l, sl_t, x_isi, isiD, x_call, x_raise, x_items, items_l, items_t, x_rng1, x_rng2, rng1_i, rng2_i, x_zip, zip_l, zip_t, x_for, x_lc, x_yes, x_gN, gsN_nil, gsC_cons, gT_tup, obind_some, len_l, len_t, len_s, int_i, int_b, max_i, min_i, tuple_l, tuple_t, list_l, list_t, ltI, leI, gtI, geI, eqI, neI, addI, subI, mulI, mulI', divI, modI, powC, szT, rng_len, ixL, ixT, at0, at1, at2, at3, ixI, wipeD, List.map_cons, List.map_nil, List.replicate_succ, List.replicate_zero, List.append_nil, List.cons_append, List.nil_append, List.getElem?_cons_zero, List.getElem?_cons_succ, List.set_cons_zero, List.set_cons_succ, List.length_map, List.length_cons, List.length_nil, decide_eq_true_eq, decide_true, decide_false, if_true, if_false, Bool.false_eq_true, Bool.not_true, Bool.not_false, ite_true, ite_false, Nat.reduceAdd, Nat.reduceEqDiff, Int.reduceToNat, and_true, true_and, and_self, Nat.zero_add])

theorem ok_attempts16 : PyData.strOk "attempts" = true := by decide +kernel
theorem hid_ok1 {a b c r : D} (h1 : den_amount_ranges [a, b, c] = .ok r) : den__law_hidden [.int 1, a, b, c] = .ok r := by
  unfold den__law_hidden
  generalize den_amount_ranges = f1 at *
  walk_at "ev"
  rw [try_ret (d := r) (by repeat first | walk_at "ev" | simp only [h1])]
  rfl
theorem hid_ok2 {a b c r : D} (h1 : den_best_attempt [a, b, c] = .ok r) : den__law_hidden [.int 2, a, b, c] = .ok r := by
  unfold den__law_hidden
  generalize den_best_attempt = f1 at *
  walk_at "ev"
  rw [try_ret (d := r) (by repeat first | walk_at "ev" | simp only [h1])]
  rfl
theorem hid_e1 {a b c : D} (h1 : den_amount_ranges [a, b, c] = .exc "InvalidAttempts" none) : den__law_hidden [.int 1, a, b, c] = .ok (.str "attempts") := by
  unfold den__law_hidden
  generalize den_amount_ranges = f1 at *
  walk_at "ev"
  rw [try_exc (n := "InvalidAttempts") (s := "attempts") (δ' := [Sl.val (.int 1), Sl.val a, Sl.val b, Sl.val c, Sl.no]) (by repeat first | walk_at "ev" | simp only [h1]) (by simp) (by simp) rfl]
  rfl
theorem hid_e2 {a b c : D} (h1 : den_best_attempt [a, b, c] = .exc "InvalidAttempts" none) : den__law_hidden [.int 2, a, b, c] = .ok (.str "attempts") := by
  unfold den__law_hidden
  generalize den_best_attempt = f1 at *
  walk_at "ev"
  rw [try_exc (n := "InvalidAttempts") (s := "attempts") (δ' := [Sl.val (.int 2), Sl.val a, Sl.val b, Sl.val c, Sl.no]) (by repeat first | walk_at "ev" | simp only [h1]) (by simp) (by simp) rfl]
  rfl
theorem sh_bestD {o : Option (Int × Int)} : ShN 0 (bestD o) := by
  cases o
  · exact sh_none
  · exact sh_int
theorem law_true_k16 (ns : List Int) : den_law_k16 [scrD ns] = .ok (.bool true) := by
  obtain ⟨n, hn, q1, q2, en⟩ := e_net ns 2 4 3 (by decide) (by decide) (by decide) (by decide) (by decide)
  have := hn.s0; have := hn.s1; have hn5 := hn.len
  have e8 : ixD (encN n) (.int 0) = some (.int n.s) := rfl
  have e9 : ixD (encN n) (.int 1) = some (.tuple (n.cs.map encC)) := rfl
  have bp : ((4 : Int) + 1) ^ n.cs.length ≤ 2000 := by
    have h : n.cs.length = 0 ∨ n.cs.length = 1 ∨ n.cs.length = 2 ∨ n.cs.length = 3 := by omega
    rcases h with h | h | h | h <;> rw [h] <;> decide
  obtain ⟨st, s1, s2, es⟩ := e_stock ns 3 n 4 (by decide) hn (by decide)
  obtain ⟨l, l1, l2, ea⟩ := e_law_attempts ns 4 (n := n) (st := st) (by decide) hn s1
  have hr := pow_room (b := 4) (by decide) bp
  have ev := e_every_stock (n := n) (b := 4) (by decide) (by decide) hn5 (fun i hi => by have := hr i hi; omega)
  have hsz : (allS ((4 : Int) + 1).toNat n.cs.length).length ≤ 2000 := by
    rw [allS_len]
    exact hr n.cs.length (Nat.le_refl _)
  have har := ar_ok (b := 4) hn l2 (by omega) (by decide) (by decide) bp
  have hba := ba_ok (b := 4) hn l2 (by omega) (by decide) (by decide) bp
  have hfl : (folL n l 4).length ≤ 2000 := Nat.le_trans (List.length_filterMap_le _ _) hsz
  have hlen := fun x (h : x ∈ folL n l 4) => folL_len h
  have ec1 : compL (gN 14) dYes den_law_k16_e1 [Sl.val (scrD ns), Sl.val (encN n), Sl.val (.int 4), Sl.val (.tuple (l.map encA)), Sl.no, Sl.no, Sl.no, Sl.no, Sl.no, Sl.no, Sl.no, Sl.no, Sl.no, Sl.no, Sl.no, Sl.no] ((allS ((4 : Int) + 1).toNat n.cs.length).map encS) = .ok ((allS ((4 : Int) + 1).toNat n.cs.length).map fun st => optD (followM n st l)) := by
    rw [compL_map encS (fun _ => true) (fun st => optD (followM n st l)), filter_true]
    intro st hst
    refine ⟨_, rfl, rfl, fun _ => ?_⟩
    have e3 := e_law_follow (st := st) (l := l) hn (allS_mem hst).1 l2
    unfold den_law_k16_e1 encS
    generalize den__law_follow = f3 at *
    repeat first | walk_at "ev" | simp only [e3]
  have ec2 : ∀ v4 : Sl, compL (gN 15) den_law_k16_t1 den_law_k16_e2 [Sl.val (scrD ns), Sl.val (encN n), Sl.val (.int 4), Sl.val (.tuple (l.map encA)), v4, Sl.no, Sl.no, Sl.no, Sl.no, Sl.no, Sl.no, Sl.no, Sl.no, Sl.no, Sl.no, Sl.no] ((allS ((4 : Int) + 1).toNat n.cs.length).map fun st => optD (followM n st l)) = .ok ((folL n l 4).map encS) := by
    intro v4
    rw [compL_map (fun st => optD (followM n st l)) (fun st => (followM n st l).isSome) (fun st => optD (followM n st l))]
    · rw [fol_map]
      rfl
    · intro st _
      refine ⟨_, rfl, ?_, fun _ => rfl⟩
      unfold den_law_k16_t1
      repeat first | walk_at "ev" | simp only [isN_opt]
  unfold den_law_k16
  generalize den__law_net = f2 at *
  generalize den__law_stock = f3 at *
  generalize den__law_attempts = f4 at *
  generalize den__law_every_stock = f5 at *
  have hsz' : (allS ((4 : Int) + 1).toNat n.cs.length).length ≤ 1000000 := by omega
  generalize hA : allS ((4 : Int) + 1).toNat n.cs.length = A at *
  by_cases hf : folL n l 4 = []
  · rw [hf] at har hba ec2
    have h1 := hid_e1 har
    have h2 := hid_e2 hba
    generalize den__law_hidden = f6 at *
    have e0 := eq_same (sh_list sh_nil) (show 0 + 1 ≤ 64 by omega)
    repeat first | walk_at "ev" | simp only [en, es, ea, ev, ec1, ec2, h1, h2, e0, eq_same (sh_str ok_attempts16) (show 0 ≤ 64 by omega)]
  · have hne : (folL n l 4).isEmpty = false := by
      cases h : folL n l 4 with
      | nil => exact absurd h hf
      | cons _ _ => rfl
    rw [hne] at har hba
    have h1 := hid_ok1 har
    have h2 := hid_ok2 hba
    generalize den__law_hidden = f6 at *
    generalize folL n l 4 = fol at *
    have e0 : eqD false (.list (fol.map encS)) (.list []) = some (.bool false) := by
      have sh : ShN 2 (.list (fol.map encS)) := sh_list (sh_map fun _ => sh_tuple sh_encI)
      rw [eqD_sh sh (sh_list sh_nil) (show 2 ≤ 64 by omega) (show 0 + 1 ≤ 64 by omega), eqv_list]
      cases fol with
      | nil => exact absurd rfl hf
      | cons _ _ => simp [PyData.eqvAll]
    repeat first | walk_at "ev" | simp only [en, es, ea, ev, ec1, ec2, h1, h2, e0, e9]
    have hcol : ∀ i, col fol i ≠ [] := fun i => by
      unfold col
      cases fol with
      | nil => exact absurd rfl hf
      | cons _ _ => simp
    have loop : ∀ (i : Nat) (δ : DEnv), i < n.cs.length → (∃ v8 v11, δ = [Sl.val (scrD ns), Sl.val (encN n), Sl.val (.int 4), Sl.val (.tuple (l.map encA)), Sl.val (.list (fol.map encS)), Sl.val (.list ((List.range n.cs.length).map (rngD fol))), Sl.val (bestD (bestO n fol n.s.toNat)), Sl.own (.list ((List.range i).map (rngD fol))), v8, Sl.no, Sl.no, v11, Sl.no, Sl.no, Sl.no, Sl.no]) →
        ∃ δ1, gN 8 (.int (i : Int)) δ = some δ1 ∧ ∃ δ2, den_law_k16_b1 δ1 = .next δ2 ∧ (∃ v8 v11, δ2 = [Sl.val (scrD ns), Sl.val (encN n), Sl.val (.int 4), Sl.val (.tuple (l.map encA)), Sl.val (.list (fol.map encS)), Sl.val (.list ((List.range n.cs.length).map (rngD fol))), Sl.val (bestD (bestO n fol n.s.toNat)), Sl.own (.list ((List.range (i + 1)).map (rngD fol))), v8, Sl.no, Sl.no, v11, Sl.no, Sl.no, Sl.no, Sl.no]) := by
      intro i δ hi p
      obtain ⟨v8, v11, rfl⟩ := p
      refine ⟨_, rfl, ?_⟩
      have ec : compL (gN 15) dYes den_law_k16_e3 [Sl.val (scrD ns), Sl.val (encN n), Sl.val (.int 4), Sl.val (.tuple (l.map encA)), Sl.val (.list (fol.map encS)), Sl.val (.list ((List.range n.cs.length).map (rngD fol))), Sl.val (bestD (bestO n fol n.s.toNat)), Sl.own (.list ((List.range i).map (rngD fol))), Sl.val (.int (i : Int)), Sl.no, Sl.no, v11, Sl.no, Sl.no, Sl.no, Sl.no] (fol.map encS) = .ok (encI (col fol i)) := by
        rw [compL_map encS (fun _ => true) (fun a => .int (a.getD i 0)) fol, filter_true]
        · unfold col
          simp only [encI, List.map_map]
          rfl
        · intro a ha
          refine ⟨_, rfl, rfl, fun _ => ?_⟩
          unfold den_law_k16_e3 encS
          have := ixN' (l := a) (i := i) (by rw [hlen a ha]; exact hi)
          repeat first | walk_at "ev" | simp only [this]
      have a1 := agg_i (f := minL) (hcol i)
      have a2 := agg_i (f := maxL) (hcol i)
      have hrl : (List.range i).length ≤ 1000000 := by simp; omega
      unfold den_law_k16_b1
      repeat first | walk_at "ev" | simp only [ec, a1, a2]
      rw [List.range_succ, List.map_append]
      exact ⟨_, rfl, _, _, rfl⟩
    obtain ⟨δ', j2, v8, v11, rfl⟩ := forR0 (g := gN 8) (ds := den_law_k16_b1) (δ := [Sl.val (scrD ns), Sl.val (encN n), Sl.val (.int 4), Sl.val (.tuple (l.map encA)), Sl.val (.list (fol.map encS)), Sl.val (.list ((List.range n.cs.length).map (rngD fol))), Sl.val (bestD (bestO n fol n.s.toNat)), Sl.own (.list []), Sl.no, Sl.no, Sl.no, Sl.no, Sl.no, Sl.no, Sl.no, Sl.no]) _ n.cs.length ⟨_, _, rfl⟩ loop
    rw [j2]
    repeat first | walk_at "ev" | simp only [e8]
    have loop2 : ∀ (i : Nat) (δ : DEnv), i < n.s.toNat → (∃ v10 v12 v13, δ = [Sl.val (scrD ns), Sl.val (encN n), Sl.val (.int 4), Sl.val (.tuple (l.map encA)), Sl.val (.list (fol.map encS)), Sl.val (.list ((List.range n.cs.length).map (rngD fol))), Sl.val (bestD (bestO n fol n.s.toNat)), Sl.own (.list ((List.range n.cs.length).map (rngD fol))), v8, Sl.val (encB (bestO n fol i)), v10, v11, v12, v13, Sl.no, Sl.no]) →
        ∃ δ1, gN 10 (.int (i : Int)) δ = some δ1 ∧ ∃ δ2, den_law_k16_b2 δ1 = .next δ2 ∧ (∃ v10 v12 v13, δ2 = [Sl.val (scrD ns), Sl.val (encN n), Sl.val (.int 4), Sl.val (.tuple (l.map encA)), Sl.val (.list (fol.map encS)), Sl.val (.list ((List.range n.cs.length).map (rngD fol))), Sl.val (bestD (bestO n fol n.s.toNat)), Sl.own (.list ((List.range n.cs.length).map (rngD fol))), v8, Sl.val (encB (bestO n fol (i + 1))), v10, v11, v12, v13, Sl.no, Sl.no]) := by
      intro i δ hi p
      obtain ⟨v10, v12, v13, rfl⟩ := p
      refine ⟨_, rfl, ?_⟩
      have ec : compL (gN 15) den_law_k16_t2 den_law_k16_e4 [Sl.val (scrD ns), Sl.val (encN n), Sl.val (.int 4), Sl.val (.tuple (l.map encA)), Sl.val (.list (fol.map encS)), Sl.val (.list ((List.range n.cs.length).map (rngD fol))), Sl.val (bestD (bestO n fol n.s.toNat)), Sl.own (.list ((List.range n.cs.length).map (rngD fol))), v8, Sl.val (encB (bestO n fol i)), Sl.val (.int (i : Int)), v11, v12, v13, Sl.no, Sl.no] (fol.map encS) = .ok ((fol.filter fun a => isReady n a (i : Int)).map encS) := by
        apply compL_map encS (fun a => isReady n a (i : Int)) encS
        intro a ha
        refine ⟨_, rfl, ?_, fun _ => rfl⟩
        have e4' := e_law_ready (n := n) (st := a) (s := (i : Int)) hn5 (hlen a ha)
        unfold den_law_k16_t2 encS
        generalize den__law_ready = f4 at *
        repeat first | walk_at "ev" | simp only [e4']
      rw [bestO_succ]
      unfold den_law_k16_b2 bestS
      repeat first | walk_at "ev" | simp only [ec]
      have hw : (if (fol.length : Int) - ((fol.filter fun a => isReady n a (i : Int)).length : Nat) > ((fol.filter fun a => isReady n a (i : Int)).length : Nat) then (fol.length : Int) - ((fol.filter fun a => isReady n a (i : Int)).length : Nat) else ((fol.filter fun a => isReady n a (i : Int)).length : Nat)) = worstI n fol i := rfl
      simp only [hw]
      generalize worstI n fol i = w
      by_cases c1 : w < (fol.length : Int)
      · cases hq : bestO n fol i with
        | none =>
          unfold encB bestW
          repeat first | walk_at "ev" | simp only [c1]
          exact ⟨_, rfl, _, _, _, rfl⟩
        | some p =>
          unfold encB bestW
          by_cases c2 : w < p.1
          · repeat first | walk_at "ev" | simp only [c1, c2]
            exact ⟨_, rfl, _, _, _, rfl⟩
          · repeat first | walk_at "ev" | simp only [c1, c2]
            exact ⟨_, rfl, _, _, _, rfl⟩
      · have hb : bestW fol.length w i (bestO n fol i) = bestO n fol i := by
          cases bestO n fol i <;> simp [bestW, c1]
        rw [hb]
        repeat first | walk_at "ev" | simp only [c1]
        exact ⟨_, rfl, _, _, _, rfl⟩
    obtain ⟨δ', j3, v10, v12, v13, rfl⟩ := forR0 (g := gN 10) (ds := den_law_k16_b2) (δ := [Sl.val (scrD ns), Sl.val (encN n), Sl.val (.int 4), Sl.val (.tuple (l.map encA)), Sl.val (.list (fol.map encS)), Sl.val (.list ((List.range n.cs.length).map (rngD fol))), Sl.val (bestD (bestO n fol n.s.toNat)), Sl.own (.list ((List.range n.cs.length).map (rngD fol))), v8, Sl.val (encB (bestO n fol 0)), Sl.no, v11, Sl.no, Sl.no, Sl.no, Sl.no]) _ n.s.toNat ⟨_, _, _, rfl⟩ loop2
    have j3' := j3
    simp only [show encB (bestO n fol 0) = PyData.none from rfl] at j3'
    rw [j3']
    have sr : ShN 2 (.list ((List.range n.cs.length).map (rngD fol))) := sh_list (sh_map fun _ => sh_tuple (sh_cons sh_int (sh_cons sh_int sh_nil)))
    have er := eq_same sr (show 2 ≤ 64 by omega)
    cases hq : bestO n fol n.s.toNat with
    | none =>
      have eb := eq_same sh_none (show 0 ≤ 64 by omega)
      unfold encB bestD
      repeat first | walk_at "ev" | simp only [er, eb]
    | some p =>
      unfold encB bestD
      repeat first | walk_at "ev" | simp only [er]
end RN

end
section
namespace K16
open PySem L2 RD
def top (i : Nat) : Stmt := PySem.Challenge.pw_ratenets_k16_best_attempts.main.body.getD i (.Pass ⟨0, 0, 0, 0⟩)
def excs : List Str := ["NetError", "InvalidNet", "InvalidAttempts", "InvalidBound", "TooLong"]
structure Tx (K : PySem.W.Frag) (mg : Str → Option Value) : Prop where
  f_bool : mg "bool" = none
  f_int : mg "int" = none
  f_isinstance : mg "isinstance" = none
  f_len : mg "len" = none
  f_max : mg "max" = none
  f_min : mg "min" = none
  f_range : mg "range" = none
  f_tuple : mg "tuple" = none
  f_zip : mg "zip" = none
  i_MAX_ATTEMPTS : IntG mg "MAX_ATTEMPTS" 40
  i_MAX_BOUND : IntG mg "MAX_BOUND" 9
  i_MAX_CHANNELS : IntG mg "MAX_CHANNELS" 5
  i_MAX_RATE : IntG mg "MAX_RATE" 4
  i_MAX_STEPS : IntG mg "MAX_STEPS" 4
  i_MAX_STOCKS : IntG mg "MAX_STOCKS" 2000
  e_InvalidAttempts : ExcT K mg "InvalidAttempts"
  e_InvalidBound : ExcT K mg "InvalidBound"
  e_InvalidNet : ExcT K mg "InvalidNet"
  e_TooLong : ExcT K mg "TooLong"

  exk : ExK K mg excs
variable {P : Program} {w : World} {K : PySem.W.Frag} {mg : Str → Option Value} {base : Heap}
abbrev s_in_range : Stmt := top 10
abbrev N_in_range : List Str := ["value", "low", "high"]
theorem sc_in_range : FnScope N_in_range ["value", "low", "high"] (defScope s_in_range) := ⟨rfl, rfl, rfl, by decide +kernel, rfl, by decide +kernel, by decide +kernel⟩
theorem ok_in_range {f : Addr} {fd : FuncData} (T : Tx K mg) (F : Fun K "in_range" "in_range" s_in_range f fd) :
    FnOk P w K mg base (L2.CX P w) 1 f fd ["value", "low", "high"] (spK K mg 3 RN.den_in_range) := by
  letI : HasK := ⟨K, mg⟩
  refine fn_den F sc_in_range rfl fun cdv A outer s H E F0 hr => ?_
  have hu := hr.units
  exact ⟨_, (jss_one (js_ret (je_and (je_isi .int rfl T.f_isinstance rfl T.f_int (by decide +kernel) (by decide) (by decide) (je_var 0)) (je_and (je_not (JE.toB (je_isi .bool rfl T.f_isinstance rfl T.f_bool (by decide +kernel) (by decide) (by decide) (je_var 0)))) (je_one (je_lele (jb_var 1) (jb_var 0) (jb_var 2)))))))⟩
abbrev s_is_channel : Stmt := top 11
abbrev N_is_channel : List Str := ["steps", "value"]
theorem sc_is_channel : FnScope N_is_channel ["steps", "value"] (defScope s_is_channel) := ⟨rfl, rfl, rfl, by decide +kernel, rfl, by decide +kernel, by decide +kernel⟩
theorem ok_is_channel {f : Addr} {fd : FuncData} (T : Tx K mg) (F : Fun K "is_channel" "is_channel" s_is_channel f fd) (G_in_range : Cal P w K mg base 1 "in_range" 3 RN.den_in_range) :
    FnOk P w K mg base (L2.CX P w) 2 f fd ["steps", "value"] (spK K mg 2 RN.den_is_channel) := by
  letI : HasK := ⟨K, mg⟩
  refine fn_den F sc_is_channel rfl fun cdv A outer s H E F0 hr => ?_
  have hu := hr.units
  have tk := takes_of (X := cxOf (L2.CX P w) P w K mg base N_is_channel "is_channel" (defScope s_is_channel) f cdv A outer s H E) (E := E) rfl rfl rfl rfl
  exact ⟨_, (jss_cons (js_if (JW.t (jw_or (jt_not (jt_tru (JE.toB (je_isi .tuple rfl T.f_isinstance rfl T.f_tuple (by decide +kernel) (by decide) (by decide) (je_var 1))))) (jw_or1 (jt_ne hu (JE.toB (je_len rfl T.f_len (jab_cons (jb_var 1) jab_nil))) (JE.toB je_int))))) (jss_one (js_ret je_bl)) jss_nil)
      (jss_cons (js_if (JW.t (jw_or (jt_not (jt_tru (JE.toB (je_call _ rfl G_in_range hr (by decide) tk rfl (ja_cons (je_ix (jb_var 1) (JE.toB je_int)) (ja_cons je_int (ja_cons (je_sub (jb_var 0) (JE.toB je_int)) ja_nil))))))) (jw_or (jt_not (jt_tru (JE.toB (je_call _ rfl G_in_range hr (by decide) tk rfl (ja_cons (je_ix (jb_var 1) (JE.toB je_int)) (ja_cons je_int (ja_cons (je_sub (jb_var 0) (JE.toB je_int)) ja_nil))))))) (jw_or1 (jt_eq hu (JE.toB (je_ix (jb_var 1) (JE.toB je_int))) (JE.toB (je_ix (jb_var 1) (JE.toB je_int)))))))) (jss_one (js_ret je_bl)) jss_nil)
      (jss_one (js_ret (je_and (je_call _ rfl G_in_range hr (by decide) tk rfl (ja_cons (je_ix (jb_var 1) (JE.toB je_int)) (ja_cons je_int (ja_cons (je_gint T.i_MAX_RATE rfl) ja_nil)))) (je_one (je_call _ rfl G_in_range hr (by decide) tk rfl (ja_cons (je_ix (jb_var 1) (JE.toB je_int)) (ja_cons je_int (ja_cons (je_gint T.i_MAX_RATE rfl) ja_nil))))))))))⟩
abbrev s_is_net : Stmt := top 12
abbrev N_is_net : List Str := ["value", "channel"]
theorem sc_is_net : FnScope N_is_net ["value"] (defScope s_is_net) := ⟨rfl, rfl, rfl, by decide +kernel, rfl, by decide +kernel, by decide +kernel⟩
theorem ok_is_net {f : Addr} {fd : FuncData} (T : Tx K mg) (F : Fun K "is_net" "is_net" s_is_net f fd) (G_in_range : Cal P w K mg base 1 "in_range" 3 RN.den_in_range) (G_is_channel : Cal P w K mg base 2 "is_channel" 2 RN.den_is_channel) :
    FnOk P w K mg base (L2.CX P w) 3 f fd ["value"] (spK K mg 1 RN.den_is_net) := by
  letI : HasK := ⟨K, mg⟩
  refine fn_den F sc_is_net rfl fun cdv A outer s H E F0 hr => ?_
  have hu := hr.units
  have tk := takes_of (X := cxOf (L2.CX P w) P w K mg base N_is_net "is_net" (defScope s_is_net) f cdv A outer s H E) (E := E) rfl rfl rfl rfl
  exact ⟨_, (jss_cons (js_if (JW.t (jw_or (jt_not (jt_tru (JE.toB (je_isi .tuple rfl T.f_isinstance rfl T.f_tuple (by decide +kernel) (by decide) (by decide) (je_var 0))))) (jw_or (jt_ne hu (JE.toB (je_len rfl T.f_len (jab_cons (jb_var 0) jab_nil))) (JE.toB je_int)) (jw_or1 (jt_not (jt_tru (JE.toB (je_call _ rfl G_in_range hr (by decide) tk rfl (ja_cons (je_ix (jb_var 0) (JE.toB je_int)) (ja_cons je_int (ja_cons (je_gint T.i_MAX_STEPS rfl) ja_nil))))))))))) (jss_one (js_ret je_bl)) jss_nil)
      (jss_cons (js_if (JW.t (jw_or (jt_not (jt_tru (JE.toB (je_isi .tuple rfl T.f_isinstance rfl T.f_tuple (by decide +kernel) (by decide) (by decide) (je_ix (jb_var 0) (JE.toB je_int)))))) (jw_or1 (jt_gt (JE.toB (je_len rfl T.f_len (jab_cons (JE.toB (je_ix (jb_var 0) (JE.toB je_int))) jab_nil))) (JE.toB (je_gint T.i_MAX_CHANNELS rfl)))))) (jss_one (js_ret je_bl)) jss_nil)
      (jss_one (js_ret (je_not (JE.toB (je_lc [("channel", 1)] rfl rfl sc_is_net.nd (ji_seq (je_ix (jb_var 0) (JE.toB je_int))) (blkOk_by (N := N_is_net) (sc := defScope s_is_net) (by decide +kernel)) (stays_name (by decide)) (fun _ _ _ _ _ => (jg_name (i := 1) sc_is_net.nd)) (fun _ _ _ _ _ => (jts_one (jt_not (jt_tru (JE.toB (je_call W0 rfl G_is_channel hr (by decide) takes0 rfl (ja_cons (je_ix (jb_var 0) (JE.toB je_int)) (ja_cons (je_var 1) ja_nil)))))))) (fun _ _ _ _ _ => (je_var 1)))))))))⟩
abbrev s_check_net : Stmt := top 13
abbrev N_check_net : List Str := ["net"]
theorem sc_check_net : FnScope N_check_net ["net"] (defScope s_check_net) := ⟨rfl, rfl, rfl, by decide +kernel, rfl, by decide +kernel, by decide +kernel⟩
theorem ok_check_net {f : Addr} {fd : FuncData} (T : Tx K mg) (F : Fun K "check_net" "check_net" s_check_net f fd) (G_is_net : Cal P w K mg base 3 "is_net" 1 RN.den_is_net) :
    FnOk P w K mg base (L2.CX P w) 4 f fd ["net"] (spK K mg 1 RN.den_check_net) := by
  letI : HasK := ⟨K, mg⟩
  refine fn_den F sc_check_net rfl fun cdv A outer s H E F0 hr => ?_
  have hu := hr.units
  have tk := takes_of (X := cxOf (L2.CX P w) P w K mg base N_check_net "check_net" (defScope s_check_net) f cdv A outer s H E) (E := E) rfl rfl rfl rfl
  exact ⟨_, (jss_one (js_if (jt_not (jt_tru (JE.toB (je_call _ rfl G_is_net hr (by decide) tk rfl (ja_cons (je_var 0) ja_nil))))) (jss_one (js_raise T.e_InvalidNet rfl tk rfl)) jss_nil))⟩
abbrev s_is_ready : Stmt := top 14
abbrev N_is_ready : List Str := ["net", "stock", "step", "channel", "amount"]
theorem sc_is_ready : FnScope N_is_ready ["net", "stock", "step"] (defScope s_is_ready) := ⟨rfl, rfl, rfl, by decide +kernel, rfl, by decide +kernel, by decide +kernel⟩
theorem ok_is_ready {f : Addr} {fd : FuncData} (T : Tx K mg) (F : Fun K "is_ready" "is_ready" s_is_ready f fd) :
    FnOk P w K mg base (L2.CX P w) 1 f fd ["net", "stock", "step"] (spK K mg 3 RN.den_is_ready) := by
  letI : HasK := ⟨K, mg⟩
  refine fn_den F sc_is_ready rfl fun cdv A outer s H E F0 hr => ?_
  have hu := hr.units
  exact ⟨_, (jss_one (js_ret (je_not (JE.toB (je_lc [("channel", 3), ("amount", 4)] rfl rfl sc_is_ready.nd (ji_zip rfl T.f_zip (ja_cons (je_ix (jb_var 0) (JE.toB je_int)) (ja_cons (je_var 1) ja_nil))) (blkOk_by (N := N_is_ready) (sc := defScope s_is_ready) (by decide +kernel)) (stays_tup (stays_cons (stays_name (by decide)) (stays_cons (stays_name (by decide)) stays_nil))) (fun _ _ _ _ _ => (jg_tup rfl (jgs_cons (jg_name (i := 3) sc_is_ready.nd) (jgs_cons (jg_name (i := 4) sc_is_ready.nd) jgs_nil)))) (fun _ _ _ _ _ => (jts_one (JW.t (jw_and (jt_eq hu (JE.toB (je_ix (jb_var 3) (JE.toB je_int))) (jb_var 2)) (jw_and1 (jt_lt (jb_var 4) (JE.toB (je_ix (jb_var 3) (JE.toB je_int))))))))) (fun _ _ _ _ _ => je_int))))))⟩
abbrev s_after_run : Stmt := top 15
abbrev N_after_run : List Str := ["net", "stock", "step", "result", "giver", "taker", "give", "take", "amount"]
theorem sc_after_run : FnScope N_after_run ["net", "stock", "step"] (defScope s_after_run) := ⟨rfl, rfl, rfl, by decide +kernel, rfl, by decide +kernel, by decide +kernel⟩
theorem ok_after_run {f : Addr} {fd : FuncData} (T : Tx K mg) (F : Fun K "after_run" "after_run" s_after_run f fd) :
    FnOk P w K mg base (L2.CX P w) 1 f fd ["net", "stock", "step"] (spK K mg 3 RN.den_after_run) := by
  letI : HasK := ⟨K, mg⟩
  refine fn_den F sc_after_run rfl fun cdv A outer s H E F0 hr => ?_
  have hu := hr.units
  have po := passes_of (X := cxOf (L2.CX P w) P w K mg base N_after_run "after_run" (defScope s_after_run) f cdv A outer s H E) rfl
  exact ⟨_, (jss_cons (js_setN (i := 3) sc_after_run.nd (jn_lst ja_nil))
      (jss_cons (js_for po rfl (ji_zip rfl T.f_zip (ja_cons (je_ix (jb_var 0) (JE.toB je_int)) (ja_cons (je_var 1) ja_nil))) (jg_tup rfl (jgs_cons (jg_tup rfl (jgs_cons (jg_name (i := 4) sc_after_run.nd) (jgs_cons (jg_name (i := 5) sc_after_run.nd) (jgs_cons (jg_name (i := 6) sc_after_run.nd) (jgs_cons (jg_name (i := 7) sc_after_run.nd) jgs_nil))))) (jgs_cons (jg_name (i := 8) sc_after_run.nd) jgs_nil))) (jss_one (js_app (i := 3) (je_sub (JE.toB (je_add (jb_var 8) (JE.toB (je_mul (jb_var 6) (JE.toB (je_intc rfl T.f_int (jab_cons (JE.toB (je_eq hu (jb_var 4) (jb_var 2))) jab_nil))))))) (JE.toB (je_mul (jb_var 7) (JE.toB (je_intc rfl T.f_int (jab_cons (JE.toB (je_eq hu (jb_var 5) (jb_var 2))) jab_nil)))))))))
      (jss_one (js_ret (je_tuple rfl T.f_tuple (jab_cons (jb_var 3) jab_nil))))))⟩
abbrev s_are_attempts : Stmt := top 20
abbrev N_are_attempts : List Str := ["net", "value", "attempt"]
theorem sc_are_attempts : FnScope N_are_attempts ["net", "value"] (defScope s_are_attempts) := ⟨rfl, rfl, rfl, by decide +kernel, rfl, by decide +kernel, by decide +kernel⟩
theorem ok_are_attempts {f : Addr} {fd : FuncData} (T : Tx K mg) (F : Fun K "are_attempts" "are_attempts" s_are_attempts f fd) (G_in_range : Cal P w K mg base 1 "in_range" 3 RN.den_in_range) :
    FnOk P w K mg base (L2.CX P w) 2 f fd ["net", "value"] (spK K mg 2 RN.den_are_attempts) := by
  letI : HasK := ⟨K, mg⟩
  refine fn_den F sc_are_attempts rfl fun cdv A outer s H E F0 hr => ?_
  have hu := hr.units
  have tk := takes_of (X := cxOf (L2.CX P w) P w K mg base N_are_attempts "are_attempts" (defScope s_are_attempts) f cdv A outer s H E) (E := E) rfl rfl rfl rfl
  have po := passes_of (X := cxOf (L2.CX P w) P w K mg base N_are_attempts "are_attempts" (defScope s_are_attempts) f cdv A outer s H E) rfl
  exact ⟨_, (jss_cons (js_if (JW.t (jw_or (jt_not (jt_tru (JE.toB (je_isi .tuple rfl T.f_isinstance rfl T.f_tuple (by decide +kernel) (by decide) (by decide) (je_var 1))))) (jw_or1 (jt_gt (JE.toB (je_len rfl T.f_len (jab_cons (jb_var 1) jab_nil))) (JE.toB (je_gint T.i_MAX_ATTEMPTS rfl)))))) (jss_one (js_ret je_bl)) jss_nil)
      (jss_cons (js_for po rfl (ji_seq (je_var 1)) (jg_name (i := 2) sc_are_attempts.nd) (jss_cons (js_if (JW.t (jw_or (jt_not (jt_tru (JE.toB (je_isi .tuple rfl T.f_isinstance rfl T.f_tuple (by decide +kernel) (by decide) (by decide) (je_var 2))))) (jw_or (jt_ne hu (JE.toB (je_len rfl T.f_len (jab_cons (jb_var 2) jab_nil))) (JE.toB je_int)) (jw_or1 (jt_not (jt_tru (JE.toB (je_call _ rfl G_in_range hr (by decide) tk rfl (ja_cons (je_ix (jb_var 2) (JE.toB je_int)) (ja_cons je_int (ja_cons (je_sub (JE.toB (je_ix (jb_var 0) (JE.toB je_int))) (JE.toB je_int)) ja_nil))))))))))) (jss_one (js_ret je_bl)) jss_nil)
      (jss_one (js_if (jt_not (jt_tru (JE.toB (je_isi .bool rfl T.f_isinstance rfl T.f_bool (by decide +kernel) (by decide) (by decide) (je_ix (jb_var 2) (JE.toB je_int)))))) (jss_one (js_ret je_bl)) jss_nil))))
      (jss_one (js_ret je_bl))))⟩
abbrev s_all_stocks : Stmt := top 21
abbrev N_all_stocks : List Str := ["places", "bound", "result", "time", "longer", "one", "amount"]
theorem sc_all_stocks : FnScope N_all_stocks ["places", "bound"] (defScope s_all_stocks) := ⟨rfl, rfl, rfl, by decide +kernel, rfl, by decide +kernel, by decide +kernel⟩
theorem ok_all_stocks {f : Addr} {fd : FuncData} (T : Tx K mg) (F : Fun K "all_stocks" "all_stocks" s_all_stocks f fd) :
    FnOk P w K mg base (L2.CX P w) 1 f fd ["places", "bound"] (spK K mg 2 RN.den_all_stocks) := by
  letI : HasK := ⟨K, mg⟩
  refine fn_den F sc_all_stocks rfl fun cdv A outer s H E F0 hr => ?_
  have hu := hr.units
  have po := passes_of (X := cxOf (L2.CX P w) P w K mg base N_all_stocks "all_stocks" (defScope s_all_stocks) f cdv A outer s H E) rfl
  exact ⟨_, (jss_cons (js_set (i := 2) sc_all_stocks.nd (je_lst (ja_cons (je_tup ja_nil) ja_nil)))
      (jss_cons (js_for po rfl (ji_rng1 rfl T.f_range (ja_cons (je_var 0) ja_nil)) (jg_name (i := 3) sc_all_stocks.nd) (jss_cons (js_setN (i := 4) sc_all_stocks.nd (jn_lst ja_nil))
      (jss_cons (js_for po rfl (ji_seq (je_var 2)) (jg_name (i := 5) sc_all_stocks.nd) (jss_one (js_ext (i := 4) (je_lc [("amount", 6)] rfl rfl sc_all_stocks.nd (ji_rng1 rfl T.f_range (ja_cons (je_add (jb_var 1) (JE.toB je_int)) ja_nil)) (blkOk_by (N := N_all_stocks) (sc := defScope s_all_stocks) (by decide +kernel)) (stays_name (by decide)) (fun _ _ _ _ _ => (jg_name (i := 6) sc_all_stocks.nd)) (fun _ _ _ _ _ => jts_nil) (fun _ _ _ _ _ => (je_add (jb_var 5) (JE.toB (je_tup (ja_cons (je_var 6) ja_nil)))))))))
      (jss_frz 4 (jss_one (js_set (i := 2) sc_all_stocks.nd (je_var 4)))))))
      (jss_one (js_ret (je_var 2)))))⟩
abbrev s_follow : Stmt := top 22
abbrev N_follow : List Str := ["net", "stock", "attempts", "amounts", "step", "success"]
theorem sc_follow : FnScope N_follow ["net", "stock", "attempts"] (defScope s_follow) := ⟨rfl, rfl, rfl, by decide +kernel, rfl, by decide +kernel, by decide +kernel⟩
theorem ok_follow {f : Addr} {fd : FuncData} (T : Tx K mg) (F : Fun K "follow" "follow" s_follow f fd) (G_is_ready : Cal P w K mg base 1 "is_ready" 3 RN.den_is_ready) (G_after_run : Cal P w K mg base 1 "after_run" 3 RN.den_after_run) :
    FnOk P w K mg base (L2.CX P w) 2 f fd ["net", "stock", "attempts"] (spK K mg 3 RN.den_follow) := by
  letI : HasK := ⟨K, mg⟩
  refine fn_den F sc_follow rfl fun cdv A outer s H E F0 hr => ?_
  have hu := hr.units
  have tk := takes_of (X := cxOf (L2.CX P w) P w K mg base N_follow "follow" (defScope s_follow) f cdv A outer s H E) (E := E) rfl rfl rfl rfl
  have po := passes_of (X := cxOf (L2.CX P w) P w K mg base N_follow "follow" (defScope s_follow) f cdv A outer s H E) rfl
  exact ⟨_, (jss_cons (js_set (i := 3) sc_follow.nd (je_var 1))
      (jss_cons (js_for po rfl (ji_seq (je_var 2)) (jg_tup rfl (jgs_cons (jg_name (i := 4) sc_follow.nd) (jgs_cons (jg_name (i := 5) sc_follow.nd) jgs_nil))) (jss_cons (js_if (jt_ne hu (JE.toB (je_call _ rfl G_is_ready hr (by decide) tk rfl (ja_cons (je_var 0) (ja_cons (je_var 3) (ja_cons (je_var 4) ja_nil))))) (jb_var 5)) (jss_one (js_ret je_non)) jss_nil)
      (jss_one (js_if (jt_tru (jb_var 5)) (jss_one (js_set (i := 3) sc_follow.nd (je_call _ rfl G_after_run hr (by decide) tk rfl (ja_cons (je_var 0) (ja_cons (je_var 3) (ja_cons (je_var 4) ja_nil)))))) jss_nil))))
      (jss_one (js_ret (je_var 3)))))⟩
abbrev s_check_search : Stmt := top 23
abbrev N_check_search : List Str := ["net", "attempts", "bound", "total", "channel"]
theorem sc_check_search : FnScope N_check_search ["net", "attempts", "bound"] (defScope s_check_search) := ⟨rfl, rfl, rfl, by decide +kernel, rfl, by decide +kernel, by decide +kernel⟩
theorem ok_check_search {f : Addr} {fd : FuncData} (T : Tx K mg) (F : Fun K "check_search" "check_search" s_check_search f fd) (G_check_net : Cal P w K mg base 4 "check_net" 1 RN.den_check_net) (G_are_attempts : Cal P w K mg base 2 "are_attempts" 2 RN.den_are_attempts) (G_in_range : Cal P w K mg base 1 "in_range" 3 RN.den_in_range) :
    FnOk P w K mg base (L2.CX P w) 5 f fd ["net", "attempts", "bound"] (spK K mg 3 RN.den_check_search) := by
  letI : HasK := ⟨K, mg⟩
  refine fn_den F sc_check_search rfl fun cdv A outer s H E F0 hr => ?_
  have hu := hr.units
  have tk := takes_of (X := cxOf (L2.CX P w) P w K mg base N_check_search "check_search" (defScope s_check_search) f cdv A outer s H E) (E := E) rfl rfl rfl rfl
  have po := passes_of (X := cxOf (L2.CX P w) P w K mg base N_check_search "check_search" (defScope s_check_search) f cdv A outer s H E) rfl
  exact ⟨_, (jss_cons (js_expr (je_call _ rfl G_check_net hr (by decide) tk rfl (ja_cons (je_var 0) ja_nil)))
      (jss_cons (js_if (jt_not (jt_tru (JE.toB (je_call _ rfl G_are_attempts hr (by decide) tk rfl (ja_cons (je_var 0) (ja_cons (je_var 1) ja_nil)))))) (jss_one (js_raise T.e_InvalidAttempts rfl tk rfl)) jss_nil)
      (jss_cons (js_if (jt_not (jt_tru (JE.toB (je_call _ rfl G_in_range hr (by decide) tk rfl (ja_cons (je_var 2) (ja_cons je_int (ja_cons (je_gint T.i_MAX_BOUND rfl) ja_nil))))))) (jss_one (js_raise T.e_InvalidBound rfl tk rfl)) jss_nil)
      (jss_cons (js_set (i := 3) sc_check_search.nd je_int)
      (jss_cons (js_for po rfl (ji_seq (je_ix (jb_var 0) (JE.toB je_int))) (jg_name (i := 4) sc_check_search.nd) (jss_one (js_augM (i := 3) sc_check_search.nd (je_add (jb_var 2) (JE.toB je_int)))))
      (jss_one (js_if (jt_gt (jb_var 3) (JE.toB (je_gint T.i_MAX_STOCKS rfl))) (jss_one (js_raise T.e_TooLong rfl tk rfl)) jss_nil)))))))⟩
abbrev s_agreeing_stocks : Stmt := top 24
abbrev N_agreeing_stocks : List Str := ["net", "attempts", "bound", "stock"]
theorem sc_agreeing_stocks : FnScope N_agreeing_stocks ["net", "attempts", "bound"] (defScope s_agreeing_stocks) := ⟨rfl, rfl, rfl, by decide +kernel, rfl, by decide +kernel, by decide +kernel⟩
theorem ok_agreeing_stocks {f : Addr} {fd : FuncData} (T : Tx K mg) (F : Fun K "agreeing_stocks" "agreeing_stocks" s_agreeing_stocks f fd) (G_check_search : Cal P w K mg base 5 "check_search" 3 RN.den_check_search) (G_all_stocks : Cal P w K mg base 1 "all_stocks" 2 RN.den_all_stocks) (G_follow : Cal P w K mg base 2 "follow" 3 RN.den_follow) :
    FnOk P w K mg base (L2.CX P w) 6 f fd ["net", "attempts", "bound"] (spK K mg 3 RN.den_agreeing_stocks) := by
  letI : HasK := ⟨K, mg⟩
  refine fn_den F sc_agreeing_stocks rfl fun cdv A outer s H E F0 hr => ?_
  have hu := hr.units
  have tk := takes_of (X := cxOf (L2.CX P w) P w K mg base N_agreeing_stocks "agreeing_stocks" (defScope s_agreeing_stocks) f cdv A outer s H E) (E := E) rfl rfl rfl rfl
  exact ⟨_, (jss_cons (js_expr (je_call _ rfl G_check_search hr (by decide) tk rfl (ja_cons (je_var 0) (ja_cons (je_var 1) (ja_cons (je_var 2) ja_nil)))))
      (jss_one (js_ret (je_lc [("stock", 3)] rfl rfl sc_agreeing_stocks.nd (ji_seq (je_call _ rfl G_all_stocks hr (by decide) tk rfl (ja_cons (je_len rfl T.f_len (jab_cons (JE.toB (je_ix (jb_var 0) (JE.toB je_int))) jab_nil)) (ja_cons (je_var 2) ja_nil)))) (blkOk_by (N := N_agreeing_stocks) (sc := defScope s_agreeing_stocks) (by decide +kernel)) (stays_name (by decide)) (fun _ _ _ _ _ => (jg_name (i := 3) sc_agreeing_stocks.nd)) (fun _ _ _ _ _ => (jts_one (jt_notN (je_call W0 rfl G_follow hr (by decide) takes0 rfl (ja_cons (je_var 0) (ja_cons (je_var 3) (ja_cons (je_var 1) ja_nil))))))) (fun _ _ _ _ _ => (je_var 3))))))⟩
abbrev s_amount_ranges : Stmt := top 25
abbrev N_amount_ranges : List Str := ["net", "attempts", "bound", "found", "stock", "result", "number", "amounts", "one"]
theorem sc_amount_ranges : FnScope N_amount_ranges ["net", "attempts", "bound"] (defScope s_amount_ranges) := ⟨rfl, rfl, rfl, by decide +kernel, rfl, by decide +kernel, by decide +kernel⟩
theorem ok_amount_ranges {f : Addr} {fd : FuncData} (T : Tx K mg) (F : Fun K "amount_ranges" "amount_ranges" s_amount_ranges f fd) (G_check_search : Cal P w K mg base 5 "check_search" 3 RN.den_check_search) (G_all_stocks : Cal P w K mg base 1 "all_stocks" 2 RN.den_all_stocks) (G_follow : Cal P w K mg base 2 "follow" 3 RN.den_follow) :
    FnOk P w K mg base (L2.CX P w) 6 f fd ["net", "attempts", "bound"] (spK K mg 3 RN.den_amount_ranges) := by
  letI : HasK := ⟨K, mg⟩
  refine fn_den F sc_amount_ranges rfl fun cdv A outer s H E F0 hr => ?_
  have hu := hr.units
  have tk := takes_of (X := cxOf (L2.CX P w) P w K mg base N_amount_ranges "amount_ranges" (defScope s_amount_ranges) f cdv A outer s H E) (E := E) rfl rfl rfl rfl
  have po := passes_of (X := cxOf (L2.CX P w) P w K mg base N_amount_ranges "amount_ranges" (defScope s_amount_ranges) f cdv A outer s H E) rfl
  exact ⟨_, (jss_cons (js_expr (je_call _ rfl G_check_search hr (by decide) tk rfl (ja_cons (je_var 0) (ja_cons (je_var 1) (ja_cons (je_var 2) ja_nil)))))
      (jss_cons (js_setN (i := 3) sc_amount_ranges.nd (jn_lst ja_nil))
      (jss_cons (js_for po rfl (ji_seq (je_call _ rfl G_all_stocks hr (by decide) tk rfl (ja_cons (je_len rfl T.f_len (jab_cons (JE.toB (je_ix (jb_var 0) (JE.toB je_int))) jab_nil)) (ja_cons (je_var 2) ja_nil)))) (jg_name (i := 4) sc_amount_ranges.nd) (jss_cons (js_set (i := 7) sc_amount_ranges.nd (je_call _ rfl G_follow hr (by decide) tk rfl (ja_cons (je_var 0) (ja_cons (je_var 4) (ja_cons (je_var 1) ja_nil)))))
      (jss_one (js_if (jt_notN (je_var 7)) (jss_one (js_app (i := 3) (je_var 7))) jss_nil))))
      (jss_cons (js_if (jt_not (jt_tru (jb_var 3))) (jss_one (js_raise T.e_InvalidAttempts rfl tk rfl)) jss_nil)
      (jss_cons (js_setN (i := 5) sc_amount_ranges.nd (jn_lst ja_nil))
      (jss_cons (js_for po rfl (ji_rng1 rfl T.f_range (ja_cons (je_len rfl T.f_len (jab_cons (JE.toB (je_ix (jb_var 0) (JE.toB je_int))) jab_nil)) ja_nil)) (jg_name (i := 6) sc_amount_ranges.nd) (jss_frz 3 (jss_cons (js_setLc (i := 7) [("one", 8)] rfl rfl sc_amount_ranges.nd (ji_seq (je_var 3)) (blkOk_by (N := N_amount_ranges) (sc := defScope s_amount_ranges) (by decide +kernel)) (stays_name (by decide)) (fun _ _ _ _ _ => (jg_name (i := 8) sc_amount_ranges.nd)) (fun _ _ _ _ _ => jts_nil) (fun _ _ _ _ _ => (je_ix (jb_var 8) (jb_var 6))) (sw_true rfl rfl rfl (by decide +kernel)))
      (jss_one (js_app (i := 5) (je_tup (ja_cons (je_min1 rfl T.f_min rfl (jab_cons (jb_var 7) jab_nil)) (ja_cons (je_max1 rfl T.f_max rfl (jab_cons (jb_var 7) jab_nil)) ja_nil))))))))
      (jss_frz 5 (jss_one (js_ret (je_var 5))))))))))⟩
abbrev s_best_attempt : Stmt := top 26
abbrev N_best_attempt : List Str := ["net", "attempts", "bound", "found", "best", "step", "many", "worst", "stock", "amounts"]
theorem sc_best_attempt : FnScope N_best_attempt ["net", "attempts", "bound"] (defScope s_best_attempt) := ⟨rfl, rfl, rfl, by decide +kernel, rfl, by decide +kernel, by decide +kernel⟩
theorem ok_best_attempt {f : Addr} {fd : FuncData} (T : Tx K mg) (F : Fun K "best_attempt" "best_attempt" s_best_attempt f fd) (G_check_search : Cal P w K mg base 5 "check_search" 3 RN.den_check_search) (G_all_stocks : Cal P w K mg base 1 "all_stocks" 2 RN.den_all_stocks) (G_follow : Cal P w K mg base 2 "follow" 3 RN.den_follow) (G_is_ready : Cal P w K mg base 1 "is_ready" 3 RN.den_is_ready) :
    FnOk P w K mg base (L2.CX P w) 6 f fd ["net", "attempts", "bound"] (spK K mg 3 RN.den_best_attempt) := by
  letI : HasK := ⟨K, mg⟩
  refine fn_den F sc_best_attempt rfl fun cdv A outer s H E F0 hr => ?_
  have hu := hr.units
  have tk := takes_of (X := cxOf (L2.CX P w) P w K mg base N_best_attempt "best_attempt" (defScope s_best_attempt) f cdv A outer s H E) (E := E) rfl rfl rfl rfl
  have po := passes_of (X := cxOf (L2.CX P w) P w K mg base N_best_attempt "best_attempt" (defScope s_best_attempt) f cdv A outer s H E) rfl
  exact ⟨_, (jss_cons (js_expr (je_call _ rfl G_check_search hr (by decide) tk rfl (ja_cons (je_var 0) (ja_cons (je_var 1) (ja_cons (je_var 2) ja_nil)))))
      (jss_cons (js_setLc (i := 3) [("stock", 8)] rfl rfl sc_best_attempt.nd (ji_seq (je_call _ rfl G_all_stocks hr (by decide) tk rfl (ja_cons (je_len rfl T.f_len (jab_cons (JE.toB (je_ix (jb_var 0) (JE.toB je_int))) jab_nil)) (ja_cons (je_var 2) ja_nil)))) (blkOk_by (N := N_best_attempt) (sc := defScope s_best_attempt) (by decide +kernel)) (stays_name (by decide)) (fun _ _ _ _ _ => (jg_name (i := 8) sc_best_attempt.nd)) (fun _ _ _ _ _ => jts_nil) (fun _ _ _ _ _ => (je_call W0 rfl G_follow hr (by decide) takes0 rfl (ja_cons (je_var 0) (ja_cons (je_var 8) (ja_cons (je_var 1) ja_nil))))) (sw_true rfl rfl rfl (by decide +kernel)))
      (jss_cons (js_setLc (i := 3) [("amounts", 9)] rfl rfl sc_best_attempt.nd (ji_seq (je_var 3)) (blkOk_by (N := N_best_attempt) (sc := defScope s_best_attempt) (by decide +kernel)) (stays_name (by decide)) (fun _ _ _ _ _ => (jg_name (i := 9) sc_best_attempt.nd)) (fun _ _ _ _ _ => (jts_one (jt_notN (je_var 9)))) (fun _ _ _ _ _ => (je_var 9)) (sw_true rfl rfl rfl (by decide +kernel)))
      (jss_cons (js_if (jt_not (jt_tru (jb_var 3))) (jss_one (js_raise T.e_InvalidAttempts rfl tk rfl)) jss_nil)
      (jss_cons (js_set (i := 4) sc_best_attempt.nd je_non)
      (jss_cons (js_for po rfl (ji_rng1 rfl T.f_range (ja_cons (je_ix (jb_var 0) (JE.toB je_int)) ja_nil)) (jg_name (i := 5) sc_best_attempt.nd) (jss_cons (js_set (i := 6) sc_best_attempt.nd (je_len rfl T.f_len (jab_cons (JE.toB (je_lc [("amounts", 9)] rfl rfl sc_best_attempt.nd (ji_seq (je_var 3)) (blkOk_by (N := N_best_attempt) (sc := defScope s_best_attempt) (by decide +kernel)) (stays_name (by decide)) (fun _ _ _ _ _ => (jg_name (i := 9) sc_best_attempt.nd)) (fun _ _ _ _ _ => (jts_one (jt_tru (JE.toB (je_call W0 rfl G_is_ready hr (by decide) takes0 rfl (ja_cons (je_var 0) (ja_cons (je_var 9) (ja_cons (je_var 5) ja_nil)))))))) (fun _ _ _ _ _ => (je_var 9)))) jab_nil)))
      (jss_cons (js_set (i := 7) sc_best_attempt.nd (je_max2 rfl T.f_max rfl (jab_cons (jb_var 6) (jab_cons (JE.toB (je_sub (JE.toB (je_len rfl T.f_len (jab_cons (jb_var 3) jab_nil))) (jb_var 6))) jab_nil))))
      (jss_one (js_if (JW.t (jw_and (jt_lt (jb_var 7) (JE.toB (je_len rfl T.f_len (jab_cons (jb_var 3) jab_nil)))) (jw_and1 (JW.t (jw_or (jt_isN (je_var 4)) (jw_or1 (jt_lt (jb_var 7) (JE.toB (je_ix (jb_var 4) (JE.toB je_int)))))))))) (jss_one (js_set (i := 4) sc_best_attempt.nd (je_tup (ja_cons (je_var 7) (ja_cons (je_var 5) ja_nil))))) jss_nil)))))
      (jss_one (js_ret (je_if (jt_isN (je_var 4)) je_non (je_ix (jb_var 4) (JE.toB je_int)))))))))))⟩
abbrev s__law_cell : Stmt := top 28
abbrev N__law_cell : List Str := ["script", "k"]
theorem sc__law_cell : FnScope N__law_cell ["script", "k"] (defScope s__law_cell) := ⟨rfl, rfl, rfl, by decide +kernel, rfl, by decide +kernel, by decide +kernel⟩
theorem ok__law_cell {f : Addr} {fd : FuncData} (T : Tx K mg) (F : Fun K "_law_cell" "_law_cell" s__law_cell f fd) :
    FnOk P w K mg base (L2.CX P w) 1 f fd ["script", "k"] (spK K mg 2 RN.den__law_cell) := by
  letI : HasK := ⟨K, mg⟩
  refine fn_den F sc__law_cell rfl fun cdv A outer s H E F0 hr => ?_
  have hu := hr.units
  exact ⟨_, (jss_cons (js_if (jt_lt (jb_var 1) (JE.toB (je_len rfl T.f_len (jab_cons (jb_var 0) jab_nil)))) (jss_one (js_ret (je_ix (jb_var 0) (jb_var 1)))) jss_nil)
      (jss_one (js_ret je_int)))⟩
abbrev s__law_row : Stmt := top 29
abbrev N__law_row : List Str := ["script", "at", "cell", "found", "time"]
theorem sc__law_row : FnScope N__law_row ["script", "at"] (defScope s__law_row) := ⟨rfl, rfl, rfl, by decide +kernel, rfl, by decide +kernel, by decide +kernel⟩
theorem ok__law_row {f : Addr} {fd : FuncData} (T : Tx K mg) (F : Fun K "_law_row" "_law_row" s__law_row f fd) (G__law_cell : Cal P w K mg base 1 "_law_cell" 2 RN.den__law_cell) :
    FnOk P w K mg base (L2.CX P w) 2 f fd ["script", "at"] (spK K mg 2 RN.den__law_row) := by
  letI : HasK := ⟨K, mg⟩
  refine fn_den F sc__law_row rfl fun cdv A outer s H E F0 hr => ?_
  have hu := hr.units
  have tk := takes_of (X := cxOf (L2.CX P w) P w K mg base N__law_row "_law_row" (defScope s__law_row) f cdv A outer s H E) (E := E) rfl rfl rfl rfl
  have po := passes_of (X := cxOf (L2.CX P w) P w K mg base N__law_row "_law_row" (defScope s__law_row) f cdv A outer s H E) rfl
  exact ⟨_, (jss_cons (js_set (i := 2) sc__law_row.nd (je_call _ rfl G__law_cell hr (by decide) tk rfl (ja_cons (je_var 0) (ja_cons (je_var 1) ja_nil))))
      (jss_cons (js_setN (i := 3) sc__law_row.nd (jn_lst ja_nil))
      (jss_cons (js_for po rfl (ji_rng1 rfl T.f_range (ja_cons je_int ja_nil)) (jg_name (i := 4) sc__law_row.nd) (jss_one (js_if (jt_lt (JE.toB (je_call _ rfl G__law_cell hr (by decide) tk rfl (ja_cons (je_var 0) (ja_cons (je_var 1) ja_nil)))) (JE.toB (je_pow (JE.toB je_int) (JE.toB je_int)))) (jss_cons (js_set (i := 2) sc__law_row.nd (je_mod (JE.toB (je_add (JE.toB (je_add (JE.toB (je_add (JE.toB (je_mul (jb_var 2) (JE.toB je_int))) (JE.toB (je_mul (JE.toB je_int) (jb_var 4))))) (JE.toB je_int))) (JE.toB (je_call _ rfl G__law_cell hr (by decide) tk rfl (ja_cons (je_var 0) (ja_cons (je_mod (JE.toB (je_add (JE.toB (je_add (jb_var 1) (JE.toB je_int))) (jb_var 4))) (JE.toB je_int)) ja_nil)))))) (JE.toB je_int)))
      (jss_one (js_app (i := 3) (je_mod (JE.toB (je_fdiv (jb_var 2) (JE.toB je_int))) (JE.toB je_int))))) (jss_cons (js_app (i := 3) (je_mod (jb_var 2) (JE.toB je_int)))
      (jss_one (js_set (i := 2) sc__law_row.nd (je_fdiv (jb_var 2) (JE.toB je_int))))))))
      (jss_frz 3 (jss_one (js_ret (je_var 3)))))))⟩
abbrev s__law_gcd : Stmt := top 30
abbrev N__law_gcd : List Str := ["one", "other"]
theorem sc__law_gcd : FnScope N__law_gcd ["one", "other"] (defScope s__law_gcd) := ⟨rfl, rfl, rfl, by decide +kernel, rfl, by decide +kernel, by decide +kernel⟩
theorem ok__law_gcd {f : Addr} {fd : FuncData} (T : Tx K mg) (F : Fun K "_law_gcd" "_law_gcd" s__law_gcd f fd) :
    FnOk P w K mg base (L2.CX P w) 1 f fd ["one", "other"] (spK K mg 2 RN.den__law_gcd) := by
  letI : HasK := ⟨K, mg⟩
  refine fn_den F sc__law_gcd rfl fun cdv A outer s H E F0 hr => ?_
  have hu := hr.units
  have po := passes_of (X := cxOf (L2.CX P w) P w K mg base N__law_gcd "_law_gcd" (defScope s__law_gcd) f cdv A outer s H E) rfl
  exact ⟨_, (jss_cons (js_while 100000 po (jt_ne hu (jb_var 1) (JE.toB je_int)) (jss_one (js_par (i := 0) (j := 1) rfl sc__law_gcd.nd (ja_cons (je_var 1) (ja_cons (je_mod (jb_var 0) (jb_var 1)) ja_nil)) (fun h => ps_par (by rfl) sc__law_gcd.nd rfl rfl (by decide) rfl rfl h (by rfl)))))
      (jss_one (js_ret (je_var 0))))⟩
abbrev s__law_net : Stmt := top 31
abbrev N__law_net : List Str := ["script", "at", "most_steps", "most_channels", "draws", "steps", "hidden", "channels", "place", "giver", "taker", "divisor", "give", "take", "step"]
theorem sc__law_net : FnScope N__law_net ["script", "at", "most_steps", "most_channels"] (defScope s__law_net) := ⟨rfl, rfl, rfl, by decide +kernel, rfl, by decide +kernel, by decide +kernel⟩
theorem ok__law_net {f : Addr} {fd : FuncData} (T : Tx K mg) (F : Fun K "_law_net" "_law_net" s__law_net f fd) (G__law_row : Cal P w K mg base 2 "_law_row" 2 RN.den__law_row) (G__law_gcd : Cal P w K mg base 1 "_law_gcd" 2 RN.den__law_gcd) :
    FnOk P w K mg base (L2.CX P w) 3 f fd ["script", "at", "most_steps", "most_channels"] (spK K mg 4 RN.den__law_net) := by
  letI : HasK := ⟨K, mg⟩
  refine fn_den F sc__law_net rfl fun cdv A outer s H E F0 hr => ?_
  have hu := hr.units
  have tk := takes_of (X := cxOf (L2.CX P w) P w K mg base N__law_net "_law_net" (defScope s__law_net) f cdv A outer s H E) (E := E) rfl rfl rfl rfl
  have po := passes_of (X := cxOf (L2.CX P w) P w K mg base N__law_net "_law_net" (defScope s__law_net) f cdv A outer s H E) rfl
  exact ⟨_, (jss_cons (js_set (i := 4) sc__law_net.nd (je_call _ rfl G__law_row hr (by decide) tk rfl (ja_cons (je_var 0) (ja_cons (je_var 1) ja_nil))))
      (jss_cons (js_set (i := 5) sc__law_net.nd (je_add (JE.toB je_int) (JE.toB (je_mod (JE.toB (je_ix (jb_var 4) (JE.toB je_int))) (jb_var 2)))))
      (jss_cons (js_setLc (i := 6) [("step", 14)] rfl rfl sc__law_net.nd (ji_rng1 rfl T.f_range (ja_cons (je_var 5) ja_nil)) (blkOk_by (N := N__law_net) (sc := defScope s__law_net) (by decide +kernel)) (stays_name (by decide)) (fun _ _ _ _ _ => (jg_name (i := 14) sc__law_net.nd)) (fun _ _ _ _ _ => jts_nil) (fun _ _ _ _ _ => (je_ix (JE.toB (je_lst (ja_cons je_int (ja_cons je_int (ja_cons je_int (ja_cons je_int (ja_cons je_int (ja_cons je_int ja_nil)))))))) (JE.toB (je_mod (JE.toB (je_ix (jb_var 4) (JE.toB (je_add (JE.toB je_int) (jb_var 14))))) (JE.toB je_int))))) (sw_true rfl rfl rfl (by decide +kernel)))
      (jss_cons (js_setN (i := 7) sc__law_net.nd (jn_lst ja_nil))
      (jss_cons (js_if (jt_gt (jb_var 5) (JE.toB je_int)) (jss_one (js_for po rfl (ji_rng1 rfl T.f_range (ja_cons (je_mod (JE.toB (je_ix (jb_var 4) (JE.toB je_int))) (JE.toB (je_add (jb_var 3) (JE.toB je_int)))) ja_nil)) (jg_name (i := 8) sc__law_net.nd) (jss_cons (js_set (i := 9) sc__law_net.nd (je_mod (JE.toB (je_ix (jb_var 4) (JE.toB (je_add (JE.toB je_int) (JE.toB (je_mul (JE.toB je_int) (jb_var 8))))))) (jb_var 5)))
      (jss_cons (js_set (i := 10) sc__law_net.nd (je_mod (JE.toB (je_add (JE.toB (je_add (jb_var 9) (JE.toB je_int))) (JE.toB (je_mod (JE.toB (je_ix (jb_var 4) (JE.toB (je_add (JE.toB je_int) (JE.toB (je_mul (JE.toB je_int) (jb_var 8))))))) (JE.toB (je_sub (jb_var 5) (JE.toB je_int))))))) (jb_var 5)))
      (jss_cons (js_set (i := 11) sc__law_net.nd (je_call _ rfl G__law_gcd hr (by decide) tk rfl (ja_cons (je_ix (jb_var 6) (jb_var 9)) (ja_cons (je_ix (jb_var 6) (jb_var 10)) ja_nil))))
      (jss_cons (js_set (i := 12) sc__law_net.nd (je_fdiv (JE.toB (je_ix (jb_var 6) (jb_var 10))) (jb_var 11)))
      (jss_cons (js_set (i := 13) sc__law_net.nd (je_fdiv (JE.toB (je_ix (jb_var 6) (jb_var 9))) (jb_var 11)))
      (jss_cons (js_if (JW.t (jw_and (jt_eq hu (JE.toB (je_mod (JE.toB (je_ix (jb_var 4) (JE.toB je_int))) (JE.toB je_int))) (JE.toB je_int)) (jw_and1 (jt_eq hu (JE.toB (je_mod (JE.toB (je_ix (jb_var 4) (JE.toB (je_add (JE.toB je_int) (JE.toB (je_mul (JE.toB je_int) (jb_var 8))))))) (JE.toB je_int))) (JE.toB je_int))))) (jss_cons (js_set (i := 12) sc__law_net.nd (je_add (JE.toB je_int) (JE.toB (je_mod (JE.toB (je_ix (jb_var 4) (JE.toB (je_add (JE.toB je_int) (JE.toB (je_mul (JE.toB je_int) (jb_var 8))))))) (JE.toB je_int)))))
      (jss_one (js_set (i := 13) sc__law_net.nd (je_add (JE.toB je_int) (JE.toB (je_mod (JE.toB (je_ix (jb_var 4) (JE.toB (je_add (JE.toB je_int) (JE.toB (je_mul (JE.toB je_int) (jb_var 8))))))) (JE.toB je_int))))))) jss_nil)
      (jss_one (js_app (i := 7) (je_tup (ja_cons (je_var 9) (ja_cons (je_var 10) (ja_cons (je_var 12) (ja_cons (je_var 13) ja_nil))))))))))))))) jss_nil)
      (jss_one (js_ret (je_tup (ja_cons (je_var 5) (ja_cons (je_tuple rfl T.f_tuple (jab_cons (jb_var 7) jab_nil)) ja_nil))))))))))⟩
abbrev s__law_stock : Stmt := top 32
abbrev N__law_stock : List Str := ["script", "at", "net", "most", "draws", "place"]
theorem sc__law_stock : FnScope N__law_stock ["script", "at", "net", "most"] (defScope s__law_stock) := ⟨rfl, rfl, rfl, by decide +kernel, rfl, by decide +kernel, by decide +kernel⟩
theorem ok__law_stock {f : Addr} {fd : FuncData} (T : Tx K mg) (F : Fun K "_law_stock" "_law_stock" s__law_stock f fd) (G__law_row : Cal P w K mg base 2 "_law_row" 2 RN.den__law_row) :
    FnOk P w K mg base (L2.CX P w) 3 f fd ["script", "at", "net", "most"] (spK K mg 4 RN.den__law_stock) := by
  letI : HasK := ⟨K, mg⟩
  refine fn_den F sc__law_stock rfl fun cdv A outer s H E F0 hr => ?_
  have hu := hr.units
  have tk := takes_of (X := cxOf (L2.CX P w) P w K mg base N__law_stock "_law_stock" (defScope s__law_stock) f cdv A outer s H E) (E := E) rfl rfl rfl rfl
  exact ⟨_, (jss_cons (js_set (i := 4) sc__law_stock.nd (je_call _ rfl G__law_row hr (by decide) tk rfl (ja_cons (je_var 0) (ja_cons (je_var 1) ja_nil))))
      (jss_one (js_ret (je_tuple rfl T.f_tuple (jab_cons (JE.toB (je_lc [("place", 5)] rfl rfl sc__law_stock.nd (ji_rng1 rfl T.f_range (ja_cons (je_len rfl T.f_len (jab_cons (JE.toB (je_ix (jb_var 2) (JE.toB je_int))) jab_nil)) ja_nil)) (blkOk_by (N := N__law_stock) (sc := defScope s__law_stock) (by decide +kernel)) (stays_name (by decide)) (fun _ _ _ _ _ => (jg_name (i := 5) sc__law_stock.nd)) (fun _ _ _ _ _ => jts_nil) (fun _ _ _ _ _ => (je_mod (JE.toB (je_ix (jb_var 4) (JE.toB (je_add (JE.toB je_int) (jb_var 5))))) (JE.toB (je_add (jb_var 3) (JE.toB je_int))))))) jab_nil)))))⟩
abbrev s__law_ready : Stmt := top 33
abbrev N__law_ready : List Str := ["net", "amounts", "step", "place"]
theorem sc__law_ready : FnScope N__law_ready ["net", "amounts", "step"] (defScope s__law_ready) := ⟨rfl, rfl, rfl, by decide +kernel, rfl, by decide +kernel, by decide +kernel⟩
theorem ok__law_ready {f : Addr} {fd : FuncData} (T : Tx K mg) (F : Fun K "_law_ready" "_law_ready" s__law_ready f fd) :
    FnOk P w K mg base (L2.CX P w) 1 f fd ["net", "amounts", "step"] (spK K mg 3 RN.den__law_ready) := by
  letI : HasK := ⟨K, mg⟩
  refine fn_den F sc__law_ready rfl fun cdv A outer s H E F0 hr => ?_
  have hu := hr.units
  have po := passes_of (X := cxOf (L2.CX P w) P w K mg base N__law_ready "_law_ready" (defScope s__law_ready) f cdv A outer s H E) rfl
  exact ⟨_, (jss_cons (js_for po rfl (ji_rng1 rfl T.f_range (ja_cons (je_len rfl T.f_len (jab_cons (JE.toB (je_ix (jb_var 0) (JE.toB je_int))) jab_nil)) ja_nil)) (jg_name (i := 3) sc__law_ready.nd) (jss_one (js_if (JW.t (jw_and (jt_eq hu (JE.toB (je_ix (JE.toB (je_ix (JE.toB (je_ix (jb_var 0) (JE.toB je_int))) (jb_var 3))) (JE.toB je_int))) (jb_var 2)) (jw_and1 (jt_lt (JE.toB (je_ix (jb_var 1) (jb_var 3))) (JE.toB (je_ix (JE.toB (je_ix (JE.toB (je_ix (jb_var 0) (JE.toB je_int))) (jb_var 3))) (JE.toB je_int))))))) (jss_one (js_ret je_bl)) jss_nil)))
      (jss_one (js_ret je_bl)))⟩
abbrev s__law_amounts : Stmt := top 34
abbrev N__law_amounts : List Str := ["net", "stock", "counts", "found", "place", "giver", "taker", "give", "take", "change"]
theorem sc__law_amounts : FnScope N__law_amounts ["net", "stock", "counts"] (defScope s__law_amounts) := ⟨rfl, rfl, rfl, by decide +kernel, rfl, by decide +kernel, by decide +kernel⟩
theorem ok__law_amounts {f : Addr} {fd : FuncData} (T : Tx K mg) (F : Fun K "_law_amounts" "_law_amounts" s__law_amounts f fd) :
    FnOk P w K mg base (L2.CX P w) 1 f fd ["net", "stock", "counts"] (spK K mg 3 RN.den__law_amounts) := by
  letI : HasK := ⟨K, mg⟩
  refine fn_den F sc__law_amounts rfl fun cdv A outer s H E F0 hr => ?_
  have hu := hr.units
  have po := passes_of (X := cxOf (L2.CX P w) P w K mg base N__law_amounts "_law_amounts" (defScope s__law_amounts) f cdv A outer s H E) rfl
  exact ⟨_, (jss_cons (js_setN (i := 3) sc__law_amounts.nd (jn_lst ja_nil))
      (jss_cons (js_for po rfl (ji_rng1 rfl T.f_range (ja_cons (je_len rfl T.f_len (jab_cons (JE.toB (je_ix (jb_var 0) (JE.toB je_int))) jab_nil)) ja_nil)) (jg_name (i := 4) sc__law_amounts.nd) (jss_cons (js_asg (je_ix (JE.toB (je_ix (jb_var 0) (JE.toB je_int))) (jb_var 4)) (jg_tup rfl (jgs_cons (jg_name (i := 5) sc__law_amounts.nd) (jgs_cons (jg_name (i := 6) sc__law_amounts.nd) (jgs_cons (jg_name (i := 7) sc__law_amounts.nd) (jgs_cons (jg_name (i := 8) sc__law_amounts.nd) jgs_nil))))))
      (jss_cons (js_set (i := 9) sc__law_amounts.nd (je_sub (JE.toB (je_mul (jb_var 7) (JE.toB (je_ix (jb_var 2) (jb_var 5))))) (JE.toB (je_mul (jb_var 8) (JE.toB (je_ix (jb_var 2) (jb_var 6)))))))
      (jss_one (js_app (i := 3) (je_add (JE.toB (je_ix (jb_var 1) (jb_var 4))) (jb_var 9)))))))
      (jss_one (js_ret (je_tuple rfl T.f_tuple (jab_cons (jb_var 3) jab_nil))))))⟩
abbrev s__law_attempts : Stmt := top 35
abbrev N__law_attempts : List Str := ["script", "at", "net", "stock", "draws", "found", "done", "place", "step", "success"]
theorem sc__law_attempts : FnScope N__law_attempts ["script", "at", "net", "stock"] (defScope s__law_attempts) := ⟨rfl, rfl, rfl, by decide +kernel, rfl, by decide +kernel, by decide +kernel⟩
theorem ok__law_attempts {f : Addr} {fd : FuncData} (T : Tx K mg) (F : Fun K "_law_attempts" "_law_attempts" s__law_attempts f fd) (G__law_row : Cal P w K mg base 2 "_law_row" 2 RN.den__law_row) (G__law_ready : Cal P w K mg base 1 "_law_ready" 3 RN.den__law_ready) (G__law_amounts : Cal P w K mg base 1 "_law_amounts" 3 RN.den__law_amounts) :
    FnOk P w K mg base (L2.CX P w) 3 f fd ["script", "at", "net", "stock"] (spK K mg 4 RN.den__law_attempts) := by
  letI : HasK := ⟨K, mg⟩
  refine fn_den F sc__law_attempts rfl fun cdv A outer s H E F0 hr => ?_
  have hu := hr.units
  have tk := takes_of (X := cxOf (L2.CX P w) P w K mg base N__law_attempts "_law_attempts" (defScope s__law_attempts) f cdv A outer s H E) (E := E) rfl rfl rfl rfl
  have po := passes_of (X := cxOf (L2.CX P w) P w K mg base N__law_attempts "_law_attempts" (defScope s__law_attempts) f cdv A outer s H E) rfl
  exact ⟨_, (jss_cons (js_set (i := 4) sc__law_attempts.nd (je_call _ rfl G__law_row hr (by decide) tk rfl (ja_cons (je_var 0) (ja_cons (je_var 1) ja_nil))))
      (jss_cons (js_setN (i := 5) sc__law_attempts.nd (jn_lst ja_nil))
      (jss_cons (js_set (i := 6) sc__law_attempts.nd (je_tuple rfl T.f_tuple (jab_cons (JE.toB (je_mul (JE.toB (je_lst (ja_cons je_int ja_nil))) (JE.toB (je_ix (jb_var 2) (JE.toB je_int))))) jab_nil)))
      (jss_cons (js_for po rfl (ji_rng1 rfl T.f_range (ja_cons (je_mod (JE.toB (je_ix (jb_var 4) (JE.toB je_int))) (JE.toB je_int)) ja_nil)) (jg_name (i := 7) sc__law_attempts.nd) (jss_cons (js_set (i := 8) sc__law_attempts.nd (je_mod (JE.toB (je_ix (jb_var 4) (JE.toB (je_add (JE.toB je_int) (jb_var 7))))) (JE.toB (je_ix (jb_var 2) (JE.toB je_int)))))
      (jss_cons (js_set (i := 9) sc__law_attempts.nd (je_ne hu (JE.toB (je_call _ rfl G__law_ready hr (by decide) tk rfl (ja_cons (je_var 2) (ja_cons (je_call _ rfl G__law_amounts hr (by decide) tk rfl (ja_cons (je_var 2) (ja_cons (je_var 3) (ja_cons (je_var 6) ja_nil)))) (ja_cons (je_var 8) ja_nil))))) (JE.toB (je_eq hu (JE.toB (je_mod (JE.toB (je_ix (jb_var 4) (JE.toB (je_add (JE.toB je_int) (jb_var 7))))) (JE.toB je_int))) (JE.toB je_int)))))
      (jss_cons (js_app (i := 5) (je_tup (ja_cons (je_var 8) (ja_cons (je_var 9) ja_nil))))
      (jss_one (js_if (jt_tru (jb_var 9)) (jss_one (js_set (i := 6) sc__law_attempts.nd (je_add (JE.toB (je_add (JE.toB (je_slice (jb_var 6) jo_none (jo_some (jb_var 8)))) (JE.toB (je_tup (ja_cons (je_add (JE.toB (je_ix (jb_var 6) (jb_var 8))) (JE.toB je_int)) ja_nil))))) (JE.toB (je_slice (jb_var 6) (jo_some (JE.toB (je_add (jb_var 8) (JE.toB je_int)))) jo_none))))) jss_nil))))))
      (jss_one (js_ret (je_tuple rfl T.f_tuple (jab_cons (jb_var 5) jab_nil))))))))⟩
abbrev s__law_follow : Stmt := top 36
abbrev N__law_follow : List Str := ["net", "stock", "attempts", "done", "step", "success"]
theorem sc__law_follow : FnScope N__law_follow ["net", "stock", "attempts"] (defScope s__law_follow) := ⟨rfl, rfl, rfl, by decide +kernel, rfl, by decide +kernel, by decide +kernel⟩
theorem ok__law_follow {f : Addr} {fd : FuncData} (T : Tx K mg) (F : Fun K "_law_follow" "_law_follow" s__law_follow f fd) (G__law_ready : Cal P w K mg base 1 "_law_ready" 3 RN.den__law_ready) (G__law_amounts : Cal P w K mg base 1 "_law_amounts" 3 RN.den__law_amounts) :
    FnOk P w K mg base (L2.CX P w) 2 f fd ["net", "stock", "attempts"] (spK K mg 3 RN.den__law_follow) := by
  letI : HasK := ⟨K, mg⟩
  refine fn_den F sc__law_follow rfl fun cdv A outer s H E F0 hr => ?_
  have hu := hr.units
  have tk := takes_of (X := cxOf (L2.CX P w) P w K mg base N__law_follow "_law_follow" (defScope s__law_follow) f cdv A outer s H E) (E := E) rfl rfl rfl rfl
  have po := passes_of (X := cxOf (L2.CX P w) P w K mg base N__law_follow "_law_follow" (defScope s__law_follow) f cdv A outer s H E) rfl
  exact ⟨_, (jss_cons (js_set (i := 3) sc__law_follow.nd (je_tuple rfl T.f_tuple (jab_cons (JE.toB (je_mul (JE.toB (je_lst (ja_cons je_int ja_nil))) (JE.toB (je_ix (jb_var 0) (JE.toB je_int))))) jab_nil)))
      (jss_cons (js_for po rfl (ji_seq (je_var 2)) (jg_tup rfl (jgs_cons (jg_name (i := 4) sc__law_follow.nd) (jgs_cons (jg_name (i := 5) sc__law_follow.nd) jgs_nil))) (jss_cons (js_if (jt_ne hu (JE.toB (je_call _ rfl G__law_ready hr (by decide) tk rfl (ja_cons (je_var 0) (ja_cons (je_call _ rfl G__law_amounts hr (by decide) tk rfl (ja_cons (je_var 0) (ja_cons (je_var 1) (ja_cons (je_var 3) ja_nil)))) (ja_cons (je_var 4) ja_nil))))) (jb_var 5)) (jss_one (js_ret je_non)) jss_nil)
      (jss_one (js_if (jt_tru (jb_var 5)) (jss_one (js_set (i := 3) sc__law_follow.nd (je_add (JE.toB (je_add (JE.toB (je_slice (jb_var 3) jo_none (jo_some (jb_var 4)))) (JE.toB (je_tup (ja_cons (je_add (JE.toB (je_ix (jb_var 3) (jb_var 4))) (JE.toB je_int)) ja_nil))))) (JE.toB (je_slice (jb_var 3) (jo_some (JE.toB (je_add (jb_var 4) (JE.toB je_int)))) jo_none))))) jss_nil))))
      (jss_one (js_ret (je_call _ rfl G__law_amounts hr (by decide) tk rfl (ja_cons (je_var 0) (ja_cons (je_var 1) (ja_cons (je_var 3) ja_nil))))))))⟩
abbrev s__law_every_stock : Stmt := top 37
abbrev N__law_every_stock : List Str := ["net", "bound", "found", "place", "longer", "one", "amount"]
theorem sc__law_every_stock : FnScope N__law_every_stock ["net", "bound"] (defScope s__law_every_stock) := ⟨rfl, rfl, rfl, by decide +kernel, rfl, by decide +kernel, by decide +kernel⟩
theorem ok__law_every_stock {f : Addr} {fd : FuncData} (T : Tx K mg) (F : Fun K "_law_every_stock" "_law_every_stock" s__law_every_stock f fd) :
    FnOk P w K mg base (L2.CX P w) 1 f fd ["net", "bound"] (spK K mg 2 RN.den__law_every_stock) := by
  letI : HasK := ⟨K, mg⟩
  refine fn_den F sc__law_every_stock rfl fun cdv A outer s H E F0 hr => ?_
  have hu := hr.units
  have po := passes_of (X := cxOf (L2.CX P w) P w K mg base N__law_every_stock "_law_every_stock" (defScope s__law_every_stock) f cdv A outer s H E) rfl
  exact ⟨_, (jss_cons (js_set (i := 2) sc__law_every_stock.nd (je_lst (ja_cons (je_tup ja_nil) ja_nil)))
      (jss_cons (js_for po rfl (ji_rng1 rfl T.f_range (ja_cons (je_len rfl T.f_len (jab_cons (JE.toB (je_ix (jb_var 0) (JE.toB je_int))) jab_nil)) ja_nil)) (jg_name (i := 3) sc__law_every_stock.nd) (jss_cons (js_set (i := 4) sc__law_every_stock.nd (je_lst ja_nil))
      (jss_cons (js_for po rfl (ji_seq (je_var 2)) (jg_name (i := 5) sc__law_every_stock.nd) (jss_one (js_set (i := 4) sc__law_every_stock.nd (je_add (jb_var 4) (JE.toB (je_lc [("amount", 6)] rfl rfl sc__law_every_stock.nd (ji_rng1 rfl T.f_range (ja_cons (je_add (jb_var 1) (JE.toB je_int)) ja_nil)) (blkOk_by (N := N__law_every_stock) (sc := defScope s__law_every_stock) (by decide +kernel)) (stays_name (by decide)) (fun _ _ _ _ _ => (jg_name (i := 6) sc__law_every_stock.nd)) (fun _ _ _ _ _ => jts_nil) (fun _ _ _ _ _ => (je_add (jb_var 5) (JE.toB (je_tup (ja_cons (je_var 6) ja_nil)))))))))))
      (jss_one (js_set (i := 2) sc__law_every_stock.nd (je_var 4))))))
      (jss_one (js_ret (je_var 2)))))⟩
abbrev s__law_hidden : Stmt := top 38
abbrev N__law_hidden : List Str := ["mode", "net", "attempts", "bound", "e"]
theorem sc__law_hidden : FnScope N__law_hidden ["mode", "net", "attempts", "bound"] (defScope s__law_hidden) := ⟨rfl, rfl, rfl, by decide +kernel, rfl, by decide +kernel, by decide +kernel⟩
theorem ok__law_hidden {f : Addr} {fd : FuncData} (T : Tx K mg) (F : Fun K "_law_hidden" "_law_hidden" s__law_hidden f fd) (G_agreeing_stocks : Cal P w K mg base 6 "agreeing_stocks" 3 RN.den_agreeing_stocks) (G_amount_ranges : Cal P w K mg base 6 "amount_ranges" 3 RN.den_amount_ranges) (G_best_attempt : Cal P w K mg base 6 "best_attempt" 3 RN.den_best_attempt) :
    FnOk P w K mg base (L2.CX P w) 7 f fd ["mode", "net", "attempts", "bound"] (spK K mg 4 RN.den__law_hidden) := by
  letI : HasK := ⟨K, mg⟩
  refine fn_den F sc__law_hidden rfl fun cdv A outer s H E F0 hr => ?_
  have hu := hr.units
  have tk := takes_of (X := cxOf (L2.CX P w) P w K mg base N__law_hidden "_law_hidden" (defScope s__law_hidden) f cdv A outer s H E) (E := E) rfl rfl rfl rfl
  have po := passes_of (X := cxOf (L2.CX P w) P w K mg base N__law_hidden "_law_hidden" (defScope s__law_hidden) f cdv A outer s H E) rfl
  exact ⟨_, (jss_one (js_try (i := 4) T.exk (by decide +kernel) tk sc__law_hidden.nd (fun W pn xe tk po => ⟨_, (jss_cons (js_if (jt_eq hu (jb_var 0) (JE.toB je_int)) (jss_one (js_ret (je_call W rfl G_agreeing_stocks hr (by decide) tk rfl (ja_cons (je_var 1) (ja_cons (je_var 2) (ja_cons (je_var 3) ja_nil)))))) jss_nil)
      (jss_one (js_ret (je_if (jt_eq hu (jb_var 0) (JE.toB je_int)) (je_call W rfl G_amount_ranges hr (by decide) tk rfl (ja_cons (je_var 1) (ja_cons (je_var 2) (ja_cons (je_var 3) ja_nil)))) (je_call W rfl G_best_attempt hr (by decide) tk rfl (ja_cons (je_var 1) (ja_cons (je_var 2) (ja_cons (je_var 3) ja_nil))))))))⟩) (jh_cons T.exk T.f_isinstance (by decide +kernel) (by decide +kernel) (by decide +kernel) (jh_cons T.exk T.f_isinstance (by decide +kernel) (by decide +kernel) (by decide +kernel) (jh_cons T.exk T.f_isinstance (by decide +kernel) (by decide +kernel) (by decide +kernel) jh_nil)))))⟩
abbrev s_law : Stmt := top 39
abbrev N_law : List Str := ["script", "net", "bound", "attempts", "followed", "found", "asked", "due", "place", "best", "step", "here", "many", "worst", "stock", "amounts"]
theorem sc_law : FnScope N_law ["script"] (defScope s_law) := ⟨rfl, rfl, rfl, by decide +kernel, rfl, by decide +kernel, by decide +kernel⟩
theorem ok_law {f : Addr} {fd : FuncData} (T : Tx K mg) (F : Fun K "law" "law" s_law f fd) (G__law_net : Cal P w K mg base 3 "_law_net" 4 RN.den__law_net) (G__law_attempts : Cal P w K mg base 3 "_law_attempts" 4 RN.den__law_attempts) (G__law_stock : Cal P w K mg base 3 "_law_stock" 4 RN.den__law_stock) (G__law_every_stock : Cal P w K mg base 1 "_law_every_stock" 2 RN.den__law_every_stock) (G__law_follow : Cal P w K mg base 2 "_law_follow" 3 RN.den__law_follow) (G__law_hidden : Cal P w K mg base 7 "_law_hidden" 4 RN.den__law_hidden) (G__law_ready : Cal P w K mg base 1 "_law_ready" 3 RN.den__law_ready) :
    FnOk P w K mg base (L2.CX P w) 8 f fd ["script"] (spK K mg 1 RN.den_law_k16) := by
  letI : HasK := ⟨K, mg⟩
  refine fn_den F sc_law rfl fun cdv A outer s H E F0 hr => ?_
  have hu := hr.units
  have tk := takes_of (X := cxOf (L2.CX P w) P w K mg base N_law "law" (defScope s_law) f cdv A outer s H E) (E := E) rfl rfl rfl rfl
  have po := passes_of (X := cxOf (L2.CX P w) P w K mg base N_law "law" (defScope s_law) f cdv A outer s H E) rfl
  exact ⟨_, (jss_cons (js_set (i := 1) sc_law.nd (je_call _ rfl G__law_net hr (by decide) tk rfl (ja_cons (je_var 0) (ja_cons je_int (ja_cons je_int (ja_cons je_int ja_nil))))))
      (jss_cons (js_set (i := 2) sc_law.nd je_int)
      (jss_cons (js_set (i := 3) sc_law.nd (je_call _ rfl G__law_attempts hr (by decide) tk rfl (ja_cons (je_var 0) (ja_cons je_int (ja_cons (je_var 1) (ja_cons (je_call _ rfl G__law_stock hr (by decide) tk rfl (ja_cons (je_var 0) (ja_cons je_int (ja_cons (je_var 1) (ja_cons (je_var 2) ja_nil))))) ja_nil))))))
      (jss_cons (js_setLc (i := 4) [("stock", 14)] rfl rfl sc_law.nd (ji_seq (je_call _ rfl G__law_every_stock hr (by decide) tk rfl (ja_cons (je_var 1) (ja_cons (je_var 2) ja_nil)))) (blkOk_by (N := N_law) (sc := defScope s_law) (by decide +kernel)) (stays_name (by decide)) (fun _ _ _ _ _ => (jg_name (i := 14) sc_law.nd)) (fun _ _ _ _ _ => jts_nil) (fun _ _ _ _ _ => (je_call W0 rfl G__law_follow hr (by decide) takes0 rfl (ja_cons (je_var 1) (ja_cons (je_var 14) (ja_cons (je_var 3) ja_nil))))) (sw_true rfl rfl rfl (by decide +kernel)))
      (jss_cons (js_setLc (i := 4) [("amounts", 15)] rfl rfl sc_law.nd (ji_seq (je_var 4)) (blkOk_by (N := N_law) (sc := defScope s_law) (by decide +kernel)) (stays_name (by decide)) (fun _ _ _ _ _ => (jg_name (i := 15) sc_law.nd)) (fun _ _ _ _ _ => (jts_one (jt_notN (je_var 15)))) (fun _ _ _ _ _ => (je_var 15)) (sw_true rfl rfl rfl (by decide +kernel)))
      (jss_cons (js_set (i := 5) sc_law.nd (je_call _ rfl G__law_hidden hr (by decide) tk rfl (ja_cons je_int (ja_cons (je_var 1) (ja_cons (je_var 3) (ja_cons (je_var 2) ja_nil))))))
      (jss_cons (js_set (i := 6) sc_law.nd (je_call _ rfl G__law_hidden hr (by decide) tk rfl (ja_cons je_int (ja_cons (je_var 1) (ja_cons (je_var 3) (ja_cons (je_var 2) ja_nil))))))
      (jss_cons (js_if (jt_eq hu (jb_var 4) (JE.toB (je_lst ja_nil))) (jss_one (js_ret (je_and (je_eq hu (jb_var 5) (JE.toB je_str)) (je_one (je_eq hu (jb_var 6) (JE.toB je_str)))))) jss_nil)
      (jss_cons (js_setN (i := 7) sc_law.nd (jn_lst ja_nil))
      (jss_cons (js_for po rfl (ji_rng1 rfl T.f_range (ja_cons (je_len rfl T.f_len (jab_cons (JE.toB (je_ix (jb_var 1) (JE.toB je_int))) jab_nil)) ja_nil)) (jg_name (i := 8) sc_law.nd) (jss_cons (js_setLc (i := 11) [("amounts", 15)] rfl rfl sc_law.nd (ji_seq (je_var 4)) (blkOk_by (N := N_law) (sc := defScope s_law) (by decide +kernel)) (stays_name (by decide)) (fun _ _ _ _ _ => (jg_name (i := 15) sc_law.nd)) (fun _ _ _ _ _ => jts_nil) (fun _ _ _ _ _ => (je_ix (jb_var 15) (jb_var 8))) (sw_true rfl rfl rfl (by decide +kernel)))
      (jss_one (js_app (i := 7) (je_tup (ja_cons (je_min1 rfl T.f_min rfl (jab_cons (jb_var 11) jab_nil)) (ja_cons (je_max1 rfl T.f_max rfl (jab_cons (jb_var 11) jab_nil)) ja_nil)))))))
      (jss_cons (js_set (i := 9) sc_law.nd je_non)
      (jss_cons (js_for po rfl (ji_rng1 rfl T.f_range (ja_cons (je_ix (jb_var 1) (JE.toB je_int)) ja_nil)) (jg_name (i := 10) sc_law.nd) (jss_cons (js_set (i := 12) sc_law.nd (je_len rfl T.f_len (jab_cons (JE.toB (je_lc [("amounts", 15)] rfl rfl sc_law.nd (ji_seq (je_var 4)) (blkOk_by (N := N_law) (sc := defScope s_law) (by decide +kernel)) (stays_name (by decide)) (fun _ _ _ _ _ => (jg_name (i := 15) sc_law.nd)) (fun _ _ _ _ _ => (jts_one (jt_tru (JE.toB (je_call W0 rfl G__law_ready hr (by decide) takes0 rfl (ja_cons (je_var 1) (ja_cons (je_var 15) (ja_cons (je_var 10) ja_nil)))))))) (fun _ _ _ _ _ => (je_var 15)))) jab_nil)))
      (jss_cons (js_set (i := 13) sc_law.nd (je_max2 rfl T.f_max rfl (jab_cons (jb_var 12) (jab_cons (JE.toB (je_sub (JE.toB (je_len rfl T.f_len (jab_cons (jb_var 4) jab_nil))) (jb_var 12))) jab_nil))))
      (jss_one (js_if (JW.t (jw_and (jt_lt (jb_var 13) (JE.toB (je_len rfl T.f_len (jab_cons (jb_var 4) jab_nil)))) (jw_and1 (JW.t (jw_or (jt_isN (je_var 9)) (jw_or1 (jt_lt (jb_var 13) (JE.toB (je_ix (jb_var 9) (JE.toB je_int)))))))))) (jss_one (js_set (i := 9) sc_law.nd (je_tup (ja_cons (je_var 13) (ja_cons (je_var 10) ja_nil))))) jss_nil)))))
      (jss_one (js_ret (je_and (je_eq hu (jb_var 5) (jb_var 7)) (je_one (je_eq hu (jb_var 6) (JE.toB (je_if (jt_isN (je_var 9)) je_non (je_ix (jb_var 9) (JE.toB je_int)))))))))))))))))))))⟩
end K16

end
namespace K16
open PySem RD
theorem law_true (ns : List Int) (h : ns.length ≤ 63) (hb : ∀ z ∈ ns, Builtin.Int.intBits z ≤ 1048576) : RN.den_law_k16 [scrD ns] = .ok (.bool true) := RN.law_true_k16 ns
end K16
namespace K16
open PySem L2 RD
def fa : List He.Fa := [.glo "in_range", .glo "is_channel", .glo "is_net", .glo "check_net", .glo "is_ready", .glo "after_run", .glo "are_attempts", .glo "all_stocks", .glo "follow", .glo "check_search", .glo "agreeing_stocks", .glo "amount_ranges", .glo "best_attempt", .glo "_law_cell", .glo "_law_row", .glo "_law_gcd", .glo "_law_net", .glo "_law_stock", .glo "_law_ready", .glo "_law_amounts", .glo "_law_attempts", .glo "_law_follow", .glo "_law_every_stock", .glo "_law_hidden", .glo "law", .glo "NetError", .glo "InvalidNet", .glo "InvalidAttempts", .glo "InvalidBound", .glo "TooLong", .free "bool", .free "int", .free "isinstance", .free "len", .free "max", .free "min", .free "range", .free "tuple", .free "zip", .int "MAX_ATTEMPTS" 40, .int "MAX_BOUND" 9, .int "MAX_CHANNELS" 5, .int "MAX_RATE" 4, .int "MAX_STEPS" 4, .int "MAX_STOCKS" 2000, .exc "InvalidAttempts", .exc "InvalidBound", .exc "InvalidNet", .exc "TooLong"]
def dd_in_range : He.DefD := ⟨("in_range", none), "in_range", "in_range", defArgs s_in_range, defBody s_in_range, defScope s_in_range, [], []⟩
def dd_is_channel : He.DefD := ⟨("is_channel", none), "is_channel", "is_channel", defArgs s_is_channel, defBody s_is_channel, defScope s_is_channel, [], []⟩
def dd_is_net : He.DefD := ⟨("is_net", none), "is_net", "is_net", defArgs s_is_net, defBody s_is_net, defScope s_is_net, [], []⟩
def dd_check_net : He.DefD := ⟨("check_net", none), "check_net", "check_net", defArgs s_check_net, defBody s_check_net, defScope s_check_net, [], []⟩
def dd_is_ready : He.DefD := ⟨("is_ready", none), "is_ready", "is_ready", defArgs s_is_ready, defBody s_is_ready, defScope s_is_ready, [], []⟩
def dd_after_run : He.DefD := ⟨("after_run", none), "after_run", "after_run", defArgs s_after_run, defBody s_after_run, defScope s_after_run, [], []⟩
def dd_are_attempts : He.DefD := ⟨("are_attempts", none), "are_attempts", "are_attempts", defArgs s_are_attempts, defBody s_are_attempts, defScope s_are_attempts, [], []⟩
def dd_all_stocks : He.DefD := ⟨("all_stocks", none), "all_stocks", "all_stocks", defArgs s_all_stocks, defBody s_all_stocks, defScope s_all_stocks, [], []⟩
def dd_follow : He.DefD := ⟨("follow", none), "follow", "follow", defArgs s_follow, defBody s_follow, defScope s_follow, [], []⟩
def dd_check_search : He.DefD := ⟨("check_search", none), "check_search", "check_search", defArgs s_check_search, defBody s_check_search, defScope s_check_search, [], []⟩
def dd_agreeing_stocks : He.DefD := ⟨("agreeing_stocks", none), "agreeing_stocks", "agreeing_stocks", defArgs s_agreeing_stocks, defBody s_agreeing_stocks, defScope s_agreeing_stocks, [], []⟩
def dd_amount_ranges : He.DefD := ⟨("amount_ranges", none), "amount_ranges", "amount_ranges", defArgs s_amount_ranges, defBody s_amount_ranges, defScope s_amount_ranges, [], []⟩
def dd_best_attempt : He.DefD := ⟨("best_attempt", none), "best_attempt", "best_attempt", defArgs s_best_attempt, defBody s_best_attempt, defScope s_best_attempt, [], []⟩
def dd__law_cell : He.DefD := ⟨("_law_cell", none), "_law_cell", "_law_cell", defArgs s__law_cell, defBody s__law_cell, defScope s__law_cell, [], []⟩
def dd__law_row : He.DefD := ⟨("_law_row", none), "_law_row", "_law_row", defArgs s__law_row, defBody s__law_row, defScope s__law_row, [], []⟩
def dd__law_gcd : He.DefD := ⟨("_law_gcd", none), "_law_gcd", "_law_gcd", defArgs s__law_gcd, defBody s__law_gcd, defScope s__law_gcd, [], []⟩
def dd__law_net : He.DefD := ⟨("_law_net", none), "_law_net", "_law_net", defArgs s__law_net, defBody s__law_net, defScope s__law_net, [], []⟩
def dd__law_stock : He.DefD := ⟨("_law_stock", none), "_law_stock", "_law_stock", defArgs s__law_stock, defBody s__law_stock, defScope s__law_stock, [], []⟩
def dd__law_ready : He.DefD := ⟨("_law_ready", none), "_law_ready", "_law_ready", defArgs s__law_ready, defBody s__law_ready, defScope s__law_ready, [], []⟩
def dd__law_amounts : He.DefD := ⟨("_law_amounts", none), "_law_amounts", "_law_amounts", defArgs s__law_amounts, defBody s__law_amounts, defScope s__law_amounts, [], []⟩
def dd__law_attempts : He.DefD := ⟨("_law_attempts", none), "_law_attempts", "_law_attempts", defArgs s__law_attempts, defBody s__law_attempts, defScope s__law_attempts, [], []⟩
def dd__law_follow : He.DefD := ⟨("_law_follow", none), "_law_follow", "_law_follow", defArgs s__law_follow, defBody s__law_follow, defScope s__law_follow, [], []⟩
def dd__law_every_stock : He.DefD := ⟨("_law_every_stock", none), "_law_every_stock", "_law_every_stock", defArgs s__law_every_stock, defBody s__law_every_stock, defScope s__law_every_stock, [], []⟩
def dd__law_hidden : He.DefD := ⟨("_law_hidden", none), "_law_hidden", "_law_hidden", defArgs s__law_hidden, defBody s__law_hidden, defScope s__law_hidden, [], []⟩
def dd_law : He.DefD := ⟨("law", none), "law", "law", defArgs s_law, defBody s_law, defScope s_law, [], []⟩
def fn : List He.DefD := [dd_in_range, dd_is_channel, dd_is_net, dd_check_net, dd_is_ready, dd_after_run, dd_are_attempts, dd_all_stocks, dd_follow, dd_check_search, dd_agreeing_stocks, dd_amount_ranges, dd_best_attempt, dd__law_cell, dd__law_row, dd__law_gcd, dd__law_net, dd__law_stock, dd__law_ready, dd__law_amounts, dd__law_attempts, dd__law_follow, dd__law_every_stock, dd__law_hidden, dd_law]
abbrev R : PySem.W.OpenRow := PySem.W.OpenLaw.row PySem.Challenge.rw_ratenets_k16_best_attempts
def ck (K : PySem.W.Frag) : Bool := exkB excs K
abbrev hk : PySem.W.Hook := hookR 4 fa fn ck
def ob (s : PySem.W.SharedT) : He.AlD × Bool := obR 4 fa fn ck s
def nm0 : List Str := ["NetError", "InvalidNet", "InvalidAttempts", "InvalidBound", "TooLong", "MAX_STEPS", "MAX_CHANNELS", "MAX_RATE", "in_range", "is_channel", "is_net", "check_net", "is_ready", "after_run", "MAX_BOUND", "MAX_ATTEMPTS", "MAX_STOCKS", "are_attempts", "all_stocks", "follow", "check_search", "agreeing_stocks", "amount_ranges", "best_attempt", "_law_cell", "_law_row", "_law_gcd", "_law_net", "_law_stock", "_law_ready"]
def nm1 : List Str := ["_law_amounts", "_law_attempts", "_law_follow", "_law_every_stock", "_law_hidden"]
def nms : List Str := nm0 ++ nm1
theorem run (w : World) : HandSHeadRun.RunEq R (PySem.W.view R.prog [39]) hk ob 6000 nms w := by
  intro os
  kernel_rfl
theorem facts {P : Program} {w : World} {K : PySem.W.Frag} {h : Heap} {mg : Str → Option Value} {f : Addr} (X : K.In h) (G : h.Ns mainGlobals mg) (hfa : mg ("law" : Str) = some (.ref f)) (c : He.SaysD fa fn K) (c2 : ck K = true) :
    ∃ fd : FuncData, (∀ (s : Shared) (v : Value), BindsTo s fd ⟨[v], []⟩ [("script", v)]) ∧ ∀ base : Heap, K.In base → base.Ns mainGlobals mg → FnOk P w K mg base (L2.CX P w) 8 f fd ["script"] (spK K mg 1 RN.den_law_k16) := by
  have T : Tx K mg := { f_bool := He.free_ok X G (c.fact 30 (f := .free "bool") rfl), f_int := He.free_ok X G (c.fact 31 (f := .free "int") rfl), f_isinstance := He.free_ok X G (c.fact 32 (f := .free "isinstance") rfl), f_len := He.free_ok X G (c.fact 33 (f := .free "len") rfl), f_max := He.free_ok X G (c.fact 34 (f := .free "max") rfl), f_min := He.free_ok X G (c.fact 35 (f := .free "min") rfl), f_range := He.free_ok X G (c.fact 36 (f := .free "range") rfl), f_tuple := He.free_ok X G (c.fact 37 (f := .free "tuple") rfl), f_zip := He.free_ok X G (c.fact 38 (f := .free "zip") rfl), i_MAX_ATTEMPTS := He.int_ok X G (c.fact 39 (f := .int "MAX_ATTEMPTS" 40) rfl), i_MAX_BOUND := He.int_ok X G (c.fact 40 (f := .int "MAX_BOUND" 9) rfl), i_MAX_CHANNELS := He.int_ok X G (c.fact 41 (f := .int "MAX_CHANNELS" 5) rfl), i_MAX_RATE := He.int_ok X G (c.fact 42 (f := .int "MAX_RATE" 4) rfl), i_MAX_STEPS := He.int_ok X G (c.fact 43 (f := .int "MAX_STEPS" 4) rfl), i_MAX_STOCKS := He.int_ok X G (c.fact 44 (f := .int "MAX_STOCKS" 2000) rfl), e_InvalidAttempts := excT_of X G (c.fact 27 (f := .glo "InvalidAttempts") rfl) (c.fact 45 (f := .exc "InvalidAttempts") rfl), e_InvalidBound := excT_of X G (c.fact 28 (f := .glo "InvalidBound") rfl) (c.fact 46 (f := .exc "InvalidBound") rfl), e_InvalidNet := excT_of X G (c.fact 26 (f := .glo "InvalidNet") rfl) (c.fact 47 (f := .exc "InvalidNet") rfl), e_TooLong := excT_of X G (c.fact 29 (f := .glo "TooLong") rfl) (c.fact 48 (f := .exc "TooLong") rfl), exk := exk_of X G c2 }
  obtain ⟨fd_in_range, D_in_range⟩ := c.def_ 0 (d := dd_in_range) rfl
  have g_in_range := He.glo_ok X G (c.fact 0 (f := .glo "in_range") rfl)
  have b_in_range : Binds K fd_in_range ["value", "low", "high"] [] := FunD.bindsN D_in_range fun _ _ _ _ _ _ us hl => match us, hl with | [_, _, _], _ => rfl
  obtain ⟨fd_is_channel, D_is_channel⟩ := c.def_ 1 (d := dd_is_channel) rfl
  have g_is_channel := He.glo_ok X G (c.fact 1 (f := .glo "is_channel") rfl)
  have b_is_channel : Binds K fd_is_channel ["steps", "value"] [] := FunD.bindsN D_is_channel fun _ _ _ _ _ _ us hl => match us, hl with | [_, _], _ => rfl
  obtain ⟨fd_is_net, D_is_net⟩ := c.def_ 2 (d := dd_is_net) rfl
  have g_is_net := He.glo_ok X G (c.fact 2 (f := .glo "is_net") rfl)
  have b_is_net : Binds K fd_is_net ["value"] [] := FunD.bindsN D_is_net fun _ _ _ _ _ _ us hl => match us, hl with | [_], _ => rfl
  obtain ⟨fd_check_net, D_check_net⟩ := c.def_ 3 (d := dd_check_net) rfl
  have g_check_net := He.glo_ok X G (c.fact 3 (f := .glo "check_net") rfl)
  have b_check_net : Binds K fd_check_net ["net"] [] := FunD.bindsN D_check_net fun _ _ _ _ _ _ us hl => match us, hl with | [_], _ => rfl
  obtain ⟨fd_is_ready, D_is_ready⟩ := c.def_ 4 (d := dd_is_ready) rfl
  have g_is_ready := He.glo_ok X G (c.fact 4 (f := .glo "is_ready") rfl)
  have b_is_ready : Binds K fd_is_ready ["net", "stock", "step"] [] := FunD.bindsN D_is_ready fun _ _ _ _ _ _ us hl => match us, hl with | [_, _, _], _ => rfl
  obtain ⟨fd_after_run, D_after_run⟩ := c.def_ 5 (d := dd_after_run) rfl
  have g_after_run := He.glo_ok X G (c.fact 5 (f := .glo "after_run") rfl)
  have b_after_run : Binds K fd_after_run ["net", "stock", "step"] [] := FunD.bindsN D_after_run fun _ _ _ _ _ _ us hl => match us, hl with | [_, _, _], _ => rfl
  obtain ⟨fd_are_attempts, D_are_attempts⟩ := c.def_ 6 (d := dd_are_attempts) rfl
  have g_are_attempts := He.glo_ok X G (c.fact 6 (f := .glo "are_attempts") rfl)
  have b_are_attempts : Binds K fd_are_attempts ["net", "value"] [] := FunD.bindsN D_are_attempts fun _ _ _ _ _ _ us hl => match us, hl with | [_, _], _ => rfl
  obtain ⟨fd_all_stocks, D_all_stocks⟩ := c.def_ 7 (d := dd_all_stocks) rfl
  have g_all_stocks := He.glo_ok X G (c.fact 7 (f := .glo "all_stocks") rfl)
  have b_all_stocks : Binds K fd_all_stocks ["places", "bound"] [] := FunD.bindsN D_all_stocks fun _ _ _ _ _ _ us hl => match us, hl with | [_, _], _ => rfl
  obtain ⟨fd_follow, D_follow⟩ := c.def_ 8 (d := dd_follow) rfl
  have g_follow := He.glo_ok X G (c.fact 8 (f := .glo "follow") rfl)
  have b_follow : Binds K fd_follow ["net", "stock", "attempts"] [] := FunD.bindsN D_follow fun _ _ _ _ _ _ us hl => match us, hl with | [_, _, _], _ => rfl
  obtain ⟨fd_check_search, D_check_search⟩ := c.def_ 9 (d := dd_check_search) rfl
  have g_check_search := He.glo_ok X G (c.fact 9 (f := .glo "check_search") rfl)
  have b_check_search : Binds K fd_check_search ["net", "attempts", "bound"] [] := FunD.bindsN D_check_search fun _ _ _ _ _ _ us hl => match us, hl with | [_, _, _], _ => rfl
  obtain ⟨fd_agreeing_stocks, D_agreeing_stocks⟩ := c.def_ 10 (d := dd_agreeing_stocks) rfl
  have g_agreeing_stocks := He.glo_ok X G (c.fact 10 (f := .glo "agreeing_stocks") rfl)
  have b_agreeing_stocks : Binds K fd_agreeing_stocks ["net", "attempts", "bound"] [] := FunD.bindsN D_agreeing_stocks fun _ _ _ _ _ _ us hl => match us, hl with | [_, _, _], _ => rfl
  obtain ⟨fd_amount_ranges, D_amount_ranges⟩ := c.def_ 11 (d := dd_amount_ranges) rfl
  have g_amount_ranges := He.glo_ok X G (c.fact 11 (f := .glo "amount_ranges") rfl)
  have b_amount_ranges : Binds K fd_amount_ranges ["net", "attempts", "bound"] [] := FunD.bindsN D_amount_ranges fun _ _ _ _ _ _ us hl => match us, hl with | [_, _, _], _ => rfl
  obtain ⟨fd_best_attempt, D_best_attempt⟩ := c.def_ 12 (d := dd_best_attempt) rfl
  have g_best_attempt := He.glo_ok X G (c.fact 12 (f := .glo "best_attempt") rfl)
  have b_best_attempt : Binds K fd_best_attempt ["net", "attempts", "bound"] [] := FunD.bindsN D_best_attempt fun _ _ _ _ _ _ us hl => match us, hl with | [_, _, _], _ => rfl
  obtain ⟨fd__law_cell, D__law_cell⟩ := c.def_ 13 (d := dd__law_cell) rfl
  have g__law_cell := He.glo_ok X G (c.fact 13 (f := .glo "_law_cell") rfl)
  have b__law_cell : Binds K fd__law_cell ["script", "k"] [] := FunD.bindsN D__law_cell fun _ _ _ _ _ _ us hl => match us, hl with | [_, _], _ => rfl
  obtain ⟨fd__law_row, D__law_row⟩ := c.def_ 14 (d := dd__law_row) rfl
  have g__law_row := He.glo_ok X G (c.fact 14 (f := .glo "_law_row") rfl)
  have b__law_row : Binds K fd__law_row ["script", "at"] [] := FunD.bindsN D__law_row fun _ _ _ _ _ _ us hl => match us, hl with | [_, _], _ => rfl
  obtain ⟨fd__law_gcd, D__law_gcd⟩ := c.def_ 15 (d := dd__law_gcd) rfl
  have g__law_gcd := He.glo_ok X G (c.fact 15 (f := .glo "_law_gcd") rfl)
  have b__law_gcd : Binds K fd__law_gcd ["one", "other"] [] := FunD.bindsN D__law_gcd fun _ _ _ _ _ _ us hl => match us, hl with | [_, _], _ => rfl
  obtain ⟨fd__law_net, D__law_net⟩ := c.def_ 16 (d := dd__law_net) rfl
  have g__law_net := He.glo_ok X G (c.fact 16 (f := .glo "_law_net") rfl)
  have b__law_net : Binds K fd__law_net ["script", "at", "most_steps", "most_channels"] [] := FunD.bindsN D__law_net fun _ _ _ _ _ _ us hl => match us, hl with | [_, _, _, _], _ => rfl
  obtain ⟨fd__law_stock, D__law_stock⟩ := c.def_ 17 (d := dd__law_stock) rfl
  have g__law_stock := He.glo_ok X G (c.fact 17 (f := .glo "_law_stock") rfl)
  have b__law_stock : Binds K fd__law_stock ["script", "at", "net", "most"] [] := FunD.bindsN D__law_stock fun _ _ _ _ _ _ us hl => match us, hl with | [_, _, _, _], _ => rfl
  obtain ⟨fd__law_ready, D__law_ready⟩ := c.def_ 18 (d := dd__law_ready) rfl
  have g__law_ready := He.glo_ok X G (c.fact 18 (f := .glo "_law_ready") rfl)
  have b__law_ready : Binds K fd__law_ready ["net", "amounts", "step"] [] := FunD.bindsN D__law_ready fun _ _ _ _ _ _ us hl => match us, hl with | [_, _, _], _ => rfl
  obtain ⟨fd__law_amounts, D__law_amounts⟩ := c.def_ 19 (d := dd__law_amounts) rfl
  have g__law_amounts := He.glo_ok X G (c.fact 19 (f := .glo "_law_amounts") rfl)
  have b__law_amounts : Binds K fd__law_amounts ["net", "stock", "counts"] [] := FunD.bindsN D__law_amounts fun _ _ _ _ _ _ us hl => match us, hl with | [_, _, _], _ => rfl
  obtain ⟨fd__law_attempts, D__law_attempts⟩ := c.def_ 20 (d := dd__law_attempts) rfl
  have g__law_attempts := He.glo_ok X G (c.fact 20 (f := .glo "_law_attempts") rfl)
  have b__law_attempts : Binds K fd__law_attempts ["script", "at", "net", "stock"] [] := FunD.bindsN D__law_attempts fun _ _ _ _ _ _ us hl => match us, hl with | [_, _, _, _], _ => rfl
  obtain ⟨fd__law_follow, D__law_follow⟩ := c.def_ 21 (d := dd__law_follow) rfl
  have g__law_follow := He.glo_ok X G (c.fact 21 (f := .glo "_law_follow") rfl)
  have b__law_follow : Binds K fd__law_follow ["net", "stock", "attempts"] [] := FunD.bindsN D__law_follow fun _ _ _ _ _ _ us hl => match us, hl with | [_, _, _], _ => rfl
  obtain ⟨fd__law_every_stock, D__law_every_stock⟩ := c.def_ 22 (d := dd__law_every_stock) rfl
  have g__law_every_stock := He.glo_ok X G (c.fact 22 (f := .glo "_law_every_stock") rfl)
  have b__law_every_stock : Binds K fd__law_every_stock ["net", "bound"] [] := FunD.bindsN D__law_every_stock fun _ _ _ _ _ _ us hl => match us, hl with | [_, _], _ => rfl
  obtain ⟨fd__law_hidden, D__law_hidden⟩ := c.def_ 23 (d := dd__law_hidden) rfl
  have g__law_hidden := He.glo_ok X G (c.fact 23 (f := .glo "_law_hidden") rfl)
  have b__law_hidden : Binds K fd__law_hidden ["mode", "net", "attempts", "bound"] [] := FunD.bindsN D__law_hidden fun _ _ _ _ _ _ us hl => match us, hl with | [_, _, _, _], _ => rfl
  obtain ⟨fd_law, D_law⟩ := c.def_ 24 (d := dd_law) rfl
  have g_law := He.glo_ok X G (c.fact 24 (f := .glo "law") rfl)
  have b_law : Binds K fd_law ["script"] [] := FunD.bindsN D_law fun _ _ _ _ _ _ us hl => match us, hl with | [_], _ => rfl
  have e := hfa.symm.trans g_law
  cases e
  have bA := FunD.bindsA (ps := ["script"]) D_law fun _ _ _ _ _ _ us hl => match us, hl with | [_], _ => rfl
  refine ⟨fd_law, fun s v => bA s [v] rfl, fun base _ _ => ?_⟩
  have G_in_range : Cal P w K mg base 1 "in_range" 3 RN.den_in_range := cal_of (ok_in_range T (fun_of D_in_range)) g_in_range D_in_range.kp b_in_range
  have G_is_channel : Cal P w K mg base 2 "is_channel" 2 RN.den_is_channel := cal_of (ok_is_channel T (fun_of D_is_channel) G_in_range) g_is_channel D_is_channel.kp b_is_channel
  have G_is_net : Cal P w K mg base 3 "is_net" 1 RN.den_is_net := cal_of (ok_is_net T (fun_of D_is_net) G_in_range G_is_channel) g_is_net D_is_net.kp b_is_net
  have G_check_net : Cal P w K mg base 4 "check_net" 1 RN.den_check_net := cal_of (ok_check_net T (fun_of D_check_net) G_is_net) g_check_net D_check_net.kp b_check_net
  have G_is_ready : Cal P w K mg base 1 "is_ready" 3 RN.den_is_ready := cal_of (ok_is_ready T (fun_of D_is_ready)) g_is_ready D_is_ready.kp b_is_ready
  have G_after_run : Cal P w K mg base 1 "after_run" 3 RN.den_after_run := cal_of (ok_after_run T (fun_of D_after_run)) g_after_run D_after_run.kp b_after_run
  have G_are_attempts : Cal P w K mg base 2 "are_attempts" 2 RN.den_are_attempts := cal_of (ok_are_attempts T (fun_of D_are_attempts) G_in_range) g_are_attempts D_are_attempts.kp b_are_attempts
  have G_all_stocks : Cal P w K mg base 1 "all_stocks" 2 RN.den_all_stocks := cal_of (ok_all_stocks T (fun_of D_all_stocks)) g_all_stocks D_all_stocks.kp b_all_stocks
  have G_follow : Cal P w K mg base 2 "follow" 3 RN.den_follow := cal_of (ok_follow T (fun_of D_follow) G_is_ready G_after_run) g_follow D_follow.kp b_follow
  have G_check_search : Cal P w K mg base 5 "check_search" 3 RN.den_check_search := cal_of (ok_check_search T (fun_of D_check_search) G_check_net G_are_attempts G_in_range) g_check_search D_check_search.kp b_check_search
  have G_agreeing_stocks : Cal P w K mg base 6 "agreeing_stocks" 3 RN.den_agreeing_stocks := cal_of (ok_agreeing_stocks T (fun_of D_agreeing_stocks) G_check_search G_all_stocks G_follow) g_agreeing_stocks D_agreeing_stocks.kp b_agreeing_stocks
  have G_amount_ranges : Cal P w K mg base 6 "amount_ranges" 3 RN.den_amount_ranges := cal_of (ok_amount_ranges T (fun_of D_amount_ranges) G_check_search G_all_stocks G_follow) g_amount_ranges D_amount_ranges.kp b_amount_ranges
  have G_best_attempt : Cal P w K mg base 6 "best_attempt" 3 RN.den_best_attempt := cal_of (ok_best_attempt T (fun_of D_best_attempt) G_check_search G_all_stocks G_follow G_is_ready) g_best_attempt D_best_attempt.kp b_best_attempt
  have G__law_cell : Cal P w K mg base 1 "_law_cell" 2 RN.den__law_cell := cal_of (ok__law_cell T (fun_of D__law_cell)) g__law_cell D__law_cell.kp b__law_cell
  have G__law_row : Cal P w K mg base 2 "_law_row" 2 RN.den__law_row := cal_of (ok__law_row T (fun_of D__law_row) G__law_cell) g__law_row D__law_row.kp b__law_row
  have G__law_gcd : Cal P w K mg base 1 "_law_gcd" 2 RN.den__law_gcd := cal_of (ok__law_gcd T (fun_of D__law_gcd)) g__law_gcd D__law_gcd.kp b__law_gcd
  have G__law_net : Cal P w K mg base 3 "_law_net" 4 RN.den__law_net := cal_of (ok__law_net T (fun_of D__law_net) G__law_row G__law_gcd) g__law_net D__law_net.kp b__law_net
  have G__law_stock : Cal P w K mg base 3 "_law_stock" 4 RN.den__law_stock := cal_of (ok__law_stock T (fun_of D__law_stock) G__law_row) g__law_stock D__law_stock.kp b__law_stock
  have G__law_ready : Cal P w K mg base 1 "_law_ready" 3 RN.den__law_ready := cal_of (ok__law_ready T (fun_of D__law_ready)) g__law_ready D__law_ready.kp b__law_ready
  have G__law_amounts : Cal P w K mg base 1 "_law_amounts" 3 RN.den__law_amounts := cal_of (ok__law_amounts T (fun_of D__law_amounts)) g__law_amounts D__law_amounts.kp b__law_amounts
  have G__law_attempts : Cal P w K mg base 3 "_law_attempts" 4 RN.den__law_attempts := cal_of (ok__law_attempts T (fun_of D__law_attempts) G__law_row G__law_ready G__law_amounts) g__law_attempts D__law_attempts.kp b__law_attempts
  have G__law_follow : Cal P w K mg base 2 "_law_follow" 3 RN.den__law_follow := cal_of (ok__law_follow T (fun_of D__law_follow) G__law_ready G__law_amounts) g__law_follow D__law_follow.kp b__law_follow
  have G__law_every_stock : Cal P w K mg base 1 "_law_every_stock" 2 RN.den__law_every_stock := cal_of (ok__law_every_stock T (fun_of D__law_every_stock)) g__law_every_stock D__law_every_stock.kp b__law_every_stock
  have G__law_hidden : Cal P w K mg base 7 "_law_hidden" 4 RN.den__law_hidden := cal_of (ok__law_hidden T (fun_of D__law_hidden) G_agreeing_stocks G_amount_ranges G_best_attempt) g__law_hidden D__law_hidden.kp b__law_hidden
  exact ok_law T (fun_of D_law) G__law_net G__law_attempts G__law_stock G__law_every_stock G__law_follow G__law_hidden G__law_ready
end K16
open PySem PySem.W PySem.Calls PyProof.Rows
set_option maxRecDepth 100000 in
set_option maxHeartbeats 0 in
theorem PySem.Challenge.cw_ratenets_k16_best_attempts_holds : PySem.Challenge.rw_ratenets_k16_best_attempts.Holds := by
  w_on; o_law
  refine HandSHeadRun.head_any (r := OpenLaw.row PySem.Challenge.rw_ratenets_k16_best_attempts) (q := view (OpenLaw.row PySem.Challenge.rw_ratenets_k16_best_attempts).prog [39]) (H := K16.hk) (ob := K16.ob) (M := 6000) (loose := K16.nms) (d := HandSHeadRun.topDef (OpenLaw.row PySem.Challenge.rw_ratenets_k16_best_attempts).prog 39) (kwd := []) (fun s => RD.obR_eq s)
    (by kernel_rfl) (fun s => by kernel_rfl) K16.run (by kernel_rfl) (by kernel_rfl) (by kernel_rfl) (by rfl) (by first | assumption | decide +kernel) (by decide +kernel) ⟨rfl, rfl, rfl, rfl, rfl, by decide +kernel⟩ ?hw ?hc
  case hw => w_witness2
  case hc =>
    refine RD.walk_ofR (l := PySem.Challenge.rw_ratenets_k16_best_attempts) (n := 63) (k := 8) (x := "script") (den := RN.den_law_k16) rfl (by decide) (by kernel_rfl) ⟨rfl, by decide, by decide⟩ ?F K16.law_true
    intro w mg fa h Y G hmg0
    obtain ⟨K, KX, c, c2⟩ := Y
    have hmg : mg ("law" : PySem.Str) = some (.ref fa) := by
      have e : (HandSHeadRun.topDef (OpenLaw.row PySem.Challenge.rw_ratenets_k16_best_attempts).prog 39).name = ("law" : PySem.Str) := by kernel_rfl
      rw [← e]
      exact hmg0
    obtain ⟨fd, hb, hFn⟩ := K16.facts (P := (PySem.Challenge.rw_ratenets_k16_best_attempts).prog) (w := w) KX G hmg c c2
    exact ⟨K, fd, KX, hb, hFn⟩
