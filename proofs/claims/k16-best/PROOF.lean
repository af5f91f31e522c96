import PyProof.Rows.All
import Wide.All
import OpenK.AllK
import Wide.FinOn
import HandS.ForMost
import HandS.ForExc
import HandS.Walk
import HandS.Zip
import HandS.IsInst
import HandS.Wide
import HandS.Flow
import HandS.TupAny
import HandS.TupMul
import HandS.Deep
import HandS.Dict
import HandS.Iter
import KE.KDictKeyed
import KE.KDictDisplayH
import KE.GoesZip
import KE.GoesMore
import KE.KDictIter
import HandS.ExcIs
import KE.GoesEnum
import HandS.Small
import KE.DataFind
import HandS.Style
import HandS.Conv
import HandS.SetFor
import PyProof.FactsAll.tuple_2
import HandS.TupSets
import KE.KSortTupG
import KE.KeyNested
import KE.SortData
import KE.KDictSum
import HandS.DictComp
import KE.KDictCopyH
import HandS.WordsDict
import HandS.FStr
import HandS.Text
import HandS.StrMore
import HandS.HeadHook1
import HandS.HeadHook2
import HandS.ExcInit
import HandS.ExcField
import HandS.ClsMeth
import KE.KExcIs
import HandS.Call
import KE.KCallOwn
import HandS.OwnEq
import HandS.RaiseMore
import PyProof.InstNe
import KE.KStateDown
import HandS.Defaults
import HandS.Head0
import HandS.Head1
import HandS.Head2
import HandS.HeadEnd
import HandS.EndBits
import PySem.Challenge.RW_ratenets_k16_best_attempts
set_option Elab.async false
set_option linter.all false
set_option maxRecDepth 100000
set_option maxHeartbeats 2000000
section
namespace RD
open PySem L2

abbrev D := PyData
/-- the written part of the heap -/
class HasK where
  K : PySem.W.Frag
  mg : Str → Option Value
  P : Program
  w : World
variable [HasK]
/-- what an expression comes to: data, an exception of the program's own class n (with a field), or nothing told -/
inductive Res (α : Type) where
  | ok (a : α)
  | exc (n : Str) (p : Option (Str × D))
  | stuck
def Res.bind {α β : Type} : Res α → (α → Res β) → Res β
  | .ok a, f => f a
  | .exc n p, _ => .exc n p
  | .stuck, _ => .stuck
def Res.ofO {α : Type} : Option α → Res α
  | some a => .ok a
  | none => .stuck
inductive Sl where
  | no
  | val (d : D)
  | own (d : D)
  /-- a desk of the def's own; a list, a desk that are lent to the def -/
  | dsk (d : D)
  | bor (d : D)
  | bdk (d : D)
abbrev DEnv := List Sl
inductive Out where
  | next (δ : DEnv)
  | ret (d : D)
  | brk (δ : DEnv)
  | cont (δ : DEnv)
  | exc (n : Str) (p : Option (Str × D)) (δ : DEnv)
  | stuck
abbrev DE := DEnv → Res D
abbrev DT := DEnv → Res Bool
abbrev DA := DEnv → Res (List D)
abbrev DS := DEnv → Out

def keyD : Key → D
  | .inl i => .int i
  | .inr x => .str x
def Ex (H H' : Hp) : Prop := ∀ a o, H a = some o → H' a = some o
theorem Ex.refl (H : Hp) : Ex H H := fun _ _ h => h
theorem Ex.trans {H H1 H2 : Hp} (a : Ex H H1) (b : Ex H1 H2) : Ex H H2 := fun x o h => b x o (a x o h)
theorem Ex.back {H H' : Hp} {p : Addr} (e : Ex H H') (h : H' p = none) : H p = none := by
  cases q : H p with
  | none => rfl
  | some o => rw [e p o q] at h; cases h
theorem Ex.put {H : Hp} {p : Addr} {o : HO} (h : H p = none) : Ex H (upd H p o) := fun a u e => by
  rw [upd_ne (ne_of_none e h)]; exact e
theorem Ex.over {H H' : Hp} {p : Addr} {o : HO} (e : Ex H H') (h : H p = none) : Ex H (upd H' p o) := fun a u ha => by
  rw [upd_ne (ne_of_none ha h)]; exact e a u ha
theorem Ex.both {H H' : Hp} {p : Addr} {o : HO} (e : Ex H H') : Ex (upd H p o) (upd H' p o) := fun a u ha => by
  by_cases hp : a = p
  · subst hp; rw [upd_same] at ha ⊢; exact ha
  · rw [upd_ne hp] at ha ⊢; exact e a u ha

theorem rd_ex {H H' : Hp} {a : Addr} {u : HO} (e : Ex H H') (h : Rd H a u) : Rd H' a u := by
  rcases h with h | ⟨o, h⟩
  · exact .inl (e a _ h)
  · exact .inr ⟨o, e a _ h⟩
/-- the law's script (a list that is never changed), told apart from other lists -/
def scrD (ns : List Int) : D := .dict [(.none, .list (ns.map .int))]
/-- a tuple that bears no attributes -/
def Gt (H : Hp) (a : Addr) (xs : List V) : Prop := ∃ o, H a = some (.frz o (.tup xs)) ∧ o.cls = .type "tuple" ∧ o.dict = none
theorem Gt.mono {H H' : Hp} (e : Ex H H') {a : Addr} {xs : List V} (h : Gt H a xs) : Gt H' a xs := let ⟨o, h1, h2⟩ := h; ⟨o, e _ _ h1, h2⟩
/-- a pair out of zip, enumerate: it is taken apart at once -/
def softD (ds : List D) : D := .dict [(.none, .tuple ds)]
mutual
def nkD : D → Option NestedKey
  | .none => some .none
  | .int i => some (.num i)
  | .str x => some (.text x)
  | .tuple ds => (nkDs ds).map .tup
  | .bool _ => none
  | .list _ => none
  | .dict _ => none
def nkDs : List D → Option (List NestedKey)
  | [] => some []
  | d :: ds => (nkD d).bind fun k => (nkDs ds).map (k :: ·)
end
/-- a dict whose keys are tuples: the keys, their own tuples, the values -/
def DTr (P : Program) (w : World) (a : Addr) (xs : List (NestedKey × Addr × V)) (h : Heap) : Prop :=
  xs.length ≤ sizeLine ∧ (a == sysModules) = false ∧ ∃ ys : List (NestedKey × Addr × Value), Paired (fun (p : NestedKey × Addr × V) (q : NestedKey × Addr × Value) => p.1 = q.1 ∧ p.2.1 = q.2.1 ∧ RelV p.2.2 q.2.2) xs ys ∧
    ∃ o es ep, h.get? a = some o ∧ o.ExactDict ∧ o.data = .dict es ep ∧ es.toList = ys.map (entryOfKey (nestedKind P w)) ∧ (ys.map (·.1)).Nodup
def dtO (P : Program) (w : World) (a : Addr) (xs : List (NestedKey × Addr × V)) : HO := .ext (DTr P w a xs)
mutual
inductive Rp (H : Hp) : V → D → Prop
  | non : Rp H .non .none
  | bl (b : Bool) : Rp H (.bl b) (.bool b)
  | int (i : Int) : Rp H (.int i) (.int i)
  | str (x : Str) : Rp H (.str x) (.str x)
  | lst {a : Addr} {xs : List V} {ds : List D} : H a = some (.lst xs) → RpAll H xs ds → Rp H (.ref a) (.list ds)
  | tup {a : Addr} {xs : List V} {ds : List D} : Gt H a xs → RpAll H xs ds → Rp H (.ref a) (.tuple ds)
  | soft {a : Addr} {xs : List V} {ds : List D} : H a = some (.tup xs) → RpAll H xs ds → Rp H (.ref a) (softD ds)
  | scr {a : Addr} {ns : List Int} : SqL HasK.K H a (ns.map V.int) → Rp H (.ref a) (scrD ns)
  | dK {a : Addr} {o : Obj} {kvs : List (Key × V)} {es : List (D × D)} : H a = some (.frz o (.dK kvs)) → RpK H kvs es → Rp H (.ref a) (.dict es)
  | dT {a : Addr} {o : Obj} {xs : List (NestedKey × Addr × V)} {es : List (D × D)} : H a = some (.frz o (dtO HasK.P HasK.w a xs)) → RpT H xs es → Rp H (.ref a) (.dict ((.none, .none) :: es))
inductive RpAll (H : Hp) : List V → List D → Prop
  | nil : RpAll H [] []
  | cons {v : V} {vs : List V} {d : D} {ds : List D} : Rp H v d → RpAll H vs ds → RpAll H (v :: vs) (d :: ds)
inductive RpK (H : Hp) : List (Key × V) → List (D × D) → Prop
  | nil : RpK H [] []
  | cons {k : Key} {v : V} {d : D} {kvs : List (Key × V)} {es : List (D × D)} : Rp H v d → RpK H kvs es → RpK H ((k, v) :: kvs) ((keyD k, d) :: es)
inductive RpT (H : Hp) : List (NestedKey × Addr × V) → List (D × D) → Prop
  | nil : RpT H [] []
  | cons {k : NestedKey} {b : Addr} {v : V} {kd d : D} {xs : List (NestedKey × Addr × V)} {es : List (D × D)} : Rp H (.ref b) kd → nkD kd = some k → k.depth ≤ 8 → Rp H v d → RpT H xs es → RpT H ((k, b, v) :: xs) ((kd, d) :: es)
end
mutual
theorem Rp.mono {H H' : Hp} (e : Ex H H') : ∀ {v : V} {d : D}, Rp H v d → Rp H' v d
  | _, _, .non => .non
  | _, _, .bl b => .bl b
  | _, _, .int i => .int i
  | _, _, .str x => .str x
  | _, _, .lst h r => .lst (e _ _ h) (RpAll.mono e r)
  | _, _, .tup h r => .tup (h.mono e) (RpAll.mono e r)
  | _, _, .soft h r => .soft (e _ _ h) (RpAll.mono e r)
  | _, _, .scr h => .scr (h.imp (rd_ex e) id)
  | _, _, .dK h r => .dK (e _ _ h) (RpK.mono e r)
  | _, _, .dT h r => .dT (e _ _ h) (RpT.mono e r)
theorem RpAll.mono {H H' : Hp} (e : Ex H H') : ∀ {vs : List V} {ds : List D}, RpAll H vs ds → RpAll H' vs ds
  | _, _, .nil => .nil
  | _, _, .cons h r => .cons (Rp.mono e h) (RpAll.mono e r)
theorem RpK.mono {H H' : Hp} (e : Ex H H') : ∀ {vs : List (Key × V)} {ds : List (D × D)}, RpK H vs ds → RpK H' vs ds
  | _, _, .nil => .nil
  | _, _, .cons h r => .cons (Rp.mono e h) (RpK.mono e r)
theorem RpT.mono {H H' : Hp} (e : Ex H H') : ∀ {vs : List (NestedKey × Addr × V)} {ds : List (D × D)}, RpT H vs ds → RpT H' vs ds
  | _, _, .nil => .nil
  | _, _, .cons g q dp h r => .cons (Rp.mono e g) q dp (Rp.mono e h) (RpT.mono e r)
end
theorem RpAll.len {H : Hp} : ∀ {vs : List V} {ds : List D}, RpAll H vs ds → vs.length = ds.length
  | _, _, .nil => rfl
  | _, _, .cons _ r => by rw [List.length_cons, List.length_cons, r.len]
theorem RpAll.app {H : Hp} : ∀ {vs ws : List V} {ds es : List D}, RpAll H vs ds → RpAll H ws es → RpAll H (vs ++ ws) (ds ++ es)
  | _, _, _, _, .nil, s => s
  | _, _, _, _, .cons h r, s => .cons h (r.app s)
theorem RpAll.get {H : Hp} : ∀ {vs : List V} {ds : List D}, RpAll H vs ds → ∀ (i : Nat), (vs[i]? = none ∧ ds[i]? = none) ∨ ∃ v d, vs[i]? = some v ∧ ds[i]? = some d ∧ Rp H v d
  | _, _, .nil, i => by simp
  | _, _, .cons h r, 0 => .inr ⟨_, _, rfl, rfl, h⟩
  | _, _, .cons h r, i + 1 => by simpa using r.get i
theorem RpAll.getD {H : Hp} {vs : List V} {ds : List D} (r : RpAll H vs ds) {i : Nat} {d : D} (h : ds[i]? = some d) : ∃ v, vs[i]? = some v ∧ Rp H v d := by
  rcases r.get i with ⟨_, b⟩ | ⟨v, d', a, b, c⟩
  · rw [h] at b; cases b
  · rw [h] at b; cases b; exact ⟨v, a, c⟩
theorem RpAll.getV {H : Hp} {vs : List V} {ds : List D} (r : RpAll H vs ds) {i : Nat} {v : V} (h : vs[i]? = some v) : ∃ d, ds[i]? = some d ∧ Rp H v d := by
  rcases r.get i with ⟨a, _⟩ | ⟨v', d', a, b, c⟩
  · rw [h] at a; cases a
  · rw [h] at a; cases a; exact ⟨d', b, c⟩
theorem RpAll.take {H : Hp} : ∀ {vs : List V} {ds : List D} (n : Nat), RpAll H vs ds → RpAll H (vs.take n) (ds.take n)
  | _, _, 0, _ => .nil
  | _, _, _ + 1, .nil => .nil
  | _, _, n + 1, .cons h r => .cons h (r.take n)
theorem RpAll.drop {H : Hp} : ∀ {vs : List V} {ds : List D} (n : Nat), RpAll H vs ds → RpAll H (vs.drop n) (ds.drop n)
  | _, _, 0, r => r
  | _, _, _ + 1, .nil => .nil
  | _, _, n + 1, .cons _ r => r.drop n
theorem RpAll.set {H : Hp} {v : V} {d : D} (h : Rp H v d) : ∀ {vs : List V} {ds : List D} (n : Nat), RpAll H vs ds → RpAll H (vs.set n v) (ds.set n d)
  | _, _, _, .nil => .nil
  | _, _, 0, .cons _ r => .cons h r
  | _, _, n + 1, .cons q r => .cons q (r.set h n)
theorem RpAll.erase {H : Hp} : ∀ {vs : List V} {ds : List D} (n : Nat), RpAll H vs ds → RpAll H (vs.eraseIdx n) (ds.eraseIdx n)
  | _, _, _, .nil => .nil
  | _, _, 0, .cons _ r => r
  | _, _, n + 1, .cons q r => .cons q (r.erase n)
theorem RpAll.dropLast {H : Hp} {vs : List V} {ds : List D} (r : RpAll H vs ds) : RpAll H vs.dropLast ds.dropLast := by
  rw [List.dropLast_eq_take, List.dropLast_eq_take, r.len]; exact r.take _
theorem RpAll.rep {H : Hp} {vs : List V} {ds : List D} (r : RpAll H vs ds) : ∀ k : Nat, RpAll H (List.replicate k vs).flatten (List.replicate k ds).flatten
  | 0 => .nil
  | k + 1 => by
    rw [List.replicate_succ, List.replicate_succ, List.flatten_cons, List.flatten_cons]
    exact r.app (r.rep k)
theorem RpAll.ints {H : Hp} : ∀ ns : List Int, RpAll H (ns.map V.int) (ns.map PyData.int)
  | [] => .nil
  | n :: ns => .cons (.int n) (RpAll.ints ns)

/-! ### heaps: F what stands for ever, H all -/
structure Step (F H F' H' : Hp) : Prop where
  ff : Ex F F'
  fh : Ex F' H'
  hh : Ex H H'
  new : ∀ a, F a = none → F' a ≠ none → H a = none
theorem Step.refl {F H : Hp} (e : Ex F H) : Step F H F H := ⟨.refl _, e, .refl _, fun a h n => absurd h n⟩
theorem Step.trans {F H F1 H1 F2 H2 : Hp} (a : Step F H F1 H1) (b : Step F1 H1 F2 H2) : Step F H F2 H2 :=
  ⟨a.ff.trans b.ff, b.fh, a.hh.trans b.hh, fun p h n => by
    by_cases q : F1 p = none
    · exact a.hh.back (b.new p q n)
    · exact a.new p h q⟩
/-- a new object, frozen at once -/
theorem Step.put {F H : Hp} (e : Ex F H) {p : Addr} (o : HO) (h : H p = none) : Step F H (upd F p o) (upd H p o) :=
  ⟨.put (e.back h), e.both, .put h, fun a ha hn => by
    by_cases q : a = p
    · rw [q]; exact h
    · rw [upd_ne q] at hn; exact absurd ha hn⟩
/-- a new object, not frozen -/
theorem Step.side {F H : Hp} (e : Ex F H) {p : Addr} (o : HO) (h : H p = none) : Step F H F (upd H p o) :=
  ⟨.refl _, e.over (e.back h), .put h, fun a ha hn => absurd ha hn⟩

def OwnA (F H : Hp) (a : Addr) : D → Prop
  | .list ds => ∃ xs, H a = some (.lst xs) ∧ RpAll F xs ds
  | .dict es => (∃ kvs, H a = some (.dK kvs) ∧ RpK F kvs es) ∨ ∃ xs es', H a = some (dtO HasK.P HasK.w a xs) ∧ RpT F xs es' ∧ es = (.none, .none) :: es'
  | _ => False
theorem OwnA.mono {F H F' H' : Hp} {a : Addr} {d : D} (ef : Ex F F') (eh : Ex H H') (h : OwnA F H a d) : OwnA F' H' a d := by
  cases d with
  | list ds => obtain ⟨xs, h1, h2⟩ := h; exact ⟨xs, eh _ _ h1, h2.mono ef⟩
  | dict es =>
    rcases h with ⟨kvs, h1, h2⟩ | ⟨xs, ds, h1, h2, h3⟩
    · exact .inl ⟨kvs, eh _ _ h1, h2.mono ef⟩
    · exact .inr ⟨xs, ds, eh _ _ h1, h2.mono ef, h3⟩
  | _ => exact h.elim
/-- another object changes -/
theorem OwnA.other {F H : Hp} {a p : Addr} {o : HO} {d : D} (ne : a ≠ p) (h : OwnA F H a d) : OwnA F (upd H p o) a d := by
  cases d with
  | list ds => obtain ⟨xs, h1, h2⟩ := h; exact ⟨xs, by rw [upd_ne ne]; exact h1, h2⟩
  | dict es =>
    rcases h with ⟨kvs, h1, h2⟩ | ⟨xs, ds, h1, h2, h3⟩
    · exact .inl ⟨kvs, by rw [upd_ne ne]; exact h1, h2⟩
    · exact .inr ⟨xs, ds, by rw [upd_ne ne]; exact h1, h2, h3⟩
  | _ => exact h.elim
/-- read: frozen, or one's own -/
def Bw (F H : Hp) (v : V) (d : D) : Prop := Rp F v d ∨ ∃ a, v = .ref a ∧ OwnA F H a d
theorem Rp.bw {F H : Hp} {v : V} {d : D} (h : Rp F v d) : Bw F H v d := .inl h
theorem Bw.mono {F H F' H' : Hp} {v : V} {d : D} (ef : Ex F F') (eh : Ex H H') (h : Bw F H v d) : Bw F' H' v d := by
  rcases h with h | ⟨a, h1, h2⟩
  · exact .inl (h.mono ef)
  · exact .inr ⟨a, h1, h2.mono ef eh⟩
theorem Bw.lst {F H : Hp} {v : V} {ds : List D} (e : Ex F H) (h : Bw F H v (.list ds)) : ∃ a xs, v = .ref a ∧ H a = some (.lst xs) ∧ RpAll F xs ds := by
  rcases h with h | ⟨a, h1, xs, h2, h3⟩
  · cases h with
    | lst h r => exact ⟨_, _, rfl, e _ _ h, r⟩
  · exact ⟨a, xs, h1, h2, h3⟩
theorem Bw.tup {F H : Hp} {v : V} {ds : List D} (e : Ex F H) (h : Bw F H v (.tuple ds)) : ∃ a xs, v = .ref a ∧ Gt H a xs ∧ RpAll F xs ds := by
  rcases h with h | ⟨a, h1, h2⟩
  · cases h with
    | tup h r => exact ⟨_, _, rfl, h.mono e, r⟩
  · exact h2.elim
theorem Bw.int {F H : Hp} {v : V} {i : Int} (h : Bw F H v (.int i)) : v = .int i := by
  rcases h with h | ⟨a, h1, h2⟩
  · cases h; rfl
  · exact h2.elim
theorem Bw.bl {F H : Hp} {v : V} {i : Bool} (h : Bw F H v (.bool i)) : v = .bl i := by
  rcases h with h | ⟨a, h1, h2⟩
  · cases h; rfl
  · exact h2.elim
theorem Bw.str {F H : Hp} {v : V} {i : Str} (h : Bw F H v (.str i)) : v = .str i := by
  rcases h with h | ⟨a, h1, h2⟩
  · cases h; rfl
  · exact h2.elim
theorem Bw.non {F H : Hp} {v : V} (h : Bw F H v .none) : v = .non := by
  rcases h with h | ⟨a, h1, h2⟩
  · cases h; rfl
  · exact h2.elim
theorem Bw.rpT {F H : Hp} {v : V} {ds : List D} (h : Bw F H v (.tuple ds)) : Rp F v (.tuple ds) := by
  rcases h with h | ⟨a, h1, h2⟩
  · exact h
  · exact h2.elim
inductive BwAll (F H : Hp) : List V → List D → Prop
  | nil : BwAll F H [] []
  | cons {v : V} {vs : List V} {d : D} {ds : List D} : Bw F H v d → BwAll F H vs ds → BwAll F H (v :: vs) (d :: ds)
theorem BwAll.mono {F H F' H' : Hp} (ef : Ex F F') (eh : Ex H H') : ∀ {vs : List V} {ds : List D}, BwAll F H vs ds → BwAll F' H' vs ds
  | _, _, .nil => .nil
  | _, _, .cons h r => .cons (h.mono ef eh) (r.mono ef eh)

/-! ### desks -/
def deskD (net stock : D) (steps : List D) (k : Int) : D := .tuple [net, stock, .list steps, .int k]
def dF (vn vs : V) (b : Addr) (k : Int) : List (Str × V) := [("net", vn), ("stock", vs), ("steps", .ref b), ("kept", .int k)]
def dskC [HasK] : Addr := match HasK.mg "Desk" with
  | some (.ref a) => a
  | _ => 0
def DeskA (F H : Hp) (a : Addr) (d : D) : Prop := ∃ net stock steps k dx b vn vs xs, d = deskD net stock steps k ∧ H a = some (.ins dskC dx (dF vn vs b k)) ∧ H dx = some (.own a) ∧ Rp F vn net ∧ Rp F vs stock ∧ H b = some (.lst xs) ∧ RpAll F xs steps
/-- the objects of the desk at a -/
def Fd (H : Hp) (a x : Addr) : Prop := x = a ∨ ∃ C dx vn vs b k, H a = some (.ins C dx (dF vn vs b k)) ∧ (x = dx ∨ x = b)
theorem Fd.of {H H' : Hp} {a x : Addr} (e : H' a = H a) (h : Fd H' a x) : Fd H a x := by
  rcases h with h | ⟨C, dx, vn, vs, b, k, h1, h2⟩
  · exact .inl h
  · exact .inr ⟨C, dx, vn, vs, b, k, by rw [← e]; exact h1, h2⟩
theorem DeskA.at {F H : Hp} {a : Addr} {d : D} (h : DeskA F H a d) : ∃ o, H a = some o := by
  obtain ⟨_, _, _, _, _, _, _, _, _, _, h1, _⟩ := h
  exact ⟨_, h1⟩
theorem DeskA.there {F H : Hp} {a x : Addr} {d : D} (h : DeskA F H a d) (hx : Fd H a x) : H x ≠ none := by
  obtain ⟨net, stock, steps, k, dx, b, vn, vs, xs, rfl, h1, h2, h3, h4, h5, h6⟩ := h
  rcases hx with rfl | ⟨C, dx', vn', vs', b', k', g1, g2⟩
  · rw [h1]; exact fun z => nomatch z
  · rw [h1] at g1
    have g3 : (HO.ins dskC dx (dF vn vs b k)) = .ins C dx' (dF vn' vs' b' k') := Option.some.inj g1
    unfold dF at g3
    injection g3 with _ e2 e3
    injection e3 with _ e3
    injection e3 with _ e3
    injection e3 with e4 e3
    injection e4 with _ e4
    injection e4 with e4
    rcases g2 with rfl | rfl
    · rw [← e2, h2]; exact fun z => nomatch z
    · rw [← e4, h5]; exact fun z => nomatch z
theorem DeskA.mono {F H F' H' : Hp} {a : Addr} {d : D} (ef : Ex F F') (eh : Ex H H') (h : DeskA F H a d) : DeskA F' H' a d := by
  obtain ⟨net, stock, steps, k, dx, b, vn, vs, xs, e, h1, h2, h3, h4, h5, h6⟩ := h
  exact ⟨net, stock, steps, k, dx, b, vn, vs, xs, e, eh _ _ h1, eh _ _ h2, h3.mono ef, h4.mono ef, eh _ _ h5, h6.mono ef⟩
theorem DeskA.other {F H : Hp} {a p : Addr} {o : HO} {d : D} (ne : ¬ Fd H a p) (h : DeskA F H a d) : DeskA F (upd H p o) a d := by
  obtain ⟨net, stock, steps, k, dx, b, vn, vs, xs, e, h1, h2, h3, h4, h5, h6⟩ := h
  refine ⟨net, stock, steps, k, dx, b, vn, vs, xs, e, ?_, ?_, h3, h4, ?_, h6⟩
  · rw [upd_ne fun z => ne (.inl z.symm)]; exact h1
  · rw [upd_ne fun z => ne (.inr ⟨_, _, _, _, _, _, h1, .inl z.symm⟩)]; exact h2
  · rw [upd_ne fun z => ne (.inr ⟨_, _, _, _, _, _, h1, .inr z.symm⟩)]; exact h5
/-- what a def's slots say of desks -/
structure Dk (F0 H0 F H : Hp) (σ : St) (δ : DEnv) : Prop where
  dsk : ∀ (i : Nat) d, δ[i]? = some (.dsk d) → ∃ a, σ[i]? = some (some (.ref a)) ∧ DeskA F H a d ∧ ∀ x, Fd H a x → H0 x = none ∧ F x = none
  dap : ∀ (i j : Nat) a b x d e, δ[i]? = some (.dsk d) → δ[j]? = some (.dsk e) → σ[i]? = some (some (.ref a)) → σ[j]? = some (some (.ref b)) → Fd H a x → Fd H b x → i = j
  dow : ∀ (i j : Nat) a b d e, δ[i]? = some (.dsk d) → δ[j]? = some (.own e) → σ[i]? = some (some (.ref a)) → σ[j]? = some (some (.ref b)) → ¬ Fd H a b
  bor : ∀ (i : Nat) d, δ[i]? = some (.bor d) → ∃ a, σ[i]? = some (some (.ref a)) ∧ OwnA F0 H0 a d
  bdk : ∀ (i : Nat) d, δ[i]? = some (.bdk d) → ∃ a, σ[i]? = some (some (.ref a)) ∧ DeskA F0 H0 a d
theorem set_get {α : Type} {l : List α} {i j : Nat} {x y : α} (h : (l.set i x)[j]? = some y) : (j = i ∧ y = x ∧ i < l.length) ∨ (j ≠ i ∧ l[j]? = some y) := by
  by_cases e : j = i
  · subst e
    rw [List.getElem?_set_self'] at h
    cases q : l[j]? with
    | none => rw [q] at h; cases h
    | some z =>
      rw [q] at h
      exact .inl ⟨rfl, (Option.some.inj h).symm, (List.getElem?_eq_some_iff.mp q).1⟩
  · rw [List.getElem?_set_ne (fun z => e z.symm)] at h
    exact .inr ⟨e, h⟩
theorem set_at {α : Type} {l : List α} {i : Nat} {x : α} (h : i < l.length) : (l.set i x)[i]? = some x := by
  rw [List.getElem?_set_self h]
theorem set_off {α : Type} {l : List α} {i j : Nat} {x : α} (h : j ≠ i) : (l.set i x)[j]? = l[j]? := List.getElem?_set_ne (fun z => h z.symm)
def Pln : Sl → Prop
  | .no => True
  | .val _ => True
  | _ => False
section
variable {F0 H0 F H F' H' : Hp} {σ : St} {δ : DEnv}
theorem Dk.step (K : Dk F0 H0 F H σ δ) (ef : Ex F F') (eh : Ex H H') (nw : ∀ a, F a = none → F' a ≠ none → H a = none) : Dk F0 H0 F' H' σ δ where
  dsk := fun i d h => by
    obtain ⟨a, h1, h2, h3⟩ := K.dsk i d h
    obtain ⟨o, ho⟩ := h2.at
    have e : H' a = H a := by rw [ho]; exact eh _ _ ho
    refine ⟨a, h1, h2.mono ef eh, fun x hx => ?_⟩
    have hx := hx.of e
    refine ⟨(h3 x hx).1, ?_⟩
    cases q : F' x with
    | none => rfl
    | some o => exact absurd (nw x (h3 x hx).2 (by rw [q]; exact fun z => nomatch z)) (h2.there hx)
  dap := fun i j a b x d e h1 h2 h3 h4 h5 h6 => by
    obtain ⟨a', g1, g2, _⟩ := K.dsk i d h1
    obtain ⟨b', k1, k2, _⟩ := K.dsk j e h2
    rw [h3] at g1; cases g1
    rw [h4] at k1; cases k1
    obtain ⟨o, ho⟩ := g2.at
    obtain ⟨u, hu⟩ := k2.at
    exact K.dap i j a b x d e h1 h2 h3 h4 (h5.of (by rw [ho]; exact eh _ _ ho)) (h6.of (by rw [hu]; exact eh _ _ hu))
  dow := fun i j a b d e h1 h2 h3 h4 h5 => by
    obtain ⟨a', g1, g2, _⟩ := K.dsk i d h1
    rw [h3] at g1; cases g1
    obtain ⟨o, ho⟩ := g2.at
    exact K.dow i j a b d e h1 h2 h3 h4 (h5.of (by rw [ho]; exact eh _ _ ho))
  bor := K.bor
  bdk := K.bdk
/-- a slot gets something plain -/
theorem Dk.setP (K : Dk F0 H0 F H σ δ) (i : Nat) (o : Option V) {s : Sl} (hs : Pln s) : Dk F0 H0 F H (σ.set i o) (δ.set i s) where
  dsk := fun j d h => by
    rcases set_get h with ⟨rfl, q, hl⟩ | ⟨ne, h⟩
    · subst q; exact hs.elim
    · rw [set_off ne]; exact K.dsk j d h
  dap := fun j k a b x d e h1 h2 h3 h4 => by
    rcases set_get h1 with ⟨rfl, q, hl⟩ | ⟨n1, h1⟩
    · subst q; exact hs.elim
    · rcases set_get h2 with ⟨rfl, q, hl⟩ | ⟨n2, h2⟩
      · subst q; exact hs.elim
      · rw [set_off n1] at h3; rw [set_off n2] at h4
        exact K.dap j k a b x d e h1 h2 h3 h4
  dow := fun j k a b d e h1 h2 h3 h4 => by
    rcases set_get h1 with ⟨rfl, q, hl⟩ | ⟨n1, h1⟩
    · subst q; exact hs.elim
    · rcases set_get h2 with ⟨rfl, q, hl⟩ | ⟨n2, h2⟩
      · subst q; exact hs.elim
      · rw [set_off n1] at h3; rw [set_off n2] at h4
        exact K.dow j k a b d e h1 h2 h3 h4
  bor := fun j d h => by
    rcases set_get h with ⟨rfl, q, hl⟩ | ⟨ne, h⟩
    · subst q; exact hs.elim
    · rw [set_off ne]; exact K.bor j d h
  bdk := fun j d h => by
    rcases set_get h with ⟨rfl, q, hl⟩ | ⟨ne, h⟩
    · subst q; exact hs.elim
    · rw [set_off ne]; exact K.bdk j d h
/-- a slot gets an object of the def's own -/
theorem Dk.setO (K : Dk F0 H0 F H σ δ) (i : Nat) {a : Addr} {d0 : D} (hl : σ.length = δ.length) (ap : ∀ (j : Nat) e b, δ[j]? = some (.dsk e) → σ[j]? = some (some (.ref b)) → ¬ Fd H b a) : Dk F0 H0 F H (σ.set i (some (.ref a))) (δ.set i (.own d0)) where
  dsk := fun j d h => by
    rcases set_get h with ⟨rfl, q, hl⟩ | ⟨ne, h⟩
    · cases q
    · rw [set_off ne]; exact K.dsk j d h
  dap := fun j k a b x d e h1 h2 h3 h4 => by
    rcases set_get h1 with ⟨rfl, q, hl⟩ | ⟨n1, h1⟩
    · cases q
    · rcases set_get h2 with ⟨rfl, q, hl⟩ | ⟨n2, h2⟩
      · cases q
      · rw [set_off n1] at h3; rw [set_off n2] at h4
        exact K.dap j k a b x d e h1 h2 h3 h4
  dow := fun j k a' b d e h1 h2 h3 h4 => by
    rcases set_get h1 with ⟨rfl, q, hl⟩ | ⟨n1, h1⟩
    · cases q
    · rw [set_off n1] at h3
      rcases set_get h2 with ⟨rfl, q, hl2⟩ | ⟨n2, h2⟩
      · rw [set_at (by rw [hl]; exact hl2)] at h4
        cases h4
        exact ap j d a' (by first | exact h1 | (rw [set_off n1] at h1; exact h1)) h3
      · rw [set_off n2] at h4
        exact K.dow j k a' b d e h1 h2 h3 h4
  bor := fun j d h => by
    rcases set_get h with ⟨rfl, q, hl⟩ | ⟨ne, h⟩
    · cases q
    · rw [set_off ne]; exact K.bor j d h
  bdk := fun j d h => by
    rcases set_get h with ⟨rfl, q, hl⟩ | ⟨ne, h⟩
    · cases q
    · rw [set_off ne]; exact K.bdk j d h
/-- an object that is no desk's changes -/
theorem Dk.poke (K : Dk F0 H0 F H σ δ) {p : Addr} {o : HO} (ef : Ex F F') (hn : ∀ (j : Nat) e b, δ[j]? = some (.dsk e) → σ[j]? = some (some (.ref b)) → ¬ Fd H b p ∧ ∀ x, Fd H b x → F x = none → F' x = none) : Dk F0 H0 F' (upd H p o) σ δ where
  dsk := fun i d h => by
    obtain ⟨a, h1, h2, h3⟩ := K.dsk i d h
    obtain ⟨k1, k2⟩ := hn i d a h h1
    have e : upd H p o a = H a := upd_ne fun z => k1 (.inl z.symm)
    exact ⟨a, h1, (h2.other k1).mono ef (.refl _), fun x hx => ⟨(h3 x (hx.of e)).1, k2 x (hx.of e) (h3 x (hx.of e)).2⟩⟩
  dap := fun i j a b x d e h1 h2 h3 h4 h5 h6 => by
    have e1 : upd H p o a = H a := upd_ne fun z => (hn i d a h1 h3).1 (.inl z.symm)
    have e2 : upd H p o b = H b := upd_ne fun z => (hn j e b h2 h4).1 (.inl z.symm)
    exact K.dap i j a b x d e h1 h2 h3 h4 (h5.of e1) (h6.of e2)
  dow := fun i j a b d e h1 h2 h3 h4 h5 => by
    have e1 : upd H p o a = H a := upd_ne fun z => (hn i d a h1 h3).1 (.inl z.symm)
    exact K.dow i j a b d e h1 h2 h3 h4 (h5.of e1)
  bor := K.bor
  bdk := K.bdk
/-- an own slot's data changes, or it is one's own no more -/
theorem Dk.same (K : Dk F0 H0 F H σ δ) (i : Nat) {d d' : D} {s : Sl} (hi : δ[i]? = some (.own d)) (hs : s = .own d' ∨ s = .val d') : Dk F0 H0 F H σ (δ.set i s) where
  dsk := fun j d h => by
    rcases set_get h with ⟨rfl, q, hl⟩ | ⟨ne, h⟩
    · subst q; rcases hs with hs | hs <;> cases hs
    · exact K.dsk j d h
  dap := fun j k a b x d e h1 h2 h3 h4 => by
    rcases set_get h1 with ⟨rfl, q, hl⟩ | ⟨n1, h1⟩
    · subst q; rcases hs with hs | hs <;> cases hs
    · rcases set_get h2 with ⟨rfl, q, hl⟩ | ⟨n2, h2⟩
      · subst q; rcases hs with hs | hs <;> cases hs
      · exact K.dap j k a b x d e h1 h2 h3 h4
  dow := fun j k a b d e h1 h2 h3 h4 => by
    rcases set_get h1 with ⟨rfl, q, hl⟩ | ⟨n1, h1⟩
    · subst q; rcases hs with hs | hs <;> cases hs
    · rcases set_get h2 with ⟨rfl, q, hl⟩ | ⟨n2, h2⟩
      · exact K.dow j k a b d _ (by first | exact h1 | (rw [set_off n1] at h1; exact h1)) hi h3 h4
      · exact K.dow j k a b d e h1 h2 h3 h4
  bor := fun j d h => by
    rcases set_get h with ⟨rfl, q, hl⟩ | ⟨ne, h⟩
    · subst q; rcases hs with hs | hs <;> cases hs
    · exact K.bor j d h
  bdk := fun j d h => by
    rcases set_get h with ⟨rfl, q, hl⟩ | ⟨ne, h⟩
    · subst q; rcases hs with hs | hs <;> cases hs
    · exact K.bdk j d h
end

/-! ### the state of a def's run; F0, H0: as it was entered -/
structure Sr (F0 H0 F H : Hp) (σ : St) (δ : DEnv) : Prop where
  st : Step F0 H0 F H
  len : σ.length = δ.length
  val : ∀ (i : Nat) d, δ[i]? = some (.val d) → ∃ v, σ[i]? = some (some v) ∧ Rp F v d
  own : ∀ (i : Nat) d, δ[i]? = some (.own d) → ∃ a, σ[i]? = some (some (.ref a)) ∧ H0 a = none ∧ F a = none ∧ OwnA F H a d
  apart : ∀ (i j : Nat) a d e, δ[i]? = some (.own d) → δ[j]? = some (.own e) → σ[i]? = some (some (.ref a)) → σ[j]? = some (some (.ref a)) → i = j
  dk : Dk F0 H0 F H σ δ
theorem OwnA.there {F H : Hp} {a : Addr} {d : D} (h : OwnA F H a d) : H a ≠ none := by
  cases d with
  | list ds => obtain ⟨xs, h1, _⟩ := h; rw [h1]; exact fun z => nomatch z
  | dict es =>
    rcases h with ⟨kvs, h1, h2⟩ | ⟨kvs, ds, h1, h2, h3⟩
    · rw [h1]; exact fun z => nomatch z
    · rw [h1]; exact fun z => nomatch z
  | _ => exact h.elim
theorem OwnA.mut {F H : Hp} {a : Addr} {d : D} (h : OwnA F H a d) : ∃ u, H a = some u ∧ Mut (some u) ∧ ∀ od, (∃ es, d = .dict es) → Rp (upd F a (.frz od u)) (.ref a) d ∨ F a ≠ none := by
  cases d with
  | list ds => obtain ⟨xs, h1, _⟩ := h; exact ⟨_, h1, trivial, fun od ⟨es, q⟩ => nomatch q⟩
  | dict es =>
    rcases h with ⟨kvs, h1, h2⟩ | ⟨xs, ds, h1, h2, h3⟩
    · refine ⟨_, h1, trivial, fun od _ => ?_⟩
      cases q : F a with
      | none => exact .inl (.dK upd_same (h2.mono (.put q)))
      | some z => exact .inr (fun z => nomatch z)
    · refine ⟨_, h1, trivial, fun od _ => ?_⟩
      subst h3
      cases q : F a with
      | none => exact .inl (.dT upd_same (h2.mono (.put q)))
      | some z => exact .inr (fun z => nomatch z)
  | _ => exact h.elim
theorem Sr.step {F0 H0 F H F' H' : Hp} {σ : St} {δ : DEnv} (S : Sr F0 H0 F H σ δ) (t : Step F H F' H') : Sr F0 H0 F' H' σ δ where
  st := S.st.trans t
  len := S.len
  val := fun i d h => by
    obtain ⟨v, h1, h2⟩ := S.val i d h
    exact ⟨v, h1, h2.mono t.ff⟩
  own := fun i d h => by
    obtain ⟨a, h1, h2, h3, h4⟩ := S.own i d h
    refine ⟨a, h1, h2, ?_, h4.mono t.ff t.hh⟩
    cases q : F' a with
    | none => rfl
    | some o => exact absurd (t.new a h3 (by rw [q]; exact fun z => nomatch z)) h4.there
  apart := S.apart
  dk := S.dk.step t.ff t.hh t.new
theorem Sr.fh {F0 H0 F H : Hp} {σ : St} {δ : DEnv} (S : Sr F0 H0 F H σ δ) : Ex F H := S.st.fh
/-- a slot gets a value -/
theorem Sr.set {F0 H0 F H : Hp} {σ : St} {δ : DEnv} (S : Sr F0 H0 F H σ δ) {v : V} {d : D} (r : Rp F v d) (i : Nat) : Sr F0 H0 F H (σ.set i (some v)) (δ.set i (.val d)) where
  st := S.st
  len := by rw [List.length_set, List.length_set]; exact S.len
  val := fun j e h => by
    rcases set_get h with ⟨rfl, q, hl⟩ | ⟨ne, h⟩
    · cases q; exact ⟨v, set_at (by rw [S.len]; exact hl), r⟩
    · rw [set_off ne]; exact S.val j e h
  own := fun j e h => by
    rcases set_get h with ⟨rfl, q, hl⟩ | ⟨ne, h⟩
    · cases q
    · rw [set_off ne]; exact S.own j e h
  apart := fun j k a e f h1 h2 h3 h4 => by
    rcases set_get h1 with ⟨rfl, q, hl⟩ | ⟨n1, h1⟩
    · cases q
    · rcases set_get h2 with ⟨rfl, q, hl⟩ | ⟨n2, h2⟩
      · cases q
      · rw [set_off n1] at h3; rw [set_off n2] at h4
        exact S.apart j k a e f h1 h2 h3 h4
  dk := S.dk.setP i _ trivial
/-- a slot is forgotten -/
theorem Sr.drop {F0 H0 F H : Hp} {σ : St} {δ : DEnv} (S : Sr F0 H0 F H σ δ) (i : Nat) (o : Option V) : Sr F0 H0 F H (σ.set i o) (δ.set i .no) where
  st := S.st
  len := by rw [List.length_set, List.length_set]; exact S.len
  val := fun j e h => by
    rcases set_get h with ⟨rfl, q, hl⟩ | ⟨ne, h⟩
    · cases q
    · rw [set_off ne]; exact S.val j e h
  own := fun j e h => by
    rcases set_get h with ⟨rfl, q, hl⟩ | ⟨ne, h⟩
    · cases q
    · rw [set_off ne]; exact S.own j e h
  apart := fun j k a e f h1 h2 h3 h4 => by
    rcases set_get h1 with ⟨rfl, q, hl⟩ | ⟨n1, h1⟩
    · cases q
    · rcases set_get h2 with ⟨rfl, q, hl⟩ | ⟨n2, h2⟩
      · cases q
      · rw [set_off n1] at h3; rw [set_off n2] at h4
        exact S.apart j k a e f h1 h2 h3 h4
  dk := S.dk.setP i _ trivial
/-- a slot gets an object of the def's own, which no other slot holds -/
theorem Sr.setOwn {F0 H0 F H : Hp} {σ : St} {δ : DEnv} (S : Sr F0 H0 F H σ δ) {a : Addr} {d : D} (h0 : H0 a = none) (hF : F a = none) (ho : OwnA F H a d)
    (ap : ∀ (j : Nat) e, δ[j]? = some (.own e) → σ[j]? ≠ some (some (.ref a))) (apd : ∀ (j : Nat) e b, δ[j]? = some (.dsk e) → σ[j]? = some (some (.ref b)) → ¬ Fd H b a) (i : Nat) : Sr F0 H0 F H (σ.set i (some (.ref a))) (δ.set i (.own d)) where
  st := S.st
  len := by rw [List.length_set, List.length_set]; exact S.len
  val := fun j e h => by
    rcases set_get h with ⟨rfl, q, hl⟩ | ⟨ne, h⟩
    · cases q
    · rw [set_off ne]; exact S.val j e h
  own := fun j e h => by
    rcases set_get h with ⟨rfl, q, hl⟩ | ⟨ne, h⟩
    · cases q; exact ⟨a, set_at (by rw [S.len]; exact hl), h0, hF, ho⟩
    · rw [set_off ne]; exact S.own j e h
  apart := fun j k b e f h1 h2 h3 h4 => by
    rcases set_get h1 with ⟨rfl, q, hl⟩ | ⟨n1, h1⟩
    · rcases set_get h2 with ⟨rfl, q2, hl2⟩ | ⟨n2, h2⟩
      · rfl
      · rw [set_at (by rw [S.len]; exact hl)] at h3
        cases h3
        rw [set_off n2] at h4
        exact absurd h4 (ap k f h2)
    · rcases set_get h2 with ⟨rfl, q, hl⟩ | ⟨n2, h2⟩
      · rw [set_at (by rw [S.len]; exact hl)] at h4
        cases h4
        rw [set_off n1] at h3
        exact absurd h3 (ap j e (by rw [set_off n1] at h1; exact h1))
      · rw [set_off n1] at h3; rw [set_off n2] at h4
        exact S.apart j k b e f h1 h2 h3 h4
  dk := S.dk.setO i S.len apd
/-- the object in a slot changes -/
theorem Sr.write {F0 H0 F H : Hp} {σ : St} {δ : DEnv} (S : Sr F0 H0 F H σ δ) {i : Nat} {a : Addr} {d d' : D} {o : HO} (hd : δ[i]? = some (.own d)) (hs : σ[i]? = some (some (.ref a)))
    (hn : OwnA F (upd H a o) a d') : Sr F0 H0 F (upd H a o) σ (δ.set i (.own d')) := by
  obtain ⟨a', e1, h0, hF, ho⟩ := S.own i d hd
  rw [hs] at e1
  cases e1
  refine ⟨⟨S.st.ff, S.st.fh.over hF, S.st.hh.over h0, S.st.new⟩, by rw [List.length_set]; exact S.len, fun j e h => ?_, fun j e h => ?_, fun j k b e f h1 h2 h3 h4 => ?_, (S.dk.poke (.refl _) fun j e b h1 h2 => ⟨S.dk.dow j i b a e d h1 hd h2 hs, fun _ _ z => z⟩).same i hd (.inl rfl)⟩
  · rcases set_get h with ⟨rfl, q, hl⟩ | ⟨ne, h⟩
    · cases q
    · exact S.val j e h
  · rcases set_get h with ⟨rfl, q, hl⟩ | ⟨ne, h⟩
    · cases q; exact ⟨a, hs, h0, hF, hn⟩
    · obtain ⟨b, q1, q2, q3, q4⟩ := S.own j e h
      refine ⟨b, q1, q2, q3, q4.other fun z => ?_⟩
      subst z
      exact ne (S.apart j i b e d h hd q1 hs)
  · rcases set_get h1 with ⟨rfl, q, hl⟩ | ⟨n1, h1⟩
    · rcases set_get h2 with ⟨rfl, q2, hl2⟩ | ⟨n2, h2⟩
      · rfl
      · exact S.apart j k b d f hd h2 h3 h4
    · rcases set_get h2 with ⟨rfl, q2, hl2⟩ | ⟨n2, h2⟩
      · exact S.apart j k b e d (by rw [set_off n1] at h1; exact h1) hd h3 h4
      · exact S.apart j k b e f h1 h2 h3 h4
/-- a list in a slot is frozen -/
theorem Sr.freezeL {F0 H0 F H : Hp} {σ : St} {δ : DEnv} (S : Sr F0 H0 F H σ δ) {i : Nat} {ds : List D} (hd : δ[i]? = some (.own (.list ds))) :
    ∃ a F', σ[i]? = some (some (.ref a)) ∧ Rp F' (.ref a) (.list ds) ∧ Ex F F' ∧ Sr F0 H0 F' H σ (δ.set i (.val (.list ds))) := by
  obtain ⟨a, e1, h0, hF, xs, hx, hr⟩ := S.own i _ hd
  have st2 : Step F0 H0 (upd F a (.lst xs)) H := ⟨S.st.ff.trans (.put hF), fun b o h => by
    by_cases q : b = a
    · subst q; rw [upd_same] at h; rw [hx]; exact h
    · rw [upd_ne q] at h; exact S.st.fh b o h, S.st.hh, fun b h n => by
    by_cases q : b = a
    · rw [q]; exact h0
    · rw [upd_ne q] at n; exact S.st.new b h n⟩
  have rp : Rp (upd F a (.lst xs)) (.ref a) (.list ds) := .lst upd_same (hr.mono (.put hF))
  have dk2 : Dk F0 H0 (upd F a (.lst xs)) H σ (δ.set i (.val (.list ds))) := by
    have K2 : Dk F0 H0 (upd F a (.lst xs)) (upd H a (.lst xs)) σ δ := S.dk.poke (.put hF) fun j e b h1 h2 => ⟨S.dk.dow j i b a e _ h1 hd h2 e1, fun x hfx z => by
      have nx : x ≠ a := fun y => S.dk.dow j i b a e _ h1 hd h2 e1 (by rw [← y]; exact hfx)
      rw [upd_ne nx]
      exact z⟩
    have eH : upd H a (.lst xs) = H := by
      funext b
      by_cases q : b = a
      · rw [q, upd_same, hx]
      · rw [upd_ne q]
    rw [eH] at K2
    exact K2.same i hd (.inr rfl)
  refine ⟨a, upd F a (.lst xs), e1, rp, .put hF, st2, by rw [List.length_set]; exact S.len, fun j e h => ?_, fun j e h => ?_, fun j k b e f h1 h2 h3 h4 => ?_, dk2⟩
  · rcases set_get h with ⟨rfl, q, hl⟩ | ⟨ne, h⟩
    · cases q; exact ⟨_, e1, rp⟩
    · obtain ⟨v, q1, q2⟩ := S.val j e h
      exact ⟨v, q1, q2.mono (.put hF)⟩
  · rcases set_get h with ⟨rfl, q, hl⟩ | ⟨ne, h⟩
    · cases q
    · obtain ⟨b, q1, q2, q3, q4⟩ := S.own j e h
      have nb : b ≠ a := fun z => by
        subst z
        exact ne (S.apart j i b e _ h hd q1 e1)
      exact ⟨b, q1, q2, by rw [upd_ne nb]; exact q3, q4.mono (.put hF) (.refl _)⟩
  · rcases set_get h1 with ⟨rfl, q, hl⟩ | ⟨n1, h1⟩
    · cases q
    · rcases set_get h2 with ⟨rfl, q, hl⟩ | ⟨n2, h2⟩
      · cases q
      · exact S.apart j k b e f h1 h2 h3 h4
/-- a dict in a slot is frozen -/
theorem Sr.freezeD {F0 H0 F H : Hp} {σ : St} {δ : DEnv} (S : Sr F0 H0 F H σ δ) {i : Nat} {es : List (D × D)} (hd : δ[i]? = some (.own (.dict es))) :
    ∃ a u, H a = some u ∧ Mut (some u) ∧ ∀ od, ∃ F', Ex F F' ∧ Sr F0 H0 F' (upd H a (.frz od u)) σ (δ.set i (.val (.dict es))) := by
  obtain ⟨a, e1, h0, hF, ho⟩ := S.own i _ hd
  obtain ⟨u, h1, h2, h3⟩ := ho.mut
  refine ⟨a, u, h1, h2, fun od => ⟨upd F a (.frz od u), .put hF, ?_⟩⟩
  have rp : Rp (upd F a (.frz od u)) (.ref a) (.dict es) := by
    rcases h3 od ⟨es, rfl⟩ with h | h
    · exact h
    · exact absurd hF h
  have st2 : Step F0 H0 (upd F a (.frz od u)) (upd H a (.frz od u)) := ⟨S.st.ff.trans (.put hF), S.st.fh.both, fun b o h => by
    rw [upd_ne (ne_of_none h h0)]; exact S.st.hh b o h, fun b h n => by
    by_cases q : b = a
    · rw [q]; exact h0
    · rw [upd_ne q] at n; exact S.st.new b h n⟩
  have dk2 : Dk F0 H0 (upd F a (.frz od u)) (upd H a (.frz od u)) σ (δ.set i (.val (.dict es))) := (S.dk.poke (.put hF) fun j e b h1 h2 => ⟨S.dk.dow j i b a e _ h1 hd h2 e1, fun x hfx z => by
    have nx : x ≠ a := fun y => S.dk.dow j i b a e _ h1 hd h2 e1 (by rw [← y]; exact hfx)
    rw [upd_ne nx]
    exact z⟩).same i hd (.inr rfl)
  refine ⟨st2, by rw [List.length_set]; exact S.len, fun j e h => ?_, fun j e h => ?_, fun j k b e f h1 h2 h3 h4 => ?_, dk2⟩
  · rcases set_get h with ⟨rfl, q, hl⟩ | ⟨ne, h⟩
    · cases q; exact ⟨_, e1, rp⟩
    · obtain ⟨v, q1, q2⟩ := S.val j e h
      exact ⟨v, q1, q2.mono (.put hF)⟩
  · rcases set_get h with ⟨rfl, q, hl⟩ | ⟨ne, h⟩
    · cases q
    · obtain ⟨b, q1, q2, q3, q4⟩ := S.own j e h
      have nb : b ≠ a := fun z => by
        subst z
        exact ne (S.apart j i b e _ h hd q1 e1)
      exact ⟨b, q1, q2, by rw [upd_ne nb]; exact q3, (q4.other nb).mono (.put hF) (.refl _)⟩
  · rcases set_get h1 with ⟨rfl, q, hl⟩ | ⟨n1, h1⟩
    · cases q
    · rcases set_get h2 with ⟨rfl, q, hl⟩ | ⟨n2, h2⟩
      · cases q
      · exact S.apart j k b e f h1 h2 h3 h4
end RD

end
section
namespace RD
open PySem PySem.Spec L2 PyProof.Rows
/-! Tuples that the run makes, as objects that are known to bear nothing but their items. Where no tuple is made the library's
own rules (op_catA, sl_tupA, call_tuple_of) are taken as they are. -/
/-- a tuple's object that bears nothing but its items -/
def PlainT (o : Obj) : Prop := o.cls = .type "tuple" ∧ o.dict = none
theorem plainT_new (items : Array Value) : PlainT { cls := .type "tuple", data := .seq items } := ⟨rfl, rfl⟩
theorem ok_tup {P : Program} {w : World} {H : Hp} {h : Heap} {xs : List V} {us : List Value} (z : xs.length ≤ sizeLine) (r : Vals xs us) :
    ObjOk P w H (h.push { cls := .type "tuple", data := .seq us.toArray }) h.objs.size (.frz { cls := .type "tuple", data := .seq us.toArray } (.tup xs)) :=
  ⟨Heap.get?_push_size _ rfl, z, us, r, IsTup.new _ _⟩
/-- what a caller may know of a new tuple -/
def NewT (xs : List V) (H : Hp) (Q : VK) : Prop := ∀ p o, PlainT o → H p = none → Q (.ref p) (upd H p (.frz o (.tup xs)))
section
variable {X : Cx} {es : List Expr} {t : TA} {pos : Pos}
/-- a new tuple stands behind the heap as it was -/
theorem made_tup {pins : List (Addr × Obj)} {σ : L2.St} {H : Hp} {s : Shared} {xs : List V} {us : List Value} {Q : VK} (I : Inv X pins σ H s) (z : xs.length ≤ sizeLine) (r : Vals xs us) (q : NewT xs H Q) :
    EP X pins σ Q (.ref s.heap.objs.size) { s with heap := s.heap.push { cls := .type "tuple", data := .seq us.toArray } } :=
  have here : H s.heap.objs.size = none := I.hok.fresh (Nat.le_refl _)
  have now := I.laid (t' := s.toks) (fun _ _ old => Heap.get?_push_of_some _ old) (Nat.le_refl _) (ok_tup z r)
  ⟨.ref s.heap.objs.size, _, now, rfl, q _ _ (plainT_new _) here⟩
/-- a new list stands behind the heap as it was -/
theorem made_list {pins : List (Addr × Obj)} {σ : L2.St} {H : Hp} {s : Shared} {xs : List V} {us : List Value} {Q : VK} (I : Inv X pins σ H s) (z : xs.length ≤ sizeLine) (r : Vals xs us) (q : ∀ p, H p = none → Q (.ref p) (upd H p (.lst xs))) :
    EP X pins σ Q (.ref s.heap.objs.size) { s with heap := s.heap.push { cls := .type "list", data := .seq us.toArray } } :=
  have here : H s.heap.objs.size = none := I.hok.fresh (Nat.le_refl _)
  have ok : ObjOk X.prog X.w (upd H s.heap.objs.size (.lst xs)) (s.heap.push { cls := .type "list", data := .seq us.toArray }) s.heap.objs.size (.lst xs) := ⟨z, us, 0, r, Heap.get?_push_size _ rfl⟩
  ⟨.ref s.heap.objs.size, _, I.laid (t' := s.toks) (fun _ _ old => Heap.get?_push_of_some _ old) (Nat.le_refl _) ok, rfl, q _ here⟩
/-- a display -/
def tTupG (t : TA) : TE := fun σ H Q => t σ H fun xs H1 => xs.length ≤ sizeLine ∧ ∀ p o, PlainT o → H1 p = none → Q (.ref p) (upd H1 p (.frz o (.tup xs)))
theorem pe_tupG {x1} (h : PA X es t) : PE X (.Tuple es x1 pos) (tTupG t) where
  run := fun pins s σ H Q I hq => wpAny_Tuple_spliced (thn (h.run pos pins s σ H _ I hq) fun _ _ ⟨_, _, V, r, z, q⟩ => ⟨r.length ▸ z, made_tup V z r q⟩)
/-- t + u -/
def rCatG (K : PySem.W.Frag) : R2 := fun x y H Q => ∃ a b xs ys, x = .ref a ∧ y = .ref b ∧ SqT K H a xs ∧ SqT K H b ys ∧ xs.length + ys.length ≤ sizeLine ∧
  (xs = [] → Q (.ref b) H) ∧ (xs ≠ [] → ys = [] → Q (.ref a) H) ∧ (xs ≠ [] → ys ≠ [] → ∀ p o, PlainT o → H p = none → Q (.ref p) (upd H p (.frz o (.tup (xs ++ ys)))))
theorem op_catG : OpR X (binaryOp .Add) (rCatG X.K) := by
  intro pins s σ H x y v u Q I rx ry ⟨a, b, xs, ys, ex, ey, ha, hb, hz, q0, q1, q2⟩
  by_cases new : xs ≠ [] ∧ ys ≠ []
  · have ⟨nx, ny⟩ := new
    subst ex ey
    obtain rfl : v = Value.ref a := rx
    obtain rfl : u = Value.ref b := ry
    have ⟨us, r, p, _⟩ := I.tuple ha
    have ⟨vs, r', p', _⟩ := I.tuple hb
    have fit : us.length + vs.length ≤ sizeLine := r.length ▸ r'.length ▸ hz
    exact HT.cat_tup p p' (fun e => absurd (r.nil_iff.mp e) nx) (fun e => absurd (r'.nil_iff.mp e) ny) (fun _ => made_tup I (List.length_append ▸ hz) (r.append r') (q2 nx ny)) fit
  · exact op_catA pins s σ H x y v u Q I rx ry ⟨a, b, xs, ys, ex, ey, ha, hb, hz, q0, q1, fun nx ny => absurd ⟨nx, ny⟩ new⟩
/-- t[lo:hi] -/
def rSlG (K : PySem.W.Frag) : V → Option Int → Option Int → Hp → VK → Prop := fun x lo hi H Q => ∃ a xs, x = .ref a ∧ SqT K H a xs ∧
  (HT.sIx xs.length 0 lo = 0 ∧ HT.sIx xs.length xs.length hi = xs.length → Q (.ref a) H) ∧ (¬ (HT.sIx xs.length 0 lo = 0 ∧ HT.sIx xs.length xs.length hi = xs.length) → ∀ p o, PlainT o → H p = none → Q (.ref p) (upd H p (.frz o (.tup (cutV xs lo hi)))))
theorem sl_tupG : SlR X (rSlG X.K) := by
  intro pins s σ H x v vl vu lo hi sl Q I rx hs pl pu ⟨a, xs, ex, hx, q1, q2⟩
  rcases Classical.em (HT.sIx xs.length 0 lo = 0 ∧ HT.sIx xs.length xs.length hi = xs.length) with whole | part
  · exact sl_tupA pins s σ H x v vl vu lo hi sl Q I rx hs pl pu ⟨a, xs, ex, hx, q1, fun part => absurd whole part⟩
  · subst ex
    obtain rfl : v = Value.ref a := rx
    have ⟨us, r, is, hz⟩ := I.tuple hx
    have n : us.toArray.size = xs.length := List.size_toArray.trans r.length.symm
    have cut := made_tup (us := (us.drop (HT.sIx xs.length 0 lo)).take (HT.sIx xs.length xs.length hi - HT.sIx xs.length 0 lo)) I (Nat.le_trans (cutV_length xs lo hi) hz) ((r.drop _).take _) (q2 part)
    exact ⟨"tuple", _, PyProof.Rows.slot_tuple_getitem.lookup, is.typeIs, HT.getItem_tuple_cut is hs pl pu (n.symm ▸ part) (n.symm ▸ cut) (n.symm ▸ hz)⟩
/-- tuple(x) -/
theorem call_tupleG : CallR X (.type "tuple") (fun xs H Q => ∃ p ys, xs = [.ref p] ∧ ((SqL X.K H p ys ∧ ∀ l o, PlainT o → H l = none → Q (.ref l) (upd H l (.frz o (.tup ys)))) ∨ (SqT X.K H p ys ∧ Q (.ref p) H))) := by
  intro pins s σ H zs us Q I r ⟨p, ys, e, h⟩
  cases h with
  | inr same => exact call_tuple_of pins s σ H zs us Q I r ⟨p, ys, e, .inr same⟩
  | inl list =>
    subst e
    have ⟨u, eu, ru⟩ := vals1 r
    obtain rfl : u = Value.ref p := ru
    subst eu
    have ⟨vs, rv, pl, hz⟩ := I.list list.1
    have fit : vs.toArray.size ≤ sizeLine := by rw [List.size_toArray, ← rv.length]; exact hz
    exact call_tuple_list pl.isList (fun g k => made_tup (I.kept (t' := s.toks) k) hz rv list.2) fit
end
section
variable {l : Addr} {items : Array Value} {n : Nat} {dd : Option Addr} {sl : Array (Option Value)} {x : Int} {u : Tok}
/-- the tuple at l, with all that it may bear -/
abbrev tupAt (l : Addr) (items : Array Value) (n : Nat) (dd : Option Addr) (sl : Array (Option Value)) (s : Shared) : Prop :=
  s.heap.get? l = some { cls := .type "tuple", dict := dd, data := .seq items n, slots := sl }
/-- t * n that is t itself -/
theorem tuple_mulW1 (fits : ¬ (decide (x < -(2 ^ 63)) || decide (x ≥ 2 ^ 63)) = true) (one : (items.isEmpty || x == 1) = true) :
    Meets (Builtin.«tuple.__mul__» ⟨[.ref l, .int x u], []⟩) (fun _ R s => tupAt l items n dd sl s ∧ R (.ok (.ret (Value.ref l))) s) :=
  .of_wp fun _ _ _ _ ⟨_, _, _, _, _⟩ ⟨here, goal⟩ => by
    have index := AutoSeq1.idx_int
    wp_walk using wpAny_loadPart' here, wpAny_ite_false (decide_eq_false fits), wpAny_ite_true (decide_eq_true one)
    exact ⟨_, rfl, goal⟩
/-- t * n that is empty -/
theorem tuple_mulW0 (fits : ¬ (decide (x < -(2 ^ 63)) || decide (x ≥ 2 ^ 63)) = true) (many : ¬ (items.isEmpty || x == 1) = true) (none_ : (decide (x ≤ 0) || items.isEmpty) = true) :
    Meets (Builtin.«tuple.__mul__» ⟨[.ref l, .int x u], []⟩) (fun _ R s => tupAt l items n dd sl s ∧
      R (.ok (.ret (Value.ref s.heap.objs.size))) { s with heap := s.heap.push { cls := .type "tuple", data := .seq #[] } }) :=
  .of_wp fun _ _ _ _ ⟨_, _, _, _, _⟩ ⟨here, goal⟩ => by
    have index := AutoSeq1.idx_int
    wp_walk using wpAny_loadPart' here, wpAny_ite_false (decide_eq_false fits), wpAny_ite_false (decide_eq_false many), wpAny_ite_true (decide_eq_true none_), wpAny_ite_false (decide_eq_false (Nat.not_lt.mpr (Nat.zero_le sizeLine)))
    exact ⟨_, rfl, goal⟩
/-- the road of t * n to the tuple's own multiplication -/
theorem mul_road {P : Program} {w : World} {A : Around} {s : Shared} {Q E : Value → Shared → Prop} {S : PySem.Spec} (here : tupAt l items n dd sl s) (m : Meets (Builtin.«tuple.__mul__» ⟨[.ref l, .int x u], []⟩) S) (q : S A (wants Q E) s) :
    wpAny (model P w) A (binaryOp .Mult (.ref l) (.int x u)) Q E s :=
  have ty : s.TypeIs (.ref l) "tuple" := ⟨_, here, rfl⟩
  have go := call_meets F.slot_tuple_mul ty F.entry_tuple_mul (F.args_tuple_mul_2 _ _) m q
  wpAny_binaryOp_repeat_ref (U := "int") (by decide) ty (fun s' => typeIs_int s' x u) noFill_tuple_mul F.fills_int_mul F.slot_int_rmul repeat_tuple F.slot_int_index.lookup
    (call_meets F.slot_int_rmul (typeIs_int s x u) F.entry_int_rmul (F.args_int_rmul_2 _ _) (int_rmul_tuple x u l items n dd sl) ⟨here, rfl, ty, go⟩)
end
def rRepG (K : PySem.W.Frag) : R2 := fun x y H Q => ∃ l k xs, x = .ref l ∧ y = .int k ∧ SqT K H l xs ∧ xs ≠ [] ∧ 0 ≤ k ∧ k ≤ 1000 ∧ xs.length ≤ 1000 ∧ (k = 1 → Q (.ref l) H) ∧ (k ≠ 1 → ∀ p o, PlainT o → H p = none → Q (.ref p) (upd H p (.frz o (.tup (List.replicate k.toNat xs).flatten))))
/-- t * k, t not empty -/
theorem op_repG {X : Cx} : OpR X (binaryOp .Mult) (rRepG X.K) := by
  intro pins s σ H _ _ v u Q I rx ry ⟨l, k, xs, ex, ey, ht, some_, k0, k1, len, qs, qn⟩
  subst ex ey
  obtain rfl : v = Value.ref l := rx
  obtain ⟨tk, rfl⟩ := ry
  have ⟨us, r, ⟨⟨c, dd, da, sl⟩, at_, ec, n, ed⟩, _⟩ := I.tuple ht
  obtain rfl : c = .type "tuple" := ec
  obtain rfl : da = .seq us.toArray n := ed
  have len' : us.length = xs.length := r.length.symm
  have full : us.toArray.isEmpty = false := by
    rw [Array.isEmpty_eq_false_iff]
    exact fun e => some_ (r.nil_iff.mp (by simpa using e))
  have fits : ¬ (decide (k < -(2 ^ 63)) || decide (k ≥ 2 ^ 63)) = true := by
    simp only [Bool.or_eq_true, decide_eq_true_eq]
    omega
  have is1 : (us.toArray.isEmpty || k == 1) = (k == 1) := by rw [full, Bool.false_or]
  have is0 : (decide (k ≤ 0) || us.toArray.isEmpty) = decide (k ≤ 0) := by rw [full, Bool.or_false]
  by_cases e1 : k = 1
  · exact mul_road at_ (tuple_mulW1 fits (is1.trans (beq_iff_eq.mpr e1))) ⟨at_, .ref l, H, I, rfl, qs e1⟩
  have many : ¬ (us.toArray.isEmpty || k == 1) = true := by rw [is1, beq_iff_eq]; exact e1
  have made := fun {vs : List Value} (rv : Vals (List.replicate k.toNat xs).flatten vs) z => made_tup (us := vs) I z rv (qn e1)
  by_cases e0 : k = 0
  · have flat : (List.replicate k.toNat xs).flatten = [] := by rw [e0]; rfl
    exact mul_road at_ (tuple_mulW0 fits many (is0.trans (decide_eq_true (by omega)))) ⟨at_, made (vs := []) (flat ▸ .nil) (flat ▸ Nat.zero_le _)⟩
  · -- at most a million items
    have few : k.toNat * us.length ≤ 1000 * 1000 := Nat.mul_le_mul (by omega) (len' ▸ len)
    have prod : ((us.toArray.size : Nat) : Int) * k = ((k.toNat * us.length : Nat) : Int) := by
      rw [List.size_toArray, Int.natCast_mul, Int.toNat_of_nonneg k0, Int.mul_comm]
    have line := sizeLine_eq
    have flen : (List.replicate k.toNat us).flatten.length ≤ sizeLine := by rw [PyProof.Rows.lm_len_rep_flat]; omega
    have flen' : (List.replicate k.toNat xs).flatten.length ≤ sizeLine := by rw [PyProof.Rows.lm_len_rep_flat, ← len']; omega
    have room : Builtin.Tuple.tupleTooMany (((us.toArray.size : Nat) : Int) * k) = false := by
      rw [prod]
      exact decide_eq_false (by omega)
    have M := tuple_mulW l us.toArray n dd sl k tk (Bool.eq_false_iff.mpr fits) (Bool.eq_false_iff.mpr many) (is0.trans (decide_eq_false (by omega))) (by rw [prod]; omega) room (by rw [size_rep, List.size_toArray]; exact flen)
    rw [size_rep] at M
    exact mul_road at_ M ⟨at_, made (r.rep k.toNat) flen'⟩
end RD

end
section
namespace RD
open PySem L2
variable [HasK]
def clA (mg : Str → Option Value) (n : Str) : Addr := match mg n with
  | some (.ref a) => a
  | _ => 0
/-- a place in a def: its context, the heaps at its entry, what is wished of an exception -/
structure Cc where
  X : Cx
  F0 : Hp
  H0 : Hp
  W : WX
  hK : X.K = HasK.K
  hM : X.mg = HasK.mg
  hP : X.prog = HasK.P
  hw : X.w = HasK.w
def XPost (mg : Str → Option Value) (W : WX) (F H : Hp) (σ : St) (n : Str) : Option (Str × D) → Prop
  | none => ∀ F' H', Step F H F' H' → W (.ref (clA mg n)) none σ H'
  | some (f, p) => ∀ F' H' dd v, Step F H F' H' → H' dd = some (.xd [(f, v)]) → F' dd = none → Rp F' v p → W (.ref (clA mg n)) (some dd) σ H'
def PostG {α β : Type} (Rel : Hp → Hp → β → α → Prop) (mg : Str → Option Value) (W : WX) (F H : Hp) (σ : St) (Q : β → Hp → Prop) : Res α → Prop
  | .ok d => ∀ v F' H', Step F H F' H' → Rel F' H' v d → Q v H'
  | .exc n p => XPost mg W F H σ n p
  | .stuck => False
theorem XPost.step {mg : Str → Option Value} {W : WX} {F H F' H' : Hp} {σ : St} {n : Str} {p : Option (Str × D)} (t : Step F H F' H') (h : XPost mg W F H σ n p) : XPost mg W F' H' σ n p := by
  cases p with
  | none => exact fun F2 H2 s => h F2 H2 (t.trans s)
  | some q => exact fun F2 H2 dd v s => h F2 H2 dd v (t.trans s)
theorem PostG.step {α β : Type} {Rel : Hp → Hp → β → α → Prop} {mg : Str → Option Value} {W : WX} {F H F' H' : Hp} {σ : St} {Q : β → Hp → Prop} {r : Res α} (t : Step F H F' H') (h : PostG Rel mg W F H σ Q r) : PostG Rel mg W F' H' σ Q r := by
  cases r with
  | ok d => exact fun v F2 H2 s => h v F2 H2 (t.trans s)
  | exc n p => exact XPost.step t h
  | stuck => exact h
abbrev TG_ (β : Type) := St → Hp → (β → Hp → Prop) → Prop
def Sim {α β : Type} (Rel : Hp → Hp → β → α → Prop) (c : Cc) (t : TG_ β) (d : DEnv → Res α) : Prop :=
  ∀ F H σ δ Q, Sr c.F0 c.H0 F H σ δ → PostG Rel HasK.mg c.W F H σ Q (d δ) → t σ H Q
/-- run a part, then go on -/
theorem Sim.go {α β α' β' : Type} {Rel : Hp → Hp → β → α → Prop} {Rel' : Hp → Hp → β' → α' → Prop} {c : Cc} {t : TG_ β} {d : DEnv → Res α} (h : Sim Rel c t d) {F H : Hp} {σ : St} {δ : DEnv} {Q : β' → Hp → Prop} {K : β → Hp → Prop} {r : α → Res α'}
    (S : Sr c.F0 c.H0 F H σ δ) (P : PostG Rel' HasK.mg c.W F H σ Q ((d δ).bind r))
    (k : ∀ F' H' x a, Step F H F' H' → Sr c.F0 c.H0 F' H' σ δ → Rel F' H' x a → PostG Rel' HasK.mg c.W F' H' σ Q (r a) → K x H') : t σ H K := by
  refine h F H σ δ K S ?_
  cases q : d δ with
  | stuck => rw [q] at P; exact P
  | exc n p => rw [q] at P; exact P
  | ok a =>
    rw [q] at P
    exact fun v F' H' s r => k F' H' v a s (S.step s) r (PostG.step s P)
theorem Sim.last {α β : Type} {Rel : Hp → Hp → β → α → Prop} {mg : Str → Option Value} {W : WX} {F H : Hp} {σ : St} {Q : β → Hp → Prop} {g : Option α} {G : Prop} (P : PostG Rel mg W F H σ Q (Res.ofO g))
    (h : ∀ z, g = some z → (∀ v F' H', Step F H F' H' → Rel F' H' v z → Q v H') → G) : G := by
  cases g with
  | none => exact P.elim
  | some z => exact h z rfl P
abbrev RF : Hp → Hp → V → D → Prop := fun F _ v d => Rp F v d
abbrev RB : Hp → Hp → V → D → Prop := Bw
abbrev RT : Hp → Hp → Bool → Bool → Prop := fun _ _ b k => b = k
abbrev RA : Hp → Hp → List V → List D → Prop := fun F _ v d => RpAll F v d
abbrev RAB : Hp → Hp → List V → List D → Prop := BwAll
abbrev RO : Hp → Hp → Option Int → Option Int → Prop := fun _ _ b k => b = k
structure JE (c : Cc) (e : Expr) (t : TE) (d : DE) : Prop where
  p : PE c.X e t
  s : Sim RF c t d
structure JB (c : Cc) (e : Expr) (t : TE) (d : DE) : Prop where
  p : PE c.X e t
  s : Sim RB c t d
structure JT (c : Cc) (e : Expr) (t : TT) (d : DT) : Prop where
  p : PT c.X e t
  s : Sim RT c t d
structure JW (c : Cc) (e : Expr) (t : TT) (d : DT) : Prop where
  p : PW c.X e t
  s : Sim RT c t d
structure JA (c : Cc) (es : List Expr) (t : TA) (d : DA) : Prop where
  p : PA c.X es t
  s : Sim RA c t d
structure JAB (c : Cc) (es : List Expr) (t : TA) (d : DA) : Prop where
  p : PA c.X es t
  s : Sim RAB c t d
structure JO (c : Cc) (e : Option Expr) (t : TO) (d : DEnv → Res (Option Int)) : Prop where
  p : PO c.X e t
  s : Sim RO c t d
theorem PostG.imp {α β : Type} {Rel Rel' : Hp → Hp → β → α → Prop} {mg : Str → Option Value} {W : WX} {F H : Hp} {σ : St} {Q : β → Hp → Prop} {r : Res α} (hr : ∀ F H x a, Rel' F H x a → Rel F H x a) (h : PostG Rel mg W F H σ Q r) : PostG Rel' mg W F H σ Q r := by
  cases r with
  | ok d => exact fun v F2 H2 s q => h v F2 H2 s (hr _ _ _ _ q)
  | exc n p => exact h
  | stuck => exact h
section
variable {c : Cc} {e a b : Expr} {es : List Expr} {da db : DE} {pos : Pos} {ta tb tc : TE} {tt tt' : TT}
theorem JE.toB (h : JE c e ta da) : JB c e ta da := ⟨h.p, fun F H σ δ Q S P => h.s F H σ δ Q S (P.imp fun _ _ _ _ q => .inl q)⟩
theorem JW.t {d : DT} (h : JW c e tt d) : JT c e tt d := ⟨h.p.pt, h.s⟩
/-! ### constants, names -/
def dC (d : D) : DE := fun _ => .ok d
theorem sim_c {v : V} {d : D} (r : ∀ F, Rp F v d) : Sim RF c (tC v) (dC d) := fun F H σ δ Q S P => P v F H (.refl S.fh) (r F)
theorem je_int {i j pos} : JE c (.Constant (.int i) j pos) (tC (.int i)) (dC (.int i)) := ⟨pe_int, sim_c fun _ => .int i⟩
theorem je_bl {i j pos} : JE c (.Constant (.bool i) j pos) (tC (.bl i)) (dC (.bool i)) := ⟨pe_bl, sim_c fun _ => .bl i⟩
theorem je_non {j pos} : JE c (.Constant .none j pos) (tC .non) (dC .none) := ⟨pe_non, sim_c fun _ => .non⟩
theorem je_str {x j pos} : JE c (.Constant (.str x) j pos) (tC (.str x)) (dC (.str x)) := ⟨pe_str, sim_c fun _ => .str x⟩
def dVar (i : Nat) : DE := fun δ => match δ[i]? with
  | some (.val d) => .ok d
  | _ => .stuck
def dVarB (i : Nat) : DE := fun δ => match δ[i]? with
  | some (.val d) => .ok d
  | some (.own d) => .ok d
  | some (.bor d) => .ok d
  | _ => .stuck
theorem sim_var {i : Nat} : Sim RF c (tVar i) (dVar i) := fun F H σ δ Q S P => by
  unfold dVar at P
  cases q : δ[i]? with
  | none => rw [q] at P; exact P.elim
  | some s =>
    rw [q] at P
    cases s with
    | val d =>
      obtain ⟨v, h1, h2⟩ := S.val i d q
      exact ⟨v, h1, P v F H (.refl S.fh) h2⟩
    | no => exact P.elim
    | own d => exact P.elim
    | dsk d => exact P.elim
    | bor d => exact P.elim
    | bdk d => exact P.elim
theorem sim_varB {i : Nat} : Sim RB c (tVar i) (dVarB i) := fun F H σ δ Q S P => by
  unfold dVarB at P
  cases q : δ[i]? with
  | none => rw [q] at P; exact P.elim
  | some s =>
    rw [q] at P
    cases s with
    | val d =>
      obtain ⟨v, h1, h2⟩ := S.val i d q
      exact ⟨v, h1, P v F H (.refl S.fh) (.inl h2)⟩
    | no => exact P.elim
    | own d =>
      obtain ⟨a, h1, h2, h3, h4⟩ := S.own i d q
      exact ⟨.ref a, h1, P _ F H (.refl S.fh) (.inr ⟨a, rfl, h4⟩)⟩
    | dsk d => exact P.elim
    | bdk d => exact P.elim
    | bor d =>
      obtain ⟨a, h1, h2⟩ := S.dk.bor i d q
      exact ⟨.ref a, h1, P _ F H (.refl S.fh) (.inr ⟨a, rfl, h2.mono S.st.ff S.st.hh⟩)⟩
theorem je_var (i : Nat) {x : Str} (hN : c.X.N[i]? = some x := by rfl) (hv : Vis c.X.env.scope x := by first | exact Or.inl rfl | exact Or.inr (Or.inl rfl) | exact Or.inr (Or.inr rfl)) (hd : (x == ("__debug__" : Str)) = false := by decide)
    (hcd : (x == ("__classdict__" : Str)) = false := by decide) : JE c (.Name x pos) (tVar i) (dVar i) := ⟨pe_var hN hv hd hcd, sim_var⟩
theorem jb_var (i : Nat) {x : Str} (hN : c.X.N[i]? = some x := by rfl) (hv : Vis c.X.env.scope x := by first | exact Or.inl rfl | exact Or.inr (Or.inl rfl) | exact Or.inr (Or.inr rfl)) (hd : (x == ("__debug__" : Str)) = false := by decide)
    (hcd : (x == ("__classdict__" : Str)) = false := by decide) : JB c (.Name x pos) (tVar i) (dVarB i) := ⟨pe_var hN hv hd hcd, sim_varB⟩
/-- a module's constant -/
def IntG (mg : Str → Option Value) (x : Str) (n : Int) : Prop := ∃ t, mg x = some (.int n t)
theorem je_gint {x : Str} {n : Int} (hm : IntG c.X.mg x n) (hg : Gl c.X x) (hd : (x == ("__debug__" : Str)) = false := by decide) : JE c (.Name x pos) (tC (.int n)) (dC (.int n)) := by
  obtain ⟨t, hm⟩ := hm
  exact ⟨pe_glob (v := .int n) hg hm ⟨t, rfl⟩ hd, sim_c fun _ => .int n⟩
def StrG (mg : Str → Option Value) (x : Str) (n : Str) : Prop := ∃ t, mg x = some (.str n t)
theorem je_gstr {x : Str} {n : Str} (hm : StrG c.X.mg x n) (hg : Gl c.X x) (hd : (x == ("__debug__" : Str)) = false := by decide) : JE c (.Name x pos) (tC (.str n)) (dC (.str n)) := by
  obtain ⟨t, hm⟩ := hm
  exact ⟨pe_glob (v := .str n) hg hm ⟨t, rfl⟩ hd, sim_c fun _ => .str n⟩

/-! ### operators -/
def OpS (r : R2) (g : D → D → Option D) : Prop := ∀ F H x y d e z Q, Ex F H → Bw F H x d → Bw F H y e → g d e = some z → (∀ v F' H', Step F H F' H' → Rp F' v z → Q v H') → r x y H Q
def dOp (g : D → D → Option D) (da db : DE) : DE := fun δ => (da δ).bind fun d => (db δ).bind fun e => Res.ofO (g d e)
theorem sim_op {r : R2} {g : D → D → Option D} (hs : OpS r g) (ha : Sim RB c ta da) (hb : Sim RB c tb db) : Sim RF c (tOp r ta tb) (dOp g da db) := fun F H σ δ Q S P =>
  ha.go S P fun F1 H1 x d s1 S1 hx P1 => hb.go S1 P1 fun F2 H2 y e s2 S2 hy P2 => Sim.last P2 fun z hz k => hs F2 H2 x y d e z Q S2.fh (hx.mono s2.ff s2.hh) hy hz k
theorem je_bin {op : Operator} {r : R2} {g : D → D → Option D} (ho : OpR c.X (binaryOp op) r) (hs : OpS r g) (ha : JB c a ta da) (hb : JB c b tb db) : JE c (.BinOp a op b pos) (tOp r ta tb) (dOp g da db) := by
  exact ⟨pe_op ho ha.p hb.p, sim_op hs ha.s hb.s⟩
theorem je_cmpR {op : CmpOp} {r : R2} {g : D → D → Option D} (ho : OpR c.X (compareOp op) r) (hs : OpS r g) (ha : JB c a ta da) (hb : JB c b tb db) (hm : behindInMarks op b = false) : JE c (.Compare a [op] [b] pos) (tOp r ta tb) (dOp g da db) := by
  exact ⟨pe_cmpR ho ha.p hb.p hm, sim_op hs ha.s hb.s⟩
/-- a value that is True or False, as a test -/
def dTest (d : DE) : DT := fun δ => (d δ).bind fun x => match x with
  | .bool b => .ok b
  | _ => .stuck
theorem sim_test {t : TE} (h : Sim RF c t da) : Sim RT c (tTest t) (dTest da) := fun F H σ δ Q S P =>
  h.go S P fun F1 H1 x d s1 S1 hx P1 => by
    cases d with
    | bool b => cases hx; exact ⟨b, rfl, P1 b F1 H1 (.refl S1.fh) rfl⟩
    | _ => exact P1.elim
theorem jt_cmpR {op : CmpOp} {r : R2} {g : D → D → Option D} (ho : OpR c.X (compareOp op) r) (hs : OpS r g) (ha : JB c a ta da) (hb : JB c b tb db) (hm : behindInMarks op b = false) : JT c (.Compare a [op] [b] pos) (tTest (tOp r ta tb)) (dTest (dOp g da db)) := by
  exact ⟨pt_cmpR ho ha.p hb.p hm, sim_test (sim_op hs ha.s hb.s)⟩

theorem new_tup {F H : Hp} {xs : List V} {ds : List D} {Q : VK} (e : Ex F H) (r : RpAll F xs ds) (h : ∀ v F' H', Step F H F' H' → Rp F' v (.tuple ds) → Q v H') : ∀ p o, PlainT o → H p = none → Q (.ref p) (upd H p (.frz o (.tup xs))) := fun p o ho hp =>
  h _ _ _ (Step.put e (.frz o (.tup xs)) hp) (.tup ⟨o, upd_same, ho⟩ (r.mono (.put (e.back hp))))
theorem new_lst {F H : Hp} {xs : List V} {ds : List D} {Q : VK} (e : Ex F H) (r : RpAll F xs ds) (h : ∀ v F' H', Step F H F' H' → Rp F' v (.list ds) → Q v H') : ∀ p, H p = none → Q (.ref p) (upd H p (.lst xs)) := fun p hp =>
  h _ _ _ (Step.put e (.lst xs) hp) (.lst upd_same (r.mono (.put (e.back hp))))
def Sz (n : Nat) : Prop := n ≤ 1000000
instance (n : Nat) : Decidable (Sz n) := inferInstanceAs (Decidable (n ≤ 1000000))
theorem Sz.le {n : Nat} (h : Sz n) : n ≤ sizeLine := by rw [sizeLine_eq]; exact Nat.le_trans h (by decide)
theorem Sz.lt {n : Nat} (h : Sz n) : n < sizeLine := by rw [sizeLine_eq]; exact Nat.lt_of_le_of_lt h (by decide)
theorem sqT {K : PySem.W.Frag} {H : Hp} {a : Addr} {xs : List V} (h : Gt H a xs) : SqT K H a xs := let ⟨o, h1, _⟩ := h; .inl (.inr ⟨o, h1⟩)
theorem sqT0 {K : PySem.W.Frag} {H : Hp} {a : Addr} {xs : List V} (h : H a = some (.tup xs)) : SqT K H a xs := .inl (.inl h)
theorem sqL {K : PySem.W.Frag} {H : Hp} {a : Addr} {xs : List V} (h : H a = some (.lst xs)) : SqL K H a xs := .inl (.inl h)
/-- + -/
def addD : D → D → Option D
  | .int i, .int j => some (.int (i + j))
  | .tuple x, .tuple y => if Sz (x.length + y.length) then some (.tuple (x ++ y)) else none
  | .list x, .list y => if Sz (x.length + y.length) then some (.list (x ++ y)) else none
  | .str x, .str y => if Sz (x.length + y.length) then some (.str (x ++ y)) else none
  | _, _ => none
def rAddA (K : PySem.W.Frag) : R2 := fun x y H Q => rI0 (fun i j => .int (i + j)) x y H Q ∨ (rCatG K x y H Q ∨ (rCat x y H Q ∨ ∃ i j, x = .str i ∧ y = .str j ∧ i.length + j.length ≤ sizeLine ∧ Q (.str (i ++ j)) H))
theorem op_addA {X : Cx} : OpR X (binaryOp .Add) (rAddA X.K) := OpR.or op_add (OpR.or op_catG (OpR.or op_cat op_add_str))
theorem s_addA {K : PySem.W.Frag} : OpS (rAddA K) addD := by
  intro F H x y d e z Q ex bx by_ hz h
  cases d with
  | int i =>
    cases e with
    | int j => cases hz; exact .inl ⟨i, j, bx.int, by_.int, h _ F H (.refl ex) (.int _)⟩
    | _ => cases hz
  | tuple xs =>
    cases e with
    | tuple ys =>
      by_cases hs : Sz (xs.length + ys.length)
      · have hz2 : some (PyData.tuple (xs ++ ys)) = some z := by rw [← hz]; exact (if_pos hs).symm
        cases hz2
        obtain ⟨a, us, rfl, ha, ra⟩ := bx.tup ex
        obtain ⟨b, ws, rfl, hb, rb⟩ := by_.tup ex
        refine .inr (.inl ⟨a, b, us, ws, rfl, rfl, sqT ha, sqT hb, by rw [ra.len, rb.len]; exact hs.le, fun q => ?_, fun _ q => ?_, fun _ _ => new_tup ex (ra.app rb) h⟩)
        · subst q
          cases ra
          exact h _ F H (.refl ex) by_.rpT
        · subst q
          cases rb
          rw [List.append_nil] at h
          exact h _ F H (.refl ex) bx.rpT
      · have hz2 : (none : Option D) = some z := by rw [← hz]; exact (if_neg hs).symm
        cases hz2
    | _ => cases hz
  | list xs =>
    cases e with
    | list ys =>
      by_cases hs : Sz (xs.length + ys.length)
      · have hz2 : some (PyData.list (xs ++ ys)) = some z := by rw [← hz]; exact (if_pos hs).symm
        cases hz2
        obtain ⟨a, us, rfl, ha, ra⟩ := bx.lst ex
        obtain ⟨b, ws, rfl, hb, rb⟩ := by_.lst ex
        exact .inr (.inr (.inl ⟨a, b, us, ws, rfl, rfl, ha, hb, by rw [ra.len, rb.len]; exact hs.le, new_lst ex (ra.app rb) h⟩))
      · have hz2 : (none : Option D) = some z := by rw [← hz]; exact (if_neg hs).symm
        cases hz2
    | _ => cases hz
  | str xs =>
    cases e with
    | str ys =>
      by_cases hs : Sz (xs.length + ys.length)
      · have hz2 : some (PyData.str (xs ++ ys)) = some z := by rw [← hz]; exact (if_pos hs).symm
        cases hz2
        exact .inr (.inr (.inr ⟨xs, ys, bx.str, by_.str, hs.le, h _ F H (.refl ex) (.str _)⟩))
      · have hz2 : (none : Option D) = some z := by rw [← hz]; exact (if_neg hs).symm
        cases hz2
    | _ => cases hz
  | none => cases hz
  | bool k => cases hz
  | dict k => cases hz
theorem je_add (ha : JB c a ta da) (hb : JB c b tb db) : JE c (.BinOp a .Add b pos) (tOp (rAddA HasK.K) ta tb) (dOp addD da db) := by
  rw [← c.hK]
  exact je_bin op_addA s_addA ha hb
/-- two ints -/
def i2 (f : Int → Int → Option D) : D → D → Option D
  | .int i, .int j => f i j
  | _, _ => none
theorem s_i2 {r : R2} {f : Int → Int → Option D} (h : ∀ F H i j z Q, Ex F H → f i j = some z → (∀ v F' H', Step F H F' H' → Rp F' v z → Q v H') → r (.int i) (.int j) H Q) : OpS r (i2 f) := by
  intro F H x y d e z Q ex bx by_ hz k
  cases d with
  | int i =>
    cases e with
    | int j =>
      have h1 := bx.int; have h2 := by_.int
      subst h1; subst h2
      exact h F H i j z Q ex hz k
    | _ => cases hz
  | _ => cases hz
def fT (p : Int → Int → Prop) [∀ i j, Decidable (p i j)] (f : Int → Int → D) : Int → Int → Option D := fun i j => if p i j then some (f i j) else none
theorem fT_some {p : Int → Int → Prop} [∀ i j, Decidable (p i j)] {f : Int → Int → D} {i j : Int} {z : D} (h : fT p f i j = some z) : p i j ∧ z = f i j := by
  unfold fT at h
  split at h
  · exact ⟨by assumption, (Option.some.inj h).symm⟩
  · cases h
def subD := i2 fun i j => some (.int (i - j))
theorem je_sub (ha : JB c a ta da) (hb : JB c b tb db) : JE c (.BinOp a .Sub b pos) (tOp (rI0 fun i j => .int (i - j)) ta tb) (dOp subD da db) :=
  je_bin op_sub (s_i2 fun F H i j z Q ex hz k => ⟨i, j, rfl, rfl, by cases hz; exact k _ F H (.refl ex) (.int _)⟩) ha hb
instance (i j : Int) : Decidable (CDiv i j) := inferInstanceAs (Decidable (0 < j ∧ j < 1073741824))
instance (i j : Int) : Decidable (CMul i j) := inferInstanceAs (Decidable ((-(2 ^ 64) < i ∧ i < 2 ^ 64) ∨ (-(2 ^ 64) < j ∧ j < 2 ^ 64)))
instance (i j : Int) : Decidable (CPow i j) := inferInstanceAs (Decidable (0 ≤ j ∧ j ≤ 1000000 ∧ i.natAbs < 2 ^ 64))
def fdivD := i2 (fT CDiv fun i j => .int (i / j))
theorem je_fdiv (ha : JB c a ta da) (hb : JB c b tb db) : JE c (.BinOp a .FloorDiv b pos) (tOp (rI CDiv fun i j => .int (i / j)) ta tb) (dOp fdivD da db) :=
  je_bin op_fdiv (s_i2 fun F H i j z Q ex hz k => by
    obtain ⟨h1, rfl⟩ := fT_some hz
    exact ⟨i, j, rfl, rfl, h1, k _ F H (.refl ex) (.int _)⟩) ha hb
def modD := i2 (fT (fun _ j => 0 < j) fun i j => .int (i % j))
theorem je_mod (ha : JB c a ta da) (hb : JB c b tb db) : JE c (.BinOp a .Mod b pos) (tOp (rI (fun _ j => 0 < j) fun i j => .int (i % j)) ta tb) (dOp modD da db) :=
  je_bin op_mod (s_i2 fun F H i j z Q ex hz k => by
    obtain ⟨h1, rfl⟩ := fT_some hz
    exact ⟨i, j, rfl, rfl, h1, k _ F H (.refl ex) (.int _)⟩) ha hb
def powD := i2 (fT CPow fun i j => .int (i ^ j.toNat))
theorem je_pow (ha : JB c a ta da) (hb : JB c b tb db) : JE c (.BinOp a .Pow b pos) (tOp (rI CPow fun i j => .int (i ^ j.toNat)) ta tb) (dOp powD da db) :=
  je_bin op_pow (s_i2 fun F H i j z Q ex hz k => by
    obtain ⟨h1, rfl⟩ := fT_some hz
    exact ⟨i, j, rfl, rfl, h1, k _ F H (.refl ex) (.int _)⟩) ha hb
/-- * -/
def mulD : D → D → Option D
  | .int i, .int j => if CMul i j then some (.int (i * j)) else none
  | .list x, .int k => if 0 ≤ k ∧ Sz (x.length * k.toNat) ∧ k < 2 ^ 60 then some (.list (List.replicate k.toNat x).flatten) else none
  | .tuple x, .int k => if x ≠ [] ∧ 0 ≤ k ∧ k ≤ 1000 ∧ x.length ≤ 1000 then some (.tuple (List.replicate k.toNat x).flatten) else none
  | _, _ => none
def rMulA (K : PySem.W.Frag) : R2 := fun x y H Q => rI CMul (fun i j => .int (i * j)) x y H Q ∨ (rRep x y H Q ∨ rRepG K x y H Q)
theorem op_mulA {X : Cx} : OpR X (binaryOp .Mult) (rMulA X.K) := OpR.or op_mul (OpR.or op_rep op_repG)
theorem s_mulA {K : PySem.W.Frag} : OpS (rMulA K) mulD := by
  intro F H x y d e z Q ex bx by_ hz h
  cases d with
  | int i =>
    cases e with
    | int j =>
      by_cases hs : CMul i j
      · have hz2 : some (PyData.int (i * j)) = some z := by rw [← hz]; exact (if_pos hs).symm
        cases hz2
        exact .inl ⟨i, j, bx.int, by_.int, hs, h _ F H (.refl ex) (.int _)⟩
      · have hz2 : (none : Option D) = some z := by rw [← hz]; exact (if_neg hs).symm
        cases hz2
    | _ => cases hz
  | list xs =>
    cases e with
    | int k =>
      by_cases hs : 0 ≤ k ∧ Sz (xs.length * k.toNat) ∧ k < 2 ^ 60
      · have hz2 : some (PyData.list (List.replicate k.toNat xs).flatten) = some z := by rw [← hz]; exact (if_pos hs).symm
        cases hz2
        obtain ⟨a, us, rfl, ha, ra⟩ := bx.lst ex
        exact .inr (.inl ⟨a, k, us, rfl, by_.int, ha, by omega, by omega, by rw [ra.len]; exact hs.2.1.le, new_lst ex (ra.rep _) h⟩)
      · have hz2 : (none : Option D) = some z := by rw [← hz]; exact (if_neg hs).symm
        cases hz2
    | _ => cases hz
  | tuple xs =>
    cases e with
    | int k =>
      by_cases hs : xs ≠ [] ∧ 0 ≤ k ∧ k ≤ 1000 ∧ xs.length ≤ 1000
      · have hz2 : some (PyData.tuple (List.replicate k.toNat xs).flatten) = some z := by rw [← hz]; exact (if_pos hs).symm
        cases hz2
        obtain ⟨a, us, rfl, ha, ra⟩ := bx.tup ex
        refine .inr (.inr ⟨a, k, us, rfl, by_.int, sqT ha, (fun q => by subst q; cases ra; exact hs.1 rfl), hs.2.1, hs.2.2.1, by rw [ra.len]; exact hs.2.2.2, fun q => ?_, fun _ => new_tup ex (ra.rep _) h⟩)
        subst q
        have e1 : (List.replicate (1 : Int).toNat xs).flatten = xs := by simp
        rw [e1] at h
        exact h _ F H (.refl ex) bx.rpT
      · have hz2 : (none : Option D) = some z := by rw [← hz]; exact (if_neg hs).symm
        cases hz2
    | _ => cases hz
  | _ => cases hz
theorem je_mul (ha : JB c a ta da) (hb : JB c b tb db) : JE c (.BinOp a .Mult b pos) (tOp (rMulA HasK.K) ta tb) (dOp mulD da db) := by
  rw [← c.hK]
  exact je_bin op_mulA s_mulA ha hb
end
end RD

end
section
namespace RD
open PySem PySem.Spec L2 PyProof.Rows
/-! ### dicts: the level of the heap -/
/-- at b stands the key k -/
def NKey (P : Program) (w : World) (H : Hp) (b : Addr) (k : NestedKey) : Prop := ∀ h, HOk P w H h → (nestedKind P w).is h k b
abbrev XT := List (NestedKey × Addr × V)
def KeysOk (P : Program) (w : World) (H : Hp) (xs : XT) : Prop := ∀ x ∈ xs, NKey P w H x.2.1 x.1
def RdT (P : Program) (w : World) (H : Hp) (a : Addr) (xs : XT) : Prop := Rd H a (dtO P w a xs) ∧ KeysOk P w H xs
def atV (xs : XT) (k : NestedKey) : Option (Addr × V) := (xs.find? fun x => decide (x.1 = k)).map (·.2)
def putV (xs : XT) (k : NestedKey) (a : Addr) (v : V) : XT := if (atV xs k).isSome then xs.map (fun x => if x.1 = k then (x.1, x.2.1, v) else x) else xs ++ [(k, a, v)]
abbrev NP : XT → List (NestedKey × Addr × Value) → Prop := Paired fun (p : NestedKey × Addr × V) (q : NestedKey × Addr × Value) => p.1 = q.1 ∧ p.2.1 = q.2.1 ∧ RelV p.2.2 q.2.2
theorem NP.val {xs : XT} {ys : List (NestedKey × Addr × Value)} (r : NP xs ys) (k : NestedKey) : (atV xs k = none ∧ atKey ys k = none) ∨ ∃ q v u, atV xs k = some (q, v) ∧ atKey ys k = some (q, u) ∧ RelV v u := by
  induction r with
  | nil => exact .inl ⟨rfl, rfl⟩
  | @cons p q ps qs h t ih =>
    obtain ⟨pk, pa, pv⟩ := p
    obtain ⟨qk, qa, qv⟩ := q
    obtain ⟨h1, h2, h3⟩ := h
    simp only at h1 h2 h3
    subst h1; subst h2
    by_cases e : pk = k
    · exact .inr ⟨pa, pv, qv, by simp [atV, e], by simp [atKey, e], h3⟩
    · have e1 : atV ((pk, pa, pv) :: ps) k = atV ps k := by simp [atV, e]
      have e2 : atKey ((pk, pa, qv) :: qs) k = atKey qs k := by simp [atKey, e]
      rw [e1, e2]
      exact ih
theorem NP.app {xs zs : XT} {ys ws : List (NestedKey × Addr × Value)} (r : NP xs ys) (q : NP zs ws) : NP (xs ++ zs) (ys ++ ws) := by
  induction r with
  | nil => exact q
  | cons h t ih => exact .cons h ih
theorem NP.put {xs : XT} {ys : List (NestedKey × Addr × Value)} (r : NP xs ys) (k : NestedKey) (a : Addr) {v : V} {u : Value} (rv : RelV v u) : NP (putV xs k a v) (storedH ys k a u) := by
  have e : (atV xs k).isSome = (atKey ys k).isSome := by
    rcases r.val k with ⟨h1, h2⟩ | ⟨q, v, u, h1, h2, _⟩ <;> rw [h1, h2] <;> rfl
  unfold putV storedH
  rw [e]
  split
  · have all : ∀ {xs : XT} {ys : List (NestedKey × Addr × Value)}, NP xs ys → NP (xs.map (fun x => if x.1 = k then (x.1, x.2.1, v) else x)) (ys.map (putAt k u)) := by
      intro xs ys r
      induction r with
      | nil => exact .nil
      | @cons p q ps qs h t ih =>
        rw [List.map_cons, List.map_cons]
        refine .cons ?_ ih
        unfold putAt
        rw [← h.1]
        split
        · exact ⟨rfl, h.2.1, rv⟩
        · exact h
    exact all r
  · exact r.app (.cons ⟨rfl, rfl, rv⟩ .nil)
theorem putV_len (xs : XT) (k : NestedKey) (a : Addr) (v : V) : (putV xs k a v).length ≤ xs.length + 1 := by
  unfold putV
  split
  · rw [List.length_map]; omega
  · rw [List.length_append]; simp
theorem dtr_of {P : Program} {w : World} {H : Hp} {h : Heap} {a : Addr} {xs : XT} (ok : HOk P w H h) (r : RdT P w H a xs) : xs.length ≤ sizeLine ∧ (a == sysModules) = false ∧ ∃ ys, NP xs ys ∧ h.DictOfH (nestedKind P w) a ys := by
  obtain ⟨r1, r2⟩ := r
  obtain ⟨⟨z, y, ys, rel, o, es, ep, h1, h2, h3, h4, h5⟩, _⟩ := rd_of ok r1
  refine ⟨z, y, ys, rel, o, es, ep, h1, h2, h3, h4, ?_, h5⟩
  have all : ∀ {xs : XT} {ys : List (NestedKey × Addr × Value)}, NP xs ys → KeysOk P w H xs → ∀ x ∈ ys, (nestedKind P w).is h x.1 x.2.1 := by
    intro xs ys r
    induction r with
    | nil => intro _ x hx; exact nomatch hx
    | @cons p q ps qs h t ih =>
      intro hk x hx
      rcases List.mem_cons.mp hx with e | hx
      · subst e
        have := hk p List.mem_cons_self _ ok
        rw [h.1, h.2.1] at this
        exact this
      · exact ih (fun y hy => hk y (List.mem_cons_of_mem _ hy)) x hx
  exact all rel r2
theorem room9 {P : Program} {w : World} {A : Around} (hu : A.units + 64 < cLine) : (nestedKind P w).room A.in1 := by
  show A.units + 1 + 8 < cLine
  omega
/-- what the dict at a holds at the key y -/
def DGetA (P : Program) (w : World) (H : Hp) (a : Addr) (y : V) (r : Option V) : Prop :=
  (∃ kvs k, Rd H a (.dK kvs) ∧ y = kV k ∧ r = valV kvs k) ∨ ∃ xs k b, RdT P w H a xs ∧ y = .ref b ∧ NKey P w H b k ∧ r = (atV xs k).map (·.2)
def DPutA (P : Program) (w : World) (H : Hp) (a : Addr) (y v : V) (H' : Hp) : Prop :=
  (∃ kvs k, H a = some (.dK kvs) ∧ y = kV k ∧ kvs.length < sizeLine ∧ H' = upd H a (.dK (putK kvs k v))) ∨
  ∃ xs k b, H a = some (dtO P w a xs) ∧ KeysOk P w H xs ∧ y = .ref b ∧ NKey P w H b k ∧ xs.length < sizeLine ∧ H' = upd H a (dtO P w a (putV xs k b v))
section
variable {X : Cx} {pins : List (Addr × Obj)} {σ : L2.St} {H : Hp} {s : Shared} {a : Addr} {y v : V} {u r : Value} {o : Option V} {A : Around} {E : Value → Shared → Prop}
theorem getItemA {Q : Value → Shared → Prop} (hu : A.units + 64 < cLine) (I : Inv X pins σ H s) (g : DGetA X.prog X.w H a y (some v)) (ry : RelV y u) (h : ∀ w' s', Inv X pins σ H s' → RelV v w' → Q w' s') :
    wpAny (model X.prog X.w) A (getItem (.ref a) u) Q E s := by
  rcases g with g | ⟨xs, k, b, e, ey, eb, l⟩
  · exact d_getItem (by omega) I (.inl g) ry h
  · subst ey
    cases (show u = Value.ref b from ry)
    obtain ⟨z, hd, ys, rel, dd⟩ := dtr_of I.hok e
    rcases rel.val k with ⟨h1, h2⟩ | ⟨q, v', u', h1, h2, h3⟩
    · rw [h1] at l; cases l
    · rw [h1] at l
      cases l
      exact wpAny_getItem_heap (room9 hu) (eb _ I.hok) dd h2 (h _ _ (I.tok _) h3)
theorem inA {Q : Value → Shared → Prop} (hu : A.units + 64 < cLine) (I : Inv X pins σ H s) (g : DGetA X.prog X.w H a y o) (ry : RelV y u) (h : ∀ s', Inv X pins σ H s' → Q (.bool o.isSome) s') :
    wpAny (model X.prog X.w) A (compareOp .In u (.ref a)) Q E s := by
  rcases g with g | ⟨xs, k, b, e, ey, eb, l⟩
  · exact d_in (by omega) I (.inl g) ry h
  · subst ey
    cases (show u = Value.ref b from ry)
    obtain ⟨z, hd, ys, rel, dd⟩ := dtr_of I.hok e
    refine wpAny_in_heap (room9 hu) (eb _ I.hok) hd dd ?_
    have e2 : (atKey ys k).isSome = o.isSome := by
      rw [l]
      rcases rel.val k with ⟨h1, h2⟩ | ⟨q, v', u', h1, h2, h3⟩ <;> rw [h1, h2] <;> rfl
    rw [e2]
    exact h _ (I.tok _)
theorem notInA {Q : Value → Shared → Prop} (hu : A.units + 64 < cLine) (I : Inv X pins σ H s) (g : DGetA X.prog X.w H a y o) (ry : RelV y u) (h : ∀ s', Inv X pins σ H s' → Q (.bool (!o.isSome)) s') :
    wpAny (model X.prog X.w) A (compareOp .NotIn u (.ref a)) Q E s := by
  rcases g with g | ⟨xs, k, b, e, ey, eb, l⟩
  · exact d_notIn (by omega) I (.inl g) ry h
  · subst ey
    cases (show u = Value.ref b from ry)
    obtain ⟨z, hd, ys, rel, dd⟩ := dtr_of I.hok e
    refine wpAny_notIn_heap (room9 hu) (eb _ I.hok) hd dd ?_
    have e2 : (atKey ys k).isSome = o.isSome := by
      rw [l]
      rcases rel.val k with ⟨h1, h2⟩ | ⟨q, v', u', h1, h2, h3⟩ <;> rw [h1, h2] <;> rfl
    rw [e2]
    exact h _ (I.tok _)
theorem dtO_new {P : Program} {w : World} {H' : Hp} {h' : Heap} {xs : XT} (hr : DTr P w a xs h') : ObjOk P w H' h' a (dtO P w a xs) := by
  refine ⟨hr, ?_, fun h1 h2 q k => ?_⟩
  · obtain ⟨_, _, _, _, o, _, _, e, _⟩ := hr; exact ⟨o, e⟩
  · obtain ⟨z, y, ys, rel, o, es, ep, e1, r⟩ := q
    exact ⟨z, y, ys, rel, o, es, ep, k o e1, r⟩
theorem setItemA {H' : Hp} {Q : Unit → Shared → Prop} (hu : A.units + 64 < cLine) (I : Inv X pins σ H s) (g : DPutA X.prog X.w H a y v H') (ry : RelV y u) (rv : RelV v r) (h : ∀ s', Inv X pins σ H' s' → Q () s') :
    wpAny (model X.prog X.w) A (setItem (.ref a) u r) Q E s := by
  rcases g with g | ⟨xs, k, b, e, hk, ey, eb, l, eH⟩
  · exact d_setItem (by omega) I (.inl g) ry rv h
  · subst ey eH
    cases (show u = Value.ref b from ry)
    obtain ⟨z, hd, ys, rel, dd⟩ := dtr_of I.hok ⟨.inl e, hk⟩
    have hz : ys.length ≤ sizeLine := by rw [← Paired.length rel]; exact z
    have hl : (putV xs k b v).length ≤ sizeLine := by have := putV_len xs k b v; omega
    refine wpAny_setItem_heap (hsz := hz) (room9 hu) (eb _ I.hok) dd fun h' dd' hs => h _ ?_
    obtain ⟨q, es, ep, hq, h2, h3, h4, _, h5⟩ := dd'
    exact d_write I (by rw [e]; exact True.intro) hs ⟨q, hq⟩ (dtO_new ⟨hl, hd, _, rel.put k b rv, q, es, ep, hq, h2, h3, h4, h5⟩)
theorem getA2 {z : V} {r : Value} {Q : Value → Shared → Prop} (hu : A.units + 64 < cLine) (I : Inv X pins σ H s) (g : DGetA X.prog X.w H a y o) (ry : RelV y u) (rd : RelV z r) (h : ∀ w' s', Inv X pins σ H s' → RelV (o.getD z) w' → Q w' s') :
    wpAny (model X.prog X.w) A (call (.builtin "dict.get") [.ref a, u, r]) Q E s := by
  rcases g with g | ⟨xs, k, b, e, ey, eb, l⟩
  · exact d_get2 (by omega) I (.inl g) ry rd h
  · subst ey
    cases (show u = Value.ref b from ry)
    obtain ⟨zz, hd, ys, rel, dd⟩ := dtr_of I.hok e
    refine call_meetsIn PySem.F.slot_dict_get dd.typeIs PySem.F.entry_dict_get (PySem.F.args_dict_get_3 _ _ _) (meetsH_dict_get_default (nestedKind X.prog X.w) a b hd r) ⟨room9 hu, k, ys, eb _ I.hok, dd, h _ _ (I.tok _) ?_⟩
    rw [l]
    rcases rel.val k with ⟨h1, h2⟩ | ⟨q, v', u', h1, h2, h3⟩
    · rw [h1, h2]; exact rd
    · rw [h1, h2]; exact h3
end
/-- a dict stands at a -/
def IsDA (P : Program) (w : World) (H : Hp) (a : Addr) : Prop := (∃ kvs, Rd H a (.dK kvs)) ∨ ∃ xs, Rd H a (dtO P w a xs)
theorem isDA_at {X : Cx} {pins : List (Addr × Obj)} {σ : L2.St} {H : Hp} {s : Shared} {a : Addr} (I : Inv X pins σ H s) (d : IsDA X.prog X.w H a) : ∃ o, s.heap.get? a = some o ∧ o.ExactDict := by
  rcases d with ⟨kvs, d⟩ | ⟨xs, d⟩
  · obtain ⟨_, _, _, _, o, _, _, e, ex, _⟩ := dk_rd I.hok d
    exact ⟨o, e, ex⟩
  · obtain ⟨⟨_, _, _, _, o, _, _, e, ex, _⟩, _⟩ := rd_of I.hok d
    exact ⟨o, e, ex⟩
section
variable {X : Cx} {pos : Pos}
def rIxDA (P : Program) (w : World) : R2 := fun x y H Q => ∃ a v, x = .ref a ∧ DGetA P w H a y (some v) ∧ Q v H
theorem ix_dict (hu : X.A.units + 64 < cLine) : IxR X (rIxDA X.prog X.w) := by
  intro value slice pins s σ H x y v u Q I rx ry h hs
  obtain ⟨a, z, rfl, g, q⟩ := h
  obtain rfl : v = Value.ref a := rx
  have d : IsDA X.prog X.w H a := by
    rcases g with ⟨kvs, k, e, _⟩ | ⟨xs, k, b, e, _⟩
    · exact .inl ⟨kvs, e⟩
    · exact .inr ⟨xs, e.1⟩
  obtain ⟨o, ho, hx⟩ := isDA_at I d
  exact tail_any ⟨o, ho, hx.1⟩ slot_dict_getitem.lookup (getItemA hu I g ry fun w' s' I' r' => ⟨z, H, I', r', q⟩) hs
def rInDA (P : Program) (w : World) (neg : Bool) : R2 := fun y x H Q => ∃ a o, x = .ref a ∧ DGetA P w H a y o ∧ Q (.bl (if neg then !o.isSome else o.isSome)) H
theorem op_inDA (hu : X.A.units + 64 < cLine) : OpR X (compareOp .In) (rInDA X.prog X.w false) := by
  intro pins s σ H x y v u Q I rx ry h
  obtain ⟨a, o, rfl, g, q⟩ := h
  obtain rfl : u = Value.ref a := ry
  exact inA hu I g rx fun s' I' => ⟨.bl o.isSome, H, I', rfl, q⟩
theorem op_notInDA (hu : X.A.units + 64 < cLine) : OpR X (compareOp .NotIn) (rInDA X.prog X.w true) := by
  intro pins s σ H x y v u Q I rx ry h
  obtain ⟨a, o, rfl, g, q⟩ := h
  obtain rfl : u = Value.ref a := ry
  exact notInA hu I g rx fun s' I' => ⟨.bl (!o.isSome), H, I', rfl, q⟩
def rSetDA (P : Program) (w : World) : TSet := fun o i v H Q => ∃ a H', o = .ref a ∧ DPutA P w H a i v H' ∧ Q H'
theorem set_dict (hu : X.A.units + 64 < cLine) : PSet X (rSetDA X.prog X.w) := by
  intro pins s σ H o i v ov iv u Q I ro ri rv h
  obtain ⟨a, H', rfl, g, q⟩ := h
  obtain rfl : ov = Value.ref a := ro
  exact setItemA hu I g ri rv fun s' I' => ⟨H', I', q⟩
theorem PSet.or {r r' : TSet} (h : PSet X r) (h' : PSet X r') : PSet X (fun o i v H Q => r o i v H Q ∨ r' o i v H Q) := by
  intro pins s σ H o i v ov iv u Q I ro ri rv q
  rcases q with q | q
  · exact h pins s σ H o i v ov iv u Q I ro ri rv q
  · exact h' pins s σ H o i v ov iv u Q I ro ri rv q
/-- d.get(k, x) -/
def tGetA (P : Program) (w : World) (td ty tx : TE) : TE := fun σ H Q => td σ H fun x H1 => ∃ a, x = .ref a ∧ IsDA P w H1 a ∧ ty σ H1 fun y H2 => tx σ H2 fun z H3 => ∃ o, DGetA P w H3 a y o ∧ Q (o.getD z) H3
theorem pe_getA {o e f : Expr} {apos cpos : Pos} {td ty tx : TE} (hu : X.A.units + 64 < cLine) (ho : PE X o td) (he : PE X e ty) (hf : PE X f tx) (m : M2 X o "get" apos e f cpos) : PE X (.Call (.Attribute o "get" apos) [e, f] [] cpos) (tGetA X.prog X.w td ty tx) := by
  refine ⟨fun pins s σ H Q I h => ?_⟩
  refine wpAny_Call_method m.base m.few m.line PySem.F.plainAttrs_dict PySem.F.slot_dict_get PySem.F.type_dict_get (thn (ho.run pins s σ H _ I h) fun u s1 ⟨x, H1, I1, rx, a, ex, d, q1⟩ => ?_)
  subst ex
  obtain rfl : u = Value.ref a := rx
  obtain ⟨ob, t1, t2⟩ := isDA_at I1 d
  refine ⟨⟨ob, t1, t2.1⟩, fun b e => by cases e; exact ⟨ob, t1, t2.2.1⟩, ?_⟩
  rw [m.trees]
  refine Calls.callWith_builtin rfl (Calls.evalArgs_plain (Calls.spliced_cons (thn (he.run pins s1 σ H1 _ I1 q1) fun iv s2 ⟨y, H2, I2, ry, q2⟩ =>
    Calls.spliced_cons (thn (hf.run pins s2 σ H2 _ I2 q2) fun fv s3 ⟨z, H3, I3, rz, ov, g, q3⟩ => Calls.spliced_nil ?_))))
  exact getA2 hu I3 g ry rz fun w' s4 I4 rw' => ⟨_, H3, I4, rw', q3⟩
/-- {} -/
def tDNewN (P : Program) (w : World) : TE := fun _ H Q => ∀ p, H p = none → Q (.ref p) (upd H p (dtO P w p []))
theorem dn_empty {P : Program} {w : World} (h : Heap) (hb : sysModules < h.objs.size) : DTr P w h.objs.size [] (h.push { cls := .type "dict", data := .dict #[] }) :=
  ⟨Nat.zero_le _, beq_eq_false_iff_ne.mpr (Ne.symm (Nat.ne_of_lt hb)), [], .nil, _, #[], 0, Heap.get?_push_size _ rfl, ⟨rfl, rfl, rfl⟩, rfl, rfl, List.nodup_nil⟩
theorem pe_dnewN : PE X (.Dict [] [] pos) (tDNewN X.prog X.w) := ⟨fun pins s σ H Q I h =>
  wpAny_Dict_empty ⟨.ref s.heap.objs.size, _, I.laid (a := s.heap.objs.size) (t' := s.toks) (fun _ _ q => Heap.get?_push_of_some _ q) (Nat.le_refl _) (dtO_new (dn_empty s.heap I.big)), rfl, h _ (I.hok.fresh (Nat.le_refl _))⟩⟩
/-- {k: v}, k a tuple -/
def tDisp1 (P : Program) (w : World) (tk tv : TE) : TE := fun σ H Q => ∀ p, H p = none → tk σ (upd H p (dtO P w p [])) fun x H1 => tv σ H1 fun y H2 => H2 p = some (dtO P w p []) ∧ ∃ b k, x = .ref b ∧ NKey P w H2 b k ∧ Q (.ref p) (upd H2 p (dtO P w p [(k, b, y)]))
theorem pe_disp1 {k v : Expr} {tk tv : TE} (hu : X.A.units + 64 < cLine) (hk : PE X k tk) (hv : PE X v tv) : PE X (.Dict [some k] [v] pos) (tDisp1 X.prog X.w tk tv) := by
  refine ⟨fun pins s σ H Q I q => ?_⟩
  have hn := I.hok.fresh (Nat.le_refl s.heap.objs.size)
  have I1 := I.laid (a := s.heap.objs.size) (h' := s.heap.push { cls := .type "dict", data := .dict #[] }) (t' := s.toks) (fun _ _ q => Heap.get?_push_of_some _ q) (Nat.le_refl _) (dtO_new (P := X.prog) (w := X.w) (dn_empty s.heap I.big))
  rw [arm_eval_Dict, zip_pairTrees [some k] [v] X.env pos rfl rfl, dictDisplay_pairs (pairTrees [some k] [v] X.env pos) (fun z => nomatch z) (show 1 < 17 by omega)]
  refine wpAny_bind (wpAny_standAt (wpAny_bind (wpAny_subDictH (knd := nestedKind X.prog X.w) (show X.A.units + 8 < cLine by omega) (show 1 ≤ 15 by omega) ?_)))
  refine pairTrees_cons_walk (thn (hk.run pins _ σ _ _ I1 (q _ hn)) fun kv s2 ⟨x, H2, I2, rx, q2⟩ => thn (hv.run pins s2 σ H2 _ I2 q2) fun vv s3 ⟨y, H3, I3, ry, e, b, kk, eb, hb, q3⟩ => pairTrees_nil_walk ?_)
  subst eb
  obtain rfl : kv = Value.ref b := rx
  obtain ⟨z, hd, ys, rel, dd⟩ := dtr_of I3.hok ⟨.inl e, fun x hx => nomatch hx⟩
  cases rel
  refine ⟨[(kk, b, vv)], ⟨rfl, rfl, hb _ I3.hok, trivial⟩, dd, fun h' tok dd' hs => wpAny_pure ⟨.ref s.heap.objs.size, _, ?_, rfl, q3⟩⟩
  obtain ⟨ob, es, ep, hq, h2, h3, h4, _, h5⟩ := dd'
  exact d_write I3 (by rw [e]; exact True.intro) hs ⟨ob, hq⟩ (dtO_new ⟨by rw [sizeLine_eq]; show 1 ≤ _; omega, hd, [(kk, b, vv)], .cons ⟨rfl, rfl, ry⟩ .nil, ob, es, ep, hq, h2, h3, h4, h5⟩)
end
/-! ### the keys of a dict, walked -/
def Itn (P : Program) (w : World) (d : Addr) (o : Obj) (xs : XT) : It :=
  ⟨fun i H => H d = some (.frz o (dtO P w d xs)) ∧ i < xs.length, fun i H x H' => H' = H ∧ ∃ (k : NestedKey) (q : Addr) (v : V), xs[i]? = some (k, q, v) ∧ x = .ref q, fun i H => H d = some (.frz o (dtO P w d xs)) ∧ xs.length ≤ i⟩
section
variable {X : Cx} {pins : List (Addr × Obj)} {σ : L2.St} {H : Hp} {s : Shared} {d : Addr} {o : Obj}
theorem frzN {P : Program} {w : World} {xs : XT} (hP : X.prog = P) (hw : X.w = w) (I : Inv X pins σ H s) (h : H d = some (.frz o (dtO P w d xs))) :
    (d == sysModules) = false ∧ s.heap.get? d = some o ∧ o.ExactDict ∧ ∃ (es : Array DictEntry) (ep : Nat), o.data = .dict es ep ∧ es.size = xs.length ∧
      ∀ (i : Nat) (k : NestedKey) (q : Addr) (v : V), xs[i]? = some (k, q, v) → ∃ (en : DictEntry), es[i]? = some en ∧ en.key = .ref q := by
  subst hP hw
  obtain ⟨hd, ⟨z, hs, ys, pr, o', es, ep, ho, hx, hdt, he, _⟩, _⟩ := I.hok d _ h
  rw [hd] at ho
  cases ho
  refine ⟨hs, hd, hx, es, ep, hdt, ?_, fun i k q v e => ?_⟩
  · have l1 : es.size = ys.length := size_of_entries he
    have l2 : xs.length = ys.length := Paired.length pr
    omega
  · obtain ⟨b, hb, e1, e2, _⟩ := paired_get pr e
    have q := entry_at he i
    rw [hb] at q
    exact ⟨_, q, by simp only at e2; rw [e2]; rfl⟩
end
section
variable {P : Program} {w : World} {K : PySem.W.Frag} {tg : Expr} {d : Addr} {o : Obj} {es : Array DictEntry} {ep : Nat}
theorem turn_keysN {xs : XT} (it : Addr) (hod : o.data = .dict es ep) : Turn P w K tg (Itn P w d o xs) [it] it (fun i h => h.IsKeyIter it d i xs.length ep) where
  mem := List.mem_singleton_self it
  obj := fun _ _ ⟨oi, at_, _, data⟩ _ m => ⟨oi, List.mem_singleton.mp m ▸ at_, fun _ q => nomatch data.symm.trans q⟩
  keep := fun _ _ _ st k => st.at (k it (List.mem_singleton_self it))
  item := fun X hP hw hK hc i pins s σ H E V hf st ⟨hd, hi⟩ => by
    have ⟨_, at_, _, _, _, data, n, key⟩ := frzN hP hw V hd
    obtain ⟨rfl, rfl⟩ := dict_ep hod data
    subst hP hw hK
    have hx : xs[i]? = some (xs[i].1, xs[i].2.1, xs[i].2.2) := List.getElem?_eq_getElem hi
    have ⟨en, hen, ek⟩ := key i _ _ _ hx
    have ⟨a, b, _, c, e, f⟩ := hf it (List.mem_singleton_self it)
    refine next_key_item st at_ data n hen fun g ⟨oi, at', cls, data'⟩ only => ⟨en.key, rfl, ?_⟩
    have V' := V.turned (t' := s.toks) (fun z _ ne old => (only.2 z ne).trans old) a b c e f
    exact go_of (s := { s with heap := g }) at' cls data' (by decide) ⟨.ref _, H, V', ek, ⟨rfl, _, _, _, hx, rfl⟩, ⟨oi, at', cls, data'⟩, fun z m => (hf z m).1⟩
  done := fun X hP hw hK hc i pins s σ H E V hf st ⟨hd, past⟩ => by
    have ⟨_, at_, _, _, _, data, n, _⟩ := frzN hP hw V hd
    obtain ⟨rfl, rfl⟩ := dict_ep hod data
    subst hP hw hK
    have ⟨a, b, _, c, e, f⟩ := hf it (List.mem_singleton_self it)
    exact next_key_end (V.ok.hd hc) st at_ data n past fun _ but => ⟨rfl, V.turned (t' := s.toks) (fun z o ne old => but z o ne old) a b c e f⟩
  self := fun _ _ _ _ _ st q => wpAny_pyIter_keyiter st q
theorem walk_keysN {xs : XT} : Walk (Itn P w d o xs) xs.length (fun H => H d = some (.frz o (dtO P w d xs))) (fun i H x H' => H' = H ∧ ∃ (k : NestedKey) (q : Addr) (v : V), xs[i]? = some (k, q, v) ∧ x = .ref q) :=
  ⟨fun i H hi g => ⟨g, hi⟩, fun H g => ⟨g, Nat.le_refl _⟩, fun i H x H' hi g h => h⟩
end
section
variable {X : Cx} {tg e : Expr} {td : TE}
/-- a list, a tuple, a dict's keys -/
def wSeqA (P : Program) (w : World) (K : PySem.W.Frag) (ta : TE) : TI := fun σ H R => ta σ H fun x H1 => (∃ a, x = .ref a ∧ (∃ xs, SqL K H1 a xs) ∧ R (Itl K a) H1) ∨ (∃ a, x = .ref a ∧ (∃ xs, SqT K H1 a xs) ∧ R (Itt K a) H1) ∨
  (∃ a o kvs, x = .ref a ∧ H1 a = some (.frz o (.dK kvs)) ∧ R (Itk a o kvs) H1) ∨ ∃ a o xs, x = .ref a ∧ H1 a = some (.frz o (dtO P w a xs)) ∧ R (Itn P w a o xs) H1
theorem pi_seqA (h : PE X e td) : PI X tg e (wSeqA X.prog X.w X.K td) := by
  refine ⟨fun pins s σ H R I hw => ?_⟩
  refine thn (h.run pins s σ H _ I hw) fun v s1 hv => ?_
  obtain ⟨x, H1, I1, r1, q1⟩ := hv
  have fp : ∀ b ∈ [s1.heap.objs.size], FpOk X pins H1 b := fun b hb => by
    rw [List.mem_singleton.mp hb]
    exact I1.fpOk (Nat.le_refl _) (I1.hok.fresh (Nat.le_refl _))
  rcases q1 with ⟨a, rfl, ⟨xs, hq⟩, q⟩ | ⟨a, rfl, ⟨xs, hq⟩, q⟩ | ⟨a, o, kvs, rfl, hd, q⟩ | ⟨a, o, xs, rfl, hd, q⟩
  · cases r1
    obtain ⟨its, _, p, _⟩ := I1.list hq
    exact wpAny_pyIter_list p.isList ⟨_, _, _, _, H1, rfl, I1.kept (t' := s1.toks) (fun b o k => Heap.get?_push_of_some _ k), turn_list a _, ⟨_, Heap.get?_push_size _ rfl, rfl, rfl⟩, fp, q⟩
  · cases r1
    obtain ⟨its, _, p, _⟩ := I1.tuple hq
    exact wpAny_pyIter_tuple (show s1.heap.IsTuple a its.toArray from p) ⟨_, _, _, _, H1, rfl, I1.kept (t' := s1.toks) (fun b o k => Heap.get?_push_of_some _ k), turn_tuple a _, ⟨_, Heap.get?_push_size _ rfl, rfl, rfl⟩, fp, q⟩
  · cases r1
    obtain ⟨hs, hgd, hx, es, ep, vs, hdt, hsz, kv, hm⟩ := I1.frzK hd
    refine iter_keys hs hgd hx hdt (pi_one (tk := s1.toks) I1 _ (turn_keys _ hdt) ⟨_, Heap.get?_push_size _ rfl, rfl, ?_⟩ q)
    rw [hsz] <;> rfl
  · cases r1
    obtain ⟨hs, hgd, hx, es, ep, hdt, hsz, ent⟩ := frzN rfl rfl I1 hd
    refine iter_keys hs hgd hx hdt (pi_one (tk := s1.toks) I1 _ (turn_keysN _ hdt) ⟨_, Heap.get?_push_size _ rfl, rfl, ?_⟩ q)
    rw [hsz] <;> rfl
end
end RD

end
section
namespace RD
open PySem L2
variable [HasK]
/-! ### dicts as data -/
def keyOf : D → Option Key
  | .int i => some (.inl i)
  | .str x => some (.inr x)
  | _ => none
theorem keyOf_keyD (k : Key) : keyOf (keyD k) = some k := by cases k <;> rfl
theorem keyD_of {d : D} {k : Key} (h : keyOf d = some k) : d = keyD k := by
  cases d with
  | int i => cases h; rfl
  | str i => cases h; rfl
  | _ => cases h
def isK (es : List (D × D)) : Bool := es.all fun p => (keyOf p.1).isSome
def getK (es : List (D × D)) (k : Key) : Option D := (es.find? fun p => decide (keyOf p.1 = some k)).map (·.2)
def putKD (es : List (D × D)) (k : Key) (v : D) : List (D × D) :=
  if (getK es k).isSome then es.map (fun p => if keyOf p.1 = some k then (p.1, v) else p) else es ++ [(keyD k, v)]
def getT (es : List (D × D)) (k : NestedKey) : Option D := (es.find? fun p => decide (nkD p.1 = some k)).map (·.2)
def putTD (es : List (D × D)) (k : NestedKey) (kd v : D) : List (D × D) :=
  if (getT es k).isSome then es.map (fun p => if nkD p.1 = some k then (p.1, v) else p) else es ++ [(kd, v)]
def keyT (d : D) : Option NestedKey := match d with
  | .tuple _ => (nkD d).bind fun k => if k.depth ≤ 8 then some k else none
  | _ => none
theorem keyT_of {d : D} {k : NestedKey} (h : keyT d = some k) : (∃ ds, d = .tuple ds) ∧ nkD d = some k ∧ k.depth ≤ 8 := by
  unfold keyT at h
  split at h
  · obtain ⟨k', h1, h2⟩ := Option.bind_eq_some_iff.mp h
    split at h2
    · cases h2; exact ⟨⟨_, rfl⟩, h1, by assumption⟩
    · cases h2
  · cases h
theorem RpK.isK {F : Hp} : ∀ {kvs : List (Key × V)} {es : List (D × D)}, RpK F kvs es → RD.isK es = true
  | _, _, .nil => rfl
  | _, _, .cons (k := k) h r => by
    have := RpK.isK r
    unfold RD.isK at this ⊢
    rw [List.all_cons, this, keyOf_keyD]
    rfl
theorem RpK.len {F : Hp} : ∀ {kvs : List (Key × V)} {es : List (D × D)}, RpK F kvs es → kvs.length = es.length
  | _, _, .nil => rfl
  | _, _, .cons _ r => by rw [List.length_cons, List.length_cons, r.len]
theorem RpK.get {F : Hp} (k : Key) : ∀ {kvs : List (Key × V)} {es : List (D × D)}, RpK F kvs es → (valV kvs k = none ∧ getK es k = none) ∨ ∃ v d, valV kvs k = some v ∧ getK es k = some d ∧ Rp F v d
  | _, _, .nil => .inl ⟨rfl, rfl⟩
  | _, _, .cons (k := k') (v := v) (d := d) (kvs := kvs) (es := es) h r => by
    by_cases e : k' = k
    · subst e
      exact .inr ⟨v, d, valV_pos rfl, by simp [getK, keyOf_keyD], h⟩
    · have e1 : valV ((k', v) :: kvs) k = valV kvs k := valV_neg e
      have e2 : getK ((keyD k', d) :: es) k = getK es k := by simp [getK, keyOf_keyD, e]
      rw [e1, e2]
      exact RpK.get k r
theorem RpK.app {F : Hp} : ∀ {kvs kws : List (Key × V)} {es fs : List (D × D)}, RpK F kvs es → RpK F kws fs → RpK F (kvs ++ kws) (es ++ fs)
  | _, _, _, _, .nil, s => s
  | _, _, _, _, .cons h r, s => .cons h (r.app s)
theorem RpK.repl {F : Hp} {k : Key} {v : V} {d : D} (hv : Rp F v d) : ∀ {kvs : List (Key × V)} {es : List (D × D)}, RpK F kvs es → RpK F (kvs.map fun kv => if kv.1 = k then (kv.1, v) else kv) (es.map fun p => if keyOf p.1 = some k then (p.1, d) else p)
  | _, _, .nil => .nil
  | _, _, .cons (k := k') h r => by
    rw [List.map_cons, List.map_cons, keyOf_keyD]
    by_cases e : k' = k
    · subst e
      rw [if_pos rfl, if_pos rfl]
      exact .cons hv (RpK.repl hv r)
    · rw [if_neg e, if_neg (fun z => e (Option.some.inj z))]
      exact .cons h (RpK.repl hv r)
theorem RpK.put {F : Hp} {k : Key} {v : V} {d : D} (hv : Rp F v d) {kvs : List (Key × V)} {es : List (D × D)} (r : RpK F kvs es) : RpK F (putK kvs k v) (putKD es k d) := by
  have e : (kvs.any fun kv => decide (kv.1 = k)) = (getK es k).isSome := by
    rw [valV_any]
    rcases r.get k with ⟨h1, h2⟩ | ⟨v, d, h1, h2, _⟩ <;> rw [h1, h2] <;> rfl
  unfold putK putKD
  rw [e]
  split
  · exact r.repl hv
  · exact r.app (.cons hv .nil)
theorem RpT.len {F : Hp} : ∀ {xs : XT} {es : List (D × D)}, RpT F xs es → xs.length = es.length
  | _, _, .nil => rfl
  | _, _, .cons _ _ _ _ r => by rw [List.length_cons, List.length_cons, r.len]
theorem RpT.get {F : Hp} (k : NestedKey) : ∀ {xs : XT} {es : List (D × D)}, RpT F xs es → (atV xs k = none ∧ getT es k = none) ∨ ∃ q v d, atV xs k = some (q, v) ∧ getT es k = some d ∧ Rp F v d
  | _, _, .nil => .inl ⟨rfl, rfl⟩
  | _, _, .cons (k := k') (b := b) (v := v) (kd := kd) (d := d) (xs := xs) (es := es) g q dp h r => by
    by_cases e : k' = k
    · subst e
      exact .inr ⟨b, v, d, by simp [atV], by simp [getT, q], h⟩
    · have e1 : atV ((k', b, v) :: xs) k = atV xs k := by simp [atV, e]
      have e2 : getT ((kd, d) :: es) k = getT es k := by simp [getT, q, e]
      rw [e1, e2]
      exact RpT.get k r
theorem RpT.app {F : Hp} : ∀ {xs ys : XT} {es fs : List (D × D)}, RpT F xs es → RpT F ys fs → RpT F (xs ++ ys) (es ++ fs)
  | _, _, _, _, .nil, s => s
  | _, _, _, _, .cons g q dp h r, s => .cons g q dp h (r.app s)
theorem RpT.repl {F : Hp} {k : NestedKey} {v : V} {d : D} (hv : Rp F v d) : ∀ {xs : XT} {es : List (D × D)}, RpT F xs es → RpT F (xs.map fun x => if x.1 = k then (x.1, x.2.1, v) else x) (es.map fun p => if nkD p.1 = some k then (p.1, d) else p)
  | _, _, .nil => .nil
  | _, _, .cons (k := k') g q dp h r => by
    rw [List.map_cons, List.map_cons, q]
    by_cases e : k' = k
    · subst e
      rw [if_pos rfl, if_pos rfl]
      exact .cons g q dp hv (RpT.repl hv r)
    · rw [if_neg e, if_neg (fun z => e (Option.some.inj z))]
      exact .cons g q dp h (RpT.repl hv r)
theorem RpT.put {F : Hp} {k : NestedKey} {b : Addr} {kd : D} {v : V} {d : D} (g : Rp F (.ref b) kd) (q : nkD kd = some k) (dp : k.depth ≤ 8) (hv : Rp F v d) {xs : XT} {es : List (D × D)} (r : RpT F xs es) : RpT F (putV xs k b v) (putTD es k kd d) := by
  have e : (atV xs k).isSome = (getT es k).isSome := by
    rcases r.get k with ⟨h1, h2⟩ | ⟨q, v, d, h1, h2, _⟩ <;> rw [h1, h2] <;> rfl
  unfold putV putTD
  rw [e]
  split
  · exact r.repl hv
  · exact r.app (.cons g q dp hv .nil)
theorem Gt.sq {P : Program} {w : World} {H : Hp} {h : Heap} {a : Addr} {xs : List V} (ok : HOk P w H h) (g : Gt H a xs) : ∃ its : List Value, Vals xs its ∧ PyProof.Rows.IsTup h a its.toArray := by
  obtain ⟨o, h1, _⟩ := g
  obtain ⟨_, _, its, r, p⟩ := ok a _ h1
  exact ⟨its, r, p⟩
mutual
theorem Rp.nested {P : Program} {w : World} {H : Hp} {h : Heap} (ok : HOk P w H h) : ∀ {v : V} {d : D} {k : NestedKey} {u : Value}, Rp H v d → nkD d = some k → RelV v u → NestedIs h k u
  | _, _, _, _, .non, q, r => by cases q; cases r; exact .none
  | _, _, _, _, .int i, q, r => by cases q; obtain ⟨t, rfl⟩ := r; exact .int _ _
  | _, _, _, _, .str x, q, r => by cases q; obtain ⟨t, rfl⟩ := r; exact .text _ _
  | _, _, _, _, .tup g ra, q, r => by
    simp only [nkD] at q
    obtain ⟨ks, q1, rfl⟩ := Option.map_eq_some_iff.mp q
    obtain ⟨its, rv, o, h1, h2, n, h3⟩ := g.sq ok
    cases r
    exact .tup h1 h2 h3 (by simpa using RpAll.nested ok ra q1 rv)
  | _, _, _, _, .bl b, q, r => by simp [nkD] at q
  | _, _, _, _, .lst _ _, q, r => by simp [nkD] at q
  | _, _, _, _, .soft _ _, q, r => by simp [softD, nkD] at q
  | _, _, _, _, .scr _, q, r => by simp [scrD, nkD] at q
  | _, _, _, _, .dK _ _, q, r => by simp [nkD] at q
  | _, _, _, _, .dT _ _, q, r => by simp [nkD] at q
theorem RpAll.nested {P : Program} {w : World} {H : Hp} {h : Heap} (ok : HOk P w H h) : ∀ {vs : List V} {ds : List D} {ks : List NestedKey} {us : List Value}, RpAll H vs ds → nkDs ds = some ks → Vals vs us → NestedAll h ks us
  | _, _, _, _, .nil, q, .nil => by cases q; exact .nil
  | _, _, _, _, .cons hr r, q, .cons rv rs => by
    simp only [nkDs] at q
    obtain ⟨k, q1, q2⟩ := Option.bind_eq_some_iff.mp q
    obtain ⟨ks, q3, rfl⟩ := Option.map_eq_some_iff.mp q2
    exact .cons (Rp.nested ok hr q1 rv) (RpAll.nested ok r q3 rs)
end
theorem Rp.nkey {P : Program} {w : World} {F H : Hp} {b : Addr} {d : D} {k : NestedKey} (e : Ex F H) (r : Rp F (.ref b) d) (q : nkD d = some k) (dp : k.depth ≤ 8) : NKey P w H b k := fun h ok => ⟨Rp.nested ok (r.mono e) q rfl, dp⟩
theorem RpT.keys {P : Program} {w : World} {F H : Hp} (e : Ex F H) : ∀ {xs : XT} {es : List (D × D)}, RpT F xs es → KeysOk P w H xs
  | _, _, .nil => fun x hx => nomatch hx
  | _, _, .cons g q dp h r => fun x hx => by
    rcases List.mem_cons.mp hx with z | hx
    · subst z; exact Rp.nkey e g q dp
    · exact RpT.keys e r x hx
/-- a dict, frozen or one's own: with numbers or texts as keys; with tuples -/
theorem Rp.invD {F : Hp} {v : V} {d : D} (h : Rp F v d) : ∀ es, d = .dict es → (∃ (a : Addr) (ns : List Int), v = .ref a ∧ SqL HasK.K F a (ns.map V.int) ∧ es = [(.none, .list (ns.map .int))]) ∨
    (∃ (a : Addr) (xs : List V) (ds : List D), v = .ref a ∧ F a = some (.tup xs) ∧ RpAll F xs ds ∧ es = [(.none, .tuple ds)]) ∨
    (∃ (a : Addr) (o : Obj) (kvs : List (Key × V)), v = .ref a ∧ F a = some (.frz o (.dK kvs)) ∧ RpK F kvs es) ∨
    (∃ (a : Addr) (o : Obj) (xs : XT) (es' : List (D × D)), v = .ref a ∧ F a = some (.frz o (dtO HasK.P HasK.w a xs)) ∧ RpT F xs es' ∧ es = (.none, .none) :: es') := by
  cases h with
  | scr h => exact fun es q => .inl ⟨_, _, rfl, h, by injection q with q; exact q.symm⟩
  | soft h r => exact fun es q => .inr (.inl ⟨_, _, _, rfl, h, r, by injection q with q; exact q.symm⟩)
  | dK h r => exact fun es q => .inr (.inr (.inl ⟨_, _, _, rfl, h, by injection q with q; subst q; exact r⟩))
  | dT h r => exact fun es q => .inr (.inr (.inr ⟨_, _, _, _, rfl, h, r, by injection q with q; exact q.symm⟩))
  | _ => exact fun es q => nomatch q
theorem Bw.dictK {F H : Hp} {v : V} {es : List (D × D)} (e : Ex F H) (h : Bw F H v (.dict es)) (k : isK es = true) : ∃ a kvs, v = .ref a ∧ Rd H a (.dK kvs) ∧ RpK F kvs es := by
  rcases h with h | ⟨a, h1, h2⟩
  · rcases h.invD _ rfl with ⟨a, ns, _, _, rfl⟩ | ⟨a, xs, ds, _, _, _, rfl⟩ | ⟨a, o, kvs, rfl, h2, h3⟩ | ⟨a, o, xs, es', _, _, _, rfl⟩
    · cases k
    · cases k
    · exact ⟨a, kvs, rfl, .inr ⟨o, e _ _ h2⟩, h3⟩
    · cases k
  · rcases h2 with ⟨kvs, h3, h4⟩ | ⟨xs, es', _, _, rfl⟩
    · exact ⟨a, kvs, h1, .inl h3, h4⟩
    · cases k
theorem Bw.dictT {F H : Hp} {v : V} {es : List (D × D)} (e : Ex F H) (h : Bw F H v (.dict ((.none, .none) :: es))) : ∃ a xs, v = .ref a ∧ RdT HasK.P HasK.w H a xs ∧ RpT F xs es := by
  have kk : ∀ kvs, ¬ RpK F kvs ((.none, .none) :: es) := fun kvs h => by
    have := h.isK
    cases this
  rcases h with h | ⟨a, h1, h2⟩
  · rcases h.invD _ rfl with ⟨a, ns, _, _, q⟩ | ⟨a, xs, ds, _, _, _, q⟩ | ⟨a, o, kvs, rfl, h2, h3⟩ | ⟨a, o, xs, es', h1, h2, h3, q⟩
    · cases q
    · cases q
    · exact absurd h3 (kk _)
    · cases q
      exact ⟨a, xs, h1, ⟨.inr ⟨o, e _ _ h2⟩, h3.keys e⟩, h3⟩
  · rcases h2 with ⟨kvs, h3, h4⟩ | ⟨xs, es', h3, h4, q⟩
    · exact absurd h4 (kk _)
    · cases q
      exact ⟨a, xs, h1, ⟨.inl h3, h4.keys e⟩, h4⟩
theorem Bw.scr {F H : Hp} {v : V} {xs : List D} (e : Ex F H) (h : Bw F H v (.dict [(.none, .list xs)])) : ∃ (a : Addr) (ns : List Int), v = .ref a ∧ SqL HasK.K H a (ns.map V.int) ∧ xs = ns.map .int := by
  have kk : ∀ kvs, ¬ RpK F kvs [(.none, .list xs)] := fun kvs h => by
    have := h.isK
    cases this
  rcases h with h | ⟨a, h1, h2⟩
  · rcases h.invD _ rfl with ⟨a, ns, h1, h2, q⟩ | ⟨a, xs, ds, _, _, _, q⟩ | ⟨a, o, kvs, rfl, h2, h3⟩ | ⟨a, o, xs, es', h1, h2, h3, q⟩
    · cases q
      exact ⟨a, ns, h1, h2.imp (rd_ex e) id, rfl⟩
    · cases q
    · exact absurd h3 (kk _)
    · cases q
  · rcases h2 with ⟨kvs, h3, h4⟩ | ⟨xs, es', h3, h4, q⟩
    · exact absurd h4 (kk _)
    · cases q
/-- what a dict holds at a key: none: it is no dict, or that is no key -/
def dgetD : D → D → Option (Option D)
  | .dict ((.none, .none) :: es), k => (keyT k).map (getT es)
  | .dict es, k => if isK es then (keyOf k).map (getK es) else none
  | _, _ => none
theorem dget_of {F H : Hp} {x y : V} {d e : D} {o : Option D} (ex : Ex F H) (bx : Bw F H x d) (by_ : Bw F H y e) (h : dgetD d e = some o) : ∃ a r, x = .ref a ∧ DGetA HasK.P HasK.w H a y r ∧
    ((r = none ∧ o = none) ∨ ∃ v z, r = some v ∧ o = some z ∧ Rp F v z) := by
  unfold dgetD at h
  split at h
  · obtain ⟨k, h1, rfl⟩ := Option.map_eq_some_iff.mp h
    obtain ⟨⟨ds, rfl⟩, h2, h3⟩ := keyT_of h1
    obtain ⟨a, xs, rfl, r1, r2⟩ := bx.dictT ex
    have rk := by_.rpT
    obtain ⟨b, us, rfl, _, _⟩ := by_.tup ex
    refine ⟨a, _, rfl, .inr ⟨xs, k, b, r1, rfl, rk.nkey ex h2 h3, rfl⟩, ?_⟩
    rcases r2.get k with ⟨q1, q2⟩ | ⟨q, v, z, q1, q2, q3⟩
    · exact .inl ⟨by rw [q1]; rfl, q2⟩
    · exact .inr ⟨v, z, by rw [q1]; rfl, q2, q3⟩
  · split at h
    · rename_i hk
      obtain ⟨k, h1, rfl⟩ := Option.map_eq_some_iff.mp h
      have := keyD_of h1
      subst this
      obtain ⟨a, kvs, rfl, r1, r2⟩ := bx.dictK ex hk
      have ey : y = kV k := by
        cases k with
        | inl i => exact Bw.int by_
        | inr i => exact Bw.str by_
      refine ⟨a, _, rfl, .inl ⟨kvs, k, r1, ey, rfl⟩, ?_⟩
      rcases r2.get k with ⟨q1, q2⟩ | ⟨v, z, q1, q2, q3⟩
      · exact .inl ⟨q1, q2⟩
      · exact .inr ⟨v, z, q1, q2, q3⟩
    · cases h
  · cases h
theorem dget_isD {P : Program} {w : World} {H : Hp} {a : Addr} {y : V} {r : Option V} (g : DGetA P w H a y r) : IsDA P w H a := by
  rcases g with ⟨kvs, k, e, _⟩ | ⟨xs, k, b, e, _⟩
  · exact .inl ⟨kvs, e⟩
  · exact .inr ⟨xs, e.1⟩
end RD

end
section
namespace RD
open PySem L2
variable [HasK]
theorem if_some {α : Type} {p : Prop} [Decidable p] {a z : α} (h : (if p then some a else none) = some z) : p ∧ a = z := by
  split at h
  · exact ⟨by assumption, Option.some.inj h⟩
  · cases h
mutual
theorem Rp.dp {K : PySem.W.Frag} {H : Hp} : ∀ {v : V} {d : D}, Rp H v d → d.canLay0 = true → Dp K H v d
  | _, _, .non, _ => .non
  | _, _, .bl b, _ => .bl b
  | _, _, .int i, _ => .int i
  | _, _, .str x, _ => .str x
  | _, _, .lst h r, q => .lst (sqL h) (RpAll.dp r (by simpa [PyData.canLay0] using q))
  | _, _, .tup h r, q => .tup (sqT h) (RpAll.dp r (by simpa [PyData.canLay0] using q))
  | _, _, .soft h r, q => by simp [softD, PyData.canLay0] at q
  | _, _, .scr h, q => by simp [scrD, PyData.canLay0] at q
  | _, _, .dK h r, q => by simp [PyData.canLay0] at q
  | _, _, .dT h r, q => by simp [PyData.canLay0] at q
theorem RpAll.dp {K : PySem.W.Frag} {H : Hp} : ∀ {vs : List V} {ds : List D}, RpAll H vs ds → PyData.canLayAll0 ds = true → DpAll K H vs ds
  | _, _, .nil, _ => .nil
  | _, _, .cons h r, q => by
    have q2 := q
    simp only [PyData.canLayAll0, Bool.and_eq_true] at q2
    exact .cons (Rp.dp h q2.1) (RpAll.dp r q2.2)
end
theorem Bw.dp {K : PySem.W.Frag} {F H : Hp} {v : V} {d : D} (e : Ex F H) (h : Bw F H v d) (q : d.canLay0 = true) : Dp K H v d := by
  rcases h with h | ⟨a, h1, h2⟩
  · exact (h.mono e).dp q
  · cases d with
    | list ds =>
      obtain ⟨xs, h3, h4⟩ := h2
      subst h1
      exact .lst (sqL h3) ((h4.mono e).dp (by simpa [PyData.canLay0] using q))
    | dict es => simp [PyData.canLay0] at q
    | _ => exact h2.elim
theorem shp {d : D} (h : SeqAt.shaped d = true) : d.canLay0 = true := SeqAt.canLay_of_shaped h
section
variable {c : Cc} {e a b : Expr} {es : List Expr} {da db dc : DE} {pos : Pos} {ta tb tc : TE} {tt tt' : TT} {tl th : TO} {tr : TA}
/-- ==, != -/
def eqD (neg : Bool) : D → D → Option D := fun d e => match d, e with
  | .int i, .int j => some (.bool (if neg then !decide (i = j) else decide (i = j)))
  | d, e => if SeqAt.shaped d = true ∧ SeqAt.shaped e = true then some (.bool (if neg then !PyData.eqv d e else PyData.eqv d e)) else none
theorem eqD_cases {neg : Bool} {d e z : D} (h : eqD neg d e = some z) : (∃ i j, d = .int i ∧ e = .int j ∧ z = .bool (if neg then !decide (i = j) else decide (i = j))) ∨
    (SeqAt.shaped d = true ∧ SeqAt.shaped e = true ∧ z = .bool (if neg then !PyData.eqv d e else PyData.eqv d e)) := by
  unfold eqD at h
  split at h
  · cases h; exact .inl ⟨_, _, rfl, rfl, rfl⟩
  · obtain ⟨⟨h1, h2⟩, h3⟩ := if_some h
    exact .inr ⟨h1, h2, h3.symm⟩
def rEqA (K : PySem.W.Frag) : R2 := fun x y H Q => rEq x y H Q ∨ rEqD K x y H Q
def rNeA (K : PySem.W.Frag) : R2 := fun x y H Q => rNe x y H Q ∨ rNeD K x y H Q
theorem vint_inj {i j : Int} : decide (V.int i = V.int j) = decide (i = j) := by
  by_cases h : i = j
  · subst h; simp
  · rw [decide_eq_false h, decide_eq_false (fun q => h (by injection q))]
theorem s_eqA {K : PySem.W.Frag} : OpS (rEqA K) (eqD false) := by
  intro F H x y d e z Q ex bx by_ hz h
  rcases eqD_cases hz with ⟨i, j, rfl, rfl, rfl⟩ | ⟨h1, h2, rfl⟩
  · have e1 := bx.int; have e2 := by_.int
    subst e1; subst e2
    refine .inl ⟨rfl, ?_⟩
    rw [vint_inj]
    exact h _ F H (.refl ex) (.bl _)
  · exact .inr ⟨d, e, bx.dp ex (shp h1), by_.dp ex (shp h2), h1, h2, h _ F H (.refl ex) (.bl _)⟩
theorem s_neA {K : PySem.W.Frag} : OpS (rNeA K) (eqD true) := by
  intro F H x y d e z Q ex bx by_ hz h
  rcases eqD_cases hz with ⟨i, j, rfl, rfl, rfl⟩ | ⟨h1, h2, rfl⟩
  · have e1 := bx.int; have e2 := by_.int
    subst e1; subst e2
    refine .inl ⟨rfl, ?_⟩
    rw [vint_inj]
    exact h _ F H (.refl ex) (.bl _)
  · exact .inr ⟨d, e, bx.dp ex (shp h1), by_.dp ex (shp h2), h1, h2, h _ F H (.refl ex) (.bl _)⟩
theorem je_eq (hu : c.X.A.units + 64 < cLine) (ha : JB c a ta da) (hb : JB c b tb db) : JE c (.Compare a [.Eq] [b] pos) (tOp (rEqA HasK.K) ta tb) (dOp (eqD false) da db) := by
  rw [← c.hK]
  exact je_cmpR (OpR.or op_eq (op_eqD hu)) s_eqA ha hb (nomark _)
theorem je_ne (hu : c.X.A.units + 64 < cLine) (ha : JB c a ta da) (hb : JB c b tb db) : JE c (.Compare a [.NotEq] [b] pos) (tOp (rNeA HasK.K) ta tb) (dOp (eqD true) da db) := by
  rw [← c.hK]
  exact je_cmpR (OpR.or op_ne (op_neD hu)) s_neA ha hb (nomark _)
theorem jt_eq (hu : c.X.A.units + 64 < cLine) (ha : JB c a ta da) (hb : JB c b tb db) : JT c (.Compare a [.Eq] [b] pos) (tTest (tOp (rEqA HasK.K) ta tb)) (dTest (dOp (eqD false) da db)) := by
  rw [← c.hK]
  exact jt_cmpR (OpR.or op_eq (op_eqD hu)) s_eqA ha hb (nomark _)
theorem jt_ne (hu : c.X.A.units + 64 < cLine) (ha : JB c a ta da) (hb : JB c b tb db) : JT c (.Compare a [.NotEq] [b] pos) (tTest (tOp (rNeA HasK.K) ta tb)) (dTest (dOp (eqD true) da db)) := by
  rw [← c.hK]
  exact jt_cmpR (OpR.or op_ne (op_neD hu)) s_neA ha hb (nomark _)
/-- <, <=, >, >= of ints -/
def ltD := i2 fun i j => some (.bool (decide (i < j)))
def leD := i2 fun i j => some (.bool (decide (i ≤ j)))
def gtD := i2 fun i j => some (.bool (decide (j < i)))
def geD := i2 fun i j => some (.bool (decide (j ≤ i)))
theorem s_b2 {g : Int → Int → Bool} : OpS (rI0 fun i j => .bl (g i j)) (i2 fun i j => some (.bool (g i j))) := s_i2 fun F H i j z Q ex hz k => ⟨i, j, rfl, rfl, by cases hz; exact k _ F H (.refl ex) (.bl _)⟩
theorem je_lt (ha : JB c a ta da) (hb : JB c b tb db) : JE c (.Compare a [.Lt] [b] pos) (tOp (rI0 fun i j => .bl (decide (i < j))) ta tb) (dOp ltD da db) := je_cmpR op_lt s_b2 ha hb (nomark _)
theorem je_le (ha : JB c a ta da) (hb : JB c b tb db) : JE c (.Compare a [.LtE] [b] pos) (tOp (rI0 fun i j => .bl (decide (i ≤ j))) ta tb) (dOp leD da db) := je_cmpR op_le s_b2 ha hb (nomark _)
theorem je_gt (ha : JB c a ta da) (hb : JB c b tb db) : JE c (.Compare a [.Gt] [b] pos) (tOp (rI0 fun i j => .bl (decide (j < i))) ta tb) (dOp gtD da db) := je_cmpR op_gt s_b2 ha hb (nomark _)
theorem je_ge (ha : JB c a ta da) (hb : JB c b tb db) : JE c (.Compare a [.GtE] [b] pos) (tOp (rI0 fun i j => .bl (decide (j ≤ i))) ta tb) (dOp geD da db) := je_cmpR op_ge s_b2 ha hb (nomark _)
theorem jt_lt (ha : JB c a ta da) (hb : JB c b tb db) : JT c (.Compare a [.Lt] [b] pos) (tTest (tOp (rI0 fun i j => .bl (decide (i < j))) ta tb)) (dTest (dOp ltD da db)) := jt_cmpR op_lt s_b2 ha hb (nomark _)
theorem jt_le (ha : JB c a ta da) (hb : JB c b tb db) : JT c (.Compare a [.LtE] [b] pos) (tTest (tOp (rI0 fun i j => .bl (decide (i ≤ j))) ta tb)) (dTest (dOp leD da db)) := jt_cmpR op_le s_b2 ha hb (nomark _)
theorem jt_gt (ha : JB c a ta da) (hb : JB c b tb db) : JT c (.Compare a [.Gt] [b] pos) (tTest (tOp (rI0 fun i j => .bl (decide (j < i))) ta tb)) (dTest (dOp gtD da db)) := jt_cmpR op_gt s_b2 ha hb (nomark _)
theorem jt_ge (ha : JB c a ta da) (hb : JB c b tb db) : JT c (.Compare a [.GtE] [b] pos) (tTest (tOp (rI0 fun i j => .bl (decide (j ≤ i))) ta tb)) (dTest (dOp geD da db)) := jt_cmpR op_ge s_b2 ha hb (nomark _)
/-- a <= b <= c -/
def dChain (g g' : D → D → Option D) (da db dc : DE) : DE := fun δ => (da δ).bind fun x => (db δ).bind fun y => (Res.ofO (g x y)).bind fun z => match z with
  | .bool true => (dc δ).bind fun w => Res.ofO (g' y w)
  | .bool false => .ok (.bool false)
  | _ => .stuck
theorem sim_chain {r r' : R2} {g g' : D → D → Option D} (hs : OpS r g) (hs' : OpS r' g') (ha : Sim RB c ta da) (hb : Sim RB c tb db) (hc : Sim RB c tc dc) : Sim RF c (tChain r r' ta tb tc) (dChain g g' da db dc) := fun F H σ δ Q S P =>
  ha.go S P fun F1 H1 x d s1 S1 hx P1 => hb.go S1 P1 fun F2 H2 y e s2 S2 hy P2 => by
    have hx2 := hx.mono s2.ff s2.hh
    cases q : g d e with
    | none => rw [q] at P2; exact P2.elim
    | some z =>
      rw [q] at P2
      refine hs F2 H2 x y d e z _ S2.fh hx2 hy q fun v F3 H3 s3 hv => ?_
      cases z with
      | bool k =>
        cases hv
        refine ⟨k, rfl, ?_⟩
        cases k with
        | false => exact iteF (P2 _ F3 H3 s3 (.bl _))
        | true =>
          refine iteT (hc.go (S2.step s3) (PostG.step s3 P2) fun F4 H4 w f s4 S4 hw P4 => Sim.last P4 fun z hz k => hs' F4 H4 y w e f z Q S4.fh ((hy.mono s3.ff s3.hh).mono s4.ff s4.hh) hw hz k)
      | _ => exact P2.elim
theorem je_chain {op op' : CmpOp} {r r' : R2} {g g' : D → D → Option D} {x : Expr} (ho : OpR c.X (compareOp op) r) (hs : OpS r g) (ho' : OpR c.X (compareOp op') r') (hs' : OpS r' g') (ha : JB c a ta da) (hb : JB c b tb db) (hc : JB c x tc dc)
    (hm : lastMarks [op, op'] [b, x] = false) : JE c (.Compare a [op, op'] [b, x] pos) (tChain r r' ta tb tc) (dChain g g' da db dc) := by
  obtain ⟨a1, a2⟩ := ha
  obtain ⟨b1, b2⟩ := hb
  obtain ⟨c1, c2⟩ := hc
  exact ⟨pe_chain ho ho' a1 b1 c1 hm, sim_chain hs hs' a2 b2 c2⟩
theorem jt_chain {op op' : CmpOp} {r r' : R2} {g g' : D → D → Option D} {x : Expr} (ho : OpR c.X (compareOp op) r) (hs : OpS r g) (ho' : OpR c.X (compareOp op') r') (hs' : OpS r' g') (ha : JB c a ta da) (hb : JB c b tb db) (hc : JB c x tc dc)
    (hm : lastMarks [op, op'] [b, x] = false) : JT c (.Compare a [op, op'] [b, x] pos) (tTest (tChain r r' ta tb tc)) (dTest (dChain g g' da db dc)) := by
  obtain ⟨a1, a2⟩ := ha
  obtain ⟨b1, b2⟩ := hb
  obtain ⟨c1, c2⟩ := hc
  exact ⟨pt_chain ho ho' a1 b1 c1 hm, sim_test (sim_chain hs hs' a2 b2 c2)⟩
theorem je_lele {x : Expr} (ha : JB c a ta da) (hb : JB c b tb db) (hc : JB c x tc dc) (hm : lastMarks [.LtE, .LtE] [b, x] = false := by with_unfolding_all rfl) : JE c (.Compare a [.LtE, .LtE] [b, x] pos) (tChain (rI0 fun i j => .bl (decide (i ≤ j))) (rI0 fun i j => .bl (decide (i ≤ j))) ta tb tc) (dChain leD leD da db dc) := je_chain op_le s_b2 op_le s_b2 ha hb hc hm
theorem jt_lele {x : Expr} (ha : JB c a ta da) (hb : JB c b tb db) (hc : JB c x tc dc) (hm : lastMarks [.LtE, .LtE] [b, x] = false := by with_unfolding_all rfl) : JT c (.Compare a [.LtE, .LtE] [b, x] pos) (tTest (tChain (rI0 fun i j => .bl (decide (i ≤ j))) (rI0 fun i j => .bl (decide (i ≤ j))) ta tb tc)) (dTest (dChain leD leD da db dc)) := jt_chain op_le s_b2 op_le s_b2 ha hb hc hm
/-- x is None -/
def dIsN (neg : Bool) (da : DE) : DE := fun δ => (da δ).bind fun x => match x with
  | .none => .ok (.bool (!neg))
  | _ => .ok (.bool neg)
theorem isN_of {F : Hp} {v : V} {d : D} (h : Rp F v d) : decide (v = .non) = (match d with | .none => true | _ => false) := by
  cases h <;> rfl
theorem sim_isN {ta : TE} (ha : Sim RF c ta da) : Sim RF c (tIsN ta) (dIsN false da) := fun F H σ δ Q S P =>
  ha.go S P fun F1 H1 x d s1 S1 hx P1 => by
    show Q (.bl (decide (x = .non))) H1
    rw [isN_of hx]
    cases d <;> exact P1 _ F1 H1 (.refl S1.fh) (.bl _)
theorem sim_notN {ta : TE} (ha : Sim RF c ta da) : Sim RF c (tNotN ta) (dIsN true da) := fun F H σ δ Q S P =>
  ha.go S P fun F1 H1 x d s1 S1 hx P1 => by
    show Q (.bl (!decide (x = .non))) H1
    rw [isN_of hx]
    cases d <;> exact P1 _ F1 H1 (.refl S1.fh) (.bl _)
theorem je_isN {j pos'} (ha : JE c a ta da) : JE c (.Compare a [.Is] [.Constant .none j pos'] pos) (tIsN ta) (dIsN false da) := let ⟨a1, a2⟩ := ha; ⟨pe_cmp (pc_isN a1), sim_isN a2⟩
theorem je_notN {j pos'} (ha : JE c a ta da) : JE c (.Compare a [.IsNot] [.Constant .none j pos'] pos) (tNotN ta) (dIsN true da) := let ⟨a1, a2⟩ := ha; ⟨pe_cmp (pc_notN a1), sim_notN a2⟩
theorem jt_isN {j pos'} (ha : JE c a ta da) : JT c (.Compare a [.Is] [.Constant .none j pos'] pos) (tB (tIsN ta)) (dTest (dIsN false da)) := let ⟨a1, a2⟩ := ha; ⟨pt_cmp (pc_isN a1), sim_test (sim_isN a2)⟩
theorem jt_notN {j pos'} (ha : JE c a ta da) : JT c (.Compare a [.IsNot] [.Constant .none j pos'] pos) (tB (tNotN ta)) (dTest (dIsN true da)) := let ⟨a1, a2⟩ := ha; ⟨pt_cmp (pc_notN a1), sim_test (sim_notN a2)⟩
/-- -x -/
def negD : D → Option D
  | .int i => some (.int (-i))
  | _ => none
def dUn (g : D → Option D) (da : DE) : DE := fun δ => (da δ).bind fun x => Res.ofO (g x)
theorem je_neg (ha : JE c a ta da) : JE c (.UnaryOp .USub a pos) (tUn (rU fun i => .int (-i)) ta) (dUn negD da) := by
  obtain ⟨a1, a2⟩ := ha
  refine ⟨pe_un un_neg a1, fun F H σ δ Q S P => a2.go S P fun F1 H1 x d s1 S1 hx P1 => ?_⟩
  cases d with
  | int i => cases hx; exact ⟨i, rfl, P1 _ F1 H1 (.refl S1.fh) (.int _)⟩
  | _ => exact P1.elim
/-- truth -/
def truD : D → Option Bool
  | .none => some false
  | .bool b => some b
  | .int i => some (i != 0)
  | .str x => if Sz x.length then some ((x.length : Int) != 0) else none
  | .list x => some (!x.isEmpty)
  | .tuple x => some (!x.isEmpty)
  | .dict _ => none
theorem tru_of {K : PySem.W.Frag} {F H : Hp} {v : V} {d : D} {k : Bool} (e : Ex F H) (h : Bw F H v d) (q : truD d = some k) : TruV K v H k := by
  cases d with
  | none => have h1 := h.non; subst h1; cases q; rfl
  | bool b => have h1 := h.bl; subst h1; cases q; rfl
  | int i => have h1 := h.int; subst h1; cases q; rfl
  | str x =>
    have h1 := h.str; subst h1
    obtain ⟨h2, h3⟩ := if_some q
    exact ⟨h2.le, h3.symm⟩
  | list x =>
    obtain ⟨a, xs, rfl, h1, h2⟩ := h.lst e
    cases q
    refine .inl ⟨xs, sqL h1, ?_⟩
    cases h2 <;> rfl
  | tuple x =>
    obtain ⟨a, xs, rfl, h1, h2⟩ := h.tup e
    cases q
    refine .inr (.inl ⟨xs, sqT h1, ?_⟩)
    cases h2 <;> rfl
  | dict x => cases q
def dTru (da : DE) : DT := fun δ => (da δ).bind fun x => Res.ofO (truD x)
def tTru (K : PySem.W.Frag) (ta : TE) : TT := fun σ H Q => ta σ H fun x H' => ∃ k, TruV K x H' k ∧ Q k H'
theorem jt_tru (ha : JB c a ta da) (he : ∀ whole, isTrue a c.X.env whole = (do let v ← whole; standAt a.pos; holding [v] (truthy v)) := by intro _; rfl) : JT c a (tTru HasK.K ta) (dTru da) := by
  rw [← c.hK]
  obtain ⟨a1, a2⟩ := ha
  refine ⟨pt_truth a1 he, fun F H σ δ Q S P => a2.go S P fun F1 H1 x d s1 S1 hx P1 => Sim.last P1 fun z hz k => ?_⟩
  exact ⟨z, tru_of S1.fh hx hz, k _ F1 H1 (.refl S1.fh) rfl⟩
def dNotV (da : DE) : DE := fun δ => (da δ).bind fun x => (Res.ofO (truD x)).bind fun k => .ok (.bool (!k))
theorem je_not (ha : JB c a ta da) : JE c (.UnaryOp .Not a pos) (tNotT HasK.K ta) (dNotV da) := by
  rw [← c.hK]
  obtain ⟨a1, a2⟩ := ha
  refine ⟨pe_notT a1, fun F H σ δ Q S P => a2.go S P fun F1 H1 x d s1 S1 hx P1 => ?_⟩
  cases q : truD d with
  | none => rw [q] at P1; exact P1.elim
  | some k =>
    rw [q] at P1
    exact ⟨k, tru_of S1.fh hx q, P1 _ F1 H1 (.refl S1.fh) (.bl _)⟩
/-- tests -/
def dNot (d : DT) : DT := fun δ => (d δ).bind fun k => .ok (!k)
theorem jt_not {d : DT} (ha : JT c a tt d) : JT c (.UnaryOp .Not a pos) (tNot tt) (dNot d) := by
  obtain ⟨a1, a2⟩ := ha
  refine ⟨pt_not a1, fun F H σ δ Q S P => a2.go S P fun F1 H1 x k s1 S1 hx P1 => ?_⟩
  subst hx
  exact P1 _ F1 H1 (.refl S1.fh) rfl
def dAnd (d e : DT) : DT := fun δ => (d δ).bind fun k => if k then e δ else .ok false
def dOr (d e : DT) : DT := fun δ => (d δ).bind fun k => if k then .ok true else e δ
variable {rest : List Expr} {d d' : DT}
theorem jw_and1 (ha : JT c a tt d) : JW c (.BoolOp .And [a] pos) tt d := let ⟨a1, a2⟩ := ha; ⟨pw_and1 a1, a2⟩
theorem jw_or1 (ha : JT c a tt d) : JW c (.BoolOp .Or [a] pos) tt d := let ⟨a1, a2⟩ := ha; ⟨pw_or1 a1, a2⟩
theorem jw_and (ha : JT c a tt d) (hb : JW c (.BoolOp .And (b :: rest) pos) tt' d') : JW c (.BoolOp .And (a :: b :: rest) pos) (tAnd tt tt') (dAnd d d') := by
  obtain ⟨a1, a2⟩ := ha
  obtain ⟨b1, b2⟩ := hb
  refine ⟨pw_and a1 b1, fun F H σ δ Q S P => a2.go S P fun F1 H1 x k s1 S1 hx P1 => ?_⟩
  subst hx
  cases x with
  | true => exact iteT (b2 F1 H1 σ δ Q S1 P1)
  | false => exact iteF (P1 _ F1 H1 (.refl S1.fh) rfl)
theorem jw_or (ha : JT c a tt d) (hb : JW c (.BoolOp .Or (b :: rest) pos) tt' d') : JW c (.BoolOp .Or (a :: b :: rest) pos) (tOr tt tt') (dOr d d') := by
  obtain ⟨a1, a2⟩ := ha
  obtain ⟨b1, b2⟩ := hb
  refine ⟨pw_or a1 b1, fun F H σ δ Q S P => a2.go S P fun F1 H1 x k s1 S1 hx P1 => ?_⟩
  subst hx
  cases x with
  | true => exact iteT (P1 _ F1 H1 (.refl S1.fh) rfl)
  | false => exact iteF (b2 F1 H1 σ δ Q S1 P1)
/-- and, or as values: all but the last True or False -/
def dAndV (da db : DE) : DE := fun δ => (da δ).bind fun x => match x with
  | .bool true => db δ
  | .bool false => .ok (.bool false)
  | _ => .stuck
def dOrV (da db : DE) : DE := fun δ => (da δ).bind fun x => match x with
  | .bool true => .ok (.bool true)
  | .bool false => db δ
  | _ => .stuck
variable {op : BoolOp}
theorem je_one (ha : JE c a ta da) : JE c (.BoolOp op [a] pos) ta da := let ⟨a1, a2⟩ := ha; ⟨pe_one a1, a2⟩
theorem je_and (ha : JE c a ta da) (hb : JE c (.BoolOp .And (b :: rest) pos) tb db) : JE c (.BoolOp .And (a :: b :: rest) pos) (tAndV ta tb) (dAndV da db) := by
  obtain ⟨a1, a2⟩ := ha
  obtain ⟨b1, b2⟩ := hb
  refine ⟨pe_and a1 b1, fun F H σ δ Q S P => a2.go S P fun F1 H1 x k s1 S1 hx P1 => ?_⟩
  cases k with
  | bool k =>
    cases hx
    refine ⟨k, rfl, ?_⟩
    cases k with
    | true => exact iteT (b2 F1 H1 σ δ Q S1 P1)
    | false => exact iteF (P1 _ F1 H1 (.refl S1.fh) (.bl _))
  | _ => exact P1.elim
theorem je_or (ha : JE c a ta da) (hb : JE c (.BoolOp .Or (b :: rest) pos) tb db) : JE c (.BoolOp .Or (a :: b :: rest) pos) (tOrV ta tb) (dOrV da db) := by
  obtain ⟨a1, a2⟩ := ha
  obtain ⟨b1, b2⟩ := hb
  refine ⟨pe_or a1 b1, fun F H σ δ Q S P => a2.go S P fun F1 H1 x k s1 S1 hx P1 => ?_⟩
  cases k with
  | bool k =>
    cases hx
    refine ⟨k, rfl, ?_⟩
    cases k with
    | true => exact iteT (P1 _ F1 H1 (.refl S1.fh) (.bl _))
    | false => exact iteF (b2 F1 H1 σ δ Q S1 P1)
  | _ => exact P1.elim
def dIf (d : DT) (da db : DE) : DE := fun δ => (d δ).bind fun k => if k then da δ else db δ
theorem je_if {x : Expr} (hc : JT c x tt d) (ha : JE c a ta da) (hb : JE c b tb db) : JE c (.IfExp x a b pos) (tIf tt ta tb) (dIf d da db) := by
  obtain ⟨c1, c2⟩ := hc
  obtain ⟨a1, a2⟩ := ha
  obtain ⟨b1, b2⟩ := hb
  refine ⟨pe_ifExp c1 a1 b1, fun F H σ δ Q S P => c2.go S P fun F1 H1 x k s1 S1 hx P1 => ?_⟩
  subst hx
  cases x with
  | true => exact iteT (a2 F1 H1 σ δ Q S1 P1)
  | false => exact iteF (b2 F1 H1 σ δ Q S1 P1)
/-! ### arguments, displays -/
def dNil : DA := fun _ => .ok []
def dCons (da : DE) (dr : DA) : DA := fun δ => (da δ).bind fun x => (dr δ).bind fun xs => .ok (x :: xs)
variable {dr : DA}
theorem ja_nil : JA c [] tNil dNil := ⟨pa_nil, fun F H σ δ Q S P => P [] F H (.refl S.fh) .nil⟩
theorem jab_nil : JAB c [] tNil dNil := ⟨pa_nil, fun F H σ δ Q S P => P [] F H (.refl S.fh) .nil⟩
theorem ja_cons (ha : JE c e ta da) (hr : JA c es tr dr) (hs : starEach (e :: es) c.X.env = (false, eval e c.X.env) :: starEach es c.X.env := by rfl) : JA c (e :: es) (tCons ta tr) (dCons da dr) := by
  obtain ⟨a1, a2⟩ := ha
  obtain ⟨r1, r2⟩ := hr
  exact ⟨pa_cons a1 r1 hs, fun F H σ δ Q S P => a2.go S P fun F1 H1 x d s1 S1 hx P1 => r2.go S1 P1 fun F2 H2 xs ds s2 S2 hxs P2 => P2 _ F2 H2 (.refl S2.fh) (.cons (hx.mono s2.ff) hxs)⟩
theorem jab_cons (ha : JB c e ta da) (hr : JAB c es tr dr) (hs : starEach (e :: es) c.X.env = (false, eval e c.X.env) :: starEach es c.X.env := by rfl) : JAB c (e :: es) (tCons ta tr) (dCons da dr) := by
  obtain ⟨a1, a2⟩ := ha
  obtain ⟨r1, r2⟩ := hr
  exact ⟨pa_cons a1 r1 hs, fun F H σ δ Q S P => a2.go S P fun F1 H1 x d s1 S1 hx P1 => r2.go S1 P1 fun F2 H2 xs ds s2 S2 hxs P2 => P2 _ F2 H2 (.refl S2.fh) (.cons (hx.mono s2.ff s2.hh) hxs)⟩
def dTup (dr : DA) : DE := fun δ => (dr δ).bind fun xs => if Sz xs.length then .ok (.tuple xs) else .stuck
def dLst (dr : DA) : DE := fun δ => (dr δ).bind fun xs => if Sz xs.length then .ok (.list xs) else .stuck
theorem je_tup {x1} (h : JA c es tr dr) : JE c (.Tuple es x1 pos) (tTupG tr) (dTup dr) := by
  obtain ⟨a1, a2⟩ := h
  refine ⟨pe_tupG a1, fun F H σ δ Q S P => a2.go S P fun F1 H1 x ds s1 S1 hx P1 => ?_⟩
  by_cases hs : Sz ds.length
  · rw [if_pos hs] at P1
    exact ⟨by rw [hx.len]; exact hs.le, new_tup S1.fh hx P1⟩
  · rw [if_neg hs] at P1; exact P1.elim
theorem je_lst (h : JA c es tr dr) : JE c (.List es pos) (tLst tr) (dLst dr) := by
  obtain ⟨a1, a2⟩ := h
  refine ⟨pe_lst a1, fun F H σ δ Q S P => a2.go S P fun F1 H1 x ds s1 S1 hx P1 => ?_⟩
  by_cases hs : Sz ds.length
  · rw [if_pos hs] at P1
    exact ⟨by rw [hx.len]; exact hs.le, new_lst S1.fh hx P1⟩
  · rw [if_neg hs] at P1; exact P1.elim
/-! ### subscripts -/
def ixD : D → D → Option D
  | .list xs, .int i => atI xs i
  | .tuple xs, .int i => atI xs i
  | .dict [(.none, .list xs)], .int i => atI xs i
  | d, e => (dgetD d e).bind id
def rIxA (P : Program) (w : World) (K : PySem.W.Frag) : R2 := fun x y H Q => rIx K x y H Q ∨ rIxDA P w x y H Q
theorem atI_rp {F : Hp} {vs : List V} {ds : List D} {i : Int} {d : D} (r : RpAll F vs ds) (h : atI ds i = some d) : ∃ v, atI vs i = some v ∧ Rp F v d := by
  unfold atI at h ⊢
  rw [r.len]
  cases q : ixN ds.length i with
  | none => rw [q] at h; cases h
  | some j =>
    rw [q] at h
    exact r.getD h
theorem s_ix : OpS (rIxA HasK.P HasK.w HasK.K) ixD := by
  intro F H x y d e z Q ex bx by_ hz h
  unfold ixD at hz
  split at hz
  · obtain ⟨a, us, rfl, h1, h2⟩ := bx.lst ex
    obtain ⟨v, h3, h4⟩ := atI_rp h2 hz
    exact .inl (.inl ⟨a, us, _, v, rfl, by_.int, sqL h1, h3, h _ F H (.refl ex) h4⟩)
  · obtain ⟨a, us, rfl, h1, h2⟩ := bx.tup ex
    obtain ⟨v, h3, h4⟩ := atI_rp h2 hz
    exact .inl (.inr (.inl ⟨a, us, _, v, rfl, by_.int, sqT h1, h3, h _ F H (.refl ex) h4⟩))
  · obtain ⟨a, ns, rfl, h1, h2⟩ := bx.scr ex
    subst h2
    obtain ⟨v, h3, h4⟩ := atI_rp (RpAll.ints (H := F) ns) hz
    exact .inl (.inl ⟨a, _, _, v, rfl, by_.int, h1, h3, h _ F H (.refl ex) h4⟩)
  · obtain ⟨o, h1, h2⟩ := Option.bind_eq_some_iff.mp hz
    obtain ⟨a, r, rfl, g, ⟨_, q⟩ | ⟨v, z', q1, q2, q3⟩⟩ := dget_of ex bx by_ h1
    · subst q; cases h2
    · subst q1; subst q2
      cases h2
      exact .inr ⟨a, v, rfl, g, h _ F H (.refl ex) q3⟩
theorem je_ix (hu : c.X.A.units + 64 < cLine) (ha : JB c a ta da) (hb : JB c b tb db) (hs : PlainIx b := by exact fun _ _ => rfl) : JE c (.Subscript a b pos) (tOp (rIxA HasK.P HasK.w HasK.K) ta tb) (dOp ixD da db) := by
  obtain ⟨a1, a2⟩ := ha
  obtain ⟨b1, b2⟩ := hb
  exact ⟨by rw [← c.hK, ← c.hP, ← c.hw]; exact pe_ix (ix_seq.or (ix_dict hu)) a1 b1 hs, sim_op s_ix a2 b2⟩
/-- slices -/
def dNoP : DEnv → Res (Option Int) := fun _ => .ok none
def dP (da : DE) : DEnv → Res (Option Int) := fun δ => (da δ).bind fun x => match x with
  | .int i => .ok (some i)
  | _ => .stuck
theorem jo_none : JO c none tNoPart dNoP := ⟨po_none, fun F H σ δ Q S P => P none F H (.refl S.fh) rfl⟩
theorem jo_some (ha : JB c e ta da) : JO c (some e) (tPart ta) (dP da) := by
  obtain ⟨a1, a2⟩ := ha
  refine ⟨po_some a1, fun F H σ δ Q S P => a2.go S P fun F1 H1 x d s1 S1 hx P1 => ?_⟩
  cases d with
  | int i => exact ⟨i, hx.int, P1 _ F1 H1 (.refl S1.fh) rfl⟩
  | _ => exact P1.elim
def cutD (xs : List D) (lo hi : Option Int) : List D := (xs.drop (HT.sIx xs.length 0 lo)).take (HT.sIx xs.length xs.length hi - HT.sIx xs.length 0 lo)
theorem cut_rp {F : Hp} {vs : List V} {ds : List D} (r : RpAll F vs ds) (lo hi : Option Int) : RpAll F (cutV vs lo hi) (cutD ds lo hi) := by
  unfold cutV cutD
  rw [r.len]
  exact (r.drop _).take _
def slD : D → Option Int → Option Int → Option D
  | .list xs, lo, hi => some (.list (cutD xs lo hi))
  | .tuple xs, lo, hi => some (.tuple (cutD xs lo hi))
  | _, _, _ => none
def dSl (da : DE) (dl dh : DEnv → Res (Option Int)) : DE := fun δ => (da δ).bind fun x => (dl δ).bind fun lo => (dh δ).bind fun hi => Res.ofO (slD x lo hi)
def rSlAny (K : PySem.W.Frag) : V → Option Int → Option Int → Hp → VK → Prop := fun x lo hi H Q => rSlL K x lo hi H Q ∨ rSlG K x lo hi H Q
theorem je_slice {lo hi : Option Expr} {dl dh : DEnv → Res (Option Int)} {p2 : Pos} (ha : JB c e ta da) (hl : JO c lo tl dl) (hh : JO c hi th dh) : JE c (.Subscript e (.Slice lo hi none p2) pos) (tSl (rSlAny HasK.K) ta tl th) (dSl da dl dh) := by
  obtain ⟨a1, a2⟩ := ha
  obtain ⟨l1, l2⟩ := hl
  obtain ⟨h1, h2⟩ := hh
  rw [← c.hK]
  refine ⟨pe_slice (SlR.or sl_list sl_tupG) a1 l1 h1, fun F H σ δ Q S P => a2.go S P fun F1 H1 x d s1 S1 hx P1 => l2.go S1 P1 fun F2 H2 lo' lo s2 S2 e2 P2 => h2.go S2 P2 fun F3 H3 hi' hi s3 S3 e3 P3 => Sim.last P3 fun z hz k => ?_⟩
  subst e2; subst e3
  have hx3 := (hx.mono s2.ff s2.hh).mono s3.ff s3.hh
  have ex := S3.fh
  cases d with
  | list ds =>
    cases hz
    obtain ⟨a, us, rfl, h3, h4⟩ := hx3.lst ex
    exact .inl ⟨a, us, rfl, sqL h3, new_lst ex (cut_rp h4 _ _) k⟩
  | tuple ds =>
    cases hz
    obtain ⟨a, us, e4, h3, h4⟩ := hx3.tup ex
    subst e4
    refine .inr ⟨a, us, rfl, sqT h3, fun q => ?_, fun _ => new_tup ex (cut_rp h4 _ _) k⟩
    have q1 : HT.sIx ds.length 0 lo' = 0 := by rw [← h4.len]; exact q.1
    have q2 : HT.sIx ds.length ds.length hi' = ds.length := by rw [← h4.len]; exact q.2
    refine k _ F3 H3 (.refl ex) ?_
    have ec : cutD ds lo' hi' = ds := by
      unfold cutD
      rw [q1, q2]
      simp
    rw [ec]
    exact hx3.rpT
  | _ => cases hz
/-! ### calls -/
def CallS (r : List V → Hp → VK → Prop) (g : List D → Option D) : Prop := ∀ F H xs ds z Q, Ex F H → BwAll F H xs ds → g ds = some z → (∀ v F' H', Step F H F' H' → Rp F' v z → Q v H') → r xs H Q
def dCB (g : List D → Option D) (dr : DA) : DE := fun δ => (dr δ).bind fun xs => Res.ofO (g xs)
theorem sim_cb {r : List V → Hp → VK → Prop} {g : List D → Option D} (hs : CallS r g) (h : Sim RAB c tr dr) : Sim RF c (tCB r tr) (dCB g dr) := fun F H σ δ Q S P =>
  h.go S P fun F1 H1 xs ds s1 S1 hx P1 => Sim.last P1 fun z hz k => hs F1 H1 xs ds z Q S1.fh hx hz k
theorem je_callB {id : String} {x : Str} {p : Pos} {r : List V → Hp → VK → Prop} {g : List D → Option D} (hc : CallR c.X (.builtin id) r) (hs : CallS r g) (hg : Gl c.X x) (hm : c.X.mg x = none) (hv : bootBuiltins x = some (.builtin id)) (ha : JAB c (e :: es) tr dr)
    (hn : x ≠ "__name__" := by decide) (hdb : (x == ("__debug__" : Str)) = false := by decide)
    (he : starEach (e :: es) c.X.env = (false, eval e c.X.env) :: starEach es c.X.env := by rfl) (hpl : (backTo pos (starEach es c.X.env)).any (·.1) = false := by rfl) : JE c (.Call (.Name x p) (e :: es) [] pos) (tCB r tr) (dCB g dr) := by
  obtain ⟨a1, a2⟩ := ha
  exact ⟨pe_callB hc hg hm hv a1 hn hdb he hpl, sim_cb hs a2⟩
theorem je_callTy {T : String} {x : Str} {p : Pos} {r : List V → Hp → VK → Prop} {g : List D → Option D} (hc : CallR c.X (.type T) r) (hs : CallS r g) (hg : Gl c.X x) (hm : c.X.mg x = none) (hv : bootBuiltins x = some (.type T)) (ha : JAB c (e :: es) tr dr)
    (hn : x ≠ "__name__" := by decide) (hdb : (x == ("__debug__" : Str)) = false := by decide)
    (he : starEach (e :: es) c.X.env = (false, eval e c.X.env) :: starEach es c.X.env := by rfl) (hpl : (backTo pos (starEach es c.X.env)).any (·.1) = false := by rfl) : JE c (.Call (.Name x p) (e :: es) [] pos) (tCB r tr) (dCB g dr) := by
  obtain ⟨a1, a2⟩ := ha
  exact ⟨pe_callTy hc hg hm hv a1 hn hdb he hpl, sim_cb hs a2⟩
end
end RD

end
section
namespace RD
open PySem L2
variable [HasK]
def XPostS (mg : Str → Option Value) (W : WX) (F H : Hp) (σ : St) (n : Str) : Option (Str × D) → Prop
  | none => W (.ref (clA mg n)) none σ H
  | some (f, p) => ∀ dd v, H dd = some (.xd [(f, v)]) → F dd = none → Rp F v p → W (.ref (clA mg n)) (some dd) σ H
def PostS (c : Cc) (F : Hp) (D : Ends) : Out → Prop
  | .next δ => ∀ σ' F' H', Ex F F' → Sr c.F0 c.H0 F' H' σ' δ → D.nx σ' H'
  | .brk δ => ∀ σ' F' H', Ex F F' → Sr c.F0 c.H0 F' H' σ' δ → D.bk σ' H'
  | .cont δ => ∀ σ' F' H', Ex F F' → Sr c.F0 c.H0 F' H' σ' δ → D.ct σ' H'
  | .ret d => ∀ v F' H', Ex F F' → Step c.F0 c.H0 F' H' → Rp F' v d → D.rt v H'
  | .exc n p δ => ∀ σ' F' H', Ex F F' → Sr c.F0 c.H0 F' H' σ' δ → XPostS HasK.mg c.W F' H' σ' n p
  | .stuck => False
theorem PostS.up {c : Cc} {F F' : Hp} {D : Ends} {o : Out} (e : Ex F F') (h : PostS c F D o) : PostS c F' D o := by
  cases o with
  | next δ => exact fun σ F2 H2 e2 => h σ F2 H2 (e.trans e2)
  | brk δ => exact fun σ F2 H2 e2 => h σ F2 H2 (e.trans e2)
  | cont δ => exact fun σ F2 H2 e2 => h σ F2 H2 (e.trans e2)
  | ret d => exact fun v F2 H2 e2 => h v F2 H2 (e.trans e2)
  | exc n p δ => exact fun σ F2 H2 e2 => h σ F2 H2 (e.trans e2)
  | stuck => exact h
def SimS (c : Cc) (t : TS) (d : DS) : Prop := ∀ F H σ δ D, Sr c.F0 c.H0 F H σ δ → PostS c F D (d δ) → t D σ H
structure JS (c : Cc) (st : Stmt) (t : TS) (d : DS) : Prop where
  p : PS c.X st t
  s : SimS c t d
structure JSs (c : Cc) (st : List Stmt) (t : TS) (d : DS) : Prop where
  p : PSs c.X st t
  s : SimS c t d
def Res.out {α : Type} (r : Res α) (δ : DEnv) (f : α → Out) : Out := match r with
  | .ok a => f a
  | .exc n p => .exc n p δ
  | .stuck => .stuck
theorem XPost.ofS {c : Cc} {F H : Hp} {D : Ends} {σ : St} {δ : DEnv} {n : Str} {p : Option (Str × PyData)} (S : Sr c.F0 c.H0 F H σ δ) (h : PostS c F D (.exc n p δ)) : XPost HasK.mg c.W F H σ n p := by
  cases p with
  | none => exact fun F' H' s => h σ F' H' s.ff (S.step s)
  | some q => exact fun F' H' dd v s a b r => h σ F' H' s.ff (S.step s) dd v a b r
/-- run an expression in a statement, then go on -/
theorem Sim.gos {α β : Type} {Rel : Hp → Hp → β → α → Prop} {c : Cc} {t : TG_ β} {d : DEnv → Res α} (h : Sim Rel c t d) {F H : Hp} {σ : St} {δ : DEnv} {D : Ends} {K : β → Hp → Prop} {r : α → Out}
    (S : Sr c.F0 c.H0 F H σ δ) (P : PostS c F D ((d δ).out δ r))
    (k : ∀ F' H' x a, Step F H F' H' → Sr c.F0 c.H0 F' H' σ δ → Rel F' H' x a → PostS c F' D (r a) → K x H') : t σ H K := by
  refine h F H σ δ K S ?_
  cases q : d δ with
  | stuck => rw [q] at P; exact P
  | exc n p => rw [q] at P; exact XPost.ofS S P
  | ok a =>
    rw [q] at P
    exact fun v F' H' s r => k F' H' v a s (S.step s) r (P.up s.ff)
section
variable {c : Cc} {e a b : Expr} {es : List Expr} {da db : DE} {pos : Pos} {ta tb tc : TE} {tt tt' : TT} {st : Stmt} {rest : List Stmt} {t u : TS} {ds du : DS} {d : DT} {X : Cx}
/-! ### blocks -/
def dNext : DS := fun δ => .next δ
def dSeq (d e : DS) : DS := fun δ => match d δ with
  | .next δ' => e δ'
  | o => o
theorem jss_nil : JSs c [] tNext dNext := ⟨pss_nil, fun F H σ δ D S P => P σ F H (.refl _) S⟩
theorem sim_seq (h1 : SimS c t ds) (h2 : SimS c u du) : SimS c (tSeq t u) (dSeq ds du) := fun F H σ δ D S P => by
  refine h1 F H σ δ _ S ?_
  unfold dSeq at P
  cases q : ds δ with
  | next δ' =>
    rw [q] at P
    exact fun σ' F' H' e S' => h2 F' H' σ' δ' D S' (P.up e)
  | brk δ' => rw [q] at P; exact P
  | cont δ' => rw [q] at P; exact P
  | ret x => rw [q] at P; exact P
  | exc n p δ' => rw [q] at P; exact P
  | stuck => rw [q] at P; exact P
theorem jss_cons (h1 : JS c st t ds) (h2 : JSs c rest u du) : JSs c (st :: rest) (tSeq t u) (dSeq ds du) := ⟨pss_cons h1.p h2.p, sim_seq h1.s h2.s⟩
theorem jss_one (h1 : JS c st t ds) : JSs c [st] t ds := ⟨pss_one h1.p, h1.s⟩
theorem js_pass : JS c (.Pass pos) tNext dNext := ⟨ps_pass, jss_nil.s⟩
/-! ### simple statements -/
def dDrop (da : DE) : DS := fun δ => (da δ).out δ fun _ => .next δ
theorem js_expr (he : JE c e ta da) (hs : swapsWith e none pos.line c.X.env = pure false := by rfl) : JS c (.Expr e pos) (tDrop ta) (dDrop da) :=
  ⟨ps_expr he.p hs, fun F H σ δ D S P => he.s.gos S P fun F1 H1 x a s1 S1 hx P1 => P1 σ F1 H1 (.refl _) S1⟩
def dRet (da : DE) : DS := fun δ => (da δ).out δ fun x => .ret x
theorem js_ret (he : JE c e ta da) : JS c (.Return (some e) pos) (tRet ta) (dRet da) :=
  ⟨ps_ret he.p, fun F H σ δ D S P => he.s.gos S P fun F1 H1 x a s1 S1 hx P1 => P1 x F1 H1 (.refl _) S1.st hx⟩
def dIfS (d : DT) (ds du : DS) : DS := fun δ => (d δ).out δ fun k => if k then ds δ else du δ
theorem js_if {x : Expr} {p q : List Stmt} (hc : JT c x tt d) (ha : JSs c p t ds) (hb : JSs c q u du) : JS c (.If x p q pos) (tIfS tt t u) (dIfS d ds du) :=
  ⟨ps_if hc.p ha.p hb.p, fun F H σ δ D S P => hc.s.gos S P fun F1 H1 x k s1 S1 hx P1 => by
    subst hx
    cases x with
    | true => exact iteT (ha.s F1 H1 σ δ D S1 P1)
    | false => exact iteF (hb.s F1 H1 σ δ D S1 P1)⟩
def dSet (i : Nat) (da : DE) : DS := fun δ => (da δ).out δ fun x => .next (δ.set i (.val x))
theorem js_set {i : Nat} {x : Str} {pos' : Pos} (hN : c.X.N.Nodup) (he : JE c e ta da) (hi : c.X.N[i]? = some x := by rfl) (hx : Loc c.X.env.scope x := by first | exact Or.inl rfl | exact Or.inr rfl)
    (hs : swapsWith e (some (.Name x pos')) pos.line c.X.env = pure false := by rfl) (hf : c.X.fn x = true ∨ c.X.env.scope.names.lookup x = some .local := by first | exact .inl rfl | exact .inr rfl) :
    JS c (.Assign [.Name x pos'] e pos) (tAsg ta (gName i)) (dSet i da) :=
  ⟨ps_set hN hi hx he.p hs hf, fun F H σ δ D S P => he.s.gos S P fun F1 H1 x a s1 S1 hx P1 => P1 _ F1 H1 (.refl _) (S1.set hx i)⟩
/-! ### new objects of one's own -/
def PostN (mg : Str → Option Value) (W : WX) (F H : Hp) (σ : St) (Q : VK) : Res D → Prop
  | .ok d => ∀ a F' H', Step F H F' H' → H a = none → F' a = none → OwnA F' H' a d → Q (.ref a) H'
  | .exc n p => XPost mg W F H σ n p
  | .stuck => False
def SimN (c : Cc) (t : TE) (d : DE) : Prop := ∀ F H σ δ Q, Sr c.F0 c.H0 F H σ δ → PostN HasK.mg c.W F H σ Q (d δ) → t σ H Q
structure JN (c : Cc) (e : Expr) (t : TE) (d : DE) : Prop where
  p : PE c.X e t
  s : SimN c t d
theorem Sr.newOwn {F0 H0 F H F' H' : Hp} {σ : St} {δ : DEnv} (S : Sr F0 H0 F H σ δ) (s : Step F H F' H') {a : Addr} {d : D} (h : H a = none) (hF : F' a = none) (ho : OwnA F' H' a d) (i : Nat) :
    Sr F0 H0 F' H' (σ.set i (some (.ref a))) (δ.set i (.own d)) := by
  refine (S.step s).setOwn (S.st.hh.back h) hF ho (fun j e hj hs => ?_) (fun j e b hj hs hf => by
    obtain ⟨b', k1, k2, _⟩ := S.dk.dsk j e hj
    rw [hs] at k1
    cases k1
    obtain ⟨o, ho⟩ := k2.at
    exact k2.there (hf.of (by rw [ho]; exact s.hh _ _ ho)) h) i
  obtain ⟨b, h1, h2, h3, h4⟩ := S.own j e hj
  rw [hs] at h1
  cases h1
  exact h4.there h
def dSetN (i : Nat) (da : DE) : DS := fun δ => (da δ).out δ fun x => .next (δ.set i (.own x))
theorem sim_setN {i : Nat} (h : SimN c ta da) : SimS c (tAsg ta (gName i)) (dSetN i da) := fun F H σ δ D S P => by
  refine h F H σ δ _ S ?_
  unfold dSetN at P
  cases q : da δ with
  | stuck => rw [q] at P; exact P
  | exc n p => rw [q] at P; exact XPost.ofS S P
  | ok x =>
    rw [q] at P
    exact fun a F' H' s h1 h2 h3 => P _ F' H' s.ff (S.newOwn s h1 h2 h3 i)
theorem js_setN {i : Nat} {x : Str} {pos' : Pos} (hN : c.X.N.Nodup) (he : JN c e ta da) (hi : c.X.N[i]? = some x := by rfl) (hx : Loc c.X.env.scope x := by first | exact Or.inl rfl | exact Or.inr rfl)
    (hs : swapsWith e (some (.Name x pos')) pos.line c.X.env = pure false := by rfl) (hf : c.X.fn x = true ∨ c.X.env.scope.names.lookup x = some .local := by first | exact .inl rfl | exact .inr rfl) :
    JS c (.Assign [.Name x pos'] e pos) (tAsg ta (gName i)) (dSetN i da) := ⟨ps_set hN hi hx he.p hs hf, sim_setN he.s⟩
theorem own_new {F H : Hp} {xs : List V} {ds : List D} {Q : VK} (e : Ex F H) (r : RpAll F xs ds) (h : ∀ a F' H', Step F H F' H' → H a = none → F' a = none → OwnA F' H' a (.list ds) → Q (.ref a) H') : ∀ p, H p = none → Q (.ref p) (upd H p (.lst xs)) := fun p hp =>
  h p F _ (Step.side e (.lst xs) hp) hp (e.back hp) ⟨xs, upd_same, r⟩
/-- a part of an expression that makes a new object -/
theorem Sim.gon {α β : Type} {Rel : Hp → Hp → β → α → Prop} {c : Cc} {t : TG_ β} {d : DEnv → Res α} (h : Sim Rel c t d) {F H : Hp} {σ : St} {δ : DEnv} {Q : VK} {K : β → Hp → Prop} {r : α → Res D}
    (S : Sr c.F0 c.H0 F H σ δ) (P : PostN HasK.mg c.W F H σ Q ((d δ).bind r))
    (k : ∀ F' H' x a, Step F H F' H' → Sr c.F0 c.H0 F' H' σ δ → Rel F' H' x a → PostN HasK.mg c.W F' H' σ Q (r a) → K x H') : t σ H K := by
  refine h F H σ δ K S ?_
  cases q : d δ with
  | stuck => rw [q] at P; exact P
  | exc n p => rw [q] at P; exact P
  | ok a =>
    rw [q] at P
    have P' : PostN HasK.mg c.W F H σ Q (r a) := P
    refine fun v F' H' s rr => k F' H' v a s (S.step s) rr ?_
    cases q2 : r a with
    | stuck => rw [q2] at P'; exact P'
    | exc n p => rw [q2] at P'; exact XPost.step s P'
    | ok x =>
      rw [q2] at P'
      exact fun a F2 H2 s2 h1 h2 h3 => P' a F2 H2 (s.trans s2) (s.hh.back h1) h2 h3
variable {tr : TA} {dr : DA}
theorem jn_lst (h : JA c es tr dr) : JN c (.List es pos) (tLst tr) (dLst dr) :=
  ⟨pe_lst h.p, fun F H σ δ Q S P => h.s.gon S P fun F1 H1 x ds s1 S1 hx P1 => by
    by_cases hs : Sz ds.length
    · rw [if_pos hs] at P1
      exact ⟨by rw [hx.len]; exact hs.le, own_new S1.fh hx P1⟩
    · rw [if_neg hs] at P1; exact P1.elim⟩
/-- [..] * n -/
def repD : D → D → Option D
  | .list x, .int k => if 0 ≤ k ∧ Sz (x.length * k.toNat) ∧ k < 2 ^ 60 then some (.list (List.replicate k.toNat x).flatten) else none
  | _, _ => none
theorem PostN.last {mg : Str → Option Value} {W : WX} {F H : Hp} {σ : St} {Q : VK} {g : Option D} {G : Prop} (P : PostN mg W F H σ Q (Res.ofO g))
    (h : ∀ z, g = some z → (∀ a F' H', Step F H F' H' → H a = none → F' a = none → OwnA F' H' a z → Q (.ref a) H') → G) : G := by
  cases g with
  | none => exact P.elim
  | some z => exact h z rfl P
theorem jn_rep (ha : JB c a ta da) (hb : JB c b tb db) : JN c (.BinOp a .Mult b pos) (tOp rRep ta tb) (dOp repD da db) :=
  ⟨pe_op op_rep ha.p hb.p, fun F H σ δ Q S P => ha.s.gon S P fun F1 H1 x d s1 S1 hx P1 => hb.s.gon S1 P1 fun F2 H2 y e s2 S2 hy P2 => PostN.last P2 fun z hz k => by
    have hx2 := hx.mono s2.ff s2.hh
    unfold repD at hz
    split at hz
    · obtain ⟨hs, rfl⟩ := if_some hz
      obtain ⟨a, us, rfl, h1, h2⟩ := hx2.lst S2.fh
      exact ⟨a, _, us, rfl, hy.int, h1, by omega, by omega, by rw [h2.len]; exact hs.2.1.le, own_new S2.fh (h2.rep _) k⟩
    · cases hz⟩
/-- list(x) -/
def listD : List D → Option D
  | [.list xs] => some (.list xs)
  | [.tuple xs] => some (.list xs)
  | [.dict [(.none, .list xs)]] => some (.list xs)
  | _ => none
def rListA (K : PySem.W.Frag) : List V → Hp → VK → Prop := fun xs H Q => ∃ p ys, xs = [.ref p] ∧ (SqL K H p ys ∨ SqT K H p ys) ∧ ∀ l, H l = none → Q (.ref l) (upd H l (.lst ys))
theorem listD_of {K : PySem.W.Frag} (hK : K = HasK.K) {F H : Hp} {vs : List V} {ds : List D} {z : D} (ex : Ex F H) (h : BwAll F H vs ds) (hz : listD ds = some z) : ∃ p ys es, vs = [.ref p] ∧ (SqL K H p ys ∨ SqT K H p ys) ∧ RpAll F ys es ∧ z = .list es := by
  unfold listD at hz
  split at hz
  · cases h with
    | cons h hn =>
      cases hn
      cases hz
      obtain ⟨a, us, rfl, h1, h2⟩ := h.lst ex
      exact ⟨a, us, _, rfl, .inl (sqL h1), h2, rfl⟩
  · cases h with
    | cons h hn =>
      cases hn
      cases hz
      obtain ⟨a, us, rfl, h1, h2⟩ := h.tup ex
      exact ⟨a, us, _, rfl, .inr (sqT h1), h2, rfl⟩
  · cases h with
    | cons h hn =>
      cases hn
      cases hz
      obtain ⟨a, ns, rfl, h1, h2⟩ := h.scr ex
      subst h2
      exact ⟨a, _, _, rfl, .inl (by rw [hK]; exact h1), RpAll.ints ns, rfl⟩
  · cases hz
theorem je_list {p : Pos} (hg : Gl c.X "list") (hm : c.X.mg "list" = none) (ha : JAB c [e] tr dr) (he : starEach [e] c.X.env = (false, eval e c.X.env) :: starEach [] c.X.env := by rfl) (hpl : (backTo pos (starEach [] c.X.env)).any (·.1) = false := by rfl) :
    JE c (.Call (.Name "list" p) [e] [] pos) (tCB (rListA HasK.K) tr) (dCB listD dr) := by
  rw [← c.hK]
  exact je_callTy (T := "list") call_list_of (fun F H xs ds z Q ex h hz k => by
    obtain ⟨p, ys, es, rfl, h1, h2, rfl⟩ := listD_of c.hK ex h hz
    exact ⟨p, ys, rfl, h1, new_lst ex h2 k⟩) hg hm (by decide +kernel) ha (by decide) (by decide) he hpl
theorem jn_list {p : Pos} (hg : Gl c.X "list") (hm : c.X.mg "list" = none) (ha : JAB c [e] tr dr) (he : starEach [e] c.X.env = (false, eval e c.X.env) :: starEach [] c.X.env := by rfl) (hpl : (backTo pos (starEach [] c.X.env)).any (·.1) = false := by rfl) :
    JN c (.Call (.Name "list" p) [e] [] pos) (tCB (rListA HasK.K) tr) (dCB listD dr) := by
  rw [← c.hK]
  exact ⟨pe_callTy (T := "list") call_list_of hg hm (by decide +kernel) ha.p (by decide) (by decide) he hpl, fun F H σ δ Q S P => ha.s.gon S P fun F1 H1 x ds s1 S1 hx P1 => PostN.last P1 fun z hz k => by
    obtain ⟨p, ys, es, rfl, h1, h2, rfl⟩ := listD_of c.hK S1.fh hx hz
    exact ⟨p, ys, rfl, h1, own_new S1.fh h2 k⟩⟩
/-- tuple(x) -/
def tupleD : List D → Option D
  | [.list xs] => some (.tuple xs)
  | [.tuple xs] => some (.tuple xs)
  | _ => none
def rTupleA (K : PySem.W.Frag) : List V → Hp → VK → Prop := fun xs H Q => ∃ p ys, xs = [.ref p] ∧ ((SqL K H p ys ∧ ∀ l o, PlainT o → H l = none → Q (.ref l) (upd H l (.frz o (.tup ys)))) ∨ (SqT K H p ys ∧ Q (.ref p) H))
theorem je_tuple {p : Pos} (hg : Gl c.X "tuple") (hm : c.X.mg "tuple" = none) (ha : JAB c [e] tr dr) (he : starEach [e] c.X.env = (false, eval e c.X.env) :: starEach [] c.X.env := by rfl) (hpl : (backTo pos (starEach [] c.X.env)).any (·.1) = false := by rfl) :
    JE c (.Call (.Name "tuple" p) [e] [] pos) (tCB (rTupleA HasK.K) tr) (dCB tupleD dr) := by
  rw [← c.hK]
  exact je_callTy (T := "tuple") call_tupleG (fun F H xs ds z Q ex h hz k => by
    unfold tupleD at hz
    split at hz
    · cases h with
      | cons h hn =>
        cases hn
        cases hz
        obtain ⟨a, us, rfl, h1, h2⟩ := h.lst ex
        exact ⟨a, us, rfl, .inl ⟨sqL h1, new_tup ex h2 k⟩⟩
    · cases h with
      | cons h hn =>
        cases hn
        cases hz
        obtain ⟨a, us, e1, h1, h2⟩ := h.tup ex
        subst e1
        exact ⟨a, us, rfl, .inr ⟨sqT h1, k _ F H (.refl ex) h.rpT⟩⟩
    · cases hz) hg hm (by decide +kernel) ha (by decide) (by decide) he hpl
/-- len(x) -/
def lenD : List D → Option D
  | [.list xs] => some (.int xs.length)
  | [.tuple xs] => some (.int xs.length)
  | [.dict [(.none, .list xs)]] => some (.int xs.length)
  | [.str x] => if Sz x.length then some (.int x.length) else none
  | _ => none
def rLenA (K : PySem.W.Frag) : List V → Hp → VK → Prop := fun xs H Q => ∃ x n, xs = [x] ∧ LenV K x H n ∧ Q (.int n) H
theorem je_len {p : Pos} (hg : Gl c.X "len") (hm : c.X.mg "len" = none) (ha : JAB c [e] tr dr) (he : starEach [e] c.X.env = (false, eval e c.X.env) :: starEach [] c.X.env := by rfl) (hpl : (backTo pos (starEach [] c.X.env)).any (·.1) = false := by rfl) :
    JE c (.Call (.Name "len" p) [e] [] pos) (tCB (rLenA HasK.K) tr) (dCB lenD dr) := by
  rw [← c.hK]
  exact je_callB (id := "len") call_len (fun F H xs ds z Q ex h hz k => by
    unfold lenD at hz
    split at hz
    · cases h with
      | cons h hn =>
        cases hn
        cases hz
        obtain ⟨a, us, rfl, h1, h2⟩ := h.lst ex
        exact ⟨_, _, rfl, .inl ⟨us, sqL h1, rfl⟩, by rw [h2.len]; exact k _ F H (.refl ex) (.int _)⟩
    · cases h with
      | cons h hn =>
        cases hn
        cases hz
        obtain ⟨a, us, rfl, h1, h2⟩ := h.tup ex
        exact ⟨_, _, rfl, .inr ⟨us, sqT h1, rfl⟩, by rw [h2.len]; exact k _ F H (.refl ex) (.int _)⟩
    · cases h with
      | cons h hn =>
        cases hn
        cases hz
        obtain ⟨a, ns, rfl, h1, h2⟩ := h.scr ex
        subst h2
        exact ⟨_, _, rfl, .inl ⟨_, by rw [c.hK]; exact h1, rfl⟩, by rw [List.length_map] at k ⊢; exact k _ F H (.refl ex) (.int _)⟩
    · cases h with
      | cons h hn =>
        cases hn
        obtain ⟨hs, rfl⟩ := if_some hz
        have e1 := h.str
        subst e1
        exact ⟨_, _, rfl, ⟨hs.le, rfl⟩, k _ F H (.refl ex) (.int _)⟩
    · cases hz) hg hm PySem.boot_len ha (by decide) (by decide) he hpl
/-- int(x) of an int, a bool -/
def intD : List D → Option D
  | [.int i] => some (.int i)
  | [.bool k] => some (.int (if k then 1 else 0))
  | _ => none
def rIntA : List V → Hp → VK → Prop := fun xs H Q => (∃ i, xs = [.int i] ∧ Q (.int i) H) ∨ ∃ k, xs = [.bl k] ∧ Q (.int (if k then 1 else 0)) H
theorem je_intc {p : Pos} (hg : Gl c.X "int") (hm : c.X.mg "int" = none) (ha : JAB c [e] tr dr) (he : starEach [e] c.X.env = (false, eval e c.X.env) :: starEach [] c.X.env := by rfl) (hpl : (backTo pos (starEach [] c.X.env)).any (·.1) = false := by rfl) :
    JE c (.Call (.Name "int" p) [e] [] pos) (tCB rIntA tr) (dCB intD dr) :=
  je_callTy (T := "int") call_int1 (fun F H xs ds z Q ex h hz k => by
    unfold intD at hz
    split at hz
    · cases h with
      | cons h hn =>
        cases hn
        cases hz
        have e1 := h.int
        subst e1
        exact .inl ⟨_, rfl, k _ F H (.refl ex) (.int _)⟩
    · cases h with
      | cons h hn =>
        cases hn
        cases hz
        have e1 := h.bl
        subst e1
        exact .inr ⟨_, rfl, k _ F H (.refl ex) (.int _)⟩
    · cases hz) hg hm (by decide +kernel) ha (by decide) (by decide) he hpl
/-- max, min of two ints -/
def maxD : List D → Option D
  | [.int i, .int j] => some (.int (if j > i then j else i))
  | _ => none
def minD : List D → Option D
  | [.int i, .int j] => some (.int (if j < i then j else i))
  | _ => none
theorem je_max2 {p : Pos} (hg : Gl c.X "max") (hm : c.X.mg "max" = none) (hc : c.X.calm = true) (ha : JAB c [a, b] tr dr) (he : starEach [a, b] c.X.env = (false, eval a c.X.env) :: starEach [b] c.X.env := by rfl) (hpl : (backTo pos (starEach [b] c.X.env)).any (·.1) = false := by rfl) :
    JE c (.Call (.Name "max" p) [a, b] [] pos) (tCB (fun xs H Q => ∃ i j, xs = [.int i, .int j] ∧ Q (.int (if j > i then j else i)) H) tr) (dCB maxD dr) :=
  je_callB (id := "max") (call_max2 hc) (fun F H xs ds z Q ex h hz k => by
    unfold maxD at hz
    split at hz
    · cases h with
      | cons h hn =>
        cases hn with
        | cons h2 hn =>
          cases hn
          cases hz
          have e1 := h.int
          have e2 := h2.int
          subst e1; subst e2
          exact ⟨_, _, rfl, k _ F H (.refl ex) (.int _)⟩
    · cases hz) hg hm (by decide +kernel) ha (by decide) (by decide) he hpl
theorem je_min2 {p : Pos} (hg : Gl c.X "min") (hm : c.X.mg "min" = none) (hc : c.X.calm = true) (ha : JAB c [a, b] tr dr) (he : starEach [a, b] c.X.env = (false, eval a c.X.env) :: starEach [b] c.X.env := by rfl) (hpl : (backTo pos (starEach [b] c.X.env)).any (·.1) = false := by rfl) :
    JE c (.Call (.Name "min" p) [a, b] [] pos) (tCB (fun xs H Q => ∃ i j, xs = [.int i, .int j] ∧ Q (.int (if j < i then j else i)) H) tr) (dCB minD dr) :=
  je_callB (id := "min") (call_min2 hc) (fun F H xs ds z Q ex h hz k => by
    unfold minD at hz
    split at hz
    · cases h with
      | cons h hn =>
        cases hn with
        | cons h2 hn =>
          cases hn
          cases hz
          have e1 := h.int
          have e2 := h2.int
          subst e1; subst e2
          exact ⟨_, _, rfl, k _ F H (.refl ex) (.int _)⟩
    · cases hz) hg hm (by decide +kernel) ha (by decide) (by decide) he hpl
/-- isinstance(x, T), T a built-in type -/
inductive Ty where
  | int | bool | tuple | list | str
def Ty.nm : Ty → String
  | .int => "int"
  | .bool => "bool"
  | .tuple => "tuple"
  | .list => "list"
  | .str => "str"
def isiD : Ty → D → Option Bool
  | .int, .int _ => some true
  | .int, .bool _ => some true
  | .bool, .bool _ => some true
  | .tuple, .tuple _ => some true
  | .list, .list _ => some true
  | .str, .str _ => some true
  | _, .dict _ => none
  | _, _ => some false
def dIsi (T : Ty) (da : DE) : DE := fun δ => (da δ).bind fun x => (Res.ofO (isiD T x)).bind fun k => .ok (.bool k)
theorem isi_of {K : PySem.W.Frag} {F H : Hp} {v : V} {d : D} {T : Ty} {k : Bool} (ex : Ex F H) (h : Rp F v d) (q : isiD T d = some k) : ∃ t, TyX K H v t ∧ PySem.W.kitOne K t (.type T.nm) = some k := by
  cases h with
  | non => exact ⟨_, .base .non, by cases T <;> cases q <;> exact kit_ty (by decide +kernel)⟩
  | bl b => exact ⟨_, .base (.bl b), by cases T <;> cases q <;> exact kit_ty (by decide +kernel)⟩
  | int b => exact ⟨_, .base (.int b), by cases T <;> cases q <;> exact kit_ty (by decide +kernel)⟩
  | str b => exact ⟨_, .base (.str b), by cases T <;> cases q <;> exact kit_ty (by decide +kernel)⟩
  | lst h r => exact ⟨_, .base (.lst (ex _ _ h)), by cases T <;> cases q <;> exact kit_ty (by decide +kernel)⟩
  | tup h r => obtain ⟨o, h1, _⟩ := h; exact ⟨_, .fTuple (ex _ _ h1), by cases T <;> cases q <;> exact kit_ty (by decide +kernel)⟩
  | soft h r => cases T <;> cases q
  | scr h => cases T <;> cases q
  | dK h r => cases T <;> cases q
  | dT h r => cases T <;> cases q
theorem je_isi {x : Str} {p p2 : Pos} (T : Ty) (hg : Gl c.X "isinstance") (hm : c.X.mg "isinstance" = none) (hg2 : Gl c.X x) (hm2 : c.X.mg x = none) (hb : bootBuiltins x = some (.type T.nm)) (hn : x ≠ "__name__") (hd : (x == ("__debug__" : Str)) = false)
    (ha : JE c a ta da) (he : starEach [a, .Name x p2] c.X.env = (false, eval a c.X.env) :: starEach [.Name x p2] c.X.env := by rfl) (he2 : starEach [.Name x p2] c.X.env = (false, eval (.Name x p2) c.X.env) :: starEach [] c.X.env := by rfl) (hpl : (backTo pos (starEach [.Name x p2] c.X.env)).any (·.1) = false := by rfl) :
    JE c (.Call (.Name "isinstance" p) [a, .Name x p2] [] pos) (tCB (rIsi HasK.K) (tCons ta (tCons (tC (.ty T.nm)) tNil))) (dIsi T da) := by
  rw [← c.hK]
  exact ⟨pe_callB (id := "isinstance") call_isi hg hm (by decide +kernel) (pa_cons ha.p (pa_cons (pe_bltn (v := .ty T.nm) hg2 hm2 hb rfl hn hd) pa_nil he2) he) (by decide) (by decide) he hpl,
   fun F H σ δ Q S P => ha.s.go S P fun F1 H1 x d s1 S1 hx P1 => by
    cases q : isiD T d with
    | none => rw [q] at P1; exact P1.elim
    | some k =>
      rw [q] at P1
      obtain ⟨t, h1, h2⟩ := isi_of (K := c.X.K) S1.fh hx q
      exact ⟨x, .ty T.nm, t, .type T.nm, k, rfl, .ty _, h1, h2, P1 _ F1 H1 (.refl S1.fh) (.bl _)⟩⟩
end
end RD

end
section
namespace RD
open PySem L2
variable [HasK]
section
variable {c : Cc} {e a b : Expr} {es : List Expr} {da db : DE} {pos : Pos} {ta tb tc : TE} {tt tt' : TT} {st : Stmt} {rest : List Stmt} {t u : TS} {ds du : DS} {d : DT} {X : Cx} {tr : TA} {dr : DA}
/-! ### changes of one's own lists -/
/-- x.append(e) -/
def dApp (i : Nat) (da : DE) : DS := fun δ => match δ[i]? with
  | some (.own (.list xs)) => (da δ).out δ fun x => if Sz xs.length then .next (δ.set i (.own (.list (xs ++ [x])))) else .stuck
  | _ => .stuck
theorem ownL {δ : DEnv} {i : Nat} {f : List D → Out} {c : Cc} {F : Hp} {D : Ends} {G : Prop} (P : PostS c F D (match δ[i]? with | some (.own (.list xs)) => f xs | _ => .stuck)) (k : ∀ xs, δ[i]? = some (.own (.list xs)) → PostS c F D (f xs) → G) : G := by
  split at P
  · exact k _ (by assumption) P
  · exact P.elim
theorem Sr.var {F0 H0 F H : Hp} {σ : St} {δ : DEnv} {i : Nat} {ds : List D} (S : Sr F0 H0 F H σ δ) (h : δ[i]? = some (.own (.list ds))) : ∃ l xs, σ[i]? = some (some (.ref l)) ∧ H l = some (.lst xs) ∧ RpAll F xs ds := by
  obtain ⟨l, h1, h2, h3, xs, h4, h5⟩ := S.own i _ h
  exact ⟨l, xs, h1, h4, h5⟩
/-- the same list later -/
theorem Sr.var2 {F0 H0 F H : Hp} {σ : St} {δ : DEnv} {i : Nat} {ds : List D} {l : Addr} (S : Sr F0 H0 F H σ δ) (h : δ[i]? = some (.own (.list ds))) (hl : σ[i]? = some (some (.ref l))) : ∃ xs, H l = some (.lst xs) ∧ RpAll F xs ds := by
  obtain ⟨l', xs, h1, h2, h3⟩ := S.var h
  rw [hl] at h1
  cases h1
  exact ⟨xs, h2, h3⟩
theorem tyL {K : PySem.W.Frag} {H : Hp} {l : Addr} {xs : List V} (h : H l = some (.lst xs)) : tyV K "list" (.ref l) H := Or.inl ⟨rfl, _, sqL h⟩
theorem sim_app {K : PySem.W.Frag} {i : Nat} (h : Sim RF c ta da) : SimS c (tDrop (tBM K "list" rAppend (tVar i) (tCons ta tNil))) (dApp i da) := fun F H σ δ D S P =>
  ownL P fun xs hxs P => by
    obtain ⟨l, vs, h1, h2, h3⟩ := S.var hxs
    refine ⟨.ref l, h1, tyL h2, h.gos S P fun F' H' y z s S' hy P' => ?_⟩
    obtain ⟨vs', h2', h3'⟩ := S'.var2 hxs h1
    by_cases hs : Sz xs.length
    · rw [if_pos hs] at P'
      exact ⟨l, vs', y, rfl, rfl, h2', by rw [h3'.len]; exact hs.lt, P' σ F' _ (.refl _) (S'.write hxs h1 ⟨_, upd_same, h3'.app (.cons hy .nil)⟩)⟩
    · rw [if_neg hs] at P'
      exact P'.elim
theorem js_app {i : Nat} {x : Str} {p ap cp : Pos} (he : JE c e ta da) (hN : c.X.N[i]? = some x := by rfl) (hv : Vis c.X.env.scope x := by first | exact Or.inl rfl | exact Or.inr (Or.inl rfl) | exact Or.inr (Or.inr rfl))
    (hd : (x == ("__debug__" : Str)) = false := by decide) (hcd : (x == ("__classdict__" : Str)) = false := by decide)
    (hbase : attributeBase (.Name x p) "append" c.X.env (eval (.Name x p) c.X.env) = eval (.Name x p) c.X.env := by rfl)
    (hfew : ((backTo cp (starEach [e] c.X.env)).all (fun x => !x.1) && (backToKw cp (keywordEach [] c.X.env)).all (fun x => x.1.isSome) && decide ([e].length + ([] : List Keyword).length + (if ([] : List Keyword).isEmpty then 0 else 1) < 30)) = true := by rfl)
    (hline : (ap.endLine == cp.line) = true := by rfl) (hst : starEach [e] c.X.env = (false, eval e c.X.env) :: starEach [] c.X.env := by rfl) (hpl : (backTo cp (starEach [] c.X.env)).any (·.1) = false := by rfl)
    (hs : swapsWith (.Call (.Attribute (.Name x p) "append" ap) [e] [] cp) none pos.line c.X.env = pure false := by rfl) :
    JS c (.Expr (.Call (.Attribute (.Name x p) "append" ap) [e] [] cp) pos) (tDrop (tBM HasK.K "list" rAppend (tVar i) (tCons ta tNil))) (dApp i da) :=
  ⟨by rw [← c.hK]; exact ps_expr (pe_bm PySem.F.plainAttrs_list PySem.F.slot_list_append PySem.F.type_list_append mt_append (pe_var hN hv hd hcd) (pa_cons he.p pa_nil hst) hbase hfew hline hst hpl) hs, sim_app he.s⟩
/-- x.extend(e) -/
def dExt (i : Nat) (da : DE) : DS := fun δ => match δ[i]? with
  | some (.own (.list xs)) => (da δ).out δ fun x => match x with
    | .list ys => if Sz (xs.length + ys.length) then .next (δ.set i (.own (.list (xs ++ ys)))) else .stuck
    | _ => .stuck
  | _ => .stuck
theorem sim_ext {K : PySem.W.Frag} {i : Nat} (h : Sim RF c ta da) : SimS c (tDrop (tBM K "list" rExtend (tVar i) (tCons ta tNil))) (dExt i da) := fun F H σ δ D S P =>
  ownL P fun xs hxs P => by
    obtain ⟨l, vs, h1, h2, h3⟩ := S.var hxs
    refine ⟨.ref l, h1, tyL h2, h.gos S P fun F' H' y z s S' hy P' => ?_⟩
    obtain ⟨vs', h2', h3'⟩ := S'.var2 hxs h1
    cases z with
    | list ys =>
      by_cases hs : Sz (xs.length + ys.length)
      · have P2 : PostS c F' D (.next (δ.set i (.own (.list (xs ++ ys))))) := by
          have e2 : (if Sz (xs.length + ys.length) then Out.next (δ.set i (.own (.list (xs ++ ys)))) else .stuck) = .next (δ.set i (.own (.list (xs ++ ys)))) := if_pos hs
          rw [← e2]; exact P'
        cases hy with
        | lst hb rb => exact ⟨l, _, vs', _, rfl, rfl, h2', S'.fh _ _ hb, by rw [h3'.len, rb.len]; exact hs.le, P2 σ F' _ (.refl _) (S'.write hxs h1 ⟨_, upd_same, h3'.app rb⟩)⟩
      · have e2 : (if Sz (xs.length + ys.length) then Out.next (δ.set i (.own (.list (xs ++ ys)))) else .stuck) = .stuck := if_neg hs
        have P2 : PostS c F' D (if Sz (xs.length + ys.length) then Out.next (δ.set i (.own (.list (xs ++ ys)))) else .stuck) := P'
        rw [e2] at P2
        exact P2.elim
    | _ => exact P'.elim
theorem js_ext {i : Nat} {x : Str} {p ap cp : Pos} (he : JE c e ta da) (hN : c.X.N[i]? = some x := by rfl) (hv : Vis c.X.env.scope x := by first | exact Or.inl rfl | exact Or.inr (Or.inl rfl) | exact Or.inr (Or.inr rfl))
    (hd : (x == ("__debug__" : Str)) = false := by decide) (hcd : (x == ("__classdict__" : Str)) = false := by decide)
    (hbase : attributeBase (.Name x p) "extend" c.X.env (eval (.Name x p) c.X.env) = eval (.Name x p) c.X.env := by rfl)
    (hfew : ((backTo cp (starEach [e] c.X.env)).all (fun x => !x.1) && (backToKw cp (keywordEach [] c.X.env)).all (fun x => x.1.isSome) && decide ([e].length + ([] : List Keyword).length + (if ([] : List Keyword).isEmpty then 0 else 1) < 30)) = true := by rfl)
    (hline : (ap.endLine == cp.line) = true := by rfl) (hst : starEach [e] c.X.env = (false, eval e c.X.env) :: starEach [] c.X.env := by rfl) (hpl : (backTo cp (starEach [] c.X.env)).any (·.1) = false := by rfl)
    (hs : swapsWith (.Call (.Attribute (.Name x p) "extend" ap) [e] [] cp) none pos.line c.X.env = pure false := by rfl) :
    JS c (.Expr (.Call (.Attribute (.Name x p) "extend" ap) [e] [] cp) pos) (tDrop (tBM HasK.K "list" rExtend (tVar i) (tCons ta tNil))) (dExt i da) :=
  ⟨by rw [← c.hK]; exact ps_expr (pe_bm PySem.F.plainAttrs_list PySem.F.slot_list_extend PySem.F.type_list_extend mt_extend (pe_var hN hv hd hcd) (pa_cons he.p pa_nil hst) hbase hfew hline hst hpl) hs, sim_ext he.s⟩
/-- x[e] = f -/
def setD (xs : List D) (v : D) : D → Option (List D)
  | .int k => (ixN xs.length k).map fun j => xs.set j v
  | _ => none
def Opt.out {α : Type} (o : Option α) (f : α → Out) : Out := match o with
  | some a => f a
  | none => .stuck
theorem outO {α : Type} {o : Option α} {f : α → Out} {c : Cc} {F : Hp} {D : Ends} {G : Prop} (P : PostS c F D (Opt.out o f)) (k : ∀ a, o = some a → PostS c F D (f a) → G) : G := by
  cases o with
  | none => exact P.elim
  | some a => exact k a rfl P
/-- d[k] = v -/
def dputD (es : List (D × D)) (k v : D) : Option (List (D × D)) := match es with
  | (.none, .none) :: es' => (keyT k).bind fun nk => if Sz es'.length then some ((.none, .none) :: putTD es' nk k v) else none
  | es => if isK es = true ∧ Sz es.length then (keyOf k).map fun kk => putKD es kk v else none
theorem dput_of {F H : Hp} {a : Addr} {y v : V} {es es' : List (D × D)} {k z : D} (ex : Ex F H) (ow : OwnA F H a (.dict es)) (hy : Rp F y k) (hv : Rp F v z) (h : dputD es k z = some es') : ∃ o, DPutA HasK.P HasK.w H a y v (upd H a o) ∧ OwnA F (upd H a o) a (.dict es') := by
  unfold dputD at h
  split at h
  · obtain ⟨nk, h1, h2⟩ := Option.bind_eq_some_iff.mp h
    obtain ⟨⟨ds, rfl⟩, h3, h4⟩ := keyT_of h1
    obtain ⟨hs, rfl⟩ := if_some h2
    rcases ow with ⟨kvs, h5, h6⟩ | ⟨xs, es2, h5, h6, q⟩
    · have := h6.isK
      cases this
    · cases q
      cases hy with
      | tup g r =>
        have rk : Rp F (.ref _) (.tuple ds) := .tup g r
        refine ⟨dtO HasK.P HasK.w a (putV xs nk _ v), .inr ⟨xs, nk, _, h5, h6.keys ex, rfl, rk.nkey ex h3 h4, by rw [h6.len]; exact hs.lt, rfl⟩, ?_⟩
        exact .inr ⟨_, _, upd_same, h6.put rk h3 h4 hv, rfl⟩
  · split at h
    · rename_i hk
      obtain ⟨kk, h1, rfl⟩ := Option.map_eq_some_iff.mp h
      have := keyD_of h1
      subst this
      rcases ow with ⟨kvs, h5, h6⟩ | ⟨xs, es2, h5, h6, q⟩
      · have ey : y = kV kk := by
          cases kk with
          | inl i => cases hy; rfl
          | inr i => cases hy; rfl
        exact ⟨.dK (putK kvs kk v), .inl ⟨kvs, kk, h5, ey, by rw [h6.len]; exact hk.2.lt, rfl⟩, .inl ⟨_, upd_same, h6.put hv⟩⟩
      · subst q
        cases hk.1
    · cases h
def dSetIx (i : Nat) (da db : DE) : DS := fun δ => match δ[i]? with
  | some (.own (.list xs)) => (db δ).out δ fun v => (da δ).out δ fun k => Opt.out (setD xs v k) fun ys => .next (δ.set i (.own (.list ys)))
  | some (.own (.dict es)) => (db δ).out δ fun v => (da δ).out δ fun k => Opt.out (dputD es k v) fun es' => .next (δ.set i (.own (.dict es')))
  | _ => .stuck
theorem Sr.varD {F0 H0 F H : Hp} {σ : St} {δ : DEnv} {i : Nat} {d : D} (S : Sr F0 H0 F H σ δ) (h : δ[i]? = some (.own d)) : ∃ l, σ[i]? = some (some (.ref l)) ∧ OwnA F H l d := by
  obtain ⟨l, h1, h2, h3, h4⟩ := S.own i _ h
  exact ⟨l, h1, h4⟩
theorem Sr.varD2 {F0 H0 F H : Hp} {σ : St} {δ : DEnv} {i : Nat} {d : D} {l : Addr} (S : Sr F0 H0 F H σ δ) (h : δ[i]? = some (.own d)) (hl : σ[i]? = some (some (.ref l))) : OwnA F H l d := by
  obtain ⟨l', h1, h2⟩ := S.varD h
  rw [hl] at h1
  cases h1
  exact h2
def rSetA (P : Program) (w : World) : TSet := fun o i v H Q => rSetL o i v H Q ∨ rSetDA P w o i v H Q
theorem sim_setIx {i : Nat} (ha : Sim RF c ta da) (hb : Sim RF c tb db) : SimS c (tAsg tb (gSub (tVar i) ta (rSetA HasK.P HasK.w))) (dSetIx i da db) := fun F H σ δ D S P => by
  unfold dSetIx at P
  split at P
  · rename_i xs hxs
    exact hb.gos S P fun F1 H1 v z s1 S1 hv P1 => by
      obtain ⟨l, vs, h1, h2, h3⟩ := S1.var hxs
      refine ⟨.ref l, h1, ha.gos S1 P1 fun F2 H2 k kd s2 S2 hk P2 => outO P2 fun ys hy P3 => ?_⟩
      obtain ⟨vs', h2', h3'⟩ := S2.var2 hxs h1
      cases kd with
      | int k =>
        cases hk
        obtain ⟨j, hj, rfl⟩ := Option.map_eq_some_iff.mp hy
        exact .inl ⟨l, vs', k, j, rfl, rfl, h2', by rw [h3'.len]; exact hj, P3 σ F2 _ (.refl _) (S2.write hxs h1 ⟨_, upd_same, h3'.set (hv.mono s2.ff) j⟩)⟩
      | _ => cases hy
  · rename_i es hxs
    exact hb.gos S P fun F1 H1 v z s1 S1 hv P1 => by
      obtain ⟨l, h1, h2⟩ := S1.varD hxs
      refine ⟨.ref l, h1, ha.gos S1 P1 fun F2 H2 k kd s2 S2 hk P2 => outO P2 fun es' hy P3 => ?_⟩
      have ow := S2.varD2 hxs h1
      obtain ⟨o, q1, q2⟩ := dput_of S2.fh ow hk (hv.mono s2.ff) hy
      exact .inr ⟨l, _, rfl, q1, P3 σ F2 _ (.refl _) (S2.write hxs h1 q2)⟩
  · exact P.elim
theorem js_setIx {i : Nat} {x : Str} {p sp : Pos} (hu : c.X.A.units + 64 < cLine) (ha : JE c a ta da) (hb : JE c b tb db) (hN : c.X.N[i]? = some x := by rfl) (hv : Vis c.X.env.scope x := by first | exact Or.inl rfl | exact Or.inr (Or.inl rfl) | exact Or.inr (Or.inr rfl))
    (hd : (x == ("__debug__" : Str)) = false := by decide) (hcd : (x == ("__classdict__" : Str)) = false := by decide)
    (hg : PE c.X (.Name x p) (tVar i) → PE c.X a ta → PSet c.X (rSetA c.X.prog c.X.w) → PG c.X (.Subscript (.Name x p) a sp) (gSub (tVar i) ta (rSetA c.X.prog c.X.w)) := by exact fun h1 h2 h3 => pg_sub h1 h2 h3)
    (hs : swapsWithSole [.Subscript (.Name x p) a sp] b pos.line c.X.env = pure false := by rfl) (hw : swappedStores [.Subscript (.Name x p) a sp] b c.X.env = pure none := by rfl) :
    JS c (.Assign [.Subscript (.Name x p) a sp] b pos) (tAsg tb (gSub (tVar i) ta (rSetA HasK.P HasK.w))) (dSetIx i da db) :=
  ⟨by rw [← c.hP, ← c.hw]; exact ps_asg hb.p (hg (pe_var hN hv hd hcd) ha.p (PSet.or set_list (set_dict hu))) hs hw, sim_setIx ha.s hb.s⟩
/-- x[e] += f, a list of ints -/
def augAt (xs : List D) (k : D) : Option (Nat × Int) := match k with
  | .int k => (ixN xs.length k).bind fun j => match xs[j]? with
    | some (.int n) => some (j, n)
    | _ => none
  | _ => none
def dAugIx (i : Nat) (f : Int → Int → Int) (da db : DE) : DS := fun δ => match δ[i]? with
  | some (.own (.list xs)) => (da δ).out δ fun k => Opt.out (augAt xs k) fun p => (db δ).out δ fun v => match v with
    | .int m => .next (δ.set i (.own (.list (xs.set p.1 (.int (f p.2 m))))))
    | _ => .stuck
  | _ => .stuck
def rGetL : V → V → Hp → VK → Prop := fun o i H Q => ∃ p xs k j v, o = .ref p ∧ i = .int k ∧ H p = some (.lst xs) ∧ ixN xs.length k = some j ∧ xs[j]? = some v ∧ Q v H
theorem get_list : PGet X rGetL := by
  intro pins s σ H o i ov iv Q I ro ri h
  obtain ⟨p, xs, k, j, v, rfl, rfl, hp, hj, hv, q⟩ := h
  cases ro
  obtain ⟨t, rfl⟩ := ri
  obtain ⟨its, r, pl, hz⟩ := I.list (.inl (.inl hp) : SqL X.K H p xs)
  obtain ⟨h1, h2, h3, h4⟩ := ixN_seq hj
  obtain ⟨w, ew, rw'⟩ := r.get hv
  have hl := r.length
  have hn := line63
  have fin : EP X pins σ Q w s := ⟨v, H, I, rw', q⟩
  by_cases h0 : 0 ≤ k
  · have hk : k.toNat = j := by
      rw [PySem.seqIndex_of h0 h4] at h1
      exact Option.some.inj h1
    exact wpAny_getItem_list pl.isList h0 (by omega) (by rw [hk]; simpa using ew) fin
  · have hk : (k + (its.toArray.size : Int)).toNat = j := by
      rw [PySem.seqIndex_neg (by omega) h3] at h1
      rw [List.size_toArray, ← hl]
      exact Option.some.inj h1
    exact PySem.wpAny_getItem_list_neg pl.isList (by omega) (by rw [List.size_toArray] <;> omega) (by omega) (by rw [hk]; simpa using ew) fin
theorem augAt_of {xs : List D} {k : D} {p : Nat × Int} (h : augAt xs k = some p) : ∃ m, k = .int m ∧ ixN xs.length m = some p.1 ∧ xs[p.1]? = some (.int p.2) := by
  unfold augAt at h
  split at h
  · obtain ⟨j, h1, h2⟩ := Option.bind_eq_some_iff.mp h
    split at h2
    · cases h2; exact ⟨_, rfl, h1, by assumption⟩
    · cases h2
  · cases h
theorem sim_augIx {i : Nat} {f : Int → Int → Int} (ha : Sim RF c ta da) (hb : Sim RF c tb db) : SimS c (tAugS (tVar i) ta tb rGetL (ipI f) rSetL) (dAugIx i f da db) := fun F H σ δ D S P =>
  ownL P fun xs hxs P => by
    obtain ⟨l, vs, h1, h2, h3⟩ := S.var hxs
    refine ⟨.ref l, h1, ha.gos S P fun F1 H1 k kd s1 S1 hk P1 => outO P1 fun p hp P2 => ?_⟩
    obtain ⟨m, rfl, hm1, hm2⟩ := augAt_of hp
    cases hk
    obtain ⟨vs1, h21, h31⟩ := S1.var2 hxs h1
    obtain ⟨w, hw1, hw2⟩ := h31.getD hm2
    cases hw2
    refine ⟨l, vs1, m, p.1, _, rfl, rfl, h21, by rw [h31.len]; exact hm1, hw1, hb.gos S1 P2 fun F2 H2 y z s2 S2 hy P3 => ?_⟩
    obtain ⟨vs2, h22, h32⟩ := S2.var2 hxs h1
    cases z with
    | int n =>
      cases hy
      exact ⟨_, n, rfl, rfl, l, vs2, m, p.1, rfl, rfl, h22, by rw [h32.len]; exact hm1, P3 σ F2 _ (.refl _) (S2.write hxs h1 ⟨_, upd_same, h32.set (.int _) p.1⟩)⟩
    | _ => exact P3.elim
theorem js_augIx {i : Nat} {x : Str} {p sp : Pos} {op : Operator} {f : Int → Int → Int} (ho : PIp c.X op (ipI f)) (ha : JE c a ta da) (hb : JE c b tb db) (hN : c.X.N[i]? = some x := by rfl) (hv : Vis c.X.env.scope x := by first | exact Or.inl rfl | exact Or.inr (Or.inl rfl) | exact Or.inr (Or.inr rfl))
    (hd : (x == ("__debug__" : Str)) = false := by decide) (hcd : (x == ("__classdict__" : Str)) = false := by decide)
    (hx : ∀ ov iv new, augStore a ov iv new = (do holding [new, ov, iv] (setItem ov iv new); release [new, ov, iv] []; pure .next) := by intros; rfl) :
    JS c (.AugAssign (.Subscript (.Name x p) a sp) op b pos) (tAugS (tVar i) ta tb rGetL (ipI f) rSetL) (dAugIx i f da db) :=
  ⟨ps_augS (pe_var hN hv hd hcd) ha.p get_list hb.p ho set_list hx, sim_augIx ha.s hb.s⟩
end
end RD

end
section
namespace RD
open PySem L2
variable [HasK]
section
variable {c : Cc} {e a b tg : Expr} {es : List Expr} {da db : DE} {pos : Pos} {ta tb tc : TE} {tt tt' : TT} {st : Stmt} {rest : List Stmt} {t u : TS} {ds du : DS} {d : DT} {X : Cx} {tr : TA} {dr : DA}
/-! ### targets -/
abbrev DG := D → DEnv → Option DEnv
abbrev DGs := List D → DEnv → Option DEnv
def SimG (c : Cc) (g : TG) (dg : DG) : Prop := ∀ F H σ δ v d δ' (Q : St → Hp → Prop), Sr c.F0 c.H0 F H σ δ → Rp F v d → dg d δ = some δ' → (∀ σ', Sr c.F0 c.H0 F H σ' δ' → Q σ' H) → g v σ H Q
def SimGs (c : Cc) (g : TGs) (dg : DGs) : Prop := ∀ F H σ δ v d δ' (Q : St → Hp → Prop), Sr c.F0 c.H0 F H σ δ → RpAll F v d → dg d δ = some δ' → (∀ σ', Sr c.F0 c.H0 F H σ' δ' → Q σ' H) → g v σ H Q
structure JG (c : Cc) (e : Expr) (g : TG) (d : DG) : Prop where
  p : PG c.X e g
  s : SimG c g d
structure JGs (c : Cc) (e : List Expr) (g : TGs) (d : DGs) : Prop where
  p : PGs c.X e g
  s : SimGs c g d
def gN (i : Nat) : DG := fun d δ => some (δ.set i (.val d))
def gsN : DGs := fun ds δ => match ds with
  | [] => some δ
  | _ => none
def gsC (g : DG) (r : DGs) : DGs := fun ds δ => match ds with
  | d :: ds => (g d δ).bind (r ds)
  | [] => none
def gT (n : Nat) (g : DGs) : DG := fun d δ => match d with
  | .tuple ds => if ds.length = n then g ds δ else none
  | .dict [(.none, .tuple ds)] => if ds.length = n then g ds δ else none
  | _ => none
theorem jg_name {i : Nat} {x : Str} (hN : c.X.N.Nodup) (hi : c.X.N[i]? = some x := by rfl) (hx : Loc c.X.env.scope x := by first | exact Or.inl rfl | exact Or.inr rfl) (hf : c.X.fn x = true ∨ c.X.env.scope.names.lookup x = some .local := by first | exact .inl rfl | exact .inr rfl) : JG c (.Name x pos) (gName i) (gN i) :=
  ⟨pg_name hN hi hx hf, fun F H σ δ v d δ' Q S hv hd k => by
    cases hd
    exact k _ (S.set hv i)⟩
theorem jgs_nil : JGs c [] gNil gsN := ⟨pgs_nil, fun F H σ δ v d δ' Q S hv hd k => by
  cases hv with
  | nil => cases hd; exact ⟨rfl, k σ S⟩
  | cons _ _ => cases hd⟩
theorem jgs_cons {g : TG} {gs : TGs} {dg : DG} {dgs : DGs} (h1 : JG c e g dg) (h2 : JGs c es gs dgs) (hp : PG c.X e g → PGs c.X es gs → PGs c.X (e :: es) (gCons g gs) := by exact fun a b => pgs_cons a b) : JGs c (e :: es) (gCons g gs) (gsC dg dgs) :=
  ⟨hp h1.p h2.p, fun F H σ δ v d δ' Q S hv hd k => by
    cases hv with
    | nil => cases hd
    | cons hx hr =>
      obtain ⟨δ1, q1, q2⟩ := Option.bind_eq_some_iff.mp hd
      exact ⟨_, _, rfl, h1.s F H σ δ _ _ δ1 _ S hx q1 fun σ' S' => h2.s F H σ' δ1 _ _ δ' Q S' hr q2 k⟩⟩
theorem jg_tup {gs : TGs} {dgs : DGs} {k n : Nat} (hc : c.X.calm = true) (h : JGs c es gs dgs) (hp : PGs c.X es gs → PG c.X (.Tuple es k pos) (gTup c.X.K n gs) := by exact fun a => pg_tup rfl a) : JG c (.Tuple es k pos) (gTup HasK.K n gs) (gT n dgs) := by
  rw [← c.hK]
  exact ⟨hp h.p, fun F H σ δ v d δ' Q S hv hd k => by
    unfold gT at hd
    split at hd
    · split at hd
      · cases hv with
        | tup ha ra => exact ⟨_, _, rfl, sqT (ha.mono S.fh), by rw [ra.len]; assumption, h.s F H σ δ _ _ δ' Q S ra hd k⟩
      · cases hd
    · rename_i ds
      split at hd
      · rcases hv.invD _ rfl with ⟨a, ns, _, _, q⟩ | ⟨a, xs, ds', h1, h2, h3, q⟩ | ⟨a, o, kvs, _, h2, h3⟩ | ⟨a, o, xs, es', h1, h2, h3, q⟩
        · cases q
        · cases q
          subst h1
          exact ⟨_, _, rfl, sqT0 (S.fh _ _ h2), by rw [h3.len]; assumption, h.s F H σ δ _ _ δ' Q S h3 hd k⟩
        · have := h3.isK
          cases this
        · cases q
      · cases hd
    · cases hd⟩
def dAsg (da : DE) (g : DG) : DS := fun δ => (da δ).out δ fun x => Opt.out (g x δ) .next
theorem js_asg {g : TG} {dg : DG} (he : JE c e ta da) (hg : JG c tg g dg) (hs : swapsWithSole [tg] e pos.line c.X.env = pure false := by rfl) (hw : swappedStores [tg] e c.X.env = pure none := by rfl)
    (h1 : (assignEach [tg] c.X.env).map (·.2) = [assign tg c.X.env] := by rfl) : JS c (.Assign [tg] e pos) (tAsg ta g) (dAsg da dg) :=
  ⟨ps_asg he.p hg.p hs hw h1, fun F H σ δ D S P => he.s.gos S P fun F1 H1 x z s1 S1 hx P1 => outO P1 fun δ' hd P2 => hg.s F1 H1 σ δ x z δ' D.nx S1 hx hd fun σ' S' => P2 σ' F1 H1 (.refl _) S'⟩
/-- a, b = e, f -/
def dPar (i j : Nat) (dr : DA) : DS := fun δ => (dr δ).out δ fun xs => match xs with
  | [x, y] => .next ((δ.set i (.val x)).set j (.val y))
  | _ => .stuck
theorem js_par {i j : Nat} {x y : Str} {px py pt : Pos} {kt k2 pt2} (hc : c.X.calm = true) (hN : c.X.N.Nodup) (ha : JA c [a, b] tr dr)
    (hp : PA c.X [a, b] tr → PS c.X (.Assign [.Tuple [.Name x px, .Name y py] kt pt] (.Tuple [a, b] k2 pt2) pos) (tPar i j tr)) :
    JS c (.Assign [.Tuple [.Name x px, .Name y py] kt pt] (.Tuple [a, b] k2 pt2) pos) (tPar i j tr) (dPar i j dr) :=
  ⟨hp ha.p, fun F H σ δ D S P => ha.s.gos S P fun F1 H1 xs zs s1 S1 hx P1 => by
    cases hx with
    | nil => exact P1.elim
    | cons h1 r1 =>
      cases r1 with
      | nil => exact P1.elim
      | cons h2 r2 =>
        cases r2 with
        | nil => exact ⟨_, _, rfl, P1 _ F1 H1 (.refl _) ((S1.set h1 i).set h2 j)⟩
        | cons _ _ => exact P1.elim⟩
/-- x += e of ints -/
def dAug (i : Nat) (f : Int → Int → Int) (da : DE) : DS := fun δ => match δ[i]? with
  | some (.val (.int k)) => (da δ).out δ fun y => match y with
    | .int m => .next (δ.set i (.val (.int (f k m))))
    | _ => .stuck
  | _ => .stuck
theorem js_aug {i : Nat} {x : Str} {op : Operator} {f : Int → Int → Int} {pos' : Pos} (hN : c.X.N.Nodup) (ho : PIp c.X op (ipI f)) (he : JE c e ta da) (hi : c.X.N[i]? = some x := by rfl) (hx : Loc c.X.env.scope x := by first | exact Or.inl rfl | exact Or.inr rfl)
    (hf : c.X.fn x = true ∨ c.X.env.scope.names.lookup x = some .local := by first | exact .inl rfl | exact .inr rfl) :
    JS c (.AugAssign (.Name x pos') op e pos) (tAug i ta (ipI f)) (dAug i f da) :=
  ⟨ps_aug hN hi hx he.p ho hf, fun F H σ δ D S P => by
    unfold dAug at P
    split at P
    · rename_i k q
      obtain ⟨v, h1, h2⟩ := S.val i _ q
      cases h2
      refine ⟨_, h1, he.s.gos S P fun F1 H1 y z s1 S1 hy P1 => ?_⟩
      cases z with
      | int m => cases hy; exact ⟨k, m, rfl, rfl, P1 _ F1 H1 (.refl _) (S1.set (.int _) i)⟩
      | _ => exact P1.elim
    · exact P.elim⟩
/-- y = x.pop(k), y = x.pop() -/
def dPopAt (i j : Nat) (da : DE) : DS := fun δ => match δ[i]? with
  | some (.own (.list xs)) => (da δ).out δ fun k => match k with
    | .int k => if k < 2 ^ 60 ∧ -(2 ^ 60) < k then Opt.out (ixN xs.length k) fun m => Opt.out xs[m]? fun y => .next ((δ.set i (.own (.list (xs.eraseIdx m)))).set j (.val y)) else .stuck
    | _ => .stuck
  | _ => .stuck
theorem sim_popAt {K : PySem.W.Frag} {i j : Nat} (h : Sim RF c ta da) : SimS c (tAsg (tBM K "list" rPopAt (tVar i) (tCons ta tNil)) (gName j)) (dPopAt i j da) := fun F H σ δ D S P =>
  ownL P fun xs hxs P => by
    obtain ⟨l, vs, h1, h2, h3⟩ := S.var hxs
    refine ⟨.ref l, h1, tyL h2, h.gos S P fun F' H' y z s S' hy P' => ?_⟩
    obtain ⟨vs', h2', h3'⟩ := S'.var2 hxs h1
    cases z with
    | int k =>
      cases hy
      by_cases hk : k < 2 ^ 60 ∧ -(2 ^ 60) < k
      · have P2 : PostS c F' D (Opt.out (ixN xs.length k) fun m => Opt.out xs[m]? fun y => .next ((δ.set i (.own (.list (xs.eraseIdx m)))).set j (.val y))) := by
          have e2 : (if k < 2 ^ 60 ∧ -(2 ^ 60) < k then Opt.out (ixN xs.length k) fun m => Opt.out xs[m]? fun y => Out.next ((δ.set i (.own (.list (xs.eraseIdx m)))).set j (.val y)) else .stuck) = _ := if_pos hk
          rw [← e2]; exact P'
        refine outO P2 fun m hm P3 => outO P3 fun y hy P4 => ?_
        obtain ⟨w, hw, rw_⟩ := h3'.getD hy
        obtain ⟨q1, q2, q3, q4⟩ := ixN_seq hm
        refine ⟨l, vs', k, m, w, rfl, rfl, h2', by omega, by omega, by rw [h3'.len]; exact q1, hw, P4 _ F' _ (.refl _) ?_⟩
        exact Sr.set (S'.write (d' := .list (xs.eraseIdx m)) hxs h1 ⟨_, upd_same, h3'.erase m⟩) rw_ j
      · have e2 : (if k < 2 ^ 60 ∧ -(2 ^ 60) < k then Opt.out (ixN xs.length k) fun m => Opt.out xs[m]? fun y => Out.next ((δ.set i (.own (.list (xs.eraseIdx m)))).set j (.val y)) else .stuck) = .stuck := if_neg hk
        have P2 : PostS c F' D (if k < 2 ^ 60 ∧ -(2 ^ 60) < k then Opt.out (ixN xs.length k) fun m => Opt.out xs[m]? fun y => Out.next ((δ.set i (.own (.list (xs.eraseIdx m)))).set j (.val y)) else .stuck) := P'
        rw [e2] at P2
        exact P2.elim
    | _ => exact P'.elim
theorem js_popAt {i j : Nat} {y : Str} {p : Pos} (hN : c.X.N.Nodup) (he : JE c e ta da) (hp : PE c.X e ta → PE c.X a (tBM c.X.K "list" rPopAt (tVar i) (tCons ta tNil)))
    (hj : c.X.N[j]? = some y := by rfl) (hx : Loc c.X.env.scope y := by first | exact Or.inl rfl | exact Or.inr rfl)
    (hs : swapsWith a (some (.Name y p)) pos.line c.X.env = pure false := by rfl) (hf : c.X.fn y = true ∨ c.X.env.scope.names.lookup y = some .local := by first | exact .inl rfl | exact .inr rfl) :
    JS c (.Assign [.Name y p] a pos) (tAsg (tBM HasK.K "list" rPopAt (tVar i) (tCons ta tNil)) (gName j)) (dPopAt i j da) := by
  rw [← c.hK]
  exact ⟨ps_set hN hj hx (hp he.p) hs hf, sim_popAt he.s⟩
def dPopG (i : Nat) (g : DG) : DS := fun δ => match δ[i]? with
  | some (.own (.list xs)) => Opt.out xs[xs.length - 1]? fun y => Opt.out (g y (δ.set i (.own (.list xs.dropLast)))) .next
  | _ => .stuck
theorem sim_popG {K : PySem.W.Frag} {i : Nat} {g : TG} {dg : DG} (hg : SimG c g dg) : SimS c (tAsg (tBM0 K "list" rPop (tVar i)) g) (dPopG i dg) := fun F H σ δ D S P =>
  ownL P fun xs hxs P => outO P fun y hy P2 => outO P2 fun δ' hd P3 => by
    obtain ⟨l, vs, h1, h2, h3⟩ := S.var hxs
    obtain ⟨w, hw, rw_⟩ := h3.getD hy
    refine ⟨.ref l, h1, tyL h2, l, vs, w, rfl, rfl, h2, by rw [h3.len]; exact hw, ?_⟩
    exact hg F _ σ _ w y δ' D.nx (S.write (d' := .list xs.dropLast) hxs h1 ⟨_, upd_same, h3.dropLast⟩) rw_ hd fun σ' S' => P3 σ' F _ (.refl _) S'
theorem js_popG {i : Nat} {g : TG} {dg : DG} (hp : PE c.X a (tBM0 c.X.K "list" rPop (tVar i))) (hg : JG c tg g dg) (hs : swapsWithSole [tg] a pos.line c.X.env = pure false := by rfl) (hw : swappedStores [tg] a c.X.env = pure none := by rfl)
    (h1 : (assignEach [tg] c.X.env).map (·.2) = [assign tg c.X.env] := by rfl) : JS c (.Assign [tg] a pos) (tAsg (tBM0 HasK.K "list" rPop (tVar i)) g) (dPopG i dg) := by
  rw [← c.hK]
  exact ⟨ps_asg hp hg.p hs hw h1, sim_popG hg.s⟩
/-! ### a list of one's own is given away -/
def frz (i : Nat) (δ : DEnv) : Option DEnv := match δ[i]? with
  | some (.own (.list xs)) => some (δ.set i (.val (.list xs)))
  | some (.own (.dict es)) => some (δ.set i (.val (.dict es)))
  | some (.val _) => some δ
  | _ => none
def dFrz (i : Nat) (ds : DS) : DS := fun δ => Opt.out (frz i δ) ds
/-- .. the thing at some address may be locked ahead of it, for ever -/
def tFz (t : TS) : TS := fun D σ H => t D σ H ∨ ∃ d u, H d = some u ∧ Mut (some u) ∧ ∀ od, t D σ (upd H d (.frz od u))
theorem pss_fz {sts : List Stmt} {t : TS} (h : PSs X sts t) : PSs X sts (tFz t) := by
  refine ⟨fun pins s σ H D I hw => ?_⟩
  rcases hw with hw | ⟨d, u, hd, mu, hw⟩
  · exact h.run pins s σ H D I hw
  · obtain ⟨od, I1⟩ := I.lock hd mu
    exact h.run pins s σ _ D I1 (hw od)
theorem sim_frz {i : Nat} (h : SimS c t ds) : SimS c (tFz t) (dFrz i ds) := fun F H σ δ D S P => outO P fun δ' hd P2 => by
  unfold frz at hd
  split at hd
  · rename_i xs q
    cases hd
    obtain ⟨a, F', h1, h2, h3, S'⟩ := S.freezeL q
    exact .inl (h F' H σ _ D S' (P2.up h3))
  · rename_i es q
    cases hd
    obtain ⟨a, u, h1, h2, h3⟩ := S.freezeD q
    refine .inr ⟨a, u, h1, h2, fun od => ?_⟩
    obtain ⟨F', e, S'⟩ := h3 od
    exact h F' _ σ _ D S' (P2.up e)
  · cases hd
    exact .inl (h F H σ _ D S P2)
  · cases hd
theorem jss_frz (i : Nat) {sts : List Stmt} (h : JSs c sts t ds) : JSs c sts (tFz t) (dFrz i ds) := ⟨pss_fz h.p, sim_frz h.s⟩
end
end RD

end
section
namespace RD
open PySem PySem.Spec L2 PyProof.Rows
/-! What zip draws from: a list, a tuple, the keys of a dict. zip(a, b) begins by the library's zip_begins2 and goes on by its
wpAny_pyNext_zipD2_item and .._end; here is what they ask: Begins and Draws of each source. -/
section
variable {prog : Program} {w : World} {A : Around} {E : Value → Shared → Prop} {s : Shared}
/-- a dict's iterator that has nothing left -/
theorem nextKey_end {it d : Addr} {i ep : Nat} {od : Obj} {es : Array DictEntry} {Q : Value → Shared → Prop} (hh : A.handled = none) (hit : s.heap.IsKeyIter it d i es.size ep) (hod : s.heap.get? d = some od) (hdd : od.data = .dict es ep)
    (hge : es.size ≤ i) (hE : ∀ h' e, Heap.ExtBut it s.heap h' → (∃ o, h'.get? e = some o ∧ o.cls = .type "StopIteration") → E (.ref e) { s with heap := h' }) : wpAny (model prog w) A (Builtin.SmallTypes.nextOf (.ref it)) Q E s := by
  have ty := hit.typeIs
  have ⟨o, ho, hc, hd⟩ := hit
  have hh1 : A.in1.handled = none := hh
  have past : es[i]? = none := Array.getElem?_eq_none hge
  have plain : Builtin.Dict_items.ownsTuple "dict_keyiterator" = false := by decide
  delta Builtin.SmallTypes.nextOf
  apply wpAny_bind
  apply wpAny_callSpecial?_slot (name := Str.ofString "__next__") ty F.slot_dict_keyiterator_next
  apply wpAny_call_entry F.slot_dict_keyiterator_next ty F.entry_dict_keyiterator_next _ (F.args_dict_keyiterator_next_1 _)
  wp_walk using wpAny_typeNameOfWhole_keyiter ty, wpAny_typeNameOf_keyiter ty, wpAny_fieldsOf ho hd, wpAny_dictEntries hod hdd, wpAny_dictEpoch hod hdd
  rw [if_neg (Int.not_lt.mpr (Int.natCast_nonneg i)), Int.toNat_natCast, past]
  wp_walk using wpAny_typeNameOfWhole_keyiter ty, wpAny_typeNameOf_keyiter ty
  rw [hd, plain]
  wp_walk
  delta raiseNew
  wp_walk
  have kept := fun f => Heap.SameBut.extBut (Heap.SameBut.update s.heap it f)
  exact hE _ _ (Heap.ExtBut.push (Heap.ExtBut.push (kept _) _) _) ⟨_, Heap.get?_push_size _ rfl, rfl⟩
/-- the keys of a dict, drawn one by one -/
theorem drawsKeys {K : Type} [DecidableEq K] {knd : KeyKind prog w K} (hh : A.handled = none) (it d : Addr) (hne : d ≠ it) (kvs : List (K × Value)) (ep : Nat) :
    Draws prog w A it [it, d] kvs.length (fun i v => ∃ k x, kvs[i]? = some (k, x) ∧ knd.is k v = true) (fun i h => h.IsKeyIter it d i kvs.length ep ∧ h.DictAt knd d kvs ep) where
  live := fun _ _ ⟨⟨o, at_, _⟩, _⟩ => ⟨o, at_⟩
  frame := fun _ _ _ ⟨st, od, es, at_, r⟩ hk => ⟨st.at (hk it (.head _)), od, es, hk d (.tail _ (.head _)) _ at_, r⟩
  item := fun i s Q E hi ⟨st, dt⟩ hQ => by
    delta Builtin.SmallTypes.nextOf
    have hx : kvs[i]? = some ((kvs[i]).1, (kvs[i]).2) := List.getElem?_eq_getElem hi
    refine wpAny_bind (PySem.W.kdk_special st dt hx fun key h' ke st' only => wpAny_pure ?_)
    obtain ⟨od, es, at_, r⟩ := dt
    exact hQ key h' s.toks ⟨_, _, hx, ke⟩ ⟨st', od, es, (only.2 d hne).trans at_, r⟩ only
  done := fun s Q E ⟨st, od, es, at_, ex, dd, ko, pr, nd⟩ hE => by
    have sz : es.size = kvs.length := by rw [← pr.length, Array.length_toList]
    rw [← sz] at st
    exact nextKey_end hh st at_ dd (Nat.le_refl _) hE
end
/-- iter(d), d a dict that is at d as od -/
theorem beginsKeys {d : Addr} {od : Obj} {es : Array DictEntry} {ep : Nat} (hs : (d == sysModules) = false) (ex : od.ExactDict) (dd : od.data = .dict es ep) :
    Begins (.ref d) { cls := .type "dict_keyiterator", data := .fields #[.ref d, .int 0 0, .int es.size 0, .int ep 0] } fun h => h.get? d = some od where
  iter := fun _ _ _ _ _ _ at_ q => iter_keys hs at_ ex dd q
  keeps := fun _ _ at_ k => k d od at_
  free := rfl
/-- a thing that zip draws from: the one at a, its items xs; Sit: what its iterator is -/
structure ZSrc (P : Program) (w : World) (K : PySem.W.Frag) (a : Addr) (xs : List V) (ok : Hp → Prop) (Sit : Addr → Nat → Heap → Prop) : Prop where
  obj : ∀ {it i h}, Sit it i h → ∃ o, h.get? it = some o ∧ ∀ v, o.data ≠ .cell v
  keep : ∀ {it i h h'}, Sit it i h → (∀ o, h.get? it = some o → h'.get? it = some o) → Sit it i h'
  draws : ∀ {X : Cx} {pins : List (Addr × Obj)} {σ : L2.St} {H : Hp} {s : Shared}, X.prog = P → X.w = w → X.K = K → Inv X pins σ H s → ok H → ∃ (Con : Heap → Prop) (Pv : Nat → Value → Prop), Con s.heap ∧ a < s.heap.objs.size ∧
    (∀ (A : Around) (it : Addr), A.handled = none → a ≠ it → Draws P w A it [it, a] xs.length Pv (fun i h => Sit it i h ∧ Con h)) ∧ ∀ i v, Pv i v → ∃ x, xs[i]? = some x ∧ RelV x v
  begins : ∀ {X : Cx} {pins : List (Addr × Obj)} {σ : L2.St} {H : Hp} {s : Shared}, X.prog = P → X.w = w → X.K = K → Inv X pins σ H s → ok H → ∃ (ob : Obj) (B : Heap → Prop), Begins (.ref a) ob B ∧ B s.heap ∧ ∀ it (h : Heap), h.get? it = some ob → Sit it 0 h
/-- the items as values, and what they stand for -/
theorem vals_at {xs : List V} {its : List Value} (rv : Vals xs its) {i : Nat} {v : Value} (hv : its.toArray[i]? = some v) : ∃ x, xs[i]? = some x ∧ RelV x v := by
  rw [List.getElem?_toArray] at hv
  have hi : i < xs.length := rv.length ▸ (List.getElem?_eq_some_iff.mp hv).1
  have ⟨u, hu, r⟩ := rv.get (List.getElem?_eq_getElem hi)
  exact ⟨xs[i], List.getElem?_eq_getElem hi, Option.some.inj (hv.symm.trans hu) ▸ r⟩
theorem zsrc_list {P : Program} {w : World} {K : PySem.W.Frag} {a : Addr} {xs : List V} : ZSrc P w K a xs (fun H => SqL K H a xs) (fun it i h => h.IsListIter it a i) where
  obj := fun ⟨o, at_, _, d⟩ => ⟨o, at_, fun v q => nomatch d.symm.trans q⟩
  keep := fun st k => st.at k
  draws := fun hP hw hK I hq => by
    subst hP hw hK
    have ⟨its, rv, p, _⟩ := I.list hq
    refine ⟨fun h => h.IsList a its.toArray, fun i v => its.toArray[i]? = some v, p.isList, p.lt, fun A it hh hne => ?_, fun _ _ hv => vals_at rv hv⟩
    have n : xs.length = its.toArray.size := rv.length.trans List.size_toArray.symm
    exact n ▸ Draws.list hh it a hne _
  begins := fun hP hw hK I hq => by
    subst hP hw hK
    have ⟨its, _, p, _⟩ := I.list hq
    exact ⟨_, _, begins_list a its.toArray, p.isList, fun _ _ e => ⟨_, e, rfl, rfl⟩⟩
theorem zsrc_tup {P : Program} {w : World} {K : PySem.W.Frag} {a : Addr} {xs : List V} : ZSrc P w K a xs (fun H => SqT K H a xs) (fun it i h => h.IsTupleIter it a i) where
  obj := fun ⟨o, at_, _, d⟩ => ⟨o, at_, fun v q => nomatch d.symm.trans q⟩
  keep := fun st k => st.at k
  draws := fun {X pins σ H s} hP hw hK I hq => by
    subst hP hw hK
    have ⟨its, rv, p, _⟩ := I.tuple hq
    have ⟨_, at_, _⟩ := p
    refine ⟨fun h => h.IsTuple a its.toArray, fun i v => its.toArray[i]? = some v, p, Heap.lt_size at_, fun A it hh hne => ?_, fun _ _ hv => vals_at rv hv⟩
    have n : xs.length = its.toArray.size := rv.length.trans List.size_toArray.symm
    exact n ▸ Draws.tuple hh it a hne _
  begins := fun {X pins σ H s} hP hw hK I hq => by
    subst hP hw hK
    have ⟨its, _, p, _⟩ := I.tuple hq
    exact ⟨_, _, begins_tuple a its.toArray, p, fun _ _ e => ⟨_, e, rfl, rfl⟩⟩
theorem zsrc_keys {P : Program} {w : World} {K : PySem.W.Frag} {a : Addr} {o : Obj} {kvs : List (Key × V)} :
    ZSrc P w K a (kvs.map fun p => kV p.1) (fun H => H a = some (.frz o (.dK kvs))) (fun it i h => ∃ ep, (∃ es, o.data = .dict es ep) ∧ h.IsKeyIter it a i kvs.length ep) where
  obj := fun ⟨_, _, o, at_, _, d⟩ => ⟨o, at_, fun v q => nomatch d.symm.trans q⟩
  keep := fun ⟨ep, e, st⟩ k => ⟨ep, e, st.at k⟩
  draws := fun {X pins σ H s} hP hw hK I hq => by
    subst hP hw hK
    have ⟨_, hgd, _, es, ep, vs, hod, hsz, kv, hm⟩ := I.frzK hq
    have n : kvs.length = vs.length := kv.length
    refine ⟨fun h => h.DictAt (mixKind X.prog X.w) a vs ep, fun i v => ∃ k x, vs[i]? = some (k, x) ∧ (mixKind X.prog X.w).is k v = true, hm, Heap.lt_size hgd, fun A it hh hne => ?_, fun i v ⟨k, x, hx, hk⟩ => ?_⟩
    rotate_left
    · have hi : i < kvs.length := n ▸ (List.getElem?_eq_some_iff.mp hx).1
      have ⟨u, hu, _⟩ := kv_get kv (List.getElem?_eq_getElem hi : kvs[i]? = some (kvs[i].1, kvs[i].2))
      have ek : k = kvs[i].1 := congrArg Prod.fst (Option.some.inj (hx.symm.trans hu))
      exact ⟨kV k, by rw [List.getElem?_map, List.getElem?_eq_getElem hi, ek]; rfl, relV_key hk⟩
    · have D := drawsKeys (knd := mixKind X.prog X.w) hh it a hne vs ep
      have same : (fun (i : Nat) (h : Heap) => (∃ ep', (∃ es', o.data = .dict es' ep') ∧ h.IsKeyIter it a i kvs.length ep') ∧ h.DictAt (mixKind X.prog X.w) a vs ep) = fun i h => h.IsKeyIter it a i vs.length ep ∧ h.DictAt (mixKind X.prog X.w) a vs ep := by
        funext i h
        refine propext ⟨fun ⟨⟨ep', ⟨es', e'⟩, st⟩, dt⟩ => ⟨?_, dt⟩, fun ⟨st, dt⟩ => ⟨⟨ep, ⟨es, hod⟩, n ▸ st⟩, dt⟩⟩
        have same := (dict_ep hod e').2
        exact n ▸ same ▸ st
      rw [List.length_map, same, n]
      exact D
  begins := fun {X pins σ H s} hP hw hK I hq => by
    subst hP hw hK
    have ⟨hs, hgd, ex, es, ep, _, hod, hsz, _, _⟩ := I.frzK hq
    exact ⟨_, _, beginsKeys hs ex hod, hgd, fun _ _ e => ⟨ep, ⟨es, hod⟩, _, e, rfl, by rw [hsz]; rfl⟩⟩
/-- two such things, in new pairs -/
def ItzG (xs ys : List V) (ok1 ok2 : Hp → Prop) : It :=
  ⟨fun i H => ok1 H ∧ ok2 H ∧ i < xs.length ∧ i < ys.length,
    fun i H v H' => ∃ T x y, v = .ref T ∧ H T = none ∧ H' = upd H T (.tup [x, y]) ∧ xs[i]? = some x ∧ ys[i]? = some y,
    fun i H => ok1 H ∧ ok2 H ∧ i = min xs.length ys.length⟩
theorem walk_zipG {xs ys : List V} {ok1 ok2 : Hp → Prop} : Walk (ItzG xs ys ok1 ok2) (min xs.length ys.length) (fun H => ok1 H ∧ ok2 H) (YPair (fun i => xs[i]?) (fun i => ys[i]?)) where
  goes := fun i H hi g => ⟨g.1, g.2, by omega, by omega⟩
  stops := fun H g => ⟨g.1, g.2, rfl⟩
  yields := fun i H x H' hi g h => h
theorem neA {a b : Nat} (h : ¬ a = b) : @Ne Addr a b := h
/-- the cells of a zip that was made at I -/
def zCells (I : Nat) : List Addr := [I + 4, I + 2, I + 3, I, I + 1]
theorem zCells_iff {I c : Nat} : @Membership.mem Addr _ _ (zCells I) c ↔ I ≤ c ∧ c < I + 5 := by
  unfold zCells
  simp only [List.mem_cons, List.not_mem_nil, or_false]
  show (c = I + 4 ∨ c = I + 2 ∨ c = I + 3 ∨ c = I ∨ c = I + 1) ↔ _
  omega
theorem zipSep {I a b : Nat} (h1 : a < I) (h2 : b < I) : ZipSep2 (I + 4) (I + 2) (I + 3) I (I + 1) [I, a] [I + 1, b] := by
  have no : ∀ {x u v : Nat}, ¬ x = u → ¬ x = v → ¬ @Membership.mem Addr _ _ [u, v] x := fun p q m => by
    rcases List.mem_cons.mp m with e | m
    · exact p e
    · exact q (List.mem_singleton.mp m)
  constructor
  case mem1 => exact List.mem_cons_self
  case mem2 => exact List.mem_cons_self
  all_goals first
    | exact neA (by omega)
    | exact no (by omega) (by omega)
/-- the n-th cell behind I -/
abbrev nth (I n : Nat) : Addr := I + n
theorem nth_in {I n : Nat} (h : n < 5) : nth I n ∈ zCells I := zCells_iff.mpr ⟨Nat.le_add_right I n, Nat.add_lt_add_left h I⟩
theorem nth_ne {I n m : Nat} (h : n ≠ m) : nth I n ≠ nth I m := fun e => h (Nat.add_left_cancel e)
/-- a cell that is none of them -/
theorem out5 {I c : Nat} (h : ¬ @Membership.mem Addr _ _ (zCells I) c) {n : Nat} (hn : n < 5) : @Ne Addr c (nth I n) := fun e => h (e ▸ nth_in hn)
/-- a zip that was made at I, its sources i items on -/
structure ZAt (I : Nat) (S1 S2 : Addr → Nat → Heap → Prop) (i : Nat) (h : Heap) : Prop where
  zip : IsZip h (I + 4) (I + 2) (I + 3) .none
  its : IsTupOf2 h (I + 2) (.ref (nth I 0)) (.ref (nth I 1))
  last : ∃ x y, IsTupOf2 h (I + 3) x y
  one : S1 I i h
  two : S2 (I + 1) i h
section
variable {P : Program} {w : World} {K : PySem.W.Frag} {a b : Addr} {xs ys : List V} {ok1 ok2 : Hp → Prop} {S1 S2 : Addr → Nat → Heap → Prop} {I i : Nat} {h h' : Heap}
theorem ZAt.obj (Z1 : ZSrc P w K a xs ok1 S1) (Z2 : ZSrc P w K b ys ok2 S2) (z : ZAt I S1 S2 i h) (c : Addr) (hc : c ∈ zCells I) : ∃ o, h.get? c = some o ∧ ∀ v, o.data ≠ .cell v := by
  have ⟨_, _, l⟩ := z.last
  simp only [zCells, List.mem_cons, List.not_mem_nil, or_false] at hc
  rcases hc with rfl | rfl | rfl | rfl | rfl
  · exact ⟨_, z.zip, nofun⟩
  · exact ⟨_, z.its, nofun⟩
  · exact ⟨_, l, nofun⟩
  · exact Z1.obj z.one
  · exact Z2.obj z.two
theorem ZAt.keep (Z1 : ZSrc P w K a xs ok1 S1) (Z2 : ZSrc P w K b ys ok2 S2) (z : ZAt I S1 S2 i h) (k : ∀ c ∈ zCells I, ∀ o, h.get? c = some o → h'.get? c = some o) : ZAt I S1 S2 i h' := by
  have at_ : ∀ {n : Nat}, n < 5 → ∀ {o : Obj}, h.get? (nth I n) = some o → h'.get? (nth I n) = some o := fun hn _ e => k _ (nth_in hn) _ e
  have ⟨x, y, l⟩ := z.last
  exact ⟨at_ (n := 4) (by decide) z.zip, at_ (n := 2) (by decide) z.its, ⟨x, y, at_ (n := 3) (by decide) l⟩, Z1.keep z.one fun _ e => at_ (n := 0) (by decide) e, Z2.keep z.two fun _ e => at_ (n := 1) (by decide) e⟩
/-- the loop's turns -/
theorem turn_zipG {elts : List Expr} {kk : Nat} {tpos : Pos} (Z1 : ZSrc P w K a xs ok1 S1) (Z2 : ZSrc P w K b ys ok2 S2) (ha : @LT.lt Nat _ a I) (hb : @LT.lt Nat _ b I) :
    Turn P w K (.Tuple elts kk tpos) (ItzG xs ys ok1 ok2) (zCells I) (nth I 4) (ZAt I S1 S2) where
  mem := nth_in (by decide)
  obj := fun i h z => z.obj Z1 Z2
  keep := fun i h h' z k => z.keep Z1 Z2 k
  item := fun X hP hw hK hc i pins s σ H E V hf z ⟨g1, g2, l1, l2⟩ => by
    have ⟨C1, P1, c1, _, d1, r1⟩ := Z1.draws hP hw hK V g1
    have ⟨C2, P2, c2, _, d2, r2⟩ := Z2.draws hP hw hK V g2
    subst hP hw hK
    have quiet : X.A.in1.handled = none := V.ok.hd hc
    have ⟨_, _, hl⟩ := z.last
    have low : ∀ c ∈ zCells I, c < s.heap.objs.size := fun c m => let ⟨_, e, _⟩ := z.obj Z1 Z2 c m; Heap.lt_size e
    refine wpAny_pyNext_zipD2_item (zipSep ha hb) (d1 _ I quiet (neA (by omega))) (d2 _ (I + 1) quiet (neA (by omega))) z.zip z.its hl ⟨z.one, c1⟩ ⟨z.two, c2⟩ l1 l2 ?_
    intro u1 u2 g tk p1 p2 gz gl ⟨t1, _⟩ ⟨t2, _⟩ gp _ rest
    have ⟨x, hx, rx⟩ := r1 i u1 p1
    have ⟨y, hy, ry⟩ := r2 i u2 p2
    refine ⟨_, rfl, wpAny_letOwnedTupleGo_zip (s := { s with heap := g, toks := tk }) gz fun g' gz' ⟨_, but⟩ => ?_⟩
    -- all but the zip's own cells stands; the new pair is the heap's last cell
    have all : ∀ c o, c ∉ zCells I → s.heap.get? c = some o → g'.get? c = some o := fun c o nc e =>
      (but c (out5 nc (n := 4) (by decide))).trans (rest c o (out5 nc (n := 4) (by decide)) (out5 nc (n := 3) (by decide)) (out5 nc (n := 0) (by decide)) (out5 nc (n := 1) (by decide)) e)
    have top : @Ne Addr s.heap.objs.size (nth I 4) := Nat.ne_of_gt (low _ (nth_in (by decide)))
    have pair : g'.get? s.heap.objs.size = some { cls := .type "tuple", data := .seq #[u1, u2] } := (but _ top).trans gp
    have V' : Inv X pins σ (upd H s.heap.objs.size (.tup [x, y])) { s with heap := g', toks := tk } :=
      V.turnedNew (ch := zCells I) (fun c o nc e => all c o nc e) hf (Nat.le_refl _) ⟨(by decide +kernel : 2 ≤ sizeLine), _, .cons rx (.cons ry .nil), _, pair, rfl, _, rfl⟩
    refine ⟨.ref s.heap.objs.size, _, V', rfl, ⟨_, x, y, rfl, V.hok.fresh (Nat.le_refl _), rfl, hx, hy⟩, ?_, fun c m => (upd_ne (Nat.ne_of_lt (low c m))).trans (hf c m).1⟩
    have up : ∀ {n : Nat} {o : Obj}, n < 4 → g.get? (nth I n) = some o → g'.get? (nth I n) = some o := fun hn e => (but _ (nth_ne (Nat.ne_of_lt hn))).trans e
    exact ⟨gz', up (n := 2) (by decide) (rest (nth I 2) _ (nth_ne (m := 4) (by decide)) (nth_ne (m := 3) (by decide)) (nth_ne (m := 0) (by decide)) (nth_ne (m := 1) (by decide)) z.its), ⟨u1, u2, up (n := 3) (by decide) gl⟩, Z1.keep t1 fun _ e => up (n := 0) (by decide) e, Z2.keep t2 fun _ e => up (n := 1) (by decide) e⟩
  done := fun X hP hw hK hc i pins s σ H E V hf z ⟨g1, g2, he⟩ => by
    have ⟨C1, P1, c1, _, d1, _⟩ := Z1.draws hP hw hK V g1
    have ⟨C2, P2, c2, _, d2, _⟩ := Z2.draws hP hw hK V g2
    subst hP hw hK
    have quiet : X.A.in1.handled = none := V.ok.hd hc
    have ⟨_, _, hl⟩ := z.last
    refine wpAny_pyNext_zipD2_end (zipSep ha hb) (d1 _ I quiet (neA (by omega))) (d2 _ (I + 1) quiet (neA (by omega))) z.zip z.its hl ⟨z.one, c1⟩ ⟨z.two, c2⟩ (by omega) (by omega) (by omega) fun g tk rest => ⟨rfl, V.turnedL (ch := zCells I) (fun c o nc e => ?_) hf⟩
    exact rest c o (out5 nc (n := 4) (by decide)) (out5 nc (n := 3) (by decide)) (out5 nc (n := 0) (by decide)) (out5 nc (n := 1) (by decide)) e
  self := fun _ _ _ _ _ z q => wpAny_pyIter_zip z.zip q
end
def iZipG (P : Program) (w : World) (K : PySem.W.Frag) (ta : TA) : TI := fun σ H R => ta σ H fun vs H1 => ∃ a b xs ys ok1 ok2 S1 S2, vs = [.ref a, .ref b] ∧ ZSrc P w K a xs ok1 S1 ∧ ZSrc P w K b ys ok2 S2 ∧ ok1 H1 ∧ ok2 H1 ∧ R (ItzG xs ys ok1 ok2) H1
/-- for x, y in zip(e, e2) -/
theorem pi_zipG {X : Cx} {e e2 : Expr} {ta : TA} {p pos tpos : Pos} {elts : List Expr} {kk : Nat} (hg : Gl X "zip") (hm : X.mg "zip" = none) (ha : PA X [e, e2] ta)
    (hs : starEach [e, e2] X.env = (false, eval e X.env) :: starEach [e2] X.env := by rfl) (hpl : (backTo pos (starEach [e2] X.env)).any (·.1) = false := by rfl) :
    PI X (.Tuple elts kk tpos) (.Call (.Name "zip" p) [e, e2] [] pos) (iZipG X.prog X.w X.K ta) where
  run := fun pins s σ H R V h => by
    refine Call_ (ld_blt V hg hm PyProof.Rows.boot_zip (PyProof.Rows.callWith_type1 (thn (ha.run pos pins s σ H _ V h) fun us t got => ?_) hs hpl))
    obtain ⟨_, H1, V1, rel, a, b, xs, ys, ok1, ok2, S1, S2, rfl, Z1, Z2, k1, k2, q⟩ := got
    rcases rel with _ | ⟨r1, rel⟩
    rcases rel with _ | ⟨r2, rel⟩
    rcases rel with _ | _
    rename_i u1 u2
    cases (show u1 = Value.ref a from r1)
    cases (show u2 = Value.ref b from r2)
    have ⟨_, _, _, la, _⟩ := Z1.draws rfl rfl rfl V1 k1
    have ⟨_, _, _, lb, _⟩ := Z2.draws rfl rfl rfl V1 k2
    have ⟨o1, B1, b1, h1, n1⟩ := Z1.begins rfl rfl rfl V1 k1
    have ⟨o2, B2, b2, h2, n2⟩ := Z2.begins rfl rfl rfl V1 k2
    refine zip_begins2 b1 b2 h1 h2 fun g gz gi gl g1 g2 _ gk => wpAny_pyIter_zip gz ?_
    have above : ∀ c ∈ zCells t.heap.objs.size, FpOk X pins H1 c := fun c m => have le := (zCells_iff.mp m).1; V1.fpOk le (V1.hok.fresh le)
    exact ⟨_, _, _, _, H1, rfl, V1.kept (t' := t.toks) gk, turn_zipG Z1 Z2 la lb, ⟨gz, gi, ⟨_, _, gl⟩, n1 _ _ g1, n2 _ _ g2⟩, above, q⟩
end RD

end
section
namespace RD
open PySem L2
variable [HasK]
section
variable {c : Cc} {e a b tg iter : Expr} {es : List Expr} {da db : DE} {pos : Pos} {ta tb tc : TE} {tt tt' : TT} {st : Stmt} {rest : List Stmt} {t u : TS} {ds du : DS} {d : DT} {X : Cx} {tr : TA} {dr : DA}
/-! ### what is walked -/
abbrev DI := DEnv → Res (List D)
def RI : Hp → Hp → It → List D → Prop := fun F _ J ds => ∃ (G : Hp → Prop) (Y : Nat → Hp → V → Hp → Prop), Walk J ds.length G Y ∧ (∀ F2 H2, Ex F F2 → Ex F2 H2 → G H2) ∧
  ∀ (i : Nat) F2 H2 x H3, i < ds.length → Ex F F2 → Ex F2 H2 → Y i H2 x H3 → ∃ d F3, ds[i]? = some d ∧ Step F2 H2 F3 H3 ∧ Rp F3 x d
structure JI (c : Cc) (tg iter : Expr) (w : TI) (d : DI) : Prop where
  p : PI c.X tg iter w
  s : Sim RI c w d
theorem ri_list {K : PySem.W.Frag} {F H : Hp} {a : Addr} {xs : List V} {ds : List D} (h : F a = some (.lst xs)) (r : RpAll F xs ds) : RI F H (Itl K a) ds := by
  refine ⟨_, _, by rw [← r.len]; exact walk_list, fun F2 H2 e1 e2 => sqL (e2 _ _ (e1 _ _ h)), fun i F2 H2 x H3 hi e1 e2 hy => ?_⟩
  obtain ⟨rfl, hx⟩ := hy
  obtain ⟨d, hd, hr⟩ := r.getV hx
  exact ⟨d, F2, hd, .refl e2, hr.mono e1⟩
theorem ri_tup {K : PySem.W.Frag} {F H : Hp} {a : Addr} {xs : List V} {ds : List D} (h : Gt F a xs) (r : RpAll F xs ds) : RI F H (Itt K a) ds := by
  refine ⟨_, _, by rw [← r.len]; exact walk_tup, fun F2 H2 e1 e2 => sqT ((h.mono e1).mono e2), fun i F2 H2 x H3 hi e1 e2 hy => ?_⟩
  obtain ⟨rfl, hx⟩ := hy
  obtain ⟨d, hd, hr⟩ := r.getV hx
  exact ⟨d, F2, hd, .refl e2, hr.mono e1⟩
theorem ri_scr {K : PySem.W.Frag} {F H : Hp} {a : Addr} {ns : List Int} (h : SqL K F a (ns.map V.int)) : RI F H (Itl K a) (ns.map .int) := by
  refine ⟨_, _, by rw [← (RpAll.ints (H := F) ns).len]; exact walk_list, fun F2 H2 e1 e2 => (h.imp (fun z => rd_ex e2 (rd_ex e1 z)) id : SqL K H2 a (ns.map V.int)), fun i F2 H2 x H3 hi e1 e2 hy => ?_⟩
  obtain ⟨rfl, hx⟩ := hy
  obtain ⟨d, hd, hr⟩ := (RpAll.ints (H := F2) ns).getV hx
  exact ⟨d, F2, hd, .refl e2, hr⟩
def wOr (v w : TI) : TI := fun σ H R => v σ H R ∨ w σ H R
theorem pi_or {v w : TI} (h1 : PI X tg iter v) (h2 : PI X tg iter w) : PI X tg iter (wOr v w) := ⟨fun pins s σ H R I h => by
  rcases h with h | h
  · exact h1.run pins s σ H R I h
  · exact h2.run pins s σ H R I h⟩
theorem RpK.at {F : Hp} : ∀ {kvs : List (Key × V)} {es : List (D × D)}, RpK F kvs es → ∀ (i : Nat) (k : Key) (v : V), kvs[i]? = some (k, v) → ∃ d, es[i]? = some (keyD k, d) ∧ Rp F v d
  | _, _, .nil, i, k, v, h => by simp at h
  | _, _, .cons h r, 0, k, v, q => by
    simp at q
    obtain ⟨rfl, rfl⟩ := q
    exact ⟨_, rfl, h⟩
  | _, _, .cons h r, i + 1, k, v, q => by
    obtain ⟨d, h1, h2⟩ := RpK.at r i k v (by simpa using q)
    exact ⟨d, by simpa using h1, h2⟩
theorem RpT.at {F : Hp} : ∀ {xs : XT} {es : List (D × D)}, RpT F xs es → ∀ (i : Nat) (k : NestedKey) (b : Addr) (v : V), xs[i]? = some (k, b, v) → ∃ kd d, es[i]? = some (kd, d) ∧ Rp F (.ref b) kd ∧ Rp F v d
  | _, _, .nil, i, k, b, v, h => by simp at h
  | _, _, .cons g q dp h r, 0, k, b, v, e => by
    simp at e
    obtain ⟨rfl, rfl, rfl⟩ := e
    exact ⟨_, _, rfl, g, h⟩
  | _, _, .cons g q dp h r, i + 1, k, b, v, e => by
    obtain ⟨kd, d, h1, h2, h3⟩ := RpT.at r i k b v (by simpa using e)
    exact ⟨kd, d, by simpa using h1, h2, h3⟩
theorem rp_key (F : Hp) (k : Key) : Rp F (kV k) (keyD k) := by
  cases k with
  | inl i => exact .int i
  | inr i => exact .str i
theorem ri_keys {F H : Hp} {a : Addr} {o : Obj} {kvs : List (Key × V)} {es : List (D × D)} (h : F a = some (.frz o (.dK kvs))) (r : RpK F kvs es) : RI F H (Itk a o kvs) (es.map (·.1)) := by
  refine ⟨_, _, by rw [List.length_map, ← r.len]; exact walk_keys, fun F2 H2 e1 e2 => e2 _ _ (e1 _ _ h), fun i F2 H2 x H3 hi e1 e2 hy => ?_⟩
  obtain ⟨rfl, k, v, hk, rfl⟩ := hy
  obtain ⟨d, hd, hr⟩ := r.at i k v hk
  exact ⟨keyD k, F2, by rw [List.getElem?_map, hd]; rfl, .refl e2, rp_key F2 k⟩
theorem ri_keysT {F H : Hp} {a : Addr} {o : Obj} {xs : XT} {es : List (D × D)} (h : F a = some (.frz o (dtO HasK.P HasK.w a xs))) (r : RpT F xs es) : RI F H (Itn HasK.P HasK.w a o xs) (es.map (·.1)) := by
  refine ⟨_, _, by rw [List.length_map, ← r.len]; exact walk_keysN, fun F2 H2 e1 e2 => e2 _ _ (e1 _ _ h), fun i F2 H2 x H3 hi e1 e2 hy => ?_⟩
  obtain ⟨rfl, k, q, v, hk, rfl⟩ := hy
  obtain ⟨kd, d, hd, hr, _⟩ := r.at i k q v hk
  exact ⟨kd, F2, by rw [List.getElem?_map, hd]; rfl, .refl e2, hr.mono e1⟩
/-- a list, a tuple, the script, a dict's keys -/
def itemsD : D → Option (List D)
  | .list xs => some xs
  | .tuple xs => some xs
  | .dict [(.none, .list xs)] => some xs
  | .dict ((.none, .none) :: es) => some (es.map (·.1))
  | .dict es => if isK es = true then some (es.map (·.1)) else none
  | _ => none
def dItems (da : DE) : DI := fun δ => (da δ).bind fun x => Res.ofO (itemsD x)
theorem ji_seq (h : JE c e ta da) : JI c tg e (wSeqA HasK.P HasK.w HasK.K ta) (dItems da) := by
  rw [← c.hK, ← c.hP, ← c.hw]
  refine ⟨pi_seqA h.p, fun F H σ δ Q S P => h.s.go S P fun F1 H1 x z s1 S1 hx P1 => Sim.last P1 fun ds hz k => ?_⟩
  rw [c.hK, c.hP, c.hw]
  unfold itemsD at hz
  split at hz
  · cases hz
    cases hx with
    | lst ha ra => exact .inl ⟨_, rfl, ⟨_, sqL (S1.fh _ _ ha)⟩, k _ F1 H1 (.refl S1.fh) (ri_list ha ra)⟩
  · cases hz
    cases hx with
    | tup ha ra => exact .inr (.inl ⟨_, rfl, ⟨_, sqT (ha.mono S1.fh)⟩, k _ F1 H1 (.refl S1.fh) (ri_tup ha ra)⟩)
  · cases hz
    rcases hx.invD _ rfl with ⟨a, ns, h1, h2, q⟩ | ⟨a, xs, ds', _, _, _, q⟩ | ⟨a, o, kvs, _, h2, h3⟩ | ⟨a, o, xs, es', h1, h2, h3, q⟩
    · cases q
      subst h1
      exact .inl ⟨_, rfl, ⟨_, h2.imp (rd_ex S1.fh) id⟩, k _ F1 H1 (.refl S1.fh) (ri_scr h2)⟩
    · cases q
    · have := h3.isK
      cases this
    · cases q
  · cases hz
    rcases hx.invD _ rfl with ⟨a, ns, h1, h2, q⟩ | ⟨a, xs, ds', _, _, _, q⟩ | ⟨a, o, kvs, _, h2, h3⟩ | ⟨a, o, xs, es', h1, h2, h3, q⟩
    · cases q
    · cases q
    · have := h3.isK
      cases this
    · cases q
      subst h1
      exact .inr (.inr (.inr ⟨a, o, xs, rfl, S1.fh _ _ h2, k _ F1 H1 (.refl S1.fh) (ri_keysT h2 h3)⟩))
  · obtain ⟨hk, rfl⟩ := if_some hz
    rcases hx.invD _ rfl with ⟨a, ns, h1, h2, q⟩ | ⟨a, xs, ds', _, _, _, q⟩ | ⟨a, o, kvs, h1, h2, h3⟩ | ⟨a, o, xs, es', h1, h2, h3, q⟩
    · subst q; cases hk
    · subst q; cases hk
    · subst h1
      exact .inr (.inr (.inl ⟨a, o, kvs, rfl, S1.fh _ _ h2, k _ F1 H1 (.refl S1.fh) (ri_keys h2 h3)⟩))
    · subst q; cases hk
  · cases hz
/-- range -/
def rng (lo : Int) (n : Nat) : List D := (List.range n).map fun (i : Nat) => .int (lo + (i : Int))
def dRng1 (dr : DA) : DI := fun δ => (dr δ).bind fun xs => match xs with
  | [.int j] => if -(2 ^ 62) ≤ j ∧ j < 2 ^ 62 then .ok (rng 0 j.toNat) else .stuck
  | _ => .stuck
def dRng2 (dr : DA) : DI := fun δ => (dr δ).bind fun xs => match xs with
  | [.int i, .int j] => if -(2 ^ 62) ≤ i ∧ i < 2 ^ 62 ∧ -(2 ^ 62) ≤ j ∧ j < 2 ^ 62 then .ok (rng i (j - i).toNat) else .stuck
  | _ => .stuck
theorem ri_rng {F H : Hp} {lo : Int} {n : Nat} : RI F H (Itr lo n) (rng lo n) := by
  have hl : (rng lo n).length = n := by unfold rng; rw [List.length_map, List.length_range]
  refine ⟨_, _, by rw [hl]; exact walk_range, fun _ _ _ _ => trivial, fun i F2 H2 x H3 hi e1 e2 hy => ?_⟩
  obtain ⟨rfl, rfl⟩ := hy
  rw [hl] at hi
  refine ⟨_, F2, ?_, .refl e2, .int _⟩
  unfold rng
  rw [List.getElem?_map, List.getElem?_range hi]
  rfl
theorem ji_rng1 {p : Pos} (hg : Gl c.X "range") (hm : c.X.mg "range" = none) (ha : JA c [a] tr dr) (hs : starEach [a] c.X.env = [(false, eval a c.X.env)] := by rfl) : JI c tg (.Call (.Name "range" p) [a] [] pos) (iRng1 tr) (dRng1 dr) :=
  ⟨pi_range1 hg hm ha.p hs, fun F H σ δ Q S P => ha.s.go S P fun F1 H1 xs zs s1 S1 hx P1 => by
    split at P1
    · split at P1
      · cases hx with
        | cons h1 hn =>
          cases hn
          cases h1
          rename_i j hj
          exact ⟨j, rfl, hj.1, hj.2, P1 _ F1 H1 (.refl S1.fh) ri_rng⟩
      · exact P1.elim
    · exact P1.elim⟩
theorem ji_rng2 {p : Pos} (hg : Gl c.X "range") (hm : c.X.mg "range" = none) (ha : JA c [a, b] tr dr) (hp : PA c.X [a, b] tr → PI c.X tg (.Call (.Name "range" p) [a, b] [] pos) (iRng2 tr)) : JI c tg (.Call (.Name "range" p) [a, b] [] pos) (iRng2 tr) (dRng2 dr) :=
  ⟨hp ha.p, fun F H σ δ Q S P => ha.s.go S P fun F1 H1 xs zs s1 S1 hx P1 => by
    split at P1
    · split at P1
      · cases hx with
        | cons h1 hn =>
          cases hn with
          | cons h2 hn =>
            cases hn
            cases h1
            cases h2
            rename_i i j hj
            exact ⟨i, j, rfl, hj, P1 _ F1 H1 (.refl S1.fh) ri_rng⟩
      · exact P1.elim
    · exact P1.elim⟩
/-- zip of two lists, of two tuples -/
def zipD (xs ys : List D) : List D := (xs.zip ys).map fun p => softD [p.1, p.2]
/-- what may be zipped: lists, tuples, dicts with plain keys -/
def zsD : D → Option (List D)
  | .list xs => some xs
  | .tuple xs => some xs
  | .dict es => if isK es = true then some (es.map (·.1)) else none
  | _ => none
def dZip (dr : DA) : DI := fun δ => (dr δ).bind fun xs => match xs with
  | [x, y] => Res.ofO ((zsD x).bind fun u => (zsD y).map fun v => zipD u v)
  | _ => .stuck
theorem keysK_rp {F : Hp} : ∀ {kvs : List (Key × V)} {es : List (D × D)}, RpK F kvs es → RpAll F (kvs.map fun p => kV p.1) (es.map (·.1))
  | _, _, .nil => .nil
  | _, _, .cons (k := k) h r => .cons (by cases k <;> constructor) (keysK_rp r)
theorem zs_of {F : Hp} {v : V} {d : D} {ds : List D} (h : Rp F v d) (q : zsD d = some ds) : ∃ (a : Addr) (xs : List V) (ok : Hp → Prop) (S : Addr → Nat → Heap → Prop), v = .ref a ∧ ZSrc HasK.P HasK.w HasK.K a xs ok S ∧ (∀ F2 H2, Ex F F2 → Ex F2 H2 → ok H2) ∧ RpAll F xs ds := by
  unfold zsD at q
  split at q
  · cases q
    cases h with
    | lst h r => exact ⟨_, _, _, _, rfl, zsrc_list, fun F2 H2 e1 e2 => sqL (e2 _ _ (e1 _ _ h)), r⟩
  · cases q
    cases h with
    | tup h r => exact ⟨_, _, _, _, rfl, zsrc_tup, fun F2 H2 e1 e2 => sqT ((h.mono e1).mono e2), r⟩
  · obtain ⟨hk, rfl⟩ := if_some q
    rcases h.invD _ rfl with ⟨a, ns, h1, h2, q⟩ | ⟨a, xs, ds', _, _, _, q⟩ | ⟨a, o, kvs, h1, h2, h3⟩ | ⟨a, o, xs, es', h1, h2, h3, q⟩
    · subst q; cases hk
    · subst q; cases hk
    · exact ⟨a, _, _, _, h1, zsrc_keys, fun F2 H2 e1 e2 => e2 _ _ (e1 _ _ h2), keysK_rp h3⟩
    · subst q; cases hk
  · cases q
theorem zipD_len (xs ys : List D) : (zipD xs ys).length = min xs.length ys.length := by unfold zipD; rw [List.length_map, List.length_zip]
theorem zipD_get {xs ys : List D} {i : Nat} {x y : D} (h1 : xs[i]? = some x) (h2 : ys[i]? = some y) : (zipD xs ys)[i]? = some (softD [x, y]) := by
  unfold zipD
  rw [List.getElem?_map, List.getElem?_zip_eq_some (z := (x, y)).mpr ⟨h1, h2⟩]
  rfl
theorem pair_step {F H : Hp} {T : Addr} {x y : V} {d e : D} (ex : Ex F H) (hT : H T = none) (h1 : Rp F x d) (h2 : Rp F y e) : Step F H (upd F T (.tup [x, y])) (upd H T (.tup [x, y])) ∧ Rp (upd F T (.tup [x, y])) (.ref T) (softD [d, e]) :=
  ⟨Step.put ex _ hT, .soft upd_same (.cons (h1.mono (.put (ex.back hT))) (.cons (h2.mono (.put (ex.back hT))) .nil))⟩
theorem ri_zip {F H : Hp} {xs ys : List V} {ds es : List D} {ok1 ok2 : Hp → Prop} (h : ∀ F2 H2, Ex F F2 → Ex F2 H2 → ok1 H2) (r : RpAll F xs ds) (h' : ∀ F2 H2, Ex F F2 → Ex F2 H2 → ok2 H2) (r' : RpAll F ys es) : RI F H (ItzG xs ys ok1 ok2) (zipD ds es) := by
  refine ⟨fun H => ok1 H ∧ ok2 H, YPair (fun i => xs[i]?) (fun i => ys[i]?), by rw [zipD_len, ← r.len, ← r'.len]; exact walk_zipG, fun F2 H2 e1 e2 => ⟨h F2 H2 e1 e2, h' F2 H2 e1 e2⟩, fun i F2 H2 x H3 hi e1 e2 hy => ?_⟩
  obtain ⟨T, x, y, rfl, hT, rfl, h1, h2⟩ := hy
  obtain ⟨d, hd, hr⟩ := r.getV h1
  obtain ⟨e, he, hr'⟩ := r'.getV h2
  obtain ⟨s1, s2⟩ := pair_step e2 hT (hr.mono e1) (hr'.mono e1)
  exact ⟨_, _, zipD_get hd he, s1, s2⟩
theorem ji_zip {p tpos : Pos} {elts : List Expr} {kk : Nat} (hg : Gl c.X "zip") (hm : c.X.mg "zip" = none) (ha : JA c [a, b] tr dr) (hs : starEach [a, b] c.X.env = (false, eval a c.X.env) :: starEach [b] c.X.env := by rfl) (hpl : (backTo pos (starEach [b] c.X.env)).any (·.1) = false := by rfl) :
    JI c (.Tuple elts kk tpos) (.Call (.Name "zip" p) [a, b] [] pos) (iZipG HasK.P HasK.w HasK.K tr) (dZip dr) := by
  rw [← c.hK, ← c.hP, ← c.hw]
  refine ⟨pi_zipG hg hm ha.p hs hpl, fun F H σ δ Q S P => ha.s.go S P fun F1 H1 xs zs s1 S1 hx P1 => ?_⟩
  rw [c.hK, c.hP, c.hw]
  split at P1
  · refine Sim.last P1 fun ds hz k => ?_
    obtain ⟨u, h1, h2⟩ := Option.bind_eq_some_iff.mp hz
    obtain ⟨v, h3, rfl⟩ := Option.map_eq_some_iff.mp h2
    cases hx with
    | cons x1 hn =>
      cases hn with
      | cons x2 hn =>
        cases hn
        obtain ⟨a1, xs1, ok1, S1', rfl, Z1, k1, r1⟩ := zs_of x1 h1
        obtain ⟨a2, xs2, ok2, S2', rfl, Z2, k2, r2⟩ := zs_of x2 h3
        exact ⟨a1, a2, xs1, xs2, ok1, ok2, _, _, rfl, Z1, Z2, k1 F1 H1 (.refl _) S1.fh, k2 F1 H1 (.refl _) S1.fh, k _ F1 H1 (.refl S1.fh) (ri_zip k1 r1 k2 r2)⟩
  · exact P1.elim
/-! ### for -/
def forL (g : DG) (ds : DS) : List D → DS
  | [] => .next
  | x :: xs => fun δ => Opt.out (g x δ) fun δ1 => match ds δ1 with
    | .next δ2 => forL g ds xs δ2
    | .cont δ2 => forL g ds xs δ2
    | .brk δ2 => .next δ2
    | o => o
def dFor (di : DI) (g : DG) (ds : DS) : DS := fun δ => (di δ).out δ fun xs => forL g ds xs δ
theorem sim_for {w : TI} {di : DI} {g : TG} {dg : DG} (hi : Sim RI c w di) (hg : SimG c g dg) (hb : SimS c t ds) : SimS c (tFor w g t) (dFor di dg ds) := fun F H σ δ D S P =>
  hi.gos S P fun F1 H1 J items s1 S1 hJ P1 => by
    obtain ⟨G, Y, hw, hG, hY⟩ := hJ
    refine for_it hw (fun i σ' H' => ∃ δ' F', Ex F1 F' ∧ Sr c.F0 c.H0 F' H' σ' δ' ∧ PostS c F' D (forL dg ds (items.drop i) δ')) ⟨δ, F1, .refl _, S1, P1⟩ (fun i σ' H' _ p => ?_) (fun i x σ' H' H2 hi p hy => ?_) (fun σ' H' p => ?_)
    · obtain ⟨δ', F', e1, S', _⟩ := p
      exact hG F' H' e1 S'.fh
    · obtain ⟨δ', F', e1, S', P'⟩ := p
      obtain ⟨z, F3, hz, s3, hx⟩ := hY i F' H' x H2 hi e1 S'.fh hy
      have hdrop : items.drop i = z :: items.drop (i + 1) := by
        rw [List.drop_eq_getElem_cons hi]
        congr 1
        rw [List.getElem?_eq_getElem hi] at hz
        exact Option.some.inj hz
      rw [hdrop] at P'
      refine outO P' fun δ1 hd P2 => ?_
      refine hg F3 H2 σ' δ' x z δ1 _ (S'.step s3) hx hd fun σ2 S2 => ?_
      refine hb F3 H2 σ2 δ1 _ S2 ?_
      have e3 : Ex F1 F3 := e1.trans s3.ff
      cases q : ds δ1 with
      | next δ2 =>
        rw [q] at P2
        exact fun σ3 F4 H4 e4 S4 => ⟨δ2, F4, e3.trans e4, S4, PostS.up (s3.ff.trans e4) P2⟩
      | cont δ2 =>
        rw [q] at P2
        exact fun σ3 F4 H4 e4 S4 => ⟨δ2, F4, e3.trans e4, S4, PostS.up (s3.ff.trans e4) P2⟩
      | brk δ2 =>
        rw [q] at P2
        exact fun σ3 F4 H4 e4 S4 => P2 σ3 F4 H4 (s3.ff.trans e4) S4
      | ret r =>
        rw [q] at P2
        exact fun v F4 H4 e4 => P2 v F4 H4 (s3.ff.trans e4)
      | exc n p δ2 =>
        rw [q] at P2
        exact fun σ3 F4 H4 e4 => P2 σ3 F4 H4 (s3.ff.trans e4)
      | stuck => rw [q] at P2; exact P2
    · obtain ⟨δ', F', e1, S', P'⟩ := p
      rw [List.drop_of_length_le (Nat.le_refl _)] at P'
      exact P' σ' F' H' (.refl _) S'
theorem js_for {w : TI} {di : DI} {g : TG} {dg : DG} {body : List Stmt} (hp : PassesOwn (model c.X.prog c.X.w) c.X.A c.X.env c.X.xe) (hc : c.X.calm = true) (hi : JI c tg iter w di) (hg : JG c tg g dg) (hb : JSs c body t ds)
    (hs : ∀ x, foldedSetIterable iter c.X.env x = pure x := by intro _; rfl) : JS c (.For tg iter body [] pos) (tFor w g t) (dFor di dg ds) := ⟨ps_for hp hc hi.p hg.p hb.p hs, sim_for hi.s hg.s hb.s⟩
/-! ### while -/
def whileN (d : DT) (ds : DS) : Nat → DS
  | 0 => fun _ => .stuck
  | n + 1 => fun δ => (d δ).out δ fun k => if k then (match ds δ with
    | .next δ2 => whileN d ds n δ2
    | .cont δ2 => whileN d ds n δ2
    | .brk δ2 => .next δ2
    | o => o) else .next δ
theorem sim_while {n : Nat} (hc : Sim RT c tt d) (hb : SimS c t ds) : SimS c (tWhile tt t) (whileN d ds n) := fun F H σ δ D S P => by
  refine ⟨fun m σ' H' => ∃ δ' F', Ex F F' ∧ Sr c.F0 c.H0 F' H' σ' δ' ∧ PostS c F' D (whileN d ds m δ'), ⟨n, δ, F, .refl _, S, P⟩, fun m σ' H' p => ?_⟩
  obtain ⟨δ', F', e1, S', P'⟩ := p
  cases m with
  | zero => exact P'.elim
  | succ m =>
    refine hc.gos S' P' fun F1 H1 x k s1 S1 hx P1 => ?_
    subst hx
    cases x with
    | false => exact iteF (P1 σ' F1 H1 (.refl _) S1)
    | true =>
      refine iteT ⟨fun σ2 H2 => ∃ δ2 F2, Ex F F2 ∧ Sr c.F0 c.H0 F2 H2 σ2 δ2 ∧ PostS c F2 D (whileN d ds m δ2), fun σ2 H2 q => ⟨m, Nat.lt_succ_self m, q⟩, ?_⟩
      refine hb F1 H1 σ' δ' _ S1 ?_
      have e3 : Ex F F1 := e1.trans s1.ff
      have P2 : PostS c F1 D (match ds δ' with
        | .next δ2 => whileN d ds m δ2
        | .cont δ2 => whileN d ds m δ2
        | .brk δ2 => .next δ2
        | o => o) := P1
      cases q : ds δ' with
      | next δ2 => rw [q] at P2; exact fun σ3 F4 H4 e4 S4 => ⟨δ2, F4, e3.trans e4, S4, PostS.up e4 P2⟩
      | cont δ2 => rw [q] at P2; exact fun σ3 F4 H4 e4 S4 => ⟨δ2, F4, e3.trans e4, S4, PostS.up e4 P2⟩
      | brk δ2 => rw [q] at P2; exact P2
      | ret r => rw [q] at P2; exact P2
      | exc n p δ2 => rw [q] at P2; exact P2
      | stuck => rw [q] at P2; exact P2
theorem js_while (n : Nat) {x : Expr} {body : List Stmt} (hp : PassesOwn (model c.X.prog c.X.w) c.X.A c.X.env c.X.xe) (hc : JT c x tt d) (hb : JSs c body t ds) : JS c (.While x body [] pos) (tWhile tt t) (whileN d ds n) := ⟨ps_while hp hc.p hb.p, sim_while hc.s hb.s⟩
theorem js_break : JS c (.Break pos) tBreak .brk := ⟨ps_break, fun F H σ δ D S P => P σ F H (.refl _) S⟩
theorem js_continue : JS c (.Continue pos) tCont .cont := ⟨ps_continue, fun F H σ δ D S P => P σ F H (.refl _) S⟩
end
end RD

end
section
namespace RD
open PySem L2
variable [HasK]
/-- the place within a comprehension's block -/
abbrev Cc.blk (c : Cc) (s : Shared) (H : Hp) (scope : Scope) (C : Addr) (cl : List (Str × Addr)) (fp : List Addr) : Cc :=
  ⟨c.X.blk s H scope (compEnvC scope cl C c.X.env) fp, c.F0, c.H0, fun _ _ _ _ => False, c.hK, c.hM, c.hP, c.hw⟩
section
variable {c : Cc} {e a b tg iter elt : Expr} {ifs es : List Expr} {da db : DE} {pos : Pos} {ta tb tc te : TE} {tt tt' : TT} {st : Stmt} {rest : List Stmt} {t u : TS} {ds du : DS} {d : DT} {X : Cx} {tr : TA} {dr : DA}
structure JTs (c : Cc) (ifs : List Expr) (t : TT) (d : DT) : Prop where
  p : PTs c.X ifs t
  s : Sim RT c t d
def dYes : DT := fun _ => .ok true
theorem jts_nil : JTs c [] tYes dYes := ⟨pts_nil, fun F H σ δ Q S P => P true F H (.refl S.fh) rfl⟩
theorem jts_one {x : Expr} (h : JT c x tt d) : JTs c [x] tt d := ⟨pts_one h.p, h.s⟩
def wipeD (δ : DEnv) : List Nat → DEnv
  | [] => δ
  | v :: vs => (wipeD δ vs).set v .no
theorem Sr.wipe {F0 H0 F H : Hp} {σ : St} {δ : DEnv} (S : Sr F0 H0 F H σ δ) : ∀ vs : List Nat, Sr F0 H0 F H (L2.wipe σ vs) (wipeD δ vs)
  | [] => S
  | v :: vs => by
    unfold L2.wipe wipeD
    exact (S.wipe vs).drop v none
/-- the items that come out -/
def compL (g : DG) (d : DT) (da : DE) (δ : DEnv) : List D → Res (List D)
  | [] => .ok []
  | x :: xs => match g x δ with
    | none => .stuck
    | some δ1 => match d δ1 with
      | .ok true => (match da δ1 with
        | .ok y => (compL g d da δ xs).bind fun ys => .ok (y :: ys)
        | _ => .stuck)
      | .ok false => compL g d da δ xs
      | _ => .stuck
/-- the target's names lie among the block's -/
def Stays (g : TG) (vs : List Nat) : Prop := ∀ x σ H (Q Q' : St → Hp → Prop), g x σ H Q → (∀ σ' H', Q σ' H' → L2.wipe σ' vs = L2.wipe σ vs → Q' σ' H') → g x σ H Q'
def dLc (di : DI) (g : DG) (d : DT) (da : DE) (vs : List Nat) : DE := fun δ => (di δ).bind fun xs => if Sz xs.length then (compL g d da (wipeD δ vs) xs).bind fun ys => .ok (.list ys) else .stuck
theorem compL_len {g : DG} {d : DT} {da : DE} {δ : DEnv} : ∀ {xs ys : List D}, compL g d da δ xs = .ok ys → ys.length ≤ xs.length
  | [], ys, h => by cases h; exact Nat.le_refl _
  | x :: xs, ys, h => by
    unfold compL at h
    split at h
    · cases h
    · split at h
      · split at h
        · cases q : compL g d da δ xs with
          | ok zs =>
            rw [q] at h
            cases h
            have := compL_len q
            simp only [List.length_cons]
            omega
          | exc n p => rw [q] at h; cases h
          | stuck => rw [q] at h; cases h
        · cases h
      · have := compL_len h
        simp only [List.length_cons]
        omega
      · cases h
theorem wipe_at (σ : L2.St) : ∀ (vs : List Nat) (i : Nat), (L2.wipe σ vs)[i]? = if i ∈ vs then σ[i]?.map (fun _ => none) else σ[i]?
  | [], i => by simp [L2.wipe]
  | v :: vs, i => by
    unfold L2.wipe
    by_cases h : i = v
    · subst h
      rw [List.getElem?_set_self', wipe_at σ vs i]
      by_cases h2 : i ∈ vs
      · rw [if_pos h2, if_pos (List.mem_cons_self ..)]
        cases σ[i]? <;> rfl
      · rw [if_neg h2, if_pos (List.mem_cons_self ..)]
        cases σ[i]? <;> rfl
    · rw [List.getElem?_set_ne (fun z => h z.symm), wipe_at σ vs i]
      by_cases h2 : i ∈ vs
      · rw [if_pos h2, if_pos (List.mem_cons_of_mem _ h2)]
      · rw [if_neg h2, if_neg (fun z => (List.mem_cons.mp z).elim h h2)]
theorem wipe_same {σ σ' : L2.St} {vs : List Nat} (h : ∀ i : Nat, σ'[i]?.isSome = σ[i]?.isSome ∧ (i ∉ vs → σ'[i]? = σ[i]?)) : L2.wipe σ' vs = L2.wipe σ vs := by
  apply List.ext_getElem?
  intro i
  rw [wipe_at, wipe_at]
  by_cases h2 : i ∈ vs
  · rw [if_pos h2, if_pos h2]
    have := (h i).1
    cases q1 : σ'[i]? <;> cases q2 : σ[i]? <;> rw [q1, q2] at this <;> first | rfl | cases this
  · rw [if_neg h2, if_neg h2]
    exact (h i).2 h2
theorem wipe_wipe (σ : L2.St) (vs : List Nat) : L2.wipe (L2.wipe σ vs) vs = L2.wipe σ vs := by
  refine wipe_same fun i => ⟨?_, fun h => ?_⟩
  · rw [wipe_at]
    split
    · cases σ[i]? <;> rfl
    · rfl
  · rw [wipe_at, if_neg h]
theorem wipe_set {σ : L2.St} {vs : List Nat} {j : Nat} {o : Option V} (h : j ∈ vs) : L2.wipe (σ.set j o) vs = L2.wipe σ vs := by
  refine wipe_same fun i => ⟨?_, fun h2 => ?_⟩
  · by_cases e : i = j
    · subst e
      rw [List.getElem?_set_self']
      cases σ[i]? <;> rfl
    · rw [List.getElem?_set_ne (fun z => e z.symm)]
  · rw [List.getElem?_set_ne (fun z => h2 (by rw [← z]; exact h))]
def StaysS (g : TGs) (vs : List Nat) : Prop := ∀ x σ H (Q Q' : St → Hp → Prop), g x σ H Q → (∀ σ' H', Q σ' H' → L2.wipe σ' vs = L2.wipe σ vs → Q' σ' H') → g x σ H Q'
theorem stays_name {i : Nat} {vs : List Nat} (h : i ∈ vs) : Stays (gName i) vs := fun x σ H Q Q' q k => k _ _ q (wipe_set h)
theorem stays_nil {vs : List Nat} : StaysS gNil vs := fun x σ H Q Q' q k => ⟨q.1, k _ _ q.2 rfl⟩
theorem stays_cons {g : TG} {gs : TGs} {vs : List Nat} (h1 : Stays g vs) (h2 : StaysS gs vs) : StaysS (gCons g gs) vs := fun x σ H Q Q' q k => by
  obtain ⟨v, r, e, q⟩ := q
  exact ⟨v, r, e, h1 v σ H _ _ q fun σ' H' q1 w1 => h2 r σ' H' _ _ q1 fun σ2 H2 q2 w2 => k σ2 H2 q2 (w2.trans w1)⟩
theorem stays_tup {K : PySem.W.Frag} {n : Nat} {gs : TGs} {vs : List Nat} (h : StaysS gs vs) : Stays (gTup K n gs) vs := fun x σ H Q Q' q k => by
  obtain ⟨a, xs, e1, e2, e3, q⟩ := q
  exact ⟨a, xs, e1, e2, e3, h xs σ H _ _ q k⟩
/-- an object that no slot holds changes -/
theorem Sr.poke {F0 H0 F H : Hp} {σ : St} {δ : DEnv} {p : Addr} {o : HO} (S : Sr F0 H0 F H σ δ) (hF : F p = none) (h0 : H0 p = none) (hn : ∀ (j : Nat) e, δ[j]? = some (.own e) → σ[j]? ≠ some (some (.ref p))) (hd : ∀ (j : Nat) e b, δ[j]? = some (.dsk e) → σ[j]? = some (some (.ref b)) → ¬ Fd H b p) : Sr F0 H0 F (upd H p o) σ δ where
  st := ⟨S.st.ff, S.st.fh.over hF, S.st.hh.over h0, S.st.new⟩
  len := S.len
  val := S.val
  own := fun i d h => by
    obtain ⟨a, h1, h2, h3, h4⟩ := S.own i d h
    exact ⟨a, h1, h2, h3, h4.other fun z => by subst z; exact hn i d h h1⟩
  apart := S.apart
  dk := S.dk.poke (.refl _) fun j e b h1 h2 => ⟨hd j e b h1 h2, fun _ _ z => z⟩
theorem Sr.noD {F0 H0 F H : Hp} {σ : St} {δ : DEnv} {p : Addr} (S : Sr F0 H0 F H σ δ) (hp : H p = none) : ∀ H', Ex H H' → ∀ (j : Nat) e b, δ[j]? = some (.dsk e) → σ[j]? = some (some (.ref b)) → ¬ Fd H' b p := fun H' ex j e b hj hs hf => by
  obtain ⟨b', k1, k2, _⟩ := S.dk.dsk j e hj
  rw [hs] at k1
  cases k1
  obtain ⟨o, ho⟩ := k2.at
  exact k2.there (hf.of (by rw [ho]; exact ex _ _ ho)) hp
theorem Step.keepNone {F H F' H' : Hp} {p : Addr} (s : Step F H F' H') (hF : F p = none) (hH : H p ≠ none) : F' p = none := by
  cases q : F' p with
  | none => rfl
  | some o => exact absurd (s.new p hF (by rw [q]; exact fun z => nomatch z)) hH
/-- the block's run: from a list so far to the whole -/
theorem lc_run {c' : Cc} {w : TI} {di : DI} {g : TG} {dg : DG} {vs : List Nat} (hi : Sim RI c w di) (hF : c'.F0 = c.F0) (hH : c'.H0 = c.H0) (hg : SimG c' g dg) (hst : Stays g vs) (ht : Sim RT c' tt d) (he : Sim RF c' te da)
    {F H : Hp} {σ : St} {δ : DEnv} {Q : VK}
    (S : Sr c.F0 c.H0 F H σ δ)
    (hP : ∀ xs, di δ = .ok xs → Sz xs.length ∧ ∃ ys, compL dg d da (wipeD δ vs) xs = .ok ys ∧ ∀ D F1 H1 zs, Step F H F1 H1 → H D = none → F1 D = none → H1 D = some (.lst zs) → RpAll F1 zs ys → Q (.ref D) H1)
    (hx : ∀ n p, di δ = .exc n p → XPost HasK.mg c.W F H σ n p) (hs : di δ ≠ .stuck) : tLc w g tt te vs σ H Q := by
  refine hi F H σ δ _ S ?_
  cases q : di δ with
  | stuck => exact absurd q hs
  | exc n p => exact hx n p q
  | ok items =>
    obtain ⟨hsz, ys, hc, hQ⟩ := hP items q
    intro J F1 H1 s1 hJ D hD
    obtain ⟨G, Y, hw, hG, hY⟩ := hJ
    have S1 := S.step s1
    have Sw0 : Sr c'.F0 c'.H0 F1 H1 (L2.wipe σ vs) (wipeD δ vs) := by
      rw [hF, hH]
      exact S1.wipe vs
    have hD0 : H D = none := s1.hh.back hD
    have hDH : c'.H0 D = none := by
      rw [hH]
      exact S1.st.hh.back hD
    have hown : ∀ (j : Nat) e, (wipeD δ vs)[j]? = some (.own e) → (L2.wipe σ vs)[j]? ≠ some (some (.ref D)) := fun j e hj hs => by
      obtain ⟨a, h1, h2, h3, h4⟩ := Sw0.own j e hj
      rw [hs] at h1
      cases h1
      exact h4.there hD
    have Sw : Sr c'.F0 c'.H0 F1 (upd H1 D (.lst [])) (L2.wipe σ vs) (wipeD δ vs) := Sw0.poke (S1.fh.back hD) hDH hown (Sw0.noD hD H1 (.refl _))
    refine lc_it hw (fun i H' => ∃ F' zs as bs, Step F1 H1 F' H' ∧ F' D = none ∧ Sr c'.F0 c'.H0 F' H' (L2.wipe σ vs) (wipeD δ vs) ∧ H' D = some (.lst zs) ∧ RpAll F' zs as ∧ zs.length ≤ i ∧ compL dg d da (wipeD δ vs) (items.drop i) = .ok bs ∧ as ++ bs = ys)
      ⟨F1, [], [], ys, Step.side S1.fh _ hD, S1.fh.back hD, Sw, upd_same, .nil, Nat.le_refl _, hc, rfl⟩ (fun i H' _ p => ?_) (fun i x H' H2 hi p hy => ?_) (fun H' p => ?_)
    · obtain ⟨F', zs, as, bs, k1, k2, k3, _⟩ := p
      exact hG F' H' k1.ff k1.fh
    · obtain ⟨F', zs, as, bs, k1, k2, k3, k4, k5, k6, k7, k8⟩ := p
      obtain ⟨z, F3, hz, s3, hx3⟩ := hY i F' H' x H2 hi k1.ff k1.fh hy
      have hdrop : items.drop i = z :: items.drop (i + 1) := by
        rw [List.drop_eq_getElem_cons hi]
        congr 1
        rw [List.getElem?_eq_getElem hi] at hz
        exact Option.some.inj hz
      rw [hdrop] at k7
      unfold compL at k7
      have kD : ∀ {F4 H4 : Hp}, Step F' H' F4 H4 → F4 D = none ∧ H4 D = some (.lst zs) := fun {F4 H4} s => ⟨s.keepNone k2 (by rw [k4]; exact fun z => nomatch z), s.hh _ _ k4⟩
      have fresh : ∀ {F4 H4 : Hp}, Step F' H' F4 H4 → Step F1 H1 F4 H4 := fun {F4 H4} s => k1.trans s
      split at k7
      · cases k7
      · rename_i δ1 hd1
        refine hst x _ H2 (fun σ2 H3 => H3 = H2 ∧ Sr c'.F0 c'.H0 F3 H2 σ2 δ1) _ (hg F3 H2 _ _ x z δ1 _ (k3.step s3) hx3 hd1 fun σ' S' => ⟨rfl, S'⟩) fun σ2 H3 hq hwp => ?_
        obtain ⟨rfl, S2⟩ := hq
        refine ⟨hwp.trans (wipe_wipe σ vs), ?_⟩
        split at k7
        · -- the test holds
          rename_i htrue
          refine ht F3 H3 σ2 δ1 _ S2 ?_
          rw [htrue]
          intro b F4 H4 s4 hb
          subst hb
          refine iteT (he F4 H4 σ2 δ1 _ (S2.step s4) ?_)
          split at k7
          · rename_i y hy2
            rw [hy2]
            intro v F5 H5 s5 hv
            have st := (s3.trans s4).trans s5
            obtain ⟨kF, kH⟩ := kD st
            cases q2 : compL dg d da (wipeD δ vs) (items.drop (i + 1)) with
            | ok bs2 =>
              rw [q2] at k7
              cases k7
              refine ⟨zs, kH, ?_, F5, zs ++ [v], as ++ [y], bs2, ?_, kF, ?_, upd_same, (k5.mono st.ff).app (.cons hv .nil), ?_, rfl, ?_⟩
              · have h9 : zs.length < items.length := Nat.lt_of_le_of_lt k6 hi
                exact Nat.lt_trans h9 hsz.lt
              · have k := fresh st
                exact ⟨k.ff, k.fh.over kF, k.hh.over hD, k.new⟩
              · exact (k3.step st).poke kF hDH hown (Sw0.noD hD _ (fresh st).hh)
              · rw [List.length_append]
                exact Nat.succ_le_succ k6
              · rw [List.append_assoc]
                exact k8
            | exc n p => rw [q2] at k7; cases k7
            | stuck => rw [q2] at k7; cases k7
          · cases k7
        · rename_i hfalse
          refine ht F3 H3 σ2 δ1 _ S2 ?_
          rw [hfalse]
          intro b F4 H4 s4 hb
          subst hb
          have st := s3.trans s4
          obtain ⟨kF, kH⟩ := kD st
          exact iteF ⟨F4, zs, as, bs, fresh st, kF, k3.step st, kH, k5.mono st.ff, Nat.le_succ_of_le k6, k7, k8⟩
        · cases k7
    · obtain ⟨F', zs, as, bs, k1, k2, k3, k4, k5, k6, k7, k8⟩ := p
      rw [List.drop_of_length_le (Nat.le_refl _)] at k7
      cases k7
      rw [List.append_nil] at k8
      subst k8
      exact hQ D F' H' zs (s1.trans k1) hD0 k2 k4 k5
theorem lc_post {dg : DG} {vs : List Nat} {di : DI} {δ : DEnv} {r : Res D} (hr : r = dLc di dg d da vs δ) (hn : r ≠ .stuck) : di δ ≠ .stuck ∧ (∀ n p, di δ = .exc n p → r = .exc n p) ∧
    ∀ xs, di δ = .ok xs → Sz xs.length ∧ ((∃ ys, compL dg d da (wipeD δ vs) xs = .ok ys ∧ r = .ok (.list ys)) ∨ ∃ n p, compL dg d da (wipeD δ vs) xs = .exc n p) := by
  subst hr
  unfold dLc at hn ⊢
  refine ⟨fun q => hn (by rw [q]; rfl), fun n p q => by rw [q]; rfl, fun xs q => ?_⟩
  rw [q] at hn ⊢
  by_cases hs : Sz xs.length
  · refine ⟨hs, ?_⟩
    have e : ∀ f : List D → Res D, (Res.bind (.ok xs) fun xs => if Sz xs.length then (compL dg d da (wipeD δ vs) xs).bind f else .stuck) = (compL dg d da (wipeD δ vs) xs).bind f := fun f => if_pos hs
    rw [e] at hn ⊢
    cases q2 : compL dg d da (wipeD δ vs) xs with
    | ok ys => exact .inl ⟨ys, rfl, rfl⟩
    | exc n p => exact .inr ⟨n, p, rfl⟩
    | stuck => rw [q2] at hn; exact absurd rfl hn
  · exfalso
    apply hn
    exact if_neg hs
theorem compL_noexc {g : DG} {d : DT} {da : DE} {δ : DEnv} {n : Str} {p : Option (Str × D)} : ∀ {xs : List D}, compL g d da δ xs ≠ .exc n p
  | [], h => by cases h
  | x :: xs, h => by
    unfold compL at h
    split at h
    · cases h
    · split at h
      · split at h
        · cases q : compL g d da δ xs with
          | ok zs => rw [q] at h; cases h
          | exc n p => exact compL_noexc q
          | stuck => rw [q] at h; cases h
        · cases h
      · exact compL_noexc h
      · cases h
theorem sim_lc {c' : Cc} {w : TI} {di : DI} {g : TG} {dg : DG} {vs : List Nat} (hi : Sim RI c w di) (hF : c'.F0 = c.F0) (hH : c'.H0 = c.H0) (hg : SimG c' g dg) (hst : Stays g vs) (ht : Sim RT c' tt d) (he : Sim RF c' te da) : Sim RF c (tLc w g tt te vs) (dLc di dg d da vs) := fun F H σ δ Q S P => by
  have hn : dLc di dg d da vs δ ≠ .stuck := fun q => by rw [q] at P; exact P
  obtain ⟨n1, n2, n3⟩ := lc_post rfl hn
  refine lc_run hi hF hH hg hst ht he S (fun xs q => ?_) (fun n p q => by rw [n2 n p q] at P; exact P) n1
  obtain ⟨h1, ⟨ys, h2, h3⟩ | ⟨n, p, h2⟩⟩ := n3 xs q
  · refine ⟨h1, ys, h2, fun D F1 H1 zs s1 k1 k2 k3 k4 => ?_⟩
    rw [h3] at P
    have ex : Ex (upd F1 D (.lst zs)) H1 := fun b o hb => by
      by_cases e : b = D
      · subst e; rw [upd_same] at hb; rw [k3]; exact hb
      · rw [upd_ne e] at hb; exact s1.fh b o hb
    refine P _ (upd F1 D (.lst zs)) H1 ⟨s1.ff.trans (.put k2), ex, s1.hh, fun b hb hnb => ?_⟩ (.lst upd_same (k4.mono (.put k2)))
    by_cases e : b = D
    · rw [e]; exact k1
    · rw [upd_ne e] at hnb; exact s1.new b hb hnb
  · exact absurd h2 compL_noexc
theorem simN_lc {c' : Cc} {w : TI} {di : DI} {g : TG} {dg : DG} {vs : List Nat} (hi : Sim RI c w di) (hF : c'.F0 = c.F0) (hH : c'.H0 = c.H0) (hg : SimG c' g dg) (hst : Stays g vs) (ht : Sim RT c' tt d) (he : Sim RF c' te da) : SimN c (tLc w g tt te vs) (dLc di dg d da vs) := fun F H σ δ Q S P => by
  have hn : dLc di dg d da vs δ ≠ .stuck := fun q => by rw [q] at P; exact P
  obtain ⟨n1, n2, n3⟩ := lc_post rfl hn
  refine lc_run hi hF hH hg hst ht he S (fun xs q => ?_) (fun n p q => by rw [n2 n p q] at P; exact P) n1
  obtain ⟨h1, ⟨ys, h2, h3⟩ | ⟨n, p, h2⟩⟩ := n3 xs q
  · refine ⟨h1, ys, h2, fun D F1 H1 zs s1 k1 k2 k3 k4 => ?_⟩
    rw [h3] at P
    exact P D F1 H1 s1 k1 k2 ⟨zs, k3, k4⟩
  · exact absurd h2 compL_noexc
end
end RD

end
section
namespace RD
open PySem L2
variable [HasK]
section
variable {c : Cc} {e a b tg iter elt : Expr} {ifs es : List Expr} {da db : DE} {pos : Pos} {ta tb tc te : TE} {tt tt' : TT} {st : Stmt} {rest : List Stmt} {t u : TS} {ds du : DS} {d : DT} {X : Cx} {tr : TA} {dr : DA}
variable {scope : Scope} {own : List (Str × Nat)} {w : TI} {di : DI} {g : TG} {dg : DG}
theorem je_lc {vs : List Nat} (own : List (Str × Nat)) (hvs : own.map (·.2) = vs) (hc : c.X.calm = true) (hN : c.X.N.Nodup) (hi : JI c tg iter w di) (ok : BlkOk c.X.N c.X.env.scope scope own) (hst : Stays g vs)
    (hg : ∀ (s : Shared) (H : Hp) (C : Addr) (cl : List (Str × Addr)) (fp : List Addr), JG (c.blk s H scope C cl fp) tg g dg)
    (ht : ∀ (s : Shared) (H : Hp) (C : Addr) (cl : List (Str × Addr)) (fp : List Addr), JTs (c.blk s H scope C cl fp) ifs tt d)
    (he : ∀ (s : Shared) (H : Hp) (C : Addr) (cl : List (Str × Addr)) (fp : List Addr), JE (c.blk s H scope C cl fp) elt te da)
    (hs : ∀ x, foldedSetIterable iter c.X.env x = pure x := by intro _; rfl) : JE c (.ListComp elt [⟨tg, iter, ifs, 0⟩] scope pos) (tLc w g tt te vs) (dLc di dg d da vs) := by
  subst hvs
  refine ⟨pe_lc hc hN hi.p ok (fun s H C cl fp => (hg s H C cl fp).p) (fun s H C cl fp => (ht s H C cl fp).p) (fun s H C cl fp => (he s H C cl fp).p) hs, ?_⟩
  exact sim_lc (c' := c.blk c.X.s_0 c.H0 scope 0 [] []) hi.s rfl rfl (hg _ _ _ _ _).s hst (ht _ _ _ _ _).s (he _ _ _ _ _).s
theorem jn_lc {vs : List Nat} (own : List (Str × Nat)) (hvs : own.map (·.2) = vs) (hc : c.X.calm = true) (hN : c.X.N.Nodup) (hi : JI c tg iter w di) (ok : BlkOk c.X.N c.X.env.scope scope own) (hst : Stays g vs)
    (hg : ∀ (s : Shared) (H : Hp) (C : Addr) (cl : List (Str × Addr)) (fp : List Addr), JG (c.blk s H scope C cl fp) tg g dg)
    (ht : ∀ (s : Shared) (H : Hp) (C : Addr) (cl : List (Str × Addr)) (fp : List Addr), JTs (c.blk s H scope C cl fp) ifs tt d)
    (he : ∀ (s : Shared) (H : Hp) (C : Addr) (cl : List (Str × Addr)) (fp : List Addr), JE (c.blk s H scope C cl fp) elt te da)
    (hs : ∀ x, foldedSetIterable iter c.X.env x = pure x := by intro _; rfl) : JN c (.ListComp elt [⟨tg, iter, ifs, 0⟩] scope pos) (tLc w g tt te vs) (dLc di dg d da vs) := by
  subst hvs
  refine ⟨pe_lc hc hN hi.p ok (fun s H C cl fp => (hg s H C cl fp).p) (fun s H C cl fp => (ht s H C cl fp).p) (fun s H C cl fp => (he s H C cl fp).p) hs, ?_⟩
  exact simN_lc (c' := c.blk c.X.s_0 c.H0 scope 0 [] []) hi.s rfl rfl (hg _ _ _ _ _).s hst (ht _ _ _ _ _).s (he _ _ _ _ _).s
/-- y = [..] on one line, y a local name -/
theorem js_setLc {i : Nat} {y : Str} {py spos : Pos} {vs : List Nat} (own : List (Str × Nat)) (hvs : own.map (·.2) = vs) (hc : c.X.calm = true) (hN : c.X.N.Nodup) (hi : JI c tg iter w di) (ok : BlkOk c.X.N c.X.env.scope scope own) (hst : Stays g vs)
    (hg : ∀ (s : Shared) (H : Hp) (C : Addr) (cl : List (Str × Addr)) (fp : List Addr), JG (c.blk s H scope C cl fp) tg g dg)
    (ht : ∀ (s : Shared) (H : Hp) (C : Addr) (cl : List (Str × Addr)) (fp : List Addr), JTs (c.blk s H scope C cl fp) ifs tt d)
    (he : ∀ (s : Shared) (H : Hp) (C : Addr) (cl : List (Str × Addr)) (fp : List Addr), JE (c.blk s H scope C cl fp) elt te da)
    (hsw : swapsWith (.ListComp elt [⟨tg, iter, ifs, 0⟩] scope pos) (some (.Name y py)) spos.line c.X.env = pure true) (hy : c.X.N[i]? = some y := by rfl) (hyl : c.X.env.scope.names.lookup y = some .local := by rfl)
    (hs : ∀ x, foldedSetIterable iter c.X.env x = pure x := by intro _; rfl) :
    JS c (.Assign [.Name y py] (.ListComp elt [⟨tg, iter, ifs, 0⟩] scope pos) spos) (tAsg (tLc w g tt te vs) (gName i)) (dSet i (dLc di dg d da vs)) := by
  subst hvs
  refine ⟨ps_setLc hc hN hy hyl hsw hi.p ok (fun s H C cl fp => (hg s H C cl fp).p) (fun s H C cl fp => (ht s H C cl fp).p) (fun s H C cl fp => (he s H C cl fp).p) hs, fun F H σ δ D S P => ?_⟩
  exact (sim_lc (c' := c.blk c.X.s_0 c.H0 scope 0 [] []) hi.s rfl rfl (hg _ _ _ _ _).s hst (ht _ _ _ _ _).s (he _ _ _ _ _).s).gos S P fun F1 H1 x a s1 S1 hx P1 => P1 _ F1 H1 (.refl _) (S1.set hx i)
theorem js_setLcN {i : Nat} {y : Str} {py spos : Pos} {vs : List Nat} (own : List (Str × Nat)) (hvs : own.map (·.2) = vs) (hc : c.X.calm = true) (hN : c.X.N.Nodup) (hi : JI c tg iter w di) (ok : BlkOk c.X.N c.X.env.scope scope own) (hst : Stays g vs)
    (hg : ∀ (s : Shared) (H : Hp) (C : Addr) (cl : List (Str × Addr)) (fp : List Addr), JG (c.blk s H scope C cl fp) tg g dg)
    (ht : ∀ (s : Shared) (H : Hp) (C : Addr) (cl : List (Str × Addr)) (fp : List Addr), JTs (c.blk s H scope C cl fp) ifs tt d)
    (he : ∀ (s : Shared) (H : Hp) (C : Addr) (cl : List (Str × Addr)) (fp : List Addr), JE (c.blk s H scope C cl fp) elt te da)
    (hsw : swapsWith (.ListComp elt [⟨tg, iter, ifs, 0⟩] scope pos) (some (.Name y py)) spos.line c.X.env = pure true) (hy : c.X.N[i]? = some y := by rfl) (hyl : c.X.env.scope.names.lookup y = some .local := by rfl)
    (hs : ∀ x, foldedSetIterable iter c.X.env x = pure x := by intro _; rfl) :
    JS c (.Assign [.Name y py] (.ListComp elt [⟨tg, iter, ifs, 0⟩] scope pos) spos) (tAsg (tLc w g tt te vs) (gName i)) (dSetN i (dLc di dg d da vs)) := by
  subst hvs
  refine ⟨ps_setLc hc hN hy hyl hsw hi.p ok (fun s H C cl fp => (hg s H C cl fp).p) (fun s H C cl fp => (ht s H C cl fp).p) (fun s H C cl fp => (he s H C cl fp).p) hs, ?_⟩
  exact sim_setN (simN_lc (c' := c.blk c.X.s_0 c.H0 scope 0 [] []) hi.s rfl rfl (hg _ _ _ _ _).s hst (ht _ _ _ _ _).s (he _ _ _ _ _).s)
/-! ### defs -/
/-- no exception is wished for -/
abbrev W0 : WX := fun _ _ _ _ => False
def spD (n : Nat) (den : List D → Res D) : Sp := fun vs H Q E => vs.length = n ∧ ∃ F ds, Ex F H ∧ RpAll F vs ds ∧ PostG RF HasK.mg (fun cls d _ H' => E cls d H') F H [] Q (den ds)
theorem PostG.slots {mg : Str → Option Value} {W : WX} {F H : Hp} {σ : St} {Q : VK} {r : Res D} (h : PostG RF mg W F H σ Q r) : PostG RF mg (fun cls d _ H' => W cls d σ H') F H [] Q r := by
  cases r with
  | ok d => exact h
  | exc n p => cases p <;> exact h
  | stuck => exact h
def dCall (n : Nat) (den : List D → Res D) (dr : DA) : DE := fun δ => (dr δ).bind fun xs => if xs.length = n then den xs else .stuck
theorem sim_call {n : Nat} {den : List D → Res D} {W : WX} (hW : c.W = W) (h : Sim RA c tr dr) : Sim RF c (tCallS (spD n den) (WE W) tr) (dCall n den dr) := fun F H σ δ Q S P => by
  subst hW
  exact h.go S P fun F1 H1 xs ds s1 S1 hx P1 => by
    by_cases hn : ds.length = n
    · rw [if_pos hn] at P1
      exact ⟨by rw [hx.len]; exact hn, F1, ds, S1.fh, hx, P1.slots⟩
    · rw [if_neg hn] at P1; exact P1.elim
/-- .. over the written part K -/
abbrev spK (P : Program) (w : World) (K : PySem.W.Frag) (mg : Str → Option Value) (n : Nat) (den : List D → Res D) : Sp := @spD ⟨K, mg, P, w⟩ n den
theorem spK_eq {inst : HasK} {P : Program} {w : World} {K : PySem.W.Frag} {mg : Str → Option Value} {n : Nat} {den : List D → Res D} (h : K = inst.K) (h2 : mg = inst.mg) (h3 : P = inst.P) (h4 : w = inst.w) : spK P w K mg n den = @spD inst n den := by
  cases inst
  cases h
  cases h2
  cases h3
  cases h4
  rfl
/-- a def that keeps its promise, as a callee -/
structure Cal (P : Program) (w : World) (K : PySem.W.Frag) (mg : Str → Option Value) (base : Heap) (k : Nat) (x : Str) (n : Nat) (den : List D → Res D) : Prop where
  ex : ∃ (f : Addr) (fd : FuncData) (ps : List Str), FnOk P w K mg base (L2.CX P w) k f fd ps (spK P w K mg n den) ∧ mg x = some (.ref f) ∧ PySem.W.keepIn K (.ref f) = true ∧ Binds K fd ps []
theorem je_call {k j n : Nat} (W : WX) (hW : c.W = W) {x : Str} {den : List D → Res D} {p : Pos} (G : Cal c.X.prog c.X.w c.X.K c.X.mg c.X.base k x n den) (hr : Room j c.X.A) (hk : k ≤ j) (tk : Takes c.X c.W) (hg : Gl c.X x) (ha : JA c (e :: es) tr dr)
    (hdb : (x == ("__debug__" : Str)) = false := by decide) (he : starEach (e :: es) c.X.env = (false, eval e c.X.env) :: starEach es c.X.env := by rfl) (hpl : (backTo pos (starEach es c.X.env)).any (·.1) = false := by rfl) :
    JE c (.Call (.Name x p) (e :: es) [] pos) (tCallS (spD n den) (WE W) tr) (dCall n den dr) := by
  subst hW
  obtain ⟨f, fd, ps, h1, h2, h3, h4⟩ := G.ex
  rw [spK_eq c.hK c.hM c.hP c.hw] at h1
  exact ⟨pe_callS h1 (hr.mono hk) hg h2 h3 h4 (fun σ => passAt tk σ) ha.p hdb he hpl, sim_call rfl ha.s⟩
/-- what a body comes to -/
def runB (ds : DS) (m : Nat) : List D → Res D := fun xs => match ds (xs.map .val ++ List.replicate m .no) with
  | .next _ => .ok .none
  | .ret d => .ok d
  | .exc n p _ => .exc n p
  | _ => .stuck
theorem sr_start {F H : Hp} {N : List Str} {vs : List V} {xs : List D} (ex : Ex F H) (r : RpAll F vs xs) : Sr F H F H (L2.start N vs) (xs.map .val ++ List.replicate (N.length - vs.length) .no) where
  st := .refl ex
  len := by unfold L2.start; simp [r.len]
  val := fun i d h => by
    unfold L2.start
    by_cases hi : i < xs.length
    · rw [List.getElem?_append_left (by simpa using hi), List.getElem?_map] at h
      rw [List.getElem?_append_left (by simpa [r.len] using hi), List.getElem?_map]
      cases q : xs[i]? with
      | none => rw [q] at h; cases h
      | some z =>
        rw [q] at h
        cases h
        obtain ⟨v, h1, h2⟩ := r.getD q
        exact ⟨v, by rw [h1]; rfl, h2⟩
    · rw [List.getElem?_append_right (by simpa using hi), List.getElem?_replicate] at h
      split at h <;> cases h
  own := fun i d h => by
    by_cases hi : i < xs.length
    · rw [List.getElem?_append_left (by simpa using hi), List.getElem?_map] at h
      cases q : xs[i]? with
      | none => rw [q] at h; cases h
      | some z => rw [q] at h; cases h
    · rw [List.getElem?_append_right (by simpa using hi), List.getElem?_replicate] at h
      split at h <;> cases h
  apart := fun i j a d e h => by
    by_cases hi : i < xs.length
    · rw [List.getElem?_append_left (by simpa using hi), List.getElem?_map] at h
      cases q : xs[i]? with
      | none => rw [q] at h; cases h
      | some z => rw [q] at h; cases h
    · rw [List.getElem?_append_right (by simpa using hi), List.getElem?_replicate] at h
      split at h <;> cases h
  dk := by
    have no : ∀ (i : Nat) (s : Sl), (xs.map Sl.val ++ List.replicate (N.length - vs.length) Sl.no)[i]? = some s → Pln s := fun i s h => by
      by_cases hi : i < xs.length
      · rw [List.getElem?_append_left (by simpa using hi), List.getElem?_map] at h
        cases q : xs[i]? with
        | none => rw [q] at h; cases h
        | some z => rw [q] at h; cases h; exact trivial
      · rw [List.getElem?_append_right (by simpa using hi), List.getElem?_replicate] at h
        split at h
        · cases h; exact trivial
        · cases h
    exact ⟨fun i d h => (no i _ h).elim, fun i j a b x d e h => (no i _ h).elim, fun i j a b d e h => (no i _ h).elim, fun i d h => (no i _ h).elim, fun i d h => (no i _ h).elim⟩
end
section
variable {P : Program} {w : World} {K : PySem.W.Frag} {mg : Str → Option Value} {base : Heap}
/-- THE RULE for a def: its body as a derivation gives its denotation -/
theorem fn_den {x qual : Str} {st : Stmt} {f : Addr} {fd : FuncData} {N ps : List Str} {k m : Nat} {ds : DS} (F : Fun K x qual st f fd) (S : FnScope N ps (defScope st)) (hm : N.length = ps.length + m)
    (hbody : ∀ (cdv : Value) (A : Around) (outer : List Env) (s : Shared) (H : Hp) (E : XK) (F0 : Hp), Room k (A.deeper (PyProof.Rows.envOfC qual (defScope st) s.heap.objs.size f cdv)) →
      ∃ t, @JSs ⟨K, mg, P, w⟩ (@Cc.mk ⟨K, mg, P, w⟩ (cxOf (L2.CX P w) P w K mg base N qual (defScope st) f cdv A outer s H E) F0 H (fun cls d _ H' => E cls d H') rfl rfl rfl rfl) (defBody st) t ds) : FnOk P w K mg base (L2.CX P w) (k + 1) f fd ps (spK P w K mg ps.length (runB ds m)) := by
  letI hk : HasK := ⟨K, mg, P, w⟩
  refine F.okX S (fun vs H Q E h => h.1) fun cdv A outer s H vs Q E hr h => ?_
  obtain ⟨hl, F0, xs, ex, r, post⟩ := h
  obtain ⟨t, J⟩ := hbody cdv A outer s H E F0 hr
  refine ⟨t, J.p, J.s F0 H _ _ _ (sr_start (N := N) ex r) ?_⟩
  have em : N.length - vs.length = m := by omega
  rw [em]
  unfold runB at post
  cases q : ds (xs.map .val ++ List.replicate m .no) with
  | next δ => rw [q] at post; exact fun σ' F' H' e S' => post .non F' H' S'.st .non
  | ret d => rw [q] at post; exact fun v F' H' e s' r' => post v F' H' s' r'
  | exc n p δ =>
    rw [q] at post
    intro σ' F' H' e S'
    cases p with
    | none => exact post F' H' S'.st
    | some y => exact fun dd v h1 h2 h3 => post F' H' dd v S'.st h1 h2 h3
  | brk δ => rw [q] at post; exact post.elim
  | cont δ => rw [q] at post; exact post.elim
  | stuck => rw [q] at post; exact post.elim
end
/-! ### raise -/
section
variable {c : Cc} {pos : Pos}
structure ExcT (K : PySem.W.Frag) (mg : Str → Option Value) (x : Str) : Prop where
  ex : ∃ (C : Addr) (bmB : List Value) (B newId initId : String), ExcBaseFacts B newId initId bmB ∧ PySem.W.excIn K C bmB newId = true ∧ mg x = some (.ref C) ∧ PySem.W.keepIn K (.ref C) = true ∧ PySem.W.subIn K (.ref C) (.type "BaseException") = some true ∧ PySem.W.typeIn K (.ref C) = some (.type "type")
def dRaise (x : Str) : DS := fun δ => .exc x none δ
theorem js_raise {x m : Str} {j : Nat} {p p2 p3 : Pos} (T : ExcT c.X.K c.X.mg x) (hc : c.X.calm = true) (tk : Takes c.X c.W) (hg : Gl c.X x) (hdb : (x == ("__debug__" : Str)) = false := by decide) :
    JS c (.Raise (some (.Call (.Name x p) [.Constant (.str m) j p2] [] p3)) none pos) (fun _ σ H => c.W (.ref (clA HasK.mg x)) none σ H) (dRaise x) := by
  obtain ⟨C, bmB, B, n1, n2, h1, h2, h3, h4, h5, h6⟩ := T.ex
  have eC : clA HasK.mg x = C := by unfold clA; rw [← c.hM, h3]
  rw [eC]
  refine ⟨ps_raise hc tk (pmk_own h1 h2 h3 h4 (raises_own h5 h6) hg hdb), fun F H σ δ D S P => ?_⟩
  have P2 := P σ F H (.refl _) S
  unfold XPostS at P2
  rw [eC] at P2
  exact P2
end
end RD

end
section
namespace RD
open PySem L2
abbrev TSx := Addr → Value → Option Addr → TS
/-- the ends of a suite whose name at slot i is let go behind it -/
def Ends.letGo (D : Ends) (i : Nat) : Ends := ⟨fun σ H => D.nx (σ.set i none) H, D.rt, fun σ H => D.bk (σ.set i none) H, fun σ H => D.ct (σ.set i none) H⟩
/-- what clauses «except C as n» wish, one behind the other -/
def wAll (K : PySem.W.Frag) (Wout : WX) (D : Ends) (i : Nat) : List (Value × TSx) → WX
  | [] => Wout
  | p :: r => fun cls d σ H => ∃ b, PySem.W.exmOne K cls p.1 = some b ∧ (b = true → ∀ a, H a = none → p.2 a cls d (Ends.letGo D i) (σ.set i (some (.ref a))) H) ∧ (b = false → wAll K Wout D i r cls d σ H)
inductive HdAs (X : Cx) (n : Str) : List ExceptHandler → List (Value × TSx) → Prop
  | nil : HdAs X n [] []
  | cons {x : Str} {v : Value} {ts : TSx} {b0 : Stmt} {su : List Stmt} {np pp : Pos} {hs : List ExceptHandler} {l : List (Value × TSx)} (nm : Names X x v)
      (su_ok : ∀ (a : Addr) (oe : Obj) (cls : Value) (d : Option Addr) (pn : List (Addr × Obj)), Zc cls d oe → (∃ vs, oe.data = .fields vs) → PSs (X.suite a ((a, oe) :: pn)) (b0 :: su) (ts a cls d)) (tl : HdAs X n hs l) :
      HdAs X n (.ExceptHandler (some (.Name x np)) (some n) (b0 :: su) pp :: hs) ((v, ts) :: l)
section
variable {X : Cx} {n : Str} {i : Nat} {body : List Stmt} {h0 : ExceptHandler} {hs : List ExceptHandler} {l : List (Value × TSx)} {pos : Pos} {tb : WX → TS} {Wout : WX}
theorem ps_try_allAs (stk : X.stack = X.env :: X.outer) (fr : X.env.frame = some X.env.locals) (nd : X.N.Nodup) (at_i : X.N[i]? = some n) (loc : X.env.kindOf n = some .local) (tk : Takes X Wout)
    (bd : ∀ (W : WX) (pn : List (Addr × Obj)) (xe : Value → Shared → Prop), Takes (X.tr pn xe) W → PassesOwn (model X.prog X.w) X.A X.env xe → PSs (X.tr pn xe) body (tb W))
    (hd : HdAs X n (h0 :: hs) l) : PS X (.Try body (h0 :: hs) [] [] pos) (fun D σ H => tb (wAll X.K Wout D i l) D σ H) := by
  refine ⟨fun pins s σ H D I rd => ?_⟩
  have xok := I.ok
  have frames : X.A.frames = some (X.env :: X.outer) := stk ▸ xok.frames
  refine wpAny_Try_except (wpAny_mono ((bd (wAll X.K Wout D i l) (X.pn ++ pins) (fun e s1 => wpAny (model X.prog X.w) X.A (noteFrame e X.env) (fun _ s2 => wpAny (model X.prog X.w) X.A (setFlight e none) (fun _ s3 =>
    wpAny (model X.prog X.w) X.A (handleBy e X.env (h0 :: hs)) (SP X pins D) X.xe s3) X.xe s2) X.xe s1) (fun u sx caught => ?_) PassesOwn.looking).run [] s σ H D (I.toTry _) rd) (fun fl sx fin => ?_) fun e sx k => k)
  case refine_2 =>
    cases fl with
    | next => obtain ⟨σ1, H1, J, q⟩ := fin; exact wpAny_execs_nil ⟨σ1, H1, J.ofTry xok, q⟩
    | ret u => obtain ⟨v, σ1, H1, J, rv, q⟩ := fin; exact ⟨v, σ1, H1, J.ofTry xok, rv, q⟩
    | brk => obtain ⟨σ1, H1, J, q⟩ := fin; exact ⟨σ1, H1, J.ofTry xok, q⟩
    | cont => obtain ⟨σ1, H1, J, q⟩ := fin; exact ⟨σ1, H1, J.ofTry xok, q⟩
  obtain ⟨a, B, sI, pins1, σ1, H1, cls, d, ue, J0, nb, up, sky, na, os, ag, wish⟩ := caught
  subst ue
  have J : Inv X pins σ1 H1 sI := J0.ofTry xok
  refine Sky.land Zc.steady frames fr (show Sky B (X.env :: X.outer) a (Zc cls d) X.env.locals sx.heap from stk ▸ sky) fun h3 fl3 up3 => ?_
  have J3 : Inv X pins σ1 H1 { sx with heap := h3 } := J.landed nb fl3.1 (up.trans up3) os ag
  obtain ⟨o3, v3, g3, z3, f3⟩ := fl3.there
  have away : a ∉ frs (X.env :: X.outer) := fun hm => by
    obtain ⟨_, o', e', no⟩ := fl3.2.2.1.mem hm
    rw [g3] at e'
    cases e'
    exact no _ f3
  have nL : a ≠ X.env.locals := fun z => away (List.mem_filterMap.mpr ⟨X.env, List.mem_cons_self, by rw [fr, z]⟩)
  have nF : a ∉ X.fs := fun hm => by
    obtain ⟨en, he, q⟩ := List.mem_filterMap.mp hm
    exact away (List.mem_filterMap.mpr ⟨en, List.mem_cons_of_mem _ he, q⟩)
  have S3 := J3.suite g3 f3 na nL nF
  have ty : PySem.W.Looks (model X.prog X.w) h3 (typeOf (.ref a)) cls := fun A Q E s k q => wpAny_typeOf_ref (k _ _ g3) (by rw [z3.1]; exact q)
  suffices go : ∀ {hs' : List ExceptHandler} {l' : List (Value × TSx)}, HdAs X n hs' l' → wAll X.K Wout D i l' cls d σ1 H1 → wpAny (model X.prog X.w) X.A (handleBy (.ref a) X.env hs') (SP X pins D) X.xe { sx with heap := h3 } from go hd wish
  intro hs' l' hk
  induction hk with
  | nil =>
    intro out
    refine wpAny_handleBy_nil ?_
    obtain ⟨_, _, _, oe, vs, T, _, _, he, _, hf, h1, _⟩ := id fl3
    have last : wpAny (model X.prog X.w) X.A (setFlight (.ref a) X.env.frame) (fun _ s4 => wpAny (model X.prog X.w) X.A (throw (.ref a) : Sem Flow) (SP X pins D) X.xe s4) X.xe { sx with heap := h3 } := by
      rw [fr]
      refine HandSPX.setFlight_upZ fl3 fun h4 held up4 => wpAny_throw (tk _ _ ⟨a, B, sI, pins, σ1, H1, cls, d, rfl, J, nb, (up.trans up3).trans up4, .inr (.inr ?_), na, os, ag, out⟩)
      rw [stk]
      exact held
    unfold PySem.passOn
    refine wpAny_bind (wpAny_field he hf h1 ?_)
    rw [if_neg (by simp)]
    first
      | exact wpAny_bind (wpAny_pure (wpAny_bind last))
      | exact wpAny_bind last
  | @cons x v ts b0 su np pp hs2 l2 nm su_ok tl ih =>
    intro chain
    obtain ⟨b, hb, yes, no⟩ := chain
    refine wpAny_handleBy_cons (codeAny_handlers_test ?_) (fun z => nomatch z)
    have named : ∀ {Q : Value → Shared → Prop} {E : Value → Shared → Prop}, Q v { sx with heap := h3 } → wpAny (model X.prog X.w) (X.A.mark (some (.ref a))) (eval (.Name x np) X.env) Q E { sx with heap := h3 } := fun {Q E} q => by
      rcases nm with ⟨g, dbg, m | ⟨m, bv, nn⟩⟩
      · exact ld_glob (X := X.suite a ((a, o3) :: (X.pn ++ pins))) S3 g m q dbg
      · exact ld_blt (X := X.suite a ((a, o3) :: (X.pn ++ pins))) S3 g m bv q nn dbg
    refine named ((PySem.W.exm_one (M := model X.prog X.w) J3.kIn ty hb).here ?_)
    cases b with
    | false => exact ih (no rfl)
    | true =>
      refine codeAny_handlers_suite_as (HandSPX.lands_againZ fl3 fun h4 fl4 up4 => ?_)
      have J4 : Inv X pins σ1 H1 { sx with heap := h4 } := J.landed nb fl4.1 ((up.trans up3).trans up4) os ag
      obtain ⟨o4, v4, g4, z4, f4⟩ := fl4.there
      refine store_ok (X := X.suite a ((a, o4) :: (X.pn ++ pins))) (v := .ref a) (J4.suite g4 f4 na nL nF) nd at_i (.inl loc) rfl (fun s5 S5 => ?_) (.inr loc)
      refine wpAny_mono ((su_ok a o4 cls d (X.pn ++ pins) z4 ⟨_, f4⟩).run [] s5 _ H1 _ S5 (yes rfl a na)) (fun fl s6 fin => ?_) fun _ _ z => z.elim
      have gone : ∀ {σ6 : L2.St} {H6 : Hp} {Q : Shared → Prop}, Inv (X.suite a ((a, o4) :: (X.pn ++ pins))) [] σ6 H6 s6 → (∀ s7, Inv X pins (σ6.set i none) H6 s7 → Q s7) →
          wpAny (model X.prog X.w) X.A (do bindName X.env n .none; unbindBehindTheSuite X.env n pp) (fun _ s7 => Q s7) X.xe s6 := fun S6 k => gone_ok (S6.unsuite xok) nd at_i loc k
      cases fl with
      | next => obtain ⟨σ6, H6, S6, q6⟩ := fin; exact gone S6 fun s7 J7 => ⟨_, _, J7, q6⟩
      | ret u => obtain ⟨w6, σ6, H6, S6, r6, q6⟩ := fin; exact gone S6 fun s7 J7 => ⟨_, _, _, J7, r6, q6⟩
      | brk => obtain ⟨σ6, H6, S6, q6⟩ := fin; exact gone S6 fun s7 J7 => ⟨_, _, J7, q6⟩
      | cont => obtain ⟨σ6, H6, S6, q6⟩ := fin; exact gone S6 fun s7 J7 => ⟨_, _, J7, q6⟩
end
variable [HasK]
/-! ### except C as e: return s if isinstance(e, A) and not isinstance(e, B) else t -/
structure Hd where
  c : Str
  a : Str
  b : Str
  s1 : Str
  s2 : Str
def subB (n c : Str) : Bool := n == c || c == "NetError"
structure ExK (K : PySem.W.Frag) (mg : Str → Option Value) (l : List Str) : Prop where
  cls : ∀ n ∈ l, ExcC K (clA mg n) ∧ mg n = some (.ref (clA mg n))
  exm : ∀ n ∈ l, ∀ c ∈ l, PySem.W.exmOne K (.ref (clA mg n)) (.ref (clA mg c)) = some (subB n c)
  kit : ∀ n ∈ l, ∀ c ∈ l, PySem.W.kitOne K (.ref (clA mg n)) (.ref (clA mg c)) = some (subB n c)
def tIsE (K : PySem.W.Frag) (Dc a : Addr) (i : Nat) (C : Addr) : TE := tCB (rIsE K Dc a) (tCons (tVar i) (tCons (tC (.ref C)) tNil))
section
variable {X : Cx} {pos p p1 p2 : Pos} {n x : Str} {i : Nat} {C Dc a : Addr} {oe : Obj} {pn : List (Addr × Obj)}
theorem pe_isE (hg : Gl X "isinstance") (hm : X.mg "isinstance" = none) (hN : X.N[i]? = some n) (hv : Vis X.env.scope n) (hd : (n == ("__debug__" : Str)) = false) (hcd : (n == ("__classdict__" : Str)) = false)
    (gx : Gl X x) (mx : X.mg x = some (.ref C)) (dx : (x == ("__debug__" : Str)) = false) (E : ExcC X.K Dc) (hz : Zc (.ref Dc) none oe) (hf : ∃ vs, oe.data = .fields vs) :
    PE (X.suite a ((a, oe) :: pn)) (.Call (.Name "isinstance" p) [.Name n p1, .Name x p2] [] pos) (tIsE X.K Dc a i C) :=
  pe_callB (X := X.suite a ((a, oe) :: pn)) (id := "isinstance") (call_isE E hz hf) hg hm (by decide +kernel)
    (pa_cons (pe_var (X := X.suite a ((a, oe) :: pn)) hN hv hd hcd) (pa_cons (pe_glob (X := X.suite a ((a, oe) :: pn)) (v := .ref C) gx mx rfl dx) pa_nil (by rfl)) (by rfl)) (by decide) (by decide) (by rfl) (by rfl)
/-- the suite's reading -/
def tsR (K : PySem.W.Frag) (i : Nat) (A B : Addr) (s1 s2 : Str) : TSx := fun a cls d D σ H => ∃ Dc, cls = .ref Dc ∧ d = none ∧ ExcC K Dc ∧
  tRet (tIf (tAnd (L2.tB (tIsE K Dc a i A)) (tNot (L2.tB (tIsE K Dc a i B)))) (tC (.str s1)) (tC (.str s2))) D σ H
theorem suite_ret {A B : Addr} {s1 s2 xa xb : Str} {j1 j2 : Nat} {q1 q2 q3 q4 q5 q6 u1 u2 u3 u4 w1 w2 w3 w4 : Pos} (hg : Gl X "isinstance") (hm : X.mg "isinstance" = none) (hN : X.N[i]? = some n) (hv : Vis X.env.scope n) (hd : (n == ("__debug__" : Str)) = false) (hcd : (n == ("__classdict__" : Str)) = false)
    (ga : Gl X xa) (ma : X.mg xa = some (.ref A)) (da : (xa == ("__debug__" : Str)) = false) (gb : Gl X xb) (mb : X.mg xb = some (.ref B)) (db : (xb == ("__debug__" : Str)) = false)
    (a : Addr) (oe : Obj) (cls : Value) (d : Option Addr) (pn : List (Addr × Obj)) (hz : Zc cls d oe) (hf : ∃ vs, oe.data = .fields vs) :
    PSs (X.suite a ((a, oe) :: pn)) [.Return (some (.IfExp (.BoolOp .And [.Call (.Name "isinstance" u1) [.Name n u2, .Name xa u3] [] u4, .UnaryOp .Not (.Call (.Name "isinstance" w1) [.Name n w2, .Name xb w3] [] w4) q1] q2) (.Constant (.str s1) j1 q3) (.Constant (.str s2) j2 q4) q5)) q6] (tsR X.K i A B s1 s2 a cls d) := by
  refine ⟨fun pins s σ H D I h => ?_⟩
  obtain ⟨Dc, rfl, rfl, E, h⟩ := h
  refine (pss_one (ps_ret (pe_ifExp (PW.pt (pw_and (pt_val (pe_isE hg hm hN hv hd hcd ga ma da E hz hf) (fun _ => rfl)) (pw_and1 (pt_not (pt_val (pe_isE hg hm hN hv hd hcd gb mb db E hz hf) (fun _ => rfl)))))) pe_str pe_str))).run pins s σ H D I h
end
def handle : List Hd → Str → Option Str
  | [], _ => none
  | h :: r, n => if subB n h.c then some (if subB n h.a && !subB n h.b then h.s1 else h.s2) else handle r n
def dTry (i : Nat) (ds : DS) (known : List Str) (hs : List Hd) : DS := fun δ => match ds δ with
  | .exc n none δ' => if n ∈ known ∧ i < δ'.length then (match handle hs n with
    | some s => .ret (.str s)
    | none => .exc n none δ') else .stuck
  | .exc _ (some _) _ => .stuck
  | o => o
def hdL (i : Nat) (hs : List Hd) : List (Value × TSx) := hs.map fun h => (.ref (clA HasK.mg h.c), tsR HasK.K i (clA HasK.mg h.a) (clA HasK.mg h.b) h.s1 h.s2)
def JH (c : Cc) (n : Str) (i : Nat) (hs : List ExceptHandler) (l : List Hd) : Prop := HdAs c.X n hs (hdL i l)
section
variable {c : Cc} {n : Str} {i : Nat} {hs : List ExceptHandler} {l : List Hd} {known : List Str}
theorem jh_nil : JH c n i [] [] := .nil
theorem jh_cons {x xa xb s1 s2 : Str} {np pp : Pos} {j1 j2 : Nat} {q1 q2 q3 q4 q5 q6 u1 u2 u3 u4 w1 w2 w3 w4 : Pos} (T : ExK c.X.K c.X.mg known) (hm : c.X.mg "isinstance" = none) (hx : x ∈ known) (ha : xa ∈ known) (hb : xb ∈ known)
    (tl : JH c n i hs l) (hg : Gl c.X "isinstance" := by rfl) (hN : c.X.N[i]? = some n := by rfl) (hv : Vis c.X.env.scope n := by exact Or.inl rfl) (hd : (n == ("__debug__" : Str)) = false := by decide) (hcd : (n == ("__classdict__" : Str)) = false := by decide)
    (gx : Gl c.X x := by rfl) (ga : Gl c.X xa := by rfl) (gb : Gl c.X xb := by rfl) (dx : (x == ("__debug__" : Str)) = false := by decide) (da : (xa == ("__debug__" : Str)) = false := by decide) (db : (xb == ("__debug__" : Str)) = false := by decide) :
    JH c n i (.ExceptHandler (some (.Name x np)) (some n) [.Return (some (.IfExp (.BoolOp .And [.Call (.Name "isinstance" u1) [.Name n u2, .Name xa u3] [] u4, .UnaryOp .Not (.Call (.Name "isinstance" w1) [.Name n w2, .Name xb w3] [] w4) q1] q2) (.Constant (.str s1) j1 q3) (.Constant (.str s2) j2 q4) q5)) q6] pp :: hs) (⟨x, xa, xb, s1, s2⟩ :: l) := by
  have e1 : clA HasK.mg = clA c.X.mg := by rw [c.hM]
  unfold JH hdL
  rw [List.map_cons, e1, ← c.hK]
  refine .cons ⟨gx, dx, .inl (T.cls x hx).2⟩ (fun a oe cls d pn hz hf => suite_ret hg hm hN hv hd hcd ga (T.cls xa ha).2 da gb (T.cls xb hb).2 db a oe cls d pn hz hf) ?_
  have tl2 : HdAs c.X n hs (hdL i l) := tl
  unfold hdL at tl2
  rw [e1, ← c.hK] at tl2
  exact tl2
variable {body : List Stmt} {h0 : ExceptHandler} {pos : Pos} {ds : DS}
/-- the reading by data alone -/
def tDat (F0 H0 : Hp) (W : WX) (ds : DS) (P : Hp → Ends → Out → Prop) : TS := fun D σ H => ∃ F δ, Sr F0 H0 F H σ δ ∧ P F D (ds δ)
theorem JSs.dat {sts : List Stmt} {t : TS} (J : JSs c sts t ds) : PSs c.X sts (tDat c.F0 c.H0 c.W ds (PostS c)) := ⟨fun pins s σ H D I h => by
  obtain ⟨F, δ, S, P⟩ := h
  exact J.p.run pins s σ H D I (J.s F H σ δ D S P)⟩
theorem try_reads (T : ExK c.X.K c.X.mg known) (hin : ∀ h ∈ l, h.c ∈ known ∧ h.a ∈ known ∧ h.b ∈ known) {D : Ends} {σ : St} {H : Hp} (h : tDat c.F0 c.H0 c.W (dTry i ds known l) (PostS c) D σ H) :
    tDat c.F0 c.H0 (wAll HasK.K c.W D i (hdL i l)) ds (PostS ⟨c.X, c.F0, c.H0, wAll HasK.K c.W D i (hdL i l), c.hK, c.hM, c.hP, c.hw⟩) D σ H := by
  obtain ⟨F, δ, S, P⟩ := h
  refine ⟨F, δ, S, ?_⟩
  have e1 : clA HasK.mg = clA c.X.mg := by rw [c.hM]
  unfold dTry at P
  cases q : ds δ with
  | next δ' => rw [q] at P; exact P
  | ret r => rw [q] at P; exact P
  | brk δ' => rw [q] at P; exact P
  | cont δ' => rw [q] at P; exact P
  | stuck => rw [q] at P; exact P
  | exc m pl δ' =>
    rw [q] at P
    cases pl with
    | some y => exact P.elim
    | none =>
      have P2 : PostS c F D (if m ∈ known ∧ i < δ'.length then (match handle l m with | some s => .ret (.str s) | none => .exc m none δ') else .stuck) := P
      by_cases hm' : m ∈ known ∧ i < δ'.length
      · rw [if_pos hm'] at P2
        obtain ⟨hm, hil⟩ := hm'
        intro σ' F' H' e' S'
        show wAll HasK.K c.W D i (hdL i l) (.ref (clA HasK.mg m)) none σ' H'
        have gen : ∀ l2 : List Hd, (∀ h ∈ l2, h.c ∈ known ∧ h.a ∈ known ∧ h.b ∈ known) → PostS c F D (match handle l2 m with | some s => .ret (.str s) | none => .exc m none δ') → wAll HasK.K c.W D i (hdL i l2) (.ref (clA HasK.mg m)) none σ' H' := by
          intro l2
          induction l2 with
          | nil =>
            intro _ Q
            exact Q σ' F' H' e' S'
          | cons h r ih =>
            intro hi2 Q
            obtain ⟨k1, k2, k3⟩ := hi2 h List.mem_cons_self
            have x1 := T.exm m hm h.c k1
            have x2 := T.kit m hm h.a k2
            have x3 := T.kit m hm h.b k3
            have x4 := (T.cls m hm).1
            rw [← e1, c.hK] at x1 x2 x3
            rw [← e1, c.hK] at x4
            refine ⟨subB m h.c, x1, fun hb2 a na => ?_, fun hb2 => ih (fun z hz => hi2 z (List.mem_cons_of_mem _ hz)) ?_⟩
            · have Q2 : PostS c F D (.ret (.str (if subB m h.a && !subB m h.b then h.s1 else h.s2))) := by
                have e2 : handle (h :: r) m = some (if subB m h.a && !subB m h.b then h.s1 else h.s2) := if_pos hb2
                rw [e2] at Q
                exact Q
              refine ⟨_, rfl, rfl, x4, ?_⟩
              have hs : (σ'.set i (some (.ref a)))[i]? = some (some (V.ref a)) := set_at (by rw [S'.len]; exact hil)
              have fin : ∀ s, s = (if subB m h.a && !subB m h.b then h.s1 else h.s2) → D.rt (.str s) H' := fun s es => by
                subst es
                exact Q2 _ F' H' e' S'.st (.str _)
              refine ⟨_, hs, .ref (clA HasK.mg h.a), .ref (clA HasK.mg h.a), subB m h.a, rfl, fun u hu => hu, x2, subB m h.a, rfl, ?_⟩
              cases qa : subB m h.a with
              | false => exact iteF (iteF (fin _ (by rw [qa]; rfl)))
              | true =>
                refine iteT ⟨_, hs, .ref (clA HasK.mg h.b), .ref (clA HasK.mg h.b), subB m h.b, rfl, fun u hu => hu, x3, subB m h.b, rfl, ?_⟩
                cases qb : subB m h.b with
                | false => exact iteT (fin _ (by rw [qa, qb]; rfl))
                | true => exact iteF (fin _ (by rw [qa, qb]; rfl))
            · have e2 : handle (h :: r) m = handle r m := by
                rw [handle, hb2]
                exact if_neg Bool.false_ne_true
              rw [e2] at Q
              exact Q
        exact gen l hin P2
      · rw [if_neg hm'] at P2
        exact P2.elim
theorem js_try (T : ExK c.X.K c.X.mg known) (hin : ∀ h ∈ l, h.c ∈ known ∧ h.a ∈ known ∧ h.b ∈ known) (tk : Takes c.X c.W) (nd : c.X.N.Nodup)
    (hb : ∀ (W : WX) (pn : List (Addr × Obj)) (xe : Value → Shared → Prop), Takes (c.X.tr pn xe) W → PassesOwn (model c.X.prog c.X.w) c.X.A c.X.env xe → ∃ t, JSs ⟨c.X.tr pn xe, c.F0, c.H0, W, c.hK, c.hM, c.hP, c.hw⟩ body t ds)
    (hh : JH c n i (h0 :: hs) l) (stk : c.X.stack = c.X.env :: c.X.outer := by rfl) (fr : c.X.env.frame = some c.X.env.locals := by rfl) (hi : c.X.N[i]? = some n := by rfl) (hl : c.X.env.kindOf n = some .local := by rfl) :
    JS c (.Try body (h0 :: hs) [] [] pos) (tDat c.F0 c.H0 c.W (dTry i ds known l) (PostS c)) (dTry i ds known l) := by
  refine ⟨⟨fun pins s σ H D I h => ?_⟩, fun F H σ δ D S P => ⟨F, δ, S, P⟩⟩
  have R := try_reads T hin h
  have hd : HdAs c.X n (h0 :: hs) (hdL i l) := hh
  have K := ps_try_allAs (pos := pos) (tb := fun W => tDat c.F0 c.H0 W ds (PostS ⟨c.X, c.F0, c.H0, W, c.hK, c.hM, c.hP, c.hw⟩)) stk fr nd hi hl tk (fun W pn xe t1 t2 => by
    obtain ⟨t, J⟩ := hb W pn xe t1 t2
    exact J.dat) hd
  refine K.run pins s σ H D I ?_
  rw [c.hK]
  exact R
end
end RD

end
section
namespace RD
open PySem L2
variable [HasK]
def flatD : D → Bool
  | .none => true
  | .bool _ => true
  | .int _ => true
  | .str _ => true
  | _ => false
theorem flat_v {F : Hp} {v : V} {d : D} (h : Rp F v d) (f : flatD d = true) : flatV v = true := by
  cases h <;> first | rfl | cases f
theorem flat_eq {F : Hp} {v w : V} {d e : D} (h : Rp F v d) (h' : Rp F w e) (f : flatD d = true) (f' : flatD e = true) : eqV v w = PyData.eqv d e := by
  cases h <;> first | cases f; done | (cases h' <;> first | cases f'; done | (simp only [eqV, PyData.eqv]))
theorem flat_all {F : Hp} : ∀ {vs : List V} {ds : List D}, RpAll F vs ds → ds.all flatD = true → vs.all flatV = true
  | _, _, .nil, _ => rfl
  | _, _, .cons h r, f => by
    simp only [List.all_cons, Bool.and_eq_true] at f ⊢
    exact ⟨flat_v h f.1, flat_all r f.2⟩
theorem flat_in {F : Hp} {x : V} {d : D} (hx : Rp F x d) (fx : flatD d = true) : ∀ {vs : List V} {ds : List D}, RpAll F vs ds → ds.all flatD = true → inV x vs = ds.any fun z => PyData.eqv z d
  | _, _, .nil, _ => rfl
  | _, _, .cons h r, f => by
    simp only [List.all_cons, Bool.and_eq_true] at f
    have ih := flat_in hx fx r f.2
    unfold inV at ih ⊢
    rw [List.any_cons, List.any_cons, ih, flat_eq h hx f.1 fx]
def inD (neg : Bool) : D → D → Option D := fun x y => match y with
  | .list ys => if (flatD x = true ∧ ys.all flatD = true) ∨ (SeqAt.shaped x = true ∧ SeqAt.shaped (.list ys) = true) then some (.bool (if neg then !ys.any fun z => PyData.eqv z x else ys.any fun z => PyData.eqv z x)) else none
  | .tuple ys => if flatD x = true ∧ ys.all flatD = true then some (.bool (if neg then !ys.any fun z => PyData.eqv z x else ys.any fun z => PyData.eqv z x)) else none
  | .dict es => (dgetD (.dict es) x).map fun o => .bool (if neg then !o.isSome else o.isSome)
  | _ => none
def rInA (P : Program) (w : World) (K : PySem.W.Frag) : R2 := fun x y H Q => rIn K false x y H Q ∨ (rInD K x y H Q ∨ rInDA P w false x y H Q)
def rNotInA (P : Program) (w : World) (K : PySem.W.Frag) : R2 := fun x y H Q => rIn K true x y H Q ∨ (rNotInD K x y H Q ∨ rInDA P w true x y H Q)
theorem Bw.rpF {F H : Hp} {v : V} {d : D} (h : Bw F H v d) (f : flatD d = true) : Rp F v d := by
  rcases h with h | ⟨a, _, h⟩
  · exact h
  · cases d <;> first | exact h.elim | cases f
theorem s_in {K : PySem.W.Frag} : OpS (rInA HasK.P HasK.w K) (inD false) := by
  intro F H x y d e z Q ex bx by_ hz h
  unfold inD at hz
  split at hz
  · obtain ⟨hc, rfl⟩ := if_some hz
    rcases hc with ⟨f1, f2⟩ | ⟨f1, f2⟩
    · obtain ⟨a, us, rfl, h1, h2⟩ := by_.lst ex
      have hx := bx.rpF f1
      refine .inl ⟨a, us, rfl, .inl (sqL h1), flat_v hx f1, flat_all h2 f2, ?_⟩
      rw [flat_in hx f1 h2 f2]
      exact h _ F H (.refl ex) (.bl _)
    · exact .inr (.inl ⟨d, _, bx.dp ex (shp f1), by_.dp ex (shp f2), f1, f2, h _ F H (.refl ex) (.bl _)⟩)
  · obtain ⟨⟨f1, f2⟩, rfl⟩ := if_some hz
    obtain ⟨a, us, rfl, h1, h2⟩ := by_.tup ex
    have hx := bx.rpF f1
    refine .inl ⟨a, us, rfl, .inr (sqT h1), flat_v hx f1, flat_all h2 f2, ?_⟩
    rw [flat_in hx f1 h2 f2]
    exact h _ F H (.refl ex) (.bl _)
  · obtain ⟨o, h1, rfl⟩ := Option.map_eq_some_iff.mp hz
    obtain ⟨a, r, rfl, g, q⟩ := dget_of ex by_ bx h1
    have e : r.isSome = o.isSome := by
      rcases q with ⟨q1, q2⟩ | ⟨v, z', q1, q2, _⟩ <;> rw [q1, q2] <;> rfl
    refine .inr (.inr ⟨a, r, rfl, g, ?_⟩)
    rw [e]
    exact h _ F H (.refl ex) (.bl _)
  · cases hz
theorem s_notin {K : PySem.W.Frag} : OpS (rNotInA HasK.P HasK.w K) (inD true) := by
  intro F H x y d e z Q ex bx by_ hz h
  unfold inD at hz
  split at hz
  · obtain ⟨hc, rfl⟩ := if_some hz
    rcases hc with ⟨f1, f2⟩ | ⟨f1, f2⟩
    · obtain ⟨a, us, rfl, h1, h2⟩ := by_.lst ex
      have hx := bx.rpF f1
      refine .inl ⟨a, us, rfl, .inl (sqL h1), flat_v hx f1, flat_all h2 f2, ?_⟩
      rw [flat_in hx f1 h2 f2]
      exact h _ F H (.refl ex) (.bl _)
    · exact .inr (.inl ⟨d, _, bx.dp ex (shp f1), by_.dp ex (shp f2), f1, f2, h _ F H (.refl ex) (.bl _)⟩)
  · obtain ⟨⟨f1, f2⟩, rfl⟩ := if_some hz
    obtain ⟨a, us, rfl, h1, h2⟩ := by_.tup ex
    have hx := bx.rpF f1
    refine .inl ⟨a, us, rfl, .inr (sqT h1), flat_v hx f1, flat_all h2 f2, ?_⟩
    rw [flat_in hx f1 h2 f2]
    exact h _ F H (.refl ex) (.bl _)
  · obtain ⟨o, h1, rfl⟩ := Option.map_eq_some_iff.mp hz
    obtain ⟨a, r, rfl, g, q⟩ := dget_of ex by_ bx h1
    have e : r.isSome = o.isSome := by
      rcases q with ⟨q1, q2⟩ | ⟨v, z', q1, q2, _⟩ <;> rw [q1, q2] <;> rfl
    refine .inr (.inr ⟨a, r, rfl, g, ?_⟩)
    rw [e]
    exact h _ F H (.refl ex) (.bl _)
  · cases hz
theorem Room.u65 {k : Nat} {A : Around} (r : Room k A) : A.units + 65 < cLine := by have := r.un; omega
section
variable {c : Cc} {a b : Expr} {da db : DE} {pos : Pos} {ta tb : TE} {k : Nat}
theorem je_in (hr : Room k c.X.A) (ha : JB c a ta da) (hb : JB c b tb db) (hm : behindInMarks .In b = false := by rfl) : JE c (.Compare a [.In] [b] pos) (tOp (rInA HasK.P HasK.w HasK.K) ta tb) (dOp (inD false) da db) := by
  rw [← c.hK, ← c.hP, ← c.hw]
  exact je_cmpR (OpR.or op_in_seq (OpR.or (op_inD (Room.u65 hr)) (op_inDA (Room.units hr)))) (by rw [c.hP, c.hw]; exact s_in) ha hb hm
theorem je_notin (hr : Room k c.X.A) (ha : JB c a ta da) (hb : JB c b tb db) (hm : behindInMarks .NotIn b = false := by rfl) : JE c (.Compare a [.NotIn] [b] pos) (tOp (rNotInA HasK.P HasK.w HasK.K) ta tb) (dOp (inD true) da db) := by
  rw [← c.hK, ← c.hP, ← c.hw]
  exact je_cmpR (OpR.or op_notIn_seq (OpR.or (op_notInD (Room.u65 hr)) (op_notInDA (Room.units hr)))) (by rw [c.hP, c.hw]; exact s_notin) ha hb hm
theorem jt_in (hr : Room k c.X.A) (ha : JB c a ta da) (hb : JB c b tb db) (hm : behindInMarks .In b = false := by rfl) : JT c (.Compare a [.In] [b] pos) (tTest (tOp (rInA HasK.P HasK.w HasK.K) ta tb)) (dTest (dOp (inD false) da db)) := by
  rw [← c.hK, ← c.hP, ← c.hw]
  exact jt_cmpR (OpR.or op_in_seq (OpR.or (op_inD (Room.u65 hr)) (op_inDA (Room.units hr)))) (by rw [c.hP, c.hw]; exact s_in) ha hb hm
theorem jt_notin (hr : Room k c.X.A) (ha : JB c a ta da) (hb : JB c b tb db) (hm : behindInMarks .NotIn b = false := by rfl) : JT c (.Compare a [.NotIn] [b] pos) (tTest (tOp (rNotInA HasK.P HasK.w HasK.K) ta tb)) (dTest (dOp (inD true) da db)) := by
  rw [← c.hK, ← c.hP, ← c.hw]
  exact jt_cmpR (OpR.or op_notIn_seq (OpR.or (op_notInD (Room.u65 hr)) (op_notInDA (Room.units hr)))) (by rw [c.hP, c.hw]; exact s_notin) ha hb hm
end
end RD

end
section
namespace RD
open PySem L2
/-! ### enumerate(tuple) -/
theorem meets_enum1 {u : Value} {ob : Obj} {G : Heap → Prop} (B : Begins u ob G) :
    Meets (Builtin.«enumerate.__new__» ⟨[.type "enumerate", u], []⟩) (fun _ R s => G s.heap ∧
      R (.ok (.ret (.ref (s.heap.push ob).objs.size))) { s with heap := (s.heap.push ob).push { cls := .type "enumerate", data := .fields #[.none, .bool false, .ref s.heap.objs.size, rawInt 0, .none, .none] } }) :=
  .of_wp fun prog w A R s0 h0 => by
    obtain ⟨hp, g, d, tk, os⟩ := s0
    obtain ⟨g1, h0⟩ := h0
    have hsub := sub_enumerate
    have q1 : ∀ {A' : Around} {E : Value → Shared → Prop} {Q : Value → Shared → Prop}, Q (.ref hp.objs.size) ⟨hp.push ob, g, d, tk, os⟩ → wpAny (model prog w) A' (pyIter u) Q E ⟨hp, g, d, tk, os⟩ := fun k => B.iter prog w _ _ ⟨hp, g, d, tk, os⟩ _ g1 k
    wp_walk using q1
    refine wpAny_stack_any fun st => wpAny_pure ?_
    split
    · rename_i z _ _ _ _ _
      cases (z == Value.type "enumerate") <;> (wp_walk using q1; exact ⟨_, rfl, h0⟩)
    · wp_walk using q1; exact ⟨_, rfl, h0⟩
section
variable {prog : Program} {w : World} {A : Around} {E : Value → Shared → Prop} {s : Shared}
theorem call_enum1 {u : Value} {ob : Obj} {G : Heap → Prop} {Q : Value → Shared → Prop} (B : Begins u ob G) (g1 : G s.heap)
    (k : ∀ h1, IsEnum h1 (s.heap.objs.size + 1) s.heap.objs.size 0 .none → h1.get? s.heap.objs.size = some ob → h1.objs.size = s.heap.objs.size + 2 → (∀ b o, s.heap.get? b = some o → h1.get? b = some o) → Q (.ref (s.heap.objs.size + 1)) { s with heap := h1 }) :
    wpAny (model prog w) A (call (.type "enumerate") [u]) Q E s := by
  refine callType_new F.called_enumerate (by decide) (F.typeCall_enumerate_1 _) (F.newCall_enumerate_1 _) (fun x => F.args_object_init_2 x _) F.entry_enumerate_new (meets_enum1 B) ⟨g1, ?_⟩
  have z1 : (s.heap.push ob).objs.size = s.heap.objs.size + 1 := by rw [Heap.size_push]
  show _ ∧ _
  rw [z1]
  have he : IsEnum ((s.heap.push ob).push { cls := .type "enumerate", data := .fields #[.none, .bool false, .ref s.heap.objs.size, rawInt 0, .none, .none] }) (s.heap.objs.size + 1) s.heap.objs.size 0 .none := by
    have q := Heap.get?_push_size (s.heap.push ob) (o := { cls := .type "enumerate", data := .fields #[.none, .bool false, .ref s.heap.objs.size, rawInt 0, .none, .none] }) rfl
    rw [z1] at q
    exact q
  exact ⟨⟨_, he, rfl⟩, k _ he (Heap.get?_push_of_some _ (Heap.get?_push_size _ B.free)) (by rw [Heap.size_push, z1]) fun b o e => Heap.get?_push_of_some _ (Heap.get?_push_of_some _ e)⟩
end
/-- the tuple at a, each item in a new pair with its place -/
def ItET (K : PySem.W.Frag) (a : Addr) : It :=
  ⟨fun i H => ∃ (xs : List V) (x : V), SqT K H a xs ∧ xs[i]? = some x, fun i H v H' => ∃ T x, v = .ref T ∧ H T = none ∧ H' = upd H T (.tup [.int (i : Nat), x]) ∧ ∀ xs, SqT K H a xs → xs[i]? = some x, fun i H => ∃ xs : List V, SqT K H a xs ∧ xs.length = i⟩
/-- an object of another class than a tuple is not that tuple -/
theorem not_tup {s : Shared} {a b : Addr} {o : Obj} {items : Array Value} (ht : s.heap.IsTuple a items) (hb : s.heap.get? b = some o) (hc : o.cls ≠ .type "tuple") : b ≠ a := by
  rintro rfl
  have ⟨o', at_, cls, _⟩ := ht
  exact hc (Option.some.inj (hb.symm.trans at_) ▸ cls)
theorem turn_enumT {P : Program} {w : World} {K : PySem.W.Frag} {elts : List Expr} {kk : Nat} {tpos : Pos} (a e it : Addr) :
    Turn P w K (.Tuple elts kk tpos) (ItET K a) [e, it] e (fun i h => (∃ old, IsEnum h e it ((i : Nat) : Int) old) ∧ h.IsTupleIter it a i ∧ e ≠ it) where
  mem := .head _
  obj := fun _ _ ⟨⟨_, he⟩, ⟨o, at_, _, data⟩, _⟩ b m => by
    rcases List.mem_cons.mp m with rfl | m
    · exact ⟨_, he, nofun⟩
    · exact ⟨o, List.mem_singleton.mp m ▸ at_, fun _ q => nomatch data.symm.trans q⟩
  keep := fun _ _ _ ⟨⟨old, he⟩, hi, ne⟩ k => ⟨⟨old, k e (.head _) _ he⟩, hi.at (k it (.tail _ (.head _))), ne⟩
  item := fun X hP hw hK hc i pins s σ H E V hf ⟨⟨old, he⟩, hit, ne⟩ ⟨xs, x, hq, hx⟩ => by
    subst hP hw hK
    have ⟨us, rv, p, _⟩ := V.tuple hq
    have ⟨u, hu, ru⟩ := rv.get hx
    have hit2 := hit
    have ⟨oi, at_, cls, _⟩ := hit2
    have ea : e ≠ a := not_tup p he (show Value.type "enumerate" ≠ .type "tuple" by decide)
    have ia : it ≠ a := not_tup p at_ (by rw [cls]; decide)
    have apart : e ∉ [it, a] := fun m => (List.mem_cons.mp m).elim ne fun m => ea (List.mem_singleton.mp m)
    have inside : i < us.toArray.size := by rw [List.size_toArray]; exact (List.getElem?_eq_some_iff.mp hu).1
    have D := Draws.tuple (prog := X.prog) (w := X.w) (A := X.A.in1) (V.ok.hd hc) it a ia.symm us.toArray
    refine wpAny_pyNext_enum_itemD D he ⟨hit, p⟩ inside ne apart fun y g tk py gh ⟨gt, _⟩ gT _ rest => ?_
    rw [List.getElem?_toArray] at py
    obtain rfl : u = y := Option.some.inj (hu.symm.trans py)
    refine ⟨_, rfl, wpAny_letOwnedTupleGo_enum (s := { s with heap := g, toks := tk + 1 }) gh fun g' gh' ⟨_, but⟩ => ?_⟩
    -- the pair stands last; all but the two iterators stands as it stood
    have low : ∀ b ∈ [e, it], b < s.heap.objs.size := fun b m => (List.mem_cons.mp m).elim (fun q => q ▸ Heap.lt_size he) fun m => List.mem_singleton.mp m ▸ Heap.lt_size at_
    have pair : g'.get? s.heap.objs.size = some { cls := .type "tuple", data := .seq #[.int i tk, u] } := (but _ (Nat.ne_of_gt (low e (.head _)))).trans gT
    have V' : Inv X pins σ (upd H s.heap.objs.size (.tup [.int (i : Nat), x])) { s with heap := g', toks := tk + 1 } :=
      V.turnedNew (ch := [e, it]) (fun b o no old => (but b fun q => no (q ▸ .head _)).trans (rest b o (fun q => no (q ▸ .head _)) (fun q => no (q ▸ .tail _ (.head _))) old)) hf (Nat.le_refl _)
        ⟨(by decide : 2 ≤ sizeLine), _, .cons ⟨tk, rfl⟩ (.cons ru .nil), _, pair, rfl, _, rfl⟩
    refine ⟨.ref s.heap.objs.size, _, V', rfl, ⟨_, x, rfl, V.hok.fresh (Nat.le_refl _), rfl, fun ys hy => V.tuple_inj hy hq ▸ hx⟩, ⟨⟨u, ?_⟩, gt.at fun o old => (but it ne.symm).trans old, ne⟩, fun b m => (upd_ne (Nat.ne_of_lt (low b m))).trans (hf b m).1⟩
    exact (Int.natCast_succ i).symm ▸ gh'
  done := fun X hP hw hK hc i pins s σ H E V hf ⟨⟨old, he⟩, hit, ne⟩ ⟨xs, hq, past⟩ => by
    subst hP hw hK past
    have ⟨us, rv, p, _⟩ := V.tuple hq
    have hit2 := hit
    have ⟨oi, at_, cls, _⟩ := hit2
    have ia : it ≠ a := not_tup p at_ (by rw [cls]; decide)
    have D := Draws.tuple (prog := X.prog) (w := X.w) (A := X.A.in1) (V.ok.hd hc) it a ia.symm us.toArray
    rw [List.size_toArray, ← rv.length] at D
    have ⟨x0, b, _, c, d, f⟩ := hf it (.tail _ (.head _))
    refine wpAny_pyNext_enum_endD D he ⟨hit, p⟩ fun g but => ⟨rfl, ?_⟩
    exact V.turned (t' := s.toks) (fun z o n old => but z o n old) x0 b c d f
  self := fun _ _ _ _ _ ⟨⟨_, he⟩, _⟩ q => wpAny_pyIter_enum he q
def iEnumT (K : PySem.W.Frag) (ta : TA) : TI := fun σ H R => ta σ H fun vs H1 => ∃ a xs, vs = [.ref a] ∧ SqT K H1 a xs ∧ R (ItET K a) H1
theorem pi_enumT {X : Cx} {e : Expr} {ta : TA} {p pos tpos : Pos} {elts : List Expr} {kk : Nat} (hg : Gl X "enumerate") (hm : X.mg "enumerate" = none) (ha : PA X [e] ta) (hs : starEach [e] X.env = [(false, eval e X.env)] := by rfl) :
    PI X (.Tuple elts kk tpos) (.Call (.Name "enumerate" p) [e] [] pos) (iEnumT X.K ta) := by
  refine ⟨fun pins s σ H R I h => ?_⟩
  refine PyProof.Rows.Call_ (ld_blt I hg hm PyProof.Rows.boot_enumerate (PyProof.Rows.callWith_type1 (thn (ha.run pos pins s σ H _ I h) fun us s1 q0 => ?_) hs rfl))
  obtain ⟨vs, H1, I1, r1, a, xs, ex, hq, q⟩ := q0
  subst ex
  cases r1 with
  | cons r rr =>
    cases rr
    cases r
    obtain ⟨its, rv, p', hz⟩ := I1.tuple hq
    refine call_enum1 (begins_tuple a its.toArray) p' fun h1 he hit hsz hk => wpAny_pyIter_enum he ?_
    have I2 : Inv X pins σ H1 { s1 with heap := h1 } := I1.kept (t' := s1.toks) hk
    refine ⟨s1.heap.objs.size + 1, [s1.heap.objs.size + 1, s1.heap.objs.size], _, _, H1, rfl, I2, turn_enumT a (s1.heap.objs.size + 1) s1.heap.objs.size, ⟨⟨.none, he⟩, ⟨_, hit, rfl, rfl⟩, Nat.succ_ne_self _⟩, fun b hb => ?_, q⟩
    have hle : s1.heap.objs.size ≤ b := by
      rcases (by simpa using hb : b = s1.heap.objs.size + 1 ∨ b = s1.heap.objs.size) with z | z
      · subst z; exact Nat.le_add_right _ _
      · subst z; exact Nat.le_refl _
    exact I1.fpOk hle (I1.hok.fresh hle)
theorem walk_enumT {K : PySem.W.Frag} {a : Addr} {xs : List V} : Walk (ItET K a) xs.length (fun H => SqT K H a xs) (YPair (fun i => some (.int (i : Nat))) (fun i => xs[i]?)) where
  goes := fun i H hi g => ⟨xs, xs[i], g, List.getElem?_eq_getElem _⟩
  stops := fun H g => ⟨xs, g, rfl⟩
  yields := fun i H x H' hi g h => by
    obtain ⟨T, x, rfl, hT, rfl, h1⟩ := h
    exact ⟨T, _, x, rfl, hT, rfl, rfl, h1 _ g⟩
variable [HasK]
section
variable {c : Cc} {e : Expr} {pos : Pos} {tr : TA} {dr : DA}
/-- the items with their places -/
def enumD (xs : List D) : List D := xs.mapIdx fun i x => softD [.int (i : Int), x]
def dEnum (dr : DA) : DI := fun δ => (dr δ).bind fun xs => match xs with
  | [.tuple x] => .ok (enumD x)
  | _ => .stuck
theorem enumD_len (xs : List D) : (enumD xs).length = xs.length := by unfold enumD; rw [List.length_mapIdx]
theorem ri_enumT {K : PySem.W.Frag} {F H : Hp} {a : Addr} {xs : List V} {ds : List D} (h : Gt F a xs) (r : RpAll F xs ds) : RI F H (ItET K a) (enumD ds) := by
  refine ⟨_, _, by rw [enumD_len, ← r.len]; exact walk_enumT, fun F2 H2 e1 e2 => sqT ((h.mono e1).mono e2), fun i F2 H2 x H3 hi e1 e2 hy => ?_⟩
  obtain ⟨T, x, y, rfl, hT, rfl, h1, h2⟩ := hy
  cases h1
  obtain ⟨d, hd, hr⟩ := r.getV h2
  obtain ⟨s1, s2⟩ := pair_step (d := .int (i : Int)) e2 hT (.int _) (hr.mono e1)
  exact ⟨_, _, by unfold enumD; rw [List.getElem?_mapIdx, hd]; rfl, s1, s2⟩
theorem ji_enum {p tpos : Pos} {elts : List Expr} {kk : Nat} (hg : Gl c.X "enumerate") (hm : c.X.mg "enumerate" = none) (ha : JA c [e] tr dr) (hs : starEach [e] c.X.env = [(false, eval e c.X.env)] := by rfl) :
    JI c (.Tuple elts kk tpos) (.Call (.Name "enumerate" p) [e] [] pos) (iEnumT HasK.K tr) (dEnum dr) := by
  rw [← c.hK]
  exact ⟨pi_enumT hg hm ha.p hs, fun F H σ δ Q S P => ha.s.go S P fun F1 H1 xs zs s1 S1 hx P1 => by
    split at P1
    · cases hx with
      | cons h1 hn =>
        cases hn
        cases h1 with
        | tup x1 r1 => exact ⟨_, _, rfl, sqT (x1.mono S1.fh), P1 _ F1 H1 (.refl S1.fh) (ri_enumT x1 r1)⟩
    · exact P1.elim⟩
end
end RD

end
section
namespace RD
open PySem L2
/-! ### x *= e -/
def ipC (C : Int → Int → Prop) (f : Int → Int → Int) : TIp := fun x y H Q => ∃ i j, x = .int i ∧ y = .int j ∧ C i j ∧ Q (.int (f i j)) H
theorem ip_mul {X : Cx} : PIp X .Mult (ipC CMul fun i j => i * j) := fun pins s σ H x y v u Q I r1 r2 h => by
  obtain ⟨i, j, rfl, rfl, hc, q⟩ := h
  obtain ⟨t, rfl⟩ := r1
  obtain ⟨t2, rfl⟩ := r2
  exact P.imul_int ⟨.int _, H, I.tok _, ⟨_, rfl⟩, q⟩ hc.ok
variable [HasK]
section
variable {c : Cc} {e a b : Expr} {es : List Expr} {pos : Pos} {tr : TA} {dr : DA} {ta tb : TE} {da db : DE}
def dAugM (i : Nat) (da : DE) : DS := fun δ => match δ[i]? with
  | some (.val (.int k)) => (da δ).out δ fun y => match y with
    | .int m => if CMul k m then .next (δ.set i (.val (.int (k * m)))) else .stuck
    | _ => .stuck
  | _ => .stuck
theorem js_augM {i : Nat} {x : Str} {pos' : Pos} (hN : c.X.N.Nodup) (he : JE c e ta da) (hi : c.X.N[i]? = some x := by rfl) (hx : Loc c.X.env.scope x := by first | exact Or.inl rfl | exact Or.inr rfl)
    (hf : c.X.fn x = true ∨ c.X.env.scope.names.lookup x = some .local := by first | exact .inl rfl | exact .inr rfl) :
    JS c (.AugAssign (.Name x pos') .Mult e pos) (tAug i ta (ipC CMul fun i j => i * j)) (dAugM i da) :=
  ⟨ps_aug hN hi hx he.p ip_mul hf, fun F H σ δ D S P => by
    unfold dAugM at P
    split at P
    · rename_i k q
      obtain ⟨v, h1, h2⟩ := S.val i _ q
      cases h2
      refine ⟨_, h1, he.s.gos S P fun F1 H1 y z s1 S1 hy P1 => ?_⟩
      cases z with
      | int m =>
        cases hy
        by_cases hm : CMul k m
        · have P2 : PostS c F1 D (.next (δ.set i (.val (.int (k * m))))) := by
            have := P1
            simp only [hm, if_true] at this
            exact this
          exact ⟨k, m, rfl, rfl, hm, P2 _ F1 H1 (.refl _) (S1.set (.int _) i)⟩
        · simp only [hm, if_false] at P1
          exact P1.elim
      | _ => exact P1.elim
    · exact P.elim⟩
/-! ### ints of a list -/
def intsD : List D → Option (List Int)
  | [] => some []
  | .int i :: xs => (intsD xs).map (i :: ·)
  | _ :: _ => none
theorem ints_of {F : Hp} : ∀ {vs : List V} {ds : List D} {ns : List Int}, RpAll F vs ds → intsD ds = some ns → vs = ns.map V.int
  | _, _, _, .nil, h => by cases h; rfl
  | _, _, ns, .cons (d := d) r rs, h => by
    cases d with
    | int i =>
      obtain ⟨m, hm, rfl⟩ := Option.map_eq_some_iff.mp h
      cases r
      rw [ints_of rs hm]
      rfl
    | _ => cases h
theorem intsD_len : ∀ {ds : List D} {ns : List Int}, intsD ds = some ns → ns.length = ds.length
  | [], _, h => by cases h; rfl
  | .int i :: ds, _, h => by
    obtain ⟨m, hm, rfl⟩ := Option.map_eq_some_iff.mp h
    simp [intsD_len hm]
  | .none :: _, _, h => by cases h
  | .bool _ :: _, _, h => by cases h
  | .str _ :: _, _, h => by cases h
  | .list _ :: _, _, h => by cases h
  | .tuple _ :: _, _, h => by cases h
  | .dict _ :: _, _, h => by cases h
def maxL : List Int → Int
  | [] => 0
  | a :: l => l.foldl max a
def minL : List Int → Int
  | [] => 0
  | a :: l => l.foldl min a
theorem foldl_max_le : ∀ (l : List Int) (a : Int), a ≤ l.foldl max a ∧ (∀ y ∈ l, y ≤ l.foldl max a) ∧ (l.foldl max a = a ∨ l.foldl max a ∈ l)
  | [], a => ⟨Int.le_refl _, (fun _ h => by cases h), .inl rfl⟩
  | b :: l, a => by
    obtain ⟨h1, h2, h3⟩ := foldl_max_le l (max a b)
    simp only [List.foldl_cons]
    refine ⟨by omega, fun y hy => ?_, ?_⟩
    · rcases List.mem_cons.mp hy with rfl | hy
      · omega
      · exact h2 y hy
    · rcases h3 with h3 | h3
      · by_cases h : a ≤ b
        · right; rw [h3, show max a b = b by omega]; exact List.mem_cons_self
        · left; rw [h3]; omega
      · exact .inr (List.mem_cons_of_mem _ h3)
theorem foldl_min_le : ∀ (l : List Int) (a : Int), l.foldl min a ≤ a ∧ (∀ y ∈ l, l.foldl min a ≤ y) ∧ (l.foldl min a = a ∨ l.foldl min a ∈ l)
  | [], a => ⟨Int.le_refl _, (fun _ h => by cases h), .inl rfl⟩
  | b :: l, a => by
    obtain ⟨h1, h2, h3⟩ := foldl_min_le l (min a b)
    simp only [List.foldl_cons]
    refine ⟨by omega, fun y hy => ?_, ?_⟩
    · rcases List.mem_cons.mp hy with rfl | hy
      · omega
      · exact h2 y hy
    · rcases h3 with h3 | h3
      · by_cases h : b ≤ a
        · right; rw [h3, show min a b = b by omega]; exact List.mem_cons_self
        · left; rw [h3]; omega
      · exact .inr (List.mem_cons_of_mem _ h3)
theorem maxL_is {l : List Int} {m : Int} (h : m ∈ l) (hm : ∀ y ∈ l, y ≤ m) : maxL l = m := by
  cases l with
  | nil => cases h
  | cons a l =>
    obtain ⟨h1, h2, h3⟩ := foldl_max_le l a
    show l.foldl max a = m
    have u1 : l.foldl max a ≤ m := by
      rcases h3 with h3 | h3
      · rw [h3]; exact hm a List.mem_cons_self
      · exact hm _ (List.mem_cons_of_mem _ h3)
    have u2 : m ≤ l.foldl max a := by
      rcases List.mem_cons.mp h with rfl | h
      · exact h1
      · exact h2 m h
    omega
theorem minL_is {l : List Int} {m : Int} (h : m ∈ l) (hm : ∀ y ∈ l, m ≤ y) : minL l = m := by
  cases l with
  | nil => cases h
  | cons a l =>
    obtain ⟨h1, h2, h3⟩ := foldl_min_le l a
    show l.foldl min a = m
    have u1 : m ≤ l.foldl min a := by
      rcases h3 with h3 | h3
      · rw [h3]; exact hm a List.mem_cons_self
      · exact hm _ (List.mem_cons_of_mem _ h3)
    have u2 : l.foldl min a ≤ m := by
      rcases List.mem_cons.mp h with rfl | h
      · exact h1
      · exact h2 m h
    omega
def aggD (f : List Int → Int) (ne : Bool) : List D → Option D
  | [.list xs] => (intsD xs).bind fun ns => if ne = true ∧ ns = [] then none else some (.int (f ns))
  | _ => none
theorem agg_of {f : List Int → Int} {ne : Bool} {F H : Hp} {vs : List V} {ds : List D} {z : D} (ex : Ex F H) (h : BwAll F H vs ds) (hz : aggD f ne ds = some z) : ∃ a ns, vs = [.ref a] ∧ SqL HasK.K H a (ns.map V.int) ∧ (ne = true → ns ≠ []) ∧ z = .int (f ns) := by
  unfold aggD at hz
  split at hz
  · cases h with
    | cons h hn =>
      cases hn
      obtain ⟨a, us, rfl, h1, h2⟩ := h.lst ex
      obtain ⟨ns, q1, q2⟩ := Option.bind_eq_some_iff.mp hz
      split at q2
      · cases q2
      · rename_i q3
        cases q2
        refine ⟨a, ns, rfl, ?_, fun e e2 => q3 ⟨e, e2⟩, rfl⟩
        rw [← ints_of h2 q1]
        exact sqL h1
  · cases hz
theorem je_max1 {p : Pos} (hg : Gl c.X "max") (hm : c.X.mg "max" = none) (hc : c.X.calm = true) (ha : JAB c [a] tr dr) (he : starEach [a] c.X.env = (false, eval a c.X.env) :: starEach [] c.X.env := by rfl) (hpl : (backTo pos (starEach [] c.X.env)).any (·.1) = false := by rfl) :
    JE c (.Call (.Name "max" p) [a] [] pos) (tCB (rMax HasK.K) tr) (dCB (aggD maxL true) dr) := by
  rw [← c.hK]
  exact je_callB (id := "max") (cr_max hc) (fun F H xs ds z Q ex h hz k => by
    obtain ⟨a, ns, rfl, h1, h2, rfl⟩ := agg_of ex h hz
    rw [c.hK]
    exact ⟨a, ns, rfl, h1, List.length_pos_iff.mpr (h2 rfl), fun m m1 m2 => by rw [← maxL_is m1 m2]; exact k _ F H (.refl ex) (.int _)⟩) hg hm (by decide +kernel) ha (by decide) (by decide) he hpl
theorem je_min1 {p : Pos} (hg : Gl c.X "min") (hm : c.X.mg "min" = none) (hc : c.X.calm = true) (ha : JAB c [a] tr dr) (he : starEach [a] c.X.env = (false, eval a c.X.env) :: starEach [] c.X.env := by rfl) (hpl : (backTo pos (starEach [] c.X.env)).any (·.1) = false := by rfl) :
    JE c (.Call (.Name "min" p) [a] [] pos) (tCB (rMin HasK.K) tr) (dCB (aggD minL true) dr) := by
  rw [← c.hK]
  exact je_callB (id := "min") (cr_min hc) (fun F H xs ds z Q ex h hz k => by
    obtain ⟨a, ns, rfl, h1, h2, rfl⟩ := agg_of ex h hz
    rw [c.hK]
    exact ⟨a, ns, rfl, h1, List.length_pos_iff.mpr (h2 rfl), fun m m1 m2 => by rw [← minL_is m1 m2]; exact k _ F H (.refl ex) (.int _)⟩) hg hm (by decide +kernel) ha (by decide) (by decide) he hpl
theorem je_sum1 {p : Pos} (hg : Gl c.X "sum") (hm : c.X.mg "sum" = none) (hc : c.X.calm = true) (ha : JAB c [a] tr dr) (he : starEach [a] c.X.env = (false, eval a c.X.env) :: starEach [] c.X.env := by rfl) (hpl : (backTo pos (starEach [] c.X.env)).any (·.1) = false := by rfl) :
    JE c (.Call (.Name "sum" p) [a] [] pos) (tCB (rSum HasK.K) tr) (dCB (aggD List.sum false) dr) := by
  rw [← c.hK]
  exact je_callB (id := "sum") (cr_sum hc) (fun F H xs ds z Q ex h hz k => by
    obtain ⟨a, ns, rfl, h1, _, rfl⟩ := agg_of ex h hz
    rw [c.hK]
    exact ⟨a, ns, rfl, h1, k _ F H (.refl ex) (.int _)⟩) hg hm (by decide +kernel) ha (by decide) (by decide) he hpl
end
end RD

end
section
namespace RD
open PySem L2
variable [HasK]
section
variable {c : Cc} {e a b f : Expr} {es : List Expr} {da db df : DE} {pos : Pos} {ta tb tf : TE} {tt tt' : TT} {st : Stmt} {rest : List Stmt} {t u : TS} {ds du : DS} {d : DT} {X : Cx} {tr : TA} {dr : DA}
/-! ### dict displays -/
theorem Step.over {F H F2 H2 : Hp} {p : Addr} {o o' : HO} (hp : H p = none) (e : Ex F H) (s : Step F (upd H p o) F2 H2) : F2 p = none ∧ Step F H F2 (upd H2 p o') := by
  have hF : F p = none := e.back hp
  have h2 : F2 p = none := by
    cases q : F2 p with
    | none => rfl
    | some z =>
      have := s.new p hF (by rw [q]; exact fun z => nomatch z)
      rw [upd_same] at this
      cases this
  refine ⟨h2, s.ff, s.fh.over h2, fun a x h => ?_, fun a h n => ?_⟩
  · rw [upd_ne (ne_of_none h hp)]
    exact s.hh a x (by rw [upd_ne (ne_of_none h hp)]; exact h)
  · have := s.new a h n
    by_cases q : a = p
    · rw [q]; exact hp
    · rw [upd_ne q] at this; exact this
def dDict0K : DE := fun _ => .ok (.dict [])
def dDict0T : DE := fun _ => .ok (.dict [(.none, .none)])
theorem jn_dict0K : JN c (.Dict [] [] pos) tDNewK dDict0K :=
  ⟨pe_dnewK, fun F H σ δ Q S P p hp => P p F _ (Step.side S.fh _ hp) hp (S.fh.back hp) (.inl ⟨[], upd_same, .nil⟩)⟩
theorem jn_dict0T : JN c (.Dict [] [] pos) (tDNewN HasK.P HasK.w) dDict0T := by
  refine ⟨by rw [← c.hP, ← c.hw]; exact pe_dnewN, fun F H σ δ Q S P p hp => P p F _ (Step.side S.fh _ hp) hp (S.fh.back hp) (.inr ⟨[], [], upd_same, .nil, rfl⟩)⟩
def dDict1K (da db : DE) : DE := fun δ => (da δ).bind fun k => (db δ).bind fun v => if (keyOf k).isSome then .ok (.dict [(k, v)]) else .stuck
def dDict1T (da db : DE) : DE := fun δ => (da δ).bind fun k => (db δ).bind fun v => if (keyT k).isSome then .ok (.dict [(.none, .none), (k, v)]) else .stuck
theorem jn_dict1K (ha : JE c a ta da) (hb : JE c b tb db) : JN c (.Dict [some a] [b] pos) (tDisp [(ta, tb)]) (dDict1K da db) := by
  refine ⟨pe_disp (pps_cons ha.p hb.p pps_nil) rfl rfl (fun z => nomatch z) (show 1 ≤ 15 by omega), fun F H σ δ Q S P p hp => ?_⟩
  have S0 := S.step (Step.side S.fh (.dK []) hp)
  have s0 := Step.side S.fh (.dK []) hp
  unfold dDict1K at P
  refine ha.s F _ σ δ _ S0 ?_
  cases qa : da δ with
  | stuck => rw [qa] at P; exact P
  | exc n q => rw [qa] at P; exact XPost.step s0 P
  | ok k =>
    rw [qa] at P
    intro x F1 H1 s1 hx
    refine hb.s F1 H1 σ δ _ (S0.step s1) ?_
    cases qb : db δ with
    | stuck => rw [show ((Res.ok k : Res D).bind fun k => (db δ).bind fun v => if (keyOf k).isSome then Res.ok (PyData.dict [(k, v)]) else .stuck) = ((db δ).bind fun v => if (keyOf k).isSome then Res.ok (PyData.dict [(k, v)]) else .stuck) from rfl, qb] at P; exact P
    | exc n q =>
      rw [show ((Res.ok k : Res D).bind fun k => (db δ).bind fun v => if (keyOf k).isSome then Res.ok (PyData.dict [(k, v)]) else .stuck) = ((db δ).bind fun v => if (keyOf k).isSome then Res.ok (PyData.dict [(k, v)]) else .stuck) from rfl, qb] at P
      exact XPost.step s1 (XPost.step s0 P)
    | ok v =>
      rw [show ((Res.ok k : Res D).bind fun k => (db δ).bind fun v => if (keyOf k).isSome then Res.ok (PyData.dict [(k, v)]) else .stuck) = ((db δ).bind fun v => if (keyOf k).isSome then Res.ok (PyData.dict [(k, v)]) else .stuck) from rfl, qb] at P
      have P' : PostN HasK.mg c.W F H σ Q (if (keyOf k).isSome then Res.ok (PyData.dict [(k, v)]) else .stuck) := P
      intro y F2 H2 s2 hy
      cases qk : keyOf k with
      | none => rw [qk] at P'; exact P'.elim
      | some kk =>
        rw [qk] at P'
        have := keyD_of qk
        subst this
        have st : Step F (upd H p (.dK [])) F2 H2 := s1.trans s2
        have h2p : H2 p = some (.dK []) := st.hh p _ upd_same
        have ex : x = kV kk := by
          cases kk with
          | inl i => cases hx; rfl
          | inr i => cases hx; rfl
        obtain ⟨z1, z2⟩ := Step.over (o' := .dK (mergeK [] [(kk, y)])) hp S.fh st
        exact ⟨h2p, [(kk, y)], by rw [ex]; rfl, by show 1 ≤ 15; omega, P' p F2 _ z2 hp z1 (.inl ⟨_, upd_same, .cons hy .nil⟩)⟩
theorem jn_dict1T (hu : c.X.A.units + 64 < cLine) (ha : JE c a ta da) (hb : JE c b tb db) : JN c (.Dict [some a] [b] pos) (tDisp1 HasK.P HasK.w ta tb) (dDict1T da db) := by
  refine ⟨by rw [← c.hP, ← c.hw]; exact pe_disp1 hu ha.p hb.p, fun F H σ δ Q S P p hp => ?_⟩
  have S0 := S.step (Step.side S.fh (dtO HasK.P HasK.w p []) hp)
  have s0 := Step.side S.fh (dtO HasK.P HasK.w p []) hp
  unfold dDict1T at P
  refine ha.s F _ σ δ _ S0 ?_
  cases qa : da δ with
  | stuck => rw [qa] at P; exact P
  | exc n q => rw [qa] at P; exact XPost.step s0 P
  | ok k =>
    rw [qa] at P
    intro x F1 H1 s1 hx
    refine hb.s F1 H1 σ δ _ (S0.step s1) ?_
    have P0 : PostN HasK.mg c.W F H σ Q ((db δ).bind fun v => if (keyT k).isSome then Res.ok (PyData.dict [(.none, .none), (k, v)]) else .stuck) := P
    cases qb : db δ with
    | stuck => rw [qb] at P0; exact P0
    | exc n q => rw [qb] at P0; exact XPost.step s1 (XPost.step s0 P0)
    | ok v =>
      rw [qb] at P0
      have P' : PostN HasK.mg c.W F H σ Q (if (keyT k).isSome then Res.ok (PyData.dict [(.none, .none), (k, v)]) else .stuck) := P0
      intro y F2 H2 s2 hy
      cases qk : keyT k with
      | none => rw [qk] at P'; exact P'.elim
      | some kk =>
        rw [qk] at P'
        obtain ⟨⟨ds, rfl⟩, h3, h4⟩ := keyT_of qk
        have st : Step F (upd H p (dtO HasK.P HasK.w p [])) F2 H2 := s1.trans s2
        have h2p : H2 p = some (dtO HasK.P HasK.w p []) := st.hh p _ upd_same
        have hx2 := hx.mono s2.ff
        cases hx2 with
        | tup g r =>
          have rk : Rp F2 (.ref _) (.tuple ds) := .tup g r
          obtain ⟨z1, z2⟩ := Step.over (o' := dtO HasK.P HasK.w p [(kk, _, y)]) hp S.fh st
          exact ⟨h2p, _, kk, rfl, rk.nkey s2.fh h3 h4, P' p F2 _ z2 hp z1 (.inr ⟨_, _, upd_same, .cons rk h3 h4 hy .nil, rfl⟩)⟩
/-! ### d.get(k, x) -/
def isDict : D → Bool
  | .dict ((.none, .none) :: _) => true
  | .dict es => isK es
  | _ => false
theorem Bw.isD {F H : Hp} {v : V} {d : D} (e : Ex F H) (h : Bw F H v d) (q : isDict d = true) : ∃ a, v = .ref a ∧ IsDA HasK.P HasK.w H a := by
  unfold isDict at q
  split at q
  · obtain ⟨a, xs, rfl, r, _⟩ := h.dictT e
    exact ⟨a, rfl, .inr ⟨xs, r.1⟩⟩
  · obtain ⟨a, kvs, rfl, r, _⟩ := h.dictK e q
    exact ⟨a, rfl, .inl ⟨kvs, r⟩⟩
  · cases q
def dGetD (dd dk dx : DE) : DE := fun δ => (dd δ).bind fun d => if isDict d = true then (dk δ).bind fun k => (dx δ).bind fun x => (Res.ofO (dgetD d k)).bind fun o => .ok (o.getD x) else .stuck
theorem je_getD {apos : Pos} (hu : c.X.A.units + 64 < cLine) (hd : JB c e ta da) (hk : JE c a tb db) (hx : JE c f tf df) (m : M2 c.X e "get" apos a f pos := by exact ⟨rfl, rfl, rfl, rfl⟩) :
    JE c (.Call (.Attribute e "get" apos) [a, f] [] pos) (tGetA HasK.P HasK.w ta tb tf) (dGetD da db df) := by
  refine ⟨by rw [← c.hP, ← c.hw]; exact pe_getA hu hd.p hk.p hx.p m, fun F H σ δ Q S P => hd.s.go S P fun F1 H1 x d s1 S1 hx' P1 => ?_⟩
  by_cases q : isDict d = true
  · rw [if_pos q] at P1
    obtain ⟨p, rfl, hp⟩ := hx'.isD S1.fh q
    refine ⟨p, rfl, hp, hk.s.go S1 P1 fun F2 H2 y k s2 S2 hy P2 => hx.s.go S2 P2 fun F3 H3 z w s3 S3 hz P3 => ?_⟩
    cases qo : dgetD d k with
    | none => rw [qo] at P3; exact P3.elim
    | some o =>
      rw [qo] at P3
      obtain ⟨a', r, e1, g, h⟩ := dget_of S3.fh ((hx'.mono s2.ff s2.hh).mono s3.ff s3.hh) ((hy.mono s3.ff).bw (H := H3)) qo
      cases e1
      refine ⟨r, g, ?_⟩
      rcases h with ⟨rfl, rfl⟩ | ⟨v, w', rfl, rfl, h3⟩
      · exact P3 _ F3 H3 (.refl S3.fh) hz
      · exact P3 _ F3 H3 (.refl S3.fh) h3
  · rw [if_neg q] at P1
    exact P1.elim
/-! ### what is not covered -/
theorem js_stuck {st : Stmt} : JS c st (fun _ _ _ => False) (fun _ => .stuck) := ⟨⟨fun pins s σ H D I h => h.elim⟩, fun F H σ δ D S P => P⟩
theorem jss_stuck {sts : List Stmt} : JSs c sts (fun _ _ _ => False) (fun _ => .stuck) := ⟨⟨fun pins s σ H D I h => h.elim⟩, fun F H σ δ D S P => P⟩
theorem je_stuck : JE c e (fun _ _ _ => False) (fun _ => .stuck) := ⟨⟨fun pins s σ H Q I h => h.elim⟩, fun F H σ δ Q S P => P⟩
end
end RD

end
section
namespace RD
open PySem PySem.Spec L2 PyProof.Rows
section
variable {prog : Program} {w : World} {A : Around} {E : Value → Shared → Prop} {s : Shared} {l : Addr} {its : List Value} {ns : List Int} {Q : Value → Shared → Prop}
theorem preSum_take (ns : List Int) : ∀ n, n ≤ ns.length → preSum (fun i => ns.getD i 0) n = (ns.take n).sum
  | 0, _ => by rw [List.take_zero]; rfl
  | n + 1, h => by
    rw [List.take_add_one, List.sum_append, ← preSum_take ns n (Nat.le_of_succ_le h), List.getElem?_eq_getElem h]
    show preSum _ n + ns.getD n 0 = _
    rw [List.getD_eq_getElem?_getD, List.getElem?_eq_getElem h]
    simp
/-- sum(t), t a tuple of ints: the walk that the library's sum asks, over the tuple's own iterator -/
theorem sum_tup (hh : A.handled = none) (hl : s.heap.IsTuple l its.toArray) (hi : IntsAre its ns)
    (h : ∀ h' tk t', (∀ b o, s.heap.get? b = some o → h'.get? b = some o) → Q (.int ns.sum t') { s with heap := h', toks := tk }) : wpAny (model prog w) A (call (.builtin "sum") [.ref l]) Q E s := by
  have ⟨_, at_, _⟩ := hl
  have low := Heap.lt_size at_
  have n : its.toArray.size = ns.length := Int.ofNat.inj hi.sizeZ
  have W := Walks.tuple (prog := prog) (w := w) (A := A.in1) hh s.heap.objs.size l (Nat.ne_of_lt low) its.toArray
  apply call_sum_walkG
  apply wpAny_pyIter_tuple hl
  refine ⟨_, _, _, _, _, _, fun i => ns.getD i 0, rfl, W, ⟨⟨_, Heap.get?_push_size _ rfl, rfl, rfl⟩, hl.at fun _ old => Heap.get?_push_of_some _ old⟩, fun b m => ?_, fun i v hv => hi.int_at i v (by simpa using hv), fun h' tk t' kept => ?_⟩
  · have top : b ≤ s.heap.objs.size := by
      rcases List.mem_cons.mp m with e | m
      · exact Nat.le_of_eq e
      · exact List.mem_singleton.mp m ▸ Nat.le_of_lt low
    exact Nat.lt_of_le_of_lt top (Heap.size_push .. ▸ Nat.lt_succ_self _)
  · rw [n, preSum_take ns _ (Nat.le_refl _), List.take_length]
    exact h h' tk t' fun b o old => kept b o (fun m => Nat.lt_irrefl _ (List.mem_singleton.mp m ▸ Heap.lt_size old)) (Heap.get?_push_of_some _ old)
end
section
variable {X : Cx}
def rSumT (K : PySem.W.Frag) : List V → Hp → VK → Prop := fun vs H Q => ∃ (a : Addr) (ns : List Int), vs = [V.ref a] ∧ SqT K H a (ns.map V.int) ∧ Q (.int ns.sum) H
theorem cr_sumT (hc : X.calm = true) : CallR X (.builtin "sum") (rSumT X.K) := by
  intro pins s σ H vs us Q I r h
  obtain ⟨a, ns, rfl, hs, q⟩ := h
  obtain ⟨its, rv, hl, _⟩ := I.tuple hs
  rw [Vals.ref1 r]
  exact sum_tup (I.ok.hd hc) (show s.heap.IsTuple a its.toArray from hl) rv.ints fun h' tk t' hk => ⟨.int _, H, I.kept hk, ⟨_, rfl⟩, q⟩
/-! ### t.count(x), l.count(x), flat items -/
def rCntT (K : PySem.W.Frag) : V → List V → Hp → VK → Prop := fun x xs H Q => ∃ (a : Addr) (ys : List V) (y : V), x = V.ref a ∧ xs = [y] ∧ SqT K H a ys ∧ flatV y = true ∧ ys.all flatV = true ∧ Q (.int ((ys.countP fun z => eqV z y : Nat) : Int)) H
def rCntL (K : PySem.W.Frag) : V → List V → Hp → VK → Prop := fun x xs H Q => ∃ (a : Addr) (ys : List V) (y : V), x = V.ref a ∧ xs = [y] ∧ SqL K H a ys ∧ flatV y = true ∧ ys.all flatV = true ∧ Q (.int ((ys.countP fun z => eqV z y : Nat) : Int)) H
theorem count_eqU {y : V} : ∀ {ys : List V} {us : List Value}, Vals ys us → ys.all flatV = true → us.countP (eqU y) = ys.countP fun z => eqV z y
  | _, _, .nil, _ => rfl
  | _, _, .cons r t, f => by
    rw [List.all_cons, Bool.and_eq_true] at f
    rw [List.countP_cons, List.countP_cons, count_eqU t f.2, eqU_of r f.1]
theorem mt_cntT : MtR X "tuple.count" (rCntT X.K) := by
  intro pins s σ H x xs v us Q I rx rxs h
  obtain ⟨a, ys, y, rfl, rfl, hs, fy, fys, q⟩ := h
  cases rx
  cases rxs with
  | cons ry rt =>
    rename_i uy ut
    cases rt
    obtain ⟨its, rv, ⟨⟨cls, dd, data, sl⟩, ho, hc, n, hd⟩, hlen⟩ := I.tuple hs
    simp only at hc hd
    subst hc hd
    refine call_meets PySem.F.slot_tuple_count ⟨_, ho, rfl⟩ PySem.F.entry_tuple_count (PySem.F.args_tuple_count_2 _ _)
      (SeqAt.tuple_countAt a its.toArray n dd sl uy (eqU y)) ⟨ho, fun u' hu' => mem_eqAt ry fy rv fys u' (by simpa using hu'), ?_⟩
    refine ⟨.int _, H, I.tok _, ⟨_, rfl⟩, ?_⟩
    show Q (.int ((its.toArray.toList.countP (eqU y) : Nat) : Int)) H
    rw [List.toList_toArray, count_eqU rv fys]
    exact q
theorem mt_cntL : MtR X "list.count" (rCntL X.K) := by
  intro pins s σ H x xs v us Q I rx rxs h
  obtain ⟨a, ys, y, rfl, rfl, hs, fy, fys, q⟩ := h
  cases rx
  cases rxs with
  | cons ry rt =>
    rename_i uy ut
    cases rt
    obtain ⟨its, rv, ⟨⟨cls, dd, data, sl⟩, n, ho, hc, hdn, hd⟩, hlen⟩ := I.list hs
    simp only at hc hd
    subst hc hd
    refine call_meets PySem.F.slot_list_count ⟨_, ho, rfl⟩ PySem.F.entry_list_count (PySem.F.args_list_count_2 _ _)
      (SeqAt.list_countAt a its.toArray n dd sl uy (eqU y)) ⟨ho, fun u' hu' => mem_eqAt ry fy rv fys u' (by simpa using hu'), ?_⟩
    refine ⟨.int _, H, I.tok _, ⟨_, rfl⟩, ?_⟩
    show Q (.int ((its.toArray.toList.countP (eqU y) : Nat) : Int)) H
    rw [List.toList_toArray, count_eqU rv fys]
    exact q
/-- the call of a method of a tuple -/
def tyGt (x : V) (H : Hp) : Prop := ∃ a xs, x = .ref a ∧ Gt H a xs
def tBMT (r : V → List V → Hp → VK → Prop) (to : TE) (t : TA) : TE := fun σ H Q => to σ H fun x H1 => tyGt x H1 ∧ t σ H1 fun xs H2 => r x xs H2 Q
variable {o e : Expr} {es : List Expr} {to : TE} {t : TA} {name : Str} {apos cpos : Pos} {id : String} {r : V → List V → Hp → VK → Prop}
theorem pe_bmT (slot : Slot "tuple" name id) (hty : typeOf (.builtin id) = pure (.type "method_descriptor")) (hm : MtR X id r) (ho : PE X o to) (ha : PA X (e :: es) t)
    (hbase : attributeBase o name X.env (eval o X.env) = eval o X.env := by rfl)
    (hfew : ((backTo cpos (starEach (e :: es) X.env)).all (fun x => !x.1) && (backToKw cpos (keywordEach [] X.env)).all (fun x => x.1.isSome)
      && decide ((e :: es).length + ([] : List Keyword).length + (if ([] : List Keyword).isEmpty then 0 else 1) < 30)) = true := by rfl)
    (hline : (apos.endLine == cpos.line) = true := by rfl) (hs : starEach (e :: es) X.env = (false, eval e X.env) :: starEach es X.env := by rfl) (hplain : (backTo cpos (starEach es X.env)).any (·.1) = false := by rfl) :
    PE X (.Call (.Attribute o name apos) (e :: es) [] cpos) (tBMT r to t) := by
  refine ⟨fun pins s σ H Q I h => ?_⟩
  refine wpAny_Call_method_late hbase hfew hline rfl (thn (ho.run pins s σ H _ I h) fun v s1 ⟨x, H1, I1, r1, ty, q1⟩ => ?_)
  obtain ⟨a, xs, rfl, ob, g1, g2, g3⟩ := ty
  cases r1
  obtain ⟨g4, _⟩ := I1.hok a _ g1
  refine ⟨"tuple", id, PySem.F.plainAttrs_tuple, slot, hty, ⟨ob, g4, g2⟩, fun b e => by cases e; exact ⟨ob, g4, g3⟩, ?_⟩
  have hA := ha.run cpos pins s1 σ H1 _ I1 q1
  rw [hs] at hA ⊢
  refine Calls.callWith_builtin (by show (false || (backTo cpos (starEach es X.env)).any (·.1)) = false; rw [hplain] <;> rfl) (Calls.evalArgs_plain ?_)
  exact thn hA fun us s2 ⟨vs, H2, I2, r2, q2⟩ => hm pins s2 σ H2 (.ref a) vs _ us Q I2 rfl r2 q2
/-! ### x[::-1] -/
def tRevG (K : PySem.W.Frag) (te : TE) : TE := fun σ H Q => te σ H fun x H1 => ∃ a xs, x = .ref a ∧ ((SqL K H1 a xs ∧ ∀ p, H1 p = none → Q (.ref p) (upd H1 p (.lst xs.reverse))) ∨ (SqT K H1 a xs ∧ ∀ p o, PlainT o → H1 p = none → Q (.ref p) (upd H1 p (.frz o (.tup xs.reverse)))))
/-! ### list(d) -/
def rListDT (P : Program) (w : World) : List V → Hp → VK → Prop := fun vs H Q => ∃ a xs, vs = [.ref a] ∧ Rd H a (dtO P w a xs) ∧ ∀ l, H l = none → Q (.ref l) (upd H l (.lst (xs.map fun x => V.ref x.2.1)))
theorem call_list_dictT (hc : X.calm = true) : CallR X (.type "list") (rListDT X.prog X.w) := by
  intro pins s σ H vs us Q I r h
  obtain ⟨a, xs, rfl, hd, q⟩ := h
  rw [Vals.ref1 r]
  obtain ⟨⟨z, hs, ys, pr, o, es, ep, ho, hx, hdt, he, _⟩, _⟩ := rd_of I.hok hd
  have l1 : es.size = ys.length := size_of_entries he
  have l2 : xs.length = ys.length := Paired.length pr
  refine PySem.W.kdl_call (KdlSrc.rawDict (es := es) (ep := ep) hs) (I.ok.hd hc) ⟨o, ho, hx, hdt⟩ (by omega) fun h' tk acc c' kp e it => ?_
  refine ⟨.ref s.heap.objs.size, _, I.laid (t' := tk) (o := .lst (xs.map fun x => V.ref x.2.1)) kp (Nat.le_refl _) ⟨by rw [List.length_map]; exact z, acc.toList, c', ?_, by rw [Array.toArray_toList]; exact e⟩, rfl, q _ (I.hok.fresh (Nat.le_refl _))⟩
  have el : acc.toList.length = xs.length := by rw [Array.length_toList, it.1]; omega
  have key : ∀ (i : Nat) (u : Value), acc.toList[i]? = some u → RelV ((xs.map fun x => V.ref x.2.1)[i]?.getD .non) u := by
    intro i u hu
    obtain ⟨hi, rfl⟩ := it.2 i u (by rw [← hu, Array.getElem?_toList])
    have hix : i < xs.length := by omega
    obtain ⟨b, hb, e1, e2, _⟩ := paired_get pr (List.getElem?_eq_getElem hix)
    have q := entry_at he i
    rw [hb] at q
    rw [List.getElem?_map, List.getElem?_eq_getElem hix]
    rw [Array.getElem?_eq_getElem hi] at q
    have q2 := Option.some.inj q
    rw [q2]
    show Value.ref b.2.1 = Value.ref _
    rw [← e2]
  have v := vals_of_get acc.toList (fun i => (xs.map fun x => V.ref x.2.1)[i]?.getD .non) key
  have e3 : (List.range acc.toList.length).map (fun i => (xs.map fun x => V.ref x.2.1)[i]?.getD .non) = xs.map fun x => V.ref x.2.1 := by
    rw [el]
    apply List.ext_getElem
    · simp
    · intro i h1 h2
      simp at h1 h2
      simp [h1]
  rw [e3] at v
  exact v
end
end RD

end
section
namespace RD
open PySem PySem.Spec L2 PyProof.Rows HT
section
variable {prog : Program} {w : World} {A : Around} {E : Value → Shared → Prop} {s : Shared}
theorem places_rev (n : Nat) : Builtin.Slice.slicePlaces ((n : Int) - 1) (-1) (-1) = n := by
  delta Builtin.Slice.slicePlaces
  simp only [show ¬ ((-1 : Int) > 0) from by decide, if_false, show (- -1 : Int) = 1 from rfl, Int.ediv_one]
  split <;> omega
theorem fm_congr {α β : Type} {f g : α → Option β} : ∀ (l : List α), (∀ m ∈ l, f m = g m) → l.filterMap f = l.filterMap g
  | [], _ => rfl
  | a :: l, h => by
    rw [List.filterMap_cons, List.filterMap_cons, h a List.mem_cons_self, fm_congr l fun m hm => h m (List.mem_cons_of_mem _ hm)]
theorem pick_rev (xs : Array Value) : ((List.range xs.size).filterMap fun (m : Nat) => xs[(((xs.size : Nat) : Int) - 1 + (m : Int) * (-1)).toNat]?).toArray = xs.toList.reverse.toArray := by
  have e := PySem.W.krv_pick xs
  unfold slicePick at e
  rw [PySem.W.krv_bounds] at e
  have e1 : ((sliceRange ((xs.size : Int) - 1) (-1) (-1)).filterMap (xs[·]?)).toArray = xs.toList.reverse.toArray := e
  rw [PySem.W.krv_sliceRange, List.filterMap_map] at e1
  rw [← e1]
  congr 1
  apply fm_congr
  intro m hm
  have := List.mem_range.mp hm
  have e2 : (((xs.size : Nat) : Int) - 1 + (m : Int) * (-1)).toNat = xs.size - 1 - m := by omega
  rw [e2]
  rfl
/-- t[::-1] -/
theorem getItem_tuple_rev {t sl : Addr} {items : Array Value} {vl vu vs : Value} {Q : Value → Shared → Prop} (ht : IsTup s.heap t items) (hs : s.heap.IsSliceOf sl vl vu vs) (pl : IsPart vl none) (pu : IsPart vu none) (ps : IsPart vs (some (-1)))
    (h : Q (.ref s.heap.objs.size) { s with heap := s.heap.push { cls := .type "tuple", data := .seq items.toList.reverse.toArray } })
    (hsz : items.size ≤ sizeLine) : wpAny (model prog w) A (getItem (.ref t) (.ref sl)) Q E s := by
  have tt := ht.typeIs
  have ⟨os, at_, cls, data⟩ := hs
  have ts : s.TypeIs (.ref sl) "slice" := ⟨os, at_, cls⟩
  have road : Slot "tuple" (Str.ofString "__getitem__") "tuple.__getitem__" := PyProof.Rows.slot_tuple_getitem
  have enter := fun (Q : Value → Shared → Prop) h => wpAny_call_entry (prog := prog) (w := w) (A := A) (E := E) (Q := Q) road tt entry_tuple_getitem h (args_tuple_getitem (.ref t) (.ref sl))
  have picked := (congrArg (fun n => ((List.range n).filterMap fun (m : Nat) => items[(((items.size : Nat) : Int) - 1 + (m : Int) * (-1)).toNat]?).toArray) (places_rev items.size)).trans (pick_rev items)
  have small : ¬ items.toList.reverse.toArray.size > sizeLine := by rw [List.size_toArray, List.length_reverse, Array.length_toList]; exact Nat.not_lt.mpr hsz
  delta getItem
  wp_walk using wpAny_sequenceKey tt (by decide), wpAny_callSpecial?_slot tt road, enter _, tupleItemsOf_ ht, wpAny_typeOf ts, slicePart_ pl, slicePart_ pu, slicePart_ ps, wpAny_field at_ data (x := vl) rfl, wpAny_field at_ data (x := vu) rfl, wpAny_field at_ data (x := vs) rfl
  erw [picked]
  rw [if_neg small]
  wp_walk
  exact ⟨_, rfl, wpAny_pure h⟩
end
section
variable {X : Cx}
/-- xs[::-1] of a list or a tuple -/
theorem pe_revG {e : Expr} {te : TE} {k : Nat} {p1 p2 p3 pos : Pos} (he : PE X e te) : PE X (.Subscript e (.Slice none none (some (.UnaryOp .USub (.Constant (.int 1) k p1) p2)) p3) pos) (tRevG X.K te) where
  run := fun pins s σ H Q I h => by
    have low : ∀ {xs : List V}, xs.length ≤ sizeLine → xs.reverse.length ≤ sizeLine := fun z => by rw [List.length_reverse]; exact z
    have minus : PO X (some (.UnaryOp .USub (.Constant (.int 1) k p1) p2)) _ := po_some (pe_un un_neg pe_int)
    refine Subscript_ (thn (he.run pins s σ H _ I h) fun v s1 ⟨_, H1, I1, rv, a, xs, ex, two⟩ => ?_)
    subst ex
    obtain rfl : v = Value.ref a := rv
    refine wpAny_Slice (thn (po_none.run pins s1 σ H1 (fun o H => o = none ∧ H = H1) I1 ⟨rfl, rfl⟩) fun vl s2 ⟨_, _, I2, pl, el, e2⟩ => ?_)
    subst el e2
    refine thn (po_none.run pins s2 σ _ (fun o H => o = none ∧ H = _) I2 ⟨rfl, rfl⟩) fun vu s3 ⟨_, _, I3, pu, eu, e3⟩ => ?_
    subst eu e3
    refine thn (minus.run pins s3 σ _ (fun o H => o = some (-1) ∧ H = _) I3 ⟨1, rfl, -1, rfl, rfl, rfl⟩) fun vs s4 ⟨_, H4, I4, ps, es, e4⟩ => ?_
    subst es e4
    have now := I4.kept (t' := s4.toks) fun b ob old => Heap.get?_push_of_some { cls := .type "slice", data := .fields #[vl, vu, vs] } old
    have here := Heap.IsSliceOf.new s4.heap vl vu vs
    rcases two with ⟨is, q⟩ | ⟨is, q⟩
    · have ⟨us, r, p, hz⟩ := now.list is
      have fit : us.toArray.size ≤ sizeLine := by rw [List.size_toArray, ← r.length]; exact hz
      have get := wpAny_getItem_list_slice (prog := X.prog) (w := X.w) (A := X.A) (E := X.xe) (Q := EP X pins σ Q) p.isList here pl pu ps (by decide) (PySem.W.krv_pick us.toArray ▸ made_list now (low hz) r.reverse q) fit
      exact tail_any (ops := [.ref a, .ref s4.heap.objs.size]) p.isList.typeIs PySem.slot_list_getitem.lookup get (by with_unfolding_all rfl)
    · have ⟨us, r, p, hz⟩ := now.tuple is
      have fit : us.toArray.size ≤ sizeLine := by rw [List.size_toArray, ← r.length]; exact hz
      have get := getItem_tuple_rev (prog := X.prog) (w := X.w) (A := X.A) (E := X.xe) p here pl pu ps (made_tup now (low hz) r.reverse q) fit
      exact tail_any (ops := [.ref a, .ref s4.heap.objs.size]) p.typeIs PyProof.Rows.slot_tuple_getitem.lookup get (by with_unfolding_all rfl)
end
end RD

end
section
namespace RD
open PySem L2
variable [HasK]
section
variable {c : Cc} {e a b f : Expr} {es : List Expr} {da db df : DE} {pos : Pos} {ta tb tf : TE} {tr : TA} {dr : DA} {X : Cx}
/-! ### x[::-1] -/
def revD : D → Option D
  | .list xs => some (.list xs.reverse)
  | .tuple xs => some (.tuple xs.reverse)
  | _ => none
theorem RpAll.rev {F : Hp} : ∀ {vs : List V} {ds : List D}, RpAll F vs ds → RpAll F vs.reverse ds.reverse
  | _, _, .nil => .nil
  | _, _, .cons h r => by rw [List.reverse_cons, List.reverse_cons]; exact r.rev.app (.cons h .nil)
theorem je_rev {k : Nat} {p1 p2 p3 : Pos} (ha : JB c e ta da) : JE c (.Subscript e (.Slice none none (some (.UnaryOp .USub (.Constant (.int 1) k p1) p2)) p3) pos) (tRevG HasK.K ta) (dUn revD da) := by
  refine ⟨by rw [← c.hK]; exact pe_revG ha.p, fun F H σ δ Q S P => ha.s.go S P fun F1 H1 x d s1 S1 hx P1 => Sim.last P1 fun z hz k => ?_⟩
  unfold revD at hz
  split at hz
  · cases hz
    obtain ⟨p, us, rfl, h1, h2⟩ := hx.lst S1.fh
    exact ⟨p, us, rfl, .inl ⟨sqL h1, new_lst S1.fh h2.rev k⟩⟩
  · cases hz
    obtain ⟨p, us, rfl, h1, h2⟩ := hx.tup S1.fh
    exact ⟨p, us, rfl, .inr ⟨sqT h1, new_tup S1.fh h2.rev k⟩⟩
  · cases hz
/-! ### sum of a list or a tuple -/
def sumD : List D → Option D
  | [.list xs] => (intsD xs).map fun ns => .int ns.sum
  | [.tuple xs] => (intsD xs).map fun ns => .int ns.sum
  | _ => none
def rSumA (K : PySem.W.Frag) : List V → Hp → VK → Prop := fun vs H Q => rSum K vs H Q ∨ rSumT K vs H Q
theorem je_sum {p : Pos} (hg : Gl c.X "sum") (hm : c.X.mg "sum" = none) (hc : c.X.calm = true) (ha : JAB c [a] tr dr) (he : starEach [a] c.X.env = (false, eval a c.X.env) :: starEach [] c.X.env := by rfl) (hpl : (backTo pos (starEach [] c.X.env)).any (·.1) = false := by rfl) :
    JE c (.Call (.Name "sum" p) [a] [] pos) (tCB (rSumA HasK.K) tr) (dCB sumD dr) := by
  rw [← c.hK]
  exact je_callB (id := "sum") (CallR.or (cr_sum hc) (cr_sumT hc)) (fun F H xs ds z Q ex h hz k => by
    unfold sumD at hz
    split at hz
    · obtain ⟨ns, h1, rfl⟩ := Option.map_eq_some_iff.mp hz
      cases h with
      | cons h hn =>
        cases hn
        obtain ⟨p, us, rfl, h3, h4⟩ := h.lst ex
        exact .inl ⟨p, ns, rfl, by rw [← ints_of h4 h1]; exact sqL h3, k _ F H (.refl ex) (.int _)⟩
    · obtain ⟨ns, h1, rfl⟩ := Option.map_eq_some_iff.mp hz
      cases h with
      | cons h hn =>
        cases hn
        obtain ⟨p, us, rfl, h3, h4⟩ := h.tup ex
        exact .inr ⟨p, ns, rfl, by rw [← ints_of h4 h1]; exact sqT h3, k _ F H (.refl ex) (.int _)⟩
    · cases hz) hg hm (by decide +kernel) ha (by decide) (by decide) he hpl
/-! ### abs -/
def absD : List D → Option D
  | [.int i] => some (.int (if i < 0 then -i else i))
  | _ => none
theorem je_abs {p : Pos} (hg : Gl c.X "abs") (hm : c.X.mg "abs" = none) (ha : JAB c [a] tr dr) (he : starEach [a] c.X.env = (false, eval a c.X.env) :: starEach [] c.X.env := by rfl) (hpl : (backTo pos (starEach [] c.X.env)).any (·.1) = false := by rfl) :
    JE c (.Call (.Name "abs" p) [a] [] pos) (tCB (fun xs H Q => ∃ i, xs = [.int i] ∧ Q (.int (if i < 0 then -i else i)) H) tr) (dCB absD dr) :=
  je_callB (id := "abs") call_abs (fun F H xs ds z Q ex h hz k => by
    unfold absD at hz
    split at hz
    · cases hz
      cases h with
      | cons h hn =>
        cases hn
        have := h.int
        subst this
        exact ⟨_, rfl, k _ F H (.refl ex) (.int _)⟩
    · cases hz) hg hm (by decide +kernel) ha (by decide) (by decide) he hpl
/-! ### list(d) -/
def listDT : List D → Option D
  | [.dict ((.none, .none) :: es)] => some (.list (es.map (·.1)))
  | _ => none
def listA : List D → Option D := fun ds => match listDT ds with
  | some z => some z
  | none => listD ds
theorem keys_rp {F : Hp} : ∀ {xs : XT} {es : List (D × D)}, RpT F xs es → RpAll F (xs.map fun x => V.ref x.2.1) (es.map (·.1))
  | _, _, .nil => .nil
  | _, _, .cons g q dp h r => .cons g (keys_rp r)
def rListAll (P : Program) (w : World) (K : PySem.W.Frag) : List V → Hp → VK → Prop := fun xs H Q => rListA K xs H Q ∨ rListDT P w xs H Q
theorem listDT_of {F H : Hp} {vs : List V} {ds : List D} {z : D} (ex : Ex F H) (h : BwAll F H vs ds) (hz : listDT ds = some z) : ∃ a xs es, vs = [.ref a] ∧ Rd H a (dtO HasK.P HasK.w a xs) ∧ RpT F xs es ∧ z = .list (es.map (·.1)) := by
  unfold listDT at hz
  split at hz
  · cases hz
    cases h with
    | cons h hn =>
      cases hn
      obtain ⟨a, xs, rfl, h1, h2⟩ := h.dictT ex
      exact ⟨a, xs, _, rfl, h1.1, h2, rfl⟩
  · cases hz
theorem je_listA {p : Pos} (hg : Gl c.X "list") (hm : c.X.mg "list" = none) (hc : c.X.calm = true) (ha : JAB c [e] tr dr) (he : starEach [e] c.X.env = (false, eval e c.X.env) :: starEach [] c.X.env := by rfl) (hpl : (backTo pos (starEach [] c.X.env)).any (·.1) = false := by rfl) :
    JE c (.Call (.Name "list" p) [e] [] pos) (tCB (rListAll HasK.P HasK.w HasK.K) tr) (dCB listA dr) := by
  rw [← c.hK, ← c.hP, ← c.hw]
  refine je_callTy (T := "list") (CallR.or call_list_of (call_list_dictT hc)) (fun F H xs ds z Q ex h hz k => ?_) hg hm (by decide +kernel) ha (by decide) (by decide) he hpl
  rw [c.hP, c.hw]
  unfold listA at hz
  split at hz
  · rename_i z' hz'
    cases hz
    obtain ⟨a, xs, es, rfl, h1, h2, rfl⟩ := listDT_of ex h hz'
    exact .inr ⟨a, xs, rfl, h1, new_lst ex (keys_rp h2) k⟩
  · obtain ⟨p, ys, es, rfl, h1, h2, rfl⟩ := listD_of c.hK ex h hz
    exact .inl ⟨p, ys, rfl, h1, new_lst ex h2 k⟩
theorem jn_listA {p : Pos} (hg : Gl c.X "list") (hm : c.X.mg "list" = none) (hc : c.X.calm = true) (ha : JAB c [e] tr dr) (he : starEach [e] c.X.env = (false, eval e c.X.env) :: starEach [] c.X.env := by rfl) (hpl : (backTo pos (starEach [] c.X.env)).any (·.1) = false := by rfl) :
    JN c (.Call (.Name "list" p) [e] [] pos) (tCB (rListAll HasK.P HasK.w HasK.K) tr) (dCB listA dr) := by
  rw [← c.hK, ← c.hP, ← c.hw]
  refine ⟨pe_callTy (T := "list") (CallR.or call_list_of (call_list_dictT hc)) hg hm (by decide +kernel) ha.p (by decide) (by decide) he hpl, fun F H σ δ Q S P => ha.s.gon S P fun F1 H1 x ds s1 S1 hx P1 => PostN.last P1 fun z hz k => ?_⟩
  rw [c.hP, c.hw]
  unfold listA at hz
  split at hz
  · rename_i z' hz'
    cases hz
    obtain ⟨a, xs, es, rfl, h1, h2, rfl⟩ := listDT_of S1.fh hx hz'
    exact .inr ⟨a, xs, rfl, h1, own_new S1.fh (keys_rp h2) k⟩
  · obtain ⟨p, ys, es, rfl, h1, h2, rfl⟩ := listD_of c.hK S1.fh hx hz
    exact .inl ⟨p, ys, rfl, h1, own_new S1.fh h2 k⟩
/-! ### methods of lists and tuples -/
def cntD (ys : List D) (x : D) : Option D := if flatD x = true ∧ ys.all flatD = true then some (.int ((ys.countP fun z => PyData.eqv z x : Nat) : Int)) else none
theorem cnt_eq {F : Hp} {x : V} {d : D} (hx : Rp F x d) (fx : flatD d = true) : ∀ {vs : List V} {ds : List D}, RpAll F vs ds → ds.all flatD = true → (vs.countP fun z => eqV z x) = ds.countP fun z => PyData.eqv z d
  | _, _, .nil, _ => rfl
  | _, _, .cons h r, f => by
    simp only [List.all_cons, Bool.and_eq_true] at f
    rw [List.countP_cons, List.countP_cons, cnt_eq hx fx r f.2, flat_eq h hx f.1 fx]
def dCntT (da db : DE) : DE := fun δ => (da δ).bind fun t => match t with
  | .tuple ys => (db δ).bind fun x => Res.ofO (cntD ys x)
  | _ => .stuck
theorem je_cntT {apos : Pos} (ha : JB c e ta da) (hb : JE c a tb db) (hbase : attributeBase e "count" c.X.env (eval e c.X.env) = eval e c.X.env := by rfl)
    (hfew : ((backTo pos (starEach [a] c.X.env)).all (fun x => !x.1) && (backToKw pos (keywordEach [] c.X.env)).all (fun x => x.1.isSome) && decide ([a].length + ([] : List Keyword).length + (if ([] : List Keyword).isEmpty then 0 else 1) < 30)) = true := by rfl)
    (hline : (apos.endLine == pos.line) = true := by rfl) (hst : starEach [a] c.X.env = (false, eval a c.X.env) :: starEach [] c.X.env := by rfl) (hpl : (backTo pos (starEach [] c.X.env)).any (·.1) = false := by rfl) :
    JE c (.Call (.Attribute e "count" apos) [a] [] pos) (tBMT (rCntT HasK.K) ta (tCons tb tNil)) (dCntT da db) := by
  refine ⟨by rw [← c.hK]; exact pe_bmT PySem.F.slot_tuple_count PySem.F.type_tuple_count mt_cntT ha.p (pa_cons hb.p pa_nil hst) hbase hfew hline hst hpl, fun F H σ δ Q S P => ha.s.go S P fun F1 H1 x d s1 S1 hx P1 => ?_⟩
  cases d with
  | tuple ys =>
    obtain ⟨p, us, rfl, h1, h2⟩ := hx.tup S1.fh
    refine ⟨⟨p, us, rfl, h1⟩, hb.s.go S1 P1 fun F2 H2 y z s2 S2 hy P2 => Sim.last P2 fun w hw k => ?_⟩
    obtain ⟨⟨f1, f2⟩, rfl⟩ := if_some hw
    have h22 := h2.mono s2.ff
    refine ⟨p, us, y, rfl, rfl, sqT (h1.mono s2.hh), flat_v hy f1, flat_all h22 f2, ?_⟩
    rw [cnt_eq hy f1 h22 f2]
    exact k _ F2 H2 (.refl S2.fh) (.int _)
  | _ => exact P1.elim
def dCntL (da db : DE) : DE := fun δ => (da δ).bind fun t => match t with
  | .list ys => (db δ).bind fun x => Res.ofO (cntD ys x)
  | _ => .stuck
theorem Bw.lst2 {F H F2 H2 : Hp} {p : Addr} {us : List V} (h : H p = some (.lst us)) (e : Ex H H2) : H2 p = some (.lst us) := e _ _ h
theorem je_cntL {apos : Pos} (ha : JB c e ta da) (hb : JE c a tb db) (hbase : attributeBase e "count" c.X.env (eval e c.X.env) = eval e c.X.env := by rfl)
    (hfew : ((backTo pos (starEach [a] c.X.env)).all (fun x => !x.1) && (backToKw pos (keywordEach [] c.X.env)).all (fun x => x.1.isSome) && decide ([a].length + ([] : List Keyword).length + (if ([] : List Keyword).isEmpty then 0 else 1) < 30)) = true := by rfl)
    (hline : (apos.endLine == pos.line) = true := by rfl) (hst : starEach [a] c.X.env = (false, eval a c.X.env) :: starEach [] c.X.env := by rfl) (hpl : (backTo pos (starEach [] c.X.env)).any (·.1) = false := by rfl) :
    JE c (.Call (.Attribute e "count" apos) [a] [] pos) (tBM HasK.K "list" (rCntL HasK.K) ta (tCons tb tNil)) (dCntL da db) := by
  refine ⟨by rw [← c.hK]; exact pe_bm PySem.F.plainAttrs_list PySem.F.slot_list_count PySem.F.type_list_count mt_cntL ha.p (pa_cons hb.p pa_nil hst) hbase hfew hline hst hpl, fun F H σ δ Q S P => ha.s.go S P fun F1 H1 x d s1 S1 hx P1 => ?_⟩
  cases d with
  | list ys =>
    obtain ⟨p, us, rfl, h1, h2⟩ := hx.lst S1.fh
    refine ⟨tyL h1, hb.s.go S1 P1 fun F2 H2 y z s2 S2 hy P2 => Sim.last P2 fun w hw k => ?_⟩
    obtain ⟨⟨f1, f2⟩, rfl⟩ := if_some hw
    have h22 := h2.mono s2.ff
    refine ⟨p, us, y, rfl, rfl, sqL (s2.hh _ _ h1), flat_v hy f1, flat_all h22 f2, ?_⟩
    rw [cnt_eq hy f1 h22 f2]
    exact k _ F2 H2 (.refl S2.fh) (.int _)
  | _ => exact P1.elim
/-- l.index(x) -/
def idxD (ys : List D) (x : D) : Option D := if SeqAt.shaped (.list ys) = true ∧ SeqAt.shaped x = true then (ys.findIdx? fun z => PyData.eqv z x).map fun (j : Nat) => PyData.int (j : Int) else none
def dIdxL (da db : DE) : DE := fun δ => (da δ).bind fun t => match t with
  | .list ys => (db δ).bind fun x => Res.ofO (idxD ys x)
  | _ => .stuck
theorem je_idxL {apos : Pos} {n : Nat} (hr : Room n c.X.A) (ha : JB c e ta da) (hb : JE c a tb db) (hbase : attributeBase e "index" c.X.env (eval e c.X.env) = eval e c.X.env := by rfl)
    (hfew : ((backTo pos (starEach [a] c.X.env)).all (fun x => !x.1) && (backToKw pos (keywordEach [] c.X.env)).all (fun x => x.1.isSome) && decide ([a].length + ([] : List Keyword).length + (if ([] : List Keyword).isEmpty then 0 else 1) < 30)) = true := by rfl)
    (hline : (apos.endLine == pos.line) = true := by rfl) (hst : starEach [a] c.X.env = (false, eval a c.X.env) :: starEach [] c.X.env := by rfl) (hpl : (backTo pos (starEach [] c.X.env)).any (·.1) = false := by rfl) :
    JE c (.Call (.Attribute e "index" apos) [a] [] pos) (tBM HasK.K "list" (rIndexD HasK.K) ta (tCons tb tNil)) (dIdxL da db) := by
  refine ⟨by rw [← c.hK]; exact pe_bm PySem.F.plainAttrs_list PySem.F.slot_list_index PySem.F.type_list_index (mt_indexD (Room.u65 hr)) ha.p (pa_cons hb.p pa_nil hst) hbase hfew hline hst hpl, fun F H σ δ Q S P => ha.s.go S P fun F1 H1 x d s1 S1 hx P1 => ?_⟩
  cases d with
  | list ys =>
    have hx0 := hx
    obtain ⟨p, us, rfl, h1, h2⟩ := hx.lst S1.fh
    refine ⟨tyL h1, hb.s.go S1 P1 fun F2 H2 y z s2 S2 hy P2 => Sim.last P2 fun w hw k => ?_⟩
    unfold idxD at hw
    split at hw
    · rename_i hsh
      obtain ⟨j, h3, rfl⟩ := Option.map_eq_some_iff.mp hw
      obtain ⟨g1, g2, g3⟩ := List.findIdx?_eq_some_iff_getElem.mp h3
      refine ⟨p, y, z, ys, j, ys[j], rfl, rfl, (hx0.mono s2.ff s2.hh).dp S2.fh (shp hsh.1), (hy.bw (H := H2)).dp S2.fh (shp hsh.2), hsh.1, hsh.2, List.getElem?_eq_getElem g1, g2, fun m z' hm hz' => ?_, k _ F2 H2 (.refl S2.fh) (.int _)⟩
      have hml : m < ys.length := by omega
      rw [List.getElem?_eq_getElem hml] at hz'
      cases hz'
      simpa using g3 m hm
    · cases hw
  | _ => exact P1.elim
/-! ### list(range(..)) -/
def dLRg1 (da : DE) : DE := fun δ => (da δ).bind fun x => match x with
  | .int n => if n ≤ 1000000 ∧ -1000000 ≤ n then .ok (.list (rng 0 n.toNat)) else .stuck
  | _ => .stuck
def dLRg2 (da db : DE) : DE := fun δ => (da δ).bind fun x => (db δ).bind fun y => match x, y with
  | .int m, .int n => if n ≤ 1000000 ∧ -1000000 ≤ n ∧ m ≤ 1000000 ∧ -1000000 ≤ m then .ok (.list (rng m (n - m).toNat)) else .stuck
  | _, _ => .stuck
theorem rgV_rp (F : Hp) (m n : Int) : RpAll F (rgV m n) (rng m (n - m).toNat) := by
  unfold rgV rng
  generalize (List.range (n - m).toNat) = l
  induction l with
  | nil => exact .nil
  | cons i l ih => exact .cons (.int _) ih
theorem rgOk {m n : Int} (h : n ≤ 1000000 ∧ -1000000 ≤ n ∧ m ≤ 1000000 ∧ -1000000 ≤ m) : RgOk m n := ⟨by omega, by omega, by omega, by omega, by omega⟩
theorem je_lrg1 {p p2 pos2 : Pos} (hg : Gl c.X "list") (hm : c.X.mg "list" = none) (hg2 : Gl c.X "range") (hm2 : c.X.mg "range" = none) (hc : c.X.calm = true) (ha : JE c a ta da)
    (na : starEach [a] c.X.env = (false, eval a c.X.env) :: starEach [] c.X.env := by rfl) (nb : starEach [.Call (.Name "range" p2) [a] [] pos2] c.X.env = (false, eval (.Call (.Name "range" p2) [a] [] pos2) c.X.env) :: starEach [] c.X.env := by rfl) :
    JE c (.Call (.Name "list" p) [.Call (.Name "range" p2) [a] [] pos2] [] pos) (tLstRg (tRg1 ta)) (dLRg1 da) := by
  refine ⟨pe_listRg hc hg hm (prg_1 hg2 hm2 ha.p na) nb, fun F H σ δ Q S P => ha.s.go S P fun F1 H1 x d s1 S1 hx P1 => ?_⟩
  cases d with
  | int n =>
    cases hx
    have P2 : PostG RF HasK.mg c.W F1 H1 σ Q (if n ≤ 1000000 ∧ -1000000 ≤ n then .ok (.list (rng 0 n.toNat)) else .stuck) := P1
    split at P2
    · rename_i hn
      have r := rgV_rp F1 0 n
      rw [Int.sub_zero] at r
      exact ⟨n, rfl, rgOk ⟨hn.1, hn.2, by omega, by omega⟩, new_lst S1.fh r P2⟩
    · exact P2.elim
  | _ => exact P1.elim
theorem je_lrg2 {p p2 pos2 : Pos} (hg : Gl c.X "list") (hm : c.X.mg "list" = none) (hg2 : Gl c.X "range") (hm2 : c.X.mg "range" = none) (hc : c.X.calm = true) (ha : JE c a ta da) (hb : JE c b tb db)
    (na : starEach [a, b] c.X.env = (false, eval a c.X.env) :: starEach [b] c.X.env := by rfl) (na2 : starEach [b] c.X.env = (false, eval b c.X.env) :: starEach [] c.X.env := by rfl) (hp : (backTo pos2 (starEach [b] c.X.env)).any (·.1) = false := by rfl)
    (nb : starEach [.Call (.Name "range" p2) [a, b] [] pos2] c.X.env = (false, eval (.Call (.Name "range" p2) [a, b] [] pos2) c.X.env) :: starEach [] c.X.env := by rfl) :
    JE c (.Call (.Name "list" p) [.Call (.Name "range" p2) [a, b] [] pos2] [] pos) (tLstRg (tRg2 ta tb)) (dLRg2 da db) := by
  refine ⟨pe_listRg hc hg hm (prg_2 hg2 hm2 ha.p hb.p na na2 hp) nb, fun F H σ δ Q S P => ha.s.go S P fun F1 H1 x d s1 S1 hx P1 => hb.s.go S1 P1 fun F2 H2 y e s2 S2 hy P2 => ?_⟩
  have hx2 := hx.mono s2.ff
  cases d with
  | int m =>
    cases e with
    | int n =>
      cases hx2
      cases hy
      have P3 : PostG RF HasK.mg c.W F2 H2 σ Q (if n ≤ 1000000 ∧ -1000000 ≤ n ∧ m ≤ 1000000 ∧ -1000000 ≤ m then .ok (.list (rng m (n - m).toNat)) else .stuck) := P2
      split at P3
      · rename_i hn
        exact ⟨m, n, rfl, rfl, rgOk hn, new_lst S2.fh (rgV_rp F2 m n) P3⟩
      · exact P3.elim
    | _ => exact P2.elim
  | _ => exact P2.elim
/-! ### a, b = [], [], made as a tuple -/
def dTwoL (i j : Nat) : DS := fun δ => if i ≠ j ∧ i < δ.length ∧ j < δ.length then .next ((δ.set i (.own (.list []))).set j (.own (.list []))) else .stuck
theorem js_twoL {i j : Nat} {x y : Str} {p1 p2 px py pt pt2 : Pos} {kt k2 : Nat} (hN : c.X.N.Nodup) (hc : c.X.calm = true) (hi : c.X.N[i]? = some x := by rfl) (hx : Loc c.X.env.scope x := by first | exact Or.inl rfl | exact Or.inr rfl)
    (hj : c.X.N[j]? = some y := by rfl) (hy : Loc c.X.env.scope y := by first | exact Or.inl rfl | exact Or.inr rfl)
    (hf : c.X.fn x = true ∨ c.X.env.scope.names.lookup x = some .local := by first | exact .inl rfl | exact .inr rfl) (hf2 : c.X.fn y = true ∨ c.X.env.scope.names.lookup y = some .local := by first | exact .inl rfl | exact .inr rfl)
    (hs : swapsWithSole [.Tuple [.Name x px, .Name y py] kt pt] (.Tuple [.List [] p1, .List [] p2] k2 pt2) pos.line c.X.env = pure false := by rfl) (hw : swappedStores [.Tuple [.Name x px, .Name y py] kt pt] (.Tuple [.List [] p1, .List [] p2] k2 pt2) c.X.env = pure none := by rfl)
    (h1 : (assignEach [.Tuple [.Name x px, .Name y py] kt pt] c.X.env).map (·.2) = [assign (.Tuple [.Name x px, .Name y py] kt pt) c.X.env] := by rfl)
    (hst : starEach [.List [] p1, .List [] p2] c.X.env = (false, eval (.List [] p1) c.X.env) :: starEach [.List [] p2] c.X.env := by rfl) (hst2 : starEach [.List [] p2] c.X.env = (false, eval (.List [] p2) c.X.env) :: starEach [] c.X.env := by rfl)
    (hp : PG c.X (.Name x px) (gName i) → PGs c.X [.Name y py] (gCons (gName j) gNil) → PGs c.X [.Name x px, .Name y py] (gCons (gName i) (gCons (gName j) gNil)) := by exact fun a b => pgs_cons a b) (hp2 : PG c.X (.Name y py) (gName j) → PGs c.X [.Name y py] (gCons (gName j) gNil) := by exact fun a => pgs_cons a pgs_nil)
    (ht : PGs c.X [.Name x px, .Name y py] (gCons (gName i) (gCons (gName j) gNil)) → PG c.X (.Tuple [.Name x px, .Name y py] kt pt) (gTup c.X.K 2 (gCons (gName i) (gCons (gName j) gNil))) := by exact fun a => pg_tup rfl a) :
    JS c (.Assign [.Tuple [.Name x px, .Name y py] kt pt] (.Tuple [.List [] p1, .List [] p2] k2 pt2) pos) (tAsg (tTupG (tCons (tLst tNil) (tCons (tLst tNil) tNil))) (gTup HasK.K 2 (gCons (gName i) (gCons (gName j) gNil)))) (dTwoL i j) := by
  refine ⟨by rw [← c.hK]; exact ps_asg (pe_tupG (pa_cons (pe_lst pa_nil) (pa_cons (pe_lst pa_nil) pa_nil hst2) hst)) (ht (hp (pg_name hN hi hx hf) (hp2 (pg_name hN hj hy hf2)))) hs hw h1, fun F H σ δ D S P => ?_⟩
  unfold dTwoL at P
  split at P
  · rename_i hij
    refine ⟨by rw [sizeLine_eq]; show 0 ≤ _; omega, fun p hp => ⟨by rw [sizeLine_eq]; show 0 ≤ _; omega, fun q hq => ⟨by rw [sizeLine_eq]; show 2 ≤ _; omega, fun r o ho hr => ⟨r, [.ref p, .ref q], rfl, .inl (.inr ⟨o, upd_same⟩), rfl, _, _, rfl, _, _, rfl, rfl, ?_⟩⟩⟩⟩
    have s1 := Step.side S.fh (.lst []) hp
    have S1 := S.newOwn s1 hp (S.fh.back hp) (d := .list []) ⟨[], upd_same, .nil⟩ i
    have s2 := Step.side S1.fh (.lst []) hq
    have S2 := S1.newOwn s2 hq (S1.fh.back hq) (d := .list []) ⟨[], upd_same, .nil⟩ j
    have s3 := Step.side S2.fh (.frz o (.tup [.ref p, .ref q])) hr
    exact P _ F _ (.refl _) (S2.step s3)
  · exact P.elim
end
end RD

end
section
namespace TSG
open PySem PyProof.Rows
def shI : Nat → Bool := fun _ => false
theorem items_ints : ∀ {xs : List Value} {ns : List Int} (i : Nat), IntsAre xs ns → tupItems shI i xs = some (ns.map Sum.inl)
  | _, _, i, .nil => rfl
  | _, _, i, .cons n t h => by
    show (if shI i = true then none else (tupItems shI (i + 1) _).map (Sum.inl n :: ·)) = _
    rw [if_neg (by unfold shI; decide), items_ints (i + 1) h]
    rfl
theorem key_ints {h : Heap} {v : Value} {ns : List Int} (x : TS.TupInts h v ns) : G.tupKeyC h shI v = some (ns.map Sum.inl) := by
  obtain ⟨a, xs, rfl, ⟨o, ho, hc, n, hd⟩, i⟩ := x
  unfold G.tupKeyC
  have e1 : G.isTupObj h (.ref a) = true := by simp [G.isTupObj, ho, hc]
  rw [if_pos e1]
  simp only [tupKey, ho, hd]
  exact items_ints 0 i
theorem lex_code {B : Int} : ∀ {l m : List Int}, l.length = m.length → TS.Bd B l → TS.Bd B m → lexLt itemOrd (l.map Sum.inl) (m.map Sum.inl) = false → TS.code B m ≤ TS.code B l
  | [], [], _, _, _, _ => Int.le_refl _
  | [], _ :: _, h, _, _, _ => by simp at h
  | _ :: _, [], h, _, _, _ => by simp at h
  | a :: l, b :: m, h, hl, hm, e => by
    have h' : l.length = m.length := by simpa using h
    have e2 := lex_false.mp e
    have e3 : ¬a < b := of_decide_eq_false (show decide (a < b) = false from e2.1)
    rcases e2.2 with q | q
    · have q2 : b < a := of_decide_eq_true (show decide (b < a) = true from q)
      exact Int.le_of_lt (TS.code_lt h'.symm hm.tail hl.tail q2)
    · rcases Int.lt_or_eq_of_le (show b ≤ a by omega) with z | z
      · exact Int.le_of_lt (TS.code_lt h'.symm hm.tail hl.tail z)
      · subst z
        have ih := lex_code h' hl.tail hm.tail q
        show b * B ^ m.length + TS.code B m ≤ b * B ^ l.length + TS.code B l
        rw [h']
        omega
theorem firsts {h : Heap} {d : Nat} {B : Int} (hd : 1 ≤ d) : ∀ vs : List Value, TS.TupsOk h d B vs → ∃ fs, TupsOf h shI vs fs
  | [], _ => ⟨[], .nil⟩
  | v :: vs, x => by
    obtain ⟨fs, hfs⟩ := firsts hd vs fun u hu => x u (List.mem_cons_of_mem _ hu)
    obtain ⟨ns, ⟨a, xs, rfl, ⟨o, ho, hc, n, hdt⟩, i⟩, hl, _⟩ := x v List.mem_cons_self
    cases q : xs.toList with
    | nil =>
      rw [q] at i
      cases i
      simp at hl
      omega
    | cons f r =>
      rw [q] at i
      cases i with
      | cons k t i' =>
        refine ⟨_ :: fs, .cons ⟨a, o, xs, n, rfl, ho, hc, hdt, ?_, fun _ => ⟨k, t, rfl⟩, fun z => by cases z⟩ hfs⟩
        rw [← Array.getElem?_toList, q]
        rfl
section
variable {prog : Program} {w : World} {A : Around} {E : Value → Shared → Prop} {s : Shared}
theorem sorted_tups {l : Addr} {vs : List Value} {d : Nat} {B : Int} {Q : Value → Shared → Prop} (hl : s.heap.IsList l vs.toArray) (hL : vs.length ≤ sizeLine) (hd : 1 ≤ d ∨ vs.length ≤ 1) (x : TS.TupsOk s.heap d B vs)
    (h : ∀ out : Array Value, out.toList.Perm vs → out.toList.Pairwise (fun u v => TS.code B (TS.intsOf s.heap u) ≤ TS.code B (TS.intsOf s.heap v)) → Q (.ref (s.heap.objs.size + 1)) { s with heap := sortedAll s.heap vs out }) :
    wpAny (model prog w) A (call (.builtin "sorted") [.ref l]) Q E s := by
  have hk : ∀ v, v ∈ vs → ∃ k, G.tupKeyC s.heap shI v = some k := fun v hv => by
    obtain ⟨ns, t, _⟩ := x v hv
    exact ⟨_, key_ints t⟩
  refine G.sortedG (κ := G.tupKindC s.heap shI) hl (G.tupKeys hk) (fun s₂ k => G.tupC_ltAt (s := s₂) true k) (fun h2 _ _ s₂ _ k hq => ?_) hL fun st' a1 a2 a3 => ?_
  · rcases hd with hd | hd
    · obtain ⟨fs, hfs⟩ := firsts hd vs x
      exact tup_kind (s := s₂) (by rw [G.TupsOf.length hfs]; omega) (G.TupsOf.keep k hfs) hq
    · omega
  · have hp : (arrOf st').toList.Perm (vs.zip vs) := by
      have := Array.perm_iff_toList_perm.mp a1
      rw [pairsOf_toList] at this
      exact this
    have hkey : ∀ (i : Nat) (hi : i < (arrOf st').size), ∃ ns, TS.TupInts s.heap (arrOf st')[i].1 ns ∧ ns.length = d ∧ TS.Bd B ns ∧ KK (G.tupKindC s.heap shI) (arrOf st') i = ns.map Sum.inl := by
      intro i hi
      have hm : (arrOf st')[i] ∈ (arrOf st').toList := by
        rw [Array.mem_toList_iff]
        exact Array.getElem_mem hi
      have hm2 := (mem_zip_self (hp.mem_iff.mp hm)).2
      obtain ⟨ns, t, e1, e2⟩ := x _ hm2
      refine ⟨ns, t, e1, e2, ?_⟩
      unfold KK
      rw [Array.getElem?_eq_getElem hi]
      show (G.tupKeyC s.heap shI (arrOf st')[i].1).getD [] = _
      rw [key_ints t]
      rfl
    have hpw : (arrOf st').toList.Pairwise (fun p q => TS.code B (TS.intsOf s.heap p.1) ≤ TS.code B (TS.intsOf s.heap q.1)) := by
      rw [List.pairwise_iff_getElem]
      intro i j hi hj hij
      rw [Array.length_toList] at hi hj
      obtain ⟨n1, t1, l1, b1, k1⟩ := hkey i hi
      obtain ⟨n2, t2, l2, b2, k2⟩ := hkey j hj
      have hs := a2 i j (by omega) (by rw [← a1.size_eq]; exact hj)
      rw [k1, k2] at hs
      rw [Array.getElem_toList, Array.getElem_toList, t1.ints, t2.ints]
      exact lex_code (by rw [l1, l2]) b2 b1 hs
    obtain ⟨o1, o2⟩ := TS.out_rank (r := fun v => TS.code B (TS.intsOf s.heap v)) (out := (arrOf st').map (·.2)) (by rw [Array.toList_map]) hp hpw
    exact h _ o1 o2
end
end TSG
namespace RD
open PySem PySem.Spec L2 PyProof.Rows HT
/-! ### sorted(xs), xs a list of tuples of ints -/
def tI (d : D) : List Int := match d with
  | .tuple xs => (intsD xs).getD []
  | _ => []
def okT (k : Nat) (d : D) : Bool := match d with
  | .tuple xs => match intsD xs with
    | some l => decide (l.length = k) && l.all fun m => decide (0 ≤ m) && decide (m < 1000000)
    | none => false
  | _ => false
def cdT (d : D) : Int := TS.code 1000000 (tI d)
def insD (x : D) : List D → List D
  | [] => [x]
  | y :: ys => if cdT x ≤ cdT y then x :: y :: ys else y :: insD x ys
def srtD : List D → List D
  | [] => []
  | x :: xs => insD x (srtD xs)
def dimD : List D → Nat
  | [] => 1
  | x :: _ => (tI x).length
def sortedD : List D → Option D
  | [.list ds] => if ds.length ≤ 1000000 ∧ (1 ≤ dimD ds ∨ ds.length ≤ 1) ∧ ds.all (okT (dimD ds)) = true then some (.list (srtD ds)) else none
  | _ => none
theorem okT_of {k : Nat} {d : D} (h : okT k d = true) : ∃ xs l, d = .tuple xs ∧ intsD xs = some l ∧ tI d = l ∧ l.length = k ∧ TS.Bd 1000000 l := by
  unfold okT at h
  split at h
  · rename_i xs
    split at h
    · rename_i l hl
      rw [Bool.and_eq_true, decide_eq_true_eq] at h
      refine ⟨xs, l, rfl, hl, by show (intsD xs).getD [] = l; rw [hl]; rfl, h.1, fun m hm => ?_⟩
      have := List.all_eq_true.mp h.2 m hm
      rw [Bool.and_eq_true, decide_eq_true_eq, decide_eq_true_eq] at this
      exact this
    · cases h
  · cases h
theorem insD_perm (x : D) : ∀ ys, (insD x ys).Perm (x :: ys)
  | [] => .refl _
  | y :: ys => by
    unfold insD
    split
    · exact .refl _
    · exact ((insD_perm x ys).cons y).trans (.swap x y ys)
theorem srtD_perm : ∀ xs, (srtD xs).Perm xs
  | [] => .refl _
  | x :: xs => (insD_perm x (srtD xs)).trans ((srtD_perm xs).cons x)
theorem insD_sorted (x : D) : ∀ ys, ys.Pairwise (fun u v => cdT u ≤ cdT v) → (insD x ys).Pairwise (fun u v => cdT u ≤ cdT v)
  | [], _ => by simp [insD]
  | y :: ys, h => by
    have h2 := List.pairwise_cons.mp h
    unfold insD
    split
    · rename_i q
      refine List.pairwise_cons.mpr ⟨fun z hz => ?_, h⟩
      rcases List.mem_cons.mp hz with rfl | hz
      · exact q
      · exact Int.le_trans q (h2.1 z hz)
    · rename_i q
      refine List.pairwise_cons.mpr ⟨fun z hz => ?_, insD_sorted x ys h2.2⟩
      rcases List.mem_cons.mp ((insD_perm x ys).mem_iff.mp hz) with rfl | hz
      · omega
      · exact h2.1 z hz
theorem srtD_sorted : ∀ xs, (srtD xs).Pairwise (fun u v => cdT u ≤ cdT v)
  | [] => .nil
  | x :: xs => insD_sorted x _ (srtD_sorted xs)
theorem uniqD : ∀ (a b : List D), a.Perm b → a.Pairwise (fun u v => cdT u ≤ cdT v) → b.Pairwise (fun u v => cdT u ≤ cdT v) → (∀ x ∈ a, ∀ y ∈ a, cdT x = cdT y → x = y) → a = b
  | [], b, h, _, _, _ => by
    have := h.length_eq
    cases b with
    | nil => rfl
    | cons y b => simp at this
  | x :: a, [], h, _, _, _ => by
    have := h.length_eq
    simp at this
  | x :: a, y :: b, h, ha, hb, hi => by
    have ha2 := List.pairwise_cons.mp ha
    have hb2 := List.pairwise_cons.mp hb
    have hy : y ∈ x :: a := h.mem_iff.mpr List.mem_cons_self
    have hx : x ∈ y :: b := h.mem_iff.mp List.mem_cons_self
    have e : x = y := by
      apply hi x List.mem_cons_self y hy
      have h1 : cdT x ≤ cdT y := by
        rcases List.mem_cons.mp hy with e | hy
        · rw [e]; exact Int.le_refl _
        · exact ha2.1 y hy
      have h2 : cdT y ≤ cdT x := by
        rcases List.mem_cons.mp hx with e | hx
        · rw [e]; exact Int.le_refl _
        · exact hb2.1 x hx
      omega
    subst e
    rw [uniqD a b h.cons_inv ha2.2 hb2.2 fun u hu v hv => hi u (List.mem_cons_of_mem _ hu) v (List.mem_cons_of_mem _ hv)]
theorem code_inj {B : Int} : ∀ (l m : List Int), l.length = m.length → TS.Bd B l → TS.Bd B m → TS.code B l = TS.code B m → l = m
  | [], [], _, _, _, _ => rfl
  | [], _ :: _, h, _, _, _ => by simp at h
  | _ :: _, [], h, _, _, _ => by simp at h
  | a :: l, b :: m, h, hl, hm, e => by
    have h' : l.length = m.length := by simpa using h
    rcases Int.lt_trichotomy a b with z | z | z
    · have := TS.code_lt h' hl.tail hm.tail z
      omega
    · subst z
      have e' : TS.code B l = TS.code B m := by
        have e2 : a * B ^ l.length + TS.code B l = a * B ^ m.length + TS.code B m := e
        rw [h'] at e2
        omega
      rw [code_inj l m h' hl.tail hm.tail e']
    · have := TS.code_lt h'.symm hm.tail hl.tail z
      omega
section
variable [HasK]
theorem rp_perm {F : Hp} {xs ys : List V} (h : ys.Perm xs) : ∀ {ds : List D}, RpAll F xs ds → ∃ es, RpAll F ys es ∧ es.Perm ds := by
  have key : ∀ {a b : List V}, a.Perm b → ∀ {ds : List D}, RpAll F a ds → ∃ es, RpAll F b es ∧ es.Perm ds := by
    intro a b h
    induction h with
    | nil => exact fun r => by cases r; exact ⟨[], .nil, .refl _⟩
    | cons x _ ih =>
      intro ds r
      cases r with
      | cons r1 r2 =>
        obtain ⟨es, h1, h2⟩ := ih r2
        exact ⟨_, .cons r1 h1, h2.cons _⟩
    | swap x y l =>
      intro ds r
      cases r with
      | cons r1 r2 =>
        cases r2 with
        | cons r2 r3 => exact ⟨_, .cons r2 (.cons r1 r3), .swap _ _ _⟩
    | trans _ _ ih1 ih2 =>
      intro ds r
      obtain ⟨es, h1, h2⟩ := ih1 r
      obtain ⟨fs, h3, h4⟩ := ih2 h1
      exact ⟨fs, h3, h4.trans h2⟩
  intro ds
  exact key h.symm
end
theorem intsD_inj : ∀ {xs ys : List D} {l : List Int}, intsD xs = some l → intsD ys = some l → xs = ys := by
  have back : ∀ {xs : List D} {l : List Int}, intsD xs = some l → xs = l.map PyData.int := by
    intro xs
    induction xs with
    | nil => intro l h; cases h; rfl
    | cons x xs ih =>
      intro l h
      cases x with
      | int i =>
        obtain ⟨m, hm, rfl⟩ := Option.map_eq_some_iff.mp (show (intsD xs).map (i :: ·) = some l from h)
        rw [ih hm]
        rfl
      | _ => cases h
  intro xs ys l h1 h2
  rw [back h1, back h2]
theorem okT_inj {k : Nat} {x y : D} (hx : okT k x = true) (hy : okT k y = true) (e : cdT x = cdT y) : x = y := by
  obtain ⟨xs, l, rfl, h1, h2, h3, h4⟩ := okT_of hx
  obtain ⟨ys, m, rfl, g1, g2, g3, g4⟩ := okT_of hy
  unfold cdT at e
  rw [h2, g2] at e
  have := code_inj l m (by rw [h3, g3]) h4 g4 e
  subst this
  rw [intsD_inj h1 g1]
/-- sorted(xs), xs a list of tuples of d ints in [0, B), any number of them: a new list of the same, ascending by code B -/
def rSortX (K : PySem.W.Frag) : List V → Hp → VK → Prop := fun vs H Q => ∃ (d : Nat) (B : Int) (a : Addr) (xs : List V), (1 ≤ d ∨ xs.length ≤ 1) ∧ vs = [V.ref a] ∧ SqL K H a xs ∧ (∀ x ∈ xs, ∃ ns, TupI K H x ns ∧ ns.length = d ∧ TS.Bd B ns) ∧
  ∀ (ys : List V) (p : Addr), ys.Perm xs → ys.Pairwise (fun x y => ∀ n m, TupI K H x n → TupI K H y m → TS.code B n ≤ TS.code B m) → H p = none → Q (.ref p) (upd H p (.lst ys))
theorem ints_bk {X : Cx} {pins : List (Addr × Obj)} {σ : L2.St} {H : Hp} {s : Shared} (I : Inv X pins σ H s) {u : Value} {n : List Int} : TupI X.K H (bkV u) n → TS.intsOf s.heap u = n
  | ⟨_, e, is⟩ => bkV_ref e ▸ (tupI_raw I is).ints
theorem cr_sortX {X : Cx} : CallR X (.builtin "sorted") (rSortX X.K) := by
  rintro pins s σ H _ us Q I r ⟨d, B, a, xs, hd, rfl, hs, hx, q⟩
  obtain rfl := Vals.ref1 r
  have ⟨its, rv, hl, hz⟩ := I.list hs
  have n := rv.length
  have ⟨same, refs⟩ := bkV_refs rv fun x m => have ⟨_, ⟨t, e, _⟩, _⟩ := hx x m; ⟨t, e⟩
  refine TSG.sorted_tups (d := d) (B := B) hl.isList (n ▸ hz) (n ▸ hd) (fun v m => ?_) (fun out perm asc => ?_)
  · obtain ⟨t, rfl⟩ := refs v m
    have ⟨ns, ⟨_, e, is⟩, rest⟩ := hx (.ref t) (same ▸ List.mem_map_of_mem (f := bkV) m)
    exact ⟨ns, V.ref.inj e ▸ tupI_raw I is, rest⟩
  · have perm' : (out.toList.map bkV).Perm xs := (perm.map bkV).trans (.of_eq same.symm)
    have ⟨ep, at_⟩ := PyProof.Rows.sortedAll_at s.heap its out
    have vals : Vals (out.toList.map bkV) out.toList := bkV_vals fun u m => refs u (perm.mem_iff.mp m)
    have ok : ObjOk X.prog X.w (upd H (s.heap.objs.size + 1) (.lst (out.toList.map bkV))) (PyProof.Rows.sortedAll s.heap its out) (s.heap.objs.size + 1) (.lst (out.toList.map bkV)) := ⟨perm'.length_eq ▸ hz, _, ep, vals, at_⟩
    have asc' : (out.toList.map bkV).Pairwise fun x y => ∀ n m, TupI X.K H x n → TupI X.K H y m → TS.code B n ≤ TS.code B m := by
      refine List.pairwise_map.mpr (asc.imp ?_)
      intro u v c n m hn hm
      rw [← ints_bk I hn, ← ints_bk I hm]
      exact c
    exact ⟨.ref (s.heap.objs.size + 1), _, I.laid (t' := s.toks) (fun _ _ => PyProof.Rows.sortedAll_old) (Nat.le_succ _) ok, rfl, q _ _ perm' asc' (I.hok.fresh (Nat.le_succ _))⟩
section
variable [HasK]
theorem Rp.tI {K : PySem.W.Frag} {F H : Hp} {v : V} {d : D} {k : Nat} (ex : Ex F H) (h : Rp F v d) (ok : okT k d = true) : TupI K H v (tI d) := by
  obtain ⟨xs, l, rfl, h1, h2, h3, h4⟩ := okT_of ok
  rw [h2]
  obtain ⟨a, us, rfl, g1, g2⟩ := (Rp.bw (H := H) h).tup ex
  refine ⟨a, rfl, ?_⟩
  have := ints_of g2 h1
  subst this
  exact sqT g1
theorem sorted_pw {K : PySem.W.Frag} {F H : Hp} {k : Nat} (ex : Ex F H) : ∀ {ys : List V} {es : List D}, RpAll F ys es → (∀ e ∈ es, okT k e = true) → ys.Pairwise (fun x y => ∀ n m, TupI K H x n → TupI K H y m → TS.code 1000000 n ≤ TS.code 1000000 m) → es.Pairwise (fun u v => cdT u ≤ cdT v)
  | _, _, .nil, _, _ => .nil
  | _, _, .cons (v := v) (ds := ds) r rs, ok, h => by
    have h2 := List.pairwise_cons.mp h
    refine List.pairwise_cons.mpr ⟨fun e he => ?_, sorted_pw ex rs (fun e he => ok e (List.mem_cons_of_mem _ he)) h2.2⟩
    obtain ⟨i, hi⟩ := List.mem_iff_getElem?.mp he
    obtain ⟨y, hy, hr⟩ := rs.getD hi
    exact h2.1 y (List.mem_of_getElem? hy) _ _ (r.tI ex (ok _ List.mem_cons_self)) (hr.tI ex (ok e (List.mem_cons_of_mem _ he)))
theorem sortedD_of {K : PySem.W.Frag} {F H : Hp} {vs : List V} {ds : List D} {z : D} (ex : Ex F H) (h : BwAll F H vs ds) (hz : sortedD ds = some z) : ∃ a xs es, vs = [.ref a] ∧ SqL K H a xs ∧ RpAll F xs es ∧ z = .list (srtD es) ∧ es.length ≤ 1000000 ∧ (1 ≤ dimD es ∨ es.length ≤ 1) ∧ ∀ e ∈ es, okT (dimD es) e = true := by
  unfold sortedD at hz
  split at hz
  · split at hz
    · rename_i ds q
      cases hz
      cases h with
      | cons h hn =>
        cases hn
        obtain ⟨a, us, rfl, h1, h2⟩ := h.lst ex
        exact ⟨a, us, _, rfl, sqL h1, h2, rfl, q.1, q.2.1, List.all_eq_true.mp q.2.2⟩
    · cases hz
  · cases hz
theorem sortX_go {K : PySem.W.Frag} {F H : Hp} {a : Addr} {xs : List V} {es : List D} {Q : VK} (ex : Ex F H) (h1 : SqL K H a xs) (h2 : RpAll F xs es) (h3 : es.length ≤ 1000000) (h4 : 1 ≤ dimD es ∨ es.length ≤ 1) (h5 : ∀ e ∈ es, okT (dimD es) e = true)
    (k : ∀ ys, RpAll F ys (srtD es) → ∀ p, H p = none → Q (.ref p) (upd H p (.lst ys))) : rSortX K [.ref a] H Q := by
  refine ⟨dimD es, 1000000, a, xs, by rw [h2.len]; exact h4, rfl, h1, ?_, ?_⟩
  · intro x hx
    obtain ⟨i, hi⟩ := List.mem_iff_getElem?.mp hx
    obtain ⟨e, he, hr⟩ := h2.getV hi
    have ok := h5 e (List.mem_of_getElem? he)
    obtain ⟨us, l, _, g1, g2, g3, g4⟩ := okT_of ok
    exact ⟨tI e, hr.tI ex ok, by rw [g2]; exact g3, by rw [g2]; exact g4⟩
  · intro ys p hp hs hn
    obtain ⟨fs, f1, f2⟩ := rp_perm hp h2
    have okf : ∀ e ∈ fs, okT (dimD es) e = true := fun e he => h5 e (f2.mem_iff.mp he)
    have e := uniqD fs (srtD es) (f2.trans (srtD_perm es).symm) (sorted_pw ex f1 okf hs) (srtD_sorted es) fun x hx y hy => okT_inj (okf x hx) (okf y hy)
    rw [e] at f1
    exact k ys f1 p hn
section
variable {c : Cc} {e : Expr} {tr : TA} {dr : DA} {pos : Pos}
theorem je_sorted {p : Pos} (hg : Gl c.X "sorted") (hm : c.X.mg "sorted" = none) (ha : JAB c [e] tr dr) (he : starEach [e] c.X.env = (false, eval e c.X.env) :: starEach [] c.X.env := by rfl) (hpl : (backTo pos (starEach [] c.X.env)).any (·.1) = false := by rfl) :
    JE c (.Call (.Name "sorted" p) [e] [] pos) (tCB (rSortX HasK.K) tr) (dCB sortedD dr) := by
  rw [← c.hK]
  exact je_callB (id := "sorted") cr_sortX (fun F H xs ds z Q ex h hz k => by
    obtain ⟨a, us, es, rfl, h1, h2, rfl, h3, h4, h5⟩ := sortedD_of (K := c.X.K) ex h hz
    exact sortX_go ex h1 h2 h3 h4 h5 fun ys hy => new_lst ex hy k) hg hm (by decide +kernel) ha (by decide) (by decide) he hpl
end
end
end RD

end
section
namespace HT2
open PySem PyProof.Rows HT
theorem nested_ints {h : Heap} : ∀ {vs : List Value} {ns : List Int}, IntsAre vs ns → NestedAll h (ns.map .num) vs
  | _, _, .nil => .nil
  | _, _, .cons n t i => .cons (.int n t) (nested_ints i)
theorem dep_num : ∀ l : List Int, NestedKey.depthAll (l.map .num) = 0
  | [] => by simp [NestedKey.depthAll]
  | a :: l => by simp [NestedKey.depthAll, NestedKey.depth, dep_num l]
theorem num_inj : ∀ {a b : List Int}, a.map NestedKey.num = b.map NestedKey.num → a = b
  | [], [], _ => rfl
  | [], _ :: _, h => by cases h
  | _ :: _, [], h => by cases h
  | x :: a, y :: b, h => by
    rw [List.map_cons, List.map_cons] at h
    injection h with h1 h2
    injection h1 with h1
    rw [h1, num_inj h2]
theorem eqAt_tups {A : Around} {s : Shared} {t u : Addr} {xs ys : Array Value} {ns ms : List Int} (ht : IsTup s.heap t xs) (hu : IsTup s.heap u ys) (hi : IntsAre xs.toList ns) (hj : IntsAre ys.toList ms) (hz : A.units + 8 < cLine) :
    ∃ e, SeqAt.EqAt A s (.ref t) (.ref u) e ∧ (e = true ↔ ns = ms) := by
  obtain ⟨o, ho, hc, n, hd⟩ := ht
  obtain ⟨o2, ho2, hc2, n2, hd2⟩ := hu
  refine ⟨_, eqAt_key (.tup (ns.map .num)) (.tup (ms.map .num)) A s (.ref t) (.ref u) (.tup ho hc hd (nested_ints hi)) (.tup ho2 hc2 hd2 (nested_ints hj)) ?_, ?_⟩
  · have : (NestedKey.tup (ns.map .num)).depth ≤ 1 := by simp [NestedKey.depth, dep_num]
    omega
  · constructor
    · intro h
      have := NestedKey.eq_of_beq _ _ h
      injection this with this
      exact num_inj this
    · rintro rfl
      exact NestedKey.beq_self _
def ltP (i j : Int) (ns ms : List Int) : Bool := if i = j then lexLt ns ms else decide (i < j)
section
open PySem.SeqAt
open PySem.AutoSeq1 (wpAny_loadPart')
open PySem.MeetsSeq PySem.MeetsSeq2 PySem.MeetsSeq3
theorem lexLt_self : ∀ l : List Int, lexLt l l = false
  | [] => rfl
  | a :: l => by rw [lexLt_cons, if_pos rfl]; exact lexLt_self l
theorem tuple_lt_pair (l b t u : Addr) (xs ys : Array Value) (i j : Int) (ti tj : Tok) (n n2 : Nat) (dd dd2 : Option Addr) (sl sl2 : Array (Option Value)) (ns ms : List Int) (hi : IntsAre xs.toList ns) (hj : IntsAre ys.toList ms) :
    Meets (Builtin.«tuple.__lt__» ⟨[.ref l, .ref b], []⟩)
      (fun A R s => A.units + 20 < cLine ∧ IsTup s.heap t xs ∧ IsTup s.heap u ys ∧ s.heap.get? l = some { cls := .type "tuple", dict := dd, data := .seq #[.int i ti, .ref t] n, slots := sl } ∧ s.heap.get? b = some { cls := .type "tuple", dict := dd2, data := .seq #[.int j tj, .ref u] n2, slots := sl2 } ∧
        R (.ok (.ret (.bool (ltP i j ns ms)))) s) :=
  .of_wp fun prog w A R s h => by
    obtain ⟨hp, g, d, tk, os⟩ := s; obtain ⟨hA, ht, hu, hl, hb, h⟩ := h
    have f2 := AutoSeq1.sub_tuple_tuple
    wp_walk using wpAny_loadPart' hl, wpAny_loadPart' hb, wpAny_forIn_list _ (fun rest b s' => b.1 = none ∧ s' = ⟨hp, g, d, tk, os⟩ ∧ ((rest = [(Value.int i ti, Value.int j tj), (Value.ref t, Value.ref u)]) ∨ (rest = [(Value.ref t, Value.ref u)] ∧ i = j) ∨ (rest = [] ∧ i = j ∧ ns = ms))) _
    case turn =>
      rintro ⟨y, x⟩ rest b s' ⟨hb', rfl, hrest⟩
      rcases hrest with hrest | ⟨hrest, hij⟩ | ⟨hrest, _⟩
      · injection hrest with hyx hrest
        injection hyx with hy hx
        subst hy hx
        obtain ⟨e, he, hiff⟩ := eqAt_int A.in1 ⟨hp, g, d, tk, os⟩ i ti j tj
        refine wpAny_bind (he prog w _ _ ?_)
        cases e with
        | true =>
          wp_walk
          exact ⟨rfl, rfl, .inr (.inl ⟨hrest, hiff.mp rfl⟩)⟩
        | false =>
          have hne : ¬i = j := fun q => absurd (hiff.mpr q) Bool.false_ne_true
          unfold ltP at h
          rw [if_neg hne] at h
          have hri := rcLt_int A.in1 ⟨hp, g, d, tk, os⟩ i ti j tj prog w
          wp_walk using hri
          exact ⟨_, rfl, by simpa using h⟩
      · injection hrest with hyx hrest
        injection hyx with hy hx
        subst hy hx
        obtain ⟨e, he, hiff⟩ := eqAt_tups (A := A.in1) (s := ⟨hp, g, d, tk, os⟩) ht hu hi hj (by rw [Around.in1_units]; omega)
        refine wpAny_bind (he prog w _ _ ?_)
        cases e with
        | true =>
          wp_walk
          exact ⟨rfl, rfl, .inr (.inr ⟨hrest, hij, hiff.mp rfl⟩)⟩
        | false =>
          unfold ltP at h
          rw [if_pos hij] at h
          have hri : ∀ (E : Value → Shared → Prop) (Q : Value → Shared → Prop), Q (.bool (lexLt ns ms)) ⟨hp, g, d, tk, os⟩ → wpAny (model prog w) A.in1 (richCompare .Lt (.ref t) (.ref u)) Q E ⟨hp, g, d, tk, os⟩ := fun E Q hq => lt_tupInts (s := ⟨hp, g, d, tk, os⟩) ht hu hi hj (by rw [Around.in1_units]; omega) hq
          wp_walk using hri
          exact ⟨_, rfl, by simpa using h⟩
      · cases hrest
    case fin =>
      rintro ⟨b1, b2⟩ s' ⟨hb', rfl, hrest⟩
      simp only at hb'
      subst hb'
      rcases hrest with hrest | ⟨hrest, hij⟩ | ⟨_, hij, hnm⟩
      · cases hrest
      · cases hrest
      · unfold ltP at h
        rw [if_pos hij, hnm, lexLt_self] at h
        wp_walk
        exact ⟨_, rfl, by simpa [Builtin.Tuple.tupleCompareSizes] using h⟩
    case h =>
      exact ⟨rfl, rfl, .inl rfl⟩
end
section
variable {prog : Program} {w : World} {A : Around} {E : Value → Shared → Prop} {s : Shared}
theorem lt_pair {l b t u : Addr} {xs ys : Array Value} {i j : Int} {ti tj : Tok} {ns ms : List Int} {Q : Value → Shared → Prop} (hl : IsTup s.heap l #[.int i ti, .ref t]) (hb : IsTup s.heap b #[.int j tj, .ref u]) (ht : IsTup s.heap t xs) (hu : IsTup s.heap u ys) (hi : IntsAre xs.toList ns) (hj : IntsAre ys.toList ms)
    (hz : A.units + 20 < cLine) (h : Q (.bool (ltP i j ns ms)) s) : wpAny (model prog w) A (compareOp .Lt (.ref l) (.ref b)) Q E s := by
  obtain ⟨⟨cls, dd, data, sl⟩, ho, hc, n, hd⟩ := id hl
  obtain ⟨⟨cls2, dd2, data2, sl2⟩, ho2, hc2, n2, hd2⟩ := id hb
  simp only at hc hd hc2 hd2
  subst hc hd hc2 hd2
  exact richCompare_meets_room (op := .Lt) ⟨_, ho, rfl⟩ ⟨_, ho2, rfl⟩ PySem.F.slot_tuple_lt PySem.F.entry_tuple_lt (PySem.F.args_tuple_lt_2 _ _) (tuple_lt_pair l b t u xs ys i j ti tj n n2 dd dd2 sl sl2 ns ms hi hj)
    ⟨hz, ht, hu, ho, ho2, show Value.bool (ltP i j ns ms) ≠ Value.notImplemented ∧ Q (.bool (ltP i j ns ms)) s from ⟨(fun x => nomatch x), h⟩⟩ (by omega)
end
end HT2
namespace RD
open PySem PySem.Spec L2 PyProof.Rows HT
def rLtP (K : PySem.W.Frag) : R2 := fun x y H Q => ∃ a b t u i j ns ms, x = .ref a ∧ y = .ref b ∧ SqT K H a [.int i, .ref t] ∧ SqT K H b [.int j, .ref u] ∧ SqT K H t (ns.map V.int) ∧ SqT K H u (ms.map V.int) ∧ Q (.bl (HT2.ltP i j ns ms)) H
section
variable {X : Cx}
theorem op_ltP (hu : X.A.units + 64 < cLine) : OpR X (compareOp .Lt) (rLtP X.K) := by
  intro pins s σ H x y v u Q I rx ry h
  obtain ⟨a, b, t, u', i, j, ns, ms, rfl, rfl, ha, hb, ht, hu', q⟩ := h
  cases rx
  cases ry
  obtain ⟨its, r1, p1, _⟩ := I.tuple ha
  obtain ⟨its2, r2, p2, _⟩ := I.tuple hb
  obtain ⟨its3, r3, p3, _⟩ := I.tuple ht
  obtain ⟨its4, r4, p4, _⟩ := I.tuple hu'
  have i1 : IntsAre its3.toArray.toList ns := intsAre_of r3
  have i2 : IntsAre its4.toArray.toList ms := intsAre_of r4
  obtain ⟨u1, u2, rfl, ri, rj⟩ := vals2 r1
  obtain ⟨w1, w2, rfl, si, sj⟩ := vals2 r2
  obtain ⟨t1, rfl⟩ := ri
  obtain ⟨t2, rfl⟩ := si
  cases rj
  cases sj
  exact HT2.lt_pair p1 p2 p3 p4 i1 i2 (by omega) ⟨.bl (HT2.ltP i j ns ms), H, I, rfl, q⟩
end
variable [HasK]
def ltPD : D → D → Option D
  | .tuple [.int i, .tuple a], .tuple [.int j, .tuple b] => (intsD a).bind fun ns => (intsD b).map fun ms => .bool (HT2.ltP i j ns ms)
  | _, _ => none
theorem s_ltP {K : PySem.W.Frag} : OpS (rLtP K) ltPD := by
  intro F H x y d e z Q ex bx by_ hz h
  unfold ltPD at hz
  split at hz
  · rename_i i a j b
    obtain ⟨ns, hns, hz2⟩ := Option.bind_eq_some_iff.mp hz
    obtain ⟨ms, hms, rfl⟩ := Option.map_eq_some_iff.mp hz2
    obtain ⟨p, us, rfl, h1, h2⟩ := bx.tup ex
    obtain ⟨q, vs, rfl, g1, g2⟩ := by_.tup ex
    cases h2 with
    | cons h2 h3 =>
      cases h3 with
      | cons h3 h4 =>
        cases h4
        cases g2 with
        | cons g2 g3 =>
          cases g3 with
          | cons g3 g4 =>
            cases g4
            cases h2
            cases g2
            obtain ⟨t, us, rfl, k1, k2⟩ := (Rp.bw (H := H) h3).tup ex
            obtain ⟨u, vs, rfl, l1, l2⟩ := (Rp.bw (H := H) g3).tup ex
            have e1 := ints_of k2 hns
            have e2 := ints_of l2 hms
            subst e1
            subst e2
            exact ⟨p, q, t, u, i, j, ns, ms, rfl, rfl, sqT h1, sqT g1, sqT k1, sqT l1, h _ F H (.refl ex) (.bl _)⟩
  · cases hz
section
variable {c : Cc} {a b : Expr} {ta tb : TE} {da db : DE} {pos : Pos}
theorem je_ltP (hu : c.X.A.units + 64 < cLine) (ha : JB c a ta da) (hb : JB c b tb db) : JE c (.Compare a [.Lt] [b] pos) (tOp (rLtP HasK.K) ta tb) (dOp ltPD da db) := by
  rw [← c.hK]
  exact je_cmpR (op_ltP hu) s_ltP ha hb (nomark _)
theorem jt_ltP (hu : c.X.A.units + 64 < cLine) (ha : JB c a ta da) (hb : JB c b tb db) : JT c (.Compare a [.Lt] [b] pos) (tTest (tOp (rLtP HasK.K) ta tb)) (dTest (dOp ltPD da db)) := by
  rw [← c.hK]
  exact jt_cmpR (op_ltP hu) s_ltP ha hb (nomark _)
end
end RD

end
section
namespace TSG
open PySem PySem.W PySem.Calls PyProof.Rows
section
variable {prog : Program} {w : World} {A : Around} {E : Value → Shared → Prop} {s : Shared} {β : Type}
/-- sorted(r), r anything that can be collected -/
theorem sorted_col {r : Addr} {vs : List Value} {bs : List β} {enc : β → PyData} {R : Value → β → Prop} {Q : Value → Shared → Prop}
    (hcol : ∀ {R' : List Value → Shared → Prop}, (∀ (h' : Heap) (tk : Nat), (∀ b o, s.heap.get? b = some o → h'.get? b = some o) → R' vs { s with heap := h', toks := tk }) → wpAny (model prog w) A.in1 (collect (.ref r)) R' E s)
    (e : EachIs R vs bs) (er : EachIs (fun v b => Reads s.heap v (enc b) []) vs bs) (hal : AllAlike (bs.map enc)) (hk : Sortable (bs.map enc)) (hL : bs.length ≤ sizeLine)
    (hu : ∀ b, b ∈ bs → A.units + 2 + (enc b).depth < cLine)
    (h : ∀ (h' : Heap) (tk : Nat) (h'' : Heap) (n : Nat) (out : List Value), (∀ b o, s.heap.get? b = some o → h'.get? b = some o) → (∀ b o, h'.get? b = some o → h''.get? b = some o) → out.length = bs.length → EachIs R out (bs.mergeSort (dataLe false enc)) → h''.get? h'.objs.size = some (seqObj "list" (List.toArray out) n) → Q (.ref h'.objs.size) { s with heap := h'', toks := tk }) :
    wpAny (model prog w) A (call (.builtin "sorted") [.ref r]) Q E s := by
  refine call_function_entry kind_sorted plain_sorted entry_sorted (args_sorted1 _) ?_
  unfold Builtin.«sorted»
  refine wpAny_bind (m := checkCount "sorted" 1 1 _) (wpAny_pure ?_)
  refine wpAny_bind (hcol fun h' tk hk' => ?_)
  have hl : vs.length ≤ sizeLine := by rw [e.length]; exact hL
  refine wpAny_bind (wpAny_newList ?_ hl)
  have hat : (h'.push { cls := .type "list", data := .seq vs.toArray }).get? h'.objs.size = some (seqObj "list" vs.toArray 0) := Heap.get?_push_size _ rfl
  have hold : ∀ b o, h'.get? b = some o → (h'.push { cls := .type "list", data := .seq vs.toArray }).get? b = some o := fun b o q => Heap.get?_push_of_some _ q
  refine wpAny_bind (wpAny_holding (list_sort_data (A := A.in1) (s := { s with heap := h'.push { cls := .type "list", data := .seq vs.toArray }, toks := tk }) hat e (er.mono fun v b q => ⟨[], PyProof.Rows.Reads.keeps (fun b o z => hold b o (hk' b o z)) q, List.not_mem_nil⟩) hal hk hL (fun b hb => by have := hu b hb; show A.units + 1 + 1 + _ < _; omega) fun out ho eo => ?_))
  refine wpAny_pure ⟨_, rfl, ?_⟩
  obtain ⟨n, hn⟩ := sortedHeap_at (vs := vs) (out := out.toArray) hat
  refine h h' tk _ n out hk' (fun b o q => ?_) ho eo hn
  exact (sortedHeap_old (Nat.ne_of_lt (Heap.lt_size q)) (Heap.lt_size (hold b o q))).trans (hold b o q)
end
end TSG
namespace RD
open PySem PySem.Spec PySem.W L2 PyProof.Rows
/-! ### sorted(xs): data of one kind, nested or not -/
def isTup1 : D → Bool
  | .tuple (_ :: _) => true
  | _ => false
def notTup : D → Bool
  | .tuple _ => false
  | .none => false
  | _ => true
def okS (es : List D) : Bool := decide (es.length ≤ 1000000) && es.all (fun d => es.all (alike d)) && (es.all isTup1 || es.all notTup) && es.all fun d => (nkD d).isSome && decide (d.depth ≤ 8)
def sortN (es : List D) : List D := es.mergeSort (dataLe false id)
theorem okS_alike {es : List D} (h : okS es = true) : AllAlike (es.map id) ∧ Sortable (es.map id) ∧ es.length ≤ sizeLine ∧ ∀ d ∈ es, (∃ k, nkD d = some k) ∧ d.depth ≤ 8 := by
  unfold okS at h
  simp only [Bool.and_eq_true, Bool.or_eq_true, decide_eq_true_eq, List.all_eq_true] at h
  obtain ⟨⟨⟨h1, h2⟩, h3⟩, h4⟩ := h
  rw [List.map_id]
  refine ⟨fun d hd d' hd' => h2 d hd d' hd', ?_, by rw [sizeLine_eq]; exact Nat.le_trans h1 (by decide), fun d hd => ⟨Option.isSome_iff_exists.mp (h4 d hd).1, (h4 d hd).2⟩⟩
  rcases h3 with h3 | h3
  · refine .inl fun d hd => ?_
    have := h3 d hd
    unfold isTup1 at this
    split at this
    · exact ⟨_, _, rfl⟩
    · cases this
  · refine .inr fun d hd => ?_
    have := h3 d hd
    constructor
    · rintro rfl; cases this
    · rintro xs rfl; cases this
variable [HasK]
mutual
theorem Rp.reads {P : Program} {w : World} {H : Hp} {h : Heap} (ok : HOk P w H h) : ∀ {v : V} {d : D} {k : NestedKey} {u : Value}, Rp H v d → nkD d = some k → RelV v u → Reads h u d []
  | _, _, _, _, .non, q, r => by cases q; cases r; exact .none
  | _, _, _, _, .int i, q, r => by cases q; obtain ⟨t, rfl⟩ := r; exact .int _ _
  | _, _, _, _, .str x, q, r => by cases q; obtain ⟨t, rfl⟩ := r; exact .str _ _
  | _, _, _, _, .tup g ra, q, r => by
    simp only [nkD] at q
    obtain ⟨ks, q1, rfl⟩ := Option.map_eq_some_iff.mp q
    obtain ⟨its, rv, o, h1, h2, n, h3⟩ := g.sq ok
    cases r
    exact .tuple h1 h2 h3 (by simpa using RpAll.reads ok ra q1 rv)
  | _, _, _, _, .bl b, q, r => by simp [nkD] at q
  | _, _, _, _, .lst _ _, q, r => by simp [nkD] at q
  | _, _, _, _, .soft _ _, q, r => by simp [softD, nkD] at q
  | _, _, _, _, .scr _, q, r => by simp [scrD, nkD] at q
  | _, _, _, _, .dK _ _, q, r => by simp [nkD] at q
  | _, _, _, _, .dT _ _, q, r => by simp [nkD] at q
theorem RpAll.reads {P : Program} {w : World} {H : Hp} {h : Heap} (ok : HOk P w H h) : ∀ {vs : List V} {ds : List D} {ks : List NestedKey} {us : List Value}, RpAll H vs ds → nkDs ds = some ks → Vals vs us → ReadsAll h us ds []
  | _, _, _, _, .nil, q, .nil => by cases q; exact .nil
  | _, _, _, _, .cons hr r, q, .cons rv rs => by
    simp only [nkDs] at q
    obtain ⟨k, q1, q2⟩ := Option.bind_eq_some_iff.mp q
    obtain ⟨ks, q3, rfl⟩ := Option.map_eq_some_iff.mp q2
    exact ReadsAll.cons (as := []) (bs := []) (Rp.reads ok hr q1 rv) (RpAll.reads ok r q3 rs)
end
theorem rp_each {F : Hp} : ∀ {xs : List V} {ds : List D} {us : List Value}, RpAll F xs ds → Vals xs us → EachIs (fun u d => ∃ x, RelV x u ∧ Rp F x d) us ds
  | _, _, _, .nil, .nil => .nil
  | _, _, _, .cons h r, .cons rv rs => .cons ⟨_, rv, h⟩ (rp_each r rs)
theorem each_rp {F : Hp} : ∀ {us : List Value} {ds : List D}, EachIs (fun u d => ∃ x, RelV x u ∧ Rp F x d) us ds → ∃ xs, Vals xs us ∧ RpAll F xs ds
  | _, _, .nil => ⟨[], .nil, .nil⟩
  | _, _, .cons ⟨x, h1, h2⟩ r => by
    obtain ⟨xs, g1, g2⟩ := each_rp r
    exact ⟨x :: xs, .cons h1 g1, .cons h2 g2⟩
theorem each_reads {P : Program} {w : World} {F H : Hp} {h : Heap} (ex : Ex F H) (ok : HOk P w H h) : ∀ {xs : List V} {ds : List D} {us : List Value}, RpAll F xs ds → Vals xs us → (∀ d ∈ ds, ∃ k, nkD d = some k) → EachIs (fun u d => Reads h u (id d) []) us ds
  | _, _, _, .nil, .nil, _ => .nil
  | _, _, _, .cons h r, .cons rv rs, hd => by
    obtain ⟨k, hk⟩ := hd _ List.mem_cons_self
    exact .cons (Rp.reads ok (h.mono ex) hk rv) (each_reads ex ok r rs fun d hd' => hd d (List.mem_cons_of_mem _ hd'))
/-- sorted(xs), xs a list or a tuple -/
def rSortN (K : PySem.W.Frag) : List V → Hp → VK → Prop := fun vs H Q => ∃ (F : Hp) (es : List D) (a : Addr) (xs : List V), Ex F H ∧ vs = [V.ref a] ∧ (SqL K H a xs ∨ SqT K H a xs) ∧ RpAll F xs es ∧ okS es = true ∧
  ∀ (ys : List V) (p : Addr), RpAll F ys (sortN es) → H p = none → Q (.ref p) (upd H p (.lst ys))
theorem cr_sortN {X : Cx} (hu : X.A.units + 64 < cLine) : CallR X (.builtin "sorted") (rSortN X.K) := by
  intro pins s σ H vs us Q I r h
  obtain ⟨F, es, a, xs, ex, rfl, hs, hr, hok, q⟩ := h
  rw [Vals.ref1 r]
  obtain ⟨k1, k2, k3, k4⟩ := okS_alike hok
  have main : ∀ its : List Value, Vals xs its → (∀ {R' : List Value → Shared → Prop}, (∀ h' tk, (∀ b o, s.heap.get? b = some o → h'.get? b = some o) → R' its { s with heap := h', toks := tk }) → wpAny (model X.prog X.w) X.A.in1 (collect (.ref a)) R' X.xe s) →
      wpAny (model X.prog X.w) X.A (call (.builtin "sorted") [.ref a]) (fun v s' => ∃ x H', Inv X pins σ H' s' ∧ RelV x v ∧ Q x H') X.xe s := by
    intro its rv hcol
    refine TSG.sorted_col (enc := id) hcol (rp_each hr rv) (each_reads ex I.hok hr rv fun d hd => (k4 d hd).1) k1 k2 k3 (fun d hd => ?_) fun h' tk h'' n out e1 e2 hl eo hn => ?_
    · have := (k4 d hd).2
      show X.A.units + 2 + d.depth < _
      omega
    · obtain ⟨ys, g1, g2⟩ := each_rp eo
      have I1 : Inv X pins σ H { s with heap := h', toks := tk } := I.kept e1
      have hlen : ys.length ≤ sizeLine := by
        have : out.length = ys.length := (g1.length).symm
        omega
      exact ⟨.ref _, upd H h'.objs.size (.lst ys), I1.laid (t' := tk) e2 (Nat.le_refl _) ⟨hlen, out, n, g1, hn⟩, rfl, q ys _ g2 (I1.hok.fresh (Nat.le_refl _))⟩
  rcases hs with hs | hs
  · obtain ⟨its, rv, p, hz⟩ := I.list hs
    obtain ⟨o, ho, hc, n, hd⟩ := p.isList
    exact main its rv fun {R'} hR => wpAny_collect_seq a (.inl rfl) ho hc hd (fun h' hk => hR h' s.toks hk) (by have := rv.length; simp; omega)
  · obtain ⟨its, rv, ⟨o, ho, hc, n, hd⟩, hz⟩ := I.tuple hs
    exact main its rv fun {R'} hR => wpAny_collect_seq a (.inr rfl) ho hc hd (fun h' hk => hR h' s.toks hk) (by have := rv.length; simp; omega)
def sortedN : List D → Option D
  | [.list es] => if okS es = true then some (.list (sortN es)) else none
  | [.tuple es] => if okS es = true then some (.list (sortN es)) else none
  | _ => none
theorem sortedN_go {K : PySem.W.Frag} {F H : Hp} {vs : List V} {ds : List D} {z : D} {Q : VK} (ex : Ex F H) (h : BwAll F H vs ds) (hz : sortedN ds = some z) (k : ∀ v F' H', Step F H F' H' → Rp F' v z → Q v H') : rSortN K vs H Q := by
  unfold sortedN at hz
  split at hz
  · split at hz
    · rename_i q
      cases hz
      cases h with
      | cons h hn =>
        cases hn
        obtain ⟨a, us, rfl, h1, h2⟩ := h.lst ex
        exact ⟨F, _, a, us, ex, rfl, .inl (sqL h1), h2, q, fun ys p hy hp => new_lst ex hy k p hp⟩
    · cases hz
  · split at hz
    · rename_i q
      cases hz
      cases h with
      | cons h hn =>
        cases hn
        obtain ⟨a, us, rfl, h1, h2⟩ := h.tup ex
        exact ⟨F, _, a, us, ex, rfl, .inr (sqT h1), h2, q, fun ys p hy hp => new_lst ex hy k p hp⟩
    · cases hz
  · cases hz
section
variable {c : Cc} {e : Expr} {tr : TA} {dr : DA} {pos : Pos}
theorem je_sortedN {p : Pos} (hu : c.X.A.units + 64 < cLine) (hg : Gl c.X "sorted") (hm : c.X.mg "sorted" = none) (ha : JAB c [e] tr dr) (he : starEach [e] c.X.env = (false, eval e c.X.env) :: starEach [] c.X.env := by rfl) (hpl : (backTo pos (starEach [] c.X.env)).any (·.1) = false := by rfl) :
    JE c (.Call (.Name "sorted" p) [e] [] pos) (tCB (rSortN HasK.K) tr) (dCB sortedN dr) := by
  rw [← c.hK]
  exact je_callB (id := "sorted") (cr_sortN hu) (fun F H xs ds z Q ex h hz k => sortedN_go ex h hz k) hg hm (by decide +kernel) ha (by decide) (by decide) he hpl
end
end RD

end
section
namespace RD
open PySem PySem.Spec L2 PyProof.Rows
/-- d[k] = v by a comprehension, k a tuple -/
theorem dcN_set {X : Cx} {pins : List (Addr × Obj)} {σ : L2.St} {H : Hp} {s : Shared} {E : Value → Shared → Prop} {D : Addr} {xs : XT} {k : NestedKey} {q : Addr} {v : V} {u r : Value} {Q : Unit → Shared → Prop} (hu : X.A.units + 64 < cLine) (I : Inv X pins σ H s) (e : H D = some (dtO X.prog X.w D xs)) (hk : KeysOk X.prog X.w H xs) (hq : NKey X.prog X.w H q k) (hz : xs.length < sizeLine)
    (ry : RelV (.ref q) u) (rv : RelV v r) (h : ∀ s', Inv X pins σ (upd H D (dtO X.prog X.w D (putV xs k q v))) s' → Q () s') : wpAny (model X.prog X.w) X.A (dictSet D u r) Q E s := by
  cases (show u = Value.ref q from ry)
  obtain ⟨z, hd, ys, rel, dd⟩ := dtr_of I.hok ⟨.inl e, hk⟩
  have hz' : ys.length ≤ sizeLine := by rw [← Paired.length rel]; exact z
  have hl : (putV xs k q v).length ≤ sizeLine := by have := putV_len xs k q v; omega
  refine wpAny_dictSet_heap (knd := nestedKind X.prog X.w) (hsz := hz') (show X.A.units + 8 < cLine by omega) (hq _ I.hok) dd fun h' dd' hs => h _ ?_
  obtain ⟨o, es, ep, ho, h2, h3, h4, _, h5⟩ := dd'
  exact d_write I (by rw [e]; exact True.intro) hs ⟨o, ho⟩ (dtO_new ⟨hl, hd, _, rel.put k q rv, o, es, ep, ho, h2, h3, h4, h5⟩)
section
variable {X : Cx}
/-- {k: v for target in iter if ..}, keys tuples: D the new dict -/
def tDcN (P : Program) (w : World) (wi : TI) (g : TG) (tt : TT) (tk tv : TE) (vs : List Nat) : TE := fun σ H Q => wi σ H fun J H1 => ∀ D, H1 D = none → ∃ W : Nat → Nat → Hp → Prop, (∃ m, W 0 m (upd H1 D (dtO P w D []))) ∧ ∀ i m H, W i m H →
  (J.stop i H ∧ Q (.ref D) H) ∨ (J.go i H ∧ ∃ Nx : Hp → Prop, (∀ H', Nx H' → ∃ m', m' < m ∧ W (i + 1) m' H') ∧ ∀ x H', J.yld i H x H' → g x (wipe σ vs) H' fun σ2 H2 => wipe σ2 vs = wipe σ vs ∧ tt σ2 H2 fun b H3 =>
    if b = true then tk σ2 H3 fun y H4 => tv σ2 H4 fun z H5 => ∃ xs k q, y = .ref q ∧ H5 D = some (dtO P w D xs) ∧ KeysOk P w H5 xs ∧ NKey P w H5 q k ∧ xs.length < sizeLine ∧ Nx (upd H5 D (dtO P w D (putV xs k q z))) else Nx H3)
/-- the readings of a comprehension's parts, in any block of that scope -/
structure DcParts (X : Cx) (scope : Scope) (kx vx tg : Expr) (ifs : List Expr) (g : TG) (tt : TT) (tk tv : TE) : Prop where
  g : ∀ (s : Shared) (H : Hp) (C : Addr) (cl : List (Str × Addr)) (fp : List Addr), PG (X.blk s H scope (compEnvC scope cl C X.env) fp) tg g
  t : ∀ (s : Shared) (H : Hp) (C : Addr) (cl : List (Str × Addr)) (fp : List Addr), PTs (X.blk s H scope (compEnvC scope cl C X.env) fp) ifs tt
  k : ∀ (s : Shared) (H : Hp) (C : Addr) (cl : List (Str × Addr)) (fp : List Addr), PE (X.blk s H scope (compEnvC scope cl C X.env) fp) kx tk
  v : ∀ (s : Shared) (H : Hp) (C : Addr) (cl : List (Str × Addr)) (fp : List Addr), PE (X.blk s H scope (compEnvC scope cl C X.env) fp) vx tv
/-- what a block's iterator stands on, at any state of the block -/
theorem fp_in {B : Cx} {σ : L2.St} {H : Hp} {t : Shared} {b : Addr} (V : Inv B [] σ H t) (hp : B.pn = []) (m : b ∈ B.ex) (n : H b = none) : FpOk B [] H b :=
  have ⟨l, c⟩ := V.ok.exf b m
  ⟨n, l, V.ok.exfs b m, .inl m, c, fun p q => by rw [hp] at q; cases q⟩
theorem thnB {α : Type} {B : Cx} {a : Sem α} {Q Q' : α → Shared → Prop} {M : Model} {A : Around} {E : Value → Shared → Prop} {s : Shared} (hx : B.xe = fun _ _ => False) (h : wpAny M A a Q B.xe s) (hQ : ∀ v t, Q v t → Q' v t) : wpAny M A a Q' E s := thnF (hx ▸ h) hQ
/-- the block between two turns: its iterator i items on -/
structure DcAt (B : Cx) (fp : List Addr) (tn : Nat → Heap → Prop) (σ : L2.St) (i : Nat) (H : Hp) (t : Shared) : Prop where
  inv : Inv B [] σ H t
  it : tn i t.heap
  off : ∀ b ∈ fp, H b = none
section
variable {B : Cx} {fp : List Addr} {it D : Addr} {tn : Nat → Heap → Prop} {J : It} {tg kx vx iter : Expr} {ifs : List Expr} {scope : Scope} {pos : Pos} {g : TG} {tt : TT} {tk tv : TE} {σ : L2.St} {vs : List Nat} {E : Value → Shared → Prop}
/-- after a turn's body, whose slots are σ but for the block's own: the next turn may begin -/
theorem DcAt.again {pl : List Addr} {σ' : L2.St} {i : Nat} {H : Hp} {t t' : Shared} (T : Turn B.prog B.w B.K tg J fp it tn) (st : tn (i + 1) t.heap) (V : Inv B ([] ++ pinsAt fp t.heap) σ' H t') (e : wipe σ' vs = σ) : DcAt B fp tn σ (i + 1) H t' := by
  have still : ∀ b ∈ fp, ∀ o, t.heap.get? b = some o → t'.heap.get? b = some o ∧ H b = none := fun b m o at_ =>
    have p := V.pin (b, o) (List.mem_append_right _ (List.mem_append_right _ (mem_pinsAt m at_)))
    ⟨p.1, p.2.1⟩
  refine ⟨V.unpinned.weak (by rw [← e, wipe_length]) fun k v q => (wipe_some (vs := vs) (e ▸ q)).1, T.keep _ _ _ st fun b m o at_ => (still b m o at_).1, fun b m => ?_⟩
  have ⟨o, at_, _⟩ := T.obj _ _ st b m
  exact (still b m o at_).2
/-- one turn with an item: the item stored, the tests, then the key and the value and their place in the dict -/
theorem dcN_turn (hu : B.A.units + 64 < cLine) (hc : B.calm = true) (hp : B.pn = []) (hx : B.xe = fun _ _ => False) (hfp : ∀ b ∈ fp, b ∈ B.ex) (T : Turn B.prog B.w B.K tg J fp it tn) (pg : PG B tg g) (pt : PTs B ifs tt) (pk : PE B kx tk) (pv : PE B vx tv)
    {i : Nat} {H : Hp} {t : Shared} {Nx : Hp → Prop} (S : DcAt B fp tn σ i H t) (go : J.go i H)
    (step : ∀ x H', J.yld i H x H' → g x σ H' fun σ2 H2 => wipe σ2 vs = σ ∧ tt σ2 H2 fun b H3 =>
      if b = true then tk σ2 H3 fun y H4 => tv σ2 H4 fun z H5 => ∃ xs k q, y = .ref q ∧ H5 D = some (dtO B.prog B.w D xs) ∧ KeysOk B.prog B.w H5 xs ∧ NKey B.prog B.w H5 q k ∧ xs.length < sizeLine ∧ Nx (upd H5 D (dtO B.prog B.w D (putV xs k q z))) else Nx H3)
    {R : Option Value → Shared → Prop} (hR : ∀ u t1, wpAny (model B.prog B.w) B.A (letOwnedTupleGo tg (.ref it) u) (fun _ t2 => wpAny (model B.prog B.w) B.A (assign tg B.env u) (fun _ t3 =>
        wpAny (model B.prog B.w) B.A (forIn ifs true fun c r => if r = true then do let ok ← isTrue c B.env (eval c B.env); pure (ForInStep.yield ok) else pure (ForInStep.yield r)) (fun ok t4 =>
          if ok = true then wpAny (model B.prog B.w) B.A (eval kx B.env) (fun kv t5 => wpAny (model B.prog B.w) B.A (eval vx B.env) (fun vv t6 =>
            wpAny (model B.prog B.w) B.A (dictSet D kv vv) (fun _ t7 => ∃ H', DcAt B fp tn σ (i + 1) H' t7 ∧ Nx H') E t6) E t5) E t4
          else ∃ H', DcAt B fp tn σ (i + 1) H' t4 ∧ Nx H') E t3) E t2) E t1 → R (some u) t1) :
    wpAny (model B.prog B.w) B.A (pyNext (.ref it)) R E t := by
  refine thnF (T.item B rfl rfl rfl hc i [] t σ H (fun _ _ => False) S.inv (fun b m => fp_in S.inv hp (hfp b m) (S.off b m)) S.it go) fun r t1 ⟨u, er, more⟩ => er ▸ hR u t1 (thnF more fun _ t2 ⟨x, H2, V2, rx, y, st, off⟩ => ?_)
  have V2' := V2.pinned (fun b m => fp_in V2 hp (hfp b m) (off b m)) (T.obj _ _ st)
  refine thnB hx (pg.run _ t2 σ H2 x u _ V2' rx (step x H2 y)) fun _ t3 ⟨σ3, H3, V3, e3, q3⟩ => thnB hx (pt.run _ t3 σ3 H3 _ V3 q3) fun b t4 ⟨H4, V4, q4⟩ => ?_
  cases b with
  | false => exact ⟨H4, DcAt.again (pl := fp) T st V4 e3, q4⟩
  | true =>
    refine thnB hx (pk.run _ t4 σ3 H4 _ V4 q4) fun kv t5 ⟨_, H5, V5, rk, q5⟩ => thnB hx (pv.run _ t5 σ3 H5 _ V5 q5) fun vv t6 ⟨_, H6, V6, rv, xs, k, q, ek, hD, hk, hq, hz, nx⟩ => ?_
    exact dcN_set hu V6 hD hk hq hz (ek ▸ rk) rv fun t7 V7 => ⟨_, DcAt.again (pl := fp) T st V7 e3, nx⟩
/-- all turns -/
theorem dcN_loop (hu : B.A.units + 64 < cLine) (hc : B.calm = true) (hp : B.pn = []) (hx : B.xe = fun _ _ => False) (hfp : ∀ b ∈ fp, b ∈ B.ex) (T : Turn B.prog B.w B.K tg J fp it tn) (pg : PG B tg g) (pt : PTs B ifs tt) (pk : PE B kx tk) (pv : PE B vx tv)
    {W : Nat → Nat → Hp → Prop} {Qe : Hp → Prop} {R : Result → Shared → Prop} (hW : ∀ i m H, W i m H → (J.stop i H ∧ Qe H) ∨ (J.go i H ∧ ∃ Nx : Hp → Prop, (∀ H', Nx H' → ∃ m', m' < m ∧ W (i + 1) m' H') ∧ ∀ x H', J.yld i H x H' → g x σ H' fun σ2 H2 => wipe σ2 vs = σ ∧ tt σ2 H2 fun b H3 =>
      if b = true then tk σ2 H3 fun y H4 => tv σ2 H4 fun z H5 => ∃ xs k q, y = .ref q ∧ H5 D = some (dtO B.prog B.w D xs) ∧ KeysOk B.prog B.w H5 xs ∧ NKey B.prog B.w H5 q k ∧ xs.length < sizeLine ∧ Nx (upd H5 D (dtO B.prog B.w D (putV xs k q z))) else Nx H3))
    (hR : ∀ H t, Inv B [] σ H t → Qe H → R (.ok .next) t) {i m : Nat} {H : Hp} {t : Shared} (S : DcAt B fp tn σ i H t) (w : W i m H) :
    codeAny (model B.prog B.w) B.A (.compLoop (.DictComp kx vx [⟨tg, iter, ifs, 0⟩] scope pos) 0 (.ref it) (.ref D) B.env) R t := by
  refine compLoop_anyD (fun m t => ∃ i H, DcAt B fp tn σ i H t ∧ W i m H) (fun m t ⟨i, H, S, w⟩ => ?_) m ⟨i, H, S, w⟩
  rcases hW i m H w with ⟨stop, q⟩ | ⟨go, Nx, less, step⟩
  · refine thnF (T.done B rfl rfl rfl hc i [] t σ H (fun _ _ => False) S.inv (fun b m => fp_in S.inv hp (hfp b m) (S.off b m)) S.it stop) fun r t1 ⟨er, V⟩ => ?_
    subst er
    exact hR H t1 V q
  · have on : ∀ {t'}, (∃ H', DcAt B fp tn σ (i + 1) H' t' ∧ Nx H') → ∃ m', m' < m ∧ ∃ i H, DcAt B fp tn σ i H t' ∧ W i m' H := fun ⟨H', S', nx⟩ =>
      have ⟨m', lt, w'⟩ := less H' nx
      ⟨m', lt, _, H', S', w'⟩
    refine dcN_turn (vs := vs) hu hc hp hx hfp T pg pt pk pv S go step fun u t1 h => ?_
    refine thn h fun _ _ h => thn h fun _ _ h => thn h fun ok _ h => ?_
    cases ok with
    | false => exact on h
    | true => exact thn h fun _ _ h => thn h fun _ _ h => thn h fun _ _ h => on h
end
/-- the whole: the iterator, the new dict, the block's own frame, then the turns -/
theorem dcN_core {pins : List (Addr × Obj)} {s : Shared} {σ : L2.St} {H : Hp} {Q : VK} {kx vx tg iter : Expr} {ifs : List Expr} {scope : Scope} {own : List (Str × Nat)} {pos pos' : Pos} {wi : TI} {g : TG} {tt : TT} {tk tv : TE} {use : Option (Value → Sem Unit)} {Qf : Value → Shared → Prop}
    (hu : X.A.units + 64 < cLine) (hc : X.calm = true) (hN : X.N.Nodup) (V : Inv X pins σ H s) (hi : PI X tg iter wi) (ok : BlkOk X.N X.env.scope scope own) (P : DcParts X scope kx vx tg ifs g tt tk tv) (hs : ∀ x, foldedSetIterable iter X.env x = pure x)
    (h : tDcN X.prog X.w wi g tt tk tv (own.map (·.2)) σ H Q)
    (hRR : ∀ D C s' m H', Inv X pins σ H' s' → Q (.ref D) H' → s'.heap.Ns C m → FpOk X pins H' C → compPost (model X.prog X.w) X.A X.xe use Qf (.ref D) C (.ok .next) s') :
    wpAny (model X.prog X.w) X.A (comprehension (.DictComp kx vx [⟨tg, iter, ifs, 0⟩] scope pos) scope X.env pos' newDict false (eval iter X.env) use) Qf X.xe s := by
  refine wpAny_comprehension_free (use := use) rfl hs (closure_ok fun y m e => V.ok.has _ (ok.free y m e)) ok.kind (fun y m e => e ▸ ok.uniq y m) ?_
  refine thn (hi.run pins s σ H _ V h) fun _ _ more => thn more fun _ t ⟨it, fp, tn, J, H1, eit, V1, T, st, ofp, q⟩ => ?_
  subst eit
  refine wpAny_newObj_type (newEnv_comp ?_)
  have ⟨W, ⟨m, w⟩, turns⟩ := q t.heap.objs.size (V1.hok.fresh (Nat.le_refl _))
  have V2 : Inv X pins σ (upd H1 t.heap.objs.size (dtO X.prog X.w t.heap.objs.size [])) { t with heap := t.heap.push { cls := .type "dict", data := .dict #[] } } :=
    V1.laid (t' := t.toks) (fun _ _ old => Heap.get?_push_of_some _ old) (Nat.le_refl _) (dtO_new (dn_empty t.heap V1.big))
  have low : ∀ b ∈ fp, b < t.heap.objs.size := fun b m => have ⟨_, at_, _⟩ := T.obj _ _ st b m; Heap.lt_size at_
  have off : ∀ b ∈ fp, upd H1 t.heap.objs.size (dtO X.prog X.w t.heap.objs.size []) b = none := fun b m => (upd_ne (Nat.ne_of_lt (low b m))).trans (ofp b m).1
  have fps : ∀ b ∈ fp, FpOk X pins (upd H1 t.heap.objs.size (dtO X.prog X.w t.heap.objs.size [])) b ∧ b < (t.heap.push { cls := .type "dict", data := .dict #[] }).objs.size := fun b m =>
    ⟨⟨off b m, (ofp b m).2⟩, Heap.size_push .. ▸ Nat.lt_succ_of_lt (low b m)⟩
  have V3 := block_start V2 ok hN fps
  have st' := T.keep _ _ (pushCells ((t.heap.push { cls := .type "dict", data := .dict #[] }).push { cls := .type "dict", data := .dict #[] }) scope.names) st fun b _ o at_ => pushCells_keeps _ _ _ _ (Heap.get?_push_of_some _ (Heap.get?_push_of_some _ at_))
  refine codeAny_compStart_dict ?loop (T.self X.A 0 _ _ _ st' ?loop)
  refine dcN_loop (B := X.blk _ _ scope _ fp) (vs := own.map (·.2)) hu hc rfl rfl (fun _ m => m) T (P.g ..) (P.t ..) (P.k ..) (P.v ..) turns (fun H' t' V' q' => ?_) ⟨V3, st', off⟩ w
  have back : Inv X pins σ H' t' := V2.call' (ch := fp) V'.os V'.base V'.hok V'.bare fun b m => have ⟨⟨_, a, _, c, d, e⟩, _⟩ := fps b m; ⟨c, a, d, e⟩
  have ⟨_, ns, _⟩ := V'.loc
  exact hRR _ _ t' _ H' back q' ns (V2.fpOk (Nat.le_refl _) V'.free)
/-- as a value -/
theorem pe_dcN {kx vx tg iter : Expr} {ifs : List Expr} {scope : Scope} {own : List (Str × Nat)} {pos : Pos} {wi : TI} {g : TG} {tt : TT} {tk tv : TE} (hu : X.A.units + 64 < cLine) (hc : X.calm = true) (hN : X.N.Nodup) (hi : PI X tg iter wi) (ok : BlkOk X.N X.env.scope scope own) (P : DcParts X scope kx vx tg ifs g tt tk tv)
    (hs : ∀ x, foldedSetIterable iter X.env x = pure x := by intro _; rfl) : PE X (.DictComp kx vx [⟨tg, iter, ifs, 0⟩] scope pos) (tDcN X.prog X.w wi g tt tk tv (own.map (·.2))) where
  run := fun pins s σ H Q V h => by
    rw [arm_eval_DictComp]
    exact dcN_core hu hc hN V hi ok P hs h fun D C t m H' V' q ns ⟨a, b, _, c, d, e⟩ => ⟨m, ns, fun _ only => ⟨.ref D, H', V'.turned (t' := t.toks) (fun z o n old => (only.2 z n).trans old) a b c d e, rfl, q⟩⟩
/-- name = {..} on one line, the name a local -/
theorem ps_setDcN {i : Nat} {y : Str} {py : Pos} {kx vx tg iter : Expr} {ifs : List Expr} {scope : Scope} {own : List (Str × Nat)} {pos spos : Pos} {wi : TI} {g : TG} {tt : TT} {tk tv : TE} (hu : X.A.units + 64 < cLine) (hc : X.calm = true) (hN : X.N.Nodup) (hy : X.N[i]? = some y) (hyl : X.env.scope.names.lookup y = some .local)
    (hsw : swapsWith (.DictComp kx vx [⟨tg, iter, ifs, 0⟩] scope pos) (some (.Name y py)) spos.line X.env = pure true) (hi : PI X tg iter wi) (ok : BlkOk X.N X.env.scope scope own) (P : DcParts X scope kx vx tg ifs g tt tk tv)
    (hs : ∀ x, foldedSetIterable iter X.env x = pure x := by intro _; rfl) : PS X (.Assign [.Name y py] (.DictComp kx vx [⟨tg, iter, ifs, 0⟩] scope pos) spos) (tAsg (tDcN X.prog X.w wi g tt tk tv (own.map (·.2))) (gName i)) where
  run := fun pins s σ H D V h => by
    rw [exec_Assign_Name_used _ _ _ _ hsw]
    refine wpAny_bind (wpAny_standAt (wpAny_bind (wpAny_bind (thn (Q := fun _ t => SP X pins D .next t) ?_ fun _ _ q => wpAny_pure (wpAny_pure q)))))
    refine dcN_core (Q := fun x H1 => gName i x σ H1 D.nx) hu hc hN V hi ok P hs h fun L C t m H' V' q ns ⟨a, b, _, c, d, e⟩ => ?_
    refine wpAny_assign_Name (store_ok2 (v := .ref L) V' hN hy (.inl hyl) rfl (fun t2 V2 ⟨z, only, own_⟩ => ?_) (.inr hyl))
    have apart : C ≠ z := own_.elim (fun e => e ▸ b) fun cell e => d y z cell e.symm
    exact ⟨m, ns.sameBut only apart, fun _ but => ⟨_, H', V2.turned (t' := t2.toks) (fun v o n old => (but.2 v n).trans old) a b c d e, q⟩⟩
end
section
variable {J : It} {n : Nat} {G : Hp → Prop} {Y : Nat → Hp → V → Hp → Prop}
theorem dcN_it {P : Program} {w' : World} (w : Walk J n G Y) {g : TG} {tt : TT} {tk tv : TE} {vs : List Nat} {σ : L2.St} {H1 : Hp} {D : Addr} {Qd : Hp → Prop} (Pv : Nat → Hp → Prop) (h0 : Pv 0 (upd H1 D (dtO P w' D []))) (hG : ∀ i H, i ≤ n → Pv i H → G H)
    (hs : ∀ i x H H', i < n → Pv i H → Y i H x H' → g x (wipe σ vs) H' fun σ2 H2 => wipe σ2 vs = wipe σ vs ∧ tt σ2 H2 fun b H3 =>
      if b = true then tk σ2 H3 fun y H4 => tv σ2 H4 fun z H5 => ∃ xs k q, y = .ref q ∧ H5 D = some (dtO P w' D xs) ∧ KeysOk P w' H5 xs ∧ NKey P w' H5 q k ∧ xs.length < sizeLine ∧ Pv (i + 1) (upd H5 D (dtO P w' D (putV xs k q z))) else Pv (i + 1) H3) (hd : ∀ H, Pv n H → Qd H) :
    ∃ W : Nat → Nat → Hp → Prop, (∃ m, W 0 m (upd H1 D (dtO P w' D []))) ∧ ∀ i m H, W i m H →
      (J.stop i H ∧ Qd H) ∨ (J.go i H ∧ ∃ Nx : Hp → Prop, (∀ H', Nx H' → ∃ m', m' < m ∧ W (i + 1) m' H') ∧ ∀ x H', J.yld i H x H' → g x (wipe σ vs) H' fun σ2 H2 => wipe σ2 vs = wipe σ vs ∧ tt σ2 H2 fun b H3 =>
        if b = true then tk σ2 H3 fun y H4 => tv σ2 H4 fun z H5 => ∃ xs k q, y = .ref q ∧ H5 D = some (dtO P w' D xs) ∧ KeysOk P w' H5 xs ∧ NKey P w' H5 q k ∧ xs.length < sizeLine ∧ Nx (upd H5 D (dtO P w' D (putV xs k q z))) else Nx H3) := by
  refine ⟨fun i m H => m = n - i ∧ i ≤ n ∧ Pv i H, ⟨n, by simp, Nat.zero_le _, h0⟩, ?_⟩
  rintro i m H ⟨rfl, hi, p⟩
  have q := hG i H hi p
  by_cases hlt : i < n
  · exact .inr ⟨w.goes i H hlt q, Pv (i + 1), fun H' p' => ⟨n - (i + 1), by omega, rfl, hlt, p'⟩, fun x H' y => hs i x H H' hlt p (w.yields i H x H' hlt q y)⟩
  · have e : i = n := by omega
    subst e
    exact .inl ⟨w.stops H q, hd H p⟩
end
variable [HasK]
section
variable {c : Cc} {e kx vx tg iter : Expr} {ifs : List Expr} {dk dv : DE} {pos : Pos} {tk tv : TE} {tt : TT} {d : DT} {scope : Scope}
/-- the entries that come out -/
def compM (g : DG) (d : DT) (dk dv : DE) (δ : DEnv) : List (D × D) → List D → Res (List (D × D))
  | es, [] => .ok es
  | es, x :: xs => match g x δ with
    | none => .stuck
    | some δ1 => match d δ1 with
      | .ok true => (match dk δ1 with
        | .ok kd => (match dv δ1 with
          | .ok v => (match keyT kd with
            | some k => compM g d dk dv δ (putTD es k kd v) xs
            | none => .stuck)
          | _ => .stuck)
        | _ => .stuck)
      | .ok false => compM g d dk dv δ es xs
      | _ => .stuck
def dDc (di : DI) (g : DG) (d : DT) (dk dv : DE) (vs : List Nat) : DE := fun δ => (di δ).bind fun xs => if Sz xs.length then (compM g d dk dv (wipeD δ vs) [] xs).bind fun es => .ok (.dict ((.none, .none) :: es)) else .stuck
theorem putTD_len (es : List (D × D)) (k : NestedKey) (kd v : D) : (putTD es k kd v).length ≤ es.length + 1 := by
  unfold putTD
  split
  · rw [List.length_map]; omega
  · rw [List.length_append]; simp
theorem dc_run {c' : Cc} {w : TI} {di : DI} {g : TG} {dg : DG} {vs : List Nat} (hi : Sim RI c w di) (hF : c'.F0 = c.F0) (hH : c'.H0 = c.H0) (hg : SimG c' g dg) (hst : Stays g vs) (ht : Sim RT c' tt d) (hk : Sim RF c' tk dk) (he : Sim RF c' tv dv)
    {F H : Hp} {σ : L2.St} {δ : DEnv} {Q : VK}
    (S : Sr c.F0 c.H0 F H σ δ)
    (hP : ∀ xs, di δ = .ok xs → Sz xs.length ∧ ∃ ys, compM dg d dk dv (wipeD δ vs) [] xs = .ok ys ∧ ∀ D F1 H1 zs, Step F H F1 H1 → H D = none → F1 D = none → H1 D = some (dtO HasK.P HasK.w D zs) → RpT F1 zs ys → Q (.ref D) H1)
    (hx : ∀ n p, di δ = .exc n p → XPost HasK.mg c.W F H σ n p) (hs : di δ ≠ .stuck) : tDcN HasK.P HasK.w w g tt tk tv vs σ H Q := by
  refine hi F H σ δ _ S ?_
  cases q : di δ with
  | stuck => exact absurd q hs
  | exc n p => exact hx n p q
  | ok items =>
    obtain ⟨hsz, ys, hc, hQ⟩ := hP items q
    intro J F1 H1 s1 hJ D hD
    obtain ⟨G, Y, hw, hG, hY⟩ := hJ
    have S1 := S.step s1
    have Sw0 : Sr c'.F0 c'.H0 F1 H1 (L2.wipe σ vs) (wipeD δ vs) := by
      rw [hF, hH]
      exact S1.wipe vs
    have hD0 : H D = none := s1.hh.back hD
    have hDH : c'.H0 D = none := by
      rw [hH]
      exact S1.st.hh.back hD
    have hown : ∀ (j : Nat) e, (wipeD δ vs)[j]? = some (.own e) → (L2.wipe σ vs)[j]? ≠ some (some (.ref D)) := fun j e hj hs => by
      obtain ⟨a, h1, h2, h3, h4⟩ := Sw0.own j e hj
      rw [hs] at h1
      cases h1
      exact h4.there hD
    have Sw : Sr c'.F0 c'.H0 F1 (upd H1 D (dtO HasK.P HasK.w D [])) (L2.wipe σ vs) (wipeD δ vs) := Sw0.poke (S1.fh.back hD) hDH hown (Sw0.noD hD H1 (.refl _))
    refine dcN_it hw (fun i H' => ∃ F' zs as, Step F1 H1 F' H' ∧ F' D = none ∧ Sr c'.F0 c'.H0 F' H' (L2.wipe σ vs) (wipeD δ vs) ∧ H' D = some (dtO HasK.P HasK.w D zs) ∧ RpT F' zs as ∧ zs.length ≤ i ∧ compM dg d dk dv (wipeD δ vs) as (items.drop i) = .ok ys)
      ⟨F1, [], [], Step.side S1.fh _ hD, S1.fh.back hD, Sw, upd_same, .nil, Nat.le_refl _, hc⟩ (fun i H' _ p => ?_) (fun i x H' H2 hi p hy => ?_) (fun H' p => ?_)
    · obtain ⟨F', zs, as, k1, k2, k3, _⟩ := p
      exact hG F' H' k1.ff k1.fh
    · obtain ⟨F', zs, as, k1, k2, k3, k4, k5, k6, k7⟩ := p
      obtain ⟨z, F3, hz, s3, hx3⟩ := hY i F' H' x H2 hi k1.ff k1.fh hy
      have hdrop : items.drop i = z :: items.drop (i + 1) := by
        rw [List.drop_eq_getElem_cons hi]
        congr 1
        rw [List.getElem?_eq_getElem hi] at hz
        exact Option.some.inj hz
      rw [hdrop] at k7
      unfold compM at k7
      have kD : ∀ {F4 H4 : Hp}, Step F' H' F4 H4 → F4 D = none ∧ H4 D = some (dtO HasK.P HasK.w D zs) := fun {F4 H4} s => ⟨s.keepNone k2 (by rw [k4]; exact fun z => nomatch z), s.hh _ _ k4⟩
      have fresh : ∀ {F4 H4 : Hp}, Step F' H' F4 H4 → Step F1 H1 F4 H4 := fun {F4 H4} s => k1.trans s
      split at k7
      · cases k7
      · rename_i δ1 hd1
        refine hst x _ H2 (fun σ2 H3 => H3 = H2 ∧ Sr c'.F0 c'.H0 F3 H2 σ2 δ1) _ (hg F3 H2 _ _ x z δ1 _ (k3.step s3) hx3 hd1 fun σ' S' => ⟨rfl, S'⟩) fun σ2 H3 hq hwp => ?_
        obtain ⟨rfl, S2⟩ := hq
        refine ⟨hwp.trans (wipe_wipe σ vs), ?_⟩
        split at k7
        · -- the test holds
          rename_i htrue
          refine ht F3 H3 σ2 δ1 _ S2 ?_
          rw [htrue]
          intro b F4 H4 s4 hb
          subst hb
          refine iteT (hk F4 H4 σ2 δ1 _ (S2.step s4) ?_)
          split at k7
          · rename_i kd hkd
            rw [hkd]
            intro kv F5 H5 s5 hkv
            refine he F5 H5 σ2 δ1 _ ((S2.step s4).step s5) ?_
            split at k7
            · rename_i y hy2
              rw [hy2]
              intro v F6 H6 s6 hv
              have st := ((s3.trans s4).trans s5).trans s6
              obtain ⟨kF, kH⟩ := kD st
              split at k7
              · rename_i k hkk
                obtain ⟨⟨ds, rfl⟩, hn1, hn2⟩ := keyT_of hkk
                have hkv6 := hkv.mono s6.ff
                have ex6 : Ex F6 H6 := ((S2.step s4).step s5 |>.step s6).fh
                obtain ⟨b, us, rfl, _, _⟩ := (show Bw F6 H6 kv (.tuple ds) from .inl hkv6).tup ex6
                have k5' := k5.mono st.ff
                refine ⟨zs, k, b, rfl, kH, k5'.keys ex6, hkv6.nkey ex6 hn1 hn2, ?_, F6, putV zs k b v, _, ?_, kF, ?_, upd_same, k5'.put hkv6 hn1 hn2 hv, ?_, k7⟩
                · have h9 : zs.length < items.length := Nat.lt_of_le_of_lt k6 hi
                  exact Nat.lt_trans h9 hsz.lt
                · have kk := fresh st
                  exact ⟨kk.ff, kk.fh.over kF, kk.hh.over hD, kk.new⟩
                · exact (k3.step st).poke kF hDH hown (Sw0.noD hD _ (fresh st).hh)
                · have := putV_len zs k b v
                  omega
              · cases k7
            · cases k7
          · cases k7
        · rename_i hfalse
          refine ht F3 H3 σ2 δ1 _ S2 ?_
          rw [hfalse]
          intro b F4 H4 s4 hb
          subst hb
          have st := s3.trans s4
          obtain ⟨kF, kH⟩ := kD st
          exact iteF ⟨F4, zs, as, fresh st, kF, k3.step st, kH, k5.mono st.ff, Nat.le_succ_of_le k6, k7⟩
        · cases k7
    · obtain ⟨F', zs, as, k1, k2, k3, k4, k5, k6, k7⟩ := p
      rw [List.drop_of_length_le (Nat.le_refl _)] at k7
      cases k7
      exact hQ D F' H' zs (s1.trans k1) hD0 k2 k4 k5
theorem compM_noexc {g : DG} {n : Str} {p : Option (Str × D)} {δ : DEnv} : ∀ {xs : List D} {es : List (D × D)}, compM g d dk dv δ es xs ≠ .exc n p
  | [], es, h => by cases h
  | x :: xs, es, h => by
    unfold compM at h
    repeat' split at h
    all_goals first | (cases h; done) | exact compM_noexc h
theorem simN_dc {c' : Cc} {w : TI} {di : DI} {g : TG} {dg : DG} {vs : List Nat} (hi : Sim RI c w di) (hF : c'.F0 = c.F0) (hH : c'.H0 = c.H0) (hg : SimG c' g dg) (hst : Stays g vs) (ht : Sim RT c' tt d) (hk : Sim RF c' tk dk) (he : Sim RF c' tv dv) : SimN c (tDcN HasK.P HasK.w w g tt tk tv vs) (dDc di dg d dk dv vs) := fun F H σ δ Q S P => by
  have hn : dDc di dg d dk dv vs δ ≠ .stuck := fun q => by rw [q] at P; exact P
  unfold dDc at P hn
  refine dc_run hi hF hH hg hst ht hk he S (fun xs q => ?_) (fun n p q => by rw [q] at P; exact P) (fun q => hn (by rw [q]; rfl))
  rw [q] at P hn
  have e : ∀ f : List D → Res D, Res.bind (.ok xs) f = f xs := fun f => rfl
  rw [e] at P hn
  by_cases hs : Sz xs.length
  · rw [if_pos hs] at P hn
    refine ⟨hs, ?_⟩
    cases q2 : compM dg d dk dv (wipeD δ vs) [] xs with
    | ok es =>
      rw [q2] at P
      exact ⟨es, rfl, fun D F1 H1 zs s1 h1 h2 h3 h4 => P D F1 H1 s1 h1 h2 (.inr ⟨zs, es, h3, h4, rfl⟩)⟩
    | exc n p => exact absurd q2 compM_noexc
    | stuck => rw [q2] at hn; exact absurd rfl hn
  · rw [if_neg hs] at hn; exact absurd rfl hn
/-- y = {..} on one line, y a local name -/
theorem js_setDcN {i : Nat} {y : Str} {py spos : Pos} {vs : List Nat} {w : TI} {di : DI} {g : TG} {dg : DG} (hu : c.X.A.units + 64 < cLine) (own : List (Str × Nat)) (hvs : own.map (·.2) = vs) (hc : c.X.calm = true) (hN : c.X.N.Nodup) (hi : JI c tg iter w di) (ok : BlkOk c.X.N c.X.env.scope scope own) (hst : Stays g vs)
    (hg : ∀ (s : Shared) (H : Hp) (C : Addr) (cl : List (Str × Addr)) (fp : List Addr), JG (c.blk s H scope C cl fp) tg g dg)
    (ht : ∀ (s : Shared) (H : Hp) (C : Addr) (cl : List (Str × Addr)) (fp : List Addr), JTs (c.blk s H scope C cl fp) ifs tt d)
    (hk : ∀ (s : Shared) (H : Hp) (C : Addr) (cl : List (Str × Addr)) (fp : List Addr), JE (c.blk s H scope C cl fp) kx tk dk)
    (he : ∀ (s : Shared) (H : Hp) (C : Addr) (cl : List (Str × Addr)) (fp : List Addr), JE (c.blk s H scope C cl fp) vx tv dv)
    (hsw : swapsWith (.DictComp kx vx [⟨tg, iter, ifs, 0⟩] scope pos) (some (.Name y py)) spos.line c.X.env = pure true) (hy : c.X.N[i]? = some y := by rfl) (hyl : c.X.env.scope.names.lookup y = some .local := by rfl)
    (hs : ∀ x, foldedSetIterable iter c.X.env x = pure x := by intro _; rfl) :
    JS c (.Assign [.Name y py] (.DictComp kx vx [⟨tg, iter, ifs, 0⟩] scope pos) spos) (tAsg (tDcN HasK.P HasK.w w g tt tk tv vs) (gName i)) (dSetN i (dDc di dg d dk dv vs)) := by
  subst hvs
  have p := ps_setDcN hu hc hN hy hyl hsw hi.p ok ⟨fun s H C cl fp => (hg s H C cl fp).p, fun s H C cl fp => (ht s H C cl fp).p, fun s H C cl fp => (hk s H C cl fp).p, fun s H C cl fp => (he s H C cl fp).p⟩ hs
  rw [c.hP, c.hw] at p
  exact ⟨p, sim_setN (simN_dc (c' := c.blk c.X.s_0 c.H0 scope 0 [] []) hi.s rfl rfl (hg _ _ _ _ _).s hst (ht _ _ _ _ _).s (hk _ _ _ _ _).s (he _ _ _ _ _).s)⟩
end
end RD

end
section
namespace RD
open PySem L2
variable [HasK]
section
variable {c : Cc} {e a b kx vx tg iter : Expr} {ifs : List Expr} {da db dv dk : DE} {pos : Pos} {ta tb te tk tv : TE} {tt : TT} {d : DT} {scope : Scope} {w : TI} {di : DI} {g : TG} {dg : DG}
/-- {..} as a new dict -/
theorem jn_dc {vs : List Nat} (hu : c.X.A.units + 64 < cLine) (own : List (Str × Nat)) (hvs : own.map (·.2) = vs) (hc : c.X.calm = true) (hN : c.X.N.Nodup) (hi : JI c tg iter w di) (ok : BlkOk c.X.N c.X.env.scope scope own) (hst : Stays g vs)
    (hg : ∀ (s : Shared) (H : Hp) (C : Addr) (cl : List (Str × Addr)) (fp : List Addr), JG (c.blk s H scope C cl fp) tg g dg)
    (ht : ∀ (s : Shared) (H : Hp) (C : Addr) (cl : List (Str × Addr)) (fp : List Addr), JTs (c.blk s H scope C cl fp) ifs tt d)
    (hk : ∀ (s : Shared) (H : Hp) (C : Addr) (cl : List (Str × Addr)) (fp : List Addr), JE (c.blk s H scope C cl fp) kx tk dk)
    (he : ∀ (s : Shared) (H : Hp) (C : Addr) (cl : List (Str × Addr)) (fp : List Addr), JE (c.blk s H scope C cl fp) vx tv dv)
    (hs : ∀ x, foldedSetIterable iter c.X.env x = pure x := by intro _; rfl) : JN c (.DictComp kx vx [⟨tg, iter, ifs, 0⟩] scope pos) (tDcN HasK.P HasK.w w g tt tk tv vs) (dDc di dg d dk dv vs) := by
  subst hvs
  have p := pe_dcN (pos := pos) hu hc hN hi.p ok ⟨fun s H C cl fp => (hg s H C cl fp).p, fun s H C cl fp => (ht s H C cl fp).p, fun s H C cl fp => (hk s H C cl fp).p, fun s H C cl fp => (he s H C cl fp).p⟩ hs
  rw [c.hP, c.hw] at p
  exact ⟨p, simN_dc (c' := c.blk c.X.s_0 c.H0 scope 0 [] []) hi.s rfl rfl (hg _ _ _ _ _).s hst (ht _ _ _ _ _).s (hk _ _ _ _ _).s (he _ _ _ _ _).s⟩
/-- x[a], x[b] = e, x a list of one's own -/
def dSwp (i : Nat) (dv da db : DE) : DS := fun δ => (dv δ).out δ fun z => match z with
  | .tuple [x, y] => (match δ[i]? with
    | some (.own (.list xs)) => (da δ).out δ fun k => Opt.out (setD xs x k) fun ys => (db (δ.set i (.own (.list ys)))).out (δ.set i (.own (.list ys))) fun k2 => Opt.out (setD ys y k2) fun zs => .next ((δ.set i (.own (.list ys))).set i (.own (.list zs)))
    | _ => .stuck)
  | _ => .stuck
theorem sub_go {i : Nat} {F H : Hp} {σ : L2.St} {δ : DEnv} {D : Ends} {xs : List PySem.PyData} {v : V} {z : PySem.PyData} {r : List PySem.PyData → Out} {Q : L2.St → Hp → Prop} (S : Sr c.F0 c.H0 F H σ δ) (hxs : δ[i]? = some (.own (.list xs))) (ha : Sim RF c ta da) (hv : Rp F v z)
    (P : PostS c F D ((da δ).out δ fun k => Opt.out (setD xs z k) r))
    (k : ∀ F' H' ys, Ex F F' → Sr c.F0 c.H0 F' H' σ (δ.set i (.own (.list ys))) → PostS c F' D (r ys) → Q σ H') : gSub (tVar i) ta (rSetA HasK.P HasK.w) v σ H Q := by
  obtain ⟨l, vs, h1, h2, h3⟩ := S.var hxs
  refine ⟨.ref l, h1, ha.gos S P fun F2 H2 kk kd s2 S2 hk P2 => outO P2 fun ys hy P3 => ?_⟩
  obtain ⟨vs', h2', h3'⟩ := S2.var2 hxs h1
  cases kd with
  | int n =>
    cases hk
    obtain ⟨j, hj, rfl⟩ := Option.map_eq_some_iff.mp hy
    exact .inl ⟨l, vs', n, j, rfl, rfl, h2', by rw [h3'.len]; exact hj, k F2 _ _ s2.ff (S2.write hxs h1 ⟨_, upd_same, h3'.set (hv.mono s2.ff) j⟩) P3⟩
  | _ => cases hy
theorem own_get {δ : DEnv} {i : Nat} {s t : Sl} (h : δ[i]? = some s) : (δ.set i t)[i]? = some t := by
  rw [List.getElem?_set_self (List.getElem?_eq_some_iff.mp h).1]
theorem js_swp {i : Nat} {x : Str} {p1 p2 sp1 sp2 pt : Pos} {kt : Nat} (hu : c.X.A.units + 64 < cLine) (hc : c.X.calm = true) (he : JE c e te dv) (ha : JE c a ta da) (hb : JE c b tb db) (hN : c.X.N[i]? = some x := by rfl) (hv : Vis c.X.env.scope x := by first | exact Or.inl rfl | exact Or.inr (Or.inl rfl) | exact Or.inr (Or.inr rfl))
    (hd : (x == ("__debug__" : Str)) = false := by decide) (hcd : (x == ("__classdict__" : Str)) = false := by decide)
    (hg1 : PE c.X (.Name x p1) (tVar i) → PE c.X a ta → PSet c.X (rSetA c.X.prog c.X.w) → PG c.X (.Subscript (.Name x p1) a sp1) (gSub (tVar i) ta (rSetA c.X.prog c.X.w)) := by exact fun h1 h2 h3 => pg_sub h1 h2 h3)
    (hg2 : PE c.X (.Name x p2) (tVar i) → PE c.X b tb → PSet c.X (rSetA c.X.prog c.X.w) → PG c.X (.Subscript (.Name x p2) b sp2) (gSub (tVar i) tb (rSetA c.X.prog c.X.w)) := by exact fun h1 h2 h3 => pg_sub h1 h2 h3)
    (hp : ∀ {gs : TGs}, PGs c.X [.Subscript (.Name x p1) a sp1, .Subscript (.Name x p2) b sp2] gs → PG c.X (.Tuple [.Subscript (.Name x p1) a sp1, .Subscript (.Name x p2) b sp2] kt pt) (gTup c.X.K 2 gs) := by exact fun a => pg_tup rfl a)
    (hq : ∀ {g1 g2 : TG}, PG c.X (.Subscript (.Name x p1) a sp1) g1 → PG c.X (.Subscript (.Name x p2) b sp2) g2 → PGs c.X [.Subscript (.Name x p1) a sp1, .Subscript (.Name x p2) b sp2] (gCons g1 (gCons g2 gNil)) := by exact fun a b => pgs_cons a (pgs_cons b pgs_nil))
    (hs : swapsWithSole [.Tuple [.Subscript (.Name x p1) a sp1, .Subscript (.Name x p2) b sp2] kt pt] e pos.line c.X.env = pure false := by rfl) (hw : swappedStores [.Tuple [.Subscript (.Name x p1) a sp1, .Subscript (.Name x p2) b sp2] kt pt] e c.X.env = pure none := by rfl) :
    JS c (.Assign [.Tuple [.Subscript (.Name x p1) a sp1, .Subscript (.Name x p2) b sp2] kt pt] e pos) (tAsg te (gTup HasK.K 2 (gCons (gSub (tVar i) ta (rSetA HasK.P HasK.w)) (gCons (gSub (tVar i) tb (rSetA HasK.P HasK.w)) gNil)))) (dSwp i dv da db) := by
  refine ⟨?_, fun F H σ δ D S P => he.s.gos S P fun F1 H1 v z s1 S1 hz P1 => ?_⟩
  · rw [← c.hP, ← c.hw, ← c.hK]
    have st := PSet.or set_list (set_dict hu)
    exact ps_asg he.p (hp (hq (hg1 (pe_var hN hv hd hcd) ha.p st) (hg2 (pe_var hN hv hd hcd) hb.p st))) hs hw
  · split at P1
    · rename_i x0 y0
      split at P1
      · rename_i xs hxs
        cases hz with
        | tup hg hr =>
          cases hr with
          | cons r1 hr =>
            cases hr with
            | cons r2 hr =>
              cases hr
              refine ⟨_, _, rfl, sqT (hg.mono S1.fh), rfl, _, _, rfl, sub_go S1 hxs ha.s r1 P1 fun F2 H2 ys e2 S2 P2 => ?_⟩
              refine ⟨_, _, rfl, sub_go S2 (own_get hxs) hb.s (r2.mono e2) P2 fun F3 H3 zs e3 S3 P3 => ?_⟩
              exact ⟨rfl, P3 σ F3 H3 (.refl _) S3⟩
      · exact P1.elim
    · exact P1.elim
end
/-! ### enumerate(list) -/
section
variable {c : Cc} {e : Expr} {pos : Pos} {tr : TA} {dr : DA}
def dEnumL (dr : DA) : DI := fun δ => (dr δ).bind fun xs => match xs with
  | [.list x] => .ok (enumD x)
  | _ => .stuck
theorem ri_enumL {K : PySem.W.Frag} {F H : Hp} {a : Addr} {xs : List V} {ds : List D} (h : F a = some (.lst xs)) (r : RpAll F xs ds) : RI F H (Ite K a) (enumD ds) := by
  refine ⟨_, _, by rw [enumD_len, ← r.len]; exact walk_enum, fun F2 H2 e1 e2 => sqL (e2 _ _ (e1 _ _ h)), fun i F2 H2 x H3 hi e1 e2 hy => ?_⟩
  obtain ⟨T, x, y, rfl, hT, rfl, h1, h2⟩ := hy
  cases h1
  obtain ⟨d, hd, hr⟩ := r.getV h2
  obtain ⟨s1, s2⟩ := pair_step (d := .int (i : Int)) e2 hT (.int _) (hr.mono e1)
  exact ⟨_, _, by unfold enumD; rw [List.getElem?_mapIdx, hd]; rfl, s1, s2⟩
theorem ji_enumL {p tpos : Pos} {elts : List Expr} {kk : Nat} (hg : Gl c.X "enumerate") (hm : c.X.mg "enumerate" = none) (ha : JA c [e] tr dr) (hs : starEach [e] c.X.env = [(false, eval e c.X.env)] := by rfl) :
    JI c (.Tuple elts kk tpos) (.Call (.Name "enumerate" p) [e] [] pos) (iEnum HasK.K tr) (dEnumL dr) := by
  rw [← c.hK]
  exact ⟨pi_enum hg hm ha.p hs, fun F H σ δ Q S P => ha.s.go S P fun F1 H1 xs zs s1 S1 hx P1 => by
    split at P1
    · cases hx with
      | cons h1 hn =>
        cases hn
        cases h1 with
        | lst x1 r1 => exact ⟨_, _, rfl, sqL (S1.fh _ _ x1), P1 _ F1 H1 (.refl S1.fh) (ri_enumL x1 r1)⟩
    · exact P1.elim⟩
end
end RD

end
section
namespace RD
open PySem L2
variable [HasK]
/-! ### except C as e: o = isinstance(e, A1) or isinstance(e, A2) or isinstance(e, A3); return s1 if isinstance(e, B) and not o else s2 -/
structure Hd2 where
  c : Str
  a1 : Str
  a2 : Str
  a3 : Str
  b : Str
  s1 : Str
  s2 : Str
def ts2 (K : PySem.W.Frag) (i j : Nat) (A1 A2 A3 B : Addr) (s1 s2 : Str) : TSx := fun a cls d D σ H => ∃ Dc, cls = .ref Dc ∧ d = none ∧ ExcC K Dc ∧
  tSeq (tAsg (tOrV (tIsE K Dc a i A1) (tOrV (tIsE K Dc a i A2) (tIsE K Dc a i A3))) (gName j)) (tRet (tIf (tAnd (L2.tB (tIsE K Dc a i B)) (tNot (L2.tB (tVar j)))) (tC (.str s1)) (tC (.str s2)))) D σ H
section
variable {X : Cx} {n o : Str} {i j : Nat}
theorem suite2 {A1 A2 A3 B : Addr} {s1 s2 x1 x2 x3 xb : Str} {j1 j2 : Nat} {op q1 q2 q3 q4 q5 q6 q7 q8 u1 u2 u3 u4 v1 v2 v3 v4 w1 w2 w3 w4 y1 y2 y3 y4 z1 : Pos} (nd : X.N.Nodup) (hg : Gl X "isinstance") (hm : X.mg "isinstance" = none) (hN : X.N[i]? = some n) (hv : Vis X.env.scope n) (hd : (n == ("__debug__" : Str)) = false) (hcd : (n == ("__classdict__" : Str)) = false)
    (hNo : X.N[j]? = some o) (hlo : X.env.scope.names.lookup o = some .local) (hdo : (o == ("__debug__" : Str)) = false) (hcdo : (o == ("__classdict__" : Str)) = false)
    (g1 : Gl X x1) (m1 : X.mg x1 = some (.ref A1)) (d1 : (x1 == ("__debug__" : Str)) = false) (g2 : Gl X x2) (m2 : X.mg x2 = some (.ref A2)) (d2 : (x2 == ("__debug__" : Str)) = false) (g3 : Gl X x3) (m3 : X.mg x3 = some (.ref A3)) (d3 : (x3 == ("__debug__" : Str)) = false)
    (gb : Gl X xb) (mb : X.mg xb = some (.ref B)) (db : (xb == ("__debug__" : Str)) = false)
    (hsw : swapsWith (.BoolOp .Or [.Call (.Name "isinstance" u1) [.Name n u2, .Name x1 u3] [] u4, .Call (.Name "isinstance" v1) [.Name n v2, .Name x2 v3] [] v4, .Call (.Name "isinstance" w1) [.Name n w2, .Name x3 w3] [] w4] q7) (some (.Name o op)) q8.line X.env = pure false)
    (a : Addr) (oe : Obj) (cls : Value) (d : Option Addr) (pn : List (Addr × Obj)) (hz : Zc cls d oe) (hf : ∃ vs, oe.data = .fields vs) :
    PSs (X.suite a ((a, oe) :: pn)) [.Assign [.Name o op] (.BoolOp .Or [.Call (.Name "isinstance" u1) [.Name n u2, .Name x1 u3] [] u4, .Call (.Name "isinstance" v1) [.Name n v2, .Name x2 v3] [] v4, .Call (.Name "isinstance" w1) [.Name n w2, .Name x3 w3] [] w4] q7) q8,
      .Return (some (.IfExp (.BoolOp .And [.Call (.Name "isinstance" y1) [.Name n y2, .Name xb y3] [] y4, .UnaryOp .Not (.Name o z1) q1] q2) (.Constant (.str s1) j1 q3) (.Constant (.str s2) j2 q4) q5)) q6] (ts2 X.K i j A1 A2 A3 B s1 s2 a cls d) := by
  refine ⟨fun pins s σ H D I h => ?_⟩
  obtain ⟨Dc, rfl, rfl, E, h⟩ := h
  refine (pss_cons (ps_set (X := X.suite a ((a, oe) :: pn)) nd hNo (.inl hlo) (pe_or (pe_isE hg hm hN hv hd hcd g1 m1 d1 E hz hf) (pe_or (pe_isE hg hm hN hv hd hcd g2 m2 d2 E hz hf) (pe_one (pe_isE hg hm hN hv hd hcd g3 m3 d3 E hz hf)))) hsw (.inr hlo))
    (pss_one (ps_ret (pe_ifExp (PW.pt (pw_and (pt_val (pe_isE hg hm hN hv hd hcd gb mb db E hz hf) (fun _ => rfl)) (pw_and1 (pt_not (pt_val (pe_var (X := X.suite a ((a, oe) :: pn)) hNo (.inl hlo) hdo hcdo) (fun _ => rfl)))))) pe_str pe_str)))).run pins s σ H D I h
end
def handle2 (h : Hd2) (n : Str) : Option Str := if subB n h.c then some (if subB n h.b && !(subB n h.a1 || (subB n h.a2 || subB n h.a3)) then h.s1 else h.s2) else none
def dTry2 (i j : Nat) (ds : DS) (known : List Str) (h : Hd2) : DS := fun δ => match ds δ with
  | .exc n none δ' => if n ∈ known ∧ i < δ'.length ∧ j < δ'.length then (match handle2 h n with
    | some s => .ret (.str s)
    | none => .exc n none δ') else .stuck
  | .exc _ (some _) _ => .stuck
  | o => o
def hdL2 (i j : Nat) (h : Hd2) : List (Value × TSx) := [(.ref (clA HasK.mg h.c), ts2 HasK.K i j (clA HasK.mg h.a1) (clA HasK.mg h.a2) (clA HasK.mg h.a3) (clA HasK.mg h.b) h.s1 h.s2)]
theorem isE_go {K : PySem.W.Frag} {Dc a C : Addr} {i : Nat} {σ : L2.St} {H : Hp} {b : Bool} {Q : VK} (hs : σ[i]? = some (some (V.ref a))) (x : PySem.W.kitOne K (.ref Dc) (.ref C) = some b) (q : Q (.bl b) H) : tIsE K Dc a i C σ H Q :=
  ⟨_, hs, .ref C, .ref C, b, rfl, fun u hu => hu, x, q⟩
section
variable {c : Cc} {n o : Str} {i j : Nat} {h : Hd2} {known : List Str} {body : List Stmt} {pos : Pos} {ds : DS}
theorem try_reads2 (hij : i ≠ j) (T : ExK c.X.K c.X.mg known) (kc : h.c ∈ known) (k1 : h.a1 ∈ known) (k2 : h.a2 ∈ known) (k3 : h.a3 ∈ known) (kb : h.b ∈ known) {D : Ends} {σ : L2.St} {H : Hp} (hh : tDat c.F0 c.H0 c.W (dTry2 i j ds known h) (PostS c) D σ H) :
    tDat c.F0 c.H0 (wAll HasK.K c.W D i (hdL2 i j h)) ds (PostS ⟨c.X, c.F0, c.H0, wAll HasK.K c.W D i (hdL2 i j h), c.hK, c.hM, c.hP, c.hw⟩) D σ H := by
  obtain ⟨F, δ, S, P⟩ := hh
  refine ⟨F, δ, S, ?_⟩
  have e1 : clA HasK.mg = clA c.X.mg := by rw [c.hM]
  unfold dTry2 at P
  cases q : ds δ with
  | next δ' => rw [q] at P; exact P
  | ret r => rw [q] at P; exact P
  | brk δ' => rw [q] at P; exact P
  | cont δ' => rw [q] at P; exact P
  | stuck => rw [q] at P; exact P
  | exc m pl δ' =>
    rw [q] at P
    cases pl with
    | some y => exact P.elim
    | none =>
      have P2 : PostS c F D (if m ∈ known ∧ i < δ'.length ∧ j < δ'.length then (match handle2 h m with | some s => .ret (.str s) | none => .exc m none δ') else .stuck) := P
      by_cases hm' : m ∈ known ∧ i < δ'.length ∧ j < δ'.length
      · rw [if_pos hm'] at P2
        obtain ⟨hm, hil, hjl⟩ := hm'
        intro σ' F' H' e' S'
        show wAll HasK.K c.W D i (hdL2 i j h) (.ref (clA HasK.mg m)) none σ' H'
        have xc := T.exm m hm h.c kc
        have x1 := T.kit m hm h.a1 k1
        have x2 := T.kit m hm h.a2 k2
        have x3 := T.kit m hm h.a3 k3
        have xb := T.kit m hm h.b kb
        have x4 := (T.cls m hm).1
        rw [← e1, c.hK] at xc x1 x2 x3 xb x4
        refine ⟨subB m h.c, xc, fun hb2 a na => ?_, fun hb2 => ?_⟩
        · have Q2 : PostS c F D (.ret (.str (if subB m h.b && !(subB m h.a1 || (subB m h.a2 || subB m h.a3)) then h.s1 else h.s2))) := by
            have e2 : handle2 h m = some (if subB m h.b && !(subB m h.a1 || (subB m h.a2 || subB m h.a3)) then h.s1 else h.s2) := if_pos hb2
            rw [e2] at P2
            exact P2
          refine ⟨_, rfl, rfl, x4, ?_⟩
          have hs : (σ'.set i (some (.ref a)))[i]? = some (some (V.ref a)) := set_at (by rw [S'.len]; exact hil)
          have fin : ∀ s, s = (if subB m h.b && !(subB m h.a1 || (subB m h.a2 || subB m h.a3)) then h.s1 else h.s2) → D.rt (.str s) H' := fun s es => by
            subst es
            exact Q2 _ F' H' e' S'.st (.str _)
          have rest : ∀ ob : Bool, ob = (subB m h.a1 || (subB m h.a2 || subB m h.a3)) → tRet (tIf (tAnd (L2.tB (tIsE HasK.K (clA HasK.mg m) a i (clA HasK.mg h.b))) (tNot (L2.tB (tVar j)))) (tC (.str h.s1)) (tC (.str h.s2))) (Ends.letGo D i) ((σ'.set i (some (.ref a))).set j (some (.bl ob))) H' := by
            intro ob eo
            have hs2 : ((σ'.set i (some (.ref a))).set j (some (.bl ob)))[i]? = some (some (V.ref a)) := by rw [set_off hij]; exact hs
            have hj : ((σ'.set i (some (.ref a))).set j (some (.bl ob)))[j]? = some (some (V.bl ob)) := set_at (by rw [List.length_set, S'.len]; exact hjl)
            refine isE_go hs2 xb ⟨_, rfl, ?_⟩
            cases qb : subB m h.b with
            | false => exact iteF (iteF (fin _ (by rw [qb]; rfl)))
            | true =>
              refine iteT ⟨_, hj, _, rfl, ?_⟩
              cases qo : ob with
              | false => exact iteT (fin _ (by rw [qb, ← eo, qo]; rfl))
              | true => exact iteF (fin _ (by rw [qb, ← eo, qo]; rfl))
          refine isE_go hs x1 ⟨_, rfl, ?_⟩
          cases q1 : subB m h.a1 with
          | true => exact iteT (rest true (by rw [q1]; rfl))
          | false =>
            refine iteF (isE_go hs x2 ⟨_, rfl, ?_⟩)
            cases q2 : subB m h.a2 with
            | true => exact iteT (rest true (by rw [q1, q2]; rfl))
            | false => exact iteF (isE_go hs x3 (rest _ (by rw [q1, q2]; rfl)))
        · have e2 : handle2 h m = none := by
            unfold handle2
            rw [hb2]
            exact if_neg Bool.false_ne_true
          rw [e2] at P2
          exact P2 σ' F' H' e' S'
      · rw [if_neg hm'] at P2
        exact P2.elim
theorem js_try2 {s1 s2 x xa xb xc xd : Str} {np pp : Pos} {j1 j2 : Nat} {op q1 q2 q3 q4 q5 q6 q7 q8 u1 u2 u3 u4 v1 v2 v3 v4 w1 w2 w3 w4 y1 y2 y3 y4 z1 : Pos} (T : ExK c.X.K c.X.mg known) (hm : c.X.mg "isinstance" = none) (kc : x ∈ known) (k1 : xa ∈ known) (k2 : xb ∈ known) (k3 : xc ∈ known) (kb : xd ∈ known) (tk : Takes c.X c.W) (nd : c.X.N.Nodup)
    (hb : ∀ (W : WX) (pn : List (Addr × Obj)) (xe : Value → Shared → Prop), Takes (c.X.tr pn xe) W → PassesOwn (model c.X.prog c.X.w) c.X.A c.X.env xe → ∃ t, JSs ⟨c.X.tr pn xe, c.F0, c.H0, W, c.hK, c.hM, c.hP, c.hw⟩ body t ds)
    (stk : c.X.stack = c.X.env :: c.X.outer := by rfl) (fr : c.X.env.frame = some c.X.env.locals := by rfl) (hi : c.X.N[i]? = some n := by rfl) (hl : c.X.env.kindOf n = some .local := by rfl) (hij : i ≠ j := by decide)
    (hg : Gl c.X "isinstance" := by rfl) (hv : Vis c.X.env.scope n := by exact Or.inl rfl) (hd : (n == ("__debug__" : Str)) = false := by decide) (hcd : (n == ("__classdict__" : Str)) = false := by decide)
    (hNo : c.X.N[j]? = some o := by rfl) (hlo : c.X.env.scope.names.lookup o = some .local := by rfl) (hdo : (o == ("__debug__" : Str)) = false := by decide) (hcdo : (o == ("__classdict__" : Str)) = false := by decide)
    (gx : Gl c.X x := by rfl) (g1 : Gl c.X xa := by rfl) (g2 : Gl c.X xb := by rfl) (g3 : Gl c.X xc := by rfl) (gb : Gl c.X xd := by rfl) (dx : (x == ("__debug__" : Str)) = false := by decide) (d1 : (xa == ("__debug__" : Str)) = false := by decide) (d2 : (xb == ("__debug__" : Str)) = false := by decide) (d3 : (xc == ("__debug__" : Str)) = false := by decide) (db : (xd == ("__debug__" : Str)) = false := by decide)
    (hsw : swapsWith (.BoolOp .Or [.Call (.Name "isinstance" u1) [.Name n u2, .Name xa u3] [] u4, .Call (.Name "isinstance" v1) [.Name n v2, .Name xb v3] [] v4, .Call (.Name "isinstance" w1) [.Name n w2, .Name xc w3] [] w4] q7) (some (.Name o op)) q8.line c.X.env = pure false := by rfl) :
    JS c (.Try body [.ExceptHandler (some (.Name x np)) (some n) [.Assign [.Name o op] (.BoolOp .Or [.Call (.Name "isinstance" u1) [.Name n u2, .Name xa u3] [] u4, .Call (.Name "isinstance" v1) [.Name n v2, .Name xb v3] [] v4, .Call (.Name "isinstance" w1) [.Name n w2, .Name xc w3] [] w4] q7) q8,
      .Return (some (.IfExp (.BoolOp .And [.Call (.Name "isinstance" y1) [.Name n y2, .Name xd y3] [] y4, .UnaryOp .Not (.Name o z1) q1] q2) (.Constant (.str s1) j1 q3) (.Constant (.str s2) j2 q4) q5)) q6] pp] [] [] pos) (tDat c.F0 c.H0 c.W (dTry2 i j ds known ⟨x, xa, xb, xc, xd, s1, s2⟩) (PostS c)) (dTry2 i j ds known ⟨x, xa, xb, xc, xd, s1, s2⟩) := by
  refine ⟨⟨fun pins s σ H D I h => ?_⟩, fun F H σ δ D S P => ⟨F, δ, S, P⟩⟩
  have R := try_reads2 hij T kc k1 k2 k3 kb h
  have e1 : clA HasK.mg = clA c.X.mg := by rw [c.hM]
  have hdd : HdAs c.X n [.ExceptHandler (some (.Name x np)) (some n) [.Assign [.Name o op] (.BoolOp .Or [.Call (.Name "isinstance" u1) [.Name n u2, .Name xa u3] [] u4, .Call (.Name "isinstance" v1) [.Name n v2, .Name xb v3] [] v4, .Call (.Name "isinstance" w1) [.Name n w2, .Name xc w3] [] w4] q7) q8,
      .Return (some (.IfExp (.BoolOp .And [.Call (.Name "isinstance" y1) [.Name n y2, .Name xd y3] [] y4, .UnaryOp .Not (.Name o z1) q1] q2) (.Constant (.str s1) j1 q3) (.Constant (.str s2) j2 q4) q5)) q6] pp] (hdL2 i j ⟨x, xa, xb, xc, xd, s1, s2⟩) := by
    unfold hdL2
    rw [e1, ← c.hK]
    exact .cons ⟨gx, dx, .inl (T.cls x kc).2⟩ (fun a oe cls d pn hz hf => suite2 nd hg hm hi hv hd hcd hNo hlo hdo hcdo g1 (T.cls xa k1).2 d1 g2 (T.cls xb k2).2 d2 g3 (T.cls xc k3).2 d3 gb (T.cls xd kb).2 db hsw a oe cls d pn hz hf) .nil
  have K := ps_try_allAs (pos := pos) (tb := fun W => tDat c.F0 c.H0 W ds (PostS ⟨c.X, c.F0, c.H0, W, c.hK, c.hM, c.hP, c.hw⟩)) stk fr nd hi hl tk (fun W pn xe t1 t2 => by
    obtain ⟨t, J⟩ := hb W pn xe t1 t2
    exact J.dat) hdd
  refine K.run pins s σ H D I ?_
  rw [c.hK]
  exact R
end
/-! ### a class whose __init__ raises -/
def spI (n : Nat) (den : List D → Res D) : Sp := fun vs H Q E => vs.length = n + 1 ∧ ∃ F ds, Ex F H ∧ RpAll F vs.tail ds ∧ PostG RF HasK.mg (fun cls d _ H' => E cls d H') F H [] (fun _ _ => False) (den ds)
def runI (ds : DS) (m : Nat) : List D → Res D := fun xs => match ds (.no :: (xs.map .val ++ List.replicate m .no)) with
  | .exc n p _ => .exc n p
  | _ => .stuck
theorem Sr.shift {F0 H0 F H : Hp} {σ : L2.St} {δ : DEnv} (S : Sr F0 H0 F H σ δ) (o : Option V) : Sr F0 H0 F H (o :: σ) (.no :: δ) where
  st := S.st
  len := by rw [List.length_cons, List.length_cons, S.len]
  val := fun i d h => by
    cases i with
    | zero => cases h
    | succ i => exact S.val i d h
  own := fun i d h => by
    cases i with
    | zero => cases h
    | succ i => exact S.own i d h
  apart := fun i j a d e h1 h2 h3 h4 => by
    cases i with
    | zero => cases h1
    | succ i =>
      cases j with
      | zero => cases h2
      | succ j => rw [S.apart i j a d e h1 h2 h3 h4]
  dk := by
    refine ⟨fun i d h => ?_, fun i j a b x d e h1 h2 h3 h4 h5 h6 => ?_, fun i j a b d e h1 h2 h3 h4 => ?_, fun i d h => ?_, fun i d h => ?_⟩
    · cases i with
      | zero => cases h
      | succ i => exact S.dk.dsk i d h
    · cases i with
      | zero => cases h1
      | succ i =>
        cases j with
        | zero => cases h2
        | succ j => rw [S.dk.dap i j a b x d e h1 h2 h3 h4 h5 h6]
    · cases i with
      | zero => cases h1
      | succ i =>
        cases j with
        | zero => cases h2
        | succ j => exact S.dk.dow i j a b d e h1 h2 h3 h4
    · cases i with
      | zero => cases h
      | succ i => exact S.dk.bor i d h
    · cases i with
      | zero => cases h
      | succ i => exact S.dk.bdk i d h
abbrev spKI (P : Program) (w : World) (K : PySem.W.Frag) (mg : Str → Option Value) (n : Nat) (den : List D → Res D) : Sp := @spI ⟨K, mg, P, w⟩ n den
structure CalI (P : Program) (w : World) (K : PySem.W.Frag) (mg : Str → Option Value) (base : Heap) (k : Nat) (x : Str) (n : Nat) (den : List D → Res D) : Prop where
  ex : ∃ (C f : Addr) (fd : FuncData) (ps : List Str), FnOk P w K mg base (L2.CX P w) k f fd ps (spKI P w K mg n den) ∧ mg x = some (.ref C) ∧ Mk K C f ∧ Binds K fd ps []
section
variable {P : Program} {w : World} {K : PySem.W.Frag} {mg : Str → Option Value} {base : Heap}
theorem fn_denI {x qual : Str} {st : Stmt} {f : Addr} {fd : FuncData} {N ps : List Str} {k m n : Nat} {ds : DS} (F : Fun K x qual st f fd) (S : FnScope N ps (defScope st)) (hn : ps.length = n + 1) (hm : N.length = ps.length + m)
    (hbody : ∀ (cdv : Value) (A : Around) (outer : List Env) (s : Shared) (H : Hp) (E : XK) (F0 : Hp), Room k (A.deeper (PyProof.Rows.envOfC qual (defScope st) s.heap.objs.size f cdv)) →
      ∃ t, @JSs ⟨K, mg, P, w⟩ (@Cc.mk ⟨K, mg, P, w⟩ (cxOf (L2.CX P w) P w K mg base N qual (defScope st) f cdv A outer s H E) F0 H (fun cls d _ H' => E cls d H') rfl rfl rfl rfl) (defBody st) t ds) : FnOk P w K mg base (L2.CX P w) (k + 1) f fd ps (spKI P w K mg n (runI ds m)) := by
  letI hk : HasK := ⟨K, mg, P, w⟩
  refine F.okX S (fun vs H Q E h => by rw [hn]; exact h.1) fun cdv A outer s H vs Q E hr h => ?_
  obtain ⟨hl, F0, xs, ex, r, post⟩ := h
  obtain ⟨t, J⟩ := hbody cdv A outer s H E F0 hr
  cases vs with
  | nil => cases hl
  | cons v vs =>
    have hl2 : vs.length = n := by simpa using hl
    have S0 := (sr_start (N := N.tail) (vs := vs) ex r).shift (some v)
    have e0 : some v :: L2.start N.tail vs = L2.start N (v :: vs) := by
      unfold L2.start
      rw [List.map_cons, List.cons_append, List.length_tail, List.length_cons, show N.length - 1 - vs.length = N.length - (vs.length + 1) by omega]
    have em : N.tail.length - vs.length = m := by rw [List.length_tail]; omega
    rw [e0, em] at S0
    refine ⟨t, J.p, J.s F0 H _ _ _ S0 ?_⟩
    unfold runI at post
    cases q : ds (.no :: (xs.map .val ++ List.replicate m .no)) with
    | exc n p δ =>
      rw [q] at post
      intro σ' F' H' e S'
      cases p with
      | none => exact post F' H' S'.st
      | some y => exact fun dd v h1 h2 h3 => post F' H' dd v S'.st h1 h2 h3
    | next δ => rw [q] at post; exact post.elim
    | ret d => rw [q] at post; exact post.elim
    | brk δ => rw [q] at post; exact post.elim
    | cont δ => rw [q] at post; exact post.elim
    | stuck => rw [q] at post; exact post.elim
end
section
variable {X : Cx} {CX : CXT} {k : Nat} {f C : Addr} {fd : FuncData} {ps : List Str} {sp : Sp} {E : L2.St → XK} {x : Str} {p pos : Pos} {e : Expr} {es : List Expr} {t : TA}
def tMakeS (C : Addr) (sp : Sp) (E : L2.St → XK) (t : TA) : TE := fun σ H Q => t σ H fun vs H1 => ∀ x dx, H1 x = none → H1 dx = none → dx ≠ x →
  sp (.ref x :: vs) (upd (upd H1 dx (.own x)) x (.ins C dx [])) (fun v H2 => v = .non ∧ Q (.ref x) H2) (E σ)
theorem pe_makeS (M : Mk X.K C f) (F : FnOk X.prog X.w X.K X.mg X.base CX k f fd ps sp) (hr : Room (k + 1) X.A) (hg : Gl X x) (hm : X.mg x = some (.ref C)) (hb : Binds X.K fd ps []) (hx : ∀ σ, PassesAt CX X σ (E σ))
    (ha : PA X (e :: es) t) (hdb : (x == ("__debug__" : Str)) = false := by decide) (he : starEach (e :: es) X.env = (false, eval e X.env) :: starEach es X.env := by rfl) (hpl : (backTo pos (starEach es X.env)).any (·.1) = false := by rfl) :
    PE X (.Call (.Name x p) (e :: es) [] pos) (tMakeS C sp E t) := by
  refine ⟨fun pins s σ H Q I h => ?_⟩
  refine wpAny_Call_Name_kw (ld_glob I hg hm ?_ hdb)
  refine PySem.W.callWith_K (h₀ := X.base) I.ok.mod.kin M.kp (thn (ha.run pos pins s σ H _ I h) fun us s1 ⟨vs, H1, I1, r, q⟩ => ⟨I1.kIn, ?_⟩) he hpl
  have hq := q (s1.heap.objs.size + 1) s1.heap.objs.size (I1.hok.fresh (Nat.le_succ _)) (I1.hok.fresh (Nat.le_refl _)) (Nat.ne_of_lt (Nat.lt_succ_self _))
  have I2 := Inv.made (C := C) I1
  have r2 : Vals (V.ref (s1.heap.objs.size + 1) :: vs) (Value.ref (s1.heap.objs.size + 1) :: us) := .cons rfl r
  have hl : (Value.ref (s1.heap.objs.size + 1) :: us).length = ps.length := by
    have e := r2.length
    rw [F.len _ _ _ _ hq] at e
    exact e.symm
  have hb2 := hb { s1 with heap := _ } (Value.ref (s1.heap.objs.size + 1) :: us) I2.kIn (by rw [List.append_nil]; exact hl)
  rw [List.append_nil] at hb2
  refine wpAny_call (make_map (f := f) I1.kIn M.makes M.init (beq_iff_eq.mp M.fn) (codeAny_mono (F.run _ X.stack _ _ ⟨Value.ref (s1.heap.objs.size + 1) :: us, []⟩ (Value.ref (s1.heap.objs.size + 1) :: us) _ _ (E σ) (hr.make C us [])
    (I2.env0.make C us []) hb2 r2 hq) fun r s' hq' => ?_))
  cases r with
  | error e => exact hx σ pins _ _ e s' I2 hq'
  | ok fl =>
    cases fl with
    | ret u =>
      obtain ⟨v, H', I3, rv, ev, q3⟩ := I2.after hq'
      subst ev
      exact ⟨rv, ⟨V.ref (s1.heap.objs.size + 1), H', I3, rfl, q3⟩⟩
    | next => exact False.elim hq'
    | brk => exact False.elim hq'
    | cont => exact False.elim hq'
end
section
variable {c : Cc} {e : Expr} {es : List Expr} {tr : TA} {dr : DA} {pos : Pos}
/-- C(..), its __init__ raises -/
def dMake (n : Nat) (den : List D → Res D) (dr : DA) : DE := fun δ => (dr δ).bind fun xs => if xs.length = n then (match den xs with
  | .exc n p => .exc n p
  | _ => .stuck) else .stuck
theorem je_make {k j n : Nat} (W : WX) (hW : c.W = W) {x : Str} {den : List D → Res D} {p : Pos} (G : CalI c.X.prog c.X.w c.X.K c.X.mg c.X.base k x n den) (hr : Room j c.X.A) (hk : k + 1 ≤ j) (tk : Takes c.X c.W) (hg : Gl c.X x) (ha : JA c (e :: es) tr dr)
    (hdb : (x == ("__debug__" : Str)) = false := by decide) (he : starEach (e :: es) c.X.env = (false, eval e c.X.env) :: starEach es c.X.env := by rfl) (hpl : (backTo pos (starEach es c.X.env)).any (·.1) = false := by rfl) :
    JE c (.Call (.Name x p) (e :: es) [] pos) (tMakeS (clA HasK.mg x) (spI n den) (WE W) tr) (dMake n den dr) := by
  subst hW
  obtain ⟨C, f, fd, ps, h1, h2, h3, h4⟩ := G.ex
  have e1 : spKI c.X.prog c.X.w c.X.K c.X.mg n den = spI n den := by
    have : (⟨c.X.K, c.X.mg, c.X.prog, c.X.w⟩ : HasK) = ‹HasK› := by
      rw [c.hK, c.hM, c.hP, c.hw]
    unfold spKI
    rw [this]
  rw [e1] at h1
  have eC : clA HasK.mg x = C := by unfold clA; rw [← c.hM, h2]
  rw [eC]
  refine ⟨pe_makeS h3 h1 (hr.mono hk) hg h2 h4 (fun σ => passAt tk σ) ha.p hdb he hpl, fun F H σ δ Q S P => ha.s.go S P fun F1 H1 xs ds s1 S1 hx P1 x dx hx0 hd0 hne => ?_⟩
  by_cases hn : ds.length = n
  · rw [if_pos hn] at P1
    have hx1 : (upd H1 dx (.own x)) x = none := by rw [upd_ne hne.symm]; exact hx0
    have t1 := Step.side S1.fh (.own x) hd0
    have t2 := Step.side t1.fh (.ins C dx []) hx1
    refine ⟨by rw [List.length_cons, hx.len, hn], F1, ds, t2.fh, hx, ?_⟩
    cases q : den ds with
    | exc m p =>
      rw [q] at P1
      exact (PostG.slots (W := c.W) (r := .exc m p) (Q := Q) (XPost.step (t1.trans t2) P1))
    | ok d => rw [q] at P1; exact P1.elim
    | stuck => rw [q] at P1; exact P1.elim
  · rw [if_neg hn] at P1; exact P1.elim
end
end RD

end
section
namespace TSN
open PySem PySem.Spec PyProof.Rows L2
/-! ### keys made of whole numbers and tuples -/
mutual
def numK : NestedKey → Bool
  | .num _ => true
  | .tup ks => numKs ks
  | .none => false
  | .text _ => false
def numKs : List NestedKey → Bool
  | [] => true
  | k :: ks => numK k && numKs ks
end
def Says (P : Program) (w : World) (f : Sem Bool) (s : Shared) (b : Bool) : Prop := ∀ (A : Around) (E : Value → Shared → Prop) (Q : Bool → Shared → Prop), Q b s → wpAny (model P w) A f Q E s
section
variable {P : Program} {w : World}
theorem Says.of_pure {f : Sem Bool} {s : Shared} {b : Bool} (h : f = pure b) : Says P w f s b := fun A E Q q => by
  rw [h]; exact wpAny_pure q
/-- asked item by item -/
theorem items_say {f : Value → Sem Bool} {b c : Bool} {s : Shared} {xs : Array Value} (bd : Value → Option Bool × PUnit → Sem (ForInStep (Option Bool × PUnit)))
    (hb : ∀ v r A E Q, Says P w (f v) s b → r = (none, PUnit.unit) → Q (ForInStep.yield (none, PUnit.unit)) s → wpAny (model P w) A (bd v r) Q E s) (hq : ∀ v ∈ xs.toList, Says P w (f v) s b) {A : Around} {E : Value → Shared → Prop} {Q : Option Bool × PUnit → Shared → Prop} (h : Q (none, PUnit.unit) s) :
    wpAny (model P w) A (forIn xs (none, PUnit.unit) bd) Q E s := by
  rw [← Array.forIn_toList]
  refine wpAny_forIn_list _ (fun more r u => r = (none, PUnit.unit) ∧ u = s ∧ ∀ v ∈ more, Says P w (f v) s b) _ (fun v more r u g => ?_) (fun r u g => ?_) _ _ ⟨rfl, rfl, hq⟩
  · obtain ⟨g1, rfl, g3⟩ := g
    exact hb v r _ _ _ (g3 v List.mem_cons_self) g1 ⟨rfl, rfl, fun u hu => g3 u (List.mem_cons_of_mem _ hu)⟩
  · obtain ⟨rfl, rfl, _⟩ := g
    exact h
theorem cls_tup {n : Nat} {s : Shared} {a : Addr} {o : Obj} {vs : Array Value} {m : Nat} (ho : s.heap.get? a = some o) (hc : o.cls = .type "tuple") (hd : o.data = .seq vs m) (hq : ∀ v ∈ vs.toList, Says P w (ofAClassStatement n v) s false) : Says P w (ofAClassStatement (n + 1) (.ref a)) s false := by
  intro A E Q q
  unfold ofAClassStatement
  refine wpAny_bind (wpAny_typeOf (show s.TypeIs (.ref a) "tuple" from ⟨o, ho, hc⟩) ?_)
  dsimp only
  rw [if_pos (by decide)]
  refine wpAny_bind (wpAny_pure ?_)
  simp only [Bool.not_true, Bool.false_eq_true, if_false]
  refine wpAny_bind (wpAny_seqItems ho hd ?_)
  dsimp only
  refine wpAny_bind (items_say (b := false) (c := true) (f := ofAClassStatement n) _ (fun v r A' E' Q' hv hr hq' => ?_) hq (wpAny_pure q))
  subst hr
  refine wpAny_bind (hv _ _ _ ?_)
  simp only [Bool.false_eq_true, if_false]
  exact wpAny_pure hq'
theorem byv_tup {n : Nat} {s : Shared} {a : Addr} {o : Obj} {vs : Array Value} {m : Nat} (ho : s.heap.get? a = some o) (hc : o.cls = .type "tuple") (hd : o.data = .seq vs m) (hq : ∀ v ∈ vs.toList, Says P w (hashByValue n v) s true) : Says P w (hashByValue (n + 1) (.ref a)) s true := by
  intro A E Q q
  unfold hashByValue
  refine wpAny_bind (wpAny_specialOf (show s.TypeIs (.ref a) "tuple" from ⟨o, ho, hc⟩) F.slot_tuple_hash.lookup ?_)
  show wpAny _ _ (seqItems? (.ref a) >>= _) _ _ s
  refine wpAny_bind (wpAny_seqItems ho hd ?_)
  refine wpAny_bind (items_say (xs := vs) (b := true) (c := true) (f := hashByValue n) _ (fun v r A' E' Q' hv hr hq' => ?_) hq (wpAny_pure q))
  subst hr
  refine wpAny_bind (hv _ _ _ ?_)
  simp only [Bool.not_true, Bool.false_eq_true, if_false]
  exact wpAny_pure hq'
mutual
theorem cls_key : ∀ (k : NestedKey) (v : Value) (n : Nat) (s : Shared), NestedIs s.heap k v → k.depth ≤ n → Says P w (ofAClassStatement n v) s false
  | .none, _, n, s, x, _ => by cases x; exact .of_pure (by cases n <;> rfl)
  | .num i, _, n, s, x, _ => by cases x <;> exact .of_pure (by cases n <;> rfl)
  | .text y, _, n, s, x, _ => by cases x; exact .of_pure (by cases n <;> rfl)
  | .tup ks, _, n, s, x, hn => by
    cases x with
    | tup g1 g2 g3 g4 =>
      simp only [NestedKey.depth] at hn
      obtain ⟨m, rfl⟩ : ∃ m, n = m + 1 := ⟨n - 1, by omega⟩
      exact cls_tup g1 g2 g3 (cls_keys ks _ m s g4 (by omega))
theorem cls_keys : ∀ (ks : List NestedKey) (vs : List Value) (n : Nat) (s : Shared), NestedAll s.heap ks vs → NestedKey.depthAll ks ≤ n → ∀ v ∈ vs, Says P w (ofAClassStatement n v) s false
  | [], _, n, s, x, _, v, hv => by cases x; cases hv
  | k :: ks, _, n, s, x, hn, v, hv => by
    cases x with
    | cons g1 g2 =>
      simp only [NestedKey.depthAll] at hn
      rcases List.mem_cons.mp hv with rfl | hv
      · exact cls_key k _ n s g1 (by omega)
      · exact cls_keys ks _ n s g2 (by omega) v hv
end
mutual
theorem byv_key : ∀ (k : NestedKey) (v : Value) (n : Nat) (s : Shared), NestedIs s.heap k v → numK k = true → k.depth ≤ n → Says P w (hashByValue n v) s true
  | .none, _, n, s, x, z, _ => by simp [numK] at z
  | .num i, _, n, s, x, _, _ => by cases x <;> exact .of_pure (by cases n <;> rfl)
  | .text y, _, n, s, x, z, _ => by simp [numK] at z
  | .tup ks, _, n, s, x, z, hn => by
    cases x with
    | tup g1 g2 g3 g4 =>
      simp only [NestedKey.depth] at hn
      simp only [numK] at z
      obtain ⟨m, rfl⟩ : ∃ m, n = m + 1 := ⟨n - 1, by omega⟩
      exact byv_tup g1 g2 g3 (byv_keys ks _ m s g4 z (by omega))
theorem byv_keys : ∀ (ks : List NestedKey) (vs : List Value) (n : Nat) (s : Shared), NestedAll s.heap ks vs → numKs ks = true → NestedKey.depthAll ks ≤ n → ∀ v ∈ vs, Says P w (hashByValue n v) s true
  | [], _, n, s, x, _, _, v, hv => by cases x; cases hv
  | k :: ks, _, n, s, x, z, hn, v, hv => by
    cases x with
    | cons g1 g2 =>
      simp only [NestedKey.depthAll] at hn
      simp only [numKs, Bool.and_eq_true] at z
      rcases List.mem_cons.mp hv with rfl | hv
      · exact byv_key k _ n s g1 z.1 (by omega)
      · exact byv_keys ks _ n s g2 z.2 (by omega) v hv
end
/-- the tuple at b is the key k -/
def Nk (h : Heap) (k : NestedKey) (b : Addr) : Prop := NestedIs h k (.ref b) ∧ k.depth ≤ 8 ∧ numK k = true
theorem Nk.kind {h : Heap} {k : NestedKey} {b : Addr} (x : Nk h k b) : (nestedKind P w).is h k b := ⟨x.1, x.2.1⟩
theorem Nk.keep {h h' : Heap} {k : NestedKey} {b : Addr} (x : Nk h k b) (e : ∀ c o, h.get? c = some o → h'.get? c = some o) : Nk h' k b := ⟨NestedIs.at (fun c o _ _ q _ => e c o q) k _ x.1, x.2⟩
theorem Nk.but {h h' : Heap} {k : NestedKey} {a b : Addr} {o : Obj} {es : Array (Int × Value)} {ep : Nat} {t : SetTable} (x : Nk h k b) (ho : h.get? a = some o) (hd : o.data = .set es ep t) (sb : Heap.SameBut a h h') : Nk h' k b := by
  refine ⟨NestedIs.at (fun c u vs m hc hv => (sb.2 c fun q => ?_).trans hc) k _ x.1, x.2⟩
  subst q
  rw [ho] at hc
  cases hc
  rw [hd] at hv
  cases hv
theorem unseen {s : Shared} {k : NestedKey} {b : Addr} (hk : Nk s.heap k b) {ys : List Value} (hy : ∀ y ∈ ys, ∃ k' c, y = Value.ref c ∧ Nk s.heap k' c) : Says P w (searchCouldBeSeen (.ref b) ys) s false := by
  intro A E Q q
  unfold searchCouldBeSeen
  refine wpAny_bind (wpAny_forIn_list _ (fun more r u => r = (none, PUnit.unit) ∧ u = s ∧ ∀ y ∈ more, ∃ k' c, y = Value.ref c ∧ Nk s.heap k' c) _ (fun v more r u g => ?_) (fun r u g => ?_) _ _ ⟨rfl, rfl, hy⟩)
  · obtain ⟨rfl, rfl, g3⟩ := g
    obtain ⟨k', c, rfl, hc⟩ := g3 v List.mem_cons_self
    have fin : (none, PUnit.unit) = ((none, PUnit.unit) : Option Bool × PUnit) ∧ u = u ∧ ∀ y ∈ more, ∃ k' c, y = Value.ref c ∧ Nk u.heap k' c := ⟨rfl, rfl, fun y hy' => g3 y (List.mem_cons_of_mem _ hy')⟩
    dsimp only
    by_cases z : (b == c || (carriedByValue (.ref b) && carriedByValue (.ref c))) = true
    · exact wp_if_pos z (wpAny_pure fin)
    · refine wp_if_neg z (wpAny_bind ((nestedKind P w).quiet hk.kind ?_))
      simp only [Bool.not_true, Bool.false_eq_true, if_false]
      refine wpAny_bind ((nestedKind P w).quiet hc.kind ?_)
      simp only [Bool.not_true, Bool.false_eq_true, if_false]
      refine wpAny_bind (cls_key k _ 8 u hk.1 hk.2.1 _ _ _ ?_)
      simp only [Bool.false_eq_true, if_false]
      refine wpAny_bind (cls_key k' _ 8 u hc.1 hc.2.1 _ _ _ ?_)
      simp only [Bool.false_eq_true, if_false]
      exact wpAny_pure fin
  · obtain ⟨rfl, rfl, _⟩ := g
    exact wpAny_pure q
end

/-! ### a set of such tuples -/
abbrev row (w : World) (p : Addr × NestedKey) : Int × Value := (p.2.hash w, Value.ref p.1)
structure SN (w : World) (h : Heap) (a : Addr) (L : List (Addr × NestedKey)) (es : Array (Int × Value)) (ep : Nat) (t : SetTable) : Prop where
  ob : ∃ o, h.get? a = some o ∧ o.ExactSet ∧ o.data = .set es ep t
  rows : es.toList = L.map (row w)
  tab : TabOk t (L.map fun p => p.2.hash w)
  nd : (L.map (·.2)).Nodup
  tup : ∀ p ∈ L, Nk h p.2 p.1
  plain : t.plain = true
  led : w.params.followText "set-order" = true ∨ t.led = true
  room : L.length * 5 < t.mask * 3
  few : L.length < 64
section
variable {P : Program} {w : World} {A : Around} {E : Value → Shared → Prop} {s : Shared} {a : Addr} {L : List (Addr × NestedKey)} {es : Array (Int × Value)} {ep : Nat} {t : SetTable}
theorem rows_size (h : es.toList = L.map (row w)) : es.size = L.length := by
  have := congrArg List.length h
  simpa using this
theorem rows_at (h : es.toList = L.map (row w)) {i : Nat} {p : Addr × NestedKey} (e : L[i]? = some p) : es[i]? = some (row w p) := by
  rw [← Array.getElem?_toList, h, List.getElem?_map, e]
  rfl
theorem SN.size (R : SN w s.heap a L es ep t) : es.size = L.length := rows_size R.rows
theorem fits_of (h1 : t.place.size = es.size) (h2 : t.dummies = #[]) (h3 : es.size ≤ t.mask) : t.fits es.size = true := by
  unfold SetTable.fits SetTable.fill
  simp only [h1, h2, Bool.and_eq_true, beq_iff_eq, decide_eq_true_eq, Array.size_empty, true_and]
  omega
theorem SN.fits (R : SN w s.heap a L es ep t) : t.fits es.size = true := by
  have q1 := R.tab.sz
  have q2 := R.size
  have q3 := R.room
  rw [List.length_map] at q1
  exact fits_of (by omega) R.tab.dm (by omega)
theorem SN.keep {h h' : Heap} (R : SN w h a L es ep t) (e : ∀ o, h.get? a = some o → h'.get? a = some o) (g : ∀ p ∈ L, Nk h' p.2 p.1) : SN w h' a L es ep t := by
  obtain ⟨o, ho, r⟩ := R.ob
  exact { R with ob := ⟨o, e o ho, r⟩, tup := g }
theorem dummy_nth (m : Nat) : ∀ (n : Nat) (p : SetTable.Probe), p.dummy = none → (nth m p n).dummy = none
  | 0, _, h => h
  | n + 1, p, h => dummy_nth m n (adv m p) (by unfold adv; split <;> exact h)
/-- the search for a key, from the c-th place of its way on -/
theorem sn_go (R : SN w s.heap a L es ep t) {x : Addr} {k : NestedKey} (hx : Nk s.heap k x) (hu : A.units + 8 < cLine) {hv : Int} (ehv : hv = k.hash w) {N : Nat} (hNf : N < 10 * SetTable.turns t.mask)
    (hN : way t.mask hv N ∉ t.place.toList) (hNb : ∀ c, c < N → way t.mask hv c ∈ t.place.toList) {Q : SetFound → Shared → Prop} (yes : k ∈ L.map (·.2) → Q (.there none) s) (no : k ∉ L.map (·.2) → Q (.free (way t.mask hv N) false) s) :
    ∀ (f c : Nat) (stand : Option SetTable.Probe), stand.getD (t.probeStart hv) = nth t.mask (t.probeStart hv) c → c ≤ N → N - c < f →
      (∀ (i : Nat) p, L[i]? = some p → p.2 = k → ∃ c', c ≤ c' ∧ c' < N ∧ t.place.toList[i]? = some (way t.mask hv c')) → wpAny (model P w) A (setSearchFrom a (.ref x) hv true f stand) Q E s := by
  have hway : ∀ c, (nth t.mask (t.probeStart hv) c).j = way t.mask hv c := fun c => rfl
  obtain ⟨o, ho, hex, hd⟩ := R.ob
  have hash_at : ∀ (i : Nat) p, L[i]? = some p → (es[i]?.map (·.1)).getD 0 = p.2.hash w := fun i p hp => by rw [rows_at R.rows hp]; rfl
  intro f
  induction f with
  | zero => intro c st _ _ h; omega
  | succ f ih =>
    intro c st hst hc hf hre
    rw [setSearchFrom_succ]
    refine wpAny_bind (wpAny_setState_of ho hd R.fits ?_)
    dsimp only
    refine wp_if_neg (by unfold SetTable.gaveWay; rw [mask_odd R.tab.mok]; decide) ?_
    try refine wpAny_bind (wpAny_pure ?_)
    have add : ∀ q, nth t.mask (nth t.mask (t.probeStart hv) c) q = nth t.mask (t.probeStart hv) (c + q) := fun q => (nth_add t.mask c _ q).symm
    have addj : ∀ q, (nth t.mask (nth t.mask (t.probeStart hv) c) q).j = way t.mask hv (c + q) := fun q => by rw [add]; rfl
    have sp := go_spec t R.tab.ris R.tab.dm (fun i => (es[i]?.map (·.1)).getD 0) hv (10 * SetTable.turns t.mask) (N - c) _ (dummy_nth t.mask c (t.probeStart hv) rfl) (by omega)
      (fun q hq => by rw [addj]; exact hNb _ (by omega)) (by rw [addj, show c + (N - c) = N by omega]; exact hN)
    rcases sp with ⟨q, i, hq, hi, hh, before, hpr⟩ | ⟨before, hpr⟩
    · have e0 : t.probe (fun i => (es[i]?.map (·.1)).getD 0) hv (st.getD (t.probeStart hv)) = some (.candidate (way t.mask hv (c + q)) i (nth t.mask (t.probeStart hv) (c + (q + 1)))) := by
        rw [hst, ← addj, ← add]; exact hpr
      rw [e0]
      dsimp only
      rw [addj] at hi
      have hiL : i < L.length := by
        have z1 := (List.getElem?_eq_some_iff.mp hi).1
        have z2 := R.tab.sz
        rw [List.length_map] at z2
        rw [Array.length_toList] at z1
        omega
      obtain ⟨p, hp⟩ : ∃ p, L[i]? = some p := ⟨_, List.getElem?_eq_getElem hiL⟩
      have hpm := List.mem_of_getElem? hp
      have live := slot_live R.tab.ris hi
      have body : wpAny (model P w) A (searchRest a (.ref x) hv true f es t (way t.mask hv (c + q)) i (nth t.mask (t.probeStart hv) (c + (q + 1)))) Q E s := by
        unfold searchRest
        rw [rows_at R.rows hp]
        dsimp only
        refine wpAny_bind (wpAny_holding ((nestedKind P w).eqBool hu (R.tup p hpm).kind hx.kind ?_))
        refine wpAny_bind (wpAny_setState_of ho hd R.fits ?_)
        dsimp only
        by_cases pk : p.2 = k
        · exact wp_if_pos (by simp [pk]) (wpAny_pure (yes (List.mem_map.mpr ⟨p, hpm, pk⟩)))
        · refine wp_if_neg (by simp [pk]) ?_
          try refine wpAny_bind (wpAny_pure ?_)
          rw [sameMem]
          simp only [if_true, live, rows_at R.rows hp]
          refine wpAny_bind (wpAny_isSame_ref_self (wpAny_bind (wpAny_pure ?_)))
          simp only [if_true]
          refine wp_if_neg (by simp [pk]) (ih (c + (q + 1)) _ rfl (by omega) (by omega) fun i' p' hp' hk' => ?_)
          obtain ⟨c', g1, g2, g3⟩ := hre i' p' hp' hk'
          refine ⟨c', ?_, g2, g3⟩
          have n1 : ¬ c' < c + q := fun z => before (c' - c) i' (by omega) (by rw [addj, show c + (c' - c) = c' by omega]; exact g3) (by
            show (es[i']?.map (·.1)).getD 0 = hv
            rw [hash_at i' p' hp', hk', ehv])
          have n2 : c' ≠ c + q := fun z => by
            rw [z] at g3
            have u := slot_live R.tab.ris g3
            rw [live] at u
            injection u with u
            rw [← u, hp] at hp'
            exact pk ((congrArg Prod.snd (Option.some.inj hp')).trans hk')
          omega
      by_cases hl : t.led = true
      · refine wp_if_neg (by simp [hl]) ?_
        try refine wpAny_bind (wpAny_pure ?_)
        exact body
      · refine wp_if_pos (by simp [hl]) (wpAny_bind (unseen hx (fun y hy => ?_) _ _ _ ?_))
        · obtain ⟨e, he, rfl⟩ := List.mem_map.mp hy
          have h1 : e ∈ es.toList := by
            have : e ∈ es ∧ e.1 = hv := by simpa using he
            simpa using this.1
          rw [R.rows] at h1
          obtain ⟨p2, hp2, rfl⟩ := List.mem_map.mp h1
          exact ⟨p2.2, p2.1, rfl, R.tup p2 hp2⟩
        · refine wp_if_neg (by decide) ?_
          try refine wpAny_bind (wpAny_pure ?_)
          exact body
    · have e0 : t.probe (fun i => (es[i]?.map (·.1)).getD 0) hv (st.getD (t.probeStart hv)) = some (.empty (way t.mask hv N) none) := by
        have z : way t.mask hv N = (nth t.mask (nth t.mask (t.probeStart hv) c) (N - c)).j := by rw [addj, show c + (N - c) = N by omega]
        rw [hst, z]; exact hpr
      rw [e0]
      dsimp only
      refine wpAny_pure (no fun hm => ?_)
      obtain ⟨p', hp', hk'⟩ := List.mem_map.mp hm
      obtain ⟨i', hi', e'⟩ := List.getElem_of_mem hp'
      have hp2 : L[i']? = some p' := by rw [List.getElem?_eq_getElem hi', e']
      obtain ⟨c', g1, g2, g3⟩ := hre i' p' hp2 hk'
      exact before (c' - c) i' (by omega) (by rw [addj, show c + (c' - c) = c' by omega]; exact g3) (by
        show (es[i']?.map (·.1)).getD 0 = hv
        rw [hash_at i' p' hp2, hk', ehv])
theorem sn_search (R : SN w s.heap a L es ep t) {x : Addr} {k : NestedKey} (hx : Nk s.heap k x) (hu : A.units + 8 < cLine) {Q : SetFound → Shared → Prop} (yes : k ∈ L.map (·.2) → Q (.there none) s)
    (no : ∀ N, k ∉ L.map (·.2) → way t.mask (k.hash w) N ∉ t.place.toList → (∀ c, c < N → way t.mask (k.hash w) c ∈ t.place.toList) → Q (.free (way t.mask (k.hash w) N) false) s) :
    wpAny (model P w) A (setSearch a (.ref x) (k.hash w) true) Q E s := by
  have hroom := R.room
  have hlen := R.tab.sz
  rw [List.length_map] at hlen
  obtain ⟨N, hNf, hN, hNb⟩ := R.tab.first (by rw [List.length_map]; omega) (k.hash w)
  have big : 10 * SetTable.turns t.mask ≤ 1420 := by
    unfold SetTable.turns
    rcases R.tab.mok with e | e | e <;> omega
  unfold setSearch
  refine sn_go R hx hu rfl hNf hN hNb yes (fun h => no N h hN hNb) 100000 0 none rfl (Nat.zero_le _) (by omega) fun i p hp hk => ?_
  have hi : i < t.place.toList.length := by
    have := (List.getElem?_eq_some_iff.mp hp).1
    rw [Array.length_toList]
    omega
  obtain ⟨c, hc, e⟩ := R.tab.before hN (by rw [List.getElem?_map, hp, ← hk]; rfl) (List.getElem?_eq_getElem hi)
  exact ⟨c, Nat.zero_le _, hc, by rw [List.getElem?_eq_getElem hi, e]⟩
theorem all_at {α : Type} : ∀ l : List α, (List.range l.length).filterMap (fun i => l[i]?) = l
  | [] => rfl
  | x :: l => by
    rw [List.length_cons, List.range_succ_eq_map]
    simp only [List.filterMap_cons, List.getElem?_cons_zero, List.filterMap_map]
    exact congrArg (x :: ·) (all_at l)
theorem order_hash (hr : es.toList = L.map (row w)) : ∀ l : List Nat, (∀ i ∈ l, i < L.length) → ((l.filterMap fun i => L[i]?).map fun p => p.2.hash w) = l.map fun i => (es.map (·.1)).getD i 0
  | [], _ => rfl
  | i :: l, h => by
    have hi := h i List.mem_cons_self
    rw [List.filterMap_cons_some (List.getElem?_eq_getElem hi), List.map_cons, List.map_cons, order_hash hr l fun j hj => h j (List.mem_cons_of_mem _ hj)]
    have e : (es.map (·.1))[i]? = some ((L[i]).2.hash w) := by rw [Array.getElem?_map, rows_at hr (List.getElem?_eq_getElem hi)]; rfl
    simp [Array.getD_eq_getD_getElem?, e]
/-- a larger table -/
theorem sn_relay {o : Obj} (ho : s.heap.get? a = some o) (hex : o.ExactSet) (hd : o.data = .set es ep t) (hr : es.toList = L.map (row w)) (h1 : t.place.size = es.size) (h2 : t.dummies = #[]) (h3 : es.size ≤ t.mask)
    (nd : (L.map (·.2)).Nodup) (tup : ∀ p ∈ L, Nk s.heap p.2 p.1) (pl : t.plain = true) (ld : w.params.followText "set-order" = true ∨ t.led = true) (few : L.length < 64) {want M : Nat}
    (hw : SetTable.sizeAbove want - 1 = M) (hM : MaskOk M) (hw2 : SetTable.sizeAbove want ≤ 128) (hn : L.length * 5 < M * 3) {Q : Unit → Shared → Prop}
    (k : ∀ h' L' es' ep' t', Heap.SameBut a s.heap h' → SN w h' a L' es' ep' t' → L'.Perm L → Q () { s with heap := h' }) : wpAny (model P w) A (setRelay a want) Q E s := by
  have sz := rows_size hr
  obtain ⟨t', ord, e, hp, T, em, el, epl, edm⟩ := relaid_ok t (hs := es.map (·.1)) (wanted := want) hw hM (by rw [Array.size_map, sz]; omega)
  rw [Array.size_map, sz] at hp
  have lt : ∀ i ∈ ord.toList, i < L.length := fun i hi => List.mem_range.mp (hp.mem_iff.mp hi)
  rw [← order_hash hr ord.toList lt] at T
  have perm : (ord.toList.filterMap fun i => L[i]?).Perm L := by
    have := hp.filterMap (fun i => L[i]?)
    rw [all_at] at this
    exact this
  have r2 : (ord.filterMap (es[·]?)).toList = (ord.toList.filterMap fun i => L[i]?).map (row w) := by
    rw [Array.toList_filterMap, List.map_filterMap]
    congr 1
    funext i
    rw [← Array.getElem?_toList, hr, List.getElem?_map]
  generalize (ord.toList.filterMap fun i => L[i]?) = L2 at T perm r2
  have sz2 : (ord.filterMap (es[·]?)).size = es.size := by rw [rows_size r2, sz, perm.length_eq]
  rw [setRelay_eq]
  refine wpAny_bind (wpAny_setState_of ho hd (fits_of h1 h2 h3) ?_)
  dsimp only
  refine wp_if_neg (by rw [sizeLine_eq]; omega) ?_
  try refine wpAny_bind (wpAny_pure ?_)
  rw [e]
  dsimp only
  refine wpAny_bind (wp_if_neg (by rw [sz2]; simp) ?_)
  try refine wpAny_bind (wpAny_pure ?_)
  refine wpAny_pure ?_
  dsimp only
  refine wpAny_storeSet_of ho hd ?_ (by rw [sz2, sz, sizeLine_eq]; omega)
  have sb : Heap.SameBut a s.heap (s.heap.update a (Obj.putSet (ord.filterMap (es[·]?)) t')) := Heap.SameBut.update ..
  exact k _ L2 _ (ep + 1) t' sb { ob := ⟨_, store_at ho hd, ⟨hex.1, hex.2.1, hex.2.2⟩, rfl⟩, rows := r2, tab := T, nd := (perm.map (·.2)).nodup_iff.mpr nd, tup := fun p hp => (tup p (perm.mem_iff.mp hp)).but ho hd sb, plain := by rw [epl]; exact pl, led := by rw [el]; exact ld, room := by rw [perm.length_eq, em]; exact hn, few := by rw [perm.length_eq]; exact few } perm
/-- one more -/
theorem sn_add (R : SN w s.heap a L es ep t) {x : Addr} {k : NestedKey} (hx : Nk s.heap k x) (hu : A.units + 8 < cLine) (few : L.length + 1 < 64) {Q : Bool → Shared → Prop}
    (c : ∀ b h' L' es' ep' t', Heap.SameBut a s.heap h' → SN w h' a L' es' ep' t' → (k ∈ L.map (·.2) → L' = L) → (k ∉ L.map (·.2) → L'.Perm ((x, k) :: L)) → Q b { s with heap := h' }) :
    wpAny (model P w) A (setAddHashed a (.ref x) (k.hash w)) Q E s := by
  obtain ⟨o, ho, hex, hd⟩ := R.ob
  have sz := R.size
  have hroom := R.room
  unfold setAddHashed
  refine wpAny_holding ?_
  rw [show (100000 : Nat) = 99999 + 1 from rfl, setAddHashedIn_succ]
  refine wpAny_bind (wpAny_setState_of ho hd R.fits ?_)
  dsimp only
  refine wp_if_neg (by simp [byScan, Value.scannable]) ?_
  try refine wpAny_bind (wpAny_pure ?_)
  refine wpAny_bind (sn_search R hx hu (fun hm => ?_) fun N hm hN hb => ?_)
  · dsimp only
    exact wpAny_pure (c false s.heap L es ep t (Heap.SameBut.refl a s.heap) R (fun _ => rfl) fun z => absurd hm z)
  · dsimp only
    refine wpAny_bind (wpAny_setState_of ho hd R.fits ?_)
    dsimp only
    obtain ⟨q1, q2, q3, q4, q5, q6, q7, q8, q9⟩ := R.tab.put hN hb
    generalize t.put (way t.mask (k.hash w) N) = pt at q1 q3 q4 q5 q6 q7 q8 q9 ⊢
    obtain ⟨t1, pos⟩ := pt
    dsimp only at q1 q3 q4 q5 q6 q7 q8 q9 ⊢
    generalize SetTable.below t.place (way t.mask (k.hash w) N) = at_ at q1 q2 q3
    subst q1
    have pl1 : t1.plain = true := q6.trans R.plain
    first
      | (refine wpAny_bind ?_; refine wp_if_pos pl1 ?_; refine byv_key k _ 8 s hx.1 hx.2.2 hx.2.1 _ _ _ ?_)
      | refine wp_if_pos pl1 (wpAny_bind (byv_key k _ 8 s hx.1 hx.2.2 hx.2.1 _ _ _ ?_))
    simp only [if_true]
    have hin : (SetTable.insertAt es pos (k.hash w, Value.ref x)).toList = (L.take pos ++ (x, k) :: L.drop pos).map (row w) := by
      rw [SetTable.toList_insertAt, R.rows, List.map_append, List.map_cons, List.map_take, List.map_drop]
    have pm : (L.take pos ++ (x, k) :: L.drop pos).Perm ((x, k) :: L) := by
      have z : (L.take pos ++ (x, k) :: L.drop pos).Perm ((x, k) :: (L.take pos ++ L.drop pos)) := List.perm_middle
      rwa [List.take_append_drop] at z
    have tb : TabOk t1 ((L.take pos ++ (x, k) :: L.drop pos).map fun p => p.2.hash w) := by
      rw [List.map_append, List.map_cons, List.map_take, List.map_drop]; exact q3
    generalize SetTable.insertAt es pos (k.hash w, Value.ref x) = es1 at hin ⊢
    generalize L.take pos ++ (x, k) :: L.drop pos = L1 at pm tb hin
    have len : L1.length = L.length + 1 := pm.length_eq
    have sz1 := rows_size hin
    have nd1 : (L1.map (·.2)).Nodup := by
      refine (pm.map (·.2)).nodup_iff.mpr ?_
      rw [List.map_cons]
      exact List.nodup_cons.mpr ⟨hm, R.nd⟩
    refine wpAny_bind (wpAny_storeSet_of ho hd ?_ (by rw [sz1, len, sizeLine_eq]; omega))
    have sb : Heap.SameBut a s.heap (s.heap.update a (Obj.putSet es1 t1)) := Heap.SameBut.update ..
    have ho1 := store_at (es' := es1) (t' := t1) ho hd
    generalize s.heap.update a (Obj.putSet es1 t1) = h1 at sb ho1 ⊢
    have tup1 : ∀ p ∈ L1, Nk h1 p.2 p.1 := fun p hp => by
      rcases List.mem_cons.mp (pm.mem_iff.mp hp) with rfl | hp
      · exact hx.but ho hd sb
      · exact (R.tup p hp).but ho hd sb
    have ld1 : w.params.followText "set-order" = true ∨ t1.led = true := by rw [q5]; exact R.led
    have tsz : t1.place.size = es1.size := by
      have := tb.sz
      rw [List.length_map] at this
      rw [this, sz1]
    have full : t1.tooFull = decide ((L.length + 1) * 5 ≥ t.mask * 3) := by
      unfold SetTable.tooFull
      rw [q9, q4, List.length_map]
    by_cases hf : t1.tooFull = true
    · first
        | (refine wpAny_bind ?_; refine wp_if_pos (by simp [hf]) ?_)
        | (refine wp_if_pos (by simp [hf]) ?_; refine wpAny_bind ?_)
      rw [sz]
      rw [full, decide_eq_true_eq] at hf
      have go : ∀ M, SetTable.sizeAbove (SetTable.grown (L.length + 1)) - 1 = M → MaskOk M → SetTable.sizeAbove (SetTable.grown (L.length + 1)) ≤ 128 → (L.length + 1) * 5 < M * 3 → es1.size ≤ t1.mask →
          wpAny (model P w) A (setRelay a (SetTable.grown (L.length + 1))) (fun _ s' => wpAny (model P w) A (pure true) Q E s') E { s with heap := h1 } := fun M z1 z2 z3 z4 z5 =>
        sn_relay (s := { s with heap := h1 }) ho1 ⟨hex.1, hex.2.1, hex.2.2⟩ rfl hin tsz tb.dm z5 nd1 tup1 pl1 ld1 (by omega) z1 z2 z3 (by rw [len]; exact z4) fun h2 L2 es2 ep2 t2 sb2 R2 pm2 =>
          wpAny_pure (c true h2 L2 es2 ep2 t2 (sb.trans sb2) R2 (fun z => absurd z hm) fun _ => pm2.trans pm)
      rcases R.tab.mok with e | e | e
      · have e4 : L.length = 4 := by omega
        exact go 31 (by rw [e4, size_20]) (.inr (.inl rfl)) (by rw [e4, size_20]; decide) (by omega) (by omega)
      · have e4 : L.length = 18 := by omega
        exact go 127 (by rw [e4, size_76]) (.inr (.inr rfl)) (by rw [e4, size_76]; decide) (by omega) (by omega)
      · omega
    · first
        | refine wp_if_neg (by simp [hf]) ?_
        | (refine wpAny_bind ?_; refine wp_if_neg (by simp [hf]) ?_; refine wpAny_pure ?_)
      have hf2 : ¬ (L.length + 1) * 5 ≥ t.mask * 3 := fun z => hf (by rw [full]; exact decide_eq_true z)
      exact wpAny_pure (c true h1 L1 es1 (ep + 1) t1 sb { ob := ⟨_, ho1, ⟨hex.1, hex.2.1, hex.2.2⟩, rfl⟩, rows := hin, tab := tb, nd := nd1, tup := tup1, plain := pl1, led := ld1, room := by omega, few := by omega } (fun z => absurd z hm) fun _ => pm)
theorem sn_new {h : Heap} (ho : h.get? a = some { cls := .type "set", dict := none, data := .set #[] 0 (.fresh 0 0 (!w.params.followText "set-order")) }) : SN w h a [] #[] 0 (.fresh 0 0 (!w.params.followText "set-order")) where
  ob := ⟨_, ho, ⟨rfl, rfl, rfl⟩, rfl⟩
  rows := rfl
  tab := ⟨List.Pairwise.nil, rfl, rfl, .inl rfl, fun x hx => (by cases hx), fun i h j hi => (by simp at hi)⟩
  nd := List.nodup_nil
  tup := fun p hp => nomatch hp
  plain := rfl
  led := by
    show _ ∨ (!w.params.followText "set-order") = true
    cases w.params.followText "set-order" <;> simp
  room := by show 0 * 5 < 7 * 3; decide
  few := by show 0 < 64; decide
end

/-! ### set(xs), xs a list: the set after i items is told by Z i -/
section
variable {P : Program} {w : World} {A : Around} {E : Value → Shared → Prop} {s : Shared}
/-- what one item does: the set at S alone changes -/
def Adds (P : Program) (w : World) (A : Around) (S : Addr) (h0 : Heap) (items : Array Value) (Z : Nat → Heap → Prop) : Prop :=
  ∀ (i : Nat) (v : Value) (E : Value → Shared → Prop) (u : Shared) (Q : Bool → Shared → Prop), items[i]? = some v → Z i u.heap → (∀ b o, h0.get? b = some o → u.heap.get? b = some o) →
    (∀ (b : Bool) (h' : Heap) (tk : Nat), u.toks ≤ tk → Heap.SameBut S u.heap h' → Z (i + 1) h' → Q b { u with heap := h', toks := tk }) → wpAny (model P w) A (setAdd S v) Q E u
theorem update_gen {I : Addr} {fp wr : List Addr} {G : Array GenState → Array GenState → Prop} {n : Nat} {Pv : Nat → Value → Prop} {St : Nat → Shared → Prop} {R : Result → Shared → Prop} {items : Array Value} {Z : Nat → Heap → Prop} {h0 : Heap} {S : Addr}
    (W : WalksS P w A.in1 I fp wr G n Pv St) (hSf : S ∉ fp) (hn : n = items.size) (hval : ∀ i v, Pv i v → items[i]? = some v) (hZ : ∀ i h h', Z i h → (∀ o, h.get? S = some o → h'.get? S = some o) → (∀ b o, h0.get? b = some o → h'.get? b = some o) → Z i h')
    (hS0 : h0.get? S = none) (hw0 : ∀ b ∈ wr, h0.get? b = none) (ha : Adds P w A.in1 S h0 items Z) :
    ∀ (k i : Nat) (u : Shared), n - i = k → i ≤ n → St i u → (∀ b o, h0.get? b = some o → u.heap.get? b = some o) → Z i u.heap →
      (∀ u', Moved (S :: wr) G u u' → Z n u'.heap → (∀ b o, h0.get? b = some o → u'.heap.get? b = some o) → R (.ok (.ret .none)) u') →
      codeAny (model P w) A (.builtin "set.update.loop" ⟨[.ref S, .ref I], []⟩) R u := by
  have hSw : S ∉ wr := fun h => hSf (W.sub _ h)
  have up : ∀ b ∈ wr, b ∈ S :: wr := fun b hb => List.mem_cons_of_mem _ hb
  have old : ∀ {u u' : Shared}, Moved wr G u u' → (∀ b o, h0.get? b = some o → u.heap.get? b = some o) → ∀ b o, h0.get? b = some o → u'.heap.get? b = some o := fun m g b o e => m.heap b o (fun hb => by rw [hw0 b hb] at e; cases e) (g b o e)
  intro k
  induction k with
  | zero =>
    intro i u hk hi hst g z hR
    obtain rfl : i = n := by omega
    refine codeAny_builtin F.entry_set_update_loop ?_
    rw [Around.under_plainId F.plain_set_update_loop _]
    show wpAny _ A.in1 (pyNext (.ref I) >>= _) _ _ u
    refine wpAny_bind (W.done u _ _ hst fun u' m => ?_)
    show wpAny _ A.in1 (ret Value.none) _ _ u'
    exact wpAny_pure (hR u' (m.mono up) (hZ _ _ _ z (fun o e => m.heap S o hSw e) (old m g)) (old m g))
  | succ k ih =>
    intro i u hk hi hst g z hR
    have lt : i < n := by omega
    refine codeAny_builtin F.entry_set_update_loop ?_
    rw [Around.under_plainId F.plain_set_update_loop _]
    show wpAny _ A.in1 (pyNext (.ref I) >>= _) _ _ u
    refine wpAny_bind (W.item i u _ _ lt hst fun v u' hP hst' m => ?_)
    show wpAny _ A.in1 (holding [v] (setAdd S v) >>= _) _ _ u'
    refine wpAny_bind (wpAny_holding (ha i v _ u' _ (hval i v hP) (hZ _ _ _ z (fun o e => m.heap S o hSw e) (old m g)) (old m g) fun b h' tk htk sb z' => ?_))
    refine wpAny_pure ⟨plainId_quiet F.plain_set_update_loop _, ih (i + 1) _ (by omega) lt (W.frame _ u' _ _ hst' htk fun b hb o e => ?_) (fun b o e => (sb.2 b (fun q => by rw [q, hS0] at e; cases e)).trans (old m g b o e)) z' fun u'' m'' z'' g'' => ?_⟩
    · rw [sb.2 b (fun q : b = S => hSf (by rw [← q]; exact hb))]; exact e
    · refine hR u'' (Moved.trans W.gtrans ((m.mono up).then_heap htk fun b o hb e => ?_) m'') z'' g''
      rw [sb.2 b (fun q : b = S => hb (by rw [q]; exact List.mem_cons_self))]; exact e
abbrev set0 (w : World) : Obj := { cls := .type "set", dict := none, data := .set #[] 0 (.fresh 0 0 (!w.params.followText "set-order")) }
set_option maxHeartbeats 6400000 in
theorem call_set_gen {l : Addr} {items : Array Value} {Z : Nat → Heap → Prop} {Q : Value → Shared → Prop} (hh : A.handled = none) (hl : s.heap.IsList l items)
    (z0 : ∀ h, h.get? s.heap.objs.size = some (set0 w) → Z 0 h) (hZ : ∀ i h h', Z i h → (∀ o, h.get? s.heap.objs.size = some o → h'.get? s.heap.objs.size = some o) → (∀ b o, s.heap.get? b = some o → h'.get? b = some o) → Z i h')
    (ha : ∀ A', A'.units = A.units + 3 → Adds P w A' s.heap.objs.size s.heap items Z)
    (q : ∀ (h' : Heap) (tk : Nat), Z items.size h' → (∀ b o, s.heap.get? b = some o → h'.get? b = some o) → Q (.ref s.heap.objs.size) { s with heap := h', toks := tk }) :
    wpAny (model P w) A (call (.type "set") [.ref l]) Q E s := by
  obtain ⟨c, tl, hmro⟩ := F.called_set.mro
  have hmade := F.called_set.made
  have hsub := F.called_set.sub
  refine wpAny_call (codeAny_of_tree ?_)
  show wpAny _ _ (callAny (.type "set") _) _ _ _
  refine wpAny_pure ⟨Code.quiet_builtin _ (by decide +kernel), codeAny_builtin F.entry_type_call ?_⟩
  rw [Around.under_plain (weight_type_call_type "set" [.ref l] []) rfl]
  have g1 := F.called_set.notType
  have g2 := F.called_set.canCreate
  have g3 := F.typeCall_set_1 (.ref l)
  repeat (any_goals (first | assumption | wp_step))
  refine codeAny_mono (code_set_led1 (.ref l) (E := E) (Q₁ := fun obj s₁ => obj = .ref s.heap.objs.size ∧ s₁ = { s with heap := s.heap.push (set0 w) }) ⟨rfl, rfl⟩) fun r s₁ hr => ?_
  cases r with
  | error e => exact hr
  | ok fl =>
    cases fl with
    | ret obj =>
      obtain ⟨rfl, rfl⟩ := hr
      have hS : (s.heap.push (set0 w)).get? s.heap.objs.size = some (set0 w) := Heap.get?_push_size _ rfl
      have hT : Shared.TypeIs { s with heap := s.heap.push (set0 w) } (.ref s.heap.objs.size) "set" := ⟨_, hS, rfl⟩
      have g4 := F.called_set.init.lookup
      have g5 := F.called_set.init.bind (.ref s.heap.objs.size)
      repeat (any_goals (first | assumption | wp_step))
      refine codeAny_mono (codeAny_call_builtin (R := wants (fun r s₂ => r = .none ∧ ∃ h' tk, s₂ = { s with heap := h', toks := tk } ∧ Z items.size h' ∧ (∀ b o, s.heap.get? b = some o → h'.get? b = some o)) E) F.called_set.init.plain F.entry_set_init (check_set_init_1 hT ?_)) fun r₂ s₂ hr₂ => ?_
      · obtain ⟨ol, hol, hcl, nl, hdl⟩ := hl
        obtain ⟨ocls, odict, odata, oslots⟩ := ol
        simp only at hcl hdl
        subst hcl; subst hdl
        have hol' : (s.heap.push (set0 w)).get? l = some { cls := .type "list", dict := odict, data := .seq items nl, slots := oslots } := Heap.get?_push_of_some _ hol
        have g6 := F.sub_list_set
        have g7 := F.sub_list_frozenset
        have g8 : (Value.type "list" == Value.type "dict") = false := by decide
        have hl1 : (s.heap.push (set0 w)).IsList l items := ⟨_, hol', rfl, nl, rfl⟩
        unfold Builtin.«set.__init__» noKeywords Builtin.Frozenset.updateFrom
        generalize hPI : pyIter = PI
        wp_walk
        subst hPI
        refine wpAny_pyIter_list hl1 (wpAny_bind (wpAny_runValue ?_))
        have lS : l < s.heap.objs.size := Heap.lt_size hol
        have nI : l ≠ (s.heap.push (set0 w)).objs.size := by rw [Heap.size_push]; exact Nat.ne_of_lt (Nat.lt_succ_of_lt lS)
        have nS : s.heap.objs.size ∉ [(s.heap.push (set0 w)).objs.size, l] := by
          rw [Heap.size_push]
          simp only [List.mem_cons, List.not_mem_nil, or_false, not_or]
          exact ⟨Nat.ne_of_lt (Nat.lt_succ_self _), Nat.ne_of_gt lS⟩
        have off : ∀ b, s.heap.objs.size ≤ b → s.heap.get? b = none := fun b hb => by
          cases e : s.heap.get? b with
          | none => rfl
          | some o => exact absurd (Nat.lt_of_lt_of_le (Heap.lt_size e) hb) (Nat.lt_irrefl _)
        refine update_gen (Z := Z) (h0 := s.heap) (items := items) ((Walks.list (by simp [hh]) _ l nI items).toS) nS rfl (fun i v hv => hv) hZ (off _ (Nat.le_refl _)) (fun b hb => off b (by
            rw [List.mem_singleton.mp hb, Heap.size_push]; omega)) (ha _ rfl) (items.size - 0) 0 _ (by omega) (Nat.zero_le _)
          ⟨⟨_, Heap.get?_push_size _ rfl, rfl, rfl⟩, (hl1.push _)⟩ (fun b o e => Heap.get?_push_of_some _ (Heap.get?_push_of_some _ e)) (z0 _ (Heap.get?_push_of_some _ hS)) fun u' m z g => ?_
        obtain ⟨h', g2', d', tk', os'⟩ := u'
        have e1 : g2' = s.gens := m.gens
        have e2 : d' = s.drawn := m.drawn
        have e3 : os' = s.os := m.os
        subst e1; subst e2; subst e3
        refine wpAny_pure ?_
        show wpAny _ _ (ret Value.none) _ _ _
        exact wpAny_pure ⟨rfl, h', tk', rfl, z, g⟩
      · cases r₂ with
        | error e => exact hr₂
        | ok fl₂ =>
          cases fl₂ with
          | ret r =>
            obtain ⟨rfl, h', tk, rfl, z, g⟩ := hr₂
            repeat (any_goals (first | assumption | wp_step))
            exact q _ _ z g
          | _ => exact hr₂.elim
    | _ => exact hr.elim
end
end TSN

end
section
namespace TSN
open PySem PySem.W PySem.Calls PyProof.Rows
section
variable {prog : Program} {w : World} {A : Around} {E : Value → Shared → Prop} {s : Shared}
/-- sorted(r), told by what collecting r gives -/
theorem sorted_any {r : Addr} {enc : PyData → PyData} {R : Value → PyData → Prop} {Q : Value → Shared → Prop}
    (h : wpAny (model prog w) A.in1 (collect (.ref r)) (fun vs u => ∃ bs : List PyData, EachIs R vs bs ∧ EachIs (fun v b => Reads u.heap v (enc b) []) vs bs ∧ AllAlike (bs.map enc) ∧ Sortable (bs.map enc) ∧ bs.length ≤ sizeLine ∧ (∀ b, b ∈ bs → A.units + 2 + (enc b).depth < cLine) ∧
      ∀ (h'' : Heap) (n : Nat) (out : List Value), (∀ b o, u.heap.get? b = some o → h''.get? b = some o) → out.length = bs.length → EachIs R out (bs.mergeSort (dataLe false enc)) → h''.get? u.heap.objs.size = some (seqObj "list" (List.toArray out) n) → Q (.ref u.heap.objs.size) { u with heap := h'' }) E s) :
    wpAny (model prog w) A (call (.builtin "sorted") [.ref r]) Q E s := by
  refine call_function_entry kind_sorted plain_sorted entry_sorted (args_sorted1 _) ?_
  unfold Builtin.«sorted»
  refine wpAny_bind (m := checkCount "sorted" 1 1 _) (wpAny_pure ?_)
  refine wpAny_bind (wpAny_mono h (fun vs u x => ?_) fun _ _ e => e)
  obtain ⟨bs, e, er, hal, hk, hL, hu, q⟩ := x
  have hl : vs.length ≤ sizeLine := by rw [e.length]; exact hL
  refine wpAny_bind (wpAny_newList ?_ hl)
  have hat : (u.heap.push { cls := .type "list", data := .seq vs.toArray }).get? u.heap.objs.size = some (seqObj "list" vs.toArray 0) := Heap.get?_push_size _ rfl
  have hold : ∀ b o, u.heap.get? b = some o → (u.heap.push { cls := .type "list", data := .seq vs.toArray }).get? b = some o := fun b o z => Heap.get?_push_of_some _ z
  refine wpAny_bind (wpAny_holding (list_sort_data (A := A.in1) (s := { u with heap := u.heap.push { cls := .type "list", data := .seq vs.toArray } }) hat e (er.mono fun v b z => ⟨[], PyProof.Rows.Reads.keeps hold z, List.not_mem_nil⟩) hal hk hL (fun b hb => by have := hu b hb; show A.units + 1 + 1 + _ < _; omega) fun out ho eo => ?_))
  refine wpAny_pure ⟨_, rfl, ?_⟩
  obtain ⟨n, hn⟩ := sortedHeap_at (vs := vs) (out := out.toArray) hat
  refine q _ n out (fun b o z => ?_) ho eo hn
  exact (sortedHeap_old (Nat.ne_of_lt (Heap.lt_size z)) (Heap.lt_size (hold b o z))).trans (hold b o z)
end
theorem perm_map_inv {α β : Type} {f : α → β} {m k : List β} (h : m.Perm k) : ∀ l : List α, k = l.map f → ∃ l' : List α, l'.Perm l ∧ m = l'.map f := by
  induction h with
  | nil => intro l e; exact ⟨l, .refl _, e⟩
  | cons x _ ih =>
    intro l e
    cases l with
    | nil => cases e
    | cons y l =>
      injection e with e1 e2
      obtain ⟨l', p, q⟩ := ih l e2
      exact ⟨y :: l', p.cons y, by rw [List.map_cons, ← q, e1]⟩
  | swap x y l0 =>
    intro l e
    match l, e with
    | a :: b :: l, e =>
      injection e with e1 e2
      injection e2 with e2 e3
      exact ⟨b :: a :: l, List.Perm.swap a b l, by rw [List.map_cons, List.map_cons, e1, e2, e3]⟩
  | trans _ _ ih1 ih2 =>
    intro l e
    obtain ⟨l', p, q⟩ := ih2 l e
    obtain ⟨l'', p2, q2⟩ := ih1 l' q
    exact ⟨l'', p2.trans p, q2⟩
end TSN
namespace RD
open PySem PySem.Spec PySem.W L2 PyProof.Rows
/-! ### keys as data -/
mutual
theorem nkD_data : ∀ k : NestedKey, nkD k.data = some k
  | .none => rfl
  | .num _ => rfl
  | .text _ => rfl
  | .tup ks => by simp only [NestedKey.data, nkD, nkDs_datas ks]; rfl
theorem nkDs_datas : ∀ ks : List NestedKey, nkDs (NestedKey.datas ks) = some ks
  | [] => rfl
  | k :: ks => by simp only [NestedKey.datas, nkDs, nkD_data k, nkDs_datas ks]; rfl
end
mutual
theorem data_nkD : ∀ (d : D) (k : NestedKey), nkD d = some k → d = k.data
  | .none, k, h => by cases h; rfl
  | .int i, k, h => by cases h; rfl
  | .str i, k, h => by cases h; rfl
  | .bool _, k, h => by simp [nkD] at h
  | .list _, k, h => by simp [nkD] at h
  | .dict _, k, h => by simp [nkD] at h
  | .tuple ds, k, h => by
    simp only [nkD] at h
    obtain ⟨ks, h1, rfl⟩ := Option.map_eq_some_iff.mp h
    simp only [NestedKey.data]
    rw [datas_nkDs ds ks h1]
theorem datas_nkDs : ∀ (ds : List D) (ks : List NestedKey), nkDs ds = some ks → ds = NestedKey.datas ks
  | [], ks, h => by cases h; rfl
  | d :: ds, ks, h => by
    simp only [nkDs] at h
    obtain ⟨k, h1, h2⟩ := Option.bind_eq_some_iff.mp h
    obtain ⟨ks', h3, rfl⟩ := Option.map_eq_some_iff.mp h2
    simp only [NestedKey.datas]
    rw [← data_nkD d k h1, ← datas_nkDs ds ks' h3]
end
theorem nkD_inj {d e : D} {k : NestedKey} (h : nkD d = some k) (g : nkD e = some k) : d = e := (data_nkD d k h).trans (data_nkD e k g).symm
/-! ### each once, in the order in which they are met first -/
def hasK (l : List D) (d : D) : Bool := l.any fun e => decide (nkD e = nkD d)
def addF (acc : List D) (d : D) : List D := if hasK acc d then acc else acc ++ [d]
def firsts (es : List D) : List D := es.foldl addF []
def AllK (l : List D) : Prop := ∀ d ∈ l, ∃ k, nkD d = some k
theorem hasK_iff {l : List D} {d : D} (hl : AllK l) (hd : ∃ k, nkD d = some k) : hasK l d = true ↔ d ∈ l := by
  unfold hasK
  rw [List.any_eq_true]
  constructor
  · rintro ⟨e, he, q⟩
    obtain ⟨k, hk⟩ := hd
    rw [decide_eq_true_eq, hk] at q
    rw [nkD_inj hk q]; exact he
  · exact fun h => ⟨d, h, decide_eq_true rfl⟩
theorem firsts_spec : ∀ (es acc : List D), AllK es → AllK acc → acc.Nodup → (es.foldl addF acc).Nodup ∧ (∀ d, d ∈ es.foldl addF acc ↔ d ∈ acc ∨ d ∈ es) ∧ AllK (es.foldl addF acc)
  | [], acc, _, h2, h3 => ⟨h3, fun d => by simp, h2⟩
  | e :: es, acc, h1, h2, h3 => by
    have he := h1 e List.mem_cons_self
    have ht : AllK es := fun d hd => h1 d (List.mem_cons_of_mem _ hd)
    rw [List.foldl_cons]
    unfold addF
    split
    · rename_i q
      have q := (hasK_iff h2 he).mp q
      obtain ⟨a, b, c⟩ := firsts_spec es acc ht h2 h3
      refine ⟨a, fun d => ?_, c⟩
      rw [show List.foldl (fun acc d => if hasK acc d = true then acc else acc ++ [d]) acc es = es.foldl addF acc from rfl, b, List.mem_cons]
      constructor
      · rintro (z | z)
        · exact .inl z
        · exact .inr (.inr z)
      · rintro (z | rfl | z)
        · exact .inl z
        · exact .inl q
        · exact .inr z
    · rename_i q
      have q : e ∉ acc := fun z => q ((hasK_iff h2 he).mpr z)
      have n : (acc ++ [e]).Nodup := by
        rw [List.nodup_append]
        exact ⟨h3, by simp, fun x hx y hy => by rw [List.mem_singleton.mp hy]; rintro rfl; exact q hx⟩
      have k : AllK (acc ++ [e]) := fun d hd => by
        rcases List.mem_append.mp hd with z | z
        · exact h2 d z
        · rw [List.mem_singleton.mp z]; exact he
      obtain ⟨a, b, c⟩ := firsts_spec es (acc ++ [e]) ht k n
      refine ⟨a, fun d => ?_, c⟩
      rw [show List.foldl (fun acc d => if hasK acc d = true then acc else acc ++ [d]) (acc ++ [e]) es = es.foldl addF (acc ++ [e]) from rfl, b, List.mem_append, List.mem_singleton, List.mem_cons, or_assoc]
/-! ### sorting does not ask for the sequence -/
theorem lt_le (a b : D) : dataLe false id a b = !dataLt b a := rfl
theorem sortN_pw (l : List D) : (sortN l).Pairwise (fun a b => dataLe false id a b = true) := by
  refine List.pairwise_mergeSort (fun a b c h1 h2 => ?_) (fun a b => ?_) l
  · rw [lt_le] at h1 h2 ⊢
    simp only [Bool.not_eq_true'] at h1 h2 ⊢
    unfold dataLt at h1 h2 ⊢
    cases q : lexLt itemOrd (keyToks c) (keyToks a) with
    | false => rfl
    | true =>
      rcases lex_negTrans (O := itemOrd) _ (keyToks b) _ q with z | z
      · rw [h2] at z; cases z
      · rw [h1] at z; cases z
  · rw [lt_le, lt_le]
    unfold dataLt
    cases q : lexLt itemOrd (keyToks b) (keyToks a) with
    | false => rfl
    | true =>
      cases q2 : lexLt itemOrd (keyToks a) (keyToks b) with
      | false => rfl
      | true =>
        have := lex_trans (O := itemOrd) _ _ _ q q2
        rw [lex_irrefl] at this
        cases this
mutual
theorem eqv_nk : ∀ (x y : D), alike x y = true → PyData.eqv x y = true → (∃ k, nkD x = some k) → x = y
  | .int i, y, a, e, _ => by
    cases y <;> simp [alike] at a
    simp [PyData.eqv] at e
    rw [e]
  | .str i, y, a, e, _ => by
    cases y <;> simp [alike] at a
    simp [PyData.eqv] at e
    rw [e]
  | .none, y, a, e, _ => by cases y <;> simp [alike] at a; rfl
  | .bool _, y, a, e, ⟨k, h⟩ => by simp [nkD] at h
  | .list _, y, a, e, ⟨k, h⟩ => by simp [nkD] at h
  | .dict _, y, a, e, ⟨k, h⟩ => by simp [nkD] at h
  | .tuple xs, y, a, e, ⟨k, h⟩ => by
    cases y <;> simp [alike] at a
    rename_i ys
    simp only [PyData.eqv] at e
    simp only [nkD] at h
    obtain ⟨ks, h1, _⟩ := Option.map_eq_some_iff.mp h
    rw [eqv_nks xs ys a e ⟨ks, h1⟩]
theorem eqv_nks : ∀ (xs ys : List D), alikeAll xs ys = true → PyData.eqvAll xs ys = true → (∃ k, nkDs xs = some k) → xs = ys
  | [], ys, a, e, _ => by cases ys with
    | nil => rfl
    | cons y ys => simp [PyData.eqvAll] at e
  | x :: xs, [], a, e, _ => by simp [PyData.eqvAll] at e
  | x :: xs, y :: ys, a, e, ⟨k, h⟩ => by
    obtain ⟨a1, a2⟩ := alike_all_cons a
    rw [eqv_all_cons, Bool.and_eq_true] at e
    simp only [nkDs] at h
    obtain ⟨k1, h1, h2⟩ := Option.bind_eq_some_iff.mp h
    obtain ⟨ks, h3, _⟩ := Option.map_eq_some_iff.mp h2
    rw [eqv_nk x y a1 e.1 ⟨k1, h1⟩, eqv_nks xs ys a2 e.2 ⟨ks, h3⟩]
end
theorem le_anti {a b : D} (al : alike a b = true) (k : ∃ k, nkD a = some k) (h1 : dataLe false id a b = true) (h2 : dataLe false id b a = true) : a = b := by
  rw [lt_le] at h1 h2
  simp only [Bool.not_eq_true'] at h1 h2
  have e := lex_total (O := itemOrd) _ _ h1 h2
  refine eqv_nk a b al ?_ k
  cases q : PyData.eqv a b with
  | true => rfl
  | false =>
    have z := (toks_eqv a b al).2 q [Sum.inl 0] [Sum.inl 1]
    rw [← e, lex_pre, lex_irrefl] at z
    rw [lex_one] at z
    exact absurd z (by decide)
theorem sortN_perm {l m : List D} (p : l.Perm m) (al : ∀ a ∈ l, ∀ b ∈ l, alike a b = true) (k : AllK l) : sortN l = sortN m := by
  have p1 : (sortN l).Perm l := List.mergeSort_perm _ _
  have p2 : (sortN m).Perm m := List.mergeSort_perm _ _
  refine List.Perm.eq_of_pairwise (le := fun a b => dataLe false id a b = true) (fun a b ha hb h1 h2 => ?_) (sortN_pw l) (sortN_pw m) (p1.trans (p.trans p2.symm))
  exact le_anti (al a (p1.mem_iff.mp ha) b (p.mem_iff.mpr (p2.mem_iff.mp hb))) (k a (p1.mem_iff.mp ha)) h1 h2
end RD
namespace RD
open PySem PySem.Spec PySem.W L2 PyProof.Rows
variable [HasK]
/-! ### sorted(set(xs)) -/
def isIntD : D → Bool
  | .int _ => true
  | _ => false
def isNumT (d : D) : Bool := match d with
  | .tuple _ => match nkD d with
    | some k => TSN.numK k && decide (k.depth ≤ 8)
    | none => false
  | _ => false
def okSet (es : List D) : Bool := okS es && decide (es.length < 64) && (es.all isIntD || es.all isNumT)
def setSortD : List D → Option D
  | [.list es] => if okSet es = true then some (.list (sortN (firsts es))) else none
  | _ => none
theorem sqL_ints : ∀ {F : Hp} {xs : List V} {es : List D}, RpAll F xs es → es.all isIntD = true → ∃ ns : List Int, xs = ns.map V.int ∧ es = ns.map PyData.int
  | _, _, _, .nil, _ => ⟨[], rfl, rfl⟩
  | _, _, _, .cons (d := d) h r, q => by
    rw [List.all_cons, Bool.and_eq_true] at q
    obtain ⟨ns, e1, e2⟩ := sqL_ints r q.2
    cases d <;> simp [isIntD] at q
    cases h
    exact ⟨_ :: ns, by rw [e1]; rfl, by rw [e2]; rfl⟩
theorem isNumT_of {d : D} (h : isNumT d = true) : ∃ ds k, d = .tuple ds ∧ nkD d = some k ∧ TSN.numK k = true ∧ k.depth ≤ 8 := by
  unfold isNumT at h
  split at h
  · rename_i ds
    split at h
    · rename_i k hk
      rw [Bool.and_eq_true, decide_eq_true_eq] at h
      exact ⟨ds, k, rfl, hk, h.1, h.2⟩
    · cases h
  · cases h
theorem sqL_keys : ∀ {F : Hp} {xs : List V} {es : List D}, RpAll F xs es → es.all isNumT = true → ∃ ks : List (Addr × NestedKey), xs = ks.map (fun p => V.ref p.1) ∧ es = ks.map (fun p => p.2.data) ∧ ∀ p ∈ ks, Rp F (.ref p.1) p.2.data ∧ TSN.numK p.2 = true ∧ p.2.depth ≤ 8
  | _, _, _, .nil, _ => ⟨[], rfl, rfl, fun p hp => nomatch hp⟩
  | _, _, _, .cons (d := d) h r, q => by
    rw [List.all_cons, Bool.and_eq_true] at q
    obtain ⟨ks, e1, e2, e3⟩ := sqL_keys r q.2
    obtain ⟨ds, k, rfl, hk, n1, n2⟩ := isNumT_of q.1
    have ed := data_nkD _ _ hk
    cases h with
    | tup g ra =>
      rename_i a us
      refine ⟨(a, k) :: ks, by rw [e1]; rfl, by rw [e2, List.map_cons, ← ed], fun p hp => ?_⟩
      rcases List.mem_cons.mp hp with rfl | hp
      · exact ⟨by rw [← ed]; exact .tup g ra, n1, n2⟩
      · exact e3 p hp
/-- what the set has got from the first i items -/
def GotN (ks : List (Addr × NestedKey)) (i : Nat) (L : List (Addr × NestedKey)) : Prop := (∀ p ∈ L, p ∈ ks.take i) ∧ (∀ p ∈ ks.take i, p.2 ∈ L.map (·.2)) ∧ L.length ≤ i
theorem GotN.next {ks L L' : List (Addr × NestedKey)} {i : Nat} {x : Addr × NestedKey} (g : GotN ks i L) (h : ks[i]? = some x) (c1 : x.2 ∈ L.map (·.2) → L' = L) (c2 : x.2 ∉ L.map (·.2) → L'.Perm (x :: L)) : GotN ks (i + 1) L' := by
  have tk : ks.take (i + 1) = ks.take i ++ [x] := by rw [List.take_add_one, h]; rfl
  obtain ⟨g1, g2, g3⟩ := g
  unfold GotN
  rw [tk]
  rcases Classical.em (x.2 ∈ L.map (·.2)) with c | c
  · rw [c1 c]
    refine ⟨fun p hp => List.mem_append_left _ (g1 p hp), fun p hp => ?_, by omega⟩
    rcases List.mem_append.mp hp with z | z
    · exact g2 p z
    · rw [List.mem_singleton.mp z]; exact c
  · have pm := c2 c
    refine ⟨fun p hp => ?_, fun p hp => ?_, by rw [pm.length_eq, List.length_cons]; omega⟩
    · rcases List.mem_cons.mp (pm.mem_iff.mp hp) with rfl | z
      · exact List.mem_append_right _ List.mem_cons_self
      · exact List.mem_append_left _ (g1 p z)
    · rw [(pm.map (·.2)).mem_iff, List.map_cons]
      rcases List.mem_append.mp hp with z | z
      · exact List.mem_cons_of_mem _ (g2 p z)
      · rw [List.mem_singleton.mp z]; exact List.mem_cons_self
theorem refs_vals : ∀ {ks : List (Addr × NestedKey)} {us : List Value}, Vals (ks.map fun p => V.ref p.1) us → us = ks.map fun p => Value.ref p.1
  | [], _, .nil => rfl
  | p :: ks, _, .cons r t => by cases r; rw [refs_vals t]; rfl
/-- collecting a set: each of its members once -/
theorem set_done {X : Cx} {pins : List (Addr × Obj)} {σ : L2.St} {F H : Hp} {s : Shared} {Q : VK} {S : Addr} {es : Array (Int × Value)} {ep : Nat} {t : SetTable} {ds : List D} (hc : X.calm = true) (hu : X.A.units + 64 < cLine) (ex : Ex F H)
    (ob : ∃ o, s.heap.get? S = some o ∧ o.ExactSet ∧ o.data = .set es ep t) (hf : t.fits es.size = true) (hsz : es.size < scanBound) (hr : Ris t.place.toList) (hl : X.w.params.followText "set-order" = true ∨ t.led = true)
    (I : Inv X pins σ H s) (ok : okS ds = true)
    (hv : ∀ out : List Value, out.Perm (es.toList.map (·.2)) → ∃ bs : List D, bs.Nodup ∧ (∀ d, d ∈ bs ↔ d ∈ ds) ∧ ∃ xs, Vals xs out ∧ RpAll F xs bs)
    (q : ∀ (ys : List V) (p : Addr), RpAll F ys (sortN (firsts ds)) → H p = none → Q (.ref p) (upd H p (.lst ys))) :
    wpAny (model X.prog X.w) X.A (call (.builtin "sorted") [.ref S]) (fun v s' => ∃ x H', Inv X pins σ H' s' ∧ RelV x v ∧ Q x H') X.xe s := by
  obtain ⟨k1, k2, k3, k4⟩ := okS_alike ok
  rw [List.map_id] at k1 k2
  obtain ⟨o, ho, hex, hd⟩ := ob
  refine TSN.sorted_any (enc := id) (R := fun u d => ∃ x, RelV x u ∧ Rp F x d) (collect_set (A := X.A.in1) (I.ok.hd hc) ⟨o, ho, hex.1, hd⟩ hf hsz hr hl fun u out hk _ hg hos pm => ?_)
  obtain ⟨bs, nd, mem, xs, rv, ra⟩ := hv out pm
  have allk : AllK ds := fun d hd => (k4 d hd).1
  obtain ⟨f1, f2, f3⟩ := firsts_spec ds [] allk (fun d hd => nomatch hd) List.nodup_nil
  have perm : bs.Perm (firsts ds) := (List.perm_ext_iff_of_nodup nd f1).mpr fun d => (mem d).trans (by rw [f2 d]; simp)
  have al : ∀ a ∈ bs, ∀ b ∈ bs, alike a b = true := fun a ha b hb => k1 a ((mem a).mp ha) b ((mem b).mp hb)
  have len : bs.length ≤ ds.length := by
    have h1 : bs.length = (firsts ds).length := perm.length_eq
    have h2 : ∀ (es acc : List D), (es.foldl addF acc).length ≤ acc.length + es.length := by
      intro es
      induction es with
      | nil => intro acc; simp
      | cons e es ih =>
        intro acc
        rw [List.foldl_cons]
        refine Nat.le_trans (ih _) ?_
        unfold addF
        split <;> simp <;> omega
    have h3 := h2 ds []
    rw [h1]
    simpa [firsts] using h3
  have es' : u = { s with heap := u.heap, gens := u.gens, drawn := u.drawn, toks := u.toks } := by
    cases u
    cases s
    cases hos
    rfl
  have I1 : Inv X pins σ H u := by
    rw [es']
    exact I.call (ch := []) (Un.kept hk) (I.hok.kept hk) (by rw [hg]; exact I.bare) (fun _ z => nomatch z)
  refine ⟨bs, rp_each ra rv, each_reads ex I1.hok ra rv fun d hd => (k4 d ((mem d).mp hd)).1, ?_, ?_, by omega, fun b hb => ?_, fun h'' n out' e2 hl' eo hn => ?_⟩
  · rw [List.map_id]; exact fun a ha b hb => al a ha b hb
  · rw [List.map_id]
    rcases k2 with z | z
    · exact .inl fun d hd => z d ((mem d).mp hd)
    · exact .inr fun d hd => z d ((mem d).mp hd)
  · have := (k4 b ((mem b).mp hb)).2
    show X.A.units + 2 + b.depth < _
    omega
  · obtain ⟨ys, g1, g2⟩ := each_rp eo
    have g2 : RpAll F ys (sortN bs) := g2
    rw [sortN_perm perm al fun d hd => (k4 d ((mem d).mp hd)).1] at g2
    have hlen : ys.length ≤ sizeLine := by
      have : out'.length = ys.length := (g1.length).symm
      omega
    exact ⟨.ref _, upd H u.heap.objs.size (.lst ys), I1.laid (t' := u.toks) e2 (Nat.le_refl _) ⟨hlen, out', n, g1, hn⟩, rfl, q ys _ g2 (I1.hok.fresh (Nat.le_refl _))⟩
def rSetSort (K : PySem.W.Frag) : V → Hp → VK → Prop := fun x H Q => ∃ (F : Hp) (es : List D) (l : Addr) (xs : List V), Ex F H ∧ x = V.ref l ∧ SqL K H l xs ∧ RpAll F xs es ∧ okSet es = true ∧
  ∀ (ys : List V) (p : Addr), RpAll F ys (sortN (firsts es)) → H p = none → Q (.ref p) (upd H p (.lst ys))
def tSetSort (K : PySem.W.Frag) (ta : TE) : TE := fun σ H Q => ta σ H fun x H1 => rSetSort K x H1 Q
theorem pe_setSort {X : Cx} {a : Expr} {ta : TE} {p p2 q pos : Pos} (hc : X.calm = true) (hu : X.A.units + 64 < cLine) (hg : Gl X "sorted") (hm : X.mg "sorted" = none) (hg2 : Gl X "set") (hm2 : X.mg "set" = none) (ha : PE X a ta)
    (na : starEach [a] X.env = (false, eval a X.env) :: starEach [] X.env := by rfl) : PE X (.Call (.Name "sorted" p) [.Call (.Name "set" p2) [a] [] q] [] pos) (tSetSort X.K ta) := by
  refine ⟨fun pins s σ H Q I h => ?_⟩
  refine Call_ (ld_blt I hg hm (show bootBuiltins "sorted" = some (.builtin "sorted") by decide +kernel) ?_)
  refine PyProof.Rows.callWith_builtin1 (PyProof.Rows.args_cons ?_ rfl) rfl rfl
  refine Call_ (ld_blt I hg2 hm2 PyProof.Rows.boot_set ?_)
  refine PyProof.Rows.callWith_type1 (PyProof.Rows.args_cons (thn (ha.run pins s σ H _ I h) fun v s1 ⟨x, H1, I1, r1, q1⟩ => PyProof.Rows.args_nil ?_) na) na rfl
  obtain ⟨F, es, l, xs, ex, rfl, hq, hr, ok, q1⟩ := q1
  cases r1
  unfold okSet at ok
  rw [Bool.and_eq_true, Bool.and_eq_true, decide_eq_true_eq, Bool.or_eq_true] at ok
  obtain ⟨⟨ok1, ok2⟩, ok3⟩ := ok
  obtain ⟨its, rv, pl, hz⟩ := I1.list hq
  have hsz : its.toArray.size = es.length := by rw [List.size_toArray, ← rv.length, hr.len]
  rcases ok3 with ok3 | ok3
  · obtain ⟨ns, rfl, rfl⟩ := sqL_ints hr ok3
    rw [List.length_map] at hsz ok2
    have hit : IntsAre its ns := rv.ints
    refine TSN.call_set_gen (Z := fun i h => ∃ c, c ≤ i ∧ SetR X.w h s1.heap.objs.size (fun j => decide (j ∈ ns.take i)) c) (I1.ok.hd hc) pl.isList (fun h e => ⟨0, Nat.le_refl 0, setR_new_at e⟩) (fun i h h' z e _ => ?_) (fun A' _ i v E' u Q' hi z k qq => ?_) fun h' tk z k => ?_
    · obtain ⟨c, c1, c2⟩ := z
      exact ⟨c, c1, c2.at e⟩
    · obtain ⟨c, c1, c2⟩ := z
      have hi2 : i < ns.length := by rw [← hsz]; exact (Array.getElem?_eq_some_iff.mp hi).1
      obtain ⟨tk, e⟩ := PyProof.Rows.IntsAre.int_at hit i v (by simpa using hi)
      have hz2 : ns[i]? = some (ns.getD i 0) := by rw [List.getD_eq_getElem?_getD, List.getElem?_eq_getElem hi2]; rfl
      rw [e]
      generalize ns.getD i 0 = z at hz2
      unfold setAdd
      refine wpAny_holding (wpAny_bind ((intKind X.prog X.w).pyHash (k := z) (intKind_is _ _ _ _) ?_))
      refine setR_add_hashed (s := { u with toks := u.toks + 1 }) c2 (by unfold scanBound; omega) fun h' sb c3 => qq _ h' (u.toks + 1) (Nat.le_succ _) sb ⟨_, ?_, c3.congr fun j => ?_⟩
      · split <;> omega
      · rw [List.take_add_one, hz2]
        simp [List.mem_append]
    · obtain ⟨c, c1, o, es, ep, t, ho, hex, hd, good, nd, mem, hb, hf, hn, hris, hled⟩ := z
      have I2 : Inv X pins σ H1 { s1 with heap := h', toks := tk } := I1.kept k
      refine PyProof.Rows.args_nil ?_
      refine set_done (s := { s1 with heap := h', toks := tk }) hc hu ex ⟨o, ho, hex, hd⟩ hf hb hris hled I2 ok1 (fun out pm => ?_) q1
      obtain ⟨l', p', e'⟩ := TSN.perm_map_inv pm es.toList rfl
      have gl : ∀ e ∈ l', GoodE e := fun e he => good e (p'.mem_iff.mp he)
      refine ⟨l'.map fun e => PyData.int (L2.keyOf e), ?_, fun d => ?_, l'.map fun e => V.int (L2.keyOf e), ?_, ?_⟩
      · have n2 : (l'.map L2.keyOf).Nodup := (p'.map L2.keyOf).nodup_iff.mpr nd
        rw [show (l'.map fun e => PyData.int (L2.keyOf e)) = (l'.map L2.keyOf).map PyData.int by rw [List.map_map]; rfl]
        exact List.Pairwise.map _ (fun a b hne z => hne (by injection z)) n2
      · have m2 : ∀ z : Int, z ∈ ns ↔ z ∈ l'.map L2.keyOf := fun z => by
          rw [(p'.map L2.keyOf).mem_iff, ← mem z, decide_eq_true_eq, hsz, List.take_length]
        constructor
        · intro hd'
          obtain ⟨e, he, rfl⟩ := List.mem_map.mp hd'
          exact List.mem_map.mpr ⟨_, (m2 _).mpr (List.mem_map.mpr ⟨e, he, rfl⟩), rfl⟩
        · intro hd'
          obtain ⟨z, hz', rfl⟩ := List.mem_map.mp hd'
          obtain ⟨e, he, e2⟩ := List.mem_map.mp ((m2 z).mp hz')
          exact List.mem_map.mpr ⟨e, he, by rw [e2]⟩
      · subst e'
        clear p' pm
        induction l' with
        | nil => exact .nil
        | cons e l' ih =>
          refine .cons ?_ (ih fun e he => gl e (List.mem_cons_of_mem _ he))
          obtain ⟨k', tk', h1, _⟩ := gl e List.mem_cons_self
          exact ⟨tk', by show e.2 = _; simp only [L2.keyOf, h1]⟩
      · clear e' p' gl
        induction l' with
        | nil => exact .nil
        | cons e l' ih => exact .cons (.int _) ih
  · obtain ⟨ks, rfl, rfl, hks⟩ := sqL_keys hr ok3
    rw [List.length_map] at hsz ok2
    have hit := refs_vals rv
    subst hit
    have nk0 : ∀ p ∈ ks, TSN.Nk s1.heap p.2 p.1 := fun p hp => ⟨Rp.nested I1.hok ((hks p hp).1.mono ex) (nkD_data p.2) rfl, (hks p hp).2.2, (hks p hp).2.1⟩
    refine TSN.call_set_gen (Z := fun i h => ∃ L es ep t, TSN.SN X.w h s1.heap.objs.size L es ep t ∧ GotN ks i L) (I1.ok.hd hc) pl.isList (fun h e => ⟨[], #[], 0, _, TSN.sn_new e, fun p hp => (nomatch hp), fun p hp => (by simp at hp), Nat.le_refl _⟩) (fun i h h' z e k => ?_) (fun A' hA i v E' u Q' hi z k qq => ?_) fun h' tk z k => ?_
    · obtain ⟨L, es, ep, t, z1, z2⟩ := z
      exact ⟨L, es, ep, t, z1.keep e fun p hp => (nk0 p (List.mem_of_mem_take (z2.1 p hp))).keep k, z2⟩
    · obtain ⟨L, es, ep, t, z1, z2⟩ := z
      have hi2 : i < ks.length := by rw [← hsz]; exact (Array.getElem?_eq_some_iff.mp hi).1
      obtain ⟨p, hp⟩ : ∃ p, ks[i]? = some p := ⟨_, List.getElem?_eq_getElem hi2⟩
      have ev : v = Value.ref p.1 := by
        have : (ks.map fun p => Value.ref p.1)[i]? = some v := by simpa using hi
        rw [List.getElem?_map, hp] at this
        exact (Option.some.inj this).symm
      subst ev
      have nk : TSN.Nk u.heap p.2 p.1 := (nk0 p (List.mem_of_getElem? hp)).keep k
      have room : A'.units + 8 < cLine := by omega
      unfold setAdd
      refine wpAny_holding (wpAny_bind ((nestedKind X.prog X.w).pyHash room nk.kind ?_))
      refine TSN.sn_add (s := { u with toks := u.toks + p.2.draws }) z1 nk room (by have := z2.2.2; omega) fun b h' L' es' ep' t' sb z3 c1 c2 => qq b h' (u.toks + p.2.draws) (Nat.le_add_right _ _) sb ⟨L', es', ep', t', z3, z2.next hp c1 c2⟩
    · obtain ⟨L, es, ep, t, z1, z2⟩ := z
      have I2 : Inv X pins σ H1 { s1 with heap := h', toks := tk } := I1.kept k
      refine PyProof.Rows.args_nil ?_
      have few := z1.few
      have esz := TSN.rows_size z1.rows
      refine set_done (s := { s1 with heap := h', toks := tk }) hc hu ex z1.ob (TSN.SN.fits (s := { s1 with heap := h', toks := tk }) z1) (by unfold scanBound; omega) z1.tab.ris z1.led I2 ok1 (fun out pm => ?_) q1
      have e0 : es.toList.map (·.2) = L.map fun p => Value.ref p.1 := by rw [z1.rows, List.map_map]; rfl
      rw [e0] at pm
      obtain ⟨L', p', e'⟩ := TSN.perm_map_inv pm L rfl
      have sub : ∀ p ∈ L', p ∈ ks := fun p hp => List.mem_of_mem_take (z2.1 p (p'.mem_iff.mp hp))
      refine ⟨L'.map fun p => p.2.data, ?_, fun d => ?_, L'.map fun p => V.ref p.1, ?_, ?_⟩
      · have n2 : (L'.map (·.2)).Nodup := (p'.map (·.2)).nodup_iff.mpr z1.nd
        rw [show (L'.map fun p => p.2.data) = (L'.map (·.2)).map NestedKey.data by rw [List.map_map]; rfl]
        exact List.Pairwise.map _ (fun a b hne z => hne (Option.some.inj ((nkD_data a).symm.trans ((congrArg nkD z).trans (nkD_data b))))) n2
      · constructor
        · intro hd'
          obtain ⟨p, hp, rfl⟩ := List.mem_map.mp hd'
          exact List.mem_map.mpr ⟨p, sub p hp, rfl⟩
        · intro hd'
          obtain ⟨p, hp, rfl⟩ := List.mem_map.mp hd'
          have := z2.2.1 p (by rw [hsz, List.take_length]; exact hp)
          obtain ⟨p2, hp2, e2⟩ := List.mem_map.mp this
          exact List.mem_map.mpr ⟨p2, p'.mem_iff.mpr hp2, by rw [e2]⟩
      · subst e'
        clear p' pm sub
        induction L' with
        | nil => exact .nil
        | cons e l' ih => exact .cons rfl ih
      · clear e' p' pm
        induction L' with
        | nil => exact .nil
        | cons e l' ih => exact .cons (hks e (sub e List.mem_cons_self)).1 (ih fun p hp => sub p (List.mem_cons_of_mem _ hp))
section
variable {c : Cc} {e : Expr} {ta : TE} {da : DE} {pos : Pos}
def dSetSort (d : DE) : DE := fun δ => (d δ).bind fun x => Res.ofO (setSortD [x])
theorem je_setSort {p p2 q : Pos} (hc : c.X.calm = true) (hu : c.X.A.units + 64 < cLine) (hg : Gl c.X "sorted") (hm : c.X.mg "sorted" = none) (hg2 : Gl c.X "set") (hm2 : c.X.mg "set" = none) (ha : JB c e ta da) (na : starEach [e] c.X.env = (false, eval e c.X.env) :: starEach [] c.X.env := by rfl) :
    JE c (.Call (.Name "sorted" p) [.Call (.Name "set" p2) [e] [] q] [] pos) (tSetSort HasK.K ta) (dSetSort da) := by
  refine ⟨by rw [← c.hK]; exact pe_setSort hc hu hg hm hg2 hm2 ha.p na, fun F H σ δ Q S P => ?_⟩
  refine ha.s.go S P fun F1 H1 x d s1 S1 hx P1 => Sim.last P1 fun z hz k => ?_
  unfold setSortD at hz
  split at hz
  · rename_i es q0
    injection q0 with q0 _
    subst q0
    split at hz
    · rename_i ok
      cases hz
      obtain ⟨a, us, rfl, h1, h2⟩ := hx.lst S1.fh
      exact ⟨F1, es, a, us, S1.fh, rfl, sqL h1, h2, ok, fun ys p hy hp => new_lst S1.fh hy k p hp⟩
    · cases hz
  · cases hz
end
end RD

end
section
namespace RD
open PySem PySem.Spec PySem.W L2 PyProof.Rows
variable [HasK]
/-! ### sorted(d), d a dict whose keys are tuples -/
theorem RpT.keyL {F : Hp} : ∀ {xs : XT} {es : List (D × D)}, RpT F xs es → RpAll F (xs.map fun x => V.ref x.2.1) (es.map (·.1))
  | _, _, .nil => .nil
  | _, _, .cons g _ _ _ r => .cons g (RpT.keyL r)
theorem np_refs : ∀ {xs : XT} {ys : List (NestedKey × Addr × Value)}, NP xs ys → Vals (xs.map fun x => V.ref x.2.1) (ys.map fun y => Value.ref y.2.1)
  | _, _, .nil => .nil
  | _, _, .cons h t => by
    refine .cons ?_ (np_refs t)
    exact congrArg Value.ref h.2.1.symm
def rSortDT (P : Program) (w : World) : List V → Hp → VK → Prop := fun vs H Q => ∃ (F : Hp) (es : List (D × D)) (a : Addr) (xs : XT), Ex F H ∧ vs = [V.ref a] ∧ RdT P w H a xs ∧ RpT F xs es ∧ okS (es.map (·.1)) = true ∧
  ∀ (ys : List V) (p : Addr), RpAll F ys (sortN (es.map (·.1))) → H p = none → Q (.ref p) (upd H p (.lst ys))
theorem cr_sortDT {X : Cx} (hc : X.calm = true) (hu : X.A.units + 64 < cLine) : CallR X (.builtin "sorted") (rSortDT X.prog X.w) := by
  intro pins s σ H vs us Q I r h
  obtain ⟨F, es, a, xs, ex, rfl, hs, hr, hok, q⟩ := h
  rw [Vals.ref1 r]
  obtain ⟨k1, k2, k3, k4⟩ := okS_alike hok
  obtain ⟨hz, hsys, ys0, rel, o, dv, ep, g1, g2, g3, g4, g5, g6⟩ := dtr_of I.hok hs
  have raw : s.heap.DictRaw a dv ep := ⟨o, g1, g2, g3⟩
  have hn : dv.size = xs.length := by
    have := congrArg List.length g4
    simp at this
    rw [this, ← Paired.length rel]
  refine TSN.sorted_any (enc := id) (R := fun u d => ∃ x, RelV x u ∧ Rp F x d) (kdu_collect (A := X.A.in1) (KdlSrc.rawDict (es := dv) (ep := ep) hsys) (I.ok.hd hc) raw (by rw [hn]; exact hz) fun h' tk acc hk hacc => ?_)
  have eacc : acc.toList = ys0.map fun y => Value.ref y.2.1 := by
    have hl : acc.size = dv.size := hacc.1
    refine List.ext_getElem? fun i => ?_
    rw [List.getElem?_map]
    cases qi : acc.toList[i]? with
    | none =>
      have : ys0.length ≤ i := by
        have := List.getElem?_eq_none_iff.mp qi
        rw [Array.length_toList, hl, hn, Paired.length rel] at this
        exact this
      rw [List.getElem?_eq_none_iff.mpr this]; rfl
    | some v =>
      obtain ⟨hi, e⟩ := hacc.2 i v (by rw [← Array.getElem?_toList]; exact qi)
      have e2 : dv.toList[i]? = some dv[i] := by rw [Array.getElem?_toList, Array.getElem?_eq_getElem hi]
      rw [g4, List.getElem?_map] at e2
      cases qy : ys0[i]? with
      | none => rw [qy] at e2; cases e2
      | some y =>
        rw [qy] at e2
        have e3 : entryOfKey (nestedKind X.prog X.w) y = dv[i] := Option.some.inj e2
        rw [e, ← e3]
        rfl
  have rv : Vals (xs.map fun x => V.ref x.2.1) acc.toList := by rw [eacc]; exact np_refs rel
  have ra := hr.keyL
  have I1 : Inv X pins σ H { s with heap := h', toks := tk } := I.kept hk
  refine ⟨es.map (·.1), rp_each ra rv, each_reads ex I1.hok ra rv fun d hd => (k4 d hd).1, k1, k2, k3, fun b hb => ?_, fun h'' n out e2 hl eo hn => ?_⟩
  · have := (k4 b hb).2
    show X.A.units + 2 + b.depth < _
    omega
  · obtain ⟨ys, g1, g2⟩ := each_rp eo
    have hlen : ys.length ≤ sizeLine := by
      have : out.length = ys.length := (g1.length).symm
      omega
    exact ⟨.ref _, upd H h'.objs.size (.lst ys), I1.laid (t' := tk) e2 (Nat.le_refl _) ⟨hlen, out, n, g1, hn⟩, rfl, q ys _ g2 (I1.hok.fresh (Nat.le_refl _))⟩
def sortedDT : List D → Option D
  | [.dict ((.none, .none) :: es)] => if okS (es.map (·.1)) = true then some (.list (sortN (es.map (·.1)))) else none
  | _ => none
theorem sortedDT_go {F H : Hp} {vs : List V} {ds : List D} {z : D} {Q : VK} (ex : Ex F H) (h : BwAll F H vs ds) (hz : sortedDT ds = some z) (k : ∀ v F' H', Step F H F' H' → Rp F' v z → Q v H') : rSortDT HasK.P HasK.w vs H Q := by
  unfold sortedDT at hz
  split at hz
  · split at hz
    · rename_i q
      cases hz
      cases h with
      | cons h hn =>
        cases hn
        obtain ⟨a, xs, rfl, h1, h2⟩ := h.dictT ex
        exact ⟨F, _, a, xs, ex, rfl, h1, h2, q, fun ys p hy hp => new_lst ex hy k p hp⟩
    · cases hz
  · cases hz
section
variable {c : Cc} {e : Expr} {tr : TA} {dr : DA} {pos : Pos}
theorem je_sortedDT {p : Pos} (hc : c.X.calm = true) (hu : c.X.A.units + 64 < cLine) (hg : Gl c.X "sorted") (hm : c.X.mg "sorted" = none) (ha : JAB c [e] tr dr) (he : starEach [e] c.X.env = (false, eval e c.X.env) :: starEach [] c.X.env := by rfl) (hpl : (backTo pos (starEach [] c.X.env)).any (·.1) = false := by rfl) :
    JE c (.Call (.Name "sorted" p) [e] [] pos) (tCB (rSortDT HasK.P HasK.w) tr) (dCB sortedDT dr) := by
  have h := cr_sortDT hc hu
  rw [c.hP, c.hw] at h
  exact je_callB (id := "sorted") h (fun F H xs ds z Q ex h hz k => sortedDT_go ex h hz k) hg hm (by decide +kernel) ha (by decide) (by decide) he hpl
end
/-! ### list(d.values()), d a frozen dict with numbers or texts as keys -/
theorem RpK.valL {F : Hp} : ∀ {kvs : List (Key × V)} {es : List (D × D)}, RpK F kvs es → RpAll F (kvs.map (·.2)) (es.map (·.2))
  | _, _, .nil => .nil
  | _, _, .cons h r => .cons h (RpK.valL r)
theorem kv_vals {kvs : List (Key × V)} {vs : List (Key × Value)} (h : KV kvs vs) : Vals (kvs.map (·.2)) (vs.map (·.2)) := by
  induction h with
  | nil => exact .nil
  | cons h t ih => exact .cons h.2 ih
def rLVals : V → Hp → VK → Prop := fun x H Q => ∃ (F : Hp) (es : List (D × D)) (d : Addr) (o : Obj) (kvs : List (Key × V)), Ex F H ∧ x = V.ref d ∧ H d = some (.frz o (.dK kvs)) ∧ RpK F kvs es ∧ kvs.length ≤ 1000 ∧
  ∀ (ys : List V) (p : Addr), RpAll F ys (es.map (·.2)) → H p = none → Q (.ref p) (upd H p (.lst ys))
def tLVals (ta : TE) : TE := fun σ H Q => ta σ H fun x H1 => rLVals x H1 Q
theorem pe_lvals {X : Cx} {a : Expr} {ta : TE} {p apos cpos pos : Pos} (hc : X.calm = true) (hg : Gl X "list") (hm : X.mg "list" = none) (ha : PE X a ta) (hbase : attributeBase a "values" X.env (eval a X.env) = eval a X.env := by rfl) (hline : (apos.endLine == cpos.line) = true := by rfl) :
    PE X (.Call (.Name "list" p) [.Call (.Attribute a "values" apos) [] [] cpos] [] pos) (tLVals ta) := by
  refine ⟨fun pins s σ H Q I h => ?_⟩
  refine Call_ (ld_blt I hg hm (show bootBuiltins "list" = some (.type "list") by decide +kernel) ?_)
  refine PyProof.Rows.callWith_type1 (PyProof.Rows.args_cons ?_ rfl) rfl rfl
  refine wpAny_Call_method (T := "dict") (id := "dict.values") hbase rfl hline F.plainAttrs_dict F.slot_dict_values F.type_dict_values (thn (ha.run pins s σ H _ I h) fun u s1 ⟨x, H1, I1, rx, q1⟩ => ?_)
  obtain ⟨F, es, d, o, kvs, ex, rfl, hd, hr, hlen, q⟩ := q1
  obtain rfl : u = Value.ref d := rx
  obtain ⟨hs, hgd, hx, des, ep, vs, hdt, hsz, kv, hm2⟩ := I1.frzK hd
  have hl : kvs.length = vs.length := Paired.length kv
  refine ⟨hm2.dictOf.typeIs, hm2.dictOf.mapOf.noDict, ?_⟩
  have I2 : Inv X pins σ H1 { s1 with heap := s1.heap.push { cls := .type "dict_values", data := .fields #[.ref d] } } := I1.kept (t' := s1.toks) fun b ob z => Heap.get?_push_of_some _ z
  have fin : wpAny (model X.prog X.w) X.A (call (.type "list") [.ref s1.heap.objs.size]) (fun v s' => ∃ x H', Inv X pins σ H' s' ∧ RelV x v ∧ Q x H') X.xe { s1 with heap := s1.heap.push { cls := .type "dict_values", data := .fields #[.ref d] } } := by
    refine kdl_call (kdl_values (r := s1.heap.objs.size) (d := d) (knd := mixKind X.prog X.w) (kvs := vs) (ep := ep)) (I1.ok.hd hc) ⟨⟨_, Heap.get?_push_size _ rfl, rfl, rfl⟩, hm2.push _⟩ (by rw [← hl, sizeLine_eq]; omega) fun h' tk acc cc hk hS hacc => ?_
    have rv : Vals (kvs.map (·.2)) acc.toList := by
      have eacc : acc.toList = vs.map (·.2) := by
        have hla : acc.size = vs.length := hacc.1
        refine List.ext_getElem? fun i => ?_
        rw [List.getElem?_map]
        cases qi : acc.toList[i]? with
        | none =>
          have := List.getElem?_eq_none_iff.mp qi
          rw [Array.length_toList, hla] at this
          rw [List.getElem?_eq_none_iff.mpr this]; rfl
        | some v =>
          obtain ⟨k, e⟩ := hacc.2 i v (by rw [← Array.getElem?_toList]; exact qi)
          rw [e]; rfl
      rw [eacc]
      exact kv_vals kv
    have hz : (kvs.map (·.2)).length ≤ sizeLine := by rw [List.length_map, sizeLine_eq]; omega
    exact ⟨.ref _, upd H1 _ (.lst (kvs.map (·.2))), I2.laid (t' := tk) hk (Nat.le_refl _) ⟨hz, acc.toList, cc, rv, by simpa using hS⟩, rfl, q _ _ hr.valL (I2.hok.fresh (Nat.le_refl _))⟩
  show wpAny _ _ (callWith cpos (.builtin "dict.values") [.ref d] [] []) _ X.xe s1
  exact method_meetsIn PySem.F.slot_dict_values PySem.F.entry_dict_values rfl (PySem.evalArgs_none ⟨rfl, hm2.dictOf.typeIs, PySem.F.args_dict_values_1 _, _, meets_dict_values (mixKind X.prog X.w) d hs, ⟨vs, hm2.dictOf⟩, PyProof.Rows.args_nil fin⟩)
section
variable {c : Cc} {e : Expr} {ta : TE} {da : DE} {pos : Pos}
def lvalsD : D → Option D
  | .dict es => if isK es = true ∧ es.length ≤ 1000 then some (.list (es.map (·.2))) else none
  | _ => none
def dLVals (d : DE) : DE := fun δ => (d δ).bind fun x => Res.ofO (lvalsD x)
theorem je_lvals {p apos cpos : Pos} (hc : c.X.calm = true) (hg : Gl c.X "list") (hm : c.X.mg "list" = none) (ha : JE c e ta da) (hbase : attributeBase e "values" c.X.env (eval e c.X.env) = eval e c.X.env := by rfl) (hline : (apos.endLine == cpos.line) = true := by rfl) :
    JE c (.Call (.Name "list" p) [.Call (.Attribute e "values" apos) [] [] cpos] [] pos) (tLVals ta) (dLVals da) := by
  refine ⟨pe_lvals hc hg hm ha.p hbase hline, fun F H σ δ Q S P => ?_⟩
  refine ha.s.go S P fun F1 H1 x d s1 S1 hx P1 => Sim.last P1 fun z hz k => ?_
  unfold lvalsD at hz
  split at hz
  · rename_i es
    split at hz
    · rename_i ok
      cases hz
      rcases hx.invD _ rfl with ⟨a, ns, _, _, q⟩ | ⟨a, xs, ds, _, _, _, q⟩ | ⟨a, o, kvs, rfl, h2, h3⟩ | ⟨a, o, xs, es', h1, h2, h3, q⟩
      · rw [q] at ok; cases ok.1
      · rw [q] at ok; cases ok.1
      · exact ⟨F1, es, a, o, kvs, S1.fh, rfl, S1.fh _ _ h2, h3, by rw [h3.len]; exact ok.2, fun ys p hy hp => new_lst S1.fh hy k p hp⟩
      · rw [q] at ok; cases ok.1
    · cases hz
  · cases hz
end
end RD

end
section
namespace RD
open PySem PySem.Spec PySem.W L2 PyProof.Rows
variable [HasK]
/-! ### min(t), t a tuple of ints -/
section
variable {prog : Program} {w : World} {A : Around} {E : Value → Shared → Prop} {s : Shared}
omit [HasK] in
theorem min_tup {t : Addr} {its : List Value} {ns : List Int} {Q : Value → Shared → Prop} (hh : A.handled = none) (hl : s.heap.IsTuple t its.toArray) (hi : IntsAre its ns) (hne : 0 < ns.length)
    (h : ∀ h' tk M t', (∀ b o, s.heap.get? b = some o → h'.get? b = some o) → M ∈ ns → (∀ a, a ∈ ns → M ≤ a) → Q (.int M t') { s with heap := h', toks := tk }) : wpAny (model prog w) A (call (.builtin "min") [.ref t]) Q E s := by
  have hlen : its.length = ns.length := hi.length
  have hlt : t < s.heap.objs.size := by obtain ⟨o, ho, _⟩ := hl; exact Heap.lt_size ho
  refine call_min_walk (wpAny_pyIter_tuple hl ?_)
  refine ⟨_, _, _, _, _, _, _, rfl, Walks.tuple (A := A.in1) hh _ t (Nat.ne_of_lt hlt) its.toArray, ⟨⟨_, Heap.get?_push_size _ rfl, rfl, rfl⟩, hl.push _⟩, fun b hb => ?_, by simp; omega, CmpOf.ints_lt (fun i => ns.getD i 0) (fun i v hv => PyProof.Rows.IntsAre.int_at hi i v (by simpa using hv)), fun v h' tk hP hk => ?_⟩
  · rw [Heap.size_push]
    rcases List.mem_cons.mp hb with e | hb
    · rw [e]; exact Nat.lt_succ_self _
    · rw [List.mem_singleton.mp hb]; exact Nat.lt_succ_of_lt hlt
  · obtain ⟨h1, h2⟩ := argBest_lt (fun i => ns.getD i 0) (its.toArray.size - 1)
    obtain ⟨tk', e⟩ := PyProof.Rows.IntsAre.int_at hi _ v (by rw [List.getElem?_toArray] at hP; exact hP)
    rw [e]
    have hsz : its.toArray.size = ns.length := by rw [List.size_toArray]; exact hlen
    refine h h' tk _ _ (fun b o z => hk b o (fun hb => ?_) (Heap.get?_push_of_some _ z)) ?_ fun a ha => ?_
    · rw [List.mem_singleton.mp hb] at z
      exact absurd (Heap.lt_size z) (Nat.lt_irrefl _)
    · exact PySem.getD_mem (by omega)
    · obtain ⟨j, hj, rfl⟩ := mem_getD ha
      exact h2 j (by omega)
end
def rMinT (K : PySem.W.Frag) : List V → Hp → VK → Prop := fun vs H Q => ∃ (a : Addr) (ns : List Int), vs = [V.ref a] ∧ SqT K H a (ns.map V.int) ∧ 0 < ns.length ∧ ∀ m, m ∈ ns → (∀ y, y ∈ ns → m ≤ y) → Q (.int m) H
theorem cr_minT {X : Cx} (hc : X.calm = true) : CallR X (.builtin "min") (rMinT X.K) := by
  intro pins s σ H vs us Q I r h
  obtain ⟨a, ns, rfl, hs, hne, q⟩ := h
  obtain ⟨its, rv, hl, _⟩ := I.tuple hs
  rw [Vals.ref1 r]
  exact min_tup (I.ok.hd hc) hl rv.ints hne fun h' tk m t' hk h1 h2 => ⟨.int _, H, I.kept hk, ⟨_, rfl⟩, q m h1 h2⟩
def minTD : List D → Option D
  | [.tuple xs] => (intsD xs).bind fun ns => if ns = [] then none else some (.int (minL ns))
  | _ => none
section
variable {c : Cc} {e a : Expr} {ta : TE} {da : DE} {tr : TA} {dr : DA} {pos : Pos}
/-! ### a // b, b of either sign -/
def fdivN := i2 (fT (fun _ j => j ≠ 0 ∧ j.natAbs < 1073741824) fun i j => .int (i.fdiv j))
theorem je_fdivN {b : Expr} {tb : TE} {db : DE} (ha : JB c a ta da) (hb : JB c b tb db) : JE c (.BinOp a .FloorDiv b pos) (tOp (rI CDivN fun i j => .int (i.fdiv j)) ta tb) (dOp fdivN da db) :=
  je_bin op_fdivN (s_i2 fun F H i j z Q ex hz k => by
    obtain ⟨h1, rfl⟩ := fT_some hz
    exact ⟨i, j, rfl, rfl, h1, k _ F H (.refl ex) (.int _)⟩) ha hb
/-! ### list(range(n)), one's own -/
theorem jn_lrg1 {p p2 pos2 : Pos} (hg : Gl c.X "list") (hm : c.X.mg "list" = none) (hg2 : Gl c.X "range") (hm2 : c.X.mg "range" = none) (hc : c.X.calm = true) (ha : JE c a ta da)
    (na : starEach [a] c.X.env = (false, eval a c.X.env) :: starEach [] c.X.env := by rfl) (nb : starEach [.Call (.Name "range" p2) [a] [] pos2] c.X.env = (false, eval (.Call (.Name "range" p2) [a] [] pos2) c.X.env) :: starEach [] c.X.env := by rfl) :
    JN c (.Call (.Name "list" p) [.Call (.Name "range" p2) [a] [] pos2] [] pos) (tLstRg (tRg1 ta)) (dLRg1 da) := by
  refine ⟨pe_listRg hc hg hm (prg_1 hg2 hm2 ha.p na) nb, fun F H σ δ Q S P => ha.s.gon S P fun F1 H1 x d s1 S1 hx P1 => ?_⟩
  cases d with
  | int n =>
    cases hx
    have P2 : PostN HasK.mg c.W F1 H1 σ Q (if n ≤ 1000000 ∧ -1000000 ≤ n then .ok (.list (rng 0 n.toNat)) else .stuck) := P1
    split at P2
    · rename_i hn
      have r := rgV_rp F1 0 n
      rw [Int.sub_zero] at r
      exact ⟨n, rfl, rgOk ⟨hn.1, hn.2, by omega, by omega⟩, own_new S1.fh r P2⟩
    · exact P2.elim
  | _ => exact P1.elim
theorem je_minT {p : Pos} (hg : Gl c.X "min") (hm : c.X.mg "min" = none) (hc : c.X.calm = true) (ha : JAB c [e] tr dr) (he : starEach [e] c.X.env = (false, eval e c.X.env) :: starEach [] c.X.env := by rfl) (hpl : (backTo pos (starEach [] c.X.env)).any (·.1) = false := by rfl) :
    JE c (.Call (.Name "min" p) [e] [] pos) (tCB (rMinT HasK.K) tr) (dCB minTD dr) := by
  rw [← c.hK]
  refine je_callB (id := "min") (cr_minT hc) (fun F H xs ds z Q ex h hz k => ?_) hg hm (by decide +kernel) ha (by decide) (by decide) he hpl
  unfold minTD at hz
  split at hz
  · obtain ⟨ns, h1, h2⟩ := Option.bind_eq_some_iff.mp hz
    split at h2
    · cases h2
    · rename_i hne
      cases h2
      cases h with
      | cons h hn =>
        cases hn
        obtain ⟨a, us, rfl, g1, g2⟩ := h.tup ex
        rw [c.hK]
        have eu := RD.ints_of g2 h1
        subst eu
        exact ⟨a, ns, rfl, sqT g1, List.length_pos_iff.mpr hne, fun m m1 m2 => by rw [← minL_is m1 m2]; exact k _ F H (.refl ex) (.int _)⟩
  · cases hz
/-! ### len(d), d a dict with numbers or texts as keys -/
def rLenK : List V → Hp → VK → Prop := fun xs H Q => ∃ a kvs, xs = [V.ref a] ∧ Rd H a (.dK kvs) ∧ Q (.int kvs.length) H
theorem cr_lenK {X : Cx} : CallR X (.builtin "len") rLenK := by
  intro pins s σ H xs us Q I r h
  obtain ⟨a, kvs, rfl, ha, q⟩ := h
  obtain ⟨u, rfl, ru⟩ := vals1 r
  cases ru
  exact d_len I ha fun t s' I' => ⟨.int kvs.length, H, I', ⟨t, rfl⟩, q⟩
def lenDK : List D → Option D
  | [.dict es] => if isK es = true then some (.int es.length) else none
  | _ => none
theorem je_lenK {p : Pos} (hg : Gl c.X "len") (hm : c.X.mg "len" = none) (ha : JAB c [e] tr dr) (he : starEach [e] c.X.env = (false, eval e c.X.env) :: starEach [] c.X.env := by rfl) (hpl : (backTo pos (starEach [] c.X.env)).any (·.1) = false := by rfl) :
    JE c (.Call (.Name "len" p) [e] [] pos) (tCB rLenK tr) (dCB lenDK dr) := by
  refine je_callB (id := "len") cr_lenK (fun F H xs ds z Q ex h hz k => ?_) hg hm (by decide +kernel) ha (by decide) (by decide) he hpl
  unfold lenDK at hz
  split at hz
  · split at hz
    · rename_i hk
      cases hz
      cases h with
      | cons h hn =>
        cases hn
        obtain ⟨a, kvs, rfl, h1, h2⟩ := h.dictK ex hk
        exact ⟨a, kvs, rfl, h1, by rw [h2.len]; exact k _ F H (.refl ex) (.int _)⟩
    · cases hz
  · cases hz
end
end RD

end
section
namespace RD
open PySem PySem.Spec L2 PyProof.Rows
variable [HasK]
section
variable {c : Cc} {e a b : Expr} {es : List Expr} {ta tb : TE} {da db : DE} {tr : TA} {dr : DA} {pos : Pos}
/-! ### f-strings -/
def fmtD : D → Option D
  | .int i => if i.natAbs.log2 < 1920 then some (.str (toString i)) else none
  | .str y => if Sz y.length then some (.str y) else none
  | _ => none
def dFmt (d : DE) : DE := fun δ => (d δ).bind fun x => Res.ofO (fmtD x)
theorem sz_line {n : Nat} (h : Sz n) : n ≤ sizeLine := by unfold Sz at h; rw [sizeLine_eq]; omega
theorem je_fmt (ha : JE c e ta da) : JE c (.FormattedValue e (-1) none pos) (tFmt ta) (dFmt da) := by
  refine ⟨pe_fmt ha.p, fun F H σ δ Q S P => ha.s.go S P fun F1 H1 x d s1 S1 hx P1 => Sim.last P1 fun z hz k => ?_⟩
  unfold fmtD at hz
  split at hz
  · obtain ⟨h1, rfl⟩ := if_some hz
    cases hx
    exact .inr ⟨_, rfl, h1, k _ F1 H1 (.refl S1.fh) (.str _)⟩
  · obtain ⟨h1, rfl⟩ := if_some hz
    cases hx
    exact .inl ⟨_, rfl, sz_line h1, k _ F1 H1 (.refl S1.fh) (.str _)⟩
  · cases hz
def dJs : List DE → Str → DEnv → Res Str
  | [], acc, _ => .ok acc
  | d :: ds, acc, δ => (d δ).bind fun x => match x with
    | .str y => if Sz (acc ++ y).length then dJs ds (acc ++ y) δ else .stuck
    | _ => .stuck
abbrev RS : Hp → Hp → Str → Str → Prop := fun _ _ b k => b = k
structure JJ (c : Cc) (es : List Expr) (ts : List TE) (ds : List DE) : Prop where
  p : PJ c.X es ts
  s : ∀ (acc : Str) (F H : Hp) (σ : L2.St) (δ : DEnv) (Q : Str → Hp → Prop), Sr c.F0 c.H0 F H σ δ → PostG RS HasK.mg c.W F H σ Q (dJs ds acc δ) → tJs ts acc σ H Q
theorem jj_nil : JJ c [] [] [] := ⟨.nil, fun acc F H σ δ Q S P => P acc F H (.refl S.fh) rfl⟩
theorem jj_cons {ts : List TE} {ds : List DE} (ha : JE c e ta da) (hr : JJ c es ts ds) : JJ c (e :: es) (ta :: ts) (da :: ds) := by
  refine ⟨.cons ha.p hr.p, fun acc F H σ δ Q S P => ?_⟩
  refine ha.s.go (r := fun x => match x with
    | .str y => if Sz (acc ++ y).length then dJs ds (acc ++ y) δ else .stuck
    | _ => .stuck) S P fun F1 H1 x d s1 S1 hx P1 => ?_
  cases d with
  | str y =>
    cases hx
    simp only at P1
    split at P1
    · rename_i hz
      exact ⟨y, rfl, sz_line hz, hr.s _ F1 H1 σ δ Q S1 P1⟩
    · exact P1.elim
  | _ => exact P1.elim
def dFs (ds : List DE) : DE := fun δ => (dJs ds Str.empty δ).bind fun s => .ok (.str s)
theorem je_fs {v1 v2 : Expr} {ts : List TE} {ds : List DE} (h : JJ c (v1 :: v2 :: es) ts ds) : JE c (.JoinedStr (v1 :: v2 :: es) pos) (fun σ H Q => tJs ts Str.empty σ H fun out H1 => Q (.str out) H1) (dFs ds) := by
  refine ⟨pe_joined h.p, fun F H σ δ Q S P => h.s Str.empty F H σ δ _ S ?_⟩
  unfold dFs at P
  cases q : dJs ds Str.empty δ with
  | ok s =>
    rw [q] at P
    rintro v F' H' st rfl
    exact P _ F' H' st (.str _)
  | exc n p => rw [q] at P; exact P
  | stuck => rw [q] at P; exact P
/-! ### str(n) -/
def strD : List D → Option D
  | [.int i] => if i.natAbs.log2 < 1920 then some (.str (toString i)) else none
  | _ => none
theorem je_strc {p : Pos} (hg : Gl c.X "str") (hm : c.X.mg "str" = none) (ha : JAB c [e] tr dr) (he : starEach [e] c.X.env = (false, eval e c.X.env) :: starEach [] c.X.env := by rfl) (hpl : (backTo pos (starEach [] c.X.env)).any (·.1) = false := by rfl) :
    JE c (.Call (.Name "str" p) [e] [] pos) (tCB (fun xs H Q => ∃ i, xs = [.int i] ∧ i.natAbs.log2 < 1920 ∧ Q (.str (toString i)) H) tr) (dCB strD dr) := by
  refine je_callTy (T := "str") call_str_int (fun F H xs ds z Q ex h hz k => ?_) hg hm (by decide +kernel) ha (by decide) (by decide) he hpl
  unfold strD at hz
  split at hz
  · obtain ⟨h1, rfl⟩ := if_some hz
    cases h with
    | cons h hn =>
      cases hn
      have := Bw.int h
      subst this
      exact ⟨_, rfl, h1, k _ F H (.refl ex) (.str _)⟩
  · cases hz
/-! ### texts -/
def addS : D → D → Option D := fun d e => match d, e with
    | .str i, .str j => if Sz (i.length + j.length) then some (.str (i ++ j)) else none
    | _, _ => none
theorem je_addS (ha : JB c a ta da) (hb : JB c b tb db) : JE c (.BinOp a .Add b pos) (tOp (fun x y H Q => ∃ i j, x = .str i ∧ y = .str j ∧ i.length + j.length ≤ sizeLine ∧ Q (.str (i ++ j)) H) ta tb) (dOp addS da db) := by
  refine je_bin op_add_str (fun F H x y d e z Q ex bx by_ hz k => ?_) ha hb
  unfold addS at hz
  split at hz
  · obtain ⟨h1, rfl⟩ := if_some hz
    have := Bw.str bx
    subst this
    have := Bw.str by_
    subst this
    exact ⟨_, _, rfl, rfl, sz_line h1, k _ F H (.refl ex) (.str _)⟩
  · cases hz
def slS : D → Option Int → Option Int → Option D
  | .str z, lo, hi => if Sz z.length then some (.str (cutS z lo hi)) else none
  | _, _, _ => none
def dSlS (da : DE) (dl dh : DEnv → Res (Option Int)) : DE := fun δ => (da δ).bind fun x => (dl δ).bind fun lo => (dh δ).bind fun hi => Res.ofO (slS x lo hi)
theorem je_sliceS {lo hi : Option Expr} {tl th : TO} {dl dh : DEnv → Res (Option Int)} {p2 : Pos} (ha : JB c e ta da) (hl : JO c lo tl dl) (hh : JO c hi th dh) : JE c (.Subscript e (.Slice lo hi none p2) pos) (tSl rSlS ta tl th) (dSlS da dl dh) := by
  obtain ⟨a1, a2⟩ := ha
  obtain ⟨l1, l2⟩ := hl
  obtain ⟨h1, h2⟩ := hh
  refine ⟨pe_slice sl_str a1 l1 h1, fun F H σ δ Q S P => a2.go S P fun F1 H1 x d s1 S1 hx P1 => l2.go S1 P1 fun F2 H2 lo' lo s2 S2 e2 P2 => h2.go S2 P2 fun F3 H3 hi' hi s3 S3 e3 P3 => Sim.last P3 fun z hz k => ?_⟩
  subst e2; subst e3
  unfold slS at hz
  split at hz
  · obtain ⟨h3, rfl⟩ := if_some hz
    have := Bw.str hx
    subst this
    exact ⟨_, rfl, sz_line h3, k _ F3 H3 (.refl S3.fh) (.str _)⟩
  · cases hz
def inSD : D → D → Option D := fun d e => match d, e with
    | .str i, .str j => some (.bool (!(Builtin.Str.occurrences j i 0 j.length 1).isEmpty))
    | _, _ => none
theorem je_inS (ha : JB c a ta da) (hb : JB c b tb db) (hm : behindInMarks .In b = false := by rfl) : JE c (.Compare a [.In] [b] pos) (tOp (fun x y H Q => ∃ i j, x = .str i ∧ y = .str j ∧ Q (.bl (!(Builtin.Str.occurrences j i 0 j.length 1).isEmpty)) H) ta tb) (dOp inSD da db) := by
  refine je_cmpR op_in_str (fun F H x y d e z Q ex bx by_ hz k => ?_) ha hb hm
  unfold inSD at hz
  split at hz
  · cases hz
    have := Bw.str bx
    subst this
    have := Bw.str by_
    subst this
    exact ⟨_, _, rfl, rfl, k _ F H (.refl ex) (.bl _)⟩
  · cases hz
theorem s_inS : OpS (fun x y H Q => ∃ i j, x = .str i ∧ y = .str j ∧ Q (.bl (!(Builtin.Str.occurrences j i 0 j.length 1).isEmpty)) H) inSD := fun F H x y d e z Q ex bx by_ hz k => by
  unfold inSD at hz
  split at hz
  · cases hz
    have := Bw.str bx
    subst this
    have := Bw.str by_
    subst this
    exact ⟨_, _, rfl, rfl, k _ F H (.refl ex) (.bl _)⟩
  · cases hz
theorem jt_inS (ha : JB c a ta da) (hb : JB c b tb db) (hm : behindInMarks .In b = false := by rfl) : JT c (.Compare a [.In] [b] pos) (tTest (tOp (fun x y H Q => ∃ i j, x = .str i ∧ y = .str j ∧ Q (.bl (!(Builtin.Str.occurrences j i 0 j.length 1).isEmpty)) H) ta tb)) (dTest (dOp inSD da db)) := jt_cmpR op_in_str s_inS ha hb hm
/-! ### methods of texts -/
def splD (x y : D) : Option D := match x, y with
  | .str a, .str b => if (b.length == 0) = false ∧ Sz (a.length + 2) then some (.list ((Txt.split a b).map PyData.str)) else none
  | _, _ => none
def dM1 (g : D → D → Option D) (da db : DE) : DE := fun δ => (da δ).bind fun x => match x with
  | .str _ => (db δ).bind fun y => Res.ofO (g x y)
  | _ => .stuck
theorem strs_rp {F : Hp} : ∀ l : List Str, RpAll F (l.map V.str) (l.map PyData.str)
  | [] => .nil
  | x :: l => .cons (.str x) (strs_rp l)
theorem je_split {apos : Pos} (ha : JB c e ta da) (hb : JE c a tb db) (hs : starEach [a] c.X.env = [(false, eval a c.X.env)] := by rfl) (hbase : attributeBase e "split" c.X.env (eval e c.X.env) = eval e c.X.env := by rfl) (hline : (apos.endLine == pos.line) = true := by rfl) :
    JE c (.Call (.Attribute e "split" apos) [a] [] pos) (tM1 (fun x xs H Q => ∃ a b, x = .str a ∧ xs = [.str b] ∧ (b.length == 0) = false ∧ a.length + 2 ≤ sizeLine ∧ rNewStrs (Txt.split a b) H Q) ta tb) (dM1 splD da db) := by
  refine ⟨pe_split ha.p hb.p hs hbase hline, fun F H σ δ Q S P => ?_⟩
  refine ha.s.go (r := fun x => match x with | .str _ => (db δ).bind fun y => Res.ofO (splD x y) | _ => .stuck) S P fun F1 H1 x d s1 S1 hx P1 => ?_
  cases d with
  | str z =>
    have := Bw.str hx
    subst this
    refine ⟨⟨z, rfl⟩, hb.s.go S1 P1 fun F2 H2 y w s2 S2 hy P2 => Sim.last P2 fun v hv k => ?_⟩
    unfold splD at hv
    split at hv
    · rename_i a' b' q1
      cases q1
      obtain ⟨⟨h1, h2⟩, rfl⟩ := if_some hv
      cases hy
      exact ⟨_, _, rfl, rfl, h1, sz_line h2, fun p hp => new_lst S2.fh (strs_rp _) k p hp⟩
    · cases hv
  | _ => exact P1.elim
def strsD : List D → Option (List Str)
  | [] => some []
  | .str x :: ds => (strsD ds).map (x :: ·)
  | _ :: _ => none
theorem strs_of {F : Hp} : ∀ {vs : List V} {ds : List D} {l : List Str}, RpAll F vs ds → strsD ds = some l → vs = l.map V.str
  | _, _, _, .nil, h => by cases h; rfl
  | _, _, _, .cons (d := d) hr r, h => by
    cases d with
    | str x =>
      simp only [strsD] at h
      obtain ⟨l', h1, rfl⟩ := Option.map_eq_some_iff.mp h
      cases hr
      rw [strs_of r h1]
      rfl
    | _ => simp [strsD] at h
def joinD (x y : D) : Option D := match x, y with
  | .str a, .list ds => (strsD ds).bind fun l => if (l.map (·.length)).sum + l.length * a.length ≤ 1000000 then some (.str (Txt.join a l)) else none
  | _, _ => none
theorem je_join {apos : Pos} (ha : JB c e ta da) (hb : JB c a tb db) (hs : starEach [a] c.X.env = [(false, eval a c.X.env)] := by rfl) (hbase : attributeBase e "join" c.X.env (eval e c.X.env) = eval e c.X.env := by rfl) (hline : (apos.endLine == pos.line) = true := by rfl) :
    JE c (.Call (.Attribute e "join" apos) [a] [] pos) (tM1 (fun x xs H Q => ∃ a p, ∃ ys : List Str, x = .str a ∧ xs = [.ref p] ∧ (SqL HasK.K H p (ys.map V.str) ∨ SqT HasK.K H p (ys.map V.str)) ∧
      (ys.map (·.length)).sum + ys.length * a.length ≤ 16777216 ∧ Q (.str (Txt.join a ys)) H) ta tb) (dM1 joinD da db) := by
  refine ⟨by rw [← c.hK]; exact pe_join ha.p hb.p hs hbase hline, fun F H σ δ Q S P => ?_⟩
  refine ha.s.go (r := fun x => match x with | .str _ => (db δ).bind fun y => Res.ofO (joinD x y) | _ => .stuck) S P fun F1 H1 x d s1 S1 hx P1 => ?_
  cases d with
  | str z =>
    have := Bw.str hx
    subst this
    refine ⟨⟨z, rfl⟩, hb.s.go S1 P1 fun F2 H2 y w s2 S2 hy P2 => Sim.last P2 fun v hv k => ?_⟩
    unfold joinD at hv
    split at hv
    · rename_i a' ds q1
      cases q1
      obtain ⟨l, h1, h2⟩ := Option.bind_eq_some_iff.mp hv
      obtain ⟨h3, rfl⟩ := if_some h2
      obtain ⟨p, us, rfl, g1, g2⟩ := hy.lst S2.fh
      have := strs_of g2 h1
      subst this
      exact ⟨_, p, l, rfl, rfl, .inl (sqL g1), by omega, k _ F2 H2 (.refl S2.fh) (.str _)⟩
    · cases hv
  | _ => exact P1.elim
def sidxD (x y : D) : Option D := match x, y with
  | .str a, .str b => (Txt.index0 a b).map fun k => .int (k : Nat)
  | _, _ => none
theorem je_sidx {apos : Pos} (hc : c.X.calm = true) (tk : Takes c.X c.W) (ha : JB c e ta da) (hb : JE c a tb db) (hbase : attributeBase e "index" c.X.env (eval e c.X.env) = eval e c.X.env := by rfl)
    (hfew : ((backTo pos (starEach [a] c.X.env)).all (fun x => !x.1) && (backToKw pos (keywordEach [] c.X.env)).all (fun x => x.1.isSome) && decide ([a].length + ([] : List Keyword).length + (if ([] : List Keyword).isEmpty then 0 else 1) < 30)) = true := by rfl)
    (hline : (apos.endLine == pos.line) = true := by rfl) (hst : starEach [a] c.X.env = (false, eval a c.X.env) :: starEach [] c.X.env := by rfl) (hpl : (backTo pos (starEach [] c.X.env)).any (·.1) = false := by rfl) :
    JE c (.Call (.Attribute e "index" apos) [a] [] pos) (tBMS HasK.K "str" (rIndexX c.W) ta (tCons tb tNil)) (dM1 sidxD da db) := by
  refine ⟨by rw [← c.hK]; exact pe_bmS PySem.F.plainAttrs_str PySem.F.slot_str_index PySem.F.type_str_index (mt_indexX hc tk) ha.p (pa_cons hb.p pa_nil hst) hbase hfew hline hst hpl, fun F H σ δ Q S P => ?_⟩
  refine ha.s.go (r := fun x => match x with | .str _ => (db δ).bind fun y => Res.ofO (sidxD x y) | _ => .stuck) S P fun F1 H1 x d s1 S1 hx P1 => ?_
  cases d with
  | str z =>
    have := Bw.str hx
    subst this
    refine ⟨rfl, hb.s.go S1 P1 fun F2 H2 y w s2 S2 hy P2 => Sim.last P2 fun v hv k => ?_⟩
    unfold sidxD at hv
    split at hv
    · rename_i a' b' q1
      cases q1
      obtain ⟨kk, h1, rfl⟩ := Option.map_eq_some_iff.mp hv
      cases hy
      refine ⟨_, _, rfl, rfl, fun k' hk' => ?_, fun hn => by rw [h1] at hn; cases hn⟩
      rw [h1] at hk'
      cases hk'
      exact k _ F2 H2 (.refl S2.fh) (.int _)
    · cases hv
  | _ => exact P1.elim
end
end RD

end
section
namespace RD
open PySem PySem.Spec L2 PyProof.Rows
/-! ### the class ParseError, as the written part tells it -/
def oexB (K : PySem.W.Frag) (C : Addr) : Bool := match K.lookup C with
  | some ⟨.type "type", _, .cls cd, sl⟩ => (match cd.mro, sl.toList with
    | .ref C' :: bm, [_, _, _, _, some (.builtin n), _] => C' == C && n == "ValueError.__new__" && !cd.hasDel && cd.hasDict && PySem.HandSPX.refsVE bm
    | _, _ => false)
  | _ => false
theorem oexB_cls {K : PySem.W.Frag} {C : Addr} (q : oexB K C = true) : ∃ nm q N bs bm sn sub ab col dd k0 k1 k2 k3 k5, K.lookup C = some (excClassObj nm q C N bs bm true sn sub ab col dd k0 k1 k2 k3 k5 "ValueError.__new__") ∧ PySem.HandSPX.refsVE bm = true := by
  unfold oexB at q
  split at q
  · rename_i dd cd sl ho
    split at q
    · rename_i C' bm k0 k1 k2 k3 n k5 hm hs
      simp only [Bool.and_eq_true, beq_iff_eq, Bool.not_eq_true'] at q
      obtain ⟨⟨⟨⟨rfl, rfl⟩, hdel⟩, hdct⟩, ht⟩ := q
      obtain ⟨nm, bs, mro, ns, qn, hd, sn, sub, ab, col, del⟩ := cd
      dsimp only at hm hdel hdct
      subst hm hdel hdct
      obtain ⟨l⟩ := sl
      simp only at hs
      subst hs
      exact ⟨nm, qn, ns, bs, bm, sn, sub, ab, col, dd, k0, k1, k2, k3, k5, ho, ht⟩
    · cases q
  · cases q
structure ParT (K : PySem.W.Frag) (mg : Str → Option Value) (N0 C fI : Addr) : Prop where
  gN : mg "NetError" = some (.ref N0)
  gP : mg "ParseError" = some (.ref C)
  oex : OexC K C
  rd : ClX.CRead K N0 (.type "type")
  vi : PySem.W.findCls K (.ref N0) (.type "type") "__init__" = some (.val (.builtin "ValueError.__init__"))
  iC : PySem.W.findIn K (.ref C) "__init__" = some (some (.ref fI))
  tI : PySem.W.typeIn K (.ref fI) = some (.type "function")
  noL : PySem.W.findIn K (.ref C) "line" = some none
  xf : XfC K C
/-- NetError.__init__(self, ..): the class's attribute, read through the class, is ValueError's own; it leaves the heap as it is -/
theorem pe_ninit {X : Cx} {e : Expr} {es : List Expr} {ta : TA} {p1 p2 pos : Pos} {N0 : Addr} {pl : Sem Bool} (hg : Gl X "NetError") (hm : X.mg "NetError" = some (.ref N0)) (rd : ClX.CRead X.K N0 (.type "type")) (vi : PySem.W.findCls X.K (.ref N0) (.type "type") "__init__" = some (.val (.builtin "ValueError.__init__"))) (ha : PA X (e :: es) ta)
    (road : ∀ {s : Shared} {Q : Value → Shared → Prop}, wpAny (model X.prog X.w) X.A (eval (.Name "NetError" p1) X.env) (fun o s1 => wpAny (model X.prog X.w) X.A (getMethod o "__init__" pl) (fun m s2 =>
      wpAny (model X.prog X.w) X.A (callWith pos m.1 m.2 (backTo pos (starEach (e :: es) X.env)) []) Q X.xe s2) X.xe s1) X.xe s → wpAny (model X.prog X.w) X.A (eval (.Call (.Attribute (.Name "NetError" p1) "__init__" p2) (e :: es) [] pos) X.env) Q X.xe s := by exact fun h => PySem.W.methodCall_KW h)
    (first : starEach (e :: es) X.env = (false, eval e X.env) :: starEach es X.env := by rfl) (plain : (backTo pos (starEach es X.env)).any (·.1) = false := by rfl) :
    PE X (.Call (.Attribute (.Name "NetError" p1) "__init__" p2) (e :: es) [] pos) (tVeI X.K ta) where
  run := fun pins s σ H Q V h => by
    refine road (ld_glob V hg hm (PySem.W.method_cls V.kIn rd.ga (PySem.W.cls_value V.kIn rd.rd vi (by decide +kernel) ?_)) (by decide))
    refine PyProof.Rows.callWith_method1 (thn (ha.run pos pins _ σ H _ (V.tok _) h) fun us s1 ⟨_, H1, V1, vals, a, C, ws, ev, few, T, at_, q⟩ => ?_) first plain
    subst ev
    rcases vals with _ | @⟨_, u0, _, rest, is, more⟩
    cases (show u0 = Value.ref a from is)
    have fit : rest.length ≤ sizeLine := by
      have n := more.length
      have line := sizeLine_eq
      omega
    exact oinit_ok T V1 at_ fit fun _ J => ⟨.non, H1, J, rfl, q⟩
/-- ParseError.__init__ -/
def spPar (K : PySem.W.Frag) : Sp := fun vs H Q _ => ∃ (a C : Addr) (v : V), vs = [.ref a, v] ∧ OexC K C ∧ PySem.W.findIn K (.ref C) "line" = some none ∧ H a = some (exo a C none) ∧ ∀ dx, H dx = none → dx ≠ a → Q .non (upd (upd H dx (exd dx [("line", v)])) a (exo a C (some dx)))

structure CalP (P : Program) (w : World) (K : PySem.W.Frag) (mg : Str → Option Value) (base : Heap) : Prop where
  ex : ∃ (N0 C fI : Addr) (fd : FuncData), ParT K mg N0 C fI ∧ FnOk P w K mg base L2.CX0 1 fI fd ["self", "line"] (spPar K) ∧ Binds K fd ["self", "line"] []
variable [HasK]
def dRaiseP (x f : Str) (da : DE) : DS := fun δ => (da δ).out δ fun d => .exc x (some (f, d)) δ
section
variable {c : Cc} {e : Expr} {ta : TE} {da : DE} {pos : Pos}
theorem js_raiseP0 {p p3 : Pos} {j : Nat} (G : CalP c.X.prog c.X.w c.X.K c.X.mg c.X.base) (hc : c.X.calm = true) (tk : Takes c.X c.W) (hr : Room j c.X.A) (hj : 2 ≤ j) (hg : Gl c.X "ParseError") (ha : JE c e ta da)
    (he : starEach [e] c.X.env = (false, eval e c.X.env) :: starEach [] c.X.env := by rfl) (hpl : (backTo p3 (starEach [] c.X.env)).any (·.1) = false := by rfl) :
    ∃ t, JS c (.Raise (some (.Call (.Name "ParseError" p) [e] [] p3)) none pos) t (dRaiseP "ParseError" "line" da) := by
  obtain ⟨N0, C, fI, fd, T, F1, hb⟩ := G.ex
  refine ⟨_, ps_raise hc tk (pmk_oex T.oex T.iC T.tI F1 (hr.mono hj) hb .nil L2.pass0 hg T.gP (pa_cons ha.p pa_nil he) (by decide) he hpl), fun F H σ δ D S P => ?_⟩
  have eC : clA HasK.mg "ParseError" = C := by unfold clA; rw [← c.hM, T.gP]
  refine ha.s.gos S P fun F1 H1 x d s1 S1 hx P1 => ?_
  refine ⟨by show 1 ≤ 1000; decide, fun a na => ⟨a, C, x, rfl, T.oex, T.noL, upd_same, fun dx hdx hne => ?_⟩⟩
  have hdx1 : H1 dx = none := by rw [upd_ne hne] at hdx; exact hdx
  refine ⟨rfl, dx, [("line", x)], upd_same, by rw [upd_ne hne]; exact upd_same, hdx1, ?_⟩
  have eH : upd (del (upd (upd (upd H1 a (exo a C none)) dx (exd dx [("line", x)])) a (exo a C (some dx))) a) dx (.xd [("line", x)]) = upd H1 dx (.xd [("line", x)]) := by
    funext b
    by_cases h1 : b = dx
    · subst h1; rw [upd_same, upd_same]
    · rw [upd_ne h1, upd_ne h1]
      by_cases h2 : b = a
      · subst h2; rw [show del _ b b = none from if_pos rfl, na]
      · rw [show del _ a b = _ from if_neg h2, upd_ne h2, upd_ne h1, upd_ne h2]
  rw [eH]
  have q := P1 σ F1 (upd H1 dx (.xd [("line", x)])) (.refl _) (S1.step (Step.side S1.fh _ hdx1)) dx x upd_same (S1.fh.back hdx1) hx
  rw [eC] at q
  exact q

theorem JS.dat {st : Stmt} {ds : DS} (h : ∃ t, JS c st t ds) : JS c st (tDat c.F0 c.H0 c.W ds (PostS c)) ds := by
  obtain ⟨t, J⟩ := h
  exact ⟨⟨fun pins s σ H D I hh => by
    obtain ⟨F, δ, S, P⟩ := hh
    exact J.p.run pins s σ H D I (J.s F H σ δ D S P)⟩, fun F H σ δ D S P => ⟨F, δ, S, P⟩⟩
theorem js_raiseP {p p3 : Pos} {j : Nat} (G : CalP c.X.prog c.X.w c.X.K c.X.mg c.X.base) (hc : c.X.calm = true) (tk : Takes c.X c.W) (hr : Room j c.X.A) (hj : 2 ≤ j) (hg : Gl c.X "ParseError") (ha : JE c e ta da)
    (he : starEach [e] c.X.env = (false, eval e c.X.env) :: starEach [] c.X.env := by rfl) (hpl : (backTo p3 (starEach [] c.X.env)).any (·.1) = false := by rfl) :
    JS c (.Raise (some (.Call (.Name "ParseError" p) [e] [] p3)) none pos) (tDat c.F0 c.H0 c.W (dRaiseP "ParseError" "line" da) (PostS c)) (dRaiseP "ParseError" "line" da) := JS.dat (js_raiseP0 G hc tk hr hj hg ha he hpl)
end
end RD
/-! ### isinstance(e, X), e an exception that has a dict: by the library's kitx_exc -/
namespace RD
open PySem PySem.Spec L2 PyProof.Rows
theorem call_isD {X : Cx} {a D dd : Addr} {oe : Obj} {pn : List (Addr × Obj)} (C : ExcC X.K D) (hz : Zc (.ref D) (some dd) oe) (hf : ∃ vs, oe.data = .fields vs) : CallR (X.suite a ((a, oe) :: pn)) (.builtin "isinstance") (fun xs H Q => (∃ fs, H dd = some (.xd fs)) ∧ rIsE X.K D a xs H Q) := by
  intro pins s σ H xs us Q I r h
  obtain ⟨⟨fs, hdd⟩, c, cv, b, rfl, hcv, e, q⟩ := h
  cases r with
  | cons rx rr =>
    cases rr with
    | cons rt rr =>
      cases rr
      cases rx
      have ec := hcv _ rt
      subst ec
      obtain ⟨hget, _⟩ := I.pin (a, oe) (List.mem_append.mpr (.inl List.mem_cons_self))
      obtain ⟨vs, hv⟩ := hf
      have hx : ObjOk X.prog X.w H s.heap dd (.xd fs) := I.hok dd _ hdd
      obtain ⟨mA, hns, _⟩ := hx
      obtain ⟨od, ho, _⟩ := lookIn_ns hns
      have J : PySem.W.InstAt s.heap a oe D (some od) := ⟨hget, hz.1, by unfold PySem.W.notCls; rw [hv] <;> rfl, by rw [hz.2]; exact ho⟩
      exact PySem.W.kia_one (PySem.W.kitx_exc (PySem.W.any_some C.hd |> fun ⟨_, h, _⟩ => Option.isSome_iff_exists.mpr ⟨_, h⟩) C.hg C.hk C.hs C.ha C.hn C.ht C.hm) I.kIn J e (fun z => nomatch z) fun tk => ⟨.bl b, H, I.kept (t' := tk) fun _ _ z => z, rfl, q⟩

/-! ### except ParseError as e: return [s1, e.line] if isinstance(e, A) and not isinstance(e, B) else [s2] -/
def tIsD (K : PySem.W.Frag) (Dc dd a : Addr) (i : Nat) (C : Addr) : TE := tCB (fun xs H Q => (∃ fs, H dd = some (.xd fs)) ∧ rIsE K Dc a xs H Q) (tCons (tVar i) (tCons (tC (.ref C)) tNil))
section
variable {X : Cx} {pos p p1 p2 : Pos} {n x : Str} {i : Nat} {C Dc dd a : Addr} {oe : Obj} {pn : List (Addr × Obj)}
theorem pe_isD (hg : Gl X "isinstance") (hm : X.mg "isinstance" = none) (hN : X.N[i]? = some n) (hv : Vis X.env.scope n) (hd : (n == ("__debug__" : Str)) = false) (hcd : (n == ("__classdict__" : Str)) = false)
    (gx : Gl X x) (mx : X.mg x = some (.ref C)) (dx : (x == ("__debug__" : Str)) = false) (E : ExcC X.K Dc) (hz : Zc (.ref Dc) (some dd) oe) (hf : ∃ vs, oe.data = .fields vs) :
    PE (X.suite a ((a, oe) :: pn)) (.Call (.Name "isinstance" p) [.Name n p1, .Name x p2] [] pos) (tIsD X.K Dc dd a i C) :=
  pe_callB (X := X.suite a ((a, oe) :: pn)) (id := "isinstance") (call_isD E hz hf) hg hm (by decide +kernel)
    (pa_cons (pe_var (X := X.suite a ((a, oe) :: pn)) hN hv hd hcd) (pa_cons (pe_glob (X := X.suite a ((a, oe) :: pn)) (v := .ref C) gx mx rfl dx) pa_nil (by rfl)) (by rfl)) (by decide) (by decide) (by rfl) (by rfl)
def tsP (K : PySem.W.Frag) (i : Nat) (f : Str) (A B : Addr) (s1 s2 : Str) : TSx := fun a cls d D σ H => ∃ (Dc dd : Addr) (v : V), cls = .ref Dc ∧ d = some dd ∧ ExcC K Dc ∧ XfC K Dc ∧ PySem.W.findIn K (.ref Dc) f = some none ∧ H dd = some (.xd [(f, v)]) ∧
  tRet (tIf (tAnd (L2.tB (tIsD K Dc dd a i A)) (tNot (L2.tB (tIsD K Dc dd a i B)))) (tLst (tCons (tC (.str s1)) (tCons (tXf a (.ref Dc) (some dd) Dc f (tVar i)) tNil))) (tLst (tCons (tC (.str s2)) tNil))) D σ H
theorem suite_par {A B : Addr} {f s1 s2 xa xb : Str} {j1 j2 : Nat} {q1 q2 q3 q4 q5 q6 q7 q8 q9 u1 u2 u3 u4 w1 w2 w3 w4 : Pos} (hg : Gl X "isinstance") (hm : X.mg "isinstance" = none) (hN : X.N[i]? = some n) (hv : Vis X.env.scope n) (hd : (n == ("__debug__" : Str)) = false) (hcd : (n == ("__classdict__" : Str)) = false)
    (ga : Gl X xa) (ma : X.mg xa = some (.ref A)) (da : (xa == ("__debug__" : Str)) = false) (gb : Gl X xb) (mb : X.mg xb = some (.ref B)) (db : (xb == ("__debug__" : Str)) = false)
    (hbase : attributeBase (.Name n q7) f X.env (eval (.Name n q7) X.env) = eval (.Name n q7) X.env)
    (a : Addr) (oe : Obj) (cls : Value) (d : Option Addr) (pn : List (Addr × Obj)) (hz : Zc cls d oe) (hf : ∃ vs, oe.data = .fields vs) :
    PSs (X.suite a ((a, oe) :: pn)) [.Return (some (.IfExp (.BoolOp .And [.Call (.Name "isinstance" u1) [.Name n u2, .Name xa u3] [] u4, .UnaryOp .Not (.Call (.Name "isinstance" w1) [.Name n w2, .Name xb w3] [] w4) q1] q2) (.List [.Constant (.str s1) j1 q3, .Attribute (.Name n q7) f q8] q9) (.List [.Constant (.str s2) j2 q4] q5) q6)) pos] (tsP X.K i f A B s1 s2 a cls d) := by
  refine ⟨fun pins s σ H D I h => ?_⟩
  obtain ⟨Dc, dd, v, rfl, rfl, E, xf, nof, hdd, h⟩ := h
  refine (pss_one (ps_ret (pe_ifExp (PW.pt (pw_and (pt_val (pe_isD hg hm hN hv hd hcd ga ma da E hz hf) (fun _ => rfl)) (pw_and1 (pt_not (pt_val (pe_isD hg hm hN hv hd hcd gb mb db E hz hf) (fun _ => rfl)))))) (pe_lst (pa_cons pe_str (pa_cons (pe_xf xf nof hz hf (pe_var (X := X.suite a ((a, oe) :: pn)) hN hv hd hcd) hbase) pa_nil (by rfl)) (by rfl))) (pe_lst (pa_cons pe_str pa_nil (by rfl)))))).run pins s σ H D I h
end
variable [HasK]
/-- the one handler -/
structure HdP where
  c : Str
  f : Str
  a : Str
  b : Str
  s1 : Str
  s2 : Str
def dTryP (i : Nat) (ds : DS) (known : List Str) (h : HdP) : DS := fun δ => match ds δ with
  | .exc n (some (f, d)) δ' => if n ∈ known ∧ i < δ'.length ∧ f = h.f ∧ n = h.c then .ret (if subB n h.a && !subB n h.b then .list [.str h.s1, d] else .list [.str h.s2]) else .stuck
  | .exc _ none _ => .stuck
  | o => o
section
variable {c : Cc} {n : Str} {i : Nat} {known : List Str} {h : HdP} {body : List Stmt} {pos : Pos} {ds : DS}
theorem tryP_reads {N0 C fI : Addr} (T : ExK c.X.K c.X.mg known) (hT : ParT c.X.K c.X.mg N0 C fI) (h1 : h.c = "ParseError") (h2 : h.f = "line") (hin : h.c ∈ known ∧ h.a ∈ known ∧ h.b ∈ known) {D : Ends} {σ : L2.St} {H : Hp} (hh : tDat c.F0 c.H0 c.W (dTryP i ds known h) (PostS c) D σ H) :
    tDat c.F0 c.H0 (wAll HasK.K c.W D i [(.ref (clA HasK.mg h.c), tsP HasK.K i h.f (clA HasK.mg h.a) (clA HasK.mg h.b) h.s1 h.s2)]) ds (PostS ⟨c.X, c.F0, c.H0, wAll HasK.K c.W D i [(.ref (clA HasK.mg h.c), tsP HasK.K i h.f (clA HasK.mg h.a) (clA HasK.mg h.b) h.s1 h.s2)], c.hK, c.hM, c.hP, c.hw⟩) D σ H := by
  obtain ⟨F, δ, S, P⟩ := hh
  refine ⟨F, δ, S, ?_⟩
  have e1 : clA HasK.mg = clA c.X.mg := by rw [c.hM]
  unfold dTryP at P
  cases q : ds δ with
  | next δ' => rw [q] at P; exact P
  | ret r => rw [q] at P; exact P
  | brk δ' => rw [q] at P; exact P
  | cont δ' => rw [q] at P; exact P
  | stuck => rw [q] at P; exact P
  | exc m pl δ' =>
    rw [q] at P
    cases pl with
    | none => exact P.elim
    | some y =>
      obtain ⟨f, d⟩ := y
      simp only at P
      by_cases hm' : m ∈ known ∧ i < δ'.length ∧ f = h.f ∧ m = h.c
      · rw [if_pos hm'] at P
        obtain ⟨hm, hil, rfl, rfl⟩ := hm'
        intro σ' F' H' e' S' dd v hdd hFd hrv
        have x1 := T.exm h.c hm h.c hin.1
        have x2 := T.kit h.c hm h.a hin.2.1
        have x3 := T.kit h.c hm h.b hin.2.2
        have x4 := (T.cls h.c hm).1
        rw [← e1, c.hK] at x1 x2 x3 x4
        have eC : clA HasK.mg h.c = C := by rw [h1]; unfold clA; rw [← c.hM, hT.gP]
        have x5 := hT.xf
        have x6 := hT.noL
        rw [c.hK, ← eC] at x5 x6
        rw [← h2] at x6
        refine ⟨subB h.c h.c, x1, fun _ a na => ?_, fun hb => by simp [subB] at hb⟩
        refine ⟨_, dd, v, rfl, rfl, x4, x5, x6, hdd, ?_⟩
        have hs : (σ'.set i (some (.ref a)))[i]? = some (some (V.ref a)) := set_at (by rw [S'.len]; exact hil)
        have lst : ∀ (vs : List V) (ds2 : List PyData), RpAll F' vs ds2 → vs.length ≤ 100 → PostS c F D (.ret (.list ds2)) → ∀ p, H' p = none → D.rt (.ref p) (upd H' p (.lst vs)) := fun vs ds2 hv hl Q2 p hp =>
          Q2 _ (upd F' p (.lst vs)) _ (e'.trans (.put (S'.fh.back hp))) (S'.st.trans (Step.put S'.fh _ hp)) (.lst upd_same (hv.mono (.put (S'.fh.back hp))))
        refine ⟨_, hs, ⟨_, hdd⟩, .ref (clA HasK.mg h.a), .ref (clA HasK.mg h.a), subB h.c h.a, rfl, fun u hu => hu, x2, subB h.c h.a, rfl, ?_⟩
        cases qa : subB h.c h.a with
        | false =>
          rw [qa] at P
          refine iteF (iteF ⟨by show 1 ≤ sizeLine; rw [sizeLine_eq]; decide, fun p hp => lst [.str h.s2] [.str h.s2] (.cons (.str _) .nil) (by show 1 ≤ 100; decide) P p hp⟩)
        | true =>
          refine iteT ⟨_, hs, ⟨_, hdd⟩, .ref (clA HasK.mg h.b), .ref (clA HasK.mg h.b), subB h.c h.b, rfl, fun u hu => hu, x3, subB h.c h.b, rfl, ?_⟩
          cases qb : subB h.c h.b with
          | false =>
            rw [qa, qb] at P
            refine iteT ⟨_, hs, rfl, rfl, dd, _, v, rfl, hdd, by rw [List.lookup_cons]; simp, by show 2 ≤ sizeLine; rw [sizeLine_eq]; decide, fun p hp => lst [.str h.s1, v] [.str h.s1, d] (.cons (.str _) (.cons hrv .nil)) (by simp) P p hp⟩
          | true =>
            rw [qa, qb] at P
            refine iteF ⟨by show 1 ≤ sizeLine; rw [sizeLine_eq]; decide, fun p hp => lst [.str h.s2] [.str h.s2] (.cons (.str _) .nil) (by show 1 ≤ 100; decide) P p hp⟩
      · rw [if_neg hm'] at P
        exact P.elim
theorem js_tryP {x xa xb s1 s2 f : Str} {np pp : Pos} {j1 j2 : Nat} {q1 q2 q3 q4 q5 q6 q7 q8 q9 qq u1 u2 u3 u4 w1 w2 w3 w4 : Pos} (G : CalP c.X.prog c.X.w c.X.K c.X.mg c.X.base) (T : ExK c.X.K c.X.mg known) (hm : c.X.mg "isinstance" = none) (hx : x ∈ known) (ha : xa ∈ known) (hb : xb ∈ known) (h1 : x = "ParseError") (h2 : f = "line") (tk : Takes c.X c.W) (nd : c.X.N.Nodup)
    (hbd : ∀ (W : WX) (pn : List (Addr × Obj)) (xe : Value → Shared → Prop), Takes (c.X.tr pn xe) W → PassesOwn (model c.X.prog c.X.w) c.X.A c.X.env xe → ∃ t, JSs ⟨c.X.tr pn xe, c.F0, c.H0, W, c.hK, c.hM, c.hP, c.hw⟩ body t ds)
    (hbase : attributeBase (.Name n q7) f c.X.env (eval (.Name n q7) c.X.env) = eval (.Name n q7) c.X.env := by rfl)
    (hg : Gl c.X "isinstance" := by rfl) (hN : c.X.N[i]? = some n := by rfl) (hv : Vis c.X.env.scope n := by exact Or.inl rfl) (hd : (n == ("__debug__" : Str)) = false := by decide) (hcd : (n == ("__classdict__" : Str)) = false := by decide)
    (gx : Gl c.X x := by rfl) (ga : Gl c.X xa := by rfl) (gb : Gl c.X xb := by rfl) (dx : (x == ("__debug__" : Str)) = false := by decide) (da : (xa == ("__debug__" : Str)) = false := by decide) (db : (xb == ("__debug__" : Str)) = false := by decide)
    (stk : c.X.stack = c.X.env :: c.X.outer := by rfl) (fr : c.X.env.frame = some c.X.env.locals := by rfl) (hl : c.X.env.kindOf n = some .local := by rfl) :
    JS c (.Try body [.ExceptHandler (some (.Name x np)) (some n) [.Return (some (.IfExp (.BoolOp .And [.Call (.Name "isinstance" u1) [.Name n u2, .Name xa u3] [] u4, .UnaryOp .Not (.Call (.Name "isinstance" w1) [.Name n w2, .Name xb w3] [] w4) q1] q2) (.List [.Constant (.str s1) j1 q3, .Attribute (.Name n q7) f q8] q9) (.List [.Constant (.str s2) j2 q4] q5) q6)) qq] pp] [] [] pos)
      (tDat c.F0 c.H0 c.W (dTryP i ds known ⟨x, f, xa, xb, s1, s2⟩) (PostS c)) (dTryP i ds known ⟨x, f, xa, xb, s1, s2⟩) := by
  obtain ⟨N0, C, fI, fd, hT, _, _⟩ := G.ex
  refine ⟨⟨fun pins s σ H D I h => ?_⟩, fun F H σ δ D S P => ⟨F, δ, S, P⟩⟩
  have R := tryP_reads T hT h1 h2 ⟨hx, ha, hb⟩ h
  have e1 : clA HasK.mg = clA c.X.mg := by rw [c.hM]
  have hd' : HdAs c.X n [.ExceptHandler (some (.Name x np)) (some n) [.Return (some (.IfExp (.BoolOp .And [.Call (.Name "isinstance" u1) [.Name n u2, .Name xa u3] [] u4, .UnaryOp .Not (.Call (.Name "isinstance" w1) [.Name n w2, .Name xb w3] [] w4) q1] q2) (.List [.Constant (.str s1) j1 q3, .Attribute (.Name n q7) f q8] q9) (.List [.Constant (.str s2) j2 q4] q5) q6)) qq] pp] [(.ref (clA HasK.mg x), tsP HasK.K i f (clA HasK.mg xa) (clA HasK.mg xb) s1 s2)] := by
    rw [e1, ← c.hK]
    exact .cons ⟨gx, dx, .inl (T.cls x hx).2⟩ (fun a oe cls d pn hz hf => suite_par hg hm hN hv hd hcd ga (T.cls xa ha).2 da gb (T.cls xb hb).2 db hbase a oe cls d pn hz hf) .nil
  have K := ps_try_allAs (pos := pos) (tb := fun W => tDat c.F0 c.H0 W ds (PostS ⟨c.X, c.F0, c.H0, W, c.hK, c.hM, c.hP, c.hw⟩)) stk fr nd hN hl tk (fun W pn xe t1 t2 => by
    obtain ⟨t, J⟩ := hbd W pn xe t1 t2
    exact J.dat) hd'
  refine K.run pins s σ H D I ?_
  rw [c.hK]
  exact R
end
end RD

end
section
namespace RD
open PySem PySem.Spec L2 PyProof.Rows
variable [HasK]
/-! ### what is lent to a def -/
inductive ArgS (F H : Hp) : List V → List Sl → Prop
  | nil : ArgS F H [] []
  | val {v : V} {vs : List V} {d : D} {ss : List Sl} : Rp F v d → ArgS F H vs ss → ArgS F H (v :: vs) (.val d :: ss)
  | bor {a : Addr} {vs : List V} {d : D} {ss : List Sl} : OwnA F H a d → ArgS F H vs ss → ArgS F H (.ref a :: vs) (.bor d :: ss)
  | bdk {a : Addr} {vs : List V} {d : D} {ss : List Sl} : DeskA F H a d → ArgS F H vs ss → ArgS F H (.ref a :: vs) (.bdk d :: ss)
theorem ArgS.mono {F H F' H' : Hp} (ef : Ex F F') (eh : Ex H H') : ∀ {vs : List V} {ss : List Sl}, ArgS F H vs ss → ArgS F' H' vs ss
  | _, _, .nil => .nil
  | _, _, .val h r => .val (h.mono ef) (r.mono ef eh)
  | _, _, .bor h r => .bor (h.mono ef eh) (r.mono ef eh)
  | _, _, .bdk h r => .bdk (h.mono ef eh) (r.mono ef eh)
theorem ArgS.len {F H : Hp} : ∀ {vs : List V} {ss : List Sl}, ArgS F H vs ss → vs.length = ss.length
  | _, _, .nil => rfl
  | _, _, .val _ r => by rw [List.length_cons, List.length_cons, r.len]
  | _, _, .bor _ r => by rw [List.length_cons, List.length_cons, r.len]
  | _, _, .bdk _ r => by rw [List.length_cons, List.length_cons, r.len]
theorem ArgS.at {F H : Hp} : ∀ {vs : List V} {ss : List Sl}, ArgS F H vs ss → ∀ (i : Nat) (s : Sl), ss[i]? = some s → ∃ v, vs[i]? = some v ∧ ((∃ d, s = .val d ∧ Rp F v d) ∨ (∃ d a, s = .bor d ∧ v = .ref a ∧ OwnA F H a d) ∨ ∃ d a, s = .bdk d ∧ v = .ref a ∧ DeskA F H a d)
  | _, _, .nil, i, s, h => by cases h
  | _, _, .val q r, 0, s, h => by cases h; exact ⟨_, rfl, .inl ⟨_, rfl, q⟩⟩
  | _, _, .bor q r, 0, s, h => by cases h; exact ⟨_, rfl, .inr (.inl ⟨_, _, rfl, rfl, q⟩)⟩
  | _, _, .bdk q r, 0, s, h => by cases h; exact ⟨_, rfl, .inr (.inr ⟨_, _, rfl, rfl, q⟩)⟩
  | _, _, .val q r, i + 1, s, h => r.at i s h
  | _, _, .bor q r, i + 1, s, h => r.at i s h
  | _, _, .bdk q r, i + 1, s, h => r.at i s h
theorem sr_startS {F H : Hp} {N : List Str} {vs : List V} {ss : List Sl} (ex : Ex F H) (r : ArgS F H vs ss) : Sr F H F H (L2.start N vs) (ss ++ List.replicate (N.length - vs.length) .no) := by
  have hl := r.len
  have look : ∀ (i : Nat) (s : Sl), (ss ++ List.replicate (N.length - vs.length) Sl.no)[i]? = some s → s = .no ∨ ∃ v, (L2.start N vs)[i]? = some (some v) ∧ ((∃ d, s = .val d ∧ Rp F v d) ∨ (∃ d a, s = .bor d ∧ v = .ref a ∧ OwnA F H a d) ∨ ∃ d a, s = .bdk d ∧ v = .ref a ∧ DeskA F H a d) := fun i s h => by
    by_cases hi : i < ss.length
    · rw [List.getElem?_append_left hi] at h
      obtain ⟨v, h1, h2⟩ := r.at i s h
      refine .inr ⟨v, ?_, h2⟩
      unfold L2.start
      rw [List.getElem?_append_left (by simpa [hl] using hi), List.getElem?_map, h1]
      rfl
    · rw [List.getElem?_append_right (by omega), List.getElem?_replicate] at h
      split at h
      · cases h; exact .inl rfl
      · cases h
  refine ⟨.refl ex, by unfold L2.start; simp [hl], fun i d h => ?_, fun i d h => ?_, fun i j a d e h => ?_, ⟨fun i d h => ?_, fun i j a b x d e h => ?_, fun i j a b d e h => ?_, fun i d h => ?_, fun i d h => ?_⟩⟩
  · rcases look i _ h with q | ⟨v, h1, ⟨d', q, h2⟩ | ⟨d', a, q, _⟩ | ⟨d', a, q, _⟩⟩ <;> cases q
    exact ⟨v, h1, h2⟩
  · rcases look i _ h with q | ⟨v, h1, ⟨d', q, h2⟩ | ⟨d', a, q, _⟩ | ⟨d', a, q, _⟩⟩ <;> cases q
  · rcases look i _ h with q | ⟨v, h1, ⟨d', q, h2⟩ | ⟨d', a, q, _⟩ | ⟨d', a, q, _⟩⟩ <;> cases q
  · rcases look i _ h with q | ⟨v, h1, ⟨d', q, h2⟩ | ⟨d', a, q, _⟩ | ⟨d', a, q, _⟩⟩ <;> cases q
  · rcases look i _ h with q | ⟨v, h1, ⟨d', q, h2⟩ | ⟨d', a, q, _⟩ | ⟨d', a, q, _⟩⟩ <;> cases q
  · rcases look i _ h with q | ⟨v, h1, ⟨d', q, h2⟩ | ⟨d', a, q, _⟩ | ⟨d', a, q, _⟩⟩ <;> cases q
  · rcases look i _ h with q | ⟨v, h1, ⟨d', q, h2⟩ | ⟨d', a, q, k1, k2⟩ | ⟨d', a, q, _⟩⟩ <;> cases q
    subst k1
    exact ⟨_, h1, k2⟩
  · rcases look i _ h with q | ⟨v, h1, ⟨d', q, h2⟩ | ⟨d', a, q, _⟩ | ⟨d', a, q, k1, k2⟩⟩ <;> cases q
    subst k1
    exact ⟨_, h1, k2⟩
/-- the promise of a def to which something is lent -/
def spS (n : Nat) (den : List Sl → Res D) : Sp := fun vs H Q E => vs.length = n ∧ ∃ F ss, Ex F H ∧ ArgS F H vs ss ∧ PostG RF HasK.mg (fun cls d _ H' => E cls d H') F H [] Q (den ss)
abbrev spKS (P : Program) (w : World) (K : PySem.W.Frag) (mg : Str → Option Value) (n : Nat) (den : List Sl → Res D) : Sp := @spS ⟨K, mg, P, w⟩ n den
theorem spKS_eq {inst : HasK} {P : Program} {w : World} {K : PySem.W.Frag} {mg : Str → Option Value} {n : Nat} {den : List Sl → Res D} (h : K = inst.K) (h2 : mg = inst.mg) (h3 : P = inst.P) (h4 : w = inst.w) : spKS P w K mg n den = @spS inst n den := by
  cases inst
  cases h
  cases h2
  cases h3
  cases h4
  rfl
def runS (ds : DS) (m : Nat) : List Sl → Res D := fun ss => match ds (ss ++ List.replicate m .no) with
  | .next _ => .ok .none
  | .ret d => .ok d
  | .exc n p _ => .exc n p
  | _ => .stuck
section
variable {P : Program} {w : World} {K : PySem.W.Frag} {mg : Str → Option Value} {base : Heap}
theorem fn_denS {x qual : Str} {st : Stmt} {f : Addr} {fd : FuncData} {N ps : List Str} {k m : Nat} {ds : DS} (F : Fun K x qual st f fd) (S : FnScope N ps (defScope st)) (hm : N.length = ps.length + m)
    (hbody : ∀ (cdv : Value) (A : Around) (outer : List Env) (s : Shared) (H : Hp) (E : XK) (F0 : Hp), Room k (A.deeper (PyProof.Rows.envOfC qual (defScope st) s.heap.objs.size f cdv)) →
      ∃ t, @JSs ⟨K, mg, P, w⟩ (@Cc.mk ⟨K, mg, P, w⟩ (cxOf (L2.CX P w) P w K mg base N qual (defScope st) f cdv A outer s H E) F0 H (fun cls d _ H' => E cls d H') rfl rfl rfl rfl) (defBody st) t ds) : FnOk P w K mg base (L2.CX P w) (k + 1) f fd ps (spKS P w K mg ps.length (runS ds m)) := by
  letI hk : HasK := ⟨K, mg, P, w⟩
  refine F.okX S (fun vs H Q E h => h.1) fun cdv A outer s H vs Q E hr h => ?_
  obtain ⟨hl, F0, xs, ex, r, post⟩ := h
  obtain ⟨t, J⟩ := hbody cdv A outer s H E F0 hr
  refine ⟨t, J.p, J.s F0 H _ _ _ (sr_startS (N := N) ex r) ?_⟩
  have em : N.length - vs.length = m := by omega
  rw [em]
  unfold runS at post
  cases q : ds (xs ++ List.replicate m .no) with
  | next δ => rw [q] at post; exact fun σ' F' H' e S' => post .non F' H' S'.st .non
  | ret d => rw [q] at post; exact fun v F' H' e s' r' => post v F' H' s' r'
  | exc n p δ =>
    rw [q] at post
    intro σ' F' H' e S'
    cases p with
    | none => exact post F' H' S'.st
    | some y => exact fun dd v h1 h2 h3 => post F' H' dd v S'.st h1 h2 h3
  | brk δ => rw [q] at post; exact post.elim
  | cont δ => rw [q] at post; exact post.elim
  | stuck => rw [q] at post; exact post.elim
end
/-! ### arguments -/
abbrev DL := DEnv → Res (List Sl)
abbrev RL : Hp → Hp → List V → List Sl → Prop := ArgS
structure JL (c : Cc) (es : List Expr) (t : TA) (d : DL) : Prop where
  p : PA c.X es t
  s : Sim RL c t d
def lNil : DL := fun _ => .ok []
def lVal (da : DE) (dl : DL) : DL := fun δ => (da δ).bind fun x => (dl δ).bind fun xs => .ok (.val x :: xs)
def lBor (i : Nat) (dl : DL) : DL := fun δ => (dVarB i δ).bind fun x => (dl δ).bind fun xs => .ok (.bor x :: xs)
def lBorO (i : Nat) (dl : DL) : DL := fun δ => match δ[i]? with
  | some (.own _) => lBor i dl δ
  | some (.bor _) => lBor i dl δ
  | _ => .stuck
/-- the desk in a slot -/
def dSelf (i : Nat) : DEnv → Res D := fun δ => match δ[i]? with
  | some (.dsk d) => .ok d
  | some (.bdk d) => .ok d
  | _ => .stuck
def lDsk (i : Nat) (dl : DL) : DL := fun δ => (dSelf i δ).bind fun x => (dl δ).bind fun xs => .ok (.bdk x :: xs)
section
variable {c : Cc} {e a b : Expr} {es : List Expr} {da db : DE} {pos : Pos} {ta tb : TE} {tr : TA} {dl : DL}
/-- a slot that holds a desk -/
abbrev RK : Hp → Hp → V → D → Prop := fun F H v d => ∃ a, v = .ref a ∧ DeskA F H a d
theorem sim_self {i : Nat} : Sim RK c (tVar i) (dSelf i) := fun F H σ δ Q S P => by
  unfold dSelf at P
  cases q : δ[i]? with
  | none => rw [q] at P; exact P.elim
  | some s =>
    rw [q] at P
    cases s with
    | val d => exact P.elim
    | no => exact P.elim
    | own d => exact P.elim
    | bor d => exact P.elim
    | dsk d =>
      obtain ⟨a, h1, h2, _⟩ := S.dk.dsk i d q
      exact ⟨.ref a, h1, P _ F H (.refl S.fh) ⟨a, rfl, h2⟩⟩
    | bdk d =>
      obtain ⟨a, h1, h2⟩ := S.dk.bdk i d q
      exact ⟨.ref a, h1, P _ F H (.refl S.fh) ⟨a, rfl, h2.mono S.st.ff S.st.hh⟩⟩
theorem jl_nil : JL c [] tNil lNil := ⟨pa_nil, fun F H σ δ Q S P => P [] F H (.refl S.fh) .nil⟩
theorem jl_val (ha : JE c e ta da) (hl : JL c es tr dl) (he : starEach (e :: es) c.X.env = (false, eval e c.X.env) :: starEach es c.X.env := by rfl) : JL c (e :: es) (tCons ta tr) (lVal da dl) :=
  ⟨pa_cons ha.p hl.p he, fun F H σ δ Q S P => ha.s.go S P fun F1 H1 x a s1 S1 hx P1 => hl.s.go S1 P1 fun F2 H2 xs as s2 S2 hxs P2 => P2 _ F2 H2 (.refl S2.fh) (.val (hx.mono s2.ff) hxs)⟩
theorem jl_bor (i : Nat) {x : Str} (hl : JL c es tr dl) (he : starEach (.Name x pos :: es) c.X.env = (false, eval (.Name x pos) c.X.env) :: starEach es c.X.env := by rfl) (hN : c.X.N[i]? = some x := by rfl) (hv : Vis c.X.env.scope x := by first | exact Or.inl rfl | exact Or.inr (Or.inl rfl) | exact Or.inr (Or.inr rfl)) (hd : (x == ("__debug__" : Str)) = false := by decide)
    (hcd : (x == ("__classdict__" : Str)) = false := by decide) (hown : True := trivial) : JL c (.Name x pos :: es) (tCons (tVar i) tr) (lBorO i dl) := by
  refine ⟨pa_cons (pe_var hN hv hd hcd) hl.p he, fun F H σ δ Q S P => ?_⟩
  unfold lBorO at P
  have go : ∀ d, (∃ a, σ[i]? = some (some (.ref a)) ∧ OwnA F H a d) → dVarB i δ = .ok d → PostG RL HasK.mg c.W F H σ Q (lBor i dl δ) → tCons (tVar i) tr σ H Q := fun d h hd2 P => by
    obtain ⟨a, h1, h2⟩ := h
    unfold lBor at P
    rw [hd2] at P
    exact ⟨.ref a, h1, hl.s.go S P fun F2 H2 xs as s2 S2 hxs P2 => P2 _ F2 H2 (.refl S2.fh) (.bor (h2.mono s2.ff s2.hh) hxs)⟩
  cases q : δ[i]? with
  | none => rw [q] at P; exact P.elim
  | some s =>
    rw [q] at P
    cases s with
    | val d => exact P.elim
    | no => exact P.elim
    | dsk d => exact P.elim
    | bdk d => exact P.elim
    | own d =>
      obtain ⟨a, h1, h2, h3, h4⟩ := S.own i d q
      exact go d ⟨a, h1, h4⟩ (by unfold dVarB; rw [q]) P
    | bor d =>
      obtain ⟨a, h1, h2⟩ := S.dk.bor i d q
      exact go d ⟨a, h1, h2.mono S.st.ff S.st.hh⟩ (by unfold dVarB; rw [q]) P
theorem jl_dsk (i : Nat) {x : Str} (hl : JL c es tr dl) (he : starEach (.Name x pos :: es) c.X.env = (false, eval (.Name x pos) c.X.env) :: starEach es c.X.env := by rfl) (hN : c.X.N[i]? = some x := by rfl) (hv : Vis c.X.env.scope x := by first | exact Or.inl rfl | exact Or.inr (Or.inl rfl) | exact Or.inr (Or.inr rfl)) (hd : (x == ("__debug__" : Str)) = false := by decide)
    (hcd : (x == ("__classdict__" : Str)) = false := by decide) : JL c (.Name x pos :: es) (tCons (tVar i) tr) (lDsk i dl) :=
  ⟨pa_cons (pe_var hN hv hd hcd) hl.p he, fun F H σ δ Q S P => sim_self.go S P fun F1 H1 x a s1 S1 hx P1 => hl.s.go S1 P1 fun F2 H2 xs as s2 S2 hxs P2 => by
    obtain ⟨p, rfl, hp⟩ := hx
    exact P2 _ F2 H2 (.refl S2.fh) (.bdk (hp.mono s2.ff s2.hh) hxs)⟩
/-! ### calls -/
def dCallL (n : Nat) (den : List Sl → Res D) (dl : DL) : DE := fun δ => (dl δ).bind fun xs => if xs.length = n then den xs else .stuck
theorem sim_callL {n : Nat} {den : List Sl → Res D} {W : WX} (hW : c.W = W) (h : Sim RL c tr dl) : Sim RF c (tCallS (spS n den) (WE W) tr) (dCallL n den dl) := fun F H σ δ Q S P => by
  subst hW
  exact h.go S P fun F1 H1 xs ds s1 S1 hx P1 => by
    by_cases hn : ds.length = n
    · rw [if_pos hn] at P1
      exact ⟨by rw [hx.len]; exact hn, F1, ds, S1.fh, hx, P1.slots⟩
    · rw [if_neg hn] at P1; exact P1.elim
structure CalS (P : Program) (w : World) (K : PySem.W.Frag) (mg : Str → Option Value) (base : Heap) (k : Nat) (x : Str) (n : Nat) (den : List Sl → Res D) : Prop where
  ex : ∃ (f : Addr) (fd : FuncData) (ps : List Str), FnOk P w K mg base (L2.CX P w) k f fd ps (spKS P w K mg n den) ∧ mg x = some (.ref f) ∧ PySem.W.keepIn K (.ref f) = true ∧ Binds K fd ps []
theorem je_callL {k j n : Nat} (W : WX) (hW : c.W = W) {x : Str} {den : List Sl → Res D} {p : Pos} (G : CalS c.X.prog c.X.w c.X.K c.X.mg c.X.base k x n den) (hr : Room j c.X.A) (hk : k ≤ j) (tk : Takes c.X c.W) (hg : Gl c.X x) (ha : JL c (e :: es) tr dl)
    (hdb : (x == ("__debug__" : Str)) = false := by decide) (he : starEach (e :: es) c.X.env = (false, eval e c.X.env) :: starEach es c.X.env := by rfl) (hpl : (backTo pos (starEach es c.X.env)).any (·.1) = false := by rfl) :
    JE c (.Call (.Name x p) (e :: es) [] pos) (tCallS (spS n den) (WE W) tr) (dCallL n den dl) := by
  subst hW
  obtain ⟨f, fd, ps, h1, h2, h3, h4⟩ := G.ex
  rw [spKS_eq c.hK c.hM c.hP c.hw] at h1
  exact ⟨pe_callS h1 (hr.mono hk) hg h2 h3 h4 (fun σ => passAt tk σ) ha.p hdb he hpl, sim_callL rfl ha.s⟩
end
end RD

end
section
namespace RD
open PySem PySem.Spec L2 PyProof.Rows
variable [HasK]
/-! ### the class Desk: fields -/
inductive Fk where
  | net
  | stock
  | kept
def Fk.s : Fk → Str
  | .net => "net"
  | .stock => "stock"
  | .kept => "kept"
structure DkK : Prop where
  mg : HasK.mg "Desk" = some (.ref dskC)
  cls : Cls HasK.K dskC
  net : NoAttr HasK.K dskC "net"
  stock : NoAttr HasK.K dskC "stock"
  steps : NoAttr HasK.K dskC "steps"
  kept : NoAttr HasK.K dskC "kept"
theorem DkK.fk (h : DkK) : ∀ f : Fk, NoAttr HasK.K dskC f.s
  | .net => h.net
  | .stock => h.stock
  | .kept => h.kept
def fldD : Fk → D → Option D
  | .net, .tuple [net, _, .list _, .int _] => some net
  | .stock, .tuple [_, stock, .list _, .int _] => some stock
  | .kept, .tuple [_, _, .list _, .int k] => some (.int k)
  | _, _ => none
def stepsD : D → Option D
  | .tuple [_, _, .list steps, .int _] => some (.list steps)
  | _ => none
def dFld (i : Nat) (f : Fk) : DE := fun δ => (dSelf i δ).bind fun d => Res.ofO (fldD f d)
def dSteps (i : Nat) : DE := fun δ => (dSelf i δ).bind fun d => Res.ofO (stepsD d)
section
variable {c : Cc} {e : Expr} {es : List Expr} {pos p ap : Pos} {tr : TA} {dl : DL} {x : Str}
theorem sim_fld {i : Nat} (f : Fk) (hD : DkK) : Sim RF c (tFld HasK.K (tVar i) f.s) (dFld i f) := fun F H σ δ Q S P => sim_self.go S P fun F1 H1 x d s1 S1 hx P1 => by
  obtain ⟨a, rfl, net, stock, steps, k, dx, b, vn, vs, xs, rfl, h1, h2, h3, h4, h5, h6⟩ := hx
  have hc := hD.cls
  have hn := hD.fk f
  cases f with
  | net => exact ⟨a, dskC, dx, _, vn, rfl, h1, hc, hn, rfl, P1 vn F1 H1 (.refl S1.fh) h3⟩
  | stock => exact ⟨a, dskC, dx, _, vs, rfl, h1, hc, hn, rfl, P1 vs F1 H1 (.refl S1.fh) h4⟩
  | kept => exact ⟨a, dskC, dx, _, .int k, rfl, h1, hc, hn, rfl, P1 (.int k) F1 H1 (.refl S1.fh) (.int k)⟩
theorem sim_steps {i : Nat} (hD : DkK) : Sim RB c (tFld HasK.K (tVar i) "steps") (dSteps i) := fun F H σ δ Q S P => sim_self.go S P fun F1 H1 x d s1 S1 hx P1 => by
  obtain ⟨a, rfl, net, stock, steps, k, dx, b, vn, vs, xs, rfl, h1, h2, h3, h4, h5, h6⟩ := hx
  have hc := hD.cls
  have hn := hD.steps
  exact ⟨a, dskC, dx, _, .ref b, rfl, h1, hc, hn, rfl, P1 (.ref b) F1 H1 (.refl S1.fh) (.inr ⟨b, rfl, xs, h5, h6⟩)⟩
theorem je_fld (i : Nat) (f : Fk) (hD : DkK) (hN : c.X.N[i]? = some x := by rfl) (hv : Vis c.X.env.scope x := by first | exact Or.inl rfl | exact Or.inr (Or.inl rfl) | exact Or.inr (Or.inr rfl)) (hd : (x == ("__debug__" : Str)) = false := by decide)
    (hcd : (x == ("__classdict__" : Str)) = false := by decide) (hb : attributeBase (.Name x p) f.s c.X.env (eval (.Name x p) c.X.env) = eval (.Name x p) c.X.env := by rfl) : JE c (.Attribute (.Name x p) f.s pos) (tFld HasK.K (tVar i) f.s) (dFld i f) := ⟨by rw [← c.hK]; exact pe_fld (pe_var hN hv hd hcd) hb, sim_fld f hD⟩
theorem jb_steps (i : Nat) (hD : DkK) (hN : c.X.N[i]? = some x := by rfl) (hv : Vis c.X.env.scope x := by first | exact Or.inl rfl | exact Or.inr (Or.inl rfl) | exact Or.inr (Or.inr rfl)) (hd : (x == ("__debug__" : Str)) = false := by decide)
    (hcd : (x == ("__classdict__" : Str)) = false := by decide) (hb : attributeBase (.Name x p) "steps" c.X.env (eval (.Name x p) c.X.env) = eval (.Name x p) c.X.env := by rfl) : JB c (.Attribute (.Name x p) "steps" pos) (tFld HasK.K (tVar i) "steps") (dSteps i) := ⟨by rw [← c.hK]; exact pe_fld (pe_var hN hv hd hcd) hb, sim_steps hD⟩
end
/-! ### methods -/
section
variable {X : Cx} {CX : CXT} {k : Nat} {f C : Addr} {fd : FuncData} {ps : List Str} {sp : Sp} {E : L2.St → XK} {m : Str} {pos apos : Pos} {e o : Expr} {es : List Expr} {ta : TE} {t : TA}
def tMethS (C : Addr) (m : Str) (sp : Sp) (E : L2.St → XK) (ta : TE) (t : TA) : TE := fun σ H Q => ta σ H fun x H1 => ∃ a dx fs, x = .ref a ∧ H1 a = some (.ins C dx fs) ∧ fs.lookup m = none ∧ t σ H1 fun vs H2 => sp (.ref a :: vs) H2 Q (E σ)
theorem pe_methS1 {pl : Sem Bool} (he : PE X o ta) (c : Cls X.K C) (hm : Meth X.K C m f) (F : FnOk X.prog X.w X.K X.mg X.base CX k f fd ps sp) (hr : Room k X.A) (hb : Binds X.K fd ps []) (hx : ∀ σ, PassesAt CX X σ (E σ)) (ha : PA X (e :: es) t)
    (hst : starEach (e :: es) X.env = (false, eval e X.env) :: starEach es X.env := by rfl) (hpl : (backTo pos (starEach es X.env)).any (·.1) = false := by rfl)
    (ht : eval (.Call (.Attribute o m apos) (e :: es) [] pos) X.env = (do
      let ov ← eval o X.env
      standAt apos.atName
      let (f, first) ← holding [ov] (getMethod ov m pl)
      callWith pos f first (backTo pos (starEach (e :: es) X.env)) (backToKw pos (keywordEach [] X.env))) := by rfl) :
    PE X (.Call (.Attribute o m apos) (e :: es) [] pos) (tMethS C m sp E ta t) := by
  refine ⟨fun pins s σ H Q I h => ?_⟩
  refine PySem.W.methodCall_KW (pl := pl) (thn (he.run pins s σ H _ I h) fun u s1 ⟨x, H1, I1, rx, a, dx, fs, ex, ea, l, q⟩ => ?_) ht
  subst ex
  obtain rfl : u = Value.ref a := rx
  refine getmeth_ok I1 ea c hm l ?_
  refine PySem.W.callWith_K (first := [.ref a]) (h₀ := X.base) I.ok.mod.kin hm.kp (thn (ha.run pos pins s1 σ H1 _ I1 q) fun us s2 ⟨vs, H2, I2, r, q2⟩ => ⟨I2.kIn, ?_⟩) hst hpl
  exact run_fnS (us := .ref a :: us) (vs := .ref a :: vs) F hr hb (hx σ) I2 (.cons rfl r) q2
theorem pe_methS0 {pl : Sem Bool} (he : PE X o ta) (c : Cls X.K C) (hm : Meth X.K C m f) (F : FnOk X.prog X.w X.K X.mg X.base CX k f fd ps sp) (hr : Room k X.A) (hb : Binds X.K fd ps []) (hx : ∀ σ, PassesAt CX X σ (E σ))
    (ht : eval (.Call (.Attribute o m apos) [] [] pos) X.env = (do
      let ov ← eval o X.env
      standAt apos.atName
      let (f, first) ← holding [ov] (getMethod ov m pl)
      callWith pos f first (backTo pos (starEach [] X.env)) (backToKw pos (keywordEach [] X.env))) := by rfl) :
    PE X (.Call (.Attribute o m apos) [] [] pos) (tMethS C m sp E ta tNil) := by
  refine ⟨fun pins s σ H Q I h => ?_⟩
  refine PySem.W.methodCall_KW (pl := pl) (thn (he.run pins s σ H _ I h) fun u s1 ⟨x, H1, I1, rx, a, dx, fs, ex, ea, l, q⟩ => ?_) ht
  subst ex
  obtain rfl : u = Value.ref a := rx
  refine getmeth_ok I1 ea c hm l ?_
  exact PySem.W.callWith_K0 (first := [.ref a]) I1.kIn hm.kp (run_fnS (us := [.ref a]) (vs := [.ref a]) F hr hb (hx σ) I1 (.cons rfl .nil) q)
end
/-- the name is no field of a desk -/
def noFld (m : Str) : Prop := ∀ vn vs b k, (dF vn vs b k).lookup m = none
/-- a method to which the desk is lent -/
structure MtS (P : Program) (w : World) (K : PySem.W.Frag) (mg : Str → Option Value) (base : Heap) (k : Nat) (C : Addr) (m : Str) (n : Nat) (den : List Sl → Res D) : Prop where
  ex : ∃ (f : Addr) (fd : FuncData) (ps : List Str), FnOk P w K mg base (L2.CX P w) k f fd ps (spKS P w K mg n den) ∧ Meth K C m f ∧ Binds K fd ps []
section
variable {c : Cc} {e : Expr} {es : List Expr} {pos p ap : Pos} {tr : TA} {dl : DL} {x : Str}
theorem sim_methL {i n : Nat} {m : Str} {den : List Sl → Res D} {W : WX} (hW : c.W = W) (hf : noFld m) (h : Sim RL c tr dl) : Sim RF c (tMethS dskC m (spS n den) (WE W) (tVar i) tr) (dCallL n den (lDsk i dl)) := fun F H σ δ Q S P => by
  subst hW
  have P' : PostG RF HasK.mg c.W F H σ Q ((dSelf i δ).bind fun x => (dl δ).bind fun xs => if (Sl.bdk x :: xs).length = n then den (.bdk x :: xs) else .stuck) := by
    have e1 : dCallL n den (lDsk i dl) δ = ((dSelf i δ).bind fun x => (dl δ).bind fun xs => if (Sl.bdk x :: xs).length = n then den (.bdk x :: xs) else .stuck) := by
      unfold dCallL lDsk
      cases dSelf i δ with
      | ok d =>
        cases h2 : dl δ <;> simp only [Res.bind, h2]
      | exc n p => rfl
      | stuck => rfl
    rw [← e1]
    exact P
  exact sim_self.go S P' fun F1 H1 v d s1 S1 hv P1 => by
    obtain ⟨a, rfl, hA⟩ := hv
    obtain ⟨net, stock, steps, k, dx, b, vn, vs, xs, rfl, h1, h2, h3, h4, h5, h6⟩ := id hA
    exact ⟨a, dx, _, rfl, h1, hf _ _ _ _, h.go S1 P1 fun F2 H2 xs ds s2 S2 hx P2 => by
      by_cases hn : (Sl.bdk (deskD net stock steps k) :: ds).length = n
      · rw [if_pos hn] at P2
        exact ⟨by rw [← hn, List.length_cons, List.length_cons, hx.len], F2, _, S2.fh, .bdk (hA.mono s2.ff s2.hh) hx, P2.slots⟩
      · rw [if_neg hn] at P2; exact P2.elim⟩
theorem je_methL {k j n : Nat} (W : WX) (hW : c.W = W) (i : Nat) {m : Str} {den : List Sl → Res D} (hD : DkK) (G : MtS c.X.prog c.X.w c.X.K c.X.mg c.X.base k dskC m n den) (hr : Room j c.X.A) (hk : k ≤ j) (tk : Takes c.X c.W) (ha : JL c (e :: es) tr dl) (hf : noFld m := by exact fun _ _ _ _ => rfl)
    (hN : c.X.N[i]? = some x := by rfl) (hv : Vis c.X.env.scope x := by first | exact Or.inl rfl | exact Or.inr (Or.inl rfl) | exact Or.inr (Or.inr rfl)) (hd : (x == ("__debug__" : Str)) = false := by decide)
    (hcd : (x == ("__classdict__" : Str)) = false := by decide) (pl : Sem Bool)
    (hst : starEach (e :: es) c.X.env = (false, eval e c.X.env) :: starEach es c.X.env := by rfl) (hpl : (backTo pos (starEach es c.X.env)).any (·.1) = false := by rfl)
    (ht : eval (.Call (.Attribute (.Name x p) m ap) (e :: es) [] pos) c.X.env = (do
      let ov ← eval (.Name x p) c.X.env
      standAt ap.atName
      let (f, first) ← holding [ov] (getMethod ov m pl)
      callWith pos f first (backTo pos (starEach (e :: es) c.X.env)) (backToKw pos (keywordEach [] c.X.env))) := by rfl) :
    JE c (.Call (.Attribute (.Name x p) m ap) (e :: es) [] pos) (tMethS dskC m (spS n den) (WE W) (tVar i) tr) (dCallL n den (lDsk i dl)) := by
  subst hW
  obtain ⟨f, fd, ps, h1, h2, h3⟩ := G.ex
  rw [spKS_eq c.hK c.hM c.hP c.hw] at h1
  have hc := hD.cls
  rw [← c.hK] at hc
  exact ⟨pe_methS1 (pe_var hN hv hd hcd) hc h2 h1 (hr.mono hk) h3 (fun σ => passAt tk σ) ha.p hst hpl ht, sim_methL rfl hf ha.s⟩
theorem je_methL0 {k j n : Nat} (W : WX) (hW : c.W = W) (i : Nat) {m : Str} {den : List Sl → Res D} (hD : DkK) (G : MtS c.X.prog c.X.w c.X.K c.X.mg c.X.base k dskC m n den) (hr : Room j c.X.A) (hk : k ≤ j) (tk : Takes c.X c.W) (hf : noFld m := by exact fun _ _ _ _ => rfl)
    (hN : c.X.N[i]? = some x := by rfl) (hv : Vis c.X.env.scope x := by first | exact Or.inl rfl | exact Or.inr (Or.inl rfl) | exact Or.inr (Or.inr rfl)) (hd : (x == ("__debug__" : Str)) = false := by decide)
    (hcd : (x == ("__classdict__" : Str)) = false := by decide) (pl : Sem Bool)
    (ht : eval (.Call (.Attribute (.Name x p) m ap) [] [] pos) c.X.env = (do
      let ov ← eval (.Name x p) c.X.env
      standAt ap.atName
      let (f, first) ← holding [ov] (getMethod ov m pl)
      callWith pos f first (backTo pos (starEach [] c.X.env)) (backToKw pos (keywordEach [] c.X.env))) := by rfl) :
    JE c (.Call (.Attribute (.Name x p) m ap) [] [] pos) (tMethS dskC m (spS n den) (WE W) (tVar i) tNil) (dCallL n den (lDsk i lNil)) := by
  subst hW
  obtain ⟨f, fd, ps, h1, h2, h3⟩ := G.ex
  rw [spKS_eq c.hK c.hM c.hP c.hw] at h1
  have hc := hD.cls
  rw [← c.hK] at hc
  exact ⟨pe_methS0 (pe_var hN hv hd hcd) hc h2 h1 (hr.mono hk) h3 (fun σ => passAt tk σ) ht, sim_methL rfl hf jl_nil.s⟩
end
end RD

end
section
namespace RD
open PySem PySem.Spec L2 PyProof.Rows
variable [HasK]
/-! ### expressions that change a desk -/
inductive RX (α : Type) where
  | ok (a : α) (δ : DEnv)
  | exc (n : Str) (p : Option (Str × D)) (δ : DEnv)
  | stuck
def RX.bind {α β : Type} : RX α → (α → DEnv → RX β) → RX β
  | .ok a δ, f => f a δ
  | .exc n p δ, _ => .exc n p δ
  | .stuck, _ => .stuck
def Res.x {α : Type} (r : Res α) (δ : DEnv) : RX α := match r with
  | .ok a => .ok a δ
  | .exc n p => .exc n p δ
  | .stuck => .stuck
def RX.out {α : Type} (r : RX α) (f : α → DEnv → Out) : Out := match r with
  | .ok a δ => f a δ
  | .exc n p δ => .exc n p δ
  | .stuck => .stuck
abbrev DX := DEnv → RX D
abbrev DXT := DEnv → RX Bool
def PostX {α β : Type} (Rel : Hp → Hp → β → α → Prop) (c : Cc) (F : Hp) (σ : L2.St) (Q : β → Hp → Prop) : RX α → Prop
  | .ok a δ => ∀ v F' H', Ex F F' → Sr c.F0 c.H0 F' H' σ δ → Rel F' H' v a → Q v H'
  | .exc n p δ => ∀ F' H', Ex F F' → Sr c.F0 c.H0 F' H' σ δ → XPostS HasK.mg c.W F' H' σ n p
  | .stuck => False
theorem PostX.up {α β : Type} {Rel : Hp → Hp → β → α → Prop} {c : Cc} {F F' : Hp} {σ : L2.St} {Q : β → Hp → Prop} {r : RX α} (e : Ex F F') (h : PostX Rel c F σ Q r) : PostX Rel c F' σ Q r := by
  cases r with
  | ok a δ => exact fun v F2 H2 e2 => h v F2 H2 (e.trans e2)
  | exc n p δ => exact fun F2 H2 e2 => h F2 H2 (e.trans e2)
  | stuck => exact h
def SimX {α β : Type} (Rel : Hp → Hp → β → α → Prop) (c : Cc) (t : TG_ β) (d : DEnv → RX α) : Prop :=
  ∀ F H σ δ Q, Sr c.F0 c.H0 F H σ δ → PostX Rel c F σ Q (d δ) → t σ H Q
theorem SimX.go {α β α' β' : Type} {Rel : Hp → Hp → β → α → Prop} {Rel' : Hp → Hp → β' → α' → Prop} {c : Cc} {t : TG_ β} {d : DEnv → RX α} (h : SimX Rel c t d) {F H : Hp} {σ : L2.St} {δ : DEnv} {Q : β' → Hp → Prop} {K : β → Hp → Prop} {r : α → DEnv → RX α'}
    (S : Sr c.F0 c.H0 F H σ δ) (P : PostX Rel' c F σ Q ((d δ).bind r))
    (k : ∀ F' H' x a δ', Ex F F' → Sr c.F0 c.H0 F' H' σ δ' → Rel F' H' x a → PostX Rel' c F' σ Q (r a δ') → K x H') : t σ H K := by
  refine h F H σ δ K S ?_
  cases q : d δ with
  | stuck => rw [q] at P; exact P
  | exc n p δ' => rw [q] at P; exact P
  | ok a δ' =>
    rw [q] at P
    exact fun v F' H' e S' r => k F' H' v a δ' e S' r (PostX.up e P)
theorem SimX.gos {α β : Type} {Rel : Hp → Hp → β → α → Prop} {c : Cc} {t : TG_ β} {d : DEnv → RX α} (h : SimX Rel c t d) {F H : Hp} {σ : L2.St} {δ : DEnv} {D : Ends} {K : β → Hp → Prop} {r : α → DEnv → Out}
    (S : Sr c.F0 c.H0 F H σ δ) (P : PostS c F D ((d δ).out r))
    (k : ∀ F' H' x a δ', Ex F F' → Sr c.F0 c.H0 F' H' σ δ' → Rel F' H' x a → PostS c F' D (r a δ') → K x H') : t σ H K := by
  refine h F H σ δ K S ?_
  cases q : d δ with
  | stuck => rw [q] at P; exact P
  | exc n p δ' =>
    rw [q] at P
    have P' : PostS c F D (.exc n p δ') := P
    exact fun F' H' e S' => P' σ F' H' e S'
  | ok a δ' =>
    rw [q] at P
    exact fun v F' H' e S' r => k F' H' v a δ' e S' r (PostS.up e P)
structure JX (c : Cc) (e : Expr) (t : TE) (d : DX) : Prop where
  p : PE c.X e t
  s : SimX RF c t d
structure JXB (c : Cc) (e : Expr) (t : TE) (d : DX) : Prop where
  p : PE c.X e t
  s : SimX RB c t d
structure JXT (c : Cc) (e : Expr) (t : TT) (d : DXT) : Prop where
  p : PT c.X e t
  s : SimX RT c t d
structure JXW (c : Cc) (e : Expr) (t : TT) (d : DXT) : Prop where
  p : PW c.X e t
  s : SimX RT c t d
def xLift {α : Type} (d : DEnv → Res α) : DEnv → RX α := fun δ => (d δ).x δ
theorem Sim.x {α β : Type} {Rel : Hp → Hp → β → α → Prop} {c : Cc} {t : TG_ β} {d : DEnv → Res α} (h : Sim Rel c t d) : SimX Rel c t (xLift d) := fun F H σ δ Q S P => by
  refine h F H σ δ Q S ?_
  unfold xLift at P
  cases q : d δ with
  | stuck => rw [q] at P; exact P
  | exc n p =>
    rw [q] at P
    have P' : ∀ F' H', Ex F F' → Sr c.F0 c.H0 F' H' σ δ → XPostS HasK.mg c.W F' H' σ n p := P
    cases p with
    | none => exact fun F' H' s => P' F' H' s.ff (S.step s)
    | some y => exact fun F' H' dd v s h1 h2 h3 => P' F' H' s.ff (S.step s) dd v h1 h2 h3
  | ok a =>
    rw [q] at P
    have P' : ∀ v F' H', Ex F F' → Sr c.F0 c.H0 F' H' σ δ → Rel F' H' v a → Q v H' := P
    exact fun v F' H' s r => P' v F' H' s.ff (S.step s) r
def xOfO {α : Type} (g : Option α) (δ : DEnv) : RX α := match g with
  | some a => .ok a δ
  | none => .stuck
section
variable {c : Cc} {e a b : Expr} {es rest : List Expr} {da db : DX} {pos : Pos} {ta tb tc : TE} {tt tt' : TT} {d d' : DXT}
theorem jx_of {d : DE} (h : JE c e ta d) : JX c e ta (xLift d) := ⟨h.p, h.s.x⟩
theorem jxb_of {d : DE} (h : JB c e ta d) : JXB c e ta (xLift d) := ⟨h.p, h.s.x⟩
theorem jxt_of {d : DT} (h : JT c e tt d) : JXT c e tt (xLift d) := ⟨h.p, h.s.x⟩
theorem JX.toB (h : JX c e ta da) : JXB c e ta da := ⟨h.p, fun F H σ δ Q S P => h.s F H σ δ Q S (by
  cases q : da δ with
  | stuck => rw [q] at P; exact P
  | exc n p δ' => rw [q] at P; exact P
  | ok a δ' => rw [q] at P; exact fun v F' H' e S' r => P v F' H' e S' (.inl r))⟩
theorem JXW.t (h : JXW c e tt d) : JXT c e tt d := ⟨h.p.pt, h.s⟩
/-! ### operators -/
def xOp (g : D → D → Option D) (da db : DX) : DX := fun δ => (da δ).bind fun d δ1 => (db δ1).bind fun e δ2 => xOfO (g d e) δ2
theorem sim_xop {r : R2} {g : D → D → Option D} (hs : OpS r g) (ha : SimX RF c ta da) (hb : SimX RB c tb db) : SimX RF c (tOp r ta tb) (xOp g da db) := fun F H σ δ Q S P =>
  ha.go S P fun F1 H1 x d δ1 e1 S1 hx P1 => hb.go S1 P1 fun F2 H2 y e δ2 e2 S2 hy P2 => by
    cases q : g d e with
    | none => rw [q] at P2; exact P2.elim
    | some z =>
      rw [q] at P2
      have P3 : ∀ v F' H', Ex F2 F' → Sr c.F0 c.H0 F' H' σ δ2 → Rp F' v z → Q v H' := P2
      exact hs F2 H2 x y d e z Q S2.fh (.inl (hx.mono e2)) hy q fun v F' H' s r => P3 v F' H' s.ff (S2.step s) r
theorem jx_bin {op : Operator} {r : R2} {g : D → D → Option D} (ho : OpR c.X (binaryOp op) r) (hs : OpS r g) (ha : JX c a ta da) (hb : JXB c b tb db) : JX c (.BinOp a op b pos) (tOp r ta tb) (xOp g da db) :=
  ⟨pe_op ho ha.p hb.p, sim_xop hs ha.s hb.s⟩
theorem jx_cmpR {op : CmpOp} {r : R2} {g : D → D → Option D} (ho : OpR c.X (compareOp op) r) (hs : OpS r g) (ha : JX c a ta da) (hb : JXB c b tb db) (hm : behindInMarks op b = false) : JX c (.Compare a [op] [b] pos) (tOp r ta tb) (xOp g da db) :=
  ⟨pe_cmpR ho ha.p hb.p hm, sim_xop hs ha.s hb.s⟩
def xTest (d : DX) : DXT := fun δ => (d δ).bind fun x δ1 => match x with
  | .bool b => .ok b δ1
  | _ => .stuck
theorem sim_xtest {t : TE} (h : SimX RF c t da) : SimX RT c (tTest t) (xTest da) := fun F H σ δ Q S P =>
  h.go S P fun F1 H1 x d δ1 e1 S1 hx P1 => by
    cases d with
    | bool b => cases hx; exact ⟨b, rfl, P1 b F1 H1 (.refl _) S1 rfl⟩
    | _ => exact P1.elim
theorem jxt_cmpR {op : CmpOp} {r : R2} {g : D → D → Option D} (ho : OpR c.X (compareOp op) r) (hs : OpS r g) (ha : JX c a ta da) (hb : JXB c b tb db) (hm : behindInMarks op b = false) : JXT c (.Compare a [op] [b] pos) (tTest (tOp r ta tb)) (xTest (xOp g da db)) :=
  ⟨pt_cmpR ho ha.p hb.p hm, sim_xtest (sim_xop hs ha.s hb.s)⟩
def xNot (d : DXT) : DXT := fun δ => (d δ).bind fun k δ1 => .ok (!k) δ1
theorem jxt_not (ha : JXT c a tt d) : JXT c (.UnaryOp .Not a pos) (tNot tt) (xNot d) :=
  ⟨pt_not ha.p, fun F H σ δ Q S P => ha.s.go S P fun F1 H1 x k δ1 e1 S1 hx P1 => by
    subst hx
    exact P1 _ F1 H1 (.refl _) S1 rfl⟩
def xAnd (d e : DXT) : DXT := fun δ => (d δ).bind fun k δ1 => if k then e δ1 else .ok false δ1
def xOr (d e : DXT) : DXT := fun δ => (d δ).bind fun k δ1 => if k then .ok true δ1 else e δ1
theorem jxw_and1 (ha : JXT c a tt d) : JXW c (.BoolOp .And [a] pos) tt d := ⟨pw_and1 ha.p, ha.s⟩
theorem jxw_or1 (ha : JXT c a tt d) : JXW c (.BoolOp .Or [a] pos) tt d := ⟨pw_or1 ha.p, ha.s⟩
theorem jxw_and (ha : JXT c a tt d) (hb : JXW c (.BoolOp .And (b :: rest) pos) tt' d') : JXW c (.BoolOp .And (a :: b :: rest) pos) (tAnd tt tt') (xAnd d d') :=
  ⟨pw_and ha.p hb.p, fun F H σ δ Q S P => ha.s.go S P fun F1 H1 x k δ1 e1 S1 hx P1 => by
    subst hx
    cases x with
    | true => exact iteT (hb.s F1 H1 σ δ1 Q S1 P1)
    | false => exact iteF (P1 _ F1 H1 (.refl _) S1 rfl)⟩
theorem jxw_or (ha : JXT c a tt d) (hb : JXW c (.BoolOp .Or (b :: rest) pos) tt' d') : JXW c (.BoolOp .Or (a :: b :: rest) pos) (tOr tt tt') (xOr d d') :=
  ⟨pw_or ha.p hb.p, fun F H σ δ Q S P => ha.s.go S P fun F1 H1 x k δ1 e1 S1 hx P1 => by
    subst hx
    cases x with
    | true => exact iteT (P1 _ F1 H1 (.refl _) S1 rfl)
    | false => exact iteF (hb.s F1 H1 σ δ1 Q S1 P1)⟩
def xAndV (da db : DX) : DX := fun δ => (da δ).bind fun x δ1 => match x with
  | .bool true => db δ1
  | .bool false => .ok (.bool false) δ1
  | _ => .stuck
variable {op : BoolOp}
theorem jx_one (ha : JX c a ta da) : JX c (.BoolOp op [a] pos) ta da := ⟨pe_one ha.p, ha.s⟩
theorem jx_and (ha : JX c a ta da) (hb : JX c (.BoolOp .And (b :: rest) pos) tb db) : JX c (.BoolOp .And (a :: b :: rest) pos) (tAndV ta tb) (xAndV da db) :=
  ⟨pe_and ha.p hb.p, fun F H σ δ Q S P => ha.s.go S P fun F1 H1 x k δ1 e1 S1 hx P1 => by
    cases k with
    | bool k =>
      cases hx
      refine ⟨k, rfl, ?_⟩
      cases k with
      | true => exact iteT (hb.s F1 H1 σ δ1 Q S1 P1)
      | false => exact iteF (P1 _ F1 H1 (.refl _) S1 (.bl _))
    | _ => exact P1.elim⟩
/-- a call of a builtin, one argument with effects -/
def xCB (g : List D → Option D) (da : DX) : DX := fun δ => (da δ).bind fun x δ1 => xOfO (g [x]) δ1
theorem sim_xcb {r : List V → Hp → VK → Prop} {g : List D → Option D} (hs : CallS r g) (h : SimX RF c ta da) : SimX RF c (tCB r (tCons ta tNil)) (xCB g da) := fun F H σ δ Q S P =>
  h.go S P fun F1 H1 x d δ1 e1 S1 hx P1 => by
    cases q : g [d] with
    | none => rw [q] at P1; exact P1.elim
    | some z =>
      rw [q] at P1
      have P3 : ∀ v F' H', Ex F1 F' → Sr c.F0 c.H0 F' H' σ δ1 → Rp F' v z → Q v H' := P1
      exact hs F1 H1 [x] [d] z Q S1.fh (.cons (.inl hx) .nil) q fun v F' H' s r => P3 v F' H' s.ff (S1.step s) r
/-! ### statements -/
variable {st : Stmt} {t u : TS} {ds du : DS}
def xDrop (da : DX) : DS := fun δ => (da δ).out fun _ δ1 => .next δ1
theorem js_xexpr (he : JX c e ta da) (hs : swapsWith e none pos.line c.X.env = pure false := by rfl) : JS c (.Expr e pos) (tDrop ta) (xDrop da) :=
  ⟨ps_expr he.p hs, fun F H σ δ D S P => he.s.gos S P fun F1 H1 x a δ1 e1 S1 hx P1 => P1 σ F1 H1 (.refl _) S1⟩
def xRet (da : DX) : DS := fun δ => (da δ).out fun x _ => .ret x
theorem js_xret (he : JX c e ta da) : JS c (.Return (some e) pos) (tRet ta) (xRet da) :=
  ⟨ps_ret he.p, fun F H σ δ D S P => he.s.gos S P fun F1 H1 x a δ1 e1 S1 hx P1 => P1 x F1 H1 (.refl _) S1.st hx⟩
def xIfS (d : DXT) (ds du : DS) : DS := fun δ => (d δ).out fun k δ1 => if k then ds δ1 else du δ1
theorem js_xif {x : Expr} {p q : List Stmt} (hc : JXT c x tt d) (ha : JSs c p t ds) (hb : JSs c q u du) : JS c (.If x p q pos) (tIfS tt t u) (xIfS d ds du) :=
  ⟨ps_if hc.p ha.p hb.p, fun F H σ δ D S P => hc.s.gos S P fun F1 H1 x k δ1 e1 S1 hx P1 => by
    subst hx
    cases x with
    | true => exact iteT (ha.s F1 H1 σ δ1 D S1 P1)
    | false => exact iteF (hb.s F1 H1 σ δ1 D S1 P1)⟩
def xSet (i : Nat) (da : DX) : DS := fun δ => (da δ).out fun x δ1 => .next (δ1.set i (.val x))
theorem js_xset {i : Nat} {x : Str} {pos' : Pos} (hN : c.X.N.Nodup) (he : JX c e ta da) (hi : c.X.N[i]? = some x := by rfl) (hx : Loc c.X.env.scope x := by first | exact Or.inl rfl | exact Or.inr rfl)
    (hs : swapsWith e (some (.Name x pos')) pos.line c.X.env = pure false := by rfl) (hf : c.X.fn x = true ∨ c.X.env.scope.names.lookup x = some .local := by first | exact .inl rfl | exact .inr rfl) :
    JS c (.Assign [.Name x pos'] e pos) (tAsg ta (gName i)) (xSet i da) :=
  ⟨ps_set hN hi hx he.p hs hf, fun F H σ δ D S P => he.s.gos S P fun F1 H1 x a δ1 e1 S1 hx P1 => P1 _ F1 H1 (.refl _) (S1.set hx i)⟩
end
end RD

end
section
namespace RD
open PySem PySem.Spec L2 PyProof.Rows
variable [HasK]
/-! ### defs that change the steps of a desk -/
inductive RM where
  | ok (r : D) (ss : List D)
  | exc (n : Str) (p : Option (Str × D))
  | stuck
structure DeskM (F H : Hp) (a : Addr) (net stock : D) (steps : List D) (k : Int) (b : Addr) : Prop where
  ex : ∃ dx vn vs xs, H a = some (.ins dskC dx (dF vn vs b k)) ∧ H dx = some (.own a) ∧ Rp F vn net ∧ Rp F vs stock ∧ H b = some (.lst xs) ∧ RpAll F xs steps
theorem DeskM.a {F H : Hp} {a : Addr} {net stock : D} {steps : List D} {k : Int} {b : Addr} (h : DeskM F H a net stock steps k b) : DeskA F H a (deskD net stock steps k) := by
  obtain ⟨dx, vn, vs, xs, h⟩ := h.ex
  exact ⟨net, stock, steps, k, dx, b, vn, vs, xs, rfl, h⟩
theorem DeskM.mono {F H F' H' : Hp} {a : Addr} {net stock : D} {steps : List D} {k : Int} {b : Addr} (ef : Ex F F') (eh : Ex H H') (h : DeskM F H a net stock steps k b) : DeskM F' H' a net stock steps k b := by
  obtain ⟨dx, vn, vs, xs, h1, h2, h3, h4, h5, h6⟩ := h.ex
  exact ⟨dx, vn, vs, xs, eh _ _ h1, eh _ _ h2, h3.mono ef, h4.mono ef, eh _ _ h5, h6.mono ef⟩
/-- its list changes -/
theorem DeskM.put {F H : Hp} {a : Addr} {net stock : D} {steps ss : List D} {k : Int} {b : Addr} {ys : List V} (h : DeskM F H a net stock steps k b) (r : RpAll F ys ss) : DeskM F (upd H b (.lst ys)) a net stock ss k b := by
  obtain ⟨dx, vn, vs, xs, h1, h2, h3, h4, h5, h6⟩ := h.ex
  have n1 : a ≠ b := fun z => by rw [z, h5] at h1; cases h1
  have n2 : dx ≠ b := fun z => by rw [z, h5] at h2; cases h2
  exact ⟨dx, vn, vs, ys, by rw [upd_ne n1]; exact h1, by rw [upd_ne n2]; exact h2, h3, h4, upd_same, r⟩
theorem DeskA.m {F H : Hp} {a : Addr} {d : D} (h : DeskA F H a d) : ∃ net stock steps k b, d = deskD net stock steps k ∧ DeskM F H a net stock steps k b ∧ Fd H a b := by
  obtain ⟨net, stock, steps, k, dx, b, vn, vs, xs, rfl, h1, h2⟩ := h
  exact ⟨net, stock, steps, k, b, rfl, ⟨dx, vn, vs, xs, h1, h2⟩, .inr ⟨_, _, _, _, _, _, h1, .inr rfl⟩⟩
def PostM (W : WX) (σ : L2.St) (F H : Hp) (b : Addr) (Q : VK) : RM → Prop
  | .ok r ss => ∀ v F' H' xs', RpAll F xs' ss → Step F (upd H b (.lst xs')) F' H' → Rp F' v r → Q v H'
  | .exc n p => XPost HasK.mg W F H σ n p
  | .stuck => False
def spM (n : Nat) (den : D → List D → RM) : Sp := fun vs H Q E => vs.length = n + 1 ∧ ∃ F a ws xs net stock steps k b, vs = .ref a :: ws ∧ Ex F H ∧ DeskM F H a net stock steps k b ∧ F b = none ∧ RpAll F ws xs ∧
  PostM (fun cls d _ H' => E cls d H') [] F H b Q (den (deskD net stock steps k) xs)
abbrev spKM (P : Program) (w : World) (K : PySem.W.Frag) (mg : Str → Option Value) (n : Nat) (den : D → List D → RM) : Sp := @spM ⟨K, mg, P, w⟩ n den
theorem spKM_eq {inst : HasK} {P : Program} {w : World} {K : PySem.W.Frag} {mg : Str → Option Value} {n : Nat} {den : D → List D → RM} (h : K = inst.K) (h2 : mg = inst.mg) (h3 : P = inst.P) (h4 : w = inst.w) : spKM P w K mg n den = @spM inst n den := by
  cases inst
  cases h
  cases h2
  cases h3
  cases h4
  rfl
theorem Sr.putB {F0 H0 F H : Hp} {σ : L2.St} {δ : DEnv} (S : Sr F0 H0 F H σ δ) {i : Nat} {a b : Addr} {net stock : D} {steps ss : List D} {k : Int} {ys : List V} (hi : δ[i]? = some (.dsk (deskD net stock steps k))) (hs : σ[i]? = some (some (.ref a)))
    (hm : DeskM F H a net stock steps k b) (r : RpAll F ys ss) : Sr F0 H0 F (upd H b (.lst ys)) σ (δ.set i (.dsk (deskD net stock ss k))) := by
  obtain ⟨a', e1, g1, g2⟩ := S.dk.dsk i _ hi
  rw [hs] at e1
  cases e1
  have fb : Fd H a b := by
    obtain ⟨dx, vn, vs, xs, h1, _⟩ := hm.ex
    exact .inr ⟨_, _, _, _, _, _, h1, .inr rfl⟩
  obtain ⟨b0, bF⟩ := g2 b fb
  have na : a ≠ b := by
    obtain ⟨dx, vn, vs, xs, h1, _, _, _, h5, _⟩ := hm.ex
    exact fun z => by rw [z, h5] at h1; cases h1
  have ea : upd H b (.lst ys) a = H a := upd_ne na
  have oth : ∀ (j : Nat) e c, j ≠ i → δ[j]? = some (.dsk e) → σ[j]? = some (some (.ref c)) → ¬ Fd H c b := fun j e c ne h1 h2 h3 => ne (S.dk.dap j i c a b e _ h1 hi h2 hs h3 fb)
  have eo : ∀ (j : Nat) e c, j ≠ i → δ[j]? = some (.dsk e) → σ[j]? = some (some (.ref c)) → upd H b (.lst ys) c = H c := fun j e c ne h1 h2 => upd_ne fun z => oth j e c ne h1 h2 (.inl z.symm)
  refine ⟨⟨S.st.ff, S.st.fh.over bF, S.st.hh.over b0, S.st.new⟩, by rw [List.length_set]; exact S.len, fun j e h => ?_, fun j e h => ?_, fun j l c e f h1 h2 h3 h4 => ?_, ⟨fun j e h => ?_, fun j l c c' x e f h1 h2 h3 h4 h5 h6 => ?_, fun j l c c' e f h1 h2 h3 h4 h5 => ?_, fun j e h => ?_, fun j e h => ?_⟩⟩
  · rcases set_get h with ⟨rfl, q, hl⟩ | ⟨ne, h⟩
    · cases q
    · exact S.val j e h
  · rcases set_get h with ⟨rfl, q, hl⟩ | ⟨ne, h⟩
    · cases q
    · obtain ⟨c, q1, q2, q3, q4⟩ := S.own j e h
      exact ⟨c, q1, q2, q3, q4.other fun z => S.dk.dow i j a c _ e hi h hs q1 (by rw [z]; exact fb)⟩
  · rcases set_get h1 with ⟨rfl, q, hl⟩ | ⟨n1, h1⟩
    · cases q
    · rcases set_get h2 with ⟨rfl, q, hl⟩ | ⟨n2, h2⟩
      · cases q
      · exact S.apart j l c e f h1 h2 h3 h4
  · rcases set_get h with ⟨rfl, q, hl⟩ | ⟨ne, h⟩
    · cases q
      exact ⟨a, hs, (hm.put r).a, fun x hx => g2 x (hx.of ea)⟩
    · obtain ⟨c, q1, q2, q3⟩ := S.dk.dsk j e h
      exact ⟨c, q1, q2.other (oth j e c ne h q1), fun x hx => q3 x (hx.of (eo j e c ne h q1))⟩
  · have f1 : ∃ e', δ[j]? = some (.dsk e') ∧ Fd H c x := by
      rcases set_get h1 with ⟨rfl, q, hl⟩ | ⟨n1, h1⟩
      · rw [hs] at h3; cases h3; exact ⟨_, hi, h5.of ea⟩
      · exact ⟨_, h1, h5.of (eo j e c n1 h1 h3)⟩
    have f2 : ∃ e', δ[l]? = some (.dsk e') ∧ Fd H c' x := by
      rcases set_get h2 with ⟨rfl, q, hl⟩ | ⟨n1, h2⟩
      · rw [hs] at h4; cases h4; exact ⟨_, hi, h6.of ea⟩
      · exact ⟨_, h2, h6.of (eo l f c' n1 h2 h4)⟩
    obtain ⟨e1, k1, k2⟩ := f1
    obtain ⟨e2, k3, k4⟩ := f2
    exact S.dk.dap j l c c' x e1 e2 k1 k3 h3 h4 k2 k4
  · have f2 : δ[l]? = some (.own f) := by
      rcases set_get h2 with ⟨rfl, q, hl⟩ | ⟨n1, h2⟩
      · cases q
      · exact h2
    rcases set_get h1 with ⟨rfl, q, hl⟩ | ⟨n1, h1⟩
    · rw [hs] at h3; cases h3
      exact S.dk.dow _ l a c' _ f hi f2 hs h4 (h5.of ea)
    · exact S.dk.dow j l c c' e f h1 f2 h3 h4 (h5.of (eo j e c n1 h1 h3))
  · rcases set_get h with ⟨rfl, q, hl⟩ | ⟨ne, h⟩
    · cases q
    · exact S.dk.bor j e h
  · rcases set_get h with ⟨rfl, q, hl⟩ | ⟨ne, h⟩
    · cases q
    · exact S.dk.bdk j e h
/-! ### calls -/
def xCallM (i n : Nat) (den : D → List D → RM) (dr : DA) : DX := fun δ => match δ[i]? with
  | some (.dsk (.tuple [net, stock, .list steps, .int k])) => ((dr δ).x δ).bind fun xs _ => if xs.length = n then (match den (deskD net stock steps k) xs with
    | .ok r ss => .ok r (δ.set i (.dsk (deskD net stock ss k)))
    | .exc n p => .exc n p δ
    | .stuck => .stuck) else .stuck
  | _ => .stuck
theorem Res.x_bind {α β : Type} (r : Res α) (δ : DEnv) (f : α → DEnv → RX β) : (r.x δ).bind f = match r with
  | .ok a => f a δ
  | .exc n p => .exc n p δ
  | .stuck => .stuck := by cases r <;> rfl
structure CalM (P : Program) (w : World) (K : PySem.W.Frag) (mg : Str → Option Value) (base : Heap) (k : Nat) (x : Str) (n : Nat) (den : D → List D → RM) : Prop where
  ex : ∃ (f : Addr) (fd : FuncData) (ps : List Str), FnOk P w K mg base (L2.CX P w) k f fd ps (spKM P w K mg n den) ∧ mg x = some (.ref f) ∧ PySem.W.keepIn K (.ref f) = true ∧ Binds K fd ps []
structure MtM (P : Program) (w : World) (K : PySem.W.Frag) (mg : Str → Option Value) (base : Heap) (k : Nat) (C : Addr) (m : Str) (n : Nat) (den : D → List D → RM) : Prop where
  ex : ∃ (f : Addr) (fd : FuncData) (ps : List Str), FnOk P w K mg base (L2.CX P w) k f fd ps (spKM P w K mg n den) ∧ Meth K C m f ∧ Binds K fd ps []
section
variable {c : Cc} {e : Expr} {es : List Expr} {pos p ap q : Pos} {tr : TA} {dr : DA} {x f : Str} {i n : Nat} {den : D → List D → RM}
/-- the arguments are there: the call -/
theorem callM_go {F H F1 H1 : Hp} {σ : L2.St} {δ : DEnv} {Q : VK} {a b : Addr} {net stock : D} {steps : List D} {k : Int} {ws : List V} {xs : List D} (S : Sr c.F0 c.H0 F H σ δ) (hi : δ[i]? = some (.dsk (deskD net stock steps k))) (hs : σ[i]? = some (some (.ref a)))
    (hm : DeskM F H a net stock steps k b) (fb : Fd H a b) (s1 : Step F H F1 H1) (S1 : Sr c.F0 c.H0 F1 H1 σ δ) (hx : RpAll F1 ws xs)
    (P : PostX RF c F σ Q (if xs.length = n then (match den (deskD net stock steps k) xs with
    | .ok r ss => .ok r (δ.set i (.dsk (deskD net stock ss k)))
    | .exc n p => .exc n p δ
    | .stuck => .stuck) else .stuck)) : spM n den (.ref a :: ws) H1 Q (WE c.W σ) := by
  by_cases hn : xs.length = n
  · rw [if_pos hn] at P
    have hm1 := hm.mono s1.ff s1.hh
    have bF : F1 b = none := by
      obtain ⟨a', g1, g2, g3⟩ := S1.dk.dsk i _ hi
      rw [hs] at g1; cases g1
      obtain ⟨dx, vn, vs, ys, h1, _⟩ := hm1.ex
      exact (g3 b (.inr ⟨_, _, _, _, _, _, h1, .inr rfl⟩)).2
    refine ⟨by rw [List.length_cons, hx.len, hn], F1, a, ws, xs, net, stock, steps, k, b, rfl, S1.fh, hm1, bF, hx, ?_⟩
    cases q : den (deskD net stock steps k) xs with
    | ok r ss =>
      rw [q] at P
      have P' : ∀ v F' H', Ex F F' → Sr c.F0 c.H0 F' H' σ (δ.set i (.dsk (deskD net stock ss k))) → Rp F' v r → Q v H' := P
      exact fun v F' H' ys hy st hr => P' v F' H' (s1.ff.trans st.ff) ((S1.putB hi hs hm1 hy).step st) hr
    | exc m p =>
      rw [q] at P
      have P' : ∀ F' H', Ex F F' → Sr c.F0 c.H0 F' H' σ δ → XPostS HasK.mg c.W F' H' σ m p := P
      cases p with
      | none => exact fun F' H' st => P' F' H' (s1.ff.trans st.ff) (S1.step st)
      | some y => exact fun F' H' dd v st g1 g2 g3 => P' F' H' (s1.ff.trans st.ff) (S1.step st) dd v g1 g2 g3
    | stuck => rw [q] at P; exact P.elim
  · rw [if_neg hn] at P; exact P.elim
theorem deskI {δ : DEnv} {F H : Hp} {σ : L2.St} (S : Sr c.F0 c.H0 F H σ δ) {α : Type} {Q : VK} {r : RX D} (P : PostX RF c F σ Q r) (he : r = xCallM i n den dr δ) :
    ∃ net stock steps k a b, δ[i]? = some (.dsk (deskD net stock steps k)) ∧ σ[i]? = some (some (.ref a)) ∧ DeskM F H a net stock steps k b ∧ Fd H a b ∧ PostX RF c F σ Q (((dr δ).x δ).bind fun xs _ => if xs.length = n then (match den (deskD net stock steps k) xs with
    | .ok r ss => .ok r (δ.set i (.dsk (deskD net stock ss k)))
    | .exc n p => .exc n p δ
    | .stuck => .stuck) else .stuck) := by
  subst he
  unfold xCallM at P
  cases q : δ[i]? with
  | none => rw [q] at P; exact P.elim
  | some s =>
    rw [q] at P
    cases s with
    | dsk d =>
      obtain ⟨a, g1, g2, g3⟩ := S.dk.dsk i d q
      obtain ⟨net, stock, steps, k, b, rfl, hm, hf⟩ := g2.m
      exact ⟨net, stock, steps, k, a, b, rfl, g1, hm, hf, P⟩
    | no => exact P.elim
    | val d => exact P.elim
    | own d => exact P.elim
    | bor d => exact P.elim
    | bdk d => exact P.elim
theorem goA {F H : Hp} {σ : L2.St} {δ : DEnv} {Q : VK} {K : List V → Hp → Prop} {r : List D → DEnv → RX D} (h : Sim RA c tr dr) (S : Sr c.F0 c.H0 F H σ δ) (P : PostX RF c F σ Q (((dr δ).x δ).bind r))
    (k : ∀ F' H' x a, Step F H F' H' → Sr c.F0 c.H0 F' H' σ δ → RpAll F' x a → PostX RF c F σ Q (r a δ) → K x H') : tr σ H K := by
  refine h F H σ δ K S ?_
  cases q : dr δ with
  | stuck => rw [q] at P; exact P
  | exc n p =>
    rw [q] at P
    have P' : ∀ F' H', Ex F F' → Sr c.F0 c.H0 F' H' σ δ → XPostS HasK.mg c.W F' H' σ n p := P
    cases p with
    | none => exact fun F' H' s => P' F' H' s.ff (S.step s)
    | some y => exact fun F' H' dd v s h1 h2 h3 => P' F' H' s.ff (S.step s) dd v h1 h2 h3
  | ok a =>
    rw [q] at P
    exact fun v F' H' s rr => k F' H' v a s (S.step s) rr P
theorem jx_callM {k j : Nat} (W : WX) (hW : c.W = W) (i : Nat) (G : CalM c.X.prog c.X.w c.X.K c.X.mg c.X.base k f n den) (hr : Room j c.X.A) (hk : k ≤ j) (tk : Takes c.X c.W) (hg : Gl c.X f) (ha : JA c es tr dr)
    (hN : c.X.N[i]? = some x := by rfl) (hv : Vis c.X.env.scope x := by first | exact Or.inl rfl | exact Or.inr (Or.inl rfl) | exact Or.inr (Or.inr rfl)) (hd : (x == ("__debug__" : Str)) = false := by decide)
    (hcd : (x == ("__classdict__" : Str)) = false := by decide)
    (hdb : (f == ("__debug__" : Str)) = false := by decide) (he : starEach (.Name x q :: es) c.X.env = (false, eval (.Name x q) c.X.env) :: starEach es c.X.env := by rfl) (hpl : (backTo pos (starEach es c.X.env)).any (·.1) = false := by rfl) :
    JX c (.Call (.Name f p) (.Name x q :: es) [] pos) (tCallS (spM n den) (WE W) (tCons (tVar i) tr)) (xCallM i n den dr) := by
  subst hW
  obtain ⟨f, fd, ps, h1, h2, h3, h4⟩ := G.ex
  rw [spKM_eq c.hK c.hM c.hP c.hw] at h1
  refine ⟨pe_callS h1 (hr.mono hk) hg h2 h3 h4 (fun σ => passAt tk σ) (pa_cons (pe_var hN hv hd hcd) ha.p he) hdb he hpl, fun F H σ δ Q S P => ?_⟩
  obtain ⟨net, stock, steps, k, a, b, hi, hs, hm, fb, P⟩ := deskI (α := Unit) S P rfl
  exact ⟨.ref a, hs, goA ha.s S P fun F1 H1 ws xs s1 S1 hx P1 => callM_go S hi hs hm fb s1 S1 hx P1⟩
theorem jx_methM {k j : Nat} (W : WX) (hW : c.W = W) (i : Nat) {m : Str} (hD : DkK) (G : MtM c.X.prog c.X.w c.X.K c.X.mg c.X.base k dskC m n den) (hr : Room j c.X.A) (hk : k ≤ j) (tk : Takes c.X c.W) (ha : JA c (e :: es) tr dr) (pl : Sem Bool) (hf : noFld m := by exact fun _ _ _ _ => rfl)
    (hN : c.X.N[i]? = some x := by rfl) (hv : Vis c.X.env.scope x := by first | exact Or.inl rfl | exact Or.inr (Or.inl rfl) | exact Or.inr (Or.inr rfl)) (hd : (x == ("__debug__" : Str)) = false := by decide)
    (hcd : (x == ("__classdict__" : Str)) = false := by decide)
    (hst : starEach (e :: es) c.X.env = (false, eval e c.X.env) :: starEach es c.X.env := by rfl) (hpl : (backTo pos (starEach es c.X.env)).any (·.1) = false := by rfl)
    (ht : eval (.Call (.Attribute (.Name x p) m ap) (e :: es) [] pos) c.X.env = (do
      let ov ← eval (.Name x p) c.X.env
      standAt ap.atName
      let (f, first) ← holding [ov] (getMethod ov m pl)
      callWith pos f first (backTo pos (starEach (e :: es) c.X.env)) (backToKw pos (keywordEach [] c.X.env))) := by rfl) :
    JX c (.Call (.Attribute (.Name x p) m ap) (e :: es) [] pos) (tMethS dskC m (spM n den) (WE W) (tVar i) tr) (xCallM i n den dr) := by
  subst hW
  obtain ⟨f, fd, ps, h1, h2, h3⟩ := G.ex
  rw [spKM_eq c.hK c.hM c.hP c.hw] at h1
  have hc := hD.cls
  rw [← c.hK] at hc
  refine ⟨pe_methS1 (pe_var hN hv hd hcd) hc h2 h1 (hr.mono hk) h3 (fun σ => passAt tk σ) ha.p hst hpl ht, fun F H σ δ Q S P => ?_⟩
  obtain ⟨net, stock, steps, k, a, b, hi, hs, hm, fb, P⟩ := deskI (α := Unit) S P rfl
  obtain ⟨dx, vn, vs, ys, g1, _⟩ := id hm.ex
  exact ⟨.ref a, hs, a, dx, _, rfl, g1, hf _ _ _ _, goA ha.s S P fun F1 H1 ws xs s1 S1 hx P1 => callM_go S hi hs hm fb s1 S1 hx P1⟩
theorem jx_methM0 {k j : Nat} (W : WX) (hW : c.W = W) (i : Nat) {m : Str} (hD : DkK) (G : MtM c.X.prog c.X.w c.X.K c.X.mg c.X.base k dskC m n den) (hr : Room j c.X.A) (hk : k ≤ j) (tk : Takes c.X c.W) (pl : Sem Bool) (hf : noFld m := by exact fun _ _ _ _ => rfl)
    (hN : c.X.N[i]? = some x := by rfl) (hv : Vis c.X.env.scope x := by first | exact Or.inl rfl | exact Or.inr (Or.inl rfl) | exact Or.inr (Or.inr rfl)) (hd : (x == ("__debug__" : Str)) = false := by decide)
    (hcd : (x == ("__classdict__" : Str)) = false := by decide)
    (ht : eval (.Call (.Attribute (.Name x p) m ap) [] [] pos) c.X.env = (do
      let ov ← eval (.Name x p) c.X.env
      standAt ap.atName
      let (f, first) ← holding [ov] (getMethod ov m pl)
      callWith pos f first (backTo pos (starEach [] c.X.env)) (backToKw pos (keywordEach [] c.X.env))) := by rfl) :
    JX c (.Call (.Attribute (.Name x p) m ap) [] [] pos) (tMethS dskC m (spM n den) (WE W) (tVar i) tNil) (xCallM i n den dNil) := by
  subst hW
  obtain ⟨f, fd, ps, h1, h2, h3⟩ := G.ex
  rw [spKM_eq c.hK c.hM c.hP c.hw] at h1
  have hc := hD.cls
  rw [← c.hK] at hc
  refine ⟨pe_methS0 (pe_var hN hv hd hcd) hc h2 h1 (hr.mono hk) h3 (fun σ => passAt tk σ) ht, fun F H σ δ Q S P => ?_⟩
  obtain ⟨net, stock, steps, k, a, b, hi, hs, hm, fb, P⟩ := deskI (α := Unit) S P rfl
  obtain ⟨dx, vn, vs, ys, g1, _⟩ := id hm.ex
  exact ⟨.ref a, hs, a, dx, _, rfl, g1, hf _ _ _ _, goA ja_nil.s S P fun F1 H1 ws xs s1 S1 hx P1 => callM_go S hi hs hm fb s1 S1 hx P1⟩
end
end RD

end
section
namespace RD
open PySem PySem.Spec L2 PyProof.Rows
variable [HasK]
/-! ### a new desk -/
theorem Fd.inv {H : Hp} {a x C dx b : Addr} {vn vs : V} {k : Int} (h : H a = some (.ins C dx (dF vn vs b k))) (hx : Fd H a x) : x = a ∨ x = dx ∨ x = b := by
  rcases hx with rfl | ⟨C', dx', vn', vs', b', k', g1, g2⟩
  · exact .inl rfl
  · rw [h] at g1
    have g3 : (HO.ins C dx (dF vn vs b k)) = .ins C' dx' (dF vn' vs' b' k') := Option.some.inj g1
    unfold dF at g3
    injection g3 with _ e2 e3
    injection e3 with _ e3
    injection e3 with _ e3
    injection e3 with e4 e3
    injection e4 with _ e4
    injection e4 with e4
    rcases g2 with rfl | rfl
    · exact .inr (.inl e2.symm)
    · exact .inr (.inr e4.symm)
/-- a new desk, apart from all there was -/
structure NewD (F H F' H' : Hp) (a : Addr) (d : D) : Prop where
  st : Step F H F' H'
  dk : DeskA F' H' a d
  nw : ∀ y, Fd H' a y → H y = none ∧ F' y = none
theorem NewD.after {F H F1 H1 F' H' : Hp} {a : Addr} {d : D} (s : Step F H F1 H1) (h : NewD F1 H1 F' H' a d) : NewD F H F' H' a d :=
  ⟨s.trans h.st, h.dk, fun y hy => ⟨s.hh.back (h.nw y hy).1, (h.nw y hy).2⟩⟩
theorem Sr.newDsk {F0 H0 F H F' H' : Hp} {σ : L2.St} {δ : DEnv} (S : Sr F0 H0 F H σ δ) {a : Addr} {d : D} (n : NewD F H F' H' a d) (i : Nat) : Sr F0 H0 F' H' (σ.set i (some (.ref a))) (δ.set i (.dsk d)) := by
  have S1 := S.step n.st
  have ap : ∀ (j : Nat) e c x, δ[j]? = some (.dsk e) → σ[j]? = some (some (.ref c)) → Fd H' c x → ¬ Fd H' a x := fun j e c x h1 h2 h3 h4 => by
    obtain ⟨c', g1, g2, _⟩ := S.dk.dsk j e h1
    rw [h2] at g1; cases g1
    obtain ⟨o, ho⟩ := g2.at
    exact g2.there (h3.of (by rw [ho]; exact n.st.hh _ _ ho)) (n.nw x h4).1
  have ao : ∀ (j : Nat) e c, δ[j]? = some (.own e) → σ[j]? = some (some (.ref c)) → ¬ Fd H' a c := fun j e c h1 h2 h3 => by
    obtain ⟨c', g1, _, _, g4⟩ := S.own j e h1
    rw [h2] at g1; cases g1
    exact g4.there (n.nw c h3).1
  refine ⟨S1.st, by rw [List.length_set, List.length_set]; exact S1.len, fun j e h => ?_, fun j e h => ?_, fun j l c e f h1 h2 h3 h4 => ?_, ⟨fun j e h => ?_, fun j l c c' x e f h1 h2 h3 h4 h5 h6 => ?_, fun j l c c' e f h1 h2 h3 h4 h5 => ?_, fun j e h => ?_, fun j e h => ?_⟩⟩
  · rcases set_get h with ⟨rfl, q, hl⟩ | ⟨ne, h⟩
    · cases q
    · rw [set_off ne]; exact S1.val j e h
  · rcases set_get h with ⟨rfl, q, hl⟩ | ⟨ne, h⟩
    · cases q
    · rw [set_off ne]; exact S1.own j e h
  · rcases set_get h1 with ⟨rfl, q, hl⟩ | ⟨n1, h1⟩
    · cases q
    · rcases set_get h2 with ⟨rfl, q, hl⟩ | ⟨n2, h2⟩
      · cases q
      · rw [set_off n1] at h3; rw [set_off n2] at h4
        exact S1.apart j l c e f h1 h2 h3 h4
  · rcases set_get h with ⟨rfl, q, hl⟩ | ⟨ne, h⟩
    · cases q
      exact ⟨a, set_at (by rw [S.len]; exact hl), n.dk, fun x hx => ⟨S.st.hh.back (n.nw x hx).1, (n.nw x hx).2⟩⟩
    · rw [set_off ne]; exact S1.dk.dsk j e h
  · rcases set_get h1 with ⟨rfl, q, hl⟩ | ⟨n1, h1⟩
    · rw [set_at (by rw [S.len]; exact hl)] at h3
      cases h3
      rcases set_get h2 with ⟨rfl, q2, hl2⟩ | ⟨n2, h2⟩
      · rfl
      · rw [set_off n2] at h4
        exact absurd h5 (ap l f c' x h2 h4 h6)
    · rw [set_off n1] at h3
      rcases set_get h2 with ⟨rfl, q2, hl2⟩ | ⟨n2, h2⟩
      · rw [set_at (by rw [S.len]; exact hl2)] at h4
        cases h4
        exact absurd h6 (ap j e c x (by first | exact h1 | (rw [set_off n1] at h1; exact h1)) h3 h5)
      · rw [set_off n2] at h4
        exact S1.dk.dap j l c c' x e f h1 h2 h3 h4 h5 h6
  · rcases set_get h2 with ⟨rfl, q2, hl2⟩ | ⟨n2, k2⟩
    · cases q2
    · rw [set_off n2] at h4
      rcases set_get h1 with ⟨rfl, q, hl⟩ | ⟨n1, k1⟩
      · rw [set_at (by rw [S.len]; exact hl)] at h3
        cases h3
        exact ao l f c' k2 h4 h5
      · rw [set_off n1] at h3
        exact S1.dk.dow j l c c' e f k1 k2 h3 h4 h5
  · rcases set_get h with ⟨rfl, q, hl⟩ | ⟨ne, h⟩
    · cases q
    · rw [set_off ne]; exact S1.dk.bor j e h
  · rcases set_get h with ⟨rfl, q, hl⟩ | ⟨ne, h⟩
    · cases q
    · rw [set_off ne]; exact S1.dk.bdk j e h
/-! ### expressions that come to a new desk -/
def PostC (W : WX) (σ : L2.St) (F H : Hp) (Q : VK) : Res D → Prop
  | .ok d => ∀ a F' H', NewD F H F' H' a d → Q (.ref a) H'
  | .exc n p => XPost HasK.mg W F H σ n p
  | .stuck => False
def SimC (c : Cc) (t : TE) (d : DE) : Prop := ∀ F H σ δ Q, Sr c.F0 c.H0 F H σ δ → PostC c.W σ F H Q (d δ) → t σ H Q
structure JC (c : Cc) (e : Expr) (t : TE) (d : DE) : Prop where
  p : PE c.X e t
  s : SimC c t d
section
variable {c : Cc} {e e2 : Expr} {es : List Expr} {pos p ap q : Pos} {tr : TA} {dr : DA} {ta tb : TE} {da db : DE}
def dSetC (i : Nat) (da : DE) : DS := fun δ => (da δ).out δ fun x => .next (δ.set i (.dsk x))
theorem js_setC {i : Nat} {x : Str} {pos' : Pos} (hN : c.X.N.Nodup) (he : JC c e ta da) (hi : c.X.N[i]? = some x := by rfl) (hx : Loc c.X.env.scope x := by first | exact Or.inl rfl | exact Or.inr rfl)
    (hs : swapsWith e (some (.Name x pos')) pos.line c.X.env = pure false := by rfl) (hf : c.X.fn x = true ∨ c.X.env.scope.names.lookup x = some .local := by first | exact .inl rfl | exact .inr rfl) :
    JS c (.Assign [.Name x pos'] e pos) (tAsg ta (gName i)) (dSetC i da) := ⟨ps_set hN hi hx he.p hs hf, fun F H σ δ D S P => by
  refine he.s F H σ δ _ S ?_
  unfold dSetC at P
  cases q : da δ with
  | stuck => rw [q] at P; exact P
  | exc n p => rw [q] at P; exact XPost.ofS S P
  | ok x =>
    rw [q] at P
    exact fun a F' H' n => P _ F' H' n.st.ff (S.newDsk n i)⟩
/-- x, y = (E1, E2) -/
def dSetC2 (i j : Nat) (da db : DE) : DS := fun δ => (da δ).out δ fun x => (db δ).out δ fun y => .next ((δ.set i (.dsk x)).set j (.dsk y))
theorem js_setC2 {i j : Nat} {x y : Str} {p1 p2 pt qt : Pos} {kt kq : Nat} (hN : c.X.N.Nodup) (ha : JC c e ta da) (hb : JC c e2 tb db) (hi : c.X.N[i]? = some x := by rfl) (hj : c.X.N[j]? = some y := by rfl) (hx : Loc c.X.env.scope x := by first | exact Or.inl rfl | exact Or.inr rfl) (hy : Loc c.X.env.scope y := by first | exact Or.inl rfl | exact Or.inr rfl)
    (hfx : c.X.fn x = true ∨ c.X.env.scope.names.lookup x = some .local := by first | exact .inl rfl | exact .inr rfl) (hfy : c.X.fn y = true ∨ c.X.env.scope.names.lookup y = some .local := by first | exact .inl rfl | exact .inr rfl)
    (h1 : starEach [e, e2] c.X.env = (false, eval e c.X.env) :: starEach [e2] c.X.env := by rfl) (h2 : starEach [e2] c.X.env = (false, eval e2 c.X.env) :: starEach [] c.X.env := by rfl)
    (hp : ∀ {gs : TGs}, PGs c.X [.Name x p1, .Name y p2] gs → PG c.X (.Tuple [.Name x p1, .Name y p2] kt pt) (gTup c.X.K 2 gs) := by exact fun a => pg_tup rfl a)
    (hq : ∀ {g1 g2 : TG}, PG c.X (.Name x p1) g1 → PG c.X (.Name y p2) g2 → PGs c.X [.Name x p1, .Name y p2] (gCons g1 (gCons g2 gNil)) := by exact fun a b => pgs_cons a (pgs_cons b pgs_nil))
    (hs : swapsWithSole [.Tuple [.Name x p1, .Name y p2] kt pt] (.Tuple [e, e2] kq qt) pos.line c.X.env = pure false := by rfl) (hw : swappedStores [.Tuple [.Name x p1, .Name y p2] kt pt] (.Tuple [e, e2] kq qt) c.X.env = pure none := by rfl) :
    JS c (.Assign [.Tuple [.Name x p1, .Name y p2] kt pt] (.Tuple [e, e2] kq qt) pos) (tAsg (tTupG (tCons ta (tCons tb tNil))) (gTup HasK.K 2 (gCons (gName i) (gCons (gName j) gNil)))) (dSetC2 i j da db) := by
  refine ⟨?_, fun F H σ δ D S P => ?_⟩
  · rw [← c.hK]
    exact ps_asg (pe_tupG (pa_cons ha.p (pa_cons hb.p pa_nil h2) h1)) (hp (hq (pg_name hN hi hx hfx) (pg_name hN hj hy hfy))) hs hw
  · refine ha.s F H σ δ _ S ?_
    unfold dSetC2 at P
    cases q1 : da δ with
    | stuck => rw [q1] at P; exact P
    | exc n p => rw [q1] at P; exact XPost.ofS S P
    | ok d1 =>
      rw [q1] at P
      have P1 : PostS c F D ((db δ).out δ fun y => .next ((δ.set i (.dsk d1)).set j (.dsk y))) := P
      intro a1 F1 H1 n1
      refine hb.s F1 H1 σ δ _ (S.step n1.st) ?_
      cases q2 : db δ with
      | stuck => rw [q2] at P1; exact P1
      | exc n p => rw [q2] at P1; exact XPost.ofS (S.step n1.st) (PostS.up n1.st.ff P1)
      | ok d2 =>
        rw [q2] at P1
        intro a2 F2 H2 n2
        refine ⟨show (2 : Nat) ≤ sizeLine from by rw [sizeLine_eq]; decide, fun p o ho hp => ?_⟩
        have S2 := (S.newDsk n1 i).newDsk n2 j
        have st : Step F2 H2 F2 (upd H2 p (.frz o (.tup [.ref a1, .ref a2]))) := Step.side S2.fh _ hp
        have S3 := S2.step st
        exact ⟨p, [.ref a1, .ref a2], rfl, .inl (.inr ⟨o, upd_same⟩), rfl, _, _, rfl, _, _, rfl, rfl, P1 _ F2 _ (n1.st.ff.trans n2.st.ff) S3⟩
end
/-! ### Desk(net, stock) -/
def spC (den : List D → Res D) : Sp := fun vs H Q E => vs.length = 3 ∧ ∃ F H1 x dx v1 v2 d1 d2, vs = [.ref x, v1, v2] ∧ H = upd (upd H1 dx (.own x)) x (.ins dskC dx []) ∧ H1 x = none ∧ H1 dx = none ∧ dx ≠ x ∧ Ex F H1 ∧ Rp F v1 d1 ∧ Rp F v2 d2 ∧
  (match den [d1, d2] with
  | .ok _ => ∀ F' H', NewD F H1 F' H' x (deskD d1 d2 [] 0) → Q .non H'
  | .exc n p => XPost HasK.mg (fun cls d _ H' => E cls d H') F H1 [] n p
  | .stuck => False)
abbrev spKC (P : Program) (w : World) (K : PySem.W.Frag) (mg : Str → Option Value) (den : List D → Res D) : Sp := @spC ⟨K, mg, P, w⟩ den
theorem spKC_eq {inst : HasK} {P : Program} {w : World} {K : PySem.W.Frag} {mg : Str → Option Value} {den : List D → Res D} (h : K = inst.K) (h2 : mg = inst.mg) (h3 : P = inst.P) (h4 : w = inst.w) : spKC P w K mg den = @spC inst den := by
  cases inst
  cases h
  cases h2
  cases h3
  cases h4
  rfl
structure CalC (P : Program) (w : World) (K : PySem.W.Frag) (mg : Str → Option Value) (base : Heap) (k : Nat) (den : List D → Res D) : Prop where
  ex : ∃ (C f : Addr) (fd : FuncData) (ps : List Str), FnOk P w K mg base (L2.CX P w) k f fd ps (spKC P w K mg den) ∧ mg "Desk" = some (.ref C) ∧ Mk K C f ∧ Binds K fd ps []
def dMakeC (den : List D → Res D) (dr : DA) : DE := fun δ => (dr δ).bind fun xs => match xs with
  | [d1, d2] => (match den [d1, d2] with
    | .ok _ => .ok (deskD d1 d2 [] 0)
    | .exc n p => .exc n p
    | .stuck => .stuck)
  | _ => .stuck
theorem Sim.goc {α β : Type} {Rel : Hp → Hp → β → α → Prop} {c : Cc} {t : TG_ β} {d : DEnv → Res α} (h : Sim Rel c t d) {F H : Hp} {σ : L2.St} {δ : DEnv} {Q : VK} {K : β → Hp → Prop} {r : α → Res D}
    (S : Sr c.F0 c.H0 F H σ δ) (P : PostC c.W σ F H Q ((d δ).bind r))
    (k : ∀ F' H' x a, Step F H F' H' → Sr c.F0 c.H0 F' H' σ δ → Rel F' H' x a → PostC c.W σ F' H' Q (r a) → K x H') : t σ H K := by
  refine h F H σ δ K S ?_
  cases q : d δ with
  | stuck => rw [q] at P; exact P
  | exc n p => rw [q] at P; exact P
  | ok a =>
    rw [q] at P
    have P' : PostC c.W σ F H Q (r a) := P
    refine fun v F' H' s rr => k F' H' v a s (S.step s) rr ?_
    cases q2 : r a with
    | stuck => rw [q2] at P'; exact P'
    | exc n p => rw [q2] at P'; exact XPost.step s P'
    | ok x =>
      rw [q2] at P'
      exact fun a F2 H2 n => P' a F2 H2 (n.after s)
section
variable {c : Cc} {e : Expr} {es : List Expr} {pos p : Pos} {tr : TA} {dr : DA} {den : List D → Res D}
theorem jc_make {k j : Nat} (W : WX) (hW : c.W = W) (hD : DkK) (G : CalC c.X.prog c.X.w c.X.K c.X.mg c.X.base k den) (hr : Room j c.X.A) (hk : k + 1 ≤ j) (tk : Takes c.X c.W) (hg : Gl c.X "Desk") (ha : JA c (e :: es) tr dr)
    (he : starEach (e :: es) c.X.env = (false, eval e c.X.env) :: starEach es c.X.env := by rfl) (hpl : (backTo pos (starEach es c.X.env)).any (·.1) = false := by rfl) :
    JC c (.Call (.Name "Desk" p) (e :: es) [] pos) (tMakeS dskC (spC den) (WE W) tr) (dMakeC den dr) := by
  subst hW
  obtain ⟨C, f, fd, ps, h1, h2, h3, h4⟩ := G.ex
  rw [spKC_eq c.hK c.hM c.hP c.hw] at h1
  have eC : dskC = C := by
    have := hD.mg
    rw [← c.hM, h2] at this
    cases this
    rfl
  rw [eC]
  refine ⟨pe_makeS h3 h1 (hr.mono hk) hg h2 h4 (fun σ => passAt tk σ) ha.p (by decide) he hpl, fun F H σ δ Q S P => ha.s.goc S P fun F1 H1 xs ds s1 S1 hx P1 x dx hx0 hd0 hne => ?_⟩
  cases hx with
  | nil => exact P1.elim
  | cons r1 hx =>
    cases hx with
    | nil => exact P1.elim
    | cons r2 hx =>
      cases hx with
      | cons r3 hx => exact P1.elim
      | nil =>
        rename_i v1 d1 v2 d2
        refine ⟨rfl, F1, H1, x, dx, v1, v2, d1, d2, rfl, by rw [eC], hx0, hd0, hne, S1.fh, r1, r2, ?_⟩
        have P2 : PostC c.W σ F1 H1 Q (match den [d1, d2] with
          | .ok _ => .ok (deskD d1 d2 [] 0)
          | .exc n p => .exc n p
          | .stuck => .stuck) := P1
        cases q : den [d1, d2] with
        | ok d =>
          rw [q] at P2
          exact fun F' H' n => ⟨rfl, P2 x F' H' n⟩
        | exc n p =>
          rw [q] at P2
          have P3 : XPost HasK.mg c.W F1 H1 σ n p := P2
          cases p with
          | none => exact P3
          | some y => exact P3
        | stuck => rw [q] at P2; exact P2.elim
end
/-! ### __init__ -/
def tInitB (K : PySem.W.Frag) (tc : TE) : TS := tSeq (tDrop tc) (tSeq (sFld K (tVar 0) (tVar 1) "net") (tSeq (sFld K (tVar 0) (tVar 2) "stock") (tSeq (sFld K (tVar 0) (tLst tNil) "steps") (sFld K (tVar 0) (tC (.int 0)) "kept"))))
def runC (dc : DE) : List D → Res D := fun xs => dc (.no :: (xs.map .val ++ List.replicate 0 .no))
section
variable {P : Program} {w : World} {K : PySem.W.Frag} {mg : Str → Option Value} {base : Heap}
theorem fn_denC {x qual : Str} {st : Stmt} {f : Addr} {fd : FuncData} {N ps : List Str} {k : Nat} {dc : DE} (F : Fun K x qual st f fd) (S : FnScope N ps (defScope st)) (hn : ps.length = 3) (hm : N.length = 3) (hD : @DkK ⟨K, mg, P, w⟩)
    (hbody : ∀ (cdv : Value) (A : Around) (outer : List Env) (s : Shared) (H : Hp) (E : XK) (F0 : Hp), Room k (A.deeper (PyProof.Rows.envOfC qual (defScope st) s.heap.objs.size f cdv)) →
      ∃ t, @Sim ⟨K, mg, P, w⟩ _ _ (@RF ⟨K, mg, P, w⟩) (@Cc.mk ⟨K, mg, P, w⟩ (cxOf (L2.CX P w) P w K mg base N qual (defScope st) f cdv A outer s H E) F0 H (fun cls d _ H' => E cls d H') rfl rfl rfl rfl) t dc ∧ PSs (cxOf (L2.CX P w) P w K mg base N qual (defScope st) f cdv A outer s H E) (defBody st) (tInitB K t)) : FnOk P w K mg base (L2.CX P w) (k + 1) f fd ps (spKC P w K mg (runC dc)) := by
  letI hk : HasK := ⟨K, mg, P, w⟩
  refine F.okX S (fun vs H Q E h => by rw [hn]; exact h.1) fun cdv A outer s H vs Q E hr h => ?_
  obtain ⟨hl, F0, H1, x, dx, v1, v2, d1, d2, rfl, rfl, hx, hdx, hne, ex, r1, r2, post⟩ := h
  obtain ⟨t, J, JP⟩ := hbody cdv A outer s _ E F0 hr
  refine ⟨_, JP, ?_⟩
  have e0 : L2.start N [.ref x, v1, v2] = [some (.ref x), some v1, some v2] := by
    unfold L2.start
    rw [hm]
    rfl
  rw [e0]
  have hx1 : (upd H1 dx (.own x)) x = none := by rw [upd_ne hne.symm]; exact hx
  have t1 := Step.side ex (.own x) hdx
  have t2 := Step.side t1.fh (.ins dskC dx []) hx1
  have t3 := t1.trans t2
  have S0 := (sr_start (N := N.tail) (vs := [v1, v2]) t2.fh (.cons r1 (.cons r2 .nil))).shift (some (.ref x))
  have e1 : some (V.ref x) :: L2.start N.tail [v1, v2] = [some (.ref x), some v1, some v2] := by
    unfold L2.start
    rw [List.length_tail, hm]
    rfl
  have e2 : N.tail.length - [v1, v2].length = 0 := by rw [List.length_tail, hm]; rfl
  rw [e1, e2] at S0
  refine J F0 _ _ _ _ S0 ?_
  have post' : (match dc (.no :: ([d1, d2].map .val ++ List.replicate 0 .no)) with
    | .ok _ => ∀ F' H', NewD F0 H1 F' H' x (deskD d1 d2 [] 0) → Q .non H'
    | .exc n p => XPost HasK.mg (fun cls d _ H' => E cls d H') F0 H1 [] n p
    | .stuck => False) := post
  cases q : dc (.no :: ([d1, d2].map .val ++ List.replicate 0 .no)) with
  | stuck => rw [q] at post'; exact post'.elim
  | exc n p =>
    rw [q] at post'
    have p2 := XPost.step t3 post'
    cases p with
    | none => exact p2
    | some y => exact p2
  | ok d =>
    rw [q] at post'
    intro v F1 H2 s2 _
    have hc := hD.cls
    have hX : H2 x = some (.ins dskC dx []) := s2.hh _ _ upd_same
    have hDX : H2 dx = some (.own x) := s2.hh _ _ (by rw [upd_ne hne, upd_same])
    have fx : F1 x = none := by
      cases z : F1 x with
      | none => rfl
      | some o =>
        have := s2.new x (ex.back hx) (by rw [z]; exact fun y => nomatch y)
        rw [upd_same] at this
        cases this
    have fdx : F1 dx = none := by
      cases z : F1 dx with
      | none => rfl
      | some o =>
        have := s2.new dx (ex.back hdx) (by rw [z]; exact fun y => nomatch y)
        rw [upd_ne hne, upd_same] at this
        cases this
    refine ⟨v1, rfl, .ref x, rfl, x, dskC, dx, [], rfl, hX, hc, hD.net, by decide, ?_⟩
    refine ⟨v2, rfl, .ref x, rfl, x, dskC, dx, _, rfl, upd_same, hc, hD.stock, show (1 : Nat) < 1000 by decide, ?_⟩
    refine ⟨by rw [sizeLine_eq]; decide, fun b hb => ?_⟩
    have nbx : b ≠ x := fun z => by rw [z, upd_same] at hb; cases hb
    have hb2 : H2 b = none := by rw [upd_ne nbx, upd_ne nbx] at hb; exact hb
    have nbd : dx ≠ b := fun z => by rw [← z, hDX] at hb2; cases hb2
    refine ⟨.ref x, rfl, x, dskC, dx, putF "stock" v2 (putF "net" v1 []), rfl, by rw [upd_ne nbx.symm, upd_same], hc, hD.steps, show (2 : Nat) < 1000 by decide, ?_⟩
    refine ⟨.ref x, rfl, x, dskC, dx, _, rfl, upd_same, hc, hD.kept, show (3 : Nat) < 1000 by decide, ?_⟩
    have fb : F1 b = none := s2.fh.back hb2
    have h1b : H1 b = none := t3.hh.back (s2.hh.back hb2)
    have g := post'
    refine g F1 _ ⟨⟨s2.ff, ((((s2.fh.over fx).over fx).over fb).over fx).over fx, ((((t3.hh.trans s2.hh).over hx).over hx).over h1b |>.over hx).over hx, fun a ha hn => t3.hh.back (s2.new a ha hn)⟩, ⟨d1, d2, [], 0, dx, b, v1, v2, [], rfl, upd_same, ?_, r1.mono s2.ff, r2.mono s2.ff, ?_, .nil⟩, fun y hy => ?_⟩
    · rw [upd_ne hne, upd_ne hne, upd_ne nbd, upd_ne hne, upd_ne hne]; exact hDX
    · rw [upd_ne nbx, upd_ne nbx, upd_same]
    · rcases Fd.inv (H := upd (upd (upd (upd (upd H2 x (.ins dskC dx (putF "net" v1 []))) x (.ins dskC dx (putF "stock" v2 (putF "net" v1 [])))) b (.lst [])) x (.ins dskC dx (putF "steps" (.ref b) (putF "stock" v2 (putF "net" v1 []))))) x (.ins dskC dx (putF "kept" (.int 0) (putF "steps" (.ref b) (putF "stock" v2 (putF "net" v1 [])))))) (vn := v1) (vs := v2) (k := 0) (b := b) upd_same hy with rfl | rfl | rfl
      · exact ⟨hx, fx⟩
      · exact ⟨hdx, fdx⟩
      · exact ⟨h1b, fb⟩
end
end RD

end
section
namespace RD
open PySem PySem.Spec L2 PyProof.Rows
/-- a context with any heaps -/
abbrev ccAt (P : Program) (w : World) (K : PySem.W.Frag) (mg : Str → Option Value) (X : Cx) (W : WX) (h1 : X.K = K) (h2 : X.mg = mg) (h3 : X.prog = P) (h4 : X.w = w) (F0 H0 : Hp) : @Cc ⟨K, mg, P, w⟩ := @Cc.mk ⟨K, mg, P, w⟩ X F0 H0 W h1 h2 h3 h4
variable [HasK]
/-! ### def run(self, step) -/
def tRunB (K : PySem.W.Frag) (tck tam : TE) (tt : TT) (tra : TS) (taf : TE) : TS := tSeq (tDrop tck) (tSeq (tAsg tam (gName 2)) (tSeq (tIfS tt tra tNext) (tSeq (tDrop (tBM K "list" rAppend (tFld K (tVar 0) "steps") (tCons (tVar 1) tNil))) (tRet taf))))
def Res.rm {α : Type} (r : Res α) (f : α → RM) : RM := match r with
  | .ok a => f a
  | .exc n p => .exc n p
  | .stuck => .stuck
def Out.rm (o : Out) : RM := match o with
  | .exc n p _ => .exc n p
  | _ => .stuck
def dRunM (dck dam : DE) (dt : DT) (dra : DS) (daf : DE) : D → List D → RM := fun d xs => match xs with
  | [s] => (dck [.bdk d, .val s, .no]).rm fun _ => (dam [.bdk d, .val s, .no]).rm fun am => (dt [.bdk d, .val s, .val am]).rm fun k => if k then (dra [.bdk d, .val s, .val am]).rm else (match d with
    | .tuple [net, stock, .list steps, .int k] => if Sz steps.length then (match daf [.bdk (deskD net stock (steps ++ [s]) k), .val s, .val am] with
      | .ok r => .ok r (steps ++ [s])
      | _ => .stuck) else .stuck
    | _ => .stuck)
  | _ => .stuck
theorem PostM.step {W : WX} {σ : L2.St} {F H F1 H1 : Hp} {b : Addr} {Q : VK} {r : RM} (s : Step F H F1 H1) (hb : H b ≠ none) (h : PostM W σ F H b Q r) (hk : ∀ x ss, r = .ok x ss → False) : PostM W σ F1 H1 b Q r := by
  cases r with
  | ok x ss => exact (hk x ss rfl).elim
  | exc n p => exact XPost.step s h
  | stuck => exact h
/-- an expression, then the rest -/
theorem Sim.gom {α β : Type} {Rel : Hp → Hp → β → α → Prop} {c : Cc} {t : TG_ β} {d : DEnv → Res α} (h : Sim Rel c t d) {F0 H0 F H : Hp} {b : Addr} {σ : L2.St} {δ : DEnv} {E : XK} {Q : VK} {K : β → Hp → Prop} {r : α → RM} (hW : c.W = fun cls d _ H' => E cls d H') (st : Step F0 H0 F H)
    (S : Sr c.F0 c.H0 F H σ δ) (P : PostM (fun cls d _ H' => E cls d H') [] F0 H0 b Q ((d δ).rm r))
    (k : ∀ F' H' x a, Step F H F' H' → Sr c.F0 c.H0 F' H' σ δ → Rel F' H' x a → PostM (fun cls d _ H' => E cls d H') [] F0 H0 b Q (r a) → K x H') : t σ H K := by
  refine h F H σ δ K S ?_
  cases q : d δ with
  | stuck => rw [q] at P; exact P
  | exc n p =>
    rw [q] at P
    have P' : XPost HasK.mg (fun cls d _ H' => E cls d H') F0 H0 [] n p := P
    have P2 := XPost.step st P'
    show XPost HasK.mg c.W F H σ n p
    rw [hW]
    cases p with
    | none => exact P2
    | some y => exact P2
  | ok a =>
    rw [q] at P
    exact fun v F' H' s rr => k F' H' v a s (S.step s) rr P
theorem step_put {F H F' H' : Hp} {b : Addr} {xs ys : List V} (s : Step F H F' H') (hb : H b = some (.lst xs)) (fb : F' b = none) : Step F (upd H b (.lst ys)) F' (upd H' b (.lst ys)) :=
  ⟨s.ff, s.fh.over fb, s.hh.both, fun x h1 h2 => by
    have h3 := s.new x h1 h2
    have ne : x ≠ b := fun z => by rw [z, hb] at h3; cases h3
    rw [upd_ne ne]; exact h3⟩
theorem stay_none {F H F' H' : Hp} {b : Addr} {xs : List V} (s : Step F H F' H') (hb : H b = some (.lst xs)) (fb : F b = none) : F' b = none := by
  cases z : F' b with
  | none => rfl
  | some o =>
    have := s.new b fb (by rw [z]; exact fun y => nomatch y)
    rw [hb] at this; cases this
section
variable {P : Program} {w : World} {K : PySem.W.Frag} {mg : Str → Option Value} {base : Heap}
theorem fn_run {x qual : Str} {st : Stmt} {f : Addr} {fd : FuncData} {N ps : List Str} {k : Nat} {dck dam daf : DE} {dt : DT} {dra : DS} (F : Fun K x qual st f fd) (S : FnScope N ps (defScope st)) (hn : ps.length = 2) (hm : N.length = 3) (hD : @DkK ⟨K, mg, P, w⟩)
    (hbody : ∀ (cdv : Value) (A : Around) (outer : List Env) (s : Shared) (H : Hp) (E : XK), Room k (A.deeper (PyProof.Rows.envOfC qual (defScope st) s.heap.objs.size f cdv)) →
      ∃ tck tam tt tra taf, PSs (cxOf (L2.CX P w) P w K mg base N qual (defScope st) f cdv A outer s H E) (defBody st) (tRunB K tck tam tt tra taf) ∧ ∀ F0 H0,
        @Sim ⟨K, mg, P, w⟩ _ _ (@RF ⟨K, mg, P, w⟩) (ccAt P w K mg (cxOf (L2.CX P w) P w K mg base N qual (defScope st) f cdv A outer s H E) (fun cls d _ H' => E cls d H') rfl rfl rfl rfl F0 H0) tck dck ∧
        @Sim ⟨K, mg, P, w⟩ _ _ (@RF ⟨K, mg, P, w⟩) (ccAt P w K mg (cxOf (L2.CX P w) P w K mg base N qual (defScope st) f cdv A outer s H E) (fun cls d _ H' => E cls d H') rfl rfl rfl rfl F0 H0) tam dam ∧
        @Sim ⟨K, mg, P, w⟩ _ _ RT (ccAt P w K mg (cxOf (L2.CX P w) P w K mg base N qual (defScope st) f cdv A outer s H E) (fun cls d _ H' => E cls d H') rfl rfl rfl rfl F0 H0) tt dt ∧
        @SimS ⟨K, mg, P, w⟩ (ccAt P w K mg (cxOf (L2.CX P w) P w K mg base N qual (defScope st) f cdv A outer s H E) (fun cls d _ H' => E cls d H') rfl rfl rfl rfl F0 H0) tra dra ∧
        @Sim ⟨K, mg, P, w⟩ _ _ (@RF ⟨K, mg, P, w⟩) (ccAt P w K mg (cxOf (L2.CX P w) P w K mg base N qual (defScope st) f cdv A outer s H E) (fun cls d _ H' => E cls d H') rfl rfl rfl rfl F0 H0) taf daf) : FnOk P w K mg base (L2.CX P w) (k + 1) f fd ps (spKM P w K mg 1 (dRunM dck dam dt dra daf)) := by
  letI hk : HasK := ⟨K, mg, P, w⟩
  refine F.okX S (fun vs H Q E h => by rw [hn]; exact h.1) fun cdv A outer s H vs Q E hr h => ?_
  obtain ⟨hl, F0, a, ws, xs, net, stock, steps, kk, b, rfl, ex, hA, fb, r, post⟩ := h
  obtain ⟨tck, tam, tt, tra, taf, JP, JS0⟩ := hbody cdv A outer s H E hr
  refine ⟨_, JP, ?_⟩
  obtain ⟨v, rfl⟩ : ∃ v, ws = [v] := by
    cases ws with
    | nil => cases hl
    | cons v t =>
      cases t with
      | nil => exact ⟨v, rfl⟩
      | cons _ _ => cases hl
  cases r with
  | cons r0 rn =>
    cases rn
    rename_i d1
    have est : ∀ l : List V, l.length = 3 → L2.start N l = l.map some := fun l hl => by
      unfold L2.start
      rw [hm, hl]
      simp
    have e0 : L2.start N [.ref a, v] = [some (.ref a), some v, none] := by
      unfold L2.start
      rw [hm]
      rfl
    obtain ⟨J1, J2, J3, J4, _⟩ := JS0 F0 H
    have S0 := sr_startS (N := N) ex (.bdk hA.a (.val r0 .nil))
    have e1 : N.length - [V.ref a, v].length = 1 := by rw [hm]; rfl
    rw [e0, e1] at S0
    rw [e0]
    refine J1.gom rfl (.refl ex) S0 post fun F1 H1 _ _ s1 S1 _ P1 => ?_
    refine J2.gom rfl s1 S1 P1 fun F2 H2 vam am s2 S2 ram P2 => ?_
    have S2' := S2.set ram 2
    refine J3.gom rfl (s1.trans s2) S2' P2 fun F3 H3 x k3 s3 S3 hx P3 => ?_
    subst hx
    have s13 := (s1.trans s2).trans s3
    cases x with
    | true =>
      refine iteT (J4 F3 H3 _ _ _ S3 ?_)
      have P3' : PostM (fun cls d _ H' => E cls d H') [] F0 H b Q (dra [.bdk (deskD net stock steps kk), .val d1, .val am]).rm := P3
      show PostS _ F3 _ (dra [.bdk (deskD net stock steps kk), .val d1, .val am])
      cases q : dra [.bdk (deskD net stock steps kk), .val d1, .val am] with
      | exc n p δ' =>
        rw [q] at P3'
        have P4 : XPost HasK.mg (fun cls d _ H' => E cls d H') F0 H [] n p := P3'
        intro σ' F' H' _ S'
        cases p with
        | none => exact P4 F' H' S'.st
        | some y => exact fun dd v h1 h2 h3 => P4 F' H' dd v S'.st h1 h2 h3
      | next δ' => rw [q] at P3'; exact P3'.elim
      | ret δ' => rw [q] at P3'; exact P3'.elim
      | brk δ' => rw [q] at P3'; exact P3'.elim
      | cont δ' => rw [q] at P3'; exact P3'.elim
      | stuck => rw [q] at P3'; exact P3'.elim
    | false =>
      refine iteF ?_
      have hA3 := hA.mono s13.ff s13.hh
      obtain ⟨dx, vn, vs, ys, g1, g2, g3, g4, g5, g6⟩ := id hA3.ex
      have hbH : H b = some (.lst ys) := by
        obtain ⟨_, _, _, ys0, _, _, _, _, k5, _⟩ := hA.ex
        have := s13.hh _ _ k5
        rw [g5] at this
        cases this
        exact k5
      have rys : RpAll F0 ys steps := by
        obtain ⟨_, _, _, ys0, _, _, _, _, k5, k6⟩ := hA.ex
        rw [hbH] at k5
        cases k5
        exact k6
      have fb3 : F3 b = none := stay_none s13 hbH fb
      have P4 : PostM (fun cls d _ H' => E cls d H') [] F0 H b Q (if Sz steps.length then (match daf [.bdk (deskD net stock (steps ++ [d1]) kk), .val d1, .val am] with
        | .ok r => .ok r (steps ++ [d1])
        | _ => .stuck) else .stuck) := P3
      by_cases hz : Sz steps.length
      · rw [if_pos hz] at P4
        refine ⟨.ref a, rfl, a, dskC, dx, _, .ref b, rfl, g1, hD.cls, hD.steps, rfl, tyL g5, v, rfl, b, ys, v, rfl, rfl, g5, by rw [g6.len]; exact hz.lt, ?_⟩
        have hA4 := hA3.put (ys := ys ++ [v]) (g6.app (.cons (r0.mono s13.ff) .nil))
        have e4 : Ex F3 (upd H3 b (.lst (ys ++ [v]))) := s13.fh.over fb3
        have S4 := sr_startS (N := N) e4 (.bdk hA4.a (.val (r0.mono s13.ff) (.val (ram.mono s3.ff) .nil)))
        have e5 : N.length - [V.ref a, v, vam].length = 0 := by rw [hm]; rfl
        rw [e5, est _ rfl] at S4
        obtain ⟨_, _, _, _, J5⟩ := JS0 F3 (upd H3 b (.lst (ys ++ [v])))
        refine J5 F3 _ _ _ _ S4 ?_
        show PostG RF HasK.mg _ F3 _ _ _ (daf [.bdk (deskD net stock (steps ++ [d1]) kk), .val d1, .val am])
        cases q : daf [.bdk (deskD net stock (steps ++ [d1]) kk), .val d1, .val am] with
        | ok r =>
          rw [q] at P4
          intro v' F' H' s' r'
          exact P4 v' F' H' (ys ++ [v]) (rys.app (.cons r0 .nil)) ((step_put s13 hbH fb3).trans s') r'
        | exc n p => rw [q] at P4; exact P4.elim
        | stuck => rw [q] at P4; exact P4.elim
      · rw [if_neg hz] at P4; exact P4.elim
end
/-! ### def undo(self) -/
def tUndoB (K : PySem.W.Frag) (tt : TT) (tra : TS) : TS := tSeq (tIfS tt tra tNext) (tRet (tBM0 K "list" rPop (tFld K (tVar 0) "steps")))
def dUndoM (dt : DT) (dra : DS) : D → List D → RM := fun d xs => match xs with
  | [] => (dt [.bdk d]).rm fun k => if k then (dra [.bdk d]).rm else (match d with
    | .tuple [_, _, .list steps, .int _] => (match steps[steps.length - 1]? with
      | some y => .ok y steps.dropLast
      | none => .stuck)
    | _ => .stuck)
  | _ => .stuck
section
variable {P : Program} {w : World} {K : PySem.W.Frag} {mg : Str → Option Value} {base : Heap}
theorem fn_undo {x qual : Str} {st : Stmt} {f : Addr} {fd : FuncData} {N ps : List Str} {k : Nat} {dt : DT} {dra : DS} (F : Fun K x qual st f fd) (S : FnScope N ps (defScope st)) (hn : ps.length = 1) (hm : N.length = 1) (hD : @DkK ⟨K, mg, P, w⟩)
    (hbody : ∀ (cdv : Value) (A : Around) (outer : List Env) (s : Shared) (H : Hp) (E : XK), Room k (A.deeper (PyProof.Rows.envOfC qual (defScope st) s.heap.objs.size f cdv)) →
      ∃ tt tra, PSs (cxOf (L2.CX P w) P w K mg base N qual (defScope st) f cdv A outer s H E) (defBody st) (tUndoB K tt tra) ∧ ∀ F0 H0,
        @Sim ⟨K, mg, P, w⟩ _ _ RT (ccAt P w K mg (cxOf (L2.CX P w) P w K mg base N qual (defScope st) f cdv A outer s H E) (fun cls d _ H' => E cls d H') rfl rfl rfl rfl F0 H0) tt dt ∧
        @SimS ⟨K, mg, P, w⟩ (ccAt P w K mg (cxOf (L2.CX P w) P w K mg base N qual (defScope st) f cdv A outer s H E) (fun cls d _ H' => E cls d H') rfl rfl rfl rfl F0 H0) tra dra) : FnOk P w K mg base (L2.CX P w) (k + 1) f fd ps (spKM P w K mg 0 (dUndoM dt dra)) := by
  letI hk : HasK := ⟨K, mg, P, w⟩
  refine F.okX S (fun vs H Q E h => by rw [hn]; exact h.1) fun cdv A outer s H vs Q E hr h => ?_
  obtain ⟨hl, F0, a, ws, xs, net, stock, steps, kk, b, rfl, ex, hA, fb, r, post⟩ := h
  obtain ⟨tt, tra, JP, JS0⟩ := hbody cdv A outer s H E hr
  refine ⟨_, JP, ?_⟩
  cases r with
  | cons r0 rn => cases hl
  | nil =>
    have e0 : L2.start N [.ref a] = [some (.ref a)] := by
      unfold L2.start
      rw [hm]
      rfl
    obtain ⟨J3, J4⟩ := JS0 F0 H
    have S0 := sr_startS (N := N) ex (.bdk hA.a .nil)
    have e1 : N.length - [V.ref a].length = 0 := by rw [hm]; rfl
    rw [e0, e1] at S0
    rw [e0]
    refine J3.gom rfl (.refl ex) S0 post fun F3 H3 x k3 s13 S3 hx P3 => ?_
    subst hx
    cases x with
    | true =>
      refine iteT (J4 F3 H3 _ _ _ S3 ?_)
      have P3' : PostM (fun cls d _ H' => E cls d H') [] F0 H b Q (dra [.bdk (deskD net stock steps kk)]).rm := P3
      show PostS _ F3 _ (dra [.bdk (deskD net stock steps kk)])
      cases q : dra [.bdk (deskD net stock steps kk)] with
      | exc n p δ' =>
        rw [q] at P3'
        have P4 : XPost HasK.mg (fun cls d _ H' => E cls d H') F0 H [] n p := P3'
        intro σ' F' H' _ S'
        cases p with
        | none => exact P4 F' H' S'.st
        | some y => exact fun dd v h1 h2 h3 => P4 F' H' dd v S'.st h1 h2 h3
      | next δ' => rw [q] at P3'; exact P3'.elim
      | ret δ' => rw [q] at P3'; exact P3'.elim
      | brk δ' => rw [q] at P3'; exact P3'.elim
      | cont δ' => rw [q] at P3'; exact P3'.elim
      | stuck => rw [q] at P3'; exact P3'.elim
    | false =>
      refine iteF ?_
      have hA3 := hA.mono s13.ff s13.hh
      obtain ⟨dx, vn, vs, ys, g1, g2, g3, g4, g5, g6⟩ := id hA3.ex
      have hbH : H b = some (.lst ys) := by
        obtain ⟨_, _, _, ys0, _, _, _, _, k5, _⟩ := hA.ex
        have := s13.hh _ _ k5
        rw [g5] at this
        cases this
        exact k5
      have rys : RpAll F0 ys steps := by
        obtain ⟨_, _, _, ys0, _, _, _, _, k5, k6⟩ := hA.ex
        rw [hbH] at k5
        cases k5
        exact k6
      have fb3 : F3 b = none := stay_none s13 hbH fb
      have P4 : PostM (fun cls d _ H' => E cls d H') [] F0 H b Q (match steps[steps.length - 1]? with
        | some y => .ok y steps.dropLast
        | none => .stuck) := P3
      cases q : steps[steps.length - 1]? with
      | none => rw [q] at P4; exact P4.elim
      | some y =>
        rw [q] at P4
        obtain ⟨w, hw, rw_⟩ := rys.getD q
        refine ⟨.ref a, rfl, a, dskC, dx, _, .ref b, rfl, g1, hD.cls, hD.steps, rfl, tyL g5, b, ys, w, rfl, rfl, g5, by rw [rys.len]; exact hw, ?_⟩
        exact P4 w F3 _ ys.dropLast rys.dropLast (step_put s13 hbH fb3) (rw_.mono s13.ff)
end
end RD

end
section
namespace RD
open PySem PySem.Spec L2 PyProof.Rows
variable [HasK]
/-! ### def _law_desked(work, step) -/
theorem wAll_go {known : List Str} {m : Str} {i : Nat} {Wout : WX} {D : Ends} {σ : L2.St} {H : Hp} (T : ExK HasK.K HasK.mg known) (hm : m ∈ known) (hi : i < σ.length) : ∀ l : List Hd, (∀ h ∈ l, h.c ∈ known ∧ h.a ∈ known ∧ h.b ∈ known) →
    (match handle l m with
    | some s => D.rt (.str s) H
    | none => Wout (.ref (clA HasK.mg m)) none σ H) → wAll HasK.K Wout D i (hdL i l) (.ref (clA HasK.mg m)) none σ H
  | [], _, P => P
  | h :: r, hin, P => by
    obtain ⟨k1, k2, k3⟩ := hin h List.mem_cons_self
    have x1 := T.exm m hm h.c k1
    have x2 := T.kit m hm h.a k2
    have x3 := T.kit m hm h.b k3
    have x4 := (T.cls m hm).1
    refine ⟨subB m h.c, x1, fun hb2 a na => ?_, fun hb2 => wAll_go T hm hi r (fun z hz => hin z (List.mem_cons_of_mem _ hz)) ?_⟩
    · have e2 : handle (h :: r) m = some (if subB m h.a && !subB m h.b then h.s1 else h.s2) := if_pos hb2
      rw [e2] at P
      refine ⟨_, rfl, rfl, x4, ?_⟩
      have hs : (σ.set i (some (.ref a)))[i]? = some (some (V.ref a)) := set_at hi
      have fin : ∀ s, s = (if subB m h.a && !subB m h.b then h.s1 else h.s2) → D.rt (.str s) H := fun s es => by
        subst es
        exact P
      refine ⟨_, hs, .ref (clA HasK.mg h.a), .ref (clA HasK.mg h.a), subB m h.a, rfl, fun u hu => hu, x2, subB m h.a, rfl, ?_⟩
      cases qa : subB m h.a with
      | false => exact iteF (iteF (fin _ (by rw [qa]; rfl)))
      | true =>
        refine iteT ⟨_, hs, .ref (clA HasK.mg h.b), .ref (clA HasK.mg h.b), subB m h.b, rfl, fun u hu => hu, x3, subB m h.b, rfl, ?_⟩
        cases qb : subB m h.b with
        | false => exact iteT (fin _ (by rw [qa, qb]; rfl))
        | true => exact iteF (fin _ (by rw [qa, qb]; rfl))
    · have e2 : handle (h :: r) m = handle r m := by
        rw [handle, hb2]
        exact if_neg Bool.false_ne_true
      rw [e2] at P
      exact P
def tDskR (dU dR : D → List D → RM) (W : WX) : TS := tRet (tIf (L2.tB (tIsN (tVar 1))) (tMethS dskC "undo" (spM 0 dU) (WE W) (tVar 0) tNil) (tMethS dskC "run" (spM 1 dR) (WE W) (tVar 0) (tCons (tVar 1) tNil)))
def tDskB (W : WX) (l : List Hd) (dU dR : D → List D → RM) : TS := fun D σ H => tDskR dU dR (wAll HasK.K W D 2 (hdL 2 l)) D σ H
def dskH (known : List Str) (l : List Hd) (d : D) : RM → RM
  | .ok r ss => .ok r ss
  | .exc n none => if n ∈ known then (match handle l n with
    | some s => (match d with
      | .tuple [_, _, .list steps, .int _] => .ok (.str s) steps
      | _ => .stuck)
    | none => .exc n none) else .stuck
  | _ => .stuck
def dskOf (dU dR : D → List D → RM) (d : D) : D → RM
  | .none => dU d []
  | s => dR d [s]
def dDskM (dU dR : D → List D → RM) (known : List Str) (l : List Hd) : D → List D → RM := fun d xs => match xs with
  | [s] => dskH known l d (dskOf dU dR d s)
  | _ => .stuck
section
variable {c : Cc} {n x y : Str} {h0 : ExceptHandler} {hs : List ExceptHandler} {l : List Hd} {dU dR : D → List D → RM}
theorem ps_desked {k1 k2 j jc : Nat} {pos p1 p2 p3 p4 a1 a2 c1 c2 ip rp qp qn : Pos} (tk : Takes c.X c.W) (nd : c.X.N.Nodup) (hD : DkK) (GU : MtM c.X.prog c.X.w c.X.K c.X.mg c.X.base k1 dskC "undo" 0 dU) (GR : MtM c.X.prog c.X.w c.X.K c.X.mg c.X.base k2 dskC "run" 1 dR) (hr : Room j c.X.A) (hk1 : k1 ≤ j) (hk2 : k2 ≤ j)
    (hh : JH c n 2 (h0 :: hs) l) (pl1 pl2 : Sem Bool) (stk : c.X.stack = c.X.env :: c.X.outer := by rfl) (fr : c.X.env.frame = some c.X.env.locals := by rfl) (hi : c.X.N[2]? = some n := by rfl) (hl : c.X.env.kindOf n = some .local := by rfl)
    (hN : c.X.N[0]? = some x := by rfl) (hv : Vis c.X.env.scope x := by first | exact Or.inl rfl | exact Or.inr (Or.inl rfl) | exact Or.inr (Or.inr rfl)) (hd : (x == ("__debug__" : Str)) = false := by decide) (hcd : (x == ("__classdict__" : Str)) = false := by decide)
    (hN1 : c.X.N[1]? = some y := by rfl) (hv1 : Vis c.X.env.scope y := by first | exact Or.inl rfl | exact Or.inr (Or.inl rfl) | exact Or.inr (Or.inr rfl)) (hd1 : (y == ("__debug__" : Str)) = false := by decide) (hcd1 : (y == ("__classdict__" : Str)) = false := by decide)
    (hst : starEach [.Name y p4] c.X.env = (false, eval (.Name y p4) c.X.env) :: starEach [] c.X.env := by rfl) (hpl : (backTo c2 (starEach [] c.X.env)).any (·.1) = false := by rfl)
    (ht1 : eval (.Call (.Attribute (.Name x p1) "undo" a1) [] [] c1) c.X.env = (do
      let ov ← eval (.Name x p1) c.X.env
      standAt a1.atName
      let (f, first) ← holding [ov] (getMethod ov "undo" pl1)
      callWith c1 f first (backTo c1 (starEach [] c.X.env)) (backToKw c1 (keywordEach [] c.X.env))) := by rfl)
    (ht2 : eval (.Call (.Attribute (.Name x p2) "run" a2) [.Name y p4] [] c2) c.X.env = (do
      let ov ← eval (.Name x p2) c.X.env
      standAt a2.atName
      let (f, first) ← holding [ov] (getMethod ov "run" pl2)
      callWith c2 f first (backTo c2 (starEach [.Name y p4] c.X.env)) (backToKw c2 (keywordEach [] c.X.env))) := by rfl) :
    PS c.X (.Try [.Return (some (.IfExp (.Compare (.Name y p3) [.Is] [.Constant .none jc qn] qp) (.Call (.Attribute (.Name x p1) "undo" a1) [] [] c1) (.Call (.Attribute (.Name x p2) "run" a2) [.Name y p4] [] c2) ip)) rp] (h0 :: hs) [] [] pos) (tDskB c.W l dU dR) := by
  obtain ⟨f1, fd1, ps1, u1, u2, u3⟩ := GU.ex
  rw [spKM_eq c.hK c.hM c.hP c.hw] at u1
  obtain ⟨f2, fd2, ps2, w1, w2, w3⟩ := GR.ex
  rw [spKM_eq c.hK c.hM c.hP c.hw] at w1
  have hc := hD.cls
  rw [← c.hK] at hc
  have hdd : HdAs c.X n (h0 :: hs) (hdL 2 l) := hh
  have K := ps_try_allAs (pos := pos) (tb := fun W => tDskR dU dR W) (body := [.Return (some (.IfExp (.Compare (.Name y p3) [.Is] [.Constant .none jc qn] qp) (.Call (.Attribute (.Name x p1) "undo" a1) [] [] c1) (.Call (.Attribute (.Name x p2) "run" a2) [.Name y p4] [] c2) ip)) rp]) stk fr nd hi hl tk (fun W pn xe t1 t2 => by
    have v0 : PE (c.X.tr pn xe) (.Name x p1) (tVar 0) := pe_var (X := c.X.tr pn xe) hN hv hd hcd
    have v0' : PE (c.X.tr pn xe) (.Name x p2) (tVar 0) := pe_var (X := c.X.tr pn xe) hN hv hd hcd
    have v1 : PE (c.X.tr pn xe) (.Name y p3) (tVar 1) := pe_var (X := c.X.tr pn xe) hN1 hv1 hd1 hcd1
    have v1' : PE (c.X.tr pn xe) (.Name y p4) (tVar 1) := pe_var (X := c.X.tr pn xe) hN1 hv1 hd1 hcd1
    exact pss_one (ps_ret (pe_ifExp (pt_cmp (pc_isN v1)) (pe_methS0 (X := c.X.tr pn xe) (E := WE W) v0 hc u2 u1 (hr.mono hk1) u3 (fun σ => passAt t1 σ) ht1) (pe_methS1 (X := c.X.tr pn xe) (E := WE W) v0' hc w2 w1 (hr.mono hk2) w3 (fun σ => passAt t1 σ) (pa_cons v1' pa_nil hst) hst hpl ht2)))) hdd
  rw [c.hK] at K
  exact K
end
section
variable {P : Program} {w : World} {K : PySem.W.Frag} {mg : Str → Option Value} {base : Heap}
theorem fn_desked {x qual : Str} {st : Stmt} {f : Addr} {fd : FuncData} {N ps : List Str} {k : Nat} {dU dR : D → List D → RM} {known : List Str} {l : List Hd} (F : Fun K x qual st f fd) (S : FnScope N ps (defScope st)) (hn : ps.length = 2) (hm : N.length = 3) (T : ExK K mg known)
    (hin : ∀ h ∈ l, h.c ∈ known ∧ h.a ∈ known ∧ h.b ∈ known)
    (hbody : ∀ (cdv : Value) (A : Around) (outer : List Env) (s : Shared) (H : Hp) (E : XK), Room k (A.deeper (PyProof.Rows.envOfC qual (defScope st) s.heap.objs.size f cdv)) →
      PSs (cxOf (L2.CX P w) P w K mg base N qual (defScope st) f cdv A outer s H E) (defBody st) (@tDskB ⟨K, mg, P, w⟩ (fun cls d _ H' => E cls d H') l dU dR)) : FnOk P w K mg base (L2.CX P w) (k + 1) f fd ps (spKM P w K mg 1 (dDskM dU dR known l)) := by
  letI hk : HasK := ⟨K, mg, P, w⟩
  refine F.okX S (fun vs H Q E h => by rw [hn]; exact h.1) fun cdv A outer s H vs Q E hr h => ?_
  obtain ⟨hl, F0, a, ws, xs, net, stock, steps, kk, b, rfl, ex, hA, fb, r, post⟩ := h
  have JP := hbody cdv A outer s H E hr
  refine ⟨_, JP, ?_⟩
  obtain ⟨v, rfl⟩ : ∃ v, ws = [v] := by
    cases ws with
    | nil => cases hl
    | cons v t =>
      cases t with
      | nil => exact ⟨v, rfl⟩
      | cons _ _ => cases hl
  cases r with
  | cons r0 rn =>
    cases rn
    rename_i d1
    have e0 : L2.start N [.ref a, v] = [some (.ref a), some v, none] := by
      unfold L2.start
      rw [hm]
      rfl
    rw [e0]
    obtain ⟨dx, vn, vs, ys, g1, g2, g3, g4, g5, g6⟩ := id hA.ex
    have hdt : handle l = handle l := rfl
    -- what the handlers make of the call's end
    have go : ∀ r : RM, PostM (fun cls d _ H' => E cls d H') [] F0 H b Q (dskH known l (deskD net stock steps kk) r) →
        PostM (fun cls d _ H' => wAll HasK.K (fun cls d _ H' => E cls d H') { nx := fun _ H' => Q .non H', rt := Q } 2 (hdL 2 l) cls d [some (.ref a), some v, none] H') [] F0 H b Q r := by
      intro r P
      cases r with
      | ok r ss => exact P
      | stuck => exact P
      | exc n p =>
        cases p with
        | some y => exact P.elim
        | none =>
          have P1 : PostM (fun cls d _ H' => E cls d H') [] F0 H b Q (if n ∈ known then (match handle l n with
            | some s => .ok (.str s) steps
            | none => .exc n none) else .stuck) := P
          by_cases hm' : n ∈ known
          · rw [if_pos hm'] at P1
            intro F' H' s'
            refine wAll_go T hm' (by simp) l hin ?_
            cases q : handle l n with
            | some s =>
              rw [q] at P1
              have P2 : ∀ v F' H' xs', RpAll F0 xs' steps → Step F0 (upd H b (.lst xs')) F' H' → Rp F' v (.str s) → Q v H' := P1
              refine P2 (.str s) F' H' ys g6 ?_ (.str s)
              have eH : upd H b (.lst ys) = H := by
                funext z
                by_cases q : z = b
                · rw [q, upd_same, g5]
                · rw [upd_ne q]
              rw [eH]
              exact s'
            | none =>
              rw [q] at P1
              exact P1 F' H' s'
          · rw [if_neg hm'] at P1; exact P1.elim
    have P1 : PostM (fun cls d _ H' => E cls d H') [] F0 H b Q (dskH known l (deskD net stock steps kk) (dskOf dU dR (deskD net stock steps kk) d1)) := post
    refine ⟨v, rfl, decide (v = .non), rfl, ?_⟩
    have un : v = .non → d1 = .none := fun z => by subst z; cases r0; rfl
    by_cases hv : v = .non
    · rw [un hv] at P1
      rw [decide_eq_true hv]
      refine iteT ⟨.ref a, rfl, a, dx, _, rfl, g1, rfl, ?_⟩
      exact ⟨rfl, F0, a, [], [], net, stock, steps, kk, b, rfl, ex, hA, fb, .nil, go _ P1⟩
    · rw [decide_eq_false hv]
      refine iteF ⟨.ref a, rfl, a, dx, _, rfl, g1, rfl, v, rfl, ?_⟩
      refine ⟨rfl, F0, a, [v], [d1], net, stock, steps, kk, b, rfl, ex, hA, fb, .cons r0 .nil, go _ ?_⟩
      cases d1 with
      | none => cases r0; exact absurd rfl hv
      | _ => exact P1
end
end RD

end
section
namespace RD
open PySem PySem.Spec L2 PyProof.Rows
/-! ### the class's own len, str -/
def noX : XK := fun _ _ _ => False
section
variable {X : Cx} {k : Nat} {f C : Addr} {fd : FuncData} {ps : List Str} {sp : Sp} {pins : List (Addr × Obj)} {σ : L2.St} {H : Hp} {s : Shared} {Q : VK} {us : List Value} {vs : List V} {A : Around}
theorem run_sub (F : FnOk X.prog X.w X.K X.mg X.base (L2.CX X.prog X.w) k f fd ps sp) (hr : Room k A) (hf : A.frames = X.A.frames) (hb : Binds X.K fd ps []) (I : Inv X pins σ H s) (r : Vals vs us) (h : sp vs H Q noX) :
    wpAny (model X.prog X.w) A (call (.ref f) us) (EP X pins σ Q) X.xe s := by
  have e0 : Env0 X.prog X.w X.K X.mg X.base A X.stack s H := by
    have e := I.env0
    exact ⟨by rw [hf]; exact e.frames, e.mod, e.bs, e.bsz, e.funs, e.frf, e.hok, e.bare⟩
  have hl : us.length = ps.length := by rw [← r.length]; exact F.len _ _ _ _ h
  have b := hb s us I.kIn (by rw [List.append_nil]; exact hl)
  rw [List.append_nil] at b
  refine wpAny_call (codeAny_mono (F.run A X.stack s H ⟨us, []⟩ us vs Q noX hr e0 b r h) fun r s' hq => ?_)
  cases r with
  | error e =>
    obtain ⟨a, B, H', cls, d, _, _, _, _, _, _, _, z⟩ := (show L2.CX X.prog X.w X.stack H s noX e s' from hq)
    exact z.elim
  | ok fl =>
    cases fl with
    | ret u => exact I.after hq
    | next => exact False.elim hq
    | brk => exact False.elim hq
    | cont => exact False.elim hq
def rLenDk (C : Addr) (sp : Sp) : List V → Hp → VK → Prop := fun xs H Q => ∃ a dx fs, xs = [.ref a] ∧ H a = some (.ins C dx fs) ∧ sp [.ref a] H (fun v H' => ∃ n : Int, v = .int n ∧ (0 ≤ n ∧ n < 2 ^ 63) ∧ Q (.int n) H') noX
theorem call_lenDk (F : FnOk X.prog X.w X.K X.mg X.base (L2.CX X.prog X.w) k f fd ps sp) (hr : Room (k + 1) X.A) (hb : Binds X.K fd ps []) (hs : PySem.W.findIn X.K (.ref C) "__len__" = some (some (.ref f))) (hf : PySem.W.isFn X.K (.ref f) = true) : CallR X (.builtin "len") (rLenDk C sp) := by
  intro pins s σ H xs us Q I r h
  obtain ⟨a, dx, fs, rfl, ha, hq⟩ := h
  obtain ⟨u, rfl, ru⟩ := r.one
  cases ru
  obtain ⟨mA, J, _⟩ := ins_get I.hok ha
  obtain ⟨od, J, _⟩ := J.look
  obtain ⟨m, hF⟩ := I.fr
  refine PySem.W.len_K hF I.ok.mod.kin J hs hf (wpAny_mono (run_sub (vs := [V.ref a]) F hr.in1 rfl hb I (.cons rfl .nil) hq) (fun v s' z => ?_) fun _ _ z => z)
  obtain ⟨w, H', I', rw_, n, rfl, hn, q⟩ := z
  obtain ⟨t, rfl⟩ := (show ∃ t, v = Value.int n t from rw_)
  exact ⟨hn, .int n, H', I'.tok _, ⟨_, rfl⟩, q⟩
def rStrDk (C : Addr) (sp : Sp) : List V → Hp → VK → Prop := fun xs H Q => ∃ a dx fs, xs = [.ref a] ∧ H a = some (.ins C dx fs) ∧ sp [.ref a] H (fun v H' => ∃ n : Str, v = .str n ∧ Q (.str n) H') noX
theorem call_strDk (F : FnOk X.prog X.w X.K X.mg X.base (L2.CX X.prog X.w) k f fd ps sp) (hr : Room (k + 2) X.A) (hb : Binds X.K fd ps []) (hs : PySem.W.findIn X.K (.ref C) "__str__" = some (some (.ref f))) (hf : PySem.W.isFn X.K (.ref f) = true) : CallR X (.type "str") (rStrDk C sp) := by
  intro pins s σ H xs us Q I r h
  obtain ⟨a, dx, fs, rfl, ha, hq⟩ := h
  obtain ⟨u, rfl, ru⟩ := r.one
  cases ru
  obtain ⟨mA, J, _⟩ := ins_get I.hok ha
  obtain ⟨od, J, _⟩ := J.look
  refine PySem.W.kso_call hr.in1.in1.units0 I.kIn J hs hf (wpAny_mono (run_sub (vs := [V.ref a]) F hr.in1.in1 rfl hb I (.cons rfl .nil) hq) (fun v s' z => ?_) fun _ _ z => z)
  obtain ⟨w, H', I', rw_, n, rfl, q⟩ := z
  obtain ⟨t, rfl⟩ := (show ∃ t, v = Value.str n t from rw_)
  exact ⟨.str n, H', I', ⟨_, rfl⟩, q⟩
end
variable [HasK]
def dLenD (i : Nat) (den : List Sl → Res D) : DE := fun δ => (dSelf i δ).bind fun d => match den [.bdk d] with
  | .ok (.int n) => if 0 ≤ n ∧ n < 2 ^ 60 then .ok (.int n) else .stuck
  | _ => .stuck
def dStrD (i : Nat) (den : List Sl → Res D) : DE := fun δ => (dSelf i δ).bind fun d => match den [.bdk d] with
  | .ok (.str n) => .ok (.str n)
  | _ => .stuck
section
variable {c : Cc} {x : Str} {pos p q : Pos} {den : List Sl → Res D}
theorem je_lenD {k j : Nat} (i : Nat) (G : MtS c.X.prog c.X.w c.X.K c.X.mg c.X.base k dskC "__len__" 1 den) (hr : Room j c.X.A) (hk : k + 1 ≤ j) (hg : Gl c.X "len") (hm : c.X.mg "len" = none)
    (hN : c.X.N[i]? = some x := by rfl) (hv : Vis c.X.env.scope x := by first | exact Or.inl rfl | exact Or.inr (Or.inl rfl) | exact Or.inr (Or.inr rfl)) (hd : (x == ("__debug__" : Str)) = false := by decide)
    (hcd : (x == ("__classdict__" : Str)) = false := by decide) (he : starEach [.Name x q] c.X.env = (false, eval (.Name x q) c.X.env) :: starEach [] c.X.env := by rfl) (hpl : (backTo pos (starEach [] c.X.env)).any (·.1) = false := by rfl) :
    JE c (.Call (.Name "len" p) [.Name x q] [] pos) (tCB (rLenDk dskC (spS 1 den)) (tCons (tVar i) tNil)) (dLenD i den) := by
  obtain ⟨f, fd, ps, h1, h2, h3⟩ := G.ex
  rw [spKS_eq c.hK c.hM c.hP c.hw] at h1
  refine ⟨pe_callB (id := "len") (call_lenDk h1 (hr.mono hk) h3 h2.at_ h2.fn) hg hm PySem.boot_len (pa_cons (pe_var hN hv hd hcd) pa_nil he) (by decide) (by decide) he hpl, fun F H σ δ Q S P => sim_self.go S P fun F1 H1 v d s1 S1 hv P1 => ?_⟩
  obtain ⟨a, rfl, hA⟩ := hv
  obtain ⟨net, stock, steps, k, dx, b, vn, vs, xs, e, g1, _⟩ := id hA
  refine ⟨a, dx, _, rfl, g1, rfl, F1, [.bdk d], S1.fh, .bdk hA .nil, ?_⟩
  have P2 : PostG RF HasK.mg c.W F1 H1 σ Q (match den [.bdk d] with
    | .ok (.int n) => if 0 ≤ n ∧ n < 2 ^ 60 then .ok (.int n) else .stuck
    | _ => .stuck) := P1
  split at P2
  · rename_i n q
    rw [q]
    by_cases hn : 0 ≤ n ∧ n < 2 ^ 60
    · rw [if_pos hn] at P2
      intro v F' H' s' r'
      cases r'
      exact ⟨n, rfl, ⟨hn.1, Int.lt_trans hn.2 (by decide)⟩, P2 _ F' H' s' (.int n)⟩
    · rw [if_neg hn] at P2; exact P2.elim
  · exact P2.elim
theorem je_strD {k j : Nat} (i : Nat) (G : MtS c.X.prog c.X.w c.X.K c.X.mg c.X.base k dskC "__str__" 1 den) (hr : Room j c.X.A) (hk : k + 2 ≤ j) (hg : Gl c.X "str") (hm : c.X.mg "str" = none)
    (hN : c.X.N[i]? = some x := by rfl) (hv : Vis c.X.env.scope x := by first | exact Or.inl rfl | exact Or.inr (Or.inl rfl) | exact Or.inr (Or.inr rfl)) (hd : (x == ("__debug__" : Str)) = false := by decide)
    (hcd : (x == ("__classdict__" : Str)) = false := by decide) (he : starEach [.Name x q] c.X.env = (false, eval (.Name x q) c.X.env) :: starEach [] c.X.env := by rfl) (hpl : (backTo pos (starEach [] c.X.env)).any (·.1) = false := by rfl) :
    JE c (.Call (.Name "str" p) [.Name x q] [] pos) (tCB (rStrDk dskC (spS 1 den)) (tCons (tVar i) tNil)) (dStrD i den) := by
  obtain ⟨f, fd, ps, h1, h2, h3⟩ := G.ex
  rw [spKS_eq c.hK c.hM c.hP c.hw] at h1
  refine ⟨pe_callTy (T := "str") (call_strDk h1 (hr.mono hk) h3 h2.at_ h2.fn) hg hm (by decide +kernel) (pa_cons (pe_var hN hv hd hcd) pa_nil he) (by decide) (by decide) he hpl, fun F H σ δ Q S P => sim_self.go S P fun F1 H1 v d s1 S1 hv P1 => ?_⟩
  obtain ⟨a, rfl, hA⟩ := hv
  obtain ⟨net, stock, steps, k, dx, b, vn, vs, xs, e, g1, _⟩ := id hA
  refine ⟨a, dx, _, rfl, g1, rfl, F1, [.bdk d], S1.fh, .bdk hA .nil, ?_⟩
  have P2 : PostG RF HasK.mg c.W F1 H1 σ Q (match den [.bdk d] with
    | .ok (.str n) => .ok (.str n)
    | _ => .stuck) := P1
  split at P2
  · rename_i n q
    rw [q]
    intro v F' H' s' r'
    cases r'
    exact ⟨n, rfl, P2 _ F' H' s' (.str n)⟩
  · exact P2.elim
end
end RD

end
section
namespace RD
open PySem PySem.Spec L2 PyProof.Rows
variable [HasK]
/-! ### y = x.pop() if t else e -/
def dPopIf (i j : Nat) (dt : DT) (db : DE) : DS := fun δ => (dt δ).out δ fun k => if k then (match δ[i]? with
  | some (.own (.list xs)) => Opt.out xs[xs.length - 1]? fun y => .next ((δ.set i (.own (.list xs.dropLast))).set j (.val y))
  | _ => .stuck) else (db δ).out δ fun x => .next (δ.set j (.val x))
section
variable {c : Cc} {e a b : Expr} {db : DE} {pos p : Pos} {tb : TE} {tt : TT} {dt : DT}
theorem js_popIf {i j : Nat} {y : Str} {q : Pos} (hN : c.X.N.Nodup) (hp : PE c.X a (tBM0 c.X.K "list" rPop (tVar i))) (ht : JT c e tt dt) (hb : JE c b tb db)
    (hj : c.X.N[j]? = some y := by rfl) (hx : Loc c.X.env.scope y := by first | exact Or.inl rfl | exact Or.inr rfl)
    (hs : swapsWith (.IfExp e a b q) (some (.Name y p)) pos.line c.X.env = pure false := by rfl) (hf : c.X.fn y = true ∨ c.X.env.scope.names.lookup y = some .local := by first | exact .inl rfl | exact .inr rfl) :
    JS c (.Assign [.Name y p] (.IfExp e a b q) pos) (tAsg (tIf tt (tBM0 HasK.K "list" rPop (tVar i)) tb) (gName j)) (dPopIf i j dt db) := by
  rw [c.hK] at hp
  refine ⟨ps_set hN hj hx (pe_ifExp ht.p hp hb.p) hs hf, fun F H σ δ D S P => ht.s.gos S P fun F1 H1 x k s1 S1 hx P1 => ?_⟩
  subst hx
  cases x with
  | true =>
    refine iteT (ownL P1 fun xs hxs P2 => outO P2 fun y hy P3 => ?_)
    obtain ⟨l, vs, h1, h2, h3⟩ := S1.var hxs
    obtain ⟨w, hw, rw_⟩ := h3.getD hy
    exact ⟨.ref l, h1, tyL h2, l, vs, w, rfl, rfl, h2, by rw [h3.len]; exact hw, P3 _ F1 _ (.refl _) ((S1.write (d' := .list xs.dropLast) hxs h1 ⟨_, upd_same, h3.dropLast⟩).set rw_ j)⟩
  | false => exact iteF (hb.s.gos S1 P1 fun F2 H2 x2 a2 s2 S2 h2 P2 => P2 _ F2 H2 (.refl _) (S2.set h2 j))
end
/-! ### str of a str -/
section
variable {c : Cc} {e : Expr} {pos : Pos} {tr : TA} {dr : DA}
def strS : List D → Option D
  | [.str x] => some (.str x)
  | _ => none
theorem je_strS {p : Pos} (hg : Gl c.X "str") (hm : c.X.mg "str" = none) (ha : JAB c [e] tr dr) (he : starEach [e] c.X.env = (false, eval e c.X.env) :: starEach [] c.X.env := by rfl) (hpl : (backTo pos (starEach [] c.X.env)).any (·.1) = false := by rfl) :
    JE c (.Call (.Name "str" p) [e] [] pos) (tCB (fun xs H Q => ∃ a, xs = [.str a] ∧ Q (.str a) H) tr) (dCB strS dr) := by
  refine je_callTy (T := "str") SkE.call_str_str (fun F H xs ds z Q ex h hz k => ?_) hg hm (by decide +kernel) ha (by decide) (by decide) he hpl
  unfold strS at hz
  split at hz
  · cases h with
    | cons h hn =>
      cases hn
      cases hz
      have e1 := h.str
      subst e1
      exact ⟨_, rfl, k _ F H (.refl ex) (.str _)⟩
  · cases hz
end
/-! ### operators and calls with effects, by name -/
section
variable {c : Cc} {e a b : Expr} {da db : DX} {pos : Pos} {ta tb : TE}
theorem jx_eq (hu : c.X.A.units + 64 < cLine) (ha : JX c a ta da) (hb : JXB c b tb db) : JX c (.Compare a [.Eq] [b] pos) (tOp (rEqA HasK.K) ta tb) (xOp (eqD false) da db) := by
  rw [← c.hK]
  exact jx_cmpR (OpR.or op_eq (op_eqD hu)) s_eqA ha hb (nomark _)
theorem jx_ne (hu : c.X.A.units + 64 < cLine) (ha : JX c a ta da) (hb : JXB c b tb db) : JX c (.Compare a [.NotEq] [b] pos) (tOp (rNeA HasK.K) ta tb) (xOp (eqD true) da db) := by
  rw [← c.hK]
  exact jx_cmpR (OpR.or op_ne (op_neD hu)) s_neA ha hb (nomark _)
theorem jxt_eq (hu : c.X.A.units + 64 < cLine) (ha : JX c a ta da) (hb : JXB c b tb db) : JXT c (.Compare a [.Eq] [b] pos) (tTest (tOp (rEqA HasK.K) ta tb)) (xTest (xOp (eqD false) da db)) := by
  rw [← c.hK]
  exact jxt_cmpR (OpR.or op_eq (op_eqD hu)) s_eqA ha hb (nomark _)
theorem jxt_ne (hu : c.X.A.units + 64 < cLine) (ha : JX c a ta da) (hb : JXB c b tb db) : JXT c (.Compare a [.NotEq] [b] pos) (tTest (tOp (rNeA HasK.K) ta tb)) (xTest (xOp (eqD true) da db)) := by
  rw [← c.hK]
  exact jxt_cmpR (OpR.or op_ne (op_neD hu)) s_neA ha hb (nomark _)
theorem jx_add (ha : JX c a ta da) (hb : JXB c b tb db) : JX c (.BinOp a .Add b pos) (tOp (rAddA HasK.K) ta tb) (xOp addD da db) := by
  rw [← c.hK]
  exact jx_bin op_addA s_addA ha hb
theorem jx_mul (ha : JX c a ta da) (hb : JXB c b tb db) : JX c (.BinOp a .Mult b pos) (tOp (rMulA HasK.K) ta tb) (xOp mulD da db) := by
  rw [← c.hK]
  exact jx_bin op_mulA s_mulA ha hb
theorem s_int : CallS rIntA intD := fun F H xs ds z Q ex h hz k => by
  unfold intD at hz
  split at hz
  · cases h with
    | cons h hn =>
      cases hn
      cases hz
      have e1 := h.int
      subst e1
      exact .inl ⟨_, rfl, k _ F H (.refl ex) (.int _)⟩
  · cases h with
    | cons h hn =>
      cases hn
      cases hz
      have e1 := h.bl
      subst e1
      exact .inr ⟨_, rfl, k _ F H (.refl ex) (.int _)⟩
  · cases hz
theorem jx_int {p : Pos} (hg : Gl c.X "int") (hm : c.X.mg "int" = none) (ha : JX c e ta da) (he : starEach [e] c.X.env = (false, eval e c.X.env) :: starEach [] c.X.env := by rfl) (hpl : (backTo pos (starEach [] c.X.env)).any (·.1) = false := by rfl) :
    JX c (.Call (.Name "int" p) [e] [] pos) (tCB rIntA (tCons ta tNil)) (xCB intD da) :=
  ⟨pe_callTy (T := "int") call_int1 hg hm (by decide +kernel) (pa_cons ha.p pa_nil he) (by decide) (by decide) he hpl, sim_xcb s_int ha.s⟩
def xIsi (T : Ty) (da : DX) : DX := fun δ => (da δ).bind fun x δ1 => match isiD T x with
  | some k => .ok (.bool k) δ1
  | none => .stuck
theorem jx_isi {x : Str} {p p2 : Pos} (T : Ty) (hg : Gl c.X "isinstance") (hm : c.X.mg "isinstance" = none) (hg2 : Gl c.X x) (hm2 : c.X.mg x = none) (hb : bootBuiltins x = some (.type T.nm)) (hn : x ≠ "__name__") (hd : (x == ("__debug__" : Str)) = false)
    (ha : JX c a ta da) (he : starEach [a, .Name x p2] c.X.env = (false, eval a c.X.env) :: starEach [.Name x p2] c.X.env := by rfl) (he2 : starEach [.Name x p2] c.X.env = (false, eval (.Name x p2) c.X.env) :: starEach [] c.X.env := by rfl) (hpl : (backTo pos (starEach [.Name x p2] c.X.env)).any (·.1) = false := by rfl) :
    JX c (.Call (.Name "isinstance" p) [a, .Name x p2] [] pos) (tCB (rIsi HasK.K) (tCons ta (tCons (tC (.ty T.nm)) tNil))) (xIsi T da) := by
  rw [← c.hK]
  exact ⟨pe_callB (id := "isinstance") call_isi hg hm (by decide +kernel) (pa_cons ha.p (pa_cons (pe_bltn (v := .ty T.nm) hg2 hm2 hb rfl hn hd) pa_nil he2) he) (by decide) (by decide) he hpl,
   fun F H σ δ Q S P => ha.s.go S P fun F1 H1 x d δ1 e1 S1 hx P1 => by
    cases q : isiD T d with
    | none => rw [q] at P1; exact P1.elim
    | some k =>
      rw [q] at P1
      have P2 : ∀ v F' H', Ex F1 F' → Sr c.F0 c.H0 F' H' σ δ1 → Rp F' v (.bool k) → Q v H' := P1
      obtain ⟨t, h1, h2⟩ := isi_of (K := c.X.K) S1.fh hx q
      exact ⟨x, .ty T.nm, t, .type T.nm, k, rfl, .ty _, h1, h2, P2 _ F1 H1 (.refl _) S1 (.bl _)⟩⟩
end
/-! ### the defs of the class, as they are printed -/
abbrev hp0 : Hp := fun _ => none
section
variable {P : Program} {w : World} {K : PySem.W.Frag} {mg : Str → Option Value} {base : Heap}
theorem fn_init {x qual : Str} {st : Stmt} {f : Addr} {fd : FuncData} {N ps : List Str} {k : Nat} {dc : DE} (F : Fun K x qual st f fd) (S : FnScope N ps (defScope st)) (hn : ps.length = 3) (hm : N.length = 3) (hD : @DkK ⟨K, mg, P, w⟩)
    (hbody : ∀ (cdv : Value) (A : Around) (outer : List Env) (s : Shared) (H : Hp) (E : XK), Room k (A.deeper (PyProof.Rows.envOfC qual (defScope st) s.heap.objs.size f cdv)) →
      ∃ e t, (PE (cxOf (L2.CX P w) P w K mg base N qual (defScope st) f cdv A outer s H E) e t → PSs (cxOf (L2.CX P w) P w K mg base N qual (defScope st) f cdv A outer s H E) (defBody st) (tInitB K t)) ∧
        @JE ⟨K, mg, P, w⟩ (ccAt P w K mg (cxOf (L2.CX P w) P w K mg base N qual (defScope st) f cdv A outer s H E) (fun cls d _ H' => E cls d H') rfl rfl rfl rfl hp0 hp0) e t dc ∧ ∀ F0 H0, @JE ⟨K, mg, P, w⟩ (ccAt P w K mg (cxOf (L2.CX P w) P w K mg base N qual (defScope st) f cdv A outer s H E) (fun cls d _ H' => E cls d H') rfl rfl rfl rfl F0 H0) e t dc) : FnOk P w K mg base (L2.CX P w) (k + 1) f fd ps (spKC P w K mg (runC dc)) :=
  fn_denC F S hn hm hD fun cdv A outer s H E F0 hr => by
    letI : HasK := ⟨K, mg, P, w⟩
    obtain ⟨e, t, h1, _, h2⟩ := hbody cdv A outer s H E hr
    exact ⟨t, (h2 F0 H).s, h1 (h2 F0 H).p⟩
theorem fn_runP {x qual : Str} {st : Stmt} {f : Addr} {fd : FuncData} {N ps : List Str} {k : Nat} {dck dam daf : DE} {dt : DT} {dra : DS} (F : Fun K x qual st f fd) (S : FnScope N ps (defScope st)) (hn : ps.length = 2) (hm : N.length = 3) (hD : @DkK ⟨K, mg, P, w⟩)
    (hbody : ∀ (cdv : Value) (A : Around) (outer : List Env) (s : Shared) (H : Hp) (E : XK), Room k (A.deeper (PyProof.Rows.envOfC qual (defScope st) s.heap.objs.size f cdv)) →
      ∃ e1 e2 e3 s4 e5 tck tam tt tra taf, (PE (cxOf (L2.CX P w) P w K mg base N qual (defScope st) f cdv A outer s H E) e1 tck → PE (cxOf (L2.CX P w) P w K mg base N qual (defScope st) f cdv A outer s H E) e2 tam → PT (cxOf (L2.CX P w) P w K mg base N qual (defScope st) f cdv A outer s H E) e3 tt →
          PSs (cxOf (L2.CX P w) P w K mg base N qual (defScope st) f cdv A outer s H E) s4 tra → PE (cxOf (L2.CX P w) P w K mg base N qual (defScope st) f cdv A outer s H E) e5 taf → PSs (cxOf (L2.CX P w) P w K mg base N qual (defScope st) f cdv A outer s H E) (defBody st) (tRunB K tck tam tt tra taf)) ∧
        (@JE ⟨K, mg, P, w⟩ (ccAt P w K mg (cxOf (L2.CX P w) P w K mg base N qual (defScope st) f cdv A outer s H E) (fun cls d _ H' => E cls d H') rfl rfl rfl rfl hp0 hp0) e1 tck dck ∧
          @JE ⟨K, mg, P, w⟩ (ccAt P w K mg (cxOf (L2.CX P w) P w K mg base N qual (defScope st) f cdv A outer s H E) (fun cls d _ H' => E cls d H') rfl rfl rfl rfl hp0 hp0) e2 tam dam ∧
          @JT ⟨K, mg, P, w⟩ (ccAt P w K mg (cxOf (L2.CX P w) P w K mg base N qual (defScope st) f cdv A outer s H E) (fun cls d _ H' => E cls d H') rfl rfl rfl rfl hp0 hp0) e3 tt dt ∧
          @JSs ⟨K, mg, P, w⟩ (ccAt P w K mg (cxOf (L2.CX P w) P w K mg base N qual (defScope st) f cdv A outer s H E) (fun cls d _ H' => E cls d H') rfl rfl rfl rfl hp0 hp0) s4 tra dra ∧
          @JE ⟨K, mg, P, w⟩ (ccAt P w K mg (cxOf (L2.CX P w) P w K mg base N qual (defScope st) f cdv A outer s H E) (fun cls d _ H' => E cls d H') rfl rfl rfl rfl hp0 hp0) e5 taf daf) ∧ ∀ F0 H0, @JE ⟨K, mg, P, w⟩ (ccAt P w K mg (cxOf (L2.CX P w) P w K mg base N qual (defScope st) f cdv A outer s H E) (fun cls d _ H' => E cls d H') rfl rfl rfl rfl F0 H0) e1 tck dck ∧
          @JE ⟨K, mg, P, w⟩ (ccAt P w K mg (cxOf (L2.CX P w) P w K mg base N qual (defScope st) f cdv A outer s H E) (fun cls d _ H' => E cls d H') rfl rfl rfl rfl F0 H0) e2 tam dam ∧
          @JT ⟨K, mg, P, w⟩ (ccAt P w K mg (cxOf (L2.CX P w) P w K mg base N qual (defScope st) f cdv A outer s H E) (fun cls d _ H' => E cls d H') rfl rfl rfl rfl F0 H0) e3 tt dt ∧
          @JSs ⟨K, mg, P, w⟩ (ccAt P w K mg (cxOf (L2.CX P w) P w K mg base N qual (defScope st) f cdv A outer s H E) (fun cls d _ H' => E cls d H') rfl rfl rfl rfl F0 H0) s4 tra dra ∧
          @JE ⟨K, mg, P, w⟩ (ccAt P w K mg (cxOf (L2.CX P w) P w K mg base N qual (defScope st) f cdv A outer s H E) (fun cls d _ H' => E cls d H') rfl rfl rfl rfl F0 H0) e5 taf daf) : FnOk P w K mg base (L2.CX P w) (k + 1) f fd ps (spKM P w K mg 1 (dRunM dck dam dt dra daf)) :=
  fn_run F S hn hm hD fun cdv A outer s H E hr => by
    letI : HasK := ⟨K, mg, P, w⟩
    obtain ⟨e1, e2, e3, s4, e5, t1, t2, t3, t4, t5, h1, _, h2⟩ := hbody cdv A outer s H E hr
    obtain ⟨k1, k2, k3, k4, k5⟩ := h2 hp0 hp0
    exact ⟨t1, t2, t3, t4, t5, h1 k1.p k2.p k3.p k4.p k5.p, fun F0 H0 => let ⟨k1, k2, k3, k4, k5⟩ := h2 F0 H0; ⟨k1.s, k2.s, k3.s, k4.s, k5.s⟩⟩
theorem fn_undoP {x qual : Str} {st : Stmt} {f : Addr} {fd : FuncData} {N ps : List Str} {k : Nat} {dt : DT} {dra : DS} (F : Fun K x qual st f fd) (S : FnScope N ps (defScope st)) (hn : ps.length = 1) (hm : N.length = 1) (hD : @DkK ⟨K, mg, P, w⟩)
    (hbody : ∀ (cdv : Value) (A : Around) (outer : List Env) (s : Shared) (H : Hp) (E : XK), Room k (A.deeper (PyProof.Rows.envOfC qual (defScope st) s.heap.objs.size f cdv)) →
      ∃ e3 s4 tt tra, (PT (cxOf (L2.CX P w) P w K mg base N qual (defScope st) f cdv A outer s H E) e3 tt → PSs (cxOf (L2.CX P w) P w K mg base N qual (defScope st) f cdv A outer s H E) s4 tra → PSs (cxOf (L2.CX P w) P w K mg base N qual (defScope st) f cdv A outer s H E) (defBody st) (tUndoB K tt tra)) ∧
        (@JT ⟨K, mg, P, w⟩ (ccAt P w K mg (cxOf (L2.CX P w) P w K mg base N qual (defScope st) f cdv A outer s H E) (fun cls d _ H' => E cls d H') rfl rfl rfl rfl hp0 hp0) e3 tt dt ∧
          @JSs ⟨K, mg, P, w⟩ (ccAt P w K mg (cxOf (L2.CX P w) P w K mg base N qual (defScope st) f cdv A outer s H E) (fun cls d _ H' => E cls d H') rfl rfl rfl rfl hp0 hp0) s4 tra dra) ∧ ∀ F0 H0, @JT ⟨K, mg, P, w⟩ (ccAt P w K mg (cxOf (L2.CX P w) P w K mg base N qual (defScope st) f cdv A outer s H E) (fun cls d _ H' => E cls d H') rfl rfl rfl rfl F0 H0) e3 tt dt ∧
          @JSs ⟨K, mg, P, w⟩ (ccAt P w K mg (cxOf (L2.CX P w) P w K mg base N qual (defScope st) f cdv A outer s H E) (fun cls d _ H' => E cls d H') rfl rfl rfl rfl F0 H0) s4 tra dra) : FnOk P w K mg base (L2.CX P w) (k + 1) f fd ps (spKM P w K mg 0 (dUndoM dt dra)) :=
  fn_undo F S hn hm hD fun cdv A outer s H E hr => by
    letI : HasK := ⟨K, mg, P, w⟩
    obtain ⟨e3, s4, t3, t4, h1, _, h2⟩ := hbody cdv A outer s H E hr
    obtain ⟨k3, k4⟩ := h2 hp0 hp0
    exact ⟨t3, t4, h1 k3.p k4.p, fun F0 H0 => let ⟨k3, k4⟩ := h2 F0 H0; ⟨k3.s, k4.s⟩⟩
end
end RD

end
section
namespace RD
open PySem PySem.Spec L2 PyProof.Rows
/-! ### the class's own == -/
section
variable {X : Cx} {k : Nat} {f C : Addr} {fd : FuncData} {ps : List Str} {sp : Sp}
def rEqK (K : PySem.W.Frag) (C : Addr) (sp : Sp) : R2 := fun x y H Q => ∃ a dx fs tb, x = .ref a ∧ H a = some (.ins C dx fs) ∧ TyX K H y tb ∧ PySem.W.notFirst K C tb = true ∧ sp [.ref a, y] H (fun v H' => ∃ b, v = .bl b ∧ Q (.bl b) H') noX
theorem op_eqK (F : FnOk X.prog X.w X.K X.mg X.base (L2.CX X.prog X.w) k f fd ps sp) (hr : Room k X.A) (hb : Binds X.K fd ps []) (hs : PySem.W.findIn X.K (.ref C) "__eq__" = some (some (.ref f))) (hf : PySem.W.isFn X.K (.ref f) = true) : OpR X (compareOp .Eq) (rEqK X.K C sp) := by
  intro pins s σ H x y v u Q I rx ry h
  obtain ⟨a, dx, fs, tb, rfl, ha, ty, nf, hq⟩ := h
  cases rx
  obtain ⟨mA, J, _⟩ := ins_get I.hok ha
  obtain ⟨od, J, _⟩ := J.look
  obtain ⟨m, hF⟩ := I.fr
  obtain ⟨P, Z, hP, _⟩ := kit_of I ry ty
  show wpAny (model X.prog X.w) X.A (richCompare .Eq (.ref a) u) (EP X pins σ Q) X.xe s
  refine PySem.W.cmp_K (op := .Eq) (tb := tb) hr.units0 hF I.ok.mod.kin J (Z.ty _ _ I.kIn hP) nf hs hf (wpAny_mono (run_sub (vs := [V.ref a, y]) F hr rfl hb I (.cons rfl (.cons ry .nil)) hq) (fun w s' z => ?_) fun _ _ z => z)
  obtain ⟨z, H', I', rz, b, rfl, q⟩ := z
  cases rz
  exact ⟨.bl b, H', I', rfl, q⟩
end
end RD

end
section
namespace RD
open PySem PySem.Spec PySem.W
section
variable {prog : Program} {w : World} {A : Around} {E : Value → Shared → Prop} {s : Shared} {K : Frag} {x C L f : Addr} {h₀ : Heap} {m : Str → Option Value} {ox : Obj} {od : Option Obj} {name : Str} {b tb : Value}
/-- a special name that the class takes from object: bound to the instance, then called -/
theorem ifBound_B {M : Model} {args : List Value} {id : String} {Q : Option Value → Shared → Prop} (X : K.In s.heap) (I : InstAt s.heap x ox C od) (hs : findIn K (.ref C) name = some (some (.builtin id)))
    (hb : ∀ self, bindSpecial (.builtin id) self = pure (.builtin id, [self])) (h : wpAny M A (call (.builtin id) (.ref x :: args)) (fun v => Q (some v)) E s) : wpAny M A (callSpecialIfBound? (.ref x) name args) Q E s := by
  have go : wpAny M A (call (.builtin id) ([.ref x] ++ args) >>= fun v => pure (some v)) Q E s := wpAny_bind (wpAny_mono h (fun _ _ q => wpAny_pure q) fun _ _ e => e)
  have bound := (Looks.of_pure (M := M) (h := s.heap) (hb (.ref x)))
  have found := (looks_findIn X hs : Looks M s.heap _ _)
  delta callSpecialIfBound? bindSpecialIfBound?
  apply wpAny_holding
  apply wpAny_bind
  apply wpAny_bind
  apply wpAny_bind
  refine I.type.here (found.here (wpAny_bind (wpAny_askSetting (wpAny_ite ?_))))
  cases Classical.em (_ = true) with
  | inl yes => rw [if_pos yes]; exact wpAny_bind (bound.here (wpAny_pure go))
  | inr no => rw [if_neg no]; exact wpAny_tryCatch (wpAny_bind (bound.here (wpAny_pure go)))
open Builtin in
/-- object.__ne__ over the class's own == -/
theorem objNe_K {Q : Value → Shared → Prop} (hu : A.in1.units < cLine) (X : K.In s.heap) (I : InstAt s.heap x ox C od) (hm : mroIn K C (.type "object") = some true) (hr : findIn K (.ref C) "__eq__" = some (some (.ref f))) (hf : isFn K (.ref f) = true)
    (h : wpAny (model prog w) A.in1 (call (.ref f) [.ref x, b]) (fun v s' => ∃ r, v = .bool r ∧ Q (.bool (!r)) s') E s) : wpAny (model prog w) A (call (.builtin "object.__ne__") [.ref x, b]) Q E s := by
  refine wpAny_call (codeAny_call_builtin (by decide +kernel) PySem.F.cmpEntry_ne (check_slot (i := "object.__ne__") (owner := "object") (n := "__ne__") (by decide +kernel) (by decide +kernel) (I.type.andThen (looks_mroIn X hm)) (PySem.F.cmpArgs_ne _ _) ?_))
  delta Builtin.«object.__ne__»
  wp_walk using wpAny_cRoomFor hu, ifBound_K X I hr hf, wpAny_mono h
  all_goals first
    | exact fun _ _ e => e
    | (rintro _ t ⟨r, rfl, q⟩; wp_walk using wpAny_truthy_bool; exact q)
/-- x != b, the class taking != from object, the other side not asked first -/
theorem ne_K {Q : Value → Shared → Prop} (hu : A.units < cLine) (hu1 : A.in1.units < cLine) (X : K.In s.heap) (I : InstAt s.heap x ox C od) (hb : Looks (model prog w) s.heap (typeOf b) tb) (hn : notFirst K C tb = true)
    (hne : findIn K (.ref C) "__ne__" = some (some (.builtin "object.__ne__"))) (hm : mroIn K C (.type "object") = some true) (hr : findIn K (.ref C) "__eq__" = some (some (.ref f))) (hf : isFn K (.ref f) = true)
    (h : wpAny (model prog w) A.in1 (call (.ref f) [.ref x, b]) (fun v s' => ∃ r, v = .bool r ∧ Q (.bool (!r)) s') E s) : wpAny (model prog w) A (richCompare .NotEq (.ref x) b) Q E s := by
  have call := objNe_K (Q := fun v t => ∃ r, v = .bool r ∧ Q v t) hu1 X I hm hr hf (wpAny_mono h (fun _ _ ⟨r, e, q⟩ => ⟨r, e, _, rfl, q⟩) fun _ _ e => e)
  have bound : wpAny (model prog w) A (callSpecialIfBound? (.ref x) (cmpInfo .NotEq).2.1 [b]) (fun o t => ∃ r, o = some (.bool r) ∧ Q (.bool r) t) E s := ifBound_B X I hne (fun _ => by first | rfl | kernel_rfl) (wpAny_mono call (fun _ _ ⟨r, e, q⟩ => ⟨r, e ▸ rfl, e ▸ q⟩) fun _ _ e => e)
  delta richCompare
  rw [oneThing_ref]
  cases other : (Value.ref C != tb) with
  | false =>
    wp_walk using wpAny_cRoomFor hu, I.type.here, hb.here, wpAny_mono bound
    all_goals first
      | exact fun _ _ e => e
      | (rintro _ t ⟨r, rfl, q⟩; wp_walk; exact q)
  | true =>
    have ne : (tb == .ref C) = false := by
      refine beq_eq_false_iff_ne.mpr fun e => ?_
      rw [e] at other
      simp at other
    have sub : subIn K tb (.ref C) = some false := by
      have := hn
      unfold notFirst at this
      rw [ne, Bool.false_or] at this
      exact beq_iff_eq.mp this
    wp_walk using wpAny_cRoomFor hu, I.type.here, hb.here, (looks_subIn X sub).here, wpAny_mono bound
    all_goals first
      | exact fun _ _ e => e
      | (rintro _ t ⟨r, rfl, q⟩; wp_walk; exact q)
end
open L2 in
section
variable {X : Cx} {k : Nat} {f C : Addr} {fd : FuncData} {ps : List Str} {sp : Sp}
def rNeK (K : Frag) (C : Addr) (sp : Sp) : R2 := fun x y H Q => ∃ a dx fs tb, x = .ref a ∧ H a = some (.ins C dx fs) ∧ TyX K H y tb ∧ notFirst K C tb = true ∧ sp [.ref a, y] H (fun v H' => ∃ b, v = .bl b ∧ Q (.bl (!b)) H') noX
theorem op_neK (F : FnOk X.prog X.w X.K X.mg X.base (L2.CX X.prog X.w) k f fd ps sp) (hr : Room (k + 1) X.A) (hb : Binds X.K fd ps []) (hne : findIn X.K (.ref C) "__ne__" = some (some (.builtin "object.__ne__"))) (hm : mroIn X.K C (.type "object") = some true)
    (hs : findIn X.K (.ref C) "__eq__" = some (some (.ref f))) (hf : isFn X.K (.ref f) = true) : OpR X (compareOp .NotEq) (rNeK X.K C sp) := by
  intro pins s σ H x y v u Q I rx ry h
  obtain ⟨a, dx, fs, tb, rfl, ha, ty, nf, hq⟩ := h
  cases rx
  obtain ⟨mA, J, _⟩ := ins_get I.hok ha
  obtain ⟨od, J, _⟩ := J.look
  obtain ⟨P, Z, hP, _⟩ := kit_of I ry ty
  show wpAny (model X.prog X.w) X.A (richCompare .NotEq (.ref a) u) (EP X pins σ Q) X.xe s
  refine ne_K (tb := tb) hr.units0 hr.in1.units0 I.kIn J (Z.ty _ _ I.kIn hP) nf hne hm hs hf (wpAny_mono (run_sub (vs := [V.ref a, y]) F hr.in1 rfl hb I (.cons rfl (.cons ry .nil)) hq) (fun w s' z => ?_) fun _ _ z => z)
  obtain ⟨z, H', I', rz, b, rfl, q⟩ := z
  cases rz
  exact ⟨b, rfl, .bl (!b), H', I', rfl, q⟩
end
end RD

end
section
namespace RD
open PySem PySem.Spec L2 PyProof.Rows
variable [HasK]
/-! ### == and != of a desk and something -/
structure DkE : Prop where
  ha : PySem.W.findIn HasK.K (.ref dskC) "__class__" = some (some (.builtin "object.__class__"))
  hn : PySem.W.specialIn HasK.K (.builtin "object.__class__") "__get__" = some (some (.builtin "getset_descriptor.__get__"))
  tk : PySem.W.takesIn HasK.K (.builtin "object.__class__") = some true
  mr : PySem.W.mroIn HasK.K dskC (.type "object") = some true
  ne : PySem.W.findIn HasK.K (.ref dskC) "__ne__" = some (some (.builtin "object.__ne__"))
  nt : PySem.W.notFirst HasK.K dskC (.type "tuple") = true
  ns : PySem.W.notFirst HasK.K dskC (.type "str") = true
  kt : PySem.W.kitOne HasK.K (.type "tuple") (.ref dskC) = some false
  ks : PySem.W.kitOne HasK.K (.type "str") (.ref dskC) = some false
def eqOkS : Sl → Bool
  | .bdk _ => true
  | .val (.tuple _) => true
  | .val (.str _) => true
  | _ => false
def isBdk : Sl → Bool
  | .bdk _ => true
  | _ => false
abbrev R1 : Hp → Hp → V → Sl → Prop := fun F H v s => ArgS F H [v] [s]
theorem ty_of (hD : DkK) (hE : DkE) {F H : Hp} {v : V} {s : Sl} (ex : Ex F H) (h : ArgS F H [v] [s]) (ok : eqOkS s = true) : ∃ tb, TyX HasK.K H v tb ∧ PySem.W.notFirst HasK.K dskC tb = true ∧ PySem.W.kitOne HasK.K tb (.ref dskC) = some (isBdk s) := by
  cases h with
  | val r n =>
    cases r with
    | tup g r =>
      obtain ⟨o, g1, _⟩ := g
      exact ⟨_, .fTuple (ex _ _ g1), hE.nt, hE.kt⟩
    | str x => exact ⟨_, .base (.str x), hE.ns, hE.ks⟩
    | _ => cases ok
  | bdk hA n =>
    obtain ⟨net, stock, steps, k, dx, b, vn, vs, xs, rfl, h1, _⟩ := hA
    exact ⟨_, .base (.ins h1 hD.cls hE.ha hE.hn hE.tk hE.mr), by unfold PySem.W.notFirst; simp, by unfold PySem.W.kitOne; simp [isBdk]⟩
  | bor hA n => cases ok
/-- one thing, a value or a desk -/
structure JV (c : Cc) (e : Expr) (t : TE) (d : DEnv → Res Sl) : Prop where
  p : PE c.X e t
  s : Sim R1 c t d
def vVal (da : DE) : DEnv → Res Sl := fun δ => (da δ).bind fun x => .ok (.val x)
def vDsk (i : Nat) : DEnv → Res Sl := fun δ => (dSelf i δ).bind fun x => .ok (.bdk x)
def dEqD (neg : Bool) (i : Nat) (den : List Sl → Res D) (dv : DEnv → Res Sl) : DE := fun δ => (dSelf i δ).bind fun d => (dv δ).bind fun s => if eqOkS s = true then (match den [.bdk d, s] with
  | .ok (.bool b) => .ok (.bool (if neg then !b else b))
  | _ => .stuck) else .stuck
/-- what a def that takes anything says of a slot: is it a desk? -/
def dIsDk (i : Nat) : DE := fun δ => match δ[i]? with
  | some (.bdk _) => .ok (.bool true)
  | some (.val (.tuple _)) => .ok (.bool false)
  | some (.val (.str _)) => .ok (.bool false)
  | _ => .stuck
section
variable {c : Cc} {e : Expr} {da : DE} {dv : DEnv → Res Sl} {te : TE} {x : Str} {pos p q : Pos} {den : List Sl → Res D}
theorem jv_val (h : JE c e te da) : JV c e te (vVal da) := ⟨h.p, fun F H σ δ Q S P => h.s.go S P fun F1 H1 x a s1 S1 hx P1 => P1 x F1 H1 (.refl S1.fh) (.val hx .nil)⟩
theorem jv_dsk (i : Nat) (hN : c.X.N[i]? = some x := by rfl) (hv : Vis c.X.env.scope x := by first | exact Or.inl rfl | exact Or.inr (Or.inl rfl) | exact Or.inr (Or.inr rfl)) (hd : (x == ("__debug__" : Str)) = false := by decide)
    (hcd : (x == ("__classdict__" : Str)) = false := by decide) : JV c (.Name x p) (tVar i) (vDsk i) := ⟨pe_var hN hv hd hcd, fun F H σ δ Q S P => sim_self.go S P fun F1 H1 x a s1 S1 hx P1 => by
  obtain ⟨b, rfl, hb⟩ := hx
  exact P1 _ F1 H1 (.refl S1.fh) (.bdk hb .nil)⟩
theorem sim_eqD {i : Nat} (hD : DkK) (hE : DkE) (hv : Sim R1 c te dv) : Sim RF c (tOp (rEqK HasK.K dskC (spS 2 den)) (tVar i) te) (dEqD false i den dv) := fun F H σ δ Q S P => sim_self.go S P fun F1 H1 x d s1 S1 hx P1 => by
  obtain ⟨a, rfl, hA⟩ := hx
  exact hv.go S1 P1 fun F2 H2 v s s2 S2 hs P2 => by
    have hA2 := hA.mono s2.ff s2.hh
    obtain ⟨net, stock, steps, k, dx, b, vn, vs, xs, rfl, h1, _⟩ := id hA2
    by_cases ok : eqOkS s = true
    · rw [if_pos ok] at P2
      obtain ⟨tb, t1, t2, _⟩ := ty_of hD hE S2.fh hs ok
      refine ⟨a, dx, _, tb, rfl, h1, t1, t2, rfl, F2, [.bdk _, s], S2.fh, .bdk hA2 hs, ?_⟩
      split at P2
      · rename_i r q
        rw [q]
        intro v' F' H' s' r'
        cases r'
        exact ⟨_, rfl, P2 _ F' H' s' (.bl _)⟩
      · exact P2.elim
    · rw [if_neg ok] at P2; exact P2.elim
theorem sim_neD {i : Nat} (hD : DkK) (hE : DkE) (hv : Sim R1 c te dv) : Sim RF c (tOp (rNeK HasK.K dskC (spS 2 den)) (tVar i) te) (dEqD true i den dv) := fun F H σ δ Q S P => sim_self.go S P fun F1 H1 x d s1 S1 hx P1 => by
  obtain ⟨a, rfl, hA⟩ := hx
  exact hv.go S1 P1 fun F2 H2 v s s2 S2 hs P2 => by
    have hA2 := hA.mono s2.ff s2.hh
    obtain ⟨net, stock, steps, k, dx, b, vn, vs, xs, rfl, h1, _⟩ := id hA2
    by_cases ok : eqOkS s = true
    · rw [if_pos ok] at P2
      obtain ⟨tb, t1, t2, _⟩ := ty_of hD hE S2.fh hs ok
      refine ⟨a, dx, _, tb, rfl, h1, t1, t2, rfl, F2, [.bdk _, s], S2.fh, .bdk hA2 hs, ?_⟩
      split at P2
      · rename_i r q
        rw [q]
        intro v' F' H' s' r'
        cases r'
        exact ⟨_, rfl, P2 _ F' H' s' (.bl _)⟩
      · exact P2.elim
    · rw [if_neg ok] at P2; exact P2.elim
theorem je_eqDk {k j : Nat} (i : Nat) (hD : DkK) (hE : DkE) (G : MtS c.X.prog c.X.w c.X.K c.X.mg c.X.base k dskC "__eq__" 2 den) (hr : Room j c.X.A) (hk : k ≤ j) (hv : JV c e te dv)
    (hN : c.X.N[i]? = some x := by rfl) (hvs : Vis c.X.env.scope x := by first | exact Or.inl rfl | exact Or.inr (Or.inl rfl) | exact Or.inr (Or.inr rfl)) (hd : (x == ("__debug__" : Str)) = false := by decide)
    (hcd : (x == ("__classdict__" : Str)) = false := by decide) : JE c (.Compare (.Name x p) [.Eq] [e] pos) (tOp (rEqK HasK.K dskC (spS 2 den)) (tVar i) te) (dEqD false i den dv) := by
  obtain ⟨f, fd, ps, h1, h2, h3⟩ := G.ex
  rw [spKS_eq c.hK c.hM c.hP c.hw] at h1
  refine ⟨?_, sim_eqD hD hE hv.s⟩
  rw [← c.hK]
  exact pe_cmpR (op_eqK h1 (hr.mono hk) h3 h2.at_ h2.fn) (pe_var hN hvs hd hcd) hv.p (nomark _)
theorem je_neDk {k j : Nat} (i : Nat) (hD : DkK) (hE : DkE) (G : MtS c.X.prog c.X.w c.X.K c.X.mg c.X.base k dskC "__eq__" 2 den) (hr : Room j c.X.A) (hk : k + 1 ≤ j) (hv : JV c e te dv)
    (hN : c.X.N[i]? = some x := by rfl) (hvs : Vis c.X.env.scope x := by first | exact Or.inl rfl | exact Or.inr (Or.inl rfl) | exact Or.inr (Or.inr rfl)) (hd : (x == ("__debug__" : Str)) = false := by decide)
    (hcd : (x == ("__classdict__" : Str)) = false := by decide) : JE c (.Compare (.Name x p) [.NotEq] [e] pos) (tOp (rNeK HasK.K dskC (spS 2 den)) (tVar i) te) (dEqD true i den dv) := by
  obtain ⟨f, fd, ps, h1, h2, h3⟩ := G.ex
  rw [spKS_eq c.hK c.hM c.hP c.hw] at h1
  have n1 := hE.ne
  have n2 := hE.mr
  refine ⟨?_, sim_neD hD hE hv.s⟩
  rw [← c.hK] at n1 n2 ⊢
  exact pe_cmpR (op_neK h1 (hr.mono hk) h3 n1 n2 h2.at_ h2.fn) (pe_var hN hvs hd hcd) hv.p (nomark _)
theorem jt_eqDk {k j : Nat} (i : Nat) (hD : DkK) (hE : DkE) (G : MtS c.X.prog c.X.w c.X.K c.X.mg c.X.base k dskC "__eq__" 2 den) (hr : Room j c.X.A) (hk : k ≤ j) (hv : JV c e te dv)
    (hN : c.X.N[i]? = some x := by rfl) (hvs : Vis c.X.env.scope x := by first | exact Or.inl rfl | exact Or.inr (Or.inl rfl) | exact Or.inr (Or.inr rfl)) (hd : (x == ("__debug__" : Str)) = false := by decide)
    (hcd : (x == ("__classdict__" : Str)) = false := by decide) : JT c (.Compare (.Name x p) [.Eq] [e] pos) (tTest (tOp (rEqK HasK.K dskC (spS 2 den)) (tVar i) te)) (dTest (dEqD false i den dv)) := by
  obtain ⟨f, fd, ps, h1, h2, h3⟩ := G.ex
  rw [spKS_eq c.hK c.hM c.hP c.hw] at h1
  refine ⟨?_, sim_test (sim_eqD hD hE hv.s)⟩
  rw [← c.hK]
  exact pt_cmpR (op_eqK h1 (hr.mono hk) h3 h2.at_ h2.fn) (pe_var hN hvs hd hcd) hv.p (nomark _)
theorem jt_neDk {k j : Nat} (i : Nat) (hD : DkK) (hE : DkE) (G : MtS c.X.prog c.X.w c.X.K c.X.mg c.X.base k dskC "__eq__" 2 den) (hr : Room j c.X.A) (hk : k + 1 ≤ j) (hv : JV c e te dv)
    (hN : c.X.N[i]? = some x := by rfl) (hvs : Vis c.X.env.scope x := by first | exact Or.inl rfl | exact Or.inr (Or.inl rfl) | exact Or.inr (Or.inr rfl)) (hd : (x == ("__debug__" : Str)) = false := by decide)
    (hcd : (x == ("__classdict__" : Str)) = false := by decide) : JT c (.Compare (.Name x p) [.NotEq] [e] pos) (tTest (tOp (rNeK HasK.K dskC (spS 2 den)) (tVar i) te)) (dTest (dEqD true i den dv)) := by
  obtain ⟨f, fd, ps, h1, h2, h3⟩ := G.ex
  rw [spKS_eq c.hK c.hM c.hP c.hw] at h1
  have n1 := hE.ne
  have n2 := hE.mr
  refine ⟨?_, sim_test (sim_neD hD hE hv.s)⟩
  rw [← c.hK] at n1 n2 ⊢
  exact pt_cmpR (op_neK h1 (hr.mono hk) h3 n1 n2 h2.at_ h2.fn) (pe_var hN hvs hd hcd) hv.p (nomark _)
/-- isinstance(other, Desk) -/
theorem je_isDk (i : Nat) (hD : DkK) (hE : DkE) {p2 : Pos} (hg : Gl c.X "isinstance") (hm : c.X.mg "isinstance" = none) (hg2 : Gl c.X "Desk")
    (hN : c.X.N[i]? = some x := by rfl) (hvs : Vis c.X.env.scope x := by first | exact Or.inl rfl | exact Or.inr (Or.inl rfl) | exact Or.inr (Or.inr rfl)) (hd : (x == ("__debug__" : Str)) = false := by decide)
    (hcd : (x == ("__classdict__" : Str)) = false := by decide) (he : starEach [.Name x q, .Name "Desk" p2] c.X.env = (false, eval (.Name x q) c.X.env) :: starEach [.Name "Desk" p2] c.X.env := by rfl)
    (he2 : starEach [.Name "Desk" p2] c.X.env = (false, eval (.Name "Desk" p2) c.X.env) :: starEach [] c.X.env := by rfl) (hpl : (backTo pos (starEach [.Name "Desk" p2] c.X.env)).any (·.1) = false := by rfl) :
    JE c (.Call (.Name "isinstance" p) [.Name x q, .Name "Desk" p2] [] pos) (tCB (rIsi HasK.K) (tCons (tVar i) (tCons (tC (.ref dskC)) tNil))) (dIsDk i) := by
  have mg := hD.mg
  rw [← c.hM] at mg
  refine ⟨?_, fun F H σ δ Q S P => ?_⟩
  · rw [← c.hK]
    exact pe_callB (id := "isinstance") call_isi hg hm (by decide +kernel) (pa_cons (pe_var hN hvs hd hcd) (pa_cons (pe_glob (v := .ref dskC) hg2 mg rfl (by decide)) pa_nil he2) he) (by decide) (by decide) he hpl
  · unfold dIsDk at P
    have go : ∀ (v : V) (s : Sl), σ[i]? = some (some v) → ArgS F H [v] [s] → eqOkS s = true → Q (.bl (isBdk s)) H → tCB (rIsi HasK.K) (tCons (tVar i) (tCons (tC (.ref dskC)) tNil)) σ H Q := fun v s h1 h2 ok hq => by
      obtain ⟨tb, t1, _, t3⟩ := ty_of hD hE S.fh h2 ok
      exact ⟨v, h1, v, .ref dskC, tb, .ref dskC, _, rfl, .own _, t1, t3, hq⟩
    split at P
    · rename_i d q
      obtain ⟨a, h1, h2⟩ := S.dk.bdk i d q
      exact go _ (.bdk d) h1 (.bdk (h2.mono S.st.ff S.st.hh) .nil) rfl (P _ F H (.refl S.fh) (.bl _))
    · rename_i d q
      obtain ⟨v, h1, h2⟩ := S.val i _ q
      exact go v (.val (.tuple d)) h1 (.val h2 .nil) rfl (P _ F H (.refl S.fh) (.bl _))
    · rename_i d q
      obtain ⟨v, h1, h2⟩ := S.val i _ q
      exact go v (.val (.str d)) h1 (.val h2 .nil) rfl (P _ F H (.refl S.fh) (.bl _))
    · exact P.elim
end
end RD

end
section
namespace RD
open PySem PySem.Spec L2 PyProof.Rows
variable [HasK]
/-! ### def duplicate(self) -/
def tDupB (K : PySem.W.Frag) (tm tl tn : TE) : TS := tSeq (tAsg tm (gName 1)) (tSeq (sFld K (tVar 1) tl "steps") (tSeq (sFld K (tVar 1) tn "kept") (tRet (tVar 1))))
theorem sr_bdk {F H F' H' : Hp} {a : Addr} {d : D} {o : Option V} (st : Step F H F' H') (h : DeskA F H a d) : Sr F H F' H' [some (.ref a), o] [.bdk d, .no] := by
  have k : ∀ (i : Nat) (s : Sl), ([.bdk d, .no] : DEnv)[i]? = some s → (i = 0 ∧ s = .bdk d) ∨ s = .no := fun i s h => by
    match i, h with
    | 0, h => cases h; exact .inl ⟨rfl, rfl⟩
    | 1, h => cases h; exact .inr rfl
  refine ⟨st, rfl, fun i e h => ?_, fun i e h => ?_, fun i j b e f h => ?_, ⟨fun i e h => ?_, fun i j b b' y e f h => ?_, fun i j b b' e f h => ?_, fun i e h => ?_, fun i e h => ?_⟩⟩
  all_goals rcases k i _ h with ⟨rfl, q⟩ | q <;> cases q
  exact ⟨a, rfl, by assumption⟩
def dDupD (dm dl dn : DE) : D → Res D := fun d => match dm [.bdk d, .no] with
  | .ok (.tuple [net, stock, .list ss, .int q]) => (match dl [.bdk d, .dsk (deskD net stock ss q)] with
    | .ok (.list steps) => (match dn [.bdk d, .no] with
      | .ok (.int k) => .ok (deskD net stock steps k)
      | _ => .stuck)
    | _ => .stuck)
  | .exc n p => .exc n p
  | _ => .stuck
def spDp (den : D → Res D) : Sp := fun vs H Q E => vs.length = 1 ∧ ∃ F a d, vs = [.ref a] ∧ Ex F H ∧ DeskA F H a d ∧ PostC (fun cls dd _ H' => E cls dd H') [] F H Q (den d)
abbrev spKDp (P : Program) (w : World) (K : PySem.W.Frag) (mg : Str → Option Value) (den : D → Res D) : Sp := @spDp ⟨K, mg, P, w⟩ den
theorem spKDp_eq {inst : HasK} {P : Program} {w : World} {K : PySem.W.Frag} {mg : Str → Option Value} {den : D → Res D} (h : K = inst.K) (h2 : mg = inst.mg) (h3 : P = inst.P) (h4 : w = inst.w) : spKDp P w K mg den = @spDp inst den := by
  cases inst
  cases h
  cases h2
  cases h3
  cases h4
  rfl
section
variable {P : Program} {w : World} {K : PySem.W.Frag} {mg : Str → Option Value} {base : Heap}
theorem fn_dup {x qual : Str} {st : Stmt} {f : Addr} {fd : FuncData} {N ps : List Str} {k : Nat} {dm dl dn : DE} (F : Fun K x qual st f fd) (S : FnScope N ps (defScope st)) (hn : ps.length = 1) (hm : N.length = 2) (hD : @DkK ⟨K, mg, P, w⟩)
    (hbody : ∀ (cdv : Value) (A : Around) (outer : List Env) (s : Shared) (H : Hp) (E : XK), Room k (A.deeper (PyProof.Rows.envOfC qual (defScope st) s.heap.objs.size f cdv)) →
      ∃ tm tl tn, PSs (cxOf (L2.CX P w) P w K mg base N qual (defScope st) f cdv A outer s H E) (defBody st) (tDupB K tm tl tn) ∧ ∀ F0 H0,
        @SimC ⟨K, mg, P, w⟩ (ccAt P w K mg (cxOf (L2.CX P w) P w K mg base N qual (defScope st) f cdv A outer s H E) (fun cls d _ H' => E cls d H') rfl rfl rfl rfl F0 H0) tm dm ∧
        @SimN ⟨K, mg, P, w⟩ (ccAt P w K mg (cxOf (L2.CX P w) P w K mg base N qual (defScope st) f cdv A outer s H E) (fun cls d _ H' => E cls d H') rfl rfl rfl rfl F0 H0) tl dl ∧
        @Sim ⟨K, mg, P, w⟩ _ _ (@RF ⟨K, mg, P, w⟩) (ccAt P w K mg (cxOf (L2.CX P w) P w K mg base N qual (defScope st) f cdv A outer s H E) (fun cls d _ H' => E cls d H') rfl rfl rfl rfl F0 H0) tn dn) : FnOk P w K mg base (L2.CX P w) (k + 1) f fd ps (spKDp P w K mg (dDupD dm dl dn)) := by
  letI hk : HasK := ⟨K, mg, P, w⟩
  refine F.okX S (fun vs H Q E h => by rw [hn]; exact h.1) fun cdv A outer s H vs Q E hr h => ?_
  obtain ⟨hl, F0, a, d, rfl, ex, hA, post⟩ := h
  obtain ⟨tm, tl, tn, JP, JS0⟩ := hbody cdv A outer s H E hr
  refine ⟨_, JP, ?_⟩
  obtain ⟨J1, J2, J3⟩ := JS0 F0 H
  have e0 : L2.start N [.ref a] = [some (.ref a), none] := by
    unfold L2.start
    rw [hm]
    rfl
  rw [e0]
  have S0 := sr_bdk (o := none) (.refl ex) hA
  refine J1 F0 H _ _ _ S0 ?_
  unfold dDupD at post
  cases q1 : dm [.bdk d, .no] with
  | stuck => rw [q1] at post; exact post.elim
  | exc n p =>
    rw [q1] at post
    have p2 : XPost HasK.mg (fun cls dd _ H' => E cls dd H') F0 H [] n p := post
    cases p with
    | none => exact p2
    | some y => exact p2
  | ok d1 =>
    rw [q1] at post
    intro a1 F1 H1 n1
    obtain ⟨net, stock, ss, k1, dx, b, vn, vs, xs, rfl, g1, g2, g3, g4, g5, g6⟩ := id n1.dk
    have S1 := S0.newDsk n1 1
    refine J2 F1 H1 _ _ _ S1 ?_
    have post1 : PostC (fun cls dd _ H' => E cls dd H') [] F0 H Q (match dl [.bdk d, .dsk (deskD net stock ss k1)] with
      | .ok (.list steps) => (match dn [.bdk d, .no] with
        | .ok (.int k) => .ok (deskD net stock steps k)
        | _ => .stuck)
      | _ => .stuck) := post
    show PostN HasK.mg _ F1 H1 _ _ (dl [.bdk d, .dsk (deskD net stock ss k1)])
    cases q2 : dl [.bdk d, .dsk (deskD net stock ss k1)] with
    | stuck => rw [q2] at post1; exact post1.elim
    | exc n p => rw [q2] at post1; exact post1.elim
    | ok dl1 =>
      rw [q2] at post1
      cases dl1 with
      | list steps =>
        intro b1 F2 H2 s2 hb1 fb1 ho
        obtain ⟨ys, k5, k6⟩ := ho
        have e1 := n1.nw
        have na : Fd H1 a1 a1 := .inl rfl
        have ndx : Fd H1 a1 dx := .inr ⟨_, _, _, _, _, _, g1, .inl rfl⟩
        have fa2 : F2 a1 = none := by
          cases z : F2 a1 with
          | none => rfl
          | some o => have := s2.new a1 (e1 a1 na).2 (by rw [z]; exact fun y => nomatch y); rw [g1] at this; cases this
        have fd2 : F2 dx = none := by
          cases z : F2 dx with
          | none => rfl
          | some o => have := s2.new dx (e1 dx ndx).2 (by rw [z]; exact fun y => nomatch y); rw [g2] at this; cases this
        have nab : a1 ≠ b1 := fun z => by rw [z, hb1] at g1; cases g1
        have ndb : dx ≠ b1 := fun z => by rw [z, hb1] at g2; cases g2
        have nda : dx ≠ a1 := fun z => by rw [z, g1] at g2; cases g2
        refine ⟨.ref a1, rfl, a1, dskC, dx, _, rfl, s2.hh _ _ g1, hD.cls, hD.steps, show (4 : Nat) < 1000 by decide, ?_⟩
        have st3 : Step F0 H F2 (upd H2 a1 (.ins dskC dx (dF vn vs b1 k1))) := by
          have t := n1.st.trans s2
          exact ⟨t.ff, t.fh.over fa2, t.hh.over (e1 a1 na).1, t.new⟩
        refine J3 F2 _ _ _ _ (sr_bdk (o := some (.ref a1)) st3 hA) ?_
        show PostG RF HasK.mg _ F2 _ _ _ (dn [.bdk d, .no])
        have post2 : PostC (fun cls dd _ H' => E cls dd H') [] F0 H Q (match dn [.bdk d, .no] with
          | .ok (.int k) => .ok (deskD net stock steps k)
          | _ => .stuck) := post1
        cases q3 : dn [.bdk d, .no] with
        | stuck => rw [q3] at post2; exact post2.elim
        | exc n p => rw [q3] at post2; exact post2.elim
        | ok dn1 =>
          rw [q3] at post2
          cases dn1 with
          | int kk =>
            intro v3 F3 H3 s3 r3
            cases r3
            have ga : H3 a1 = some (.ins dskC dx (dF vn vs b1 k1)) := s3.hh _ _ upd_same
            have fa3 : F3 a1 = none := by
              cases z : F3 a1 with
              | none => rfl
              | some o => have := s3.new a1 fa2 (by rw [z]; exact fun y => nomatch y); rw [upd_same] at this; cases this
            have fd3 : F3 dx = none := by
              cases z : F3 dx with
              | none => rfl
              | some o => have := s3.new dx fd2 (by rw [z]; exact fun y => nomatch y); rw [upd_ne nda, s2.hh _ _ g2] at this; cases this
            have fb3 : F3 b1 = none := by
              cases z : F3 b1 with
              | none => rfl
              | some o => have := s3.new b1 fb1 (by rw [z]; exact fun y => nomatch y); rw [upd_ne nab.symm, k5] at this; cases this
            refine ⟨.ref a1, rfl, a1, dskC, dx, _, rfl, ga, hD.cls, hD.kept, show (4 : Nat) < 1000 by decide, .ref a1, rfl, ?_⟩
            have t := st3.trans s3
            have p3 : ∀ a F' H', NewD F0 H F' H' a (deskD net stock steps kk) → Q (.ref a) H' := post2
            refine p3 a1 F3 _ ⟨⟨t.ff, t.fh.over fa3, t.hh.over (e1 a1 na).1, t.new⟩, ⟨net, stock, steps, kk, dx, b1, vn, vs, ys, rfl, upd_same, ?_, g3.mono (s2.ff.trans s3.ff), g4.mono (s2.ff.trans s3.ff), ?_, k6.mono s3.ff⟩, fun y hy => ?_⟩
            · rw [upd_ne nda]; exact s3.hh _ _ (by rw [upd_ne nda]; exact s2.hh _ _ g2)
            · rw [upd_ne nab.symm]; exact s3.hh _ _ (by rw [upd_ne nab.symm]; exact k5)
            · rcases Fd.inv (H := upd H3 a1 (.ins dskC dx (putF "kept" (.int kk) (dF vn vs b1 k1)))) (vn := vn) (vs := vs) (k := kk) (b := b1) upd_same hy with rfl | rfl | rfl
              · exact ⟨(e1 _ na).1, fa3⟩
              · exact ⟨(e1 _ ndx).1, fd3⟩
              · exact ⟨n1.st.hh.back hb1, fb3⟩
          | _ => exact post2.elim
      | _ => exact post1.elim
end
end RD

end
section
namespace RD
open PySem PySem.Spec L2 PyProof.Rows
variable [HasK]
structure MtDp (P : Program) (w : World) (K : PySem.W.Frag) (mg : Str → Option Value) (base : Heap) (k : Nat) (C : Addr) (m : Str) (den : D → Res D) : Prop where
  ex : ∃ (f : Addr) (fd : FuncData) (ps : List Str), FnOk P w K mg base (L2.CX P w) k f fd ps (spKDp P w K mg den) ∧ Meth K C m f ∧ Binds K fd ps []
def dDupC (i : Nat) (den : D → Res D) : DE := fun δ => (dSelf i δ).bind fun d => den d
section
variable {c : Cc} {pos p ap : Pos} {x : Str} {den : D → Res D}
theorem jc_dup {k j : Nat} (W : WX) (hW : c.W = W) (i : Nat) {m : Str} (hD : DkK) (G : MtDp c.X.prog c.X.w c.X.K c.X.mg c.X.base k dskC m den) (hr : Room j c.X.A) (hk : k ≤ j) (tk : Takes c.X c.W) (hf : noFld m := by exact fun _ _ _ _ => rfl)
    (hN : c.X.N[i]? = some x := by rfl) (hv : Vis c.X.env.scope x := by first | exact Or.inl rfl | exact Or.inr (Or.inl rfl) | exact Or.inr (Or.inr rfl)) (hd : (x == ("__debug__" : Str)) = false := by decide)
    (hcd : (x == ("__classdict__" : Str)) = false := by decide) (pl : Sem Bool)
    (ht : eval (.Call (.Attribute (.Name x p) m ap) [] [] pos) c.X.env = (do
      let ov ← eval (.Name x p) c.X.env
      standAt ap.atName
      let (f, first) ← holding [ov] (getMethod ov m pl)
      callWith pos f first (backTo pos (starEach [] c.X.env)) (backToKw pos (keywordEach [] c.X.env))) := by rfl) :
    JC c (.Call (.Attribute (.Name x p) m ap) [] [] pos) (tMethS dskC m (spDp den) (WE W) (tVar i) tNil) (dDupC i den) := by
  subst hW
  obtain ⟨f, fd, ps, h1, h2, h3⟩ := G.ex
  rw [spKDp_eq c.hK c.hM c.hP c.hw] at h1
  have hc := hD.cls
  rw [← c.hK] at hc
  refine ⟨pe_methS0 (pe_var hN hv hd hcd) hc h2 h1 (hr.mono hk) h3 (fun σ => passAt tk σ) ht, fun F H σ δ Q S P => sim_self.goc S P fun F1 H1 v d s1 S1 hv P1 => ?_⟩
  obtain ⟨a, rfl, hA⟩ := hv
  obtain ⟨net, stock, steps, k, dx, b, vn, vs, xs, rfl, g1, _⟩ := id hA
  refine ⟨a, dx, _, rfl, g1, hf _ _ _ _, rfl, F1, a, _, rfl, S1.fh, hA, ?_⟩
  cases q : den (deskD net stock steps k) with
  | ok z => rw [q] at P1; exact P1
  | stuck => rw [q] at P1; exact P1
  | exc n p =>
    rw [q] at P1
    have P2 : XPost HasK.mg c.W F1 H1 σ n p := P1
    cases p with
    | none => exact P2
    | some y => exact P2
/-- a new desk, compared at once -/
def vNew (da : DE) : DEnv → Res Sl := fun δ => (da δ).bind fun x => .ok (.bdk x)
theorem jv_new {e : Expr} {t : TE} {da : DE} (h : JC c e t da) : JV c e t (vNew da) := ⟨h.p, fun F H σ δ Q S P => h.s F H σ δ Q S (by
  unfold vNew at P
  cases q : da δ with
  | stuck => rw [q] at P; exact P
  | exc n p => rw [q] at P; exact P
  | ok d =>
    rw [q] at P
    have P' : ∀ v F' H', Step F H F' H' → ArgS F' H' [v] [.bdk d] → Q v H' := P
    exact fun a F' H' n => P' _ F' H' n.st (.bdk n.dk .nil))⟩
/-- C(..).m(), the desk is dropped -/
def dMethN (den : D → List D → RM) (da : DE) : DE := fun δ => (da δ).bind fun d => match den d [] with
  | .ok r _ => .ok r
  | .exc n p => .exc n p
  | .stuck => .stuck
theorem je_methN {k j : Nat} (W : WX) (hW : c.W = W) {m : Str} {o : Expr} {to : TE} {da : DE} {dm : D → List D → RM} (hD : DkK) (G : MtM c.X.prog c.X.w c.X.K c.X.mg c.X.base k dskC m 0 dm) (hr : Room j c.X.A) (hk : k ≤ j) (tk : Takes c.X c.W) (ho : JC c o to da) (hf : noFld m := by exact fun _ _ _ _ => rfl) (pl : Sem Bool)
    (ht : eval (.Call (.Attribute o m ap) [] [] pos) c.X.env = (do
      let ov ← eval o c.X.env
      standAt ap.atName
      let (f, first) ← holding [ov] (getMethod ov m pl)
      callWith pos f first (backTo pos (starEach [] c.X.env)) (backToKw pos (keywordEach [] c.X.env))) := by rfl) :
    JE c (.Call (.Attribute o m ap) [] [] pos) (tMethS dskC m (spM 0 dm) (WE W) to tNil) (dMethN dm da) := by
  subst hW
  obtain ⟨f, fd, ps, h1, h2, h3⟩ := G.ex
  rw [spKM_eq c.hK c.hM c.hP c.hw] at h1
  have hc := hD.cls
  rw [← c.hK] at hc
  refine ⟨pe_methS0 ho.p hc h2 h1 (hr.mono hk) h3 (fun σ => passAt tk σ) ht, fun F H σ δ Q S P => ho.s F H σ δ _ S ?_⟩
  unfold dMethN at P
  cases q : da δ with
  | stuck => rw [q] at P; exact P
  | exc n p => rw [q] at P; exact P
  | ok d =>
    rw [q] at P
    intro a F1 H1 n1
    obtain ⟨net, stock, steps, k, b, rfl, hm, fb⟩ := n1.dk.m
    obtain ⟨dx, vn, vs, ys, g1, g2, g3, g4, g5, g6⟩ := id hm.ex
    refine ⟨a, dx, _, rfl, g1, hf _ _ _ _, rfl, F1, a, [], [], net, stock, steps, k, b, rfl, n1.st.fh, hm, (n1.nw b fb).2, .nil, ?_⟩
    have P' : PostG RF HasK.mg c.W F H σ Q (match dm (deskD net stock steps k) [] with
      | .ok r _ => .ok r
      | .exc n p => .exc n p
      | .stuck => .stuck) := P
    cases q2 : dm (deskD net stock steps k) [] with
    | stuck => rw [q2] at P'; exact P'
    | exc n p =>
      rw [q2] at P'
      have P2 : XPost HasK.mg c.W F1 H1 σ n p := XPost.step n1.st P'
      cases p with
      | none => exact P2
      | some y => exact P2
    | ok r ss =>
      rw [q2] at P'
      have P2 : ∀ v F' H', Step F H F' H' → Rp F' v r → Q v H' := P'
      intro v F' H' xs' _ st r'
      refine P2 v F' H' (Step.trans ⟨n1.st.ff, n1.st.fh.over (n1.nw b fb).2, n1.st.hh.over (n1.nw b fb).1, n1.st.new⟩ st) r'
end
end RD

end
section
namespace RD
open PySem PySem.Spec L2 PyProof.Rows
variable [HasK]
/-! ### duplicate, as it is printed -/
section
variable {P : Program} {w : World} {K : PySem.W.Frag} {mg : Str → Option Value} {base : Heap}
theorem fn_dupP {x qual : Str} {st : Stmt} {f : Addr} {fd : FuncData} {N ps : List Str} {k : Nat} {dm dl dn : DE} (F : Fun K x qual st f fd) (S : FnScope N ps (defScope st)) (hn : ps.length = 1) (hm : N.length = 2) (hD : @DkK ⟨K, mg, P, w⟩)
    (hbody : ∀ (cdv : Value) (A : Around) (outer : List Env) (s : Shared) (H : Hp) (E : XK), Room k (A.deeper (PyProof.Rows.envOfC qual (defScope st) s.heap.objs.size f cdv)) →
      ∃ e1 e2 e3 t1 t2 t3, (PE (cxOf (L2.CX P w) P w K mg base N qual (defScope st) f cdv A outer s H E) e1 t1 → PE (cxOf (L2.CX P w) P w K mg base N qual (defScope st) f cdv A outer s H E) e2 t2 → PE (cxOf (L2.CX P w) P w K mg base N qual (defScope st) f cdv A outer s H E) e3 t3 →
          PSs (cxOf (L2.CX P w) P w K mg base N qual (defScope st) f cdv A outer s H E) (defBody st) (tDupB K t1 t2 t3)) ∧
        (@JC ⟨K, mg, P, w⟩ (ccAt P w K mg (cxOf (L2.CX P w) P w K mg base N qual (defScope st) f cdv A outer s H E) (fun cls d _ H' => E cls d H') rfl rfl rfl rfl hp0 hp0) e1 t1 dm ∧
          @JN ⟨K, mg, P, w⟩ (ccAt P w K mg (cxOf (L2.CX P w) P w K mg base N qual (defScope st) f cdv A outer s H E) (fun cls d _ H' => E cls d H') rfl rfl rfl rfl hp0 hp0) e2 t2 dl ∧
          @JE ⟨K, mg, P, w⟩ (ccAt P w K mg (cxOf (L2.CX P w) P w K mg base N qual (defScope st) f cdv A outer s H E) (fun cls d _ H' => E cls d H') rfl rfl rfl rfl hp0 hp0) e3 t3 dn) ∧ ∀ F0 H0,
          @JC ⟨K, mg, P, w⟩ (ccAt P w K mg (cxOf (L2.CX P w) P w K mg base N qual (defScope st) f cdv A outer s H E) (fun cls d _ H' => E cls d H') rfl rfl rfl rfl F0 H0) e1 t1 dm ∧
          @JN ⟨K, mg, P, w⟩ (ccAt P w K mg (cxOf (L2.CX P w) P w K mg base N qual (defScope st) f cdv A outer s H E) (fun cls d _ H' => E cls d H') rfl rfl rfl rfl F0 H0) e2 t2 dl ∧
          @JE ⟨K, mg, P, w⟩ (ccAt P w K mg (cxOf (L2.CX P w) P w K mg base N qual (defScope st) f cdv A outer s H E) (fun cls d _ H' => E cls d H') rfl rfl rfl rfl F0 H0) e3 t3 dn) : FnOk P w K mg base (L2.CX P w) (k + 1) f fd ps (spKDp P w K mg (dDupD dm dl dn)) :=
  fn_dup F S hn hm hD fun cdv A outer s H E hr => by
    letI : HasK := ⟨K, mg, P, w⟩
    obtain ⟨e1, e2, e3, t1, t2, t3, h1, _, h2⟩ := hbody cdv A outer s H E hr
    obtain ⟨k1, k2, k3⟩ := h2 hp0 hp0
    exact ⟨t1, t2, t3, h1 k1.p k2.p k3.p, fun F0 H0 => let ⟨k1, k2, k3⟩ := h2 F0 H0; ⟨k1.s, k2.s, k3.s⟩⟩
end
/-! ### x, y = E1, E2, both new desks -/
section
variable {c : Cc} {e e2 : Expr} {pos : Pos} {ta tb : TE} {da db : DE}
theorem js_setC2P {i j : Nat} {x y : Str} {p1 p2 pt qt : Pos} {kt kq : Nat} (ha : JC c e ta da) (hb : JC c e2 tb db)
    (hp : PA c.X [e, e2] (tCons ta (tCons tb tNil)) → PS c.X (.Assign [.Tuple [.Name x p1, .Name y p2] kt pt] (.Tuple [e, e2] kq qt) pos) (tPar i j (tCons ta (tCons tb tNil))))
    (h1 : starEach [e, e2] c.X.env = (false, eval e c.X.env) :: starEach [e2] c.X.env := by rfl) (h2 : starEach [e2] c.X.env = (false, eval e2 c.X.env) :: starEach [] c.X.env := by rfl) :
    JS c (.Assign [.Tuple [.Name x p1, .Name y p2] kt pt] (.Tuple [e, e2] kq qt) pos) (tPar i j (tCons ta (tCons tb tNil))) (dSetC2 i j da db) := by
  refine ⟨hp (pa_cons ha.p (pa_cons hb.p pa_nil h2) h1), fun F H σ δ D S P => ha.s F H σ δ _ S ?_⟩
  unfold dSetC2 at P
  cases q1 : da δ with
  | stuck => rw [q1] at P; exact P
  | exc n p => rw [q1] at P; exact XPost.ofS S P
  | ok d1 =>
    rw [q1] at P
    have P1 : PostS c F D ((db δ).out δ fun y => .next ((δ.set i (.dsk d1)).set j (.dsk y))) := P
    intro a1 F1 H1 n1
    refine hb.s F1 H1 σ δ _ (S.step n1.st) ?_
    cases q2 : db δ with
    | stuck => rw [q2] at P1; exact P1
    | exc n p => rw [q2] at P1; exact XPost.ofS (S.step n1.st) (PostS.up n1.st.ff P1)
    | ok d2 =>
      rw [q2] at P1
      intro a2 F2 H2 n2
      have S2 := (S.newDsk n1 i).newDsk n2 j
      exact ⟨_, _, rfl, P1 _ F2 H2 (n1.st.ff.trans n2.st.ff) S2⟩
end
end RD

end
section
namespace RD
open PySem PySem.Spec L2 PyProof.Rows
/-! ### isinstance(e, C), e caught: with or without a dict of its own -/
def tIsA (K : PySem.W.Frag) (Dc : Addr) (d : Option Addr) (a : Addr) (i : Nat) (cv : Value) : TE := fun σ H Q => σ[i]? = some (some (.ref a)) ∧ (∀ dd, d = some dd → ∃ fs, H dd = some (.xd fs)) ∧ ∃ b, PySem.W.kitOne K (.ref Dc) cv = some b ∧ Q (.bl b) H
section
variable {X : Cx} {pos p p1 p2 : Pos} {n x : Str} {i : Nat} {C Dc a : Addr} {d : Option Addr} {oe : Obj} {pn : List (Addr × Obj)}
theorem pe_isA (hg : Gl X "isinstance") (hm : X.mg "isinstance" = none) (hN : X.N[i]? = some n) (hv : Vis X.env.scope n) (hd : (n == ("__debug__" : Str)) = false) (hcd : (n == ("__classdict__" : Str)) = false)
    (gx : Gl X x) (mx : X.mg x = some (.ref C)) (dx : (x == ("__debug__" : Str)) = false) (E : ExcC X.K Dc) (hz : Zc (.ref Dc) d oe) (hf : ∃ vs, oe.data = .fields vs) :
    PE (X.suite a ((a, oe) :: pn)) (.Call (.Name "isinstance" p) [.Name n p1, .Name x p2] [] pos) (tIsA X.K Dc d a i (.ref C)) := by
  refine ⟨fun pins s σ H Q I h => ?_⟩
  obtain ⟨h1, h2, b, h3, h4⟩ := h
  cases d with
  | none =>
    letI : HasK := ⟨X.K, X.mg, X.prog, X.w⟩
    exact (pe_isE hg hm hN hv hd hcd gx mx dx E hz hf).run pins s σ H Q I ⟨_, h1, .ref C, .ref C, b, rfl, fun u hu => hu, h3, h4⟩
  | some dd => exact (pe_isD hg hm hN hv hd hcd gx mx dx E hz hf).run pins s σ H Q I ⟨_, h1, h2 dd rfl, .ref C, .ref C, b, rfl, fun u hu => hu, h3, h4⟩
theorem pe_isB (hg : Gl X "isinstance") (hm : X.mg "isinstance" = none) (hN : X.N[i]? = some n) (hv : Vis X.env.scope n) (hd : (n == ("__debug__" : Str)) = false) (hcd : (n == ("__classdict__" : Str)) = false)
    (gx : Gl X "ValueError") (mx : X.mg "ValueError" = none) (E : ExcC X.K Dc) (hz : Zc (.ref Dc) d oe) (hf : ∃ vs, oe.data = .fields vs) :
    PE (X.suite a ((a, oe) :: pn)) (.Call (.Name "isinstance" p) [.Name n p1, .Name "ValueError" p2] [] pos) (tIsA X.K Dc d a i (.type "ValueError")) := by
  have pa : PA (X.suite a ((a, oe) :: pn)) [.Name n p1, .Name "ValueError" p2] (tCons (tVar i) (tCons (tC (.ty "ValueError")) tNil)) :=
    pa_cons (pe_var (X := X.suite a ((a, oe) :: pn)) hN hv hd hcd) (pa_cons (pe_bltn (X := X.suite a ((a, oe) :: pn)) (v := .ty "ValueError") (u := .type "ValueError") gx mx (by decide +kernel) rfl) pa_nil (by rfl)) (by rfl)
  refine ⟨fun pins s σ H Q I h => ?_⟩
  obtain ⟨h1, h2, b, h3, h4⟩ := h
  cases d with
  | none => exact (pe_callB (X := X.suite a ((a, oe) :: pn)) (id := "isinstance") (call_isE E hz hf) hg hm (by decide +kernel) pa (by decide) (by decide) (by rfl) (by rfl)).run pins s σ H Q I ⟨_, h1, .ty "ValueError", .type "ValueError", b, rfl, fun u hu => hu, h3, h4⟩
  | some dd => exact (pe_callB (X := X.suite a ((a, oe) :: pn)) (id := "isinstance") (call_isD E hz hf) hg hm (by decide +kernel) pa (by decide) (by decide) (by rfl) (by rfl)).run pins s σ H Q I ⟨_, h1, h2 dd rfl, .ty "ValueError", .type "ValueError", b, rfl, fun u hu => hu, h3, h4⟩
end
end RD
namespace RD
open PySem PySem.Spec L2 PyProof.Rows
section
variable {K : PySem.W.Frag} {Dc a : Addr} {d : Option Addr} {i : Nat} {c1 c2 c3 : Value} {b1 b2 b3 : Bool} {σ : L2.St} {H : Hp} {Q : VK}
def XdH (d : Option Addr) (H : Hp) : Prop := ∀ dd, d = some dd → ∃ fs, H dd = some (.xd fs)
theorem XdH.put {p : Addr} {o : HO} (h : XdH d H) (hp : H p = none) : XdH d (upd H p o) := fun dd e => by
  obtain ⟨fs, hf⟩ := h dd e
  refine ⟨fs, ?_⟩
  rw [upd_ne (by rintro rfl; rw [hp] at hf; cases hf)]
  exact hf
theorem rd_is3 {P : List V → Hp → Prop} (hs : σ[i]? = some (some (.ref a))) (hx : XdH d H) (k1 : PySem.W.kitOne K (.ref Dc) c1 = some b1) (k2 : PySem.W.kitOne K (.ref Dc) c2 = some b2) (k3 : PySem.W.kitOne K (.ref Dc) c3 = some b3)
    (h : P [.bl b1, .bl b2, .bl b3] H) : tCons (tIsA K Dc d a i c1) (tCons (tIsA K Dc d a i c2) (tCons (tIsA K Dc d a i c3) tNil)) σ H P :=
  ⟨hs, hx, b1, k1, hs, hx, b2, k2, hs, hx, b3, k3, h⟩
theorem rd_lst3 (hs : σ[i]? = some (some (.ref a))) (hx : XdH d H) (k1 : PySem.W.kitOne K (.ref Dc) c1 = some b1) (k2 : PySem.W.kitOne K (.ref Dc) c2 = some b2) (k3 : PySem.W.kitOne K (.ref Dc) c3 = some b3)
    (h : ∀ p, H p = none → Q (.ref p) (upd H p (.lst [.bl b1, .bl b2, .bl b3]))) : tLst (tCons (tIsA K Dc d a i c1) (tCons (tIsA K Dc d a i c2) (tCons (tIsA K Dc d a i c3) tNil))) σ H Q :=
  rd_is3 hs hx k1 k2 k3 ⟨by show 3 ≤ sizeLine; rw [sizeLine_eq]; decide, h⟩
end
end RD
namespace RD
open PySem PySem.Spec L2 PyProof.Rows
section
variable {K : PySem.W.Frag} {Dc a l : Addr} {d : Option Addr} {i j : Nat} {c1 c2 c3 : Value} {b1 b2 b3 : Bool} {σ : L2.St} {H : Hp} {Q : VK} {xs : List V}
theorem rd_add (hv : σ[j]? = some (some (.ref l))) (hl : H l = some (.lst xs)) (hn : xs.length ≤ 100) (hs : σ[i]? = some (some (.ref a))) (hx : XdH d H) (k1 : PySem.W.kitOne K (.ref Dc) c1 = some b1) (k2 : PySem.W.kitOne K (.ref Dc) c2 = some b2) (k3 : PySem.W.kitOne K (.ref Dc) c3 = some b3)
    (h : ∀ q p, H q = none → upd H q (.lst [.bl b1, .bl b2, .bl b3]) p = none → Q (.ref p) (upd (upd H q (.lst [.bl b1, .bl b2, .bl b3])) p (.lst (xs ++ [.bl b1, .bl b2, .bl b3])))) :
    tOp (rAddA K) (tVar j) (tLst (tCons (tIsA K Dc d a i c1) (tCons (tIsA K Dc d a i c2) (tCons (tIsA K Dc d a i c3) tNil)))) σ H Q := by
  refine ⟨_, hv, rd_lst3 hs hx k1 k2 k3 fun q hq => .inr (.inr (.inl ⟨l, q, xs, [.bl b1, .bl b2, .bl b3], rfl, rfl, ?_⟩))⟩
  have e1 : upd H q (.lst [.bl b1, .bl b2, .bl b3]) l = some (.lst xs) := by
    rw [upd_ne (by rintro rfl; rw [hq] at hl; cases hl)]
    exact hl
  exact ⟨e1, upd_same, by rw [sizeLine_eq]; simp; omega, fun p hp => h q p hq hp⟩
end
end RD
namespace RD
open PySem PySem.Spec L2 PyProof.Rows
variable [HasK]
section
variable {K : PySem.W.Frag} {Dc a : Addr} {d : Option Addr} {i jf ju jl jm : Nat}
abbrev tIs3 (K : PySem.W.Frag) (Dc : Addr) (d : Option Addr) (a : Addr) (i : Nat) (c1 c2 c3 : Value) : TE := tLst (tCons (tIsA K Dc d a i c1) (tCons (tIsA K Dc d a i c2) (tCons (tIsA K Dc d a i c3) tNil)))
def bodyK (K : PySem.W.Frag) (Dc : Addr) (d : Option Addr) (a : Addr) (i jf ju jl jm : Nat) (tl : TE) (s2 : Str) (c : Nat → Value) : TS :=
  tSeq (tAsg (tIs3 K Dc d a i (c 0) (c 1) (c 2)) (gName jf)) (tSeq (tAsg (tOp (rAddA K) (tVar jf) (tIs3 K Dc d a i (c 3) (c 4) (c 5))) (gName jf))
  (tSeq (tAsg (tOp (rAddA K) (tVar jf) (tIs3 K Dc d a i (c 6) (c 7) (c 8))) (gName jf)) (tSeq (tAsg (tOp (rAddA K) (tVar jf) (tIs3 K Dc d a i (c 9) (c 10) (c 11))) (gName jf))
  (tSeq (tAsg (tOp (rAddA K) (tVar jf) (tIs3 K Dc d a i (c 12) (c 13) (c 14))) (gName jf)) (tSeq (tDrop (tBM K "list" rAppend (tVar jf) (tCons (tIsA K Dc d a i (c 15)) tNil)))
  (tSeq (tAsg (tIsA K Dc d a i (.type "ValueError")) (gName ju)) (tSeq (tAsg (tIf (tTest (tOp (rEqA K) (tVar jm) (tC (.int 14)))) tl (tC (.str s2))) (gName jl)) tNext)))))))
theorem Ex.put2 {H : Hp} {p q : Addr} {o o' : HO} (hq : H q = none) (hp : upd H q o p = none) : Ex H (upd (upd H q o) p o') := (Ex.put hq).trans (.put hp)
/-- one more `found + [..]` -/
theorem rd_next {D : Ends} {σ : L2.St} {H0 H : Hp} {l : Addr} {xs : List V} {c1 c2 c3 : Value} {b1 b2 b3 : Bool} (hj : jf < σ.length) (ne : i ≠ jf) (hs : σ[i]? = some (some (.ref a))) (hx : XdH d H) (e0 : Ex H0 H) (hl : H l = some (.lst xs)) (hn : xs.length ≤ 100)
    (k1 : PySem.W.kitOne K (.ref Dc) c1 = some b1) (k2 : PySem.W.kitOne K (.ref Dc) c2 = some b2) (k3 : PySem.W.kitOne K (.ref Dc) c3 = some b3)
    (h : ∀ p H', H0 p = none → Ex H0 H' → XdH d H' → H' p = some (.lst (xs ++ [.bl b1, .bl b2, .bl b3])) → D.nx (σ.set jf (some (.ref p))) H') :
    tAsg (tOp (rAddA K) (tVar jf) (tIs3 K Dc d a i c1 c2 c3)) (gName jf) D (σ.set jf (some (.ref l))) H := by
  refine rd_add (l := l) (xs := xs) (set_at hj) hl hn (by rw [List.getElem?_set_ne (Ne.symm ne)]; exact hs) hx k1 k2 k3 fun q p hq hp => ?_
  show D.nx ((σ.set jf (some (.ref l))).set jf (some (.ref p))) _
  rw [List.set_set]
  have hp0 : H p = none := (Ex.put hq).back hp
  exact h p _ (e0.back hp0) (e0.trans (Ex.put2 hq hp)) ((hx.put hq).put hp) upd_same
def bl3 (b : Nat → Bool) (k : Nat) : List V := [.bl (b k), .bl (b (k + 1)), .bl (b (k + 2))]
theorem seq_i {t u : TS} {D : Ends} {σ : L2.St} {H : Hp} (h : t { D with nx := u D } σ H) : tSeq t u D σ H := h
theorem asg_i {te : TE} {g : TG} {D : Ends} {σ : L2.St} {H : Hp} (h : te σ H fun x H1 => g x σ H1 D.nx) : tAsg te g D σ H := h
theorem rd_body {D : Ends} {σ : L2.St} {H : Hp} {tl : TE} {s2 : Str} {c : Nat → Value} {b : Nat → Bool} {m : Int} {vl : V} {bu : Bool} (hj : jf < σ.length) (n1 : i ≠ jf) (n2 : i ≠ ju) (n3 : jm ≠ jf) (n4 : jm ≠ ju) (hs : σ[i]? = some (some (.ref a))) (hx : XdH d H) (hm : σ[jm]? = some (some (.int m)))
    (hk : ∀ n, n < 16 → PySem.W.kitOne K (.ref Dc) (c n) = some (b n)) (hu : PySem.W.kitOne K (.ref Dc) (.type "ValueError") = some bu)
    (hl : ∀ (σ' : L2.St) (H' : Hp) (Q : VK), σ'[i]? = some (some (.ref a)) → Ex H H' → Q vl H' → tIf (fun _ H Q => Q (decide (m = 14)) H) tl (tC (.str s2)) σ' H' Q)
    (h : ∀ p H', H p = none → Ex H H' → H' p = some (.lst (bl3 b 0 ++ bl3 b 3 ++ bl3 b 6 ++ bl3 b 9 ++ bl3 b 12 ++ [.bl (b 15)])) → D.nx (((σ.set jf (some (.ref p))).set ju (some (.bl bu))).set jl (some vl)) H') :
    bodyK K Dc d a i jf ju jl jm tl s2 c D σ H := by
  unfold bodyK
  refine seq_i (asg_i (rd_lst3 hs hx (hk 0 (by omega)) (hk 1 (by omega)) (hk 2 (by omega)) fun p1 h1 => ?_))
  change tSeq _ _ D (σ.set jf _) _
  refine seq_i (rd_next (H0 := H) hj n1 hs (hx.put h1) (.put h1) upd_same (by simp) (hk 3 (by omega)) (hk 4 (by omega)) (hk 5 (by omega)) fun p2 H2 f2 e2 x2 g2 => ?_)
  change tSeq _ _ D (σ.set jf _) _
  refine seq_i (rd_next (H0 := H) hj n1 hs x2 e2 g2 (by simp) (hk 6 (by omega)) (hk 7 (by omega)) (hk 8 (by omega)) fun p3 H3 f3 e3 x3 g3 => ?_)
  change tSeq _ _ D (σ.set jf _) _
  refine seq_i (rd_next (H0 := H) hj n1 hs x3 e3 g3 (by simp) (hk 9 (by omega)) (hk 10 (by omega)) (hk 11 (by omega)) fun p4 H4 f4 e4 x4 g4 => ?_)
  change tSeq _ _ D (σ.set jf _) _
  refine seq_i (rd_next (H0 := H) hj n1 hs x4 e4 g4 (by simp) (hk 12 (by omega)) (hk 13 (by omega)) (hk 14 (by omega)) fun p5 H5 f5 e5 x5 g5 => ?_)
  have s5 : (σ.set jf (some (.ref p5)))[i]? = some (some (.ref a)) := by rw [List.getElem?_set_ne (Ne.symm n1)]; exact hs
  refine ⟨.ref p5, set_at hj, tyL g5, s5, x5, b 15, hk 15 (by omega), p5, _, _, rfl, rfl, g5, by rw [sizeLine_eq]; simp, ?_⟩
  have s6 : Ex H (upd H5 p5 (.lst (bl3 b 0 ++ bl3 b 3 ++ bl3 b 6 ++ bl3 b 9 ++ bl3 b 12 ++ [.bl (b 15)]))) := e5.over f5
  have x6 : XdH d (upd H5 p5 (.lst (bl3 b 0 ++ bl3 b 3 ++ bl3 b 6 ++ bl3 b 9 ++ bl3 b 12 ++ [.bl (b 15)]))) := fun dd e => by
    obtain ⟨fs, hf⟩ := x5 dd e
    refine ⟨fs, ?_⟩
    rw [upd_ne (by rintro rfl; rw [g5] at hf; cases hf)]
    exact hf
  refine ⟨s5, x6, bu, hu, ?_⟩
  have m7 : ((σ.set jf (some (.ref p5))).set ju (some (.bl bu)))[jm]? = some (some (.int m)) := by rw [List.getElem?_set_ne (Ne.symm n4), List.getElem?_set_ne (Ne.symm n3)]; exact hm
  have s7 : ((σ.set jf (some (.ref p5))).set ju (some (.bl bu)))[i]? = some (some (.ref a)) := by rw [List.getElem?_set_ne (Ne.symm n2)]; exact s5
  have fin := hl _ _ (fun v H1 => D.nx (((σ.set jf (some (.ref p5))).set ju (some (.bl bu))).set jl (some v)) H1) s7 s6 (h p5 _ f5 s6 upd_same)
  refine ⟨.int m, m7, .inl ⟨rfl, decide (m = 14), by rw [vint_inj], ?_⟩⟩
  exact fin
end
end RD

end
section
namespace RD
open PySem PySem.Spec L2 PyProof.Rows
variable [HasK]
/-! ### try: .. except NetError as e: found = [isinstance(e, ..) ..]; is_under = isinstance(e, ValueError); line_here = e.line if mode == 14 else s2 -/
structure HdS where
  c : Str
  cs : List Str
  f : Str
  s2 : Str
def bsD (b : Nat → Bool) : List D := [.bool (b 0), .bool (b 1), .bool (b 2), .bool (b 3), .bool (b 4), .bool (b 5), .bool (b 6), .bool (b 7), .bool (b 8), .bool (b 9), .bool (b 10), .bool (b 11), .bool (b 12), .bool (b 13), .bool (b 14), .bool (b 15)]
def lineD (h : HdS) (n : Str) (m : Int) : Option (Str × D) → Option D
  | none => if m = 14 then none else some (.str h.s2)
  | some (f, d) => if n = "ParseError" ∧ f = h.f then some (if m = 14 then d else .str h.s2) else none
def dTryS (i jf ju jl jm : Nat) (ds : DS) (known : List Str) (h : HdS) : DS := fun δ => match ds δ with
  | .exc n p δ' => if n ∈ known ∧ i < δ'.length ∧ jf < δ'.length then (match δ'[jm]? with
    | some (.val (.int m)) => (match lineD h n m p with
      | some dl => .next ((((δ'.set i .no).set jf (.own (.list (bsD fun k => subB n (h.cs.getD k ""))))).set ju (.val (.bool true))).set jl (.val dl))
      | none => .stuck)
    | _ => .stuck) else .stuck
  | o => o
def clV (mg : Str → Option Value) (cs : List Str) (k : Nat) : Value := .ref (clA mg (cs.getD k ""))
def VaK (K : PySem.W.Frag) (mg : Str → Option Value) (l : List Str) : Prop := ∀ n ∈ l, PySem.W.kitOne K (.ref (clA mg n)) (.type "ValueError") = some true
def tNev : TE := fun _ _ _ => False
def tsS (K : PySem.W.Frag) (i jf ju jl jm : Nat) (f s2 : Str) (cv : Nat → Value) : TSx := fun a cls d D σ H => ∃ (Dc : Addr) (tl : TE), cls = .ref Dc ∧ ExcC K Dc ∧
  (tl = tNev ∨ ∃ dd, d = some dd ∧ XfC K Dc ∧ PySem.W.findIn K (.ref Dc) f = some none ∧ tl = tXf a (.ref Dc) (some dd) Dc f (tVar i)) ∧ bodyK K Dc d a i jf ju jl jm tl s2 cv D σ H
theorem rp_bs {F : Hp} {b : Nat → Bool} : RpAll F (bl3 b 0 ++ bl3 b 3 ++ bl3 b 6 ++ bl3 b 9 ++ bl3 b 12 ++ [.bl (b 15)]) (bsD b) :=
  .cons (.bl _) (.cons (.bl _) (.cons (.bl _) (.cons (.bl _) (.cons (.bl _) (.cons (.bl _) (.cons (.bl _) (.cons (.bl _) (.cons (.bl _) (.cons (.bl _) (.cons (.bl _) (.cons (.bl _) (.cons (.bl _) (.cons (.bl _) (.cons (.bl _) (.cons (.bl _) .nil)))))))))))))))
theorem set4 {α : Type} {l : List α} {i jf ju jl : Nat} {x y u v w : α} (h1 : i ≠ jf) (h2 : i ≠ ju) (h3 : i ≠ jl) : ((((l.set i x).set jf u).set ju v).set jl w).set i y = (((l.set i y).set jf u).set ju v).set jl w := by
  rw [List.set_comm _ _ h3.symm, List.set_comm _ _ h2.symm, List.set_comm _ _ h1.symm, List.set_set]
section
variable {c : Cc} {n : Str} {i jf ju jl jm : Nat} {known : List Str} {h : HdS} {body : List Stmt} {pos : Pos} {ds : DS}
/-- the handler is reached -/
theorem tryS_go {D : Ends} {F F' : Hp} {σ' : L2.St} {H' : Hp} {δ' : DEnv} {m : Str} {pl : Option Addr} {z : Int} {dl : PyData} {vl : V} {tl : TE} {a : Addr} (T : ExK c.X.K c.X.mg known) (V : VaK c.X.K c.X.mg known) (hcs : ∀ k, k < 16 → h.cs.getD k "" ∈ known)
    (n1 : i ≠ jf) (n2 : i ≠ ju) (n3 : i ≠ jl) (n4 : jm ≠ jf) (n5 : jm ≠ ju) (n6 : jm ≠ i) (hm : m ∈ known) (hil : i < δ'.length) (hjl : jf < δ'.length) (hz : δ'[jm]? = some (.val (.int z))) (e' : Ex F F') (S' : Sr c.F0 c.H0 F' H' σ' δ') (hx : XdH pl H') (rl : Rp F' vl dl)
    (hl : ∀ (σ2 : L2.St) (H2 : Hp) (Q : VK), σ2[i]? = some (some (.ref a)) → Ex H' H2 → Q vl H2 → tIf (fun _ H Q => Q (decide (z = 14)) H) tl (tC (.str h.s2)) σ2 H2 Q)
    (P : PostS c F D (.next ((((δ'.set i .no).set jf (.own (.list (bsD fun k => subB m (h.cs.getD k ""))))).set ju (.val (.bool true))).set jl (.val dl)))) :
    bodyK HasK.K (clA HasK.mg m) pl a i jf ju jl jm tl h.s2 (clV HasK.mg h.cs) (Ends.letGo D i) (σ'.set i (some (.ref a))) H' := by
  have e1 : clA HasK.mg = clA c.X.mg := by rw [c.hM]
  have hlen := S'.len
  refine rd_body (m := z) (vl := vl) (bu := true) (b := fun k => subB m (h.cs.getD k "")) (by rw [List.length_set, hlen]; exact hjl) n1 n2 n4 n5 (set_at (by rw [hlen]; exact hil)) hx ?_ (fun k hk => ?_) ?_ hl fun p H2 hp ex hL => ?_
  · obtain ⟨v, h1, h2⟩ := S'.val jm _ hz
    cases h2
    rw [set_off n6]
    exact h1
  · have x := T.kit m hm _ (hcs k hk)
    rw [← e1, c.hK] at x
    exact x
  · have x := V m hm
    rw [← e1, c.hK] at x
    exact x
  · have S1 := S'.drop i none
    have st : Step F' H' F' H2 := ⟨.refl _, S'.fh.trans ex, ex, fun b hb hn => absurd hb hn⟩
    have S2 := S1.newOwn (d := .list (bsD fun k => subB m (h.cs.getD k ""))) st hp (S'.fh.back hp) ⟨_, hL, rp_bs⟩ jf
    have S3 := S2.set (v := .bl true) (d := .bool true) (.bl true) ju
    have S4 := S3.set rl jl
    show D.nx (((((σ'.set i (some (.ref a))).set jf (some (.ref p))).set ju (some (.bl true))).set jl (some vl)).set i none) H2
    rw [set4 n1 n2 n3]
    exact P _ F' H2 e' S4
theorem tryS_reads {N0 C fI : Addr} (T : ExK c.X.K c.X.mg known) (hT : ParT c.X.K c.X.mg N0 C fI) (V : VaK c.X.K c.X.mg known) (hcs : ∀ k, k < 16 → h.cs.getD k "" ∈ known) (h1 : h.c = "NetError") (h1k : h.c ∈ known) (h2 : h.f = "line")
    (n1 : i ≠ jf) (n2 : i ≠ ju) (n3 : i ≠ jl) (n4 : jm ≠ jf) (n5 : jm ≠ ju) (n6 : jm ≠ i) {D : Ends} {σ : L2.St} {H : Hp} (hh : tDat c.F0 c.H0 c.W (dTryS i jf ju jl jm ds known h) (PostS c) D σ H) :
    tDat c.F0 c.H0 (wAll HasK.K c.W D i [(.ref (clA HasK.mg h.c), tsS HasK.K i jf ju jl jm h.f h.s2 (clV HasK.mg h.cs))]) ds (PostS ⟨c.X, c.F0, c.H0, wAll HasK.K c.W D i [(.ref (clA HasK.mg h.c), tsS HasK.K i jf ju jl jm h.f h.s2 (clV HasK.mg h.cs))], c.hK, c.hM, c.hP, c.hw⟩) D σ H := by
  obtain ⟨F, δ, S, P⟩ := hh
  refine ⟨F, δ, S, ?_⟩
  have e1 : clA HasK.mg = clA c.X.mg := by rw [c.hM]
  unfold dTryS at P
  cases q : ds δ with
  | next δ' => rw [q] at P; exact P
  | ret r => rw [q] at P; exact P
  | brk δ' => rw [q] at P; exact P
  | cont δ' => rw [q] at P; exact P
  | stuck => rw [q] at P; exact P
  | exc m pl δ' =>
    rw [q] at P
    simp only at P
    by_cases hm' : m ∈ known ∧ i < δ'.length ∧ jf < δ'.length
    · rw [if_pos hm'] at P
      obtain ⟨hm, hil, hjl⟩ := hm'
      have x1 := T.exm m hm h.c h1k
      have x4 := (T.cls m hm).1
      rw [← e1, c.hK] at x1 x4
      have sb : subB m h.c = true := by rw [h1]; simp [subB]
      split at P
      · rename_i z hz
        cases ql : lineD h m z pl with
        | none => rw [ql] at P; exact P.elim
        | some dl =>
          rw [ql] at P
          intro σ' F' H' e' S'
          cases pl with
          | none =>
            have hz14 : z ≠ 14 := fun e => by unfold lineD at ql; rw [if_pos e] at ql; cases ql
            unfold lineD at ql
            rw [if_neg hz14] at ql
            cases ql
            refine ⟨subB m h.c, x1, fun _ a na => ⟨_, tNev, rfl, x4, .inl rfl, ?_⟩, fun hb => by rw [sb] at hb; cases hb⟩
            exact tryS_go (vl := .str h.s2) T V hcs n1 n2 n3 n4 n5 n6 hm hil hjl hz e' S' (fun dd e => nomatch e) (.str _) (fun σ2 H2 Q _ _ hq => by
              show (if decide (z = 14) = true then _ else _)
              rw [if_neg (by simpa using hz14)]
              exact hq) P
          | some y =>
            obtain ⟨f, d⟩ := y
            unfold lineD at ql
            simp only at ql
            by_cases hp : m = "ParseError" ∧ f = h.f
            · rw [if_pos hp] at ql
              obtain ⟨rfl, rfl⟩ := hp
              intro dd v hdd hFd hrv
              have eC : clA HasK.mg "ParseError" = C := by unfold clA; rw [← c.hM, hT.gP]
              have x5 := hT.xf
              have x6 := hT.noL
              rw [c.hK, ← eC] at x5 x6
              rw [← h2] at x6
              refine ⟨subB "ParseError" h.c, x1, fun _ a na => ⟨_, tXf a (.ref (clA HasK.mg "ParseError")) (some dd) (clA HasK.mg "ParseError") h.f (tVar i), rfl, x4, .inr ⟨dd, rfl, x5, x6, rfl⟩, ?_⟩, fun hb => by rw [sb] at hb; cases hb⟩
              by_cases hz14 : z = 14
              · rw [if_pos hz14] at ql
                cases ql
                exact tryS_go (vl := v) T V hcs n1 n2 n3 n4 n5 n6 hm hil hjl hz e' S' (fun dd' e => by cases e; exact ⟨_, hdd⟩) hrv (fun σ2 H2 Q hs ex hq => by
                  show (if decide (z = 14) = true then _ else _)
                  rw [if_pos (by simpa using hz14)]
                  exact ⟨_, hs, rfl, rfl, dd, _, v, rfl, ex _ _ hdd, by rw [List.lookup_cons]; simp, hq⟩) P
              · rw [if_neg hz14] at ql
                cases ql
                exact tryS_go (vl := .str h.s2) T V hcs n1 n2 n3 n4 n5 n6 hm hil hjl hz e' S' (fun dd' e => by cases e; exact ⟨_, hdd⟩) (.str _) (fun σ2 H2 Q hs ex hq => by
                  show (if decide (z = 14) = true then _ else _)
                  rw [if_neg (by simpa using hz14)]
                  exact hq) P
            · rw [if_neg hp] at ql
              cases ql
      · exact P.elim
    · rw [if_neg hm'] at P
      exact P.elim
theorem js_tryS {x f s2 : Str} {cs : List Str} {b0 : Stmt} {su : List Stmt} {np pp q7 q8 : Pos} (G : CalP c.X.prog c.X.w c.X.K c.X.mg c.X.base) (T : ExK c.X.K c.X.mg known) (V : VaK c.X.K c.X.mg known) (hcs : ∀ k, k < 16 → cs.getD k "" ∈ known) (hx : x ∈ known) (h1 : x = "NetError") (h2 : f = "line") (tk : Takes c.X c.W) (nd : c.X.N.Nodup)
    (hbd : ∀ (W : WX) (pn : List (Addr × Obj)) (xe : Value → Shared → Prop), Takes (c.X.tr pn xe) W → PassesOwn (model c.X.prog c.X.w) c.X.A c.X.env xe → ∃ t, JSs ⟨c.X.tr pn xe, c.F0, c.H0, W, c.hK, c.hM, c.hP, c.hw⟩ body t ds)
    (hsu : ∀ (a : Addr) (oe : Obj) (Dc : Addr) (d : Option Addr) (pn : List (Addr × Obj)) (tl : TE), ExcC c.X.K Dc → Zc (.ref Dc) d oe → (∃ vs, oe.data = .fields vs) → PE (c.X.suite a ((a, oe) :: pn)) (.Attribute (.Name n q7) f q8) tl → PSs (c.X.suite a ((a, oe) :: pn)) (b0 :: su) (bodyK c.X.K Dc d a i jf ju jl jm tl s2 (clV c.X.mg cs)))
    (n1 : i ≠ jf := by decide) (n2 : i ≠ ju := by decide) (n3 : i ≠ jl := by decide) (n4 : jm ≠ jf := by decide) (n5 : jm ≠ ju := by decide) (n6 : jm ≠ i := by decide)
    (hbase : attributeBase (.Name n q7) f c.X.env (eval (.Name n q7) c.X.env) = eval (.Name n q7) c.X.env := by rfl)
    (hN : c.X.N[i]? = some n := by rfl) (hv : Vis c.X.env.scope n := by exact Or.inl rfl) (hd : (n == ("__debug__" : Str)) = false := by decide) (hcd : (n == ("__classdict__" : Str)) = false := by decide)
    (gx : Gl c.X x := by rfl) (dx : (x == ("__debug__" : Str)) = false := by decide)
    (stk : c.X.stack = c.X.env :: c.X.outer := by rfl) (fr : c.X.env.frame = some c.X.env.locals := by rfl) (hl : c.X.env.kindOf n = some .local := by rfl) :
    JS c (.Try body [.ExceptHandler (some (.Name x np)) (some n) (b0 :: su) pp] [] [] pos)
      (tDat c.F0 c.H0 c.W (dTryS i jf ju jl jm ds known ⟨x, cs, f, s2⟩) (PostS c)) (dTryS i jf ju jl jm ds known ⟨x, cs, f, s2⟩) := by
  obtain ⟨N0, C, fI, fd, hT, _, _⟩ := G.ex
  refine ⟨⟨fun pins s σ H D I h => ?_⟩, fun F H σ δ D S P => ⟨F, δ, S, P⟩⟩
  have R := tryS_reads (h := ⟨x, cs, f, s2⟩) T hT V hcs h1 hx h2 n1 n2 n3 n4 n5 n6 h
  have e1 : clA HasK.mg = clA c.X.mg := by rw [c.hM]
  have e2 : clV HasK.mg = clV c.X.mg := by rw [c.hM]
  have hd' : HdAs c.X n [.ExceptHandler (some (.Name x np)) (some n) (b0 :: su) pp] [(.ref (clA HasK.mg x), tsS HasK.K i jf ju jl jm f s2 (clV HasK.mg cs))] := by
    rw [e1, e2, ← c.hK]
    refine .cons ⟨gx, dx, .inl (T.cls x hx).2⟩ (fun a oe cls d pn hz hf => ⟨fun pins s σ H D I h => ?_⟩) .nil
    obtain ⟨Dc, tl, rfl, E, htl, hb⟩ := h
    have hp : PE (c.X.suite a ((a, oe) :: pn)) (.Attribute (.Name n q7) f q8) tl := by
      rcases htl with rfl | ⟨dd, rfl, xf, nof, rfl⟩
      · exact ⟨fun _ _ _ _ _ _ h => h.elim⟩
      · exact pe_xf xf nof hz hf (pe_var (X := c.X.suite a ((a, oe) :: pn)) hN hv hd hcd) hbase
    exact (hsu a oe Dc d pn tl E hz hf hp).run pins s σ H D I hb
  have K := ps_try_allAs (pos := pos) (tb := fun W => tDat c.F0 c.H0 W ds (PostS ⟨c.X, c.F0, c.H0, W, c.hK, c.hM, c.hP, c.hw⟩)) stk fr nd hN hl tk (fun W pn xe t1 t2 => by
    obtain ⟨t, J⟩ := hbd W pn xe t1 t2
    exact J.dat) hd'
  refine K.run pins s σ H D I ?_
  rw [c.hK]
  exact R
end
end RD

end
section
namespace RD
open PySem L2
theorem fun_of {K : PySem.W.Frag} {x q : Str} {st : Stmt} {f : Addr} {fd : FuncData} (F : FunD K x q (defArgs st) (defBody st) (defScope st) [] [] f fd) : Fun K x q st f fd := by
  obtain ⟨⟨oc, od, dV, kV, doc, pm, an, cdv, ct, osl, h1, h2, h3, h4, h5⟩, kp⟩ := F
  rcases h4 with ⟨_, rfl⟩ | ⟨e, _⟩
  · exact ⟨⟨oc, od, kV, doc, pm, an, cdv, ct, osl, h1, h2, h3⟩, kp⟩
  · exact absurd rfl e
/-! ### the exceptions' facts, as one Bool over the written part -/
def dO (a b : Option (Option Value)) : Bool := decide (a = b)
def excOk (K : PySem.W.Frag) (n : Str) : Bool :=
  dO (PySem.W.nsIn K mainGlobals n) (some (some (.ref (He.ga K n)))) &&
  (dO (PySem.W.findIn K (.ref (He.ga K n)) "__getattribute__") (some (some (.builtin "BaseException.__getattribute__"))) &&
  (dO (PySem.W.findIn K (.ref (He.ga K n)) "__getattr__") (some none) &&
  (decide (PySem.W.subIn K (.ref (He.ga K n)) (.type "BaseException") = some true) &&
  (PySem.W.hasDictIn K (He.ga K n) &&
  (dO (PySem.W.findIn K (.ref (He.ga K n)) "__class__") (some (some (.builtin "object.__class__"))) &&
  (dO (PySem.W.specialIn K (.builtin "object.__class__") "__get__") (some (some (.builtin "getset_descriptor.__get__"))) &&
  (decide (PySem.W.takesIn K (.builtin "object.__class__") = some true) &&
  decide (PySem.W.mroIn K (He.ga K n) (.type "object") = some true))))))))
def pairOk (K : PySem.W.Frag) (n c : Str) : Bool :=
  decide (PySem.W.exmOne K (.ref (He.ga K n)) (.ref (He.ga K c)) = some (subB n c)) && decide (PySem.W.kitOne K (.ref (He.ga K n)) (.ref (He.ga K c)) = some (subB n c))
def exkB (l : List Str) (K : PySem.W.Frag) : Bool := (l.all fun n => excOk K n) && l.all fun n => l.all fun c => pairOk K n c
theorem clA_of {mg : Str → Option Value} {n : Str} {a : Addr} (h : mg n = some (.ref a)) : clA mg n = a := by
  unfold clA
  rw [h]
theorem exk_of {K : PySem.W.Frag} {h : Heap} {mg : Str → Option Value} (X : K.In h) (G : h.Ns mainGlobals mg) {l : List Str} (c : exkB l K = true) : ExK K mg l := by
  have c2 := Bool.and_eq_true_iff.mp c
  have one : ∀ n ∈ l, excOk K n = true := fun n hn => List.all_eq_true.mp c2.1 n hn
  have m : ∀ n ∈ l, mg n = some (.ref (He.ga K n)) := fun n hn => PySem.W.mg_of X G (of_decide_eq_true (Bool.and_eq_true_iff.mp (one n hn)).1)
  have ca : ∀ n ∈ l, clA mg n = He.ga K n := fun n hn => clA_of (m n hn)
  have two : ∀ n ∈ l, ∀ c ∈ l, pairOk K n c = true := fun n hn c hc => List.all_eq_true.mp (List.all_eq_true.mp c2.2 n hn) c hc
  refine ⟨fun n hn => ?_, fun n hn c hc => ?_, fun n hn c hc => ?_⟩
  · have z := one n hn
    unfold excOk at z
    simp only [Bool.and_eq_true] at z
    obtain ⟨_, z2, z3, z4, z5, z6, z7, z8, z9⟩ := z
    rw [ca n hn]
    exact ⟨⟨of_decide_eq_true z2, of_decide_eq_true z3, of_decide_eq_true z4, z5, of_decide_eq_true z6, of_decide_eq_true z7, of_decide_eq_true z8, of_decide_eq_true z9⟩, m n hn⟩
  · rw [ca n hn, ca c hc]
    exact of_decide_eq_true (Bool.and_eq_true_iff.mp (two n hn c hc)).1
  · rw [ca n hn, ca c hc]
    exact of_decide_eq_true (Bool.and_eq_true_iff.mp (two n hn c hc)).2
def vakB (l : List Str) (K : PySem.W.Frag) : Bool := l.all fun n => decide (PySem.W.kitOne K (.ref (He.ga K n)) (.type "ValueError") = some true)
theorem vak_of {K : PySem.W.Frag} {h : Heap} {mg : Str → Option Value} (X : K.In h) (G : h.Ns mainGlobals mg) {l : List Str} (c : exkB l K = true) (c3 : vakB l K = true) : VaK K mg l := fun n hn => by
  have c2 := Bool.and_eq_true_iff.mp c
  have one : excOk K n = true := List.all_eq_true.mp c2.1 n hn
  have m : mg n = some (.ref (He.ga K n)) := PySem.W.mg_of X G (of_decide_eq_true (Bool.and_eq_true_iff.mp one).1)
  rw [clA_of m]
  exact of_decide_eq_true (List.all_eq_true.mp c3 n hn)
theorem excT_of {K : PySem.W.Frag} {h : Heap} {mg : Str → Option Value} (X : K.In h) (G : h.Ns mainGlobals mg) {x : Str} (g : (He.Fa.glo x).ok K = true) (c : (He.Fa.exc x).ok K = true) : ExcT K mg x := by
  obtain ⟨c1, c2, c3, c4⟩ := He.exc_ok c
  exact ⟨_, _, _, _, _, PySem.F.excBase_ValueError, c1, He.glo_ok X G g, c2, c3, c4⟩
/-! ### the Hook: facts, defs, one Bool more -/
def hookR (n : Nat) (fa : List He.Fa) (fn : List He.DefD) (ck : PySem.W.Frag → Bool) : PySem.W.Hook where
  α := He.AlD × Bool
  obs := fun s => (He.obsDG n fa fn s.heap.get?, ck (He.frG s.heap.get? (He.asD s.heap.get? n)))
  val := fun _ => (He.valD fn, true)
  says := fun _ h => ∃ K : PySem.W.Frag, K.In h ∧ He.SaysD fa fn K ∧ ck K = true
  of := fun _ _ e => ⟨_, He.frG_in, congrArg Prod.fst e, congrArg Prod.snd e⟩
  keeps := fun _ _ _ ⟨K, hK, c⟩ k => ⟨K, PySem.W.Frag.In.keeps hK k, c⟩
def obR (n : Nat) (fa : List He.Fa) (fn : List He.DefD) (ck : PySem.W.Frag → Bool) (s : PySem.W.SharedT) : He.AlD × Bool :=
  let K := He.frG (HandSHeadRun.getT s) (He.asD (HandSHeadRun.getT s) n)
  (He.obsD fa fn K, ck K)
theorem obR_eq {n : Nat} {fa : List He.Fa} {fn : List He.DefD} {ck : PySem.W.Frag → Bool} (s : PySem.W.SharedT) : obR n fa fn ck s = (hookR n fa fn ck).obs s.abs := by
  have e : HandSHeadRun.getT s = s.abs.heap.get? := funext (HandSHeadRun.getT_eq s)
  unfold obR
  rw [e]
  rfl
/-- a callee out of its facts -/
theorem cal_of {P : Program} {w : World} {K : PySem.W.Frag} {mg : Str → Option Value} {base : Heap} {k n : Nat} {x : Str} {f : Addr} {fd : FuncData} {ps : List Str} {den : List D → Res D} (h : FnOk P w K mg base (L2.CX P w) k f fd ps (spK P w K mg n den)) (g : mg x = some (.ref f)) (kp : PySem.W.keepIn K (.ref f) = true) (b : Binds K fd ps []) : Cal P w K mg base k x n den :=
  ⟨f, fd, ps, h, g, kp, b⟩
/-- the law's own promise, from its denotation -/
theorem law_sp {P : Program} {w : World} {K : PySem.W.Frag} {mg : Str → Option Value} {den : List D → Res D} {H : Hp} {a : Addr} {ns : List Int} (hS : SqL K H a (ns.map V.int)) (h : den [scrD ns] = .ok (.bool true)) : spK P w K mg 1 den [.ref a] H (fun v _ => v = .bl true) fun _ _ _ => False := by
  letI : HasK := ⟨K, mg, P, w⟩
  refine ⟨rfl, H, [scrD ns], .refl _, .cons (.scr hS) .nil, ?_⟩
  rw [h]
  intro v F' H' s r
  cases r
  rfl
theorem cx_never {P : Program} {w : World} {H : Hp} {s : Shared} {e : Value} {s' : Shared} (h : L2.CX P w [] H s (fun _ _ _ => False) e s') : False := by
  obtain ⟨_, _, _, _, _, _, _, _, _, _, _, _, z⟩ := h
  exact z
/-- a law by its denotation: what the head says gives the def and its promise -/
theorem walk_ofR {l : PySem.W.OpenLaw} {n k : Nat} {q : Program} {loose : List Str} {XP : (Str → Option Value) → Heap → Prop} {YP : World → Heap → Prop} {d : DefRec} {x : Str} {den : List D → Res D}
    (hn : l.most = some n) (hn2 : n ≤ sizeLine) (hdf : d.params.defaults = []) (hr : Room k callerA)
    (hF : ∀ (w : World) (mg : Str → Option Value) (fa : Addr) (h : Heap), YP w h → h.Ns mainGlobals mg → mg d.name = some (.ref fa) →
      ∃ (K : PySem.W.Frag) (fd : FuncData), K.In h ∧ (∀ (s : Shared) (u : Value), BindsTo s fd ⟨[u], []⟩ [(x, u)]) ∧ ∀ base : Heap, K.In base → base.Ns mainGlobals mg → FnOk l.prog w K mg base (L2.CX l.prog w) k fa fd [x] (spK l.prog w K mg 1 den))
    (hd : ∀ ns : List Int, ns.length ≤ n → (∀ z ∈ ns, Builtin.Int.intBits z ≤ 1048576) → den [scrD ns] = .ok (.bool true)) :
    PySem.W.WalkO q loose XP YP l.row.toRowW d [] (fun f vs => PySem.call f vs) := by
  refine Att.attach_callB hn hdf fun w s0 s1 mg mb fa o pm cd doc a vs ns G Y ho hdd hcd hmg hobj hints hlen hbits hg => ?_
  obtain ⟨K, fd, KX, hb, hFn⟩ := hF w mg fa _ Y G.T.g hmg
  exact law_call KX G.T.g G.T.b G.T.builtins G.T.nolimit hg hobj hints (Nat.le_trans hlen hn2) hr hFn hb (fun H _ hS => law_sp hS (hd ns hlen hbits)) fun H e s' => cx_never
/-! ### the facts, out of the written part -/
def parB (K : PySem.W.Frag) : Bool :=
  oexB K (He.ga K "ParseError") && (dO (PySem.W.findIn K (.ref (He.ga K "ParseError")) "__setattr__") (some (some (.builtin "object.__setattr__"))) &&
  (decide (PySem.W.subIn K (.ref (He.ga K "ParseError")) (.type "BaseException") = some true) && (decide (PySem.W.typeIn K (.ref (He.ga K "ParseError")) = some (.type "type")) && (PySem.W.keepIn K (.ref (He.ga K "ParseError")) &&
  (PySem.W.readsIn K (He.ga K "NetError") (.type "type") && (dO (PySem.W.specialIn K (.ref (He.ga K "NetError")) "__getattribute__") (some (some (.builtin "type.__getattribute__"))) &&
  ((match PySem.W.findCls K (.ref (He.ga K "NetError")) (.type "type") "__init__" with | some (.val v) => decide (v = .builtin "ValueError.__init__") | _ => false) &&
  (dO (PySem.W.findIn K (.ref (He.ga K "ParseError")) "__init__") (some (some (.ref (He.ma K (He.ga K "ParseError") "__init__")))) && (decide (PySem.W.typeIn K (.ref (He.ma K (He.ga K "ParseError") "__init__")) = some (.type "function")) &&
  (dO (PySem.W.findIn K (.ref (He.ga K "ParseError")) "line") (some none) && xfB K (He.ga K "ParseError")))))))))))

theorem par_of {K : PySem.W.Frag} {h : Heap} {mg : Str → Option Value} (X : K.In h) (G : h.Ns mainGlobals mg) (g1 : (He.Fa.glo "NetError").ok K = true) (g2 : (He.Fa.glo "ParseError").ok K = true) (c : parB K = true) : ParT K mg (He.ga K "NetError") (He.ga K "ParseError") (He.ma K (He.ga K "ParseError") "__init__") := by
  unfold parB at c
  simp only [Bool.and_eq_true] at c
  obtain ⟨c1, c2, c3, c4, c5, c6, c7, c8, c9, c10, c11, c12⟩ := c
  refine ⟨He.glo_ok X G g1, He.glo_ok X G g2, ⟨oexB_cls c1, of_decide_eq_true c2, of_decide_eq_true c3, of_decide_eq_true c4, c5⟩, ⟨c6, of_decide_eq_true c7⟩, ?_, of_decide_eq_true c9, of_decide_eq_true c10, of_decide_eq_true c11, xfB_ok c12⟩
  split at c8
  · rename_i v hv
    rw [hv, of_decide_eq_true c8]
  · cases c8
theorem calP_of {P : Program} {w : World} {K : PySem.W.Frag} {mg : Str → Option Value} {base : Heap} {N0 C fI : Addr} {fd : FuncData} (T : ParT K mg N0 C fI) (F : FnOk P w K mg base L2.CX0 1 fI fd ["self", "line"] (spPar K)) (b : Binds K fd ["self", "line"] []) : CalP P w K mg base := ⟨N0, C, fI, fd, T, F, b⟩
/-! ### the class Desk -/
section
variable {K : PySem.W.Frag} {h : Heap} {mg : Str → Option Value} {P : Program} {w : World} {base : Heap}
abbrev dskK (P : Program) (w : World) (K : PySem.W.Frag) (mg : Str → Option Value) : Addr := @dskC ⟨K, mg, P, w⟩
theorem dskC_eq {a : Addr} (g : mg "Desk" = some (.ref a)) : dskK P w K mg = a := by
  show (match mg "Desk" with | some (.ref a) => a | _ => 0) = a
  rw [g]
theorem dkk_of {C : Addr} (g : mg "Desk" = some (.ref C)) (c : Cls K C) (n1 : NoAttr K C "net") (n2 : NoAttr K C "stock") (n3 : NoAttr K C "steps") (n4 : NoAttr K C "kept") (P : Program) (w : World) : @DkK ⟨K, mg, P, w⟩ := by
  letI : HasK := ⟨K, mg, P, w⟩
  have e : dskC = C := dskC_eq (K := K) (P := P) (w := w) g
  exact ⟨by rw [e]; exact g, by rw [e]; exact c, by rw [e]; exact n1, by rw [e]; exact n2, by rw [e]; exact n3, by rw [e]; exact n4⟩
theorem mtS_of {C f : Addr} {fd : FuncData} {ps : List Str} {k n : Nat} {m : Str} {den : List Sl → Res D} (g : mg "Desk" = some (.ref C)) (F : FnOk P w K mg base (L2.CX P w) k f fd ps (spKS P w K mg n den)) (M : Meth K C m f) (b : Binds K fd ps []) : MtS P w K mg base k (dskK P w K mg) m n den := by
  rw [dskC_eq g]
  exact ⟨_, _, _, F, M, b⟩
theorem mtM_of {C f : Addr} {fd : FuncData} {ps : List Str} {k n : Nat} {m : Str} {den : D → List D → RM} (g : mg "Desk" = some (.ref C)) (F : FnOk P w K mg base (L2.CX P w) k f fd ps (spKM P w K mg n den)) (M : Meth K C m f) (b : Binds K fd ps []) : MtM P w K mg base k (dskK P w K mg) m n den := by
  rw [dskC_eq g]
  exact ⟨_, _, _, F, M, b⟩
def deskB (K : PySem.W.Frag) : Bool :=
  dO (PySem.W.findIn K (.ref (He.ga K "Desk")) "__class__") (some (some (.builtin "object.__class__"))) &&
  (dO (PySem.W.specialIn K (.builtin "object.__class__") "__get__") (some (some (.builtin "getset_descriptor.__get__"))) &&
  (decide (PySem.W.takesIn K (.builtin "object.__class__") = some true) &&
  (decide (PySem.W.mroIn K (He.ga K "Desk") (.type "object") = some true) &&
  (dO (PySem.W.findIn K (.ref (He.ga K "Desk")) "__ne__") (some (some (.builtin "object.__ne__"))) &&
  (PySem.W.notFirst K (He.ga K "Desk") (.type "tuple") &&
  (PySem.W.notFirst K (He.ga K "Desk") (.type "str") &&
  (decide (PySem.W.kitOne K (.type "tuple") (.ref (He.ga K "Desk")) = some false) &&
  decide (PySem.W.kitOne K (.type "str") (.ref (He.ga K "Desk")) = some false))))))))
theorem dke_of (g : mg "Desk" = some (.ref (He.ga K "Desk"))) (c : deskB K = true) (P : Program) (w : World) : @DkE ⟨K, mg, P, w⟩ := by
  letI : HasK := ⟨K, mg, P, w⟩
  have e : dskC = He.ga K "Desk" := dskC_eq (K := K) (P := P) (w := w) g
  unfold deskB dO at c
  simp only [Bool.and_eq_true, decide_eq_true_eq] at c
  obtain ⟨c1, c2, c3, c4, c5, c6, c7, c8, c9⟩ := c
  exact ⟨by rw [e]; exact c1, c2, c3, by rw [e]; exact c4, by rw [e]; exact c5, by rw [e]; exact c6, by rw [e]; exact c7, by rw [e]; exact c8, by rw [e]; exact c9⟩
theorem mtDp_of {C f : Addr} {fd : FuncData} {ps : List Str} {k : Nat} {m : Str} {den : D → Res D} (g : mg "Desk" = some (.ref C)) (F : FnOk P w K mg base (L2.CX P w) k f fd ps (spKDp P w K mg den)) (M : Meth K C m f) (b : Binds K fd ps []) : MtDp P w K mg base k (dskK P w K mg) m den := by
  rw [dskC_eq g]
  exact ⟨_, _, _, F, M, b⟩
end
end RD

end
section
namespace K16
open PySem L2 RD
def top (i : Nat) : Stmt := PySem.Challenge.pw_ratenets_k16_best_attempts.main.body.getD i (.Pass ⟨0, 0, 0, 0⟩)
def excs : List Str := ["NetError", "InvalidNet", "InvalidAttempts", "InvalidBound", "TooLong"]
abbrev s_in_range : Stmt := top 10
abbrev s_is_channel : Stmt := top 11
abbrev s_is_net : Stmt := top 12
abbrev s_check_net : Stmt := top 13
abbrev s_is_ready : Stmt := top 14
abbrev s_after_run : Stmt := top 15
abbrev s_are_attempts : Stmt := top 20
abbrev s_all_stocks : Stmt := top 21
abbrev s_follow : Stmt := top 22
abbrev s_check_search : Stmt := top 23
abbrev s_agreeing_stocks : Stmt := top 24
abbrev s_amount_ranges : Stmt := top 25
abbrev s_best_attempt : Stmt := top 26
abbrev s__law_cell : Stmt := top 28
abbrev s__law_row : Stmt := top 29
abbrev s__law_gcd : Stmt := top 30
abbrev s__law_net : Stmt := top 31
abbrev s__law_stock : Stmt := top 32
abbrev s__law_ready : Stmt := top 33
abbrev s__law_amounts : Stmt := top 34
abbrev s__law_attempts : Stmt := top 35
abbrev s__law_follow : Stmt := top 36
abbrev s__law_every_stock : Stmt := top 37
abbrev s__law_hidden : Stmt := top 38
abbrev s_law : Stmt := top 39
def fa : List He.Fa := [.glo "in_range", .glo "is_channel", .glo "is_net", .glo "check_net", .glo "is_ready", .glo "after_run", .glo "are_attempts", .glo "all_stocks", .glo "follow", .glo "check_search", .glo "agreeing_stocks", .glo "amount_ranges", .glo "best_attempt", .glo "_law_cell", .glo "_law_row", .glo "_law_gcd", .glo "_law_net", .glo "_law_stock", .glo "_law_ready", .glo "_law_amounts", .glo "_law_attempts", .glo "_law_follow", .glo "_law_every_stock", .glo "_law_hidden", .glo "law", .glo "NetError", .glo "InvalidNet", .glo "InvalidAttempts", .glo "InvalidBound", .glo "TooLong", .free "bool", .free "int", .free "isinstance", .free "len", .free "max", .free "min", .free "range", .free "tuple", .free "zip", .int "MAX_ATTEMPTS" 40, .int "MAX_BOUND" 9, .int "MAX_CHANNELS" 5, .int "MAX_RATE" 4, .int "MAX_STEPS" 4, .int "MAX_STOCKS" 2000, .exc "InvalidAttempts", .exc "InvalidBound", .exc "InvalidNet", .exc "TooLong"]
def dd_in_range : He.DefD := ⟨("in_range", none), "in_range", "in_range", defArgs s_in_range, defBody s_in_range, defScope s_in_range, [], []⟩
def dd_is_channel : He.DefD := ⟨("is_channel", none), "is_channel", "is_channel", defArgs s_is_channel, defBody s_is_channel, defScope s_is_channel, [], []⟩
def dd_is_net : He.DefD := ⟨("is_net", none), "is_net", "is_net", defArgs s_is_net, defBody s_is_net, defScope s_is_net, [], []⟩
def dd_check_net : He.DefD := ⟨("check_net", none), "check_net", "check_net", defArgs s_check_net, defBody s_check_net, defScope s_check_net, [], []⟩
def dd_is_ready : He.DefD := ⟨("is_ready", none), "is_ready", "is_ready", defArgs s_is_ready, defBody s_is_ready, defScope s_is_ready, [], []⟩
def dd_after_run : He.DefD := ⟨("after_run", none), "after_run", "after_run", defArgs s_after_run, defBody s_after_run, defScope s_after_run, [], []⟩
def dd_are_attempts : He.DefD := ⟨("are_attempts", none), "are_attempts", "are_attempts", defArgs s_are_attempts, defBody s_are_attempts, defScope s_are_attempts, [], []⟩
def dd_all_stocks : He.DefD := ⟨("all_stocks", none), "all_stocks", "all_stocks", defArgs s_all_stocks, defBody s_all_stocks, defScope s_all_stocks, [], []⟩
def dd_follow : He.DefD := ⟨("follow", none), "follow", "follow", defArgs s_follow, defBody s_follow, defScope s_follow, [], []⟩
def dd_check_search : He.DefD := ⟨("check_search", none), "check_search", "check_search", defArgs s_check_search, defBody s_check_search, defScope s_check_search, [], []⟩
def dd_agreeing_stocks : He.DefD := ⟨("agreeing_stocks", none), "agreeing_stocks", "agreeing_stocks", defArgs s_agreeing_stocks, defBody s_agreeing_stocks, defScope s_agreeing_stocks, [], []⟩
def dd_amount_ranges : He.DefD := ⟨("amount_ranges", none), "amount_ranges", "amount_ranges", defArgs s_amount_ranges, defBody s_amount_ranges, defScope s_amount_ranges, [], []⟩
def dd_best_attempt : He.DefD := ⟨("best_attempt", none), "best_attempt", "best_attempt", defArgs s_best_attempt, defBody s_best_attempt, defScope s_best_attempt, [], []⟩
def dd__law_cell : He.DefD := ⟨("_law_cell", none), "_law_cell", "_law_cell", defArgs s__law_cell, defBody s__law_cell, defScope s__law_cell, [], []⟩
def dd__law_row : He.DefD := ⟨("_law_row", none), "_law_row", "_law_row", defArgs s__law_row, defBody s__law_row, defScope s__law_row, [], []⟩
def dd__law_gcd : He.DefD := ⟨("_law_gcd", none), "_law_gcd", "_law_gcd", defArgs s__law_gcd, defBody s__law_gcd, defScope s__law_gcd, [], []⟩
def dd__law_net : He.DefD := ⟨("_law_net", none), "_law_net", "_law_net", defArgs s__law_net, defBody s__law_net, defScope s__law_net, [], []⟩
def dd__law_stock : He.DefD := ⟨("_law_stock", none), "_law_stock", "_law_stock", defArgs s__law_stock, defBody s__law_stock, defScope s__law_stock, [], []⟩
def dd__law_ready : He.DefD := ⟨("_law_ready", none), "_law_ready", "_law_ready", defArgs s__law_ready, defBody s__law_ready, defScope s__law_ready, [], []⟩
def dd__law_amounts : He.DefD := ⟨("_law_amounts", none), "_law_amounts", "_law_amounts", defArgs s__law_amounts, defBody s__law_amounts, defScope s__law_amounts, [], []⟩
def dd__law_attempts : He.DefD := ⟨("_law_attempts", none), "_law_attempts", "_law_attempts", defArgs s__law_attempts, defBody s__law_attempts, defScope s__law_attempts, [], []⟩
def dd__law_follow : He.DefD := ⟨("_law_follow", none), "_law_follow", "_law_follow", defArgs s__law_follow, defBody s__law_follow, defScope s__law_follow, [], []⟩
def dd__law_every_stock : He.DefD := ⟨("_law_every_stock", none), "_law_every_stock", "_law_every_stock", defArgs s__law_every_stock, defBody s__law_every_stock, defScope s__law_every_stock, [], []⟩
def dd__law_hidden : He.DefD := ⟨("_law_hidden", none), "_law_hidden", "_law_hidden", defArgs s__law_hidden, defBody s__law_hidden, defScope s__law_hidden, [], []⟩
def dd_law : He.DefD := ⟨("law", none), "law", "law", defArgs s_law, defBody s_law, defScope s_law, [], []⟩
def fn : List He.DefD := [dd_in_range, dd_is_channel, dd_is_net, dd_check_net, dd_is_ready, dd_after_run, dd_are_attempts, dd_all_stocks, dd_follow, dd_check_search, dd_agreeing_stocks, dd_amount_ranges, dd_best_attempt, dd__law_cell, dd__law_row, dd__law_gcd, dd__law_net, dd__law_stock, dd__law_ready, dd__law_amounts, dd__law_attempts, dd__law_follow, dd__law_every_stock, dd__law_hidden, dd_law]
abbrev R : PySem.W.OpenRow := PySem.W.OpenLaw.row PySem.Challenge.rw_ratenets_k16_best_attempts
def ck (K : PySem.W.Frag) : Bool := exkB excs K
abbrev hk : PySem.W.Hook := hookR 4 fa fn ck
def ob (s : PySem.W.SharedT) : He.AlD × Bool := obR 4 fa fn ck s
def nm0 : List Str := ["NetError", "InvalidNet", "InvalidAttempts", "InvalidBound", "TooLong", "MAX_STEPS", "MAX_CHANNELS", "MAX_RATE", "in_range", "is_channel", "is_net", "check_net", "is_ready", "after_run", "MAX_BOUND", "MAX_ATTEMPTS", "MAX_STOCKS", "are_attempts", "all_stocks", "follow", "check_search", "agreeing_stocks", "amount_ranges", "best_attempt", "_law_cell", "_law_row", "_law_gcd", "_law_net", "_law_stock", "_law_ready"]
def nm1 : List Str := ["_law_amounts", "_law_attempts", "_law_follow", "_law_every_stock", "_law_hidden"]
def nms : List Str := nm0 ++ nm1
theorem run (w : World) : HandSHeadRun.RunEq R (PySem.W.view R.prog [39]) hk ob 6000 nms w := by
  intro os
  kernel_rfl
end K16
end
section
namespace RN
open PySem L2 RD
def den_in_range : List D → Res D := runB
    (dRet (dAndV (dIsi .int (dVar 0)) (dAndV (dNotV (dIsi .bool (dVar 0))) (dChain leD leD (dVarB 1) (dVarB 0) (dVarB 2))))) 0
def den_is_channel : List D → Res D := runB
    (dSeq (dIfS (dOr (dNot (dTru (dIsi .tuple (dVar 1)))) (dTest (dOp (eqD true) (dCB lenD (dCons (dVarB 1) dNil)) (dC (.int 4))))) (dRet (dC (.bool false))) dNext)
    (dSeq (dIfS (dOr (dNot (dTru (dCall 3 RN.den_in_range (dCons (dOp ixD (dVarB 1) (dC (.int 0))) (dCons (dC (.int 0)) (dCons (dOp subD (dVarB 0) (dC (.int 1))) dNil)))))) (dOr (dNot (dTru (dCall 3 RN.den_in_range (dCons (dOp ixD (dVarB 1) (dC (.int 1))) (dCons (dC (.int 0)) (dCons (dOp subD (dVarB 0) (dC (.int 1))) dNil)))))) (dTest (dOp (eqD false) (dOp ixD (dVarB 1) (dC (.int 0))) (dOp ixD (dVarB 1) (dC (.int 1))))))) (dRet (dC (.bool false))) dNext)
    (dRet (dAndV (dCall 3 RN.den_in_range (dCons (dOp ixD (dVarB 1) (dC (.int 2))) (dCons (dC (.int 1)) (dCons (dC (.int 4)) dNil)))) (dCall 3 RN.den_in_range (dCons (dOp ixD (dVarB 1) (dC (.int 3))) (dCons (dC (.int 1)) (dCons (dC (.int 4)) dNil)))))))) 0
def den_is_net_t1 : DT := (dNot (dTru (dCall 2 RN.den_is_channel (dCons (dOp ixD (dVarB 0) (dC (.int 0))) (dCons (dVar 1) dNil)))))
def den_is_net_e1 : DE := (dVar 1)
def den_is_net : List D → Res D := runB
    (dSeq (dIfS (dOr (dNot (dTru (dIsi .tuple (dVar 0)))) (dOr (dTest (dOp (eqD true) (dCB lenD (dCons (dVarB 0) dNil)) (dC (.int 2)))) (dNot (dTru (dCall 3 RN.den_in_range (dCons (dOp ixD (dVarB 0) (dC (.int 0))) (dCons (dC (.int 1)) (dCons (dC (.int 4)) dNil)))))))) (dRet (dC (.bool false))) dNext)
    (dSeq (dIfS (dOr (dNot (dTru (dIsi .tuple (dOp ixD (dVarB 0) (dC (.int 1)))))) (dTest (dOp gtD (dCB lenD (dCons (dOp ixD (dVarB 0) (dC (.int 1))) dNil)) (dC (.int 5))))) (dRet (dC (.bool false))) dNext)
    (dRet (dNotV (dLc (dItems (dOp ixD (dVarB 0) (dC (.int 1)))) (gN 1) den_is_net_t1 den_is_net_e1 [1]))))) 1
def den_check_net : List D → Res D := runB
    (dIfS (dNot (dTru (dCall 1 RN.den_is_net (dCons (dVar 0) dNil)))) (dRaise "InvalidNet") dNext) 0
def den_is_stock_t1 : DT := (dNot (dTru (dCall 3 RN.den_in_range (dCons (dVar 2) (dCons (dC (.int 0)) (dCons (dC (.int 9)) dNil))))))
def den_is_stock_e1 : DE := (dVar 2)
def den_is_stock : List D → Res D := runB
    (dSeq (dIfS (dOr (dNot (dTru (dIsi .tuple (dVar 1)))) (dTest (dOp (eqD true) (dCB lenD (dCons (dVarB 1) dNil)) (dCB lenD (dCons (dOp ixD (dVarB 0) (dC (.int 1))) dNil))))) (dRet (dC (.bool false))) dNext)
    (dRet (dNotV (dLc (dItems (dVar 1)) (gN 2) den_is_stock_t1 den_is_stock_e1 [2])))) 1
def den_check_stock : List D → Res D := runB
    (dSeq (dDrop (dCall 1 RN.den_check_net (dCons (dVar 0) dNil)))
    (dIfS (dNot (dTru (dCall 2 RN.den_is_stock (dCons (dVar 0) (dCons (dVar 1) dNil))))) (dRaise "InvalidStock") dNext)) 0
def den_check_step : List D → Res D := runB
    (dIfS (dNot (dTru (dCall 3 RN.den_in_range (dCons (dVar 1) (dCons (dC (.int 0)) (dCons (dOp subD (dOp ixD (dVarB 0) (dC (.int 0))) (dC (.int 1))) dNil)))))) (dRaise "InvalidStep") dNext) 0
def den_is_ready_t1 : DT := (dAnd (dTest (dOp (eqD false) (dOp ixD (dVarB 3) (dC (.int 1))) (dVarB 2))) (dTest (dOp ltD (dVarB 4) (dOp ixD (dVarB 3) (dC (.int 3))))))
def den_is_ready_e1 : DE := (dC (.int 1))
def den_is_ready : List D → Res D := runB
    (dRet (dNotV (dLc (dZip (dCons (dOp ixD (dVarB 0) (dC (.int 1))) (dCons (dVar 1) dNil))) (gT 2 (gsC (gN 3) (gsC (gN 4) gsN))) den_is_ready_t1 den_is_ready_e1 [3, 4]))) 2
def den_after_run_b1 : DS := (dApp 3 (dOp subD (dOp addD (dVarB 8) (dOp mulD (dVarB 6) (dCB intD (dCons (dOp (eqD false) (dVarB 4) (dVarB 2)) dNil)))) (dOp mulD (dVarB 7) (dCB intD (dCons (dOp (eqD false) (dVarB 5) (dVarB 2)) dNil)))))
def den_after_run : List D → Res D := runB
    (dSeq (dSetN 3 (dLst dNil))
    (dSeq (dFor (dZip (dCons (dOp ixD (dVarB 0) (dC (.int 1))) (dCons (dVar 1) dNil))) (gT 2 (gsC (gT 4 (gsC (gN 4) (gsC (gN 5) (gsC (gN 6) (gsC (gN 7) gsN))))) (gsC (gN 8) gsN))) den_after_run_b1)
    (dRet (dCB tupleD (dCons (dVarB 3) dNil))))) 6
def den_ready_steps_t1 : DT := (dTru (dCall 3 RN.den_is_ready (dCons (dVar 0) (dCons (dVar 1) (dCons (dVar 2) dNil)))))
def den_ready_steps_e1 : DE := (dVar 2)
def den_ready_steps : List D → Res D := runB
    (dSeq (dDrop (dCall 2 RN.den_check_stock (dCons (dVar 0) (dCons (dVar 1) dNil))))
    (dRet (dLc (dRng1 (dCons (dOp ixD (dVarB 0) (dC (.int 0))) dNil)) (gN 2) den_ready_steps_t1 den_ready_steps_e1 [2]))) 1
def den_run : List D → Res D := runB
    (dSeq (dDrop (dCall 2 RN.den_check_stock (dCons (dVar 0) (dCons (dVar 1) dNil))))
    (dSeq (dDrop (dCall 2 RN.den_check_step (dCons (dVar 0) (dCons (dVar 2) dNil))))
    (dSeq (dIfS (dNot (dTru (dCall 3 RN.den_is_ready (dCons (dVar 0) (dCons (dVar 1) (dCons (dVar 2) dNil)))))) (dRaise "CannotRun") dNext)
    (dRet (dCall 3 RN.den_after_run (dCons (dVar 0) (dCons (dVar 1) (dCons (dVar 2) dNil)))))))) 0
def den_are_attempts_b1 : DS := (dSeq (dIfS (dOr (dNot (dTru (dIsi .tuple (dVar 2)))) (dOr (dTest (dOp (eqD true) (dCB lenD (dCons (dVarB 2) dNil)) (dC (.int 2)))) (dNot (dTru (dCall 3 RN.den_in_range (dCons (dOp ixD (dVarB 2) (dC (.int 0))) (dCons (dC (.int 0)) (dCons (dOp subD (dOp ixD (dVarB 0) (dC (.int 0))) (dC (.int 1))) dNil)))))))) (dRet (dC (.bool false))) dNext)
    (dIfS (dNot (dTru (dIsi .bool (dOp ixD (dVarB 2) (dC (.int 1)))))) (dRet (dC (.bool false))) dNext))
def den_are_attempts : List D → Res D := runB
    (dSeq (dIfS (dOr (dNot (dTru (dIsi .tuple (dVar 1)))) (dTest (dOp gtD (dCB lenD (dCons (dVarB 1) dNil)) (dC (.int 40))))) (dRet (dC (.bool false))) dNext)
    (dSeq (dFor (dItems (dVar 1)) (gN 2) den_are_attempts_b1)
    (dRet (dC (.bool true))))) 1
def den_all_stocks_e1 : DE := (dOp addD (dVarB 5) (dTup (dCons (dVar 6) dNil)))
def den_all_stocks_b1 : DS := (dExt 4 (dLc (dRng1 (dCons (dOp addD (dVarB 1) (dC (.int 1))) dNil)) (gN 6) dYes den_all_stocks_e1 [6]))
def den_all_stocks_b2 : DS := (dSeq (dSetN 4 (dLst dNil))
    (dSeq (dFor (dItems (dVar 2)) (gN 5) den_all_stocks_b1)
    (dFrz 4 (dSet 2 (dVar 4)))))
def den_all_stocks : List D → Res D := runB
    (dSeq (dSet 2 (dLst (dCons (dTup dNil) dNil)))
    (dSeq (dFor (dRng1 (dCons (dVar 0) dNil)) (gN 3) den_all_stocks_b2)
    (dRet (dVar 2)))) 5
def den_follow_b1 : DS := (dSeq (dIfS (dTest (dOp (eqD true) (dCall 3 RN.den_is_ready (dCons (dVar 0) (dCons (dVar 3) (dCons (dVar 4) dNil)))) (dVarB 5))) (dRet (dC .none)) dNext)
    (dIfS (dTru (dVarB 5)) (dSet 3 (dCall 3 RN.den_after_run (dCons (dVar 0) (dCons (dVar 3) (dCons (dVar 4) dNil))))) dNext))
def den_follow : List D → Res D := runB
    (dSeq (dSet 3 (dVar 1))
    (dSeq (dFor (dItems (dVar 2)) (gT 2 (gsC (gN 4) (gsC (gN 5) gsN))) den_follow_b1)
    (dRet (dVar 3)))) 3
def den_check_search_b1 : DS := (dAugM 3 (dOp addD (dVarB 2) (dC (.int 1))))
def den_check_search : List D → Res D := runB
    (dSeq (dDrop (dCall 1 RN.den_check_net (dCons (dVar 0) dNil)))
    (dSeq (dIfS (dNot (dTru (dCall 2 RN.den_are_attempts (dCons (dVar 0) (dCons (dVar 1) dNil))))) (dRaise "InvalidAttempts") dNext)
    (dSeq (dIfS (dNot (dTru (dCall 3 RN.den_in_range (dCons (dVar 2) (dCons (dC (.int 0)) (dCons (dC (.int 9)) dNil)))))) (dRaise "InvalidBound") dNext)
    (dSeq (dSet 3 (dC (.int 1)))
    (dSeq (dFor (dItems (dOp ixD (dVarB 0) (dC (.int 1)))) (gN 4) den_check_search_b1)
    (dIfS (dTest (dOp gtD (dVarB 3) (dC (.int 2000)))) (dRaise "TooLong") dNext)))))) 2
def den_agreeing_stocks_t1 : DT := (dTest (dIsN true (dCall 3 RN.den_follow (dCons (dVar 0) (dCons (dVar 3) (dCons (dVar 1) dNil))))))
def den_agreeing_stocks_e1 : DE := (dVar 3)
def den_agreeing_stocks : List D → Res D := runB
    (dSeq (dDrop (dCall 3 RN.den_check_search (dCons (dVar 0) (dCons (dVar 1) (dCons (dVar 2) dNil)))))
    (dRet (dLc (dItems (dCall 2 RN.den_all_stocks (dCons (dCB lenD (dCons (dOp ixD (dVarB 0) (dC (.int 1))) dNil)) (dCons (dVar 2) dNil)))) (gN 3) den_agreeing_stocks_t1 den_agreeing_stocks_e1 [3]))) 1
def den__law_cell : List D → Res D := runB
    (dSeq (dIfS (dTest (dOp ltD (dVarB 1) (dCB lenD (dCons (dVarB 0) dNil)))) (dRet (dOp ixD (dVarB 0) (dVarB 1))) dNext)
    (dRet (dC (.int 0)))) 0
def den__law_row_b1 : DS := (dIfS (dTest (dOp ltD (dCall 2 RN.den__law_cell (dCons (dVar 0) (dCons (dVar 1) dNil))) (dOp powD (dC (.int 10)) (dC (.int 18))))) (dSeq (dSet 2 (dOp modD (dOp addD (dOp addD (dOp addD (dOp mulD (dVarB 2) (dC (.int 48271))) (dOp mulD (dC (.int 131)) (dVarB 4))) (dC (.int 7))) (dCall 2 RN.den__law_cell (dCons (dVar 0) (dCons (dOp modD (dOp addD (dOp addD (dVarB 1) (dC (.int 1))) (dVarB 4)) (dC (.int 20))) dNil)))) (dC (.int 2147483647))))
    (dApp 3 (dOp modD (dOp fdivD (dVarB 2) (dC (.int 11))) (dC (.int 1000))))) (dSeq (dApp 3 (dOp modD (dVarB 2) (dC (.int 1000))))
    (dSet 2 (dOp fdivD (dVarB 2) (dC (.int 1000))))))
def den__law_row : List D → Res D := runB
    (dSeq (dSet 2 (dCall 2 RN.den__law_cell (dCons (dVar 0) (dCons (dVar 1) dNil))))
    (dSeq (dSetN 3 (dLst dNil))
    (dSeq (dFor (dRng1 (dCons (dC (.int 60)) dNil)) (gN 4) den__law_row_b1)
    (dFrz 3 (dRet (dVar 3)))))) 3
def den__law_gcd_b1 : DS := (dPar 0 1 (dCons (dVar 1) (dCons (dOp modD (dVarB 0) (dVarB 1)) dNil)))
def den__law_gcd : List D → Res D := runB
    (dSeq (whileN (dTest (dOp (eqD true) (dVarB 1) (dC (.int 0)))) den__law_gcd_b1 100000)
    (dRet (dVar 0))) 0
def den__law_net_e1 : DE := (dOp ixD (dLst (dCons (dC (.int 1)) (dCons (dC (.int 1)) (dCons (dC (.int 2)) (dCons (dC (.int 2)) (dCons (dC (.int 3)) (dCons (dC (.int 4)) dNil))))))) (dOp modD (dOp ixD (dVarB 4) (dOp addD (dC (.int 1)) (dVarB 14))) (dC (.int 6))))
def den__law_net_b1 : DS := (dSeq (dSet 9 (dOp modD (dOp ixD (dVarB 4) (dOp addD (dC (.int 10)) (dOp mulD (dC (.int 4)) (dVarB 8)))) (dVarB 5)))
    (dSeq (dSet 10 (dOp modD (dOp addD (dOp addD (dVarB 9) (dC (.int 1))) (dOp modD (dOp ixD (dVarB 4) (dOp addD (dC (.int 11)) (dOp mulD (dC (.int 4)) (dVarB 8)))) (dOp subD (dVarB 5) (dC (.int 1))))) (dVarB 5)))
    (dSeq (dSet 11 (dCall 2 RN.den__law_gcd (dCons (dOp ixD (dVarB 6) (dVarB 9)) (dCons (dOp ixD (dVarB 6) (dVarB 10)) dNil))))
    (dSeq (dSet 12 (dOp fdivD (dOp ixD (dVarB 6) (dVarB 10)) (dVarB 11)))
    (dSeq (dSet 13 (dOp fdivD (dOp ixD (dVarB 6) (dVarB 9)) (dVarB 11)))
    (dSeq (dIfS (dAnd (dTest (dOp (eqD false) (dOp modD (dOp ixD (dVarB 4) (dC (.int 7))) (dC (.int 4))) (dC (.int 0)))) (dTest (dOp (eqD false) (dOp modD (dOp ixD (dVarB 4) (dOp addD (dC (.int 12)) (dOp mulD (dC (.int 4)) (dVarB 8)))) (dC (.int 2))) (dC (.int 0))))) (dSeq (dSet 12 (dOp addD (dC (.int 1)) (dOp modD (dOp ixD (dVarB 4) (dOp addD (dC (.int 13)) (dOp mulD (dC (.int 4)) (dVarB 8)))) (dC (.int 4)))))
    (dSet 13 (dOp addD (dC (.int 1)) (dOp modD (dOp ixD (dVarB 4) (dOp addD (dC (.int 12)) (dOp mulD (dC (.int 4)) (dVarB 8)))) (dC (.int 4)))))) dNext)
    (dApp 7 (dTup (dCons (dVar 9) (dCons (dVar 10) (dCons (dVar 12) (dCons (dVar 13) dNil))))))))))))
def den__law_net : List D → Res D := runB
    (dSeq (dSet 4 (dCall 2 RN.den__law_row (dCons (dVar 0) (dCons (dVar 1) dNil))))
    (dSeq (dSet 5 (dOp addD (dC (.int 1)) (dOp modD (dOp ixD (dVarB 4) (dC (.int 0))) (dVarB 2))))
    (dSeq (dSet 6 (dLc (dRng1 (dCons (dVar 5) dNil)) (gN 14) dYes den__law_net_e1 [14]))
    (dSeq (dSetN 7 (dLst dNil))
    (dSeq (dIfS (dTest (dOp gtD (dVarB 5) (dC (.int 1)))) (dFor (dRng1 (dCons (dOp modD (dOp ixD (dVarB 4) (dC (.int 6))) (dOp addD (dVarB 3) (dC (.int 1)))) dNil)) (gN 8) den__law_net_b1) dNext)
    (dRet (dTup (dCons (dVar 5) (dCons (dCB tupleD (dCons (dVarB 7) dNil)) dNil))))))))) 11
def den__law_stock_e1 : DE := (dOp modD (dOp ixD (dVarB 4) (dOp addD (dC (.int 40)) (dVarB 5))) (dOp addD (dVarB 3) (dC (.int 1))))
def den__law_stock : List D → Res D := runB
    (dSeq (dSet 4 (dCall 2 RN.den__law_row (dCons (dVar 0) (dCons (dVar 1) dNil))))
    (dRet (dCB tupleD (dCons (dLc (dRng1 (dCons (dCB lenD (dCons (dOp ixD (dVarB 2) (dC (.int 1))) dNil)) dNil)) (gN 5) dYes den__law_stock_e1 [5]) dNil)))) 2
def den__law_ready_b1 : DS := (dIfS (dAnd (dTest (dOp (eqD false) (dOp ixD (dOp ixD (dOp ixD (dVarB 0) (dC (.int 1))) (dVarB 3)) (dC (.int 1))) (dVarB 2))) (dTest (dOp ltD (dOp ixD (dVarB 1) (dVarB 3)) (dOp ixD (dOp ixD (dOp ixD (dVarB 0) (dC (.int 1))) (dVarB 3)) (dC (.int 3)))))) (dRet (dC (.bool false))) dNext)
def den__law_ready : List D → Res D := runB
    (dSeq (dFor (dRng1 (dCons (dCB lenD (dCons (dOp ixD (dVarB 0) (dC (.int 1))) dNil)) dNil)) (gN 3) den__law_ready_b1)
    (dRet (dC (.bool true)))) 1
def den__law_amounts_b1 : DS := (dSeq (dAsg (dOp ixD (dOp ixD (dVarB 0) (dC (.int 1))) (dVarB 4)) (gT 4 (gsC (gN 5) (gsC (gN 6) (gsC (gN 7) (gsC (gN 8) gsN))))))
    (dSeq (dSet 9 (dOp subD (dOp mulD (dVarB 7) (dOp ixD (dVarB 2) (dVarB 5))) (dOp mulD (dVarB 8) (dOp ixD (dVarB 2) (dVarB 6)))))
    (dApp 3 (dOp addD (dOp ixD (dVarB 1) (dVarB 4)) (dVarB 9)))))
def den__law_amounts : List D → Res D := runB
    (dSeq (dSetN 3 (dLst dNil))
    (dSeq (dFor (dRng1 (dCons (dCB lenD (dCons (dOp ixD (dVarB 0) (dC (.int 1))) dNil)) dNil)) (gN 4) den__law_amounts_b1)
    (dRet (dCB tupleD (dCons (dVarB 3) dNil))))) 7
def den_amount_ranges_b1 : DS := (dSeq (dSet 7 (dCall 3 RN.den_follow (dCons (dVar 0) (dCons (dVar 4) (dCons (dVar 1) dNil)))))
    (dIfS (dTest (dIsN true (dVar 7))) (dApp 3 (dVar 7)) dNext))
def den_amount_ranges_e1 : DE := (dOp ixD (dVarB 8) (dVarB 6))
def den_amount_ranges_b2 : DS := (dFrz 3 (dSeq (dSet 7 (dLc (dItems (dVar 3)) (gN 8) dYes den_amount_ranges_e1 [8]))
    (dApp 5 (dTup (dCons (dCB (aggD minL true) (dCons (dVarB 7) dNil)) (dCons (dCB (aggD maxL true) (dCons (dVarB 7) dNil)) dNil))))))
def den_amount_ranges : List D → Res D := runB
    (dSeq (dDrop (dCall 3 RN.den_check_search (dCons (dVar 0) (dCons (dVar 1) (dCons (dVar 2) dNil)))))
    (dSeq (dSetN 3 (dLst dNil))
    (dSeq (dFor (dItems (dCall 2 RN.den_all_stocks (dCons (dCB lenD (dCons (dOp ixD (dVarB 0) (dC (.int 1))) dNil)) (dCons (dVar 2) dNil)))) (gN 4) den_amount_ranges_b1)
    (dSeq (dIfS (dNot (dTru (dVarB 3))) (dRaise "InvalidAttempts") dNext)
    (dSeq (dSetN 5 (dLst dNil))
    (dSeq (dFor (dRng1 (dCons (dCB lenD (dCons (dOp ixD (dVarB 0) (dC (.int 1))) dNil)) dNil)) (gN 6) den_amount_ranges_b2)
    (dFrz 5 (dRet (dVar 5))))))))) 6
def den_best_attempt_e1 : DE := (dCall 3 RN.den_follow (dCons (dVar 0) (dCons (dVar 8) (dCons (dVar 1) dNil))))
def den_best_attempt_t1 : DT := (dTest (dIsN true (dVar 9)))
def den_best_attempt_e2 : DE := (dVar 9)
def den_best_attempt_t2 : DT := (dTru (dCall 3 RN.den_is_ready (dCons (dVar 0) (dCons (dVar 9) (dCons (dVar 5) dNil)))))
def den_best_attempt_e3 : DE := (dVar 9)
def den_best_attempt_b1 : DS := (dSeq (dSet 6 (dCB lenD (dCons (dLc (dItems (dVar 3)) (gN 9) den_best_attempt_t2 den_best_attempt_e3 [9]) dNil)))
    (dSeq (dSet 7 (dCB maxD (dCons (dVarB 6) (dCons (dOp subD (dCB lenD (dCons (dVarB 3) dNil)) (dVarB 6)) dNil))))
    (dIfS (dAnd (dTest (dOp ltD (dVarB 7) (dCB lenD (dCons (dVarB 3) dNil)))) (dOr (dTest (dIsN false (dVar 4))) (dTest (dOp ltD (dVarB 7) (dOp ixD (dVarB 4) (dC (.int 0))))))) (dSet 4 (dTup (dCons (dVar 7) (dCons (dVar 5) dNil)))) dNext)))
def den_best_attempt : List D → Res D := runB
    (dSeq (dDrop (dCall 3 RN.den_check_search (dCons (dVar 0) (dCons (dVar 1) (dCons (dVar 2) dNil)))))
    (dSeq (dSet 3 (dLc (dItems (dCall 2 RN.den_all_stocks (dCons (dCB lenD (dCons (dOp ixD (dVarB 0) (dC (.int 1))) dNil)) (dCons (dVar 2) dNil)))) (gN 8) dYes den_best_attempt_e1 [8]))
    (dSeq (dSet 3 (dLc (dItems (dVar 3)) (gN 9) den_best_attempt_t1 den_best_attempt_e2 [9]))
    (dSeq (dIfS (dNot (dTru (dVarB 3))) (dRaise "InvalidAttempts") dNext)
    (dSeq (dSet 4 (dC .none))
    (dSeq (dFor (dRng1 (dCons (dOp ixD (dVarB 0) (dC (.int 0))) dNil)) (gN 5) den_best_attempt_b1)
    (dRet (dIf (dTest (dIsN false (dVar 4))) (dC .none) (dOp ixD (dVarB 4) (dC (.int 1))))))))))) 7
def den__law_attempts_b1 : DS := (dSeq (dSet 8 (dOp modD (dOp ixD (dVarB 4) (dOp addD (dC (.int 1)) (dVarB 7))) (dOp ixD (dVarB 2) (dC (.int 0)))))
    (dSeq (dSet 9 (dOp (eqD true) (dCall 3 RN.den__law_ready (dCons (dVar 2) (dCons (dCall 3 RN.den__law_amounts (dCons (dVar 2) (dCons (dVar 3) (dCons (dVar 6) dNil)))) (dCons (dVar 8) dNil)))) (dOp (eqD false) (dOp modD (dOp ixD (dVarB 4) (dOp addD (dC (.int 10)) (dVarB 7))) (dC (.int 12))) (dC (.int 0)))))
    (dSeq (dApp 5 (dTup (dCons (dVar 8) (dCons (dVar 9) dNil))))
    (dIfS (dTru (dVarB 9)) (dSet 6 (dOp addD (dOp addD (dSl (dVarB 6) dNoP (dP (dVarB 8))) (dTup (dCons (dOp addD (dOp ixD (dVarB 6) (dVarB 8)) (dC (.int 1))) dNil))) (dSl (dVarB 6) (dP (dOp addD (dVarB 8) (dC (.int 1)))) dNoP))) dNext))))
def den__law_attempts : List D → Res D := runB
    (dSeq (dSet 4 (dCall 2 RN.den__law_row (dCons (dVar 0) (dCons (dVar 1) dNil))))
    (dSeq (dSetN 5 (dLst dNil))
    (dSeq (dSet 6 (dCB tupleD (dCons (dOp mulD (dLst (dCons (dC (.int 0)) dNil)) (dOp ixD (dVarB 2) (dC (.int 0)))) dNil)))
    (dSeq (dFor (dRng1 (dCons (dOp modD (dOp ixD (dVarB 4) (dC (.int 0))) (dC (.int 7))) dNil)) (gN 7) den__law_attempts_b1)
    (dRet (dCB tupleD (dCons (dVarB 5) dNil))))))) 6
def den__law_follow_b1 : DS := (dSeq (dIfS (dTest (dOp (eqD true) (dCall 3 RN.den__law_ready (dCons (dVar 0) (dCons (dCall 3 RN.den__law_amounts (dCons (dVar 0) (dCons (dVar 1) (dCons (dVar 3) dNil)))) (dCons (dVar 4) dNil)))) (dVarB 5))) (dRet (dC .none)) dNext)
    (dIfS (dTru (dVarB 5)) (dSet 3 (dOp addD (dOp addD (dSl (dVarB 3) dNoP (dP (dVarB 4))) (dTup (dCons (dOp addD (dOp ixD (dVarB 3) (dVarB 4)) (dC (.int 1))) dNil))) (dSl (dVarB 3) (dP (dOp addD (dVarB 4) (dC (.int 1)))) dNoP))) dNext))
def den__law_follow : List D → Res D := runB
    (dSeq (dSet 3 (dCB tupleD (dCons (dOp mulD (dLst (dCons (dC (.int 0)) dNil)) (dOp ixD (dVarB 0) (dC (.int 0)))) dNil)))
    (dSeq (dFor (dItems (dVar 2)) (gT 2 (gsC (gN 4) (gsC (gN 5) gsN))) den__law_follow_b1)
    (dRet (dCall 3 RN.den__law_amounts (dCons (dVar 0) (dCons (dVar 1) (dCons (dVar 3) dNil))))))) 3
def den__law_every_stock_e1 : DE := (dOp addD (dVarB 5) (dTup (dCons (dVar 6) dNil)))
def den__law_every_stock_b1 : DS := (dSet 4 (dOp addD (dVarB 4) (dLc (dRng1 (dCons (dOp addD (dVarB 1) (dC (.int 1))) dNil)) (gN 6) dYes den__law_every_stock_e1 [6])))
def den__law_every_stock_b2 : DS := (dSeq (dSet 4 (dLst dNil))
    (dSeq (dFor (dItems (dVar 2)) (gN 5) den__law_every_stock_b1)
    (dSet 2 (dVar 4))))
def den__law_every_stock : List D → Res D := runB
    (dSeq (dSet 2 (dLst (dCons (dTup dNil) dNil)))
    (dSeq (dFor (dRng1 (dCons (dCB lenD (dCons (dOp ixD (dVarB 0) (dC (.int 1))) dNil)) dNil)) (gN 3) den__law_every_stock_b2)
    (dRet (dVar 2)))) 5
def den__law_hidden : List D → Res D := runB
    (dTry 4 (dSeq (dIfS (dTest (dOp (eqD false) (dVarB 0) (dC (.int 0)))) (dRet (dCall 3 RN.den_agreeing_stocks (dCons (dVar 1) (dCons (dVar 2) (dCons (dVar 3) dNil))))) dNext)
    (dRet (dIf (dTest (dOp (eqD false) (dVarB 0) (dC (.int 1)))) (dCall 3 RN.den_amount_ranges (dCons (dVar 1) (dCons (dVar 2) (dCons (dVar 3) dNil)))) (dCall 3 RN.den_best_attempt (dCons (dVar 1) (dCons (dVar 2) (dCons (dVar 3) dNil))))))) ["NetError", "InvalidNet", "InvalidAttempts", "InvalidBound", "TooLong"] [⟨"InvalidAttempts", "NetError", "InvalidBound", "attempts", "other"⟩, ⟨"InvalidBound", "NetError", "InvalidAttempts", "bound", "other"⟩, ⟨"TooLong", "NetError", "InvalidBound", "long", "other"⟩]) 1
def den_law_k16_e1 : DE := (dCall 3 RN.den__law_follow (dCons (dVar 1) (dCons (dVar 14) (dCons (dVar 3) dNil))))
def den_law_k16_t1 : DT := (dTest (dIsN true (dVar 15)))
def den_law_k16_e2 : DE := (dVar 15)
def den_law_k16_e3 : DE := (dOp ixD (dVarB 15) (dVarB 8))
def den_law_k16_b1 : DS := (dSeq (dSet 11 (dLc (dItems (dVar 4)) (gN 15) dYes den_law_k16_e3 [15]))
    (dApp 7 (dTup (dCons (dCB (aggD minL true) (dCons (dVarB 11) dNil)) (dCons (dCB (aggD maxL true) (dCons (dVarB 11) dNil)) dNil)))))
def den_law_k16_t2 : DT := (dTru (dCall 3 RN.den__law_ready (dCons (dVar 1) (dCons (dVar 15) (dCons (dVar 10) dNil)))))
def den_law_k16_e4 : DE := (dVar 15)
def den_law_k16_b2 : DS := (dSeq (dSet 12 (dCB lenD (dCons (dLc (dItems (dVar 4)) (gN 15) den_law_k16_t2 den_law_k16_e4 [15]) dNil)))
    (dSeq (dSet 13 (dCB maxD (dCons (dVarB 12) (dCons (dOp subD (dCB lenD (dCons (dVarB 4) dNil)) (dVarB 12)) dNil))))
    (dIfS (dAnd (dTest (dOp ltD (dVarB 13) (dCB lenD (dCons (dVarB 4) dNil)))) (dOr (dTest (dIsN false (dVar 9))) (dTest (dOp ltD (dVarB 13) (dOp ixD (dVarB 9) (dC (.int 0))))))) (dSet 9 (dTup (dCons (dVar 13) (dCons (dVar 10) dNil)))) dNext)))
def den_law_k16 : List D → Res D := runB
    (dSeq (dSet 1 (dCall 4 RN.den__law_net (dCons (dVar 0) (dCons (dC (.int 2)) (dCons (dC (.int 4)) (dCons (dC (.int 3)) dNil))))))
    (dSeq (dSet 2 (dC (.int 4)))
    (dSeq (dSet 3 (dCall 4 RN.den__law_attempts (dCons (dVar 0) (dCons (dC (.int 4)) (dCons (dVar 1) (dCons (dCall 4 RN.den__law_stock (dCons (dVar 0) (dCons (dC (.int 3)) (dCons (dVar 1) (dCons (dVar 2) dNil))))) dNil))))))
    (dSeq (dSet 4 (dLc (dItems (dCall 2 RN.den__law_every_stock (dCons (dVar 1) (dCons (dVar 2) dNil)))) (gN 14) dYes den_law_k16_e1 [14]))
    (dSeq (dSet 4 (dLc (dItems (dVar 4)) (gN 15) den_law_k16_t1 den_law_k16_e2 [15]))
    (dSeq (dSet 5 (dCall 4 RN.den__law_hidden (dCons (dC (.int 1)) (dCons (dVar 1) (dCons (dVar 3) (dCons (dVar 2) dNil))))))
    (dSeq (dSet 6 (dCall 4 RN.den__law_hidden (dCons (dC (.int 2)) (dCons (dVar 1) (dCons (dVar 3) (dCons (dVar 2) dNil))))))
    (dSeq (dIfS (dTest (dOp (eqD false) (dVarB 4) (dLst dNil))) (dRet (dAndV (dOp (eqD false) (dVarB 5) (dC (.str "attempts"))) (dOp (eqD false) (dVarB 6) (dC (.str "attempts"))))) dNext)
    (dSeq (dSetN 7 (dLst dNil))
    (dSeq (dFor (dRng1 (dCons (dCB lenD (dCons (dOp ixD (dVarB 1) (dC (.int 1))) dNil)) dNil)) (gN 8) den_law_k16_b1)
    (dSeq (dSet 9 (dC .none))
    (dSeq (dFor (dRng1 (dCons (dOp ixD (dVarB 1) (dC (.int 0))) dNil)) (gN 10) den_law_k16_b2)
    (dRet (dAndV (dOp (eqD false) (dVarB 5) (dVarB 7)) (dOp (eqD false) (dVarB 6) (dIf (dTest (dIsN false (dVar 9))) (dC .none) (dOp ixD (dVarB 9) (dC (.int 1))))))))))))))))))) 15
end RN

end
section
namespace RN
open PySem L2 RD
/-! ### loops over data -/
theorem forL_cons_next {g : DG} {ds : DS} {x : D} {xs : List D} {δ δ1 δ2 : DEnv} (h1 : g x δ = some δ1) (h2 : ds δ1 = .next δ2) : forL g ds (x :: xs) δ = forL g ds xs δ2 := by
  simp only [forL, h1, Opt.out, h2]
theorem forL_cons_ret {g : DG} {ds : DS} {x : D} {xs : List D} {δ δ1 : DEnv} {r : D} (h1 : g x δ = some δ1) (h2 : ds δ1 = .ret r) : forL g ds (x :: xs) δ = .ret r := by
  simp only [forL, h1, Opt.out, h2]
theorem forL_nil {g : DG} {ds : DS} {δ : DEnv} : forL g ds [] δ = .next δ := rfl
theorem rng_zero {lo : Int} : rng lo 0 = [] := rfl
theorem rng_succ {lo : Int} {n : Nat} : rng lo (n + 1) = .int lo :: rng (lo + 1) n := by
  unfold rng
  rw [List.range_succ_eq_map, List.map_cons, List.map_map]
  congr 1
  · simp
  · apply List.map_congr_left
    intro a _
    simp only [Function.comp]
    congr 1
    omega
/-- an invariant over range(n) -/
theorem forR {g : DG} {ds : DS} (P : Nat → DEnv → Prop) (n : Nat) (hs : ∀ i δ, i < n → P i δ → ∃ δ1, g (.int (i : Int)) δ = some δ1 ∧ ∃ δ2, ds δ1 = .next δ2 ∧ P (i + 1) δ2) :
    ∀ (m i : Nat) δ, i + m = n → P i δ → ∃ δ', forL g ds (rng (i : Int) m) δ = .next δ' ∧ P n δ'
  | 0, i, δ, e, p => ⟨δ, rfl, by rw [← e]; exact p⟩
  | m + 1, i, δ, e, p => by
    obtain ⟨δ1, h1, δ2, h2, h3⟩ := hs i δ (by omega) p
    rw [rng_succ, forL_cons_next h1 h2]
    have := forR P n hs m (i + 1) δ2 (by omega) h3
    simpa using this
theorem forR0 {g : DG} {ds : DS} (P : Nat → DEnv → Prop) (n : Nat) {δ : DEnv} (h0 : P 0 δ) (hs : ∀ i δ, i < n → P i δ → ∃ δ1, g (.int (i : Int)) δ = some δ1 ∧ ∃ δ2, ds δ1 = .next δ2 ∧ P (i + 1) δ2) :
    ∃ δ', forL g ds (rng 0 n) δ = .next δ' ∧ P n δ' := forR P n hs n 0 δ (by omega) h0
/-- a search over range(n): the first that returns -/
theorem forRs {g : DG} {ds : DS} (P : DEnv → Prop) (n : Nat) (q : Nat → Bool) (r : D) (hs : ∀ i δ, i < n → P δ → ∃ δ1, g (.int (i : Int)) δ = some δ1 ∧ if q i then ds δ1 = .ret r else ∃ δ2, ds δ1 = .next δ2 ∧ P δ2) :
    ∀ (m i : Nat) δ, i + m = n → P δ → (if (List.range' i m).any q then forL g ds (rng (i : Int) m) δ = .ret r else ∃ δ', forL g ds (rng (i : Int) m) δ = .next δ' ∧ P δ')
  | 0, i, δ, e, p => by simp only [List.range'_zero, List.any_nil]; exact ⟨δ, rfl, p⟩
  | m + 1, i, δ, e, p => by
    obtain ⟨δ1, h1, h2⟩ := hs i δ (by omega) p
    rw [List.range'_succ, List.any_cons, rng_succ]
    cases qi : q i with
    | true =>
      rw [qi] at h2
      simp only [Bool.true_or, if_true] at h2 ⊢
      exact forL_cons_ret h1 h2
    | false =>
      rw [qi] at h2
      simp only [Bool.false_or] at h2 ⊢
      obtain ⟨δ2, h3, h4⟩ := h2
      rw [forL_cons_next h1 h3]
      have := forRs P n q r hs m (i + 1) δ2 (by omega) h4
      simpa using this
/-- an invariant over a list of items -/
theorem forI {α : Type} {g : DG} {ds : DS} (enc : α → D) (P : List α → DEnv → Prop) (l : List α) (hs : ∀ pre x post δ, l = pre ++ x :: post → P pre δ → ∃ δ1, g (enc x) δ = some δ1 ∧ ∃ δ2, ds δ1 = .next δ2 ∧ P (pre ++ [x]) δ2) :
    ∀ (post pre : List α) δ, pre ++ post = l → P pre δ → ∃ δ', forL g ds (post.map enc) δ = .next δ' ∧ P l δ'
  | [], pre, δ, e, p => ⟨δ, rfl, by rw [← e, List.append_nil]; exact p⟩
  | x :: post, pre, δ, e, p => by
    obtain ⟨δ1, h1, δ2, h2, h3⟩ := hs pre x post δ e.symm p
    rw [List.map_cons, forL_cons_next h1 h2]
    exact forI enc P l hs post (pre ++ [x]) δ2 (by rw [← e]; simp) h3
/-! ### comprehensions over data -/
theorem compL_map {α : Type} {g : DG} {d : DT} {da : DE} {δ : DEnv} (enc : α → D) (p : α → Bool) (f : α → D) : ∀ l : List α, (∀ a ∈ l, ∃ δ1, g (enc a) δ = some δ1 ∧ d δ1 = .ok (p a) ∧ (p a = true → da δ1 = .ok (f a))) → compL g d da δ (l.map enc) = .ok ((l.filter p).map f)
  | [], _ => rfl
  | a :: l, h => by
    obtain ⟨δ1, h1, h2, h3⟩ := h a List.mem_cons_self
    have ih := compL_map enc p f l fun b hb => h b (List.mem_cons_of_mem _ hb)
    rw [List.map_cons, compL, h1]
    simp only [h2]
    cases q : p a with
    | true =>
      rw [List.filter_cons_of_pos q, List.map_cons]
      simp only [h3 q, ih, Res.bind]
    | false =>
      rw [List.filter_cons_of_neg (by rw [q]; exact Bool.false_ne_true)]
      exact ih
theorem compL_rng {g : DG} {d : DT} {da : DE} {δ : DEnv} (p : Nat → Bool) (f : Nat → D) (n : Nat) (h : ∀ i, i < n → ∃ δ1, g (.int (i : Int)) δ = some δ1 ∧ d δ1 = .ok (p i) ∧ (p i = true → da δ1 = .ok (f i))) : compL g d da δ (rng 0 n) = .ok (((List.range n).filter p).map f) := by
  have e : rng 0 n = (List.range n).map fun i : Nat => PyData.int (i : Int) := by
    unfold rng
    apply List.map_congr_left
    intro a _
    congr 1
    omega
  rw [e]
  exact compL_map (fun i : Nat => PyData.int (i : Int)) p f (List.range n) fun a ha => h a (List.mem_range.mp ha)
theorem filter_true {α : Type} (l : List α) : l.filter (fun _ => true) = l := by simp
/-! ### operations -/
theorem addI {i j : Int} : addD (.int i) (.int j) = some (.int (i + j)) := rfl
theorem subI {i j : Int} : subD (.int i) (.int j) = some (.int (i - j)) := rfl
theorem mulI {i j : Int} (h : -18446744073709551616 < j ∧ j < 18446744073709551616) : mulD (.int i) (.int j) = some (.int (i * j)) := if_pos (Or.inr h)
theorem mulI' {i j : Int} (h : -18446744073709551616 < i ∧ i < 18446744073709551616) : mulD (.int i) (.int j) = some (.int (i * j)) := if_pos (Or.inl h)
theorem divI {i j : Int} (h : 0 < j ∧ j < 1073741824) : fdivD (.int i) (.int j) = some (.int (i / j)) := if_pos h
theorem modI {i j : Int} (h : 0 < j) : modD (.int i) (.int j) = some (.int (i % j)) := if_pos h
theorem ltI {i j : Int} : ltD (.int i) (.int j) = some (.bool (decide (i < j))) := rfl
theorem leI {i j : Int} : leD (.int i) (.int j) = some (.bool (decide (i ≤ j))) := rfl
theorem gtI {i j : Int} : gtD (.int i) (.int j) = some (.bool (decide (j < i))) := rfl
theorem geI {i j : Int} : geD (.int i) (.int j) = some (.bool (decide (j ≤ i))) := rfl
theorem eqI {i j : Int} : eqD false (.int i) (.int j) = some (.bool (decide (i = j))) := rfl
theorem neI {i j : Int} : eqD true (.int i) (.int j) = some (.bool (!decide (i = j))) := rfl
theorem powC : powD (.int 10) (.int 18) = some (.int 1000000000000000000) := by
  show (if CPow 10 18 then some (PyData.int (10 ^ (18 : Int).toNat)) else none) = _
  rw [if_pos (by decide)]
  rfl
theorem szT {α : Type} {n : Nat} {a b : α} (h : n ≤ 1000000) : (if Sz n then a else b) = a := if_pos h
theorem rngT {α : Type} {j : Int} {a b : α} (h0 : -4611686018427387904 ≤ j) (h1 : j < 4611686018427387904) : (if -4611686018427387904 ≤ j ∧ j < 4611686018427387904 then a else b) = a := if_pos ⟨h0, h1⟩
theorem rng_len {lo : Int} {n : Nat} : (rng lo n).length = n := by unfold rng; rw [List.length_map, List.length_range]
theorem ixL {l : List D} {i : Int} : ixD (.list l) (.int i) = atI l i := rfl
theorem ixT {l : List D} {i : Int} : ixD (.tuple l) (.int i) = atI l i := rfl
theorem rng1_ok {dr : DA} {δ : DEnv} {n : Int} (h : dr δ = .ok [.int n]) (h0 : -1000000000 ≤ n) (h1 : n ≤ 1000000000) : dRng1 dr δ = .ok (rng 0 n.toNat) := by
  unfold dRng1
  rw [h]
  exact if_pos ⟨by omega, by omega⟩
/-! ### items -/
theorem atI_in {α : Type} {xs : List α} {i : Int} (h0 : 0 ≤ i) (h1 : i < xs.length) : atI xs i = xs[i.toNat]? := by
  unfold atI ixN
  rw [if_pos h0, if_pos h1]
  rfl
theorem atI_int {l : List Int} {i : Int} (h0 : 0 ≤ i) (h1 : i < l.length) : atI (l.map PyData.int) i = some (.int (l.getD i.toNat 0)) := by
  rw [atI_in h0 (by rw [List.length_map]; exact h1), List.getElem?_map]
  have : i.toNat < l.length := by omega
  rw [List.getElem?_eq_getElem this, List.getD_eq_getElem?_getD, List.getElem?_eq_getElem this]
  rfl
abbrev encI (l : List Int) : List D := l.map PyData.int
theorem ixI {l : List Int} {i : Int} (h0 : 0 ≤ i) (h1 : i < l.length) : atI (encI l) i = some (.int (l.getD i.toNat 0)) := atI_int h0 h1
theorem at0 {α : Type} {x : α} {l : List α} : atI (x :: l) 0 = some x := by
  rw [atI_in (by omega) (by simp)]
  rfl
theorem at1 {α : Type} {x y : α} {l : List α} : atI (x :: y :: l) 1 = some y := by
  rw [atI_in (by omega) (by simp; omega)]
  rfl
theorem at2 {α : Type} {x y z : α} {l : List α} : atI (x :: y :: z :: l) 2 = some z := by
  rw [atI_in (by omega) (by simp; omega)]
  rfl
theorem at3 {α : Type} {x y z u : α} {l : List α} : atI (x :: y :: z :: u :: l) 3 = some u := by
  rw [atI_in (by omega) (by simp; omega)]
  rfl
/-! ### the script's cells and rows -/
def cellZ (ns : List Int) (k : Int) : Int := ns.getD k.toNat 0
theorem e_cell (ns : List Int) (k : Int) (hk : 0 ≤ k) : den__law_cell [scrD ns, .int k] = .ok (.int (cellZ ns k)) := by
  unfold den__law_cell runB
  simp only [List.map_cons, List.map_nil, List.replicate_zero, List.append_nil, List.cons_append, List.nil_append, dSeq, dIfS, dTest, dOp, dVarB, dCB, dCons, dNil, dRet, dC, Res.bind, Res.out, Res.ofO, lenD, scrD, ltD, i2, List.getElem?_cons_zero, List.getElem?_cons_succ, List.length_map, dNext, ixD]
  by_cases h : k < (ns.length : Int)
  · simp only [h, decide_true, if_true]
    rw [atI_int hk h]
    rfl
  · simp only [h, decide_false, if_false, Bool.false_eq_true]
    unfold cellZ
    rw [List.getD_eq_getElem?_getD, List.getElem?_eq_none (by omega)]
    rfl
/-! ### evaluation, step by step -/
section
variable {α β : Type} {a : α} {f : α → Res β} {g : α → Out} {δ δ' : DEnv} {n : Str} {p : Option (Str × D)} {d : D} {da db dc : DE} {dr : DA} {dt dt' : DT} {ds du : DS} {i j k m : Nat} {xs : List D} {x y : D}
theorem bind_ok : (Res.ok a).bind f = f a := rfl
theorem bind_exc : (Res.exc n p : Res α).bind f = .exc n p := rfl
theorem bind_stuck : (Res.stuck : Res α).bind f = .stuck := rfl
theorem ofO_some : Res.ofO (some a) = .ok a := rfl
theorem out_ok : (Res.ok a).out δ g = g a := rfl
theorem out_exc : (Res.exc n p : Res α).out δ g = .exc n p δ := rfl
theorem oout_some : Opt.out (some a) g = g a := rfl
def seqO (o : Out) (e : DS) : Out := match o with
  | .next δ' => e δ'
  | o => o
theorem x_seq : dSeq ds du δ = seqO (ds δ) du := rfl
theorem seq_next : seqO (.next δ) ds = ds δ := rfl
theorem seq_ret : seqO (.ret d) ds = .ret d := rfl
theorem seq_exc : seqO (.exc n p δ) ds = .exc n p δ := rfl
theorem seq_brk : seqO (.brk δ) ds = .brk δ := rfl
theorem seq_cont : seqO (.cont δ) ds = .cont δ := rfl
def finO : Out → Res D
  | .next _ => .ok .none
  | .ret d => .ok d
  | .exc n p _ => .exc n p
  | _ => .stuck
theorem x_run : runB ds m xs = finO (ds (xs.map .val ++ List.replicate m .no)) := rfl
theorem fin_next : finO (.next δ) = .ok .none := rfl
theorem fin_ret : finO (.ret d) = .ok d := rfl
theorem fin_exc : finO (.exc n p δ) = .exc n p := rfl
def varO : Option Sl → Res D
  | some (.val d) => .ok d
  | _ => .stuck
def varOB : Option Sl → Res D
  | some (.val d) => .ok d
  | some (.own d) => .ok d
  | some (.bor d) => .ok d
  | _ => .stuck
theorem x_var : dVar i δ = varO δ[i]? := rfl
theorem x_varB : dVarB i δ = varOB δ[i]? := rfl
theorem var_val : varO (some (.val d)) = .ok d := rfl
theorem varB_val : varOB (some (.val d)) = .ok d := rfl
theorem varB_own : varOB (some (.own d)) = .ok d := rfl
theorem varB_bor : varOB (some (.bor d)) = .ok d := rfl
theorem x_op {g : D → D → Option D} : dOp g da db δ = (da δ).bind fun d => (db δ).bind fun e => Res.ofO (g d e) := rfl
theorem x_c : dC d δ = .ok d := rfl
def testO : D → Res Bool
  | .bool b => .ok b
  | _ => .stuck
theorem x_test : dTest da δ = (da δ).bind testO := rfl
theorem test_b {b : Bool} : testO (.bool b) = .ok b := rfl
theorem x_cb {g : List D → Option D} : dCB g dr δ = (dr δ).bind fun xs => Res.ofO (g xs) := rfl
theorem x_nil : dNil δ = .ok [] := rfl
theorem x_cons : dCons da dr δ = (da δ).bind fun x => (dr δ).bind fun xs => .ok (x :: xs) := rfl
theorem x_ret : dRet da δ = (da δ).out δ .ret := rfl
theorem x_drop : dDrop da δ = (da δ).out δ fun _ => .next δ := rfl
theorem x_set : dSet i da δ = (da δ).out δ fun x => .next (δ.set i (.val x)) := rfl
theorem x_setN : dSetN i da δ = (da δ).out δ fun x => .next (δ.set i (.own x)) := rfl
theorem x_next : dNext δ = .next δ := rfl
def appO (i : Nat) (r : Res D) (δ : DEnv) : Option Sl → Out
  | some (.own (.list xs)) => r.out δ fun x => if Sz xs.length then .next (δ.set i (.own (.list (xs ++ [x])))) else .stuck
  | _ => .stuck
theorem x_app : dApp i da δ = appO i (da δ) δ δ[i]? := rfl
theorem app_own (h : xs.length ≤ 1000000) : appO i (.ok x) δ (some (.own (.list xs))) = .next (δ.set i (.own (.list (xs ++ [x])))) := if_pos h
def extO (i : Nat) (r : Res D) (δ : DEnv) : Option Sl → Out
  | some (.own (.list xs)) => r.out δ fun x => match x with
    | .list ys => if Sz (xs.length + ys.length) then .next (δ.set i (.own (.list (xs ++ ys)))) else .stuck
    | _ => .stuck
  | _ => .stuck
theorem x_ext : dExt i da δ = extO i (da δ) δ δ[i]? := rfl
theorem ext_own {ys : List D} (h : xs.length + ys.length ≤ 1000000) : extO i (.ok (.list ys)) δ (some (.own (.list xs))) = .next (δ.set i (.own (.list (xs ++ ys)))) := if_pos h
def setIxO (i : Nat) (rk rv : Res D) (δ : DEnv) : Option Sl → Out
  | some (.own (.list xs)) => rv.out δ fun v => rk.out δ fun k => Opt.out (setD xs v k) fun ys => .next (δ.set i (.own (.list ys)))
  | some (.own (.dict es)) => rv.out δ fun v => rk.out δ fun k => Opt.out (dputD es k v) fun es' => .next (δ.set i (.own (.dict es')))
  | _ => .stuck
theorem x_setIx : dSetIx i da db δ = setIxO i (da δ) (db δ) δ δ[i]? := rfl
theorem setIx_own {v : D} {q : Int} (h0 : 0 ≤ q) (h1 : q < xs.length) : setIxO i (.ok (.int q)) (.ok v) δ (some (.own (.list xs))) = .next (δ.set i (.own (.list (xs.set q.toNat v)))) := by
  show Opt.out ((ixN xs.length q).map fun j => xs.set j v) _ = _
  unfold ixN
  rw [if_pos h0, if_pos h1]
  rfl
theorem setIx_dict {es es' : List (D × D)} {kd v : D} (h : dputD es kd v = some es') : setIxO i (.ok kd) (.ok v) δ (some (.own (.dict es))) = .next (δ.set i (.own (.dict es'))) := by
  show Opt.out (dputD es kd v) _ = _
  rw [h]
  rfl
def parO (i j : Nat) (δ : DEnv) : List D → Out
  | [x, y] => .next ((δ.set i (.val x)).set j (.val y))
  | _ => .stuck
theorem x_par : dPar i j dr δ = (dr δ).out δ (parO i j δ) := rfl
theorem par_2 : parO i j δ [x, y] = .next ((δ.set i (.val x)).set j (.val y)) := rfl
def augO (i : Nat) (f : Int → Int → Int) (r : Res D) (δ : DEnv) : Option Sl → Out
  | some (.val (.int k)) => r.out δ fun y => match y with
    | .int m => .next (δ.set i (.val (.int (f k m))))
    | _ => .stuck
  | _ => .stuck
theorem x_aug {f : Int → Int → Int} : dAug i f da δ = augO i f (da δ) δ δ[i]? := rfl
theorem aug_val {f : Int → Int → Int} {u v : Int} : augO i f (.ok (.int v)) δ (some (.val (.int u))) = .next (δ.set i (.val (.int (f u v)))) := rfl
def frzO (i : Nat) (δ : DEnv) : Option Sl → Option DEnv
  | some (.own (.list xs)) => some (δ.set i (.val (.list xs)))
  | some (.own (.dict es)) => some (δ.set i (.val (.dict es)))
  | some (.val _) => some δ
  | _ => none
theorem x_frz : dFrz i ds δ = Opt.out (frzO i δ δ[i]?) ds := rfl
theorem frz_own : frzO i δ (some (.own (.list xs))) = some (δ.set i (.val (.list xs))) := rfl
theorem frz_dict {es : List (D × D)} : frzO i δ (some (.own (.dict es))) = some (δ.set i (.val (.dict es))) := rfl
theorem frz_val : frzO i δ (some (.val d)) = some δ := rfl
def augMO (i : Nat) (r : Res D) (δ : DEnv) : Option Sl → Out
  | some (.val (.int k)) => r.out δ fun y => match y with
    | .int m => if CMul k m then .next (δ.set i (.val (.int (k * m)))) else .stuck
    | _ => .stuck
  | _ => .stuck
theorem x_augM : dAugM i da δ = augMO i (da δ) δ δ[i]? := rfl
theorem augM_val {u v : Int} (h : -18446744073709551616 < v ∧ v < 18446744073709551616) : augMO i (.ok (.int v)) δ (some (.val (.int u))) = .next (δ.set i (.val (.int (u * v)))) := if_pos (Or.inr h)
def enumO : List D → Res (List D)
  | [.tuple x] => .ok (enumD x)
  | _ => .stuck
theorem x_enum : dEnum dr δ = (dr δ).bind enumO := rfl
theorem enum_t : enumO [.tuple xs] = .ok (enumD xs) := rfl
theorem x_asg {g : DG} : dAsg da g δ = (da δ).out δ fun x => Opt.out (g x δ) .next := rfl
theorem x_tup : dTup dr δ = (dr δ).bind fun xs => if Sz xs.length then .ok (.tuple xs) else .stuck := rfl
theorem x_lst : dLst dr δ = (dr δ).bind fun xs => if Sz xs.length then .ok (.list xs) else .stuck := rfl
theorem x_ifS : dIfS dt ds du δ = (dt δ).out δ fun k => if k then ds δ else du δ := rfl
theorem x_if : dIf dt da db δ = (dt δ).bind fun k => if k then da δ else db δ := rfl
theorem x_and : dAnd dt dt' δ = (dt δ).bind fun k => if k then dt' δ else .ok false := rfl
theorem x_or : dOr dt dt' δ = (dt δ).bind fun k => if k then .ok true else dt' δ := rfl
theorem x_not : dNot dt δ = (dt δ).bind fun k => .ok (!k) := rfl
def andO (r : Res D) : D → Res D
  | .bool true => r
  | .bool false => .ok (.bool false)
  | _ => .stuck
def orO (r : Res D) : D → Res D
  | .bool true => .ok (.bool true)
  | .bool false => r
  | _ => .stuck
theorem x_andV : dAndV da db δ = (da δ).bind (andO (db δ)) := by
  unfold dAndV andO
  rfl
theorem x_orV : dOrV da db δ = (da δ).bind (orO (db δ)) := by
  unfold dOrV orO
  rfl
theorem and_b {r : Res D} {b : Bool} : andO r (.bool b) = if b then r else .ok (.bool false) := by cases b <;> rfl
theorem or_b {r : Res D} {b : Bool} : orO r (.bool b) = if b then .ok (.bool true) else r := by cases b <;> rfl
theorem x_notV : dNotV da δ = (da δ).bind fun x => (Res.ofO (truD x)).bind fun k => .ok (.bool (!k)) := rfl
theorem x_tru : dTru da δ = (da δ).bind fun x => Res.ofO (truD x) := rfl
theorem tru_b {b : Bool} : truD (.bool b) = some b := rfl
theorem tru_i {q : Int} : truD (.int q) = some (q != 0) := rfl
theorem tru_l : truD (.list xs) = some (!xs.isEmpty) := rfl
theorem tru_t : truD (.tuple xs) = some (!xs.isEmpty) := rfl
theorem tru_n : truD .none = some false := rfl
def isNO (neg : Bool) : D → Res D
  | .none => .ok (.bool (!neg))
  | _ => .ok (.bool neg)
theorem x_isN {neg : Bool} : dIsN neg da δ = (da δ).bind (isNO neg) := rfl
theorem isN_n {neg : Bool} : isNO neg .none = .ok (.bool (!neg)) := rfl
theorem isN_i {neg : Bool} {q : Int} : isNO neg (.int q) = .ok (.bool neg) := rfl
theorem isN_t {neg : Bool} : isNO neg (.tuple xs) = .ok (.bool neg) := rfl
theorem isN_l {neg : Bool} : isNO neg (.list xs) = .ok (.bool neg) := rfl
theorem isN_b {neg b : Bool} : isNO neg (.bool b) = .ok (.bool neg) := rfl
theorem x_un {g : D → Option D} : dUn g da δ = (da δ).bind fun x => Res.ofO (g x) := rfl
theorem neg_i {q : Int} : negD (.int q) = some (.int (-q)) := rfl
def chO (r : Res D) : D → Res D
  | .bool true => r
  | .bool false => .ok (.bool false)
  | _ => .stuck
theorem x_chain {g g' : D → D → Option D} : dChain g g' da db dc δ = (da δ).bind fun x => (db δ).bind fun y => (Res.ofO (g x y)).bind (chO ((dc δ).bind fun w => Res.ofO (g' y w))) := by
  unfold dChain chO
  rfl
theorem ch_b {r : Res D} {b : Bool} : chO r (.bool b) = if b then r else .ok (.bool false) := by cases b <;> rfl
theorem x_noP : dNoP δ = .ok none := rfl
def pO : D → Res (Option Int)
  | .int i => .ok (some i)
  | _ => .stuck
theorem x_P : dP da δ = (da δ).bind pO := rfl
theorem p_i {q : Int} : pO (.int q) = .ok (some q) := rfl
theorem x_sl {dl dh : DEnv → Res (Option Int)} : dSl da dl dh δ = (da δ).bind fun x => (dl δ).bind fun lo => (dh δ).bind fun hi => Res.ofO (slD x lo hi) := rfl
theorem sl_l {lo hi : Option Int} : slD (.list xs) lo hi = some (.list (cutD xs lo hi)) := rfl
theorem sl_t {lo hi : Option Int} : slD (.tuple xs) lo hi = some (.tuple (cutD xs lo hi)) := rfl
theorem x_isi {T : Ty} : dIsi T da δ = (da δ).bind fun x => (Res.ofO (isiD T x)).bind fun k => .ok (.bool k) := rfl
theorem x_call {den : List D → Res D} : dCall k den dr δ = (dr δ).bind fun xs => if xs.length = k then den xs else .stuck := rfl
theorem x_raise : dRaise n δ = .exc n none δ := rfl
theorem x_items : dItems da δ = (da δ).bind fun x => Res.ofO (itemsD x) := rfl
theorem items_l : itemsD (.list xs) = some xs := rfl
theorem items_t : itemsD (.tuple xs) = some xs := rfl
def rng1O : List D → Res (List D)
  | [.int j] => if -(2 ^ 62) ≤ j ∧ j < 2 ^ 62 then .ok (rng 0 j.toNat) else .stuck
  | _ => .stuck
def rng2O : List D → Res (List D)
  | [.int i, .int j] => if -(2 ^ 62) ≤ i ∧ i < 2 ^ 62 ∧ -(2 ^ 62) ≤ j ∧ j < 2 ^ 62 then .ok (rng i (j - i).toNat) else .stuck
  | _ => .stuck
theorem x_rng1 : dRng1 dr δ = (dr δ).bind rng1O := rfl
theorem x_rng2 : dRng2 dr δ = (dr δ).bind rng2O := rfl
theorem rng1_i {j : Int} (h : j.natAbs ≤ 1000000) : rng1O [.int j] = .ok (rng 0 j.toNat) := if_pos ⟨by omega, by omega⟩
theorem rng2_i {i j : Int} (h0 : i.natAbs ≤ 1000000) (h2 : j.natAbs ≤ 1000000) : rng2O [.int i, .int j] = .ok (rng i (j - i).toNat) := if_pos ⟨by omega, by omega, by omega, by omega⟩
def zipO : List D → Res (List D)
  | [x, y] => Res.ofO ((zsD x).bind fun u => (zsD y).map fun v => zipD u v)
  | _ => .stuck
theorem x_zip : dZip dr δ = (dr δ).bind zipO := rfl
theorem zip_l {ys : List D} : zipO [.list xs, .list ys] = .ok (zipD xs ys) := rfl
theorem zip_t {ys : List D} : zipO [.tuple xs, .tuple ys] = .ok (zipD xs ys) := rfl
theorem zip_lt {ys : List D} : zipO [.list xs, .tuple ys] = .ok (zipD xs ys) := rfl
theorem zip_dl {ys : List D} {es : List (D × D)} (h : isK es = true) : zipO [.dict es, .list ys] = .ok (zipD (es.map (·.1)) ys) := by
  show Res.ofO ((if isK es = true then some (es.map (·.1)) else none).bind fun u => (some ys).map fun v => zipD u v) = _
  rw [if_pos h]
  rfl
theorem x_for {di : DI} {g : DG} : dFor di g ds δ = (di δ).out δ fun xs => forL g ds xs δ := rfl
theorem x_lc {di : DI} {g : DG} {vs : List Nat} : dLc di g dt da vs δ = (di δ).bind fun xs => if Sz xs.length then (compL g dt da (wipeD δ vs) xs).bind fun ys => .ok (.list ys) else .stuck := rfl
theorem x_yes : dYes δ = .ok true := rfl
theorem x_gN : gN i d δ = some (δ.set i (.val d)) := rfl
theorem gsN_nil : gsN [] δ = some δ := rfl
theorem gsC_cons {g : DG} {r : DGs} : gsC g r (x :: xs) δ = (g x δ).bind (r xs) := rfl
theorem gT_tup {g : DGs} (h : xs.length = k) : gT k g (.tuple xs) δ = g xs δ := if_pos h
theorem gT_soft {g : DGs} (h : xs.length = k) : gT k g (softD xs) δ = g xs δ := if_pos h
theorem obind_some {f : α → Option β} : (some a).bind f = f a := rfl
theorem len_l : lenD [.list xs] = some (.int xs.length) := rfl
theorem len_t : lenD [.tuple xs] = some (.int xs.length) := rfl
theorem len_s {ns : List Int} : lenD [scrD ns] = some (.int ns.length) := by
  show some (PyData.int ((ns.map PyData.int).length : Int)) = _
  rw [List.length_map]
theorem int_i {q : Int} : intD [.int q] = some (.int q) := rfl
theorem int_b {b : Bool} : intD [.bool b] = some (.int (if b then 1 else 0)) := rfl
theorem max_i {u v : Int} : maxD [.int u, .int v] = some (.int (if v > u then v else u)) := rfl
theorem min_i {u v : Int} : minD [.int u, .int v] = some (.int (if v < u then v else u)) := rfl
theorem tuple_l : tupleD [.list xs] = some (.tuple xs) := rfl
theorem tuple_t : tupleD [.tuple xs] = some (.tuple xs) := rfl
theorem list_l : listD [.list xs] = some (.list xs) := rfl
theorem list_t : listD [.tuple xs] = some (.list xs) := rfl
theorem listA_l : listA [.list xs] = some (.list xs) := rfl
theorem listA_t : listA [.tuple xs] = some (.list xs) := rfl
theorem listA_d {es : List (D × D)} : listA [.dict ((.none, .none) :: es)] = some (.list (es.map (·.1))) := rfl
theorem intsD_enc : ∀ l : List Int, intsD (encI l) = some l
  | [] => rfl
  | a :: l => by
    show (intsD (encI l)).map (a :: ·) = _
    rw [intsD_enc l]
    rfl
theorem sum_l {l : List Int} : sumD [.list (encI l)] = some (.int l.sum) := by
  show (intsD (encI l)).map _ = _
  rw [intsD_enc]
  rfl
theorem sum_t {l : List Int} : sumD [.tuple (encI l)] = some (.int l.sum) := by
  show (intsD (encI l)).map _ = _
  rw [intsD_enc]
  rfl
def augIxO (i : Nat) (f : Int → Int → Int) (rk rv : Res D) (δ : DEnv) : Option Sl → Out
  | some (.own (.list xs)) => rk.out δ fun k => Opt.out (augAt xs k) fun p => rv.out δ fun v => match v with
    | .int m => .next (δ.set i (.own (.list (xs.set p.1 (.int (f p.2 m))))))
    | _ => .stuck
  | _ => .stuck
theorem x_augIx {f : Int → Int → Int} : dAugIx i f da db δ = augIxO i f (da δ) (db δ) δ δ[i]? := rfl
theorem augAt_enc {l : List Int} {q : Int} (h0 : 0 ≤ q) (h1 : q < l.length) : augAt (encI l) (.int q) = some (q.toNat, l.getD q.toNat 0) := by
  show (ixN (encI l).length q).bind _ = _
  unfold ixN
  rw [if_pos h0, if_pos (by rw [List.length_map]; exact h1)]
  show (match (encI l)[q.toNat]? with | some (.int n) => some (q.toNat, n) | _ => none) = _
  have : q.toNat < l.length := by omega
  rw [List.getElem?_map, List.getElem?_eq_getElem this, List.getD_eq_getElem?_getD, List.getElem?_eq_getElem this]
  rfl
theorem augIx_own {f : Int → Int → Int} {l : List Int} {q v : Int} (h0 : 0 ≤ q) (h1 : q < l.length) : augIxO i f (.ok (.int q)) (.ok (.int v)) δ (some (.own (.list (encI l)))) = .next (δ.set i (.own (.list (encI (l.set q.toNat (f (l.getD q.toNat 0) v)))))) := by
  show Opt.out (augAt (encI l) (.int q)) _ = _
  rw [augAt_enc h0 h1]
  show Out.next (δ.set i (.own (.list ((encI l).set q.toNat (.int (f (l.getD q.toNat 0) v)))))) = _
  rw [encI, encI, List.map_set]
theorem x_getD {dd dk dx : DE} : dGetD dd dk dx δ = (dd δ).bind fun d => if isDict d = true then (dk δ).bind fun k => (dx δ).bind fun x => (Res.ofO (dgetD d k)).bind fun o => .ok (o.getD x) else .stuck := rfl
theorem x_d0K : dDict0K δ = .ok (.dict []) := rfl
theorem x_d0T : dDict0T δ = .ok (.dict [(.none, .none)]) := rfl
theorem x_d1K : dDict1K da db δ = (da δ).bind fun k => (db δ).bind fun v => if (keyOf k).isSome then .ok (.dict [(k, v)]) else .stuck := rfl
theorem x_d1T : dDict1T da db δ = (da δ).bind fun k => (db δ).bind fun v => if (keyT k).isSome then .ok (.dict [(.none, .none), (k, v)]) else .stuck := rfl
def cntTO (r : Res D) : D → Res D
  | .tuple ys => r.bind fun x => Res.ofO (cntD ys x)
  | _ => .stuck
theorem x_cntT : dCntT da db δ = (da δ).bind (cntTO (db δ)) := rfl
theorem cntT_t : cntTO (.ok x) (.tuple xs) = Res.ofO (cntD xs x) := rfl
def cntLO (r : Res D) : D → Res D
  | .list ys => r.bind fun x => Res.ofO (cntD ys x)
  | _ => .stuck
theorem x_cntL : dCntL da db δ = (da δ).bind (cntLO (db δ)) := rfl
theorem cntL_l : cntLO (.ok x) (.list xs) = Res.ofO (cntD xs x) := rfl
def idxLO (r : Res D) : D → Res D
  | .list ys => r.bind fun x => Res.ofO (idxD ys x)
  | _ => .stuck
theorem x_idxL : dIdxL da db δ = (da δ).bind (idxLO (db δ)) := rfl
theorem idxL_l : idxLO (.ok x) (.list xs) = Res.ofO (idxD xs x) := rfl
theorem rev_l : revD (.list xs) = some (.list xs.reverse) := rfl
theorem rev_t : revD (.tuple xs) = some (.tuple xs.reverse) := rfl
theorem cnt_enc {l : List Int} {q : Int} : cntD (encI l) (.int q) = some (.int ((l.countP fun z => decide (z = q) : Nat) : Int)) := by
  unfold cntD
  have f : (encI l).all flatD = true := by
    rw [List.all_map, List.all_eq_true]
    intro z _
    rfl
  rw [if_pos ⟨rfl, f⟩, List.countP_map]
  have e : ((fun z => PyData.eqv z (PyData.int q)) ∘ PyData.int) = fun z => decide (z = q) := by
    funext z
    show PyData.eqv (.int z) (.int q) = _
    simp only [PyData.eqv]
    rfl
  rw [e]
end
end RN

end
section
namespace RN
open PySem L2 RD
local macro_rules | `(tactic| walk_at "ev") => `(tactic| simp -implicitDefEqProofs (disch := first | omega | (simp only [List.length_map, List.length_append, List.length_cons, List.length_nil, rng_len]; omega)) only [x_run, x_seq, seq_next, seq_ret, seq_exc, seq_brk, seq_cont, fin_next, fin_ret, fin_exc, bind_ok, bind_exc, ofO_some, out_ok, out_exc, oout_some, x_var, x_varB, var_val, varB_val, varB_own, x_op, x_c, x_test, test_b, x_cb, x_nil, x_cons, x_ret, x_drop, x_set, x_setN, x_next, x_app, app_own, x_ext, ext_own, x_setIx, setIx_own, x_par, par_2, x_aug, aug_val, x_frz, frz_own, x_asg, x_tup, x_lst, x_ifS, x_if, x_and, x_or, x_not, x_andV, x_orV, and_b, or_b, x_notV, x_tru, tru_b, tru_i, tru_l, tru_t, tru_n, x_isN, isN_n, isN_i, isN_t, isN_l, isN_b, x_un, neg_i, x_chain, ch_b, x_noP, x_P, p_i, x_sl, sl_l, sl_t, x_isi, isiD, x_call, x_raise, x_items, items_l, items_t, x_rng1, x_rng2, rng1_i, rng2_i, x_zip, zip_l, zip_t, x_for, x_lc, x_yes, x_gN, gsN_nil, gsC_cons, gT_tup, obind_some, len_l, len_t, len_s, int_i, int_b, max_i, min_i, tuple_l, tuple_t, list_l, list_t, ltI, leI, gtI, geI, eqI, neI, addI, subI, mulI, mulI', divI, modI, powC, szT, rng_len, ixL, ixT, at0, at1, at2, at3, ixI, wipeD, List.map_cons, List.map_nil, List.replicate_succ, List.replicate_zero, List.append_nil, List.cons_append, List.nil_append, List.getElem?_cons_zero, List.getElem?_cons_succ, List.set_cons_zero, List.set_cons_succ, List.length_map, List.length_cons, List.length_nil, decide_eq_true_eq, decide_true, decide_false, if_true, if_false, Bool.false_eq_true, Bool.not_true, Bool.not_false, ite_true, ite_false, Nat.reduceAdd, Nat.reduceEqDiff, Int.reduceToNat, and_true, true_and, and_self, Nat.zero_add])

structure Row (ds : List Int) : Prop where
  len : ds.length = 60
  ran : ∀ d ∈ ds, 0 ≤ d ∧ d < 1000
theorem e_row (ns : List Int) (k : Int) (hk : 0 ≤ k) : ∃ ds, Row ds ∧ den__law_row [scrD ns, .int k] = .ok (.list (encI ds)) := by
  unfold den__law_row
  have e1 := e_cell ns k hk
  walk_at "ev"
  generalize hf : den__law_cell = f at e1 ⊢
  simp only [e1]
  walk_at "ev"
  have step : ∀ (i : Nat) (δ : DEnv), i < 60 → (∃ cell ds v, δ = [Sl.val (scrD ns), Sl.val (PyData.int k), Sl.val (PyData.int cell), Sl.own (PyData.list (encI ds)), v] ∧ ds.length = i ∧ ∀ d ∈ ds, 0 ≤ d ∧ d < 1000) →
      ∃ δ1, gN 4 (.int (i : Int)) δ = some δ1 ∧ ∃ δ2, den__law_row_b1 δ1 = .next δ2 ∧ (∃ cell ds v, δ2 = [Sl.val (scrD ns), Sl.val (PyData.int k), Sl.val (PyData.int cell), Sl.own (PyData.list (encI ds)), v] ∧ ds.length = i + 1 ∧ ∀ d ∈ ds, 0 ≤ d ∧ d < 1000) := by
    intro i δ hi p
    obtain ⟨cell, ds, v, rfl, h3, h4⟩ := p
    have hs : ds.length ≤ 1000000 := by omega
    have app : ∀ z, encI ds ++ [PyData.int z] = encI (ds ++ [z]) := fun z => by simp [encI]
    have e2 := e_cell ns ((k + 1 + (i : Int)) % 20) (by omega)
    refine ⟨_, rfl, ?_⟩
    walk_at "ev"
    unfold den__law_row_b1
    walk_at "ev"
    simp only [e_cell ns k hk]
    by_cases hc : cellZ ns k < 1000000000000000000
    · walk_at "ev"
      simp only [e2, hc]
      walk_at "ev"
      refine ⟨_, rfl, _, ds ++ [_], _, by rw [app], by simp [h3], fun d hd => ?_⟩
      rcases List.mem_append.mp hd with hd | hd
      · exact h4 d hd
      · rw [List.mem_singleton.mp hd]
        omega
    · walk_at "ev"
      simp only [hc]
      walk_at "ev"
      refine ⟨_, rfl, _, ds ++ [_], _, by rw [app], by simp [h3], fun d hd => ?_⟩
      rcases List.mem_append.mp hd with hd | hd
      · exact h4 d hd
      · rw [List.mem_singleton.mp hd]
        omega
  obtain ⟨δ', h1, cell, ds, v, rfl, h3, h4⟩ := forR0 (g := gN 4) (ds := den__law_row_b1) (δ := [Sl.val (scrD ns), Sl.val (PyData.int k), Sl.val (PyData.int (cellZ ns k)), Sl.own (PyData.list []), Sl.no]) _ 60 ⟨_, [], _, rfl, rfl, fun _ h => nomatch h⟩ step
  rw [h1]
  walk_at "ev"
  exact ⟨ds, ⟨h3, h4⟩, rfl⟩
end RN

end
section
namespace RN
open PySem L2 RD
local macro_rules | `(tactic| walk_at "ev") => `(tactic| simp -implicitDefEqProofs (disch := first | omega | (simp only [List.length_map, List.length_append, List.length_cons, List.length_nil, rng_len]; omega)) only [x_run, x_seq, seq_next, seq_ret, seq_exc, seq_brk, seq_cont, fin_next, fin_ret, fin_exc, bind_ok, bind_exc, ofO_some, out_ok, out_exc, oout_some, x_var, x_varB, var_val, varB_val, varB_own, x_op, x_c, x_test, test_b, x_cb, x_nil, x_cons, x_ret, x_drop, x_set, x_setN, x_next, x_app, app_own, x_ext, ext_own, x_setIx, setIx_own, x_par, par_2, x_aug, aug_val, x_frz, frz_own, x_asg, x_tup, x_lst, x_ifS, x_if, x_and, x_or, x_not, x_andV, x_orV, and_b, or_b, x_notV, x_tru, tru_b, tru_i, tru_l, tru_t, tru_n, x_isN, isN_n, isN_i, isN_t, isN_l, isN_b, x_un, neg_i, x_chain, ch_b, x_noP, x_P, p_i, x_sl, sl_l, sl_t, x_isi, isiD, x_call, x_raise, x_items, items_l, items_t, x_rng1, x_rng2, rng1_i, rng2_i, x_zip, zip_l, zip_t, x_for, x_lc, x_yes, x_gN, gsN_nil, gsC_cons, gT_tup, obind_some, len_l, len_t, len_s, int_i, int_b, max_i, min_i, tuple_l, tuple_t, list_l, list_t, ltI, leI, gtI, geI, eqI, neI, addI, subI, mulI, mulI', divI, modI, powC, szT, rng_len, ixL, ixT, at0, at1, at2, at3, ixI, wipeD, List.map_cons, List.map_nil, List.replicate_succ, List.replicate_zero, List.append_nil, List.cons_append, List.nil_append, List.getElem?_cons_zero, List.getElem?_cons_succ, List.set_cons_zero, List.set_cons_succ, List.length_map, List.length_cons, List.length_nil, decide_eq_true_eq, decide_true, decide_false, if_true, if_false, Bool.false_eq_true, Bool.not_true, Bool.not_false, ite_true, ite_false, Nat.reduceAdd, Nat.reduceEqDiff, Int.reduceToNat, and_true, true_and, and_self, Nat.zero_add])

theorem Row.at {ds : List Int} (r : Row ds) (i : Nat) : 0 ≤ ds.getD i 0 ∧ ds.getD i 0 < 1000 := by
  rw [List.getD_eq_getElem?_getD]
  cases q : ds[i]? with
  | none => simp
  | some d => exact r.ran d (List.mem_of_getElem? q)
/-! ### nets -/
structure Ch where
  g : Int
  t : Int
  gv : Int
  tk : Int
structure Net where
  s : Int
  cs : List Ch
def encC (c : Ch) : D := .tuple [.int c.g, .int c.t, .int c.gv, .int c.tk]
def encN (n : Net) : D := .tuple [.int n.s, .tuple (n.cs.map encC)]
structure Ch.Ok (s : Int) (c : Ch) : Prop where
  g0 : 0 ≤ c.g
  g1 : c.g < s
  t0 : 0 ≤ c.t
  t1 : c.t < s
  ne : c.g ≠ c.t
  v0 : 1 ≤ c.gv
  v1 : c.gv ≤ 4
  k0 : 1 ≤ c.tk
  k1 : c.tk ≤ 4
structure Net.Ok (n : Net) : Prop where
  s0 : 1 ≤ n.s
  s1 : n.s ≤ 4
  len : n.cs.length ≤ 5
  ch : ∀ c ∈ n.cs, c.Ok n.s
theorem e_gcd4 {a b : Int} (ha : 1 ≤ a ∧ a ≤ 4) (hb : 1 ≤ b ∧ b ≤ 4) : ∃ g, den__law_gcd [.int a, .int b] = .ok (.int g) ∧ 1 ≤ g ∧ g ≤ 4 ∧ 1 ≤ a / g ∧ a / g ≤ 4 ∧ 1 ≤ b / g ∧ b / g ≤ 4 := by
  have h1 : a = 1 ∨ a = 2 ∨ a = 3 ∨ a = 4 := by omega
  have h2 : b = 1 ∨ b = 2 ∨ b = 3 ∨ b = 4 := by omega
  rcases h1 with rfl | rfl | rfl | rfl <;> rcases h2 with rfl | rfl | rfl | rfl <;> exact ⟨_, rfl, by decide⟩
theorem mod_rng (a m : Int) (h : 0 < m) : 0 ≤ a % m ∧ a % m < m := ⟨Int.emod_nonneg _ (by omega), Int.emod_lt_of_pos _ h⟩
theorem getD_all {p : Int → Prop} {l : List Int} (h : ∀ x ∈ l, p x) {i : Nat} (hi : i < l.length) : p (l.getD i 0) := by
  rw [List.getD_eq_getElem?_getD, List.getElem?_eq_getElem hi]
  exact h _ (List.getElem_mem hi)
def hidL : List Int := [1, 1, 2, 2, 3, 4]
theorem net_hid {a0 a1 a2 a3 a5 : Sl} {ds : List Int} (r : Row ds) {n : Nat} (hn : n ≤ 4) : ∃ hid : List Int, hid.length = n ∧ (∀ h ∈ hid, 1 ≤ h ∧ h ≤ 4) ∧
    compL (gN 14) dYes den__law_net_e1 [a0, a1, a2, a3, Sl.val (PyData.list (encI ds)), a5, Sl.no, Sl.no, Sl.no, Sl.no, Sl.no, Sl.no, Sl.no, Sl.no, Sl.no] (rng 0 n) = .ok (encI hid) := by
  have hl := r.len
  refine ⟨(List.range n).map fun i : Nat => hidL.getD (ds.getD (1 + (i : Int)).toNat 0 % 6).toNat 0, by simp, fun h hh => ?_, ?_⟩
  · obtain ⟨i, hi, rfl⟩ := List.mem_map.mp hh
    have := mod_rng (ds.getD (1 + (i : Int)).toNat 0) 6 (by omega)
    exact getD_all (p := fun h => 1 ≤ h ∧ h ≤ 4) (by unfold hidL; decide) (by unfold hidL; simp; omega)
  · rw [compL_rng (fun _ => true) (fun i => .int (hidL.getD (ds.getD (1 + (i : Int)).toNat 0 % 6).toNat 0)) n, filter_true]
    · simp only [encI, List.map_map]
      rfl
    · intro i hi
      refine ⟨_, rfl, rfl, fun _ => ?_⟩
      unfold den__law_net_e1
      have m := mod_rng (ds.getD (1 + (i : Int)).toNat 0) 6 (by omega)
      walk_at "ev"
      have e : [PyData.int 1, PyData.int 1, PyData.int 2, PyData.int 2, PyData.int 3, PyData.int 4] = encI hidL := rfl
      rw [e, ixI m.1 (by unfold hidL; simp; omega)]
      rfl
theorem net_step {a0 a1 a2 a3 v9 v10 v11 v12 v13 v14 : Sl} {ds hid : List Int} (r : Row ds) {s : Int} (hs1 : 2 ≤ s) (hs : s ≤ 4) (hh : hid.length = s.toNat) (hv : ∀ h ∈ hid, 1 ≤ h ∧ h ≤ 4) {cs : List Ch} {i : Nat} (hi : i < 5) (hc : cs.length = i) (ho : ∀ c ∈ cs, c.Ok s) :
    ∃ c w9 w10 w11 w12 w13, Ch.Ok s c ∧ den__law_net_b1 [a0, a1, a2, a3, Sl.val (PyData.list (encI ds)), Sl.val (PyData.int s), Sl.val (PyData.list (encI hid)), Sl.own (PyData.list (cs.map encC)), Sl.val (PyData.int (i : Int)), v9, v10, v11, v12, v13, v14] =
      .next [a0, a1, a2, a3, Sl.val (PyData.list (encI ds)), Sl.val (PyData.int s), Sl.val (PyData.list (encI hid)), Sl.own (PyData.list (cs.map encC ++ [encC c])), Sl.val (PyData.int (i : Int)), w9, w10, w11, w12, w13, v14] := by
  have hl := r.len
  have hlh : (hid.length : Int) = s := by omega
  have m1 := mod_rng (ds.getD (10 + 4 * (i : Int)).toNat 0) s (by omega)
  have m2 := mod_rng (ds.getD (11 + 4 * (i : Int)).toNat 0) (s - 1) (by omega)
  have m3 := mod_rng (ds.getD (13 + 4 * (i : Int)).toNat 0) 4 (by omega)
  have m4 := mod_rng (ds.getD (12 + 4 * (i : Int)).toNat 0) 4 (by omega)
  unfold den__law_net_b1
  walk_at "ev"
  generalize ds.getD (10 + 4 * (i : Int)).toNat 0 % s = g at *
  generalize ds.getD (11 + 4 * (i : Int)).toNat 0 % (s - 1) = t at *
  have m5 := mod_rng (g + 1 + t) s (by omega)
  have ne : g ≠ (g + 1 + t) % s := by
    intro e
    have h1 : (g + 1 + t) % s = g + 1 + t ∨ (g + 1 + t) % s = g + 1 + t - s := by
      by_cases hlt : g + 1 + t < s
      · exact .inl (Int.emod_eq_of_lt (by omega) hlt)
      · right
        rw [← Int.sub_emod_right]
        exact Int.emod_eq_of_lt (by omega) (by omega)
    omega
  generalize (g + 1 + t) % s = t2 at *
  have hg := getD_all (p := fun h => 1 ≤ h ∧ h ≤ 4) hv (i := g.toNat) (by omega)
  have ht := getD_all (p := fun h => 1 ≤ h ∧ h ≤ 4) hv (i := t2.toNat) (by omega)
  obtain ⟨dv, ed, k1, k2, k3, k4, k5, k6⟩ := e_gcd4 hg ht
  generalize den__law_gcd = f at ed ⊢
  walk_at "ev"
  simp only [ed]
  walk_at "ev"
  have hcs : cs.length ≤ 1000000 := by omega
  by_cases c1 : ds.getD 7 0 % 4 = 0
  · by_cases c2 : ds.getD (12 + 4 * (i : Int)).toNat 0 % 2 = 0
    · simp only [c1, c2, if_true, decide_true]
      walk_at "ev"
      exact ⟨⟨g, t2, _, _⟩, _, _, _, _, _, ⟨m1.1, m1.2, m5.1, m5.2, ne, by dsimp only; omega, by dsimp only; omega, by dsimp only; omega, by dsimp only; omega⟩, rfl⟩
    · simp only [c1, c2, if_true, decide_false]
      walk_at "ev"
      exact ⟨⟨g, t2, _, _⟩, _, _, _, _, _, ⟨m1.1, m1.2, m5.1, m5.2, ne, k5, k6, k3, k4⟩, rfl⟩
  · simp only [c1, if_false]
    walk_at "ev"
    exact ⟨⟨g, t2, _, _⟩, _, _, _, _, _, ⟨m1.1, m1.2, m5.1, m5.2, ne, k5, k6, k3, k4⟩, rfl⟩
theorem e_net (ns : List Int) (k ms mc : Int) (hk : 0 ≤ k) (h1 : 1 ≤ ms) (h2 : ms ≤ 4) (h3 : 0 ≤ mc) (h4 : mc ≤ 5) :
    ∃ n : Net, n.Ok ∧ n.s ≤ ms ∧ (n.cs.length : Int) ≤ mc ∧ den__law_net [scrD ns, .int k, .int ms, .int mc] = .ok (encN n) := by
  obtain ⟨ds, r, er⟩ := e_row ns k hk
  have hl := r.len
  have m0 := mod_rng (ds.getD 0 0) ms (by omega)
  have m6 := mod_rng (ds.getD 6 0) (mc + 1) (by omega)
  unfold den__law_net
  generalize den__law_row = f at er ⊢
  walk_at "ev"
  simp only [er]
  walk_at "ev"
  have hs1 : 1 ≤ 1 + ds.getD 0 0 % ms := by omega
  have hs2 : 1 + ds.getD 0 0 % ms ≤ ms := by omega
  generalize 1 + ds.getD 0 0 % ms = s at *
  obtain ⟨hid, i1, i2, i3⟩ := net_hid (a0 := Sl.val (scrD ns)) (a1 := Sl.val (PyData.int k)) (a2 := Sl.val (PyData.int ms)) (a3 := Sl.val (PyData.int mc)) (a5 := Sl.val (PyData.int s)) r (n := s.toNat) (by omega)
  have e62 : (-4611686018427387904 ≤ s ∧ s < 4611686018427387904) := by omega
  simp only [i3]
  walk_at "ev"
  by_cases hs3 : 1 < s
  · simp only [hs3, if_true]
    have step : ∀ (i : Nat) (δ : DEnv), i < (ds.getD 6 0 % (mc + 1)).toNat → (∃ (cs : List Ch) (v8 v9 v10 v11 v12 v13 : Sl), cs.length = i ∧ (∀ c ∈ cs, c.Ok s) ∧ δ = [Sl.val (scrD ns), Sl.val (PyData.int k), Sl.val (PyData.int ms), Sl.val (PyData.int mc), Sl.val (PyData.list (encI ds)), Sl.val (PyData.int s), Sl.val (PyData.list (encI hid)), Sl.own (PyData.list (cs.map encC)), v8, v9, v10, v11, v12, v13, Sl.no]) →
        ∃ δ1, gN 8 (.int (i : Int)) δ = some δ1 ∧ ∃ δ2, den__law_net_b1 δ1 = .next δ2 ∧ (∃ (cs : List Ch) (v8 v9 v10 v11 v12 v13 : Sl), cs.length = i + 1 ∧ (∀ c ∈ cs, c.Ok s) ∧ δ2 = [Sl.val (scrD ns), Sl.val (PyData.int k), Sl.val (PyData.int ms), Sl.val (PyData.int mc), Sl.val (PyData.list (encI ds)), Sl.val (PyData.int s), Sl.val (PyData.list (encI hid)), Sl.own (PyData.list (cs.map encC)), v8, v9, v10, v11, v12, v13, Sl.no]) := by
      intro i δ hi p
      obtain ⟨cs, v8, v9, v10, v11, v12, v13, p1, p2, rfl⟩ := p
      refine ⟨_, rfl, ?_⟩
      obtain ⟨c, w9, w10, w11, w12, w13, q1, q2⟩ := net_step (a0 := Sl.val (scrD ns)) (a1 := Sl.val (PyData.int k)) (a2 := Sl.val (PyData.int ms)) (a3 := Sl.val (PyData.int mc)) (v9 := v9) (v10 := v10) (v11 := v11) (v12 := v12) (v13 := v13) (v14 := Sl.no) r (s := s) (by omega) (by omega) i1 i2 (i := i) (by omega) p1 p2
      refine ⟨_, q2, cs ++ [c], _, w9, w10, w11, w12, w13, by simp [p1], fun c' hc' => ?_, by rw [List.map_append]; rfl⟩
      rcases List.mem_append.mp hc' with h | h
      · exact p2 c' h
      · rw [List.mem_singleton.mp h]; exact q1
    obtain ⟨δ', j1, cs, v8, v9, v10, v11, v12, v13, j2, j3, rfl⟩ := forR0 (g := gN 8) (ds := den__law_net_b1) (δ := [Sl.val (scrD ns), Sl.val (PyData.int k), Sl.val (PyData.int ms), Sl.val (PyData.int mc), Sl.val (PyData.list (encI ds)), Sl.val (PyData.int s), Sl.val (PyData.list (encI hid)), Sl.own (PyData.list []), Sl.no, Sl.no, Sl.no, Sl.no, Sl.no, Sl.no, Sl.no]) _ _ ⟨[], _, _, _, _, _, _, rfl, (fun _ h => by cases h), rfl⟩ step
    rw [j1]
    walk_at "ev"
    exact ⟨⟨s, cs⟩, ⟨hs1, by dsimp only; omega, by dsimp only; omega, j3⟩, hs2, by dsimp only; omega, rfl⟩
  · simp only [hs3, if_false]
    walk_at "ev"
    exact ⟨⟨s, []⟩, ⟨hs1, by dsimp only; omega, by simp, (fun _ h => by cases h)⟩, hs2, by simpa using h3, rfl⟩
end RN

end
section
namespace RN
open PySem L2 RD
/-- data that may be compared: no dict, not deep -/
def ShN (k : Nat) (d : D) : Prop := d.canLay0 = true ∧ d.depth ≤ k
theorem ShN.up {k m : Nat} {d : D} (h : ShN k d) (l : k ≤ m) : ShN m d := ⟨h.1, by have := h.2; omega⟩
theorem sh_int {i : Int} : ShN 0 (.int i) := ⟨by simp [PyData.canLay0], by simp [PyData.depth]⟩
theorem sh_bool {b : Bool} : ShN 0 (.bool b) := ⟨by simp [PyData.canLay0], by simp [PyData.depth]⟩
theorem sh_none : ShN 0 .none := ⟨by simp [PyData.canLay0], by simp [PyData.depth]⟩
theorem sh_str {s : Str} (h : PyData.strOk s = true) : ShN 0 (.str s) := ⟨by simp [PyData.canLay0, h], by simp [PyData.depth]⟩
theorem sh_all {k : Nat} : ∀ {xs : List D}, (∀ x ∈ xs, ShN k x) → PyData.canLayAll0 xs = true ∧ PyData.depthAll xs ≤ k
  | [], _ => ⟨by simp [PyData.canLayAll0], by simp [PyData.depthAll]⟩
  | x :: xs, h => by
    have h1 := h x List.mem_cons_self
    have h2 := sh_all fun y hy => h y (List.mem_cons_of_mem _ hy)
    refine ⟨by simp [PyData.canLayAll0, h1.1, h2.1], ?_⟩
    simp only [PyData.depthAll]
    have := h1.2
    omega
theorem sh_tuple {k : Nat} {xs : List D} (h : ∀ x ∈ xs, ShN k x) : ShN (k + 1) (.tuple xs) := ⟨by simp [PyData.canLay0, (sh_all h).1], by have := (sh_all h).2; simp only [PyData.depth]; omega⟩
theorem sh_list {k : Nat} {xs : List D} (h : ∀ x ∈ xs, ShN k x) : ShN (k + 1) (.list xs) := ⟨by simp [PyData.canLay0, (sh_all h).1], by have := (sh_all h).2; simp only [PyData.depth]; omega⟩
theorem sh_map {α : Type} {k : Nat} {enc : α → D} {l : List α} (h : ∀ a, ShN k (enc a)) : ∀ x ∈ l.map enc, ShN k x := fun x hx => by
  obtain ⟨a, _, rfl⟩ := List.mem_map.mp hx
  exact h a
theorem sh_encI {l : List Int} : ∀ x ∈ encI l, ShN 0 x := sh_map fun _ => sh_int
theorem sh_nil {k : Nat} : ∀ x ∈ ([] : List D), ShN k x := fun _ h => by cases h
theorem sh_cons {k : Nat} {x : D} {xs : List D} (h1 : ShN k x) (h2 : ∀ y ∈ xs, ShN k y) : ∀ y ∈ x :: xs, ShN k y := fun y hy => by
  rcases List.mem_cons.mp hy with rfl | hy
  · exact h1
  · exact h2 y hy
theorem eqD_sh {neg : Bool} {k m : Nat} {d e : D} (hd : ShN k d) (he : ShN m e) (hk : k ≤ 64) (hm : m ≤ 64) : eqD neg d e = some (.bool (if neg then !PyData.eqv d e else PyData.eqv d e)) := by
  have s1 : SeqAt.shaped d = true := by unfold SeqAt.shaped; rw [hd.1, decide_eq_true (Nat.le_trans hd.2 hk)]; rfl
  have s2 : SeqAt.shaped e = true := by unfold SeqAt.shaped; rw [he.1, decide_eq_true (Nat.le_trans he.2 hm)]; rfl
  unfold eqD
  split
  · next i j => simp only [PyData.eqv]; cases neg <;> rfl
  · rw [if_pos ⟨s1, s2⟩]
theorem eqv_int {i j : Int} : PyData.eqv (.int i) (.int j) = decide (i = j) := by simp only [PyData.eqv]; rfl
theorem eqv_str {i j : Str} : PyData.eqv (.str i) (.str j) = (i == j) := by simp only [PyData.eqv]
theorem eqv_list {xs ys : List D} : PyData.eqv (.list xs) (.list ys) = PyData.eqvAll xs ys := by simp only [PyData.eqv]
theorem eqv_tuple {xs ys : List D} : PyData.eqv (.tuple xs) (.tuple ys) = PyData.eqvAll xs ys := by simp only [PyData.eqv]
theorem eqvAll_map {α : Type} [DecidableEq α] {enc : α → D} (h : ∀ a b, PyData.eqv (enc a) (enc b) = decide (a = b)) : ∀ l m : List α, PyData.eqvAll (l.map enc) (m.map enc) = decide (l = m)
  | [], [] => by simp [PyData.eqvAll]
  | [], _ :: _ => by simp [PyData.eqvAll]
  | _ :: _, [] => by simp [PyData.eqvAll]
  | a :: l, b :: m => by
    simp only [List.map_cons, PyData.eqvAll, h, eqvAll_map h l m]
    by_cases h1 : a = b <;> by_cases h2 : l = m <;> simp [h1, h2]
theorem eqv_encI {l m : List Int} : PyData.eqvAll (encI l) (encI m) = decide (l = m) := eqvAll_map (fun _ _ => eqv_int) l m
mutual
theorem eqv_same : ∀ d : D, d.canLay0 = true → PyData.eqv d d = true
  | .none, _ => by simp [PyData.eqv]
  | .bool b, _ => by simp [PyData.eqv]
  | .int i, _ => by simp [PyData.eqv]
  | .str s, _ => by simp [PyData.eqv]
  | .list xs, h => by
    simp only [PyData.eqv]
    exact eqvAll_same xs (by simpa [PyData.canLay0] using h)
  | .tuple xs, h => by
    simp only [PyData.eqv]
    exact eqvAll_same xs (by simpa [PyData.canLay0] using h)
  | .dict _, h => by simp [PyData.canLay0] at h
theorem eqvAll_same : ∀ xs : List D, PyData.canLayAll0 xs = true → PyData.eqvAll xs xs = true
  | [], _ => by simp [PyData.eqvAll]
  | x :: xs, h => by
    have h' : x.canLay0 = true ∧ PyData.canLayAll0 xs = true := by simpa [PyData.canLayAll0] using h
    simp only [PyData.eqvAll, eqv_same x h'.1, eqvAll_same xs h'.2, Bool.and_self]
end
theorem eq_same {k : Nat} {d : D} (h : ShN k d) (hk : k ≤ 64) : eqD false d d = some (.bool true) := by
  rw [eqD_sh h h hk hk, eqv_same d h.1]
  rfl
theorem ne_same {k : Nat} {d : D} (h : ShN k d) (hk : k ≤ 64) : eqD true d d = some (.bool false) := by
  rw [eqD_sh h h hk hk, eqv_same d h.1]
  rfl
end RN

end
section
namespace RN
open PySem L2 RD
local macro_rules | `(tactic| walk_at "ev") => `(tactic| simp -implicitDefEqProofs (disch := first | omega | (simp only [List.length_map, List.length_append, List.length_cons, List.length_nil, rng_len]; done) | (simp only [List.length_map, List.length_append, List.length_cons, List.length_nil, rng_len]; omega)) only [Int.toNat_natCast, Int.cast_ofNat_Int, eq_self, Int.reduceEq, Int.reduceLT, Int.reduceLE, Int.reduceSub, Int.reduceAdd, x_run, x_seq, seq_next, seq_ret, seq_exc, seq_brk, seq_cont, fin_next, fin_ret, fin_exc, bind_ok, bind_exc, ofO_some, out_ok, out_exc, oout_some, x_var, x_varB, var_val, varB_val, varB_own, x_op, x_c, x_test, test_b, x_cb, x_nil, x_cons, x_ret, x_drop, x_set, x_setN, x_next, x_app, app_own, x_ext, ext_own, x_setIx, setIx_own, x_par, par_2, x_aug, aug_val, x_frz, frz_own, frz_dict, frz_val, x_augM, augM_val, x_enum, enum_t, x_asg, x_tup, x_lst, x_ifS, x_if, x_and, x_or, x_not, x_andV, x_orV, and_b, or_b, x_notV, x_tru, tru_b, tru_i, tru_l, tru_t, tru_n, x_isN, isN_n, isN_i, isN_t, isN_l, isN_b, x_un, neg_i, x_chain, ch_b, x_noP, x_P, p_i, x_sl, sl_l, sl_t, x_isi, isiD, x_call, x_raise, x_items, items_l, items_t, x_rng1, x_rng2, rng1_i, rng2_i, x_zip, zip_l, zip_t, zip_lt, x_for, x_lc, x_yes, x_gN, gsN_nil, gsC_cons, gT_tup, gT_soft, obind_some, len_l, len_t, len_s, int_i, int_b, max_i, min_i, tuple_l, tuple_t, list_l, list_t, listA_l, listA_t, listA_d, sum_l, sum_t, x_augIx, augIx_own, x_d0K, x_d0T, x_d1K, x_d1T, x_cntT, cntT_t, x_cntL, cntL_l, x_idxL, idxL_l, rev_l, rev_t, cnt_enc, ltI, leI, gtI, geI, eqI, neI, addI, subI, mulI, mulI', divI, modI, powC, szT, rng_len, ixL, ixT, at0, at1, at2, at3, ixI, wipeD, List.map_cons, List.map_nil, List.replicate_succ, List.replicate_zero, List.append_nil, List.cons_append, List.nil_append, List.getElem?_cons_zero, List.getElem?_cons_succ, List.set_cons_zero, List.set_cons_succ, List.length_map, List.length_cons, List.length_nil, decide_eq_true_eq, decide_true, decide_false, if_true, if_false, Bool.false_eq_true, Bool.not_true, Bool.not_false, ite_true, ite_false, Nat.reduceAdd, Nat.reduceEqDiff, Int.reduceToNat, and_true, true_and, and_self, Nat.zero_add])

def inR (d : D) (lo hi : Int) : Bool := match d with
  | .int i => decide (lo ≤ i) && decide (i ≤ hi)
  | _ => false
def noDic : D → Bool
  | .dict _ => false
  | _ => true
theorem e_in_range {d : D} {lo hi : Int} (h : noDic d = true) : den_in_range [d, .int lo, .int hi] = .ok (.bool (inR d lo hi)) := by
  unfold den_in_range inR
  cases d with
  | int i =>
    walk_at "ev"
    by_cases h : lo ≤ i
    · simp only [h, decide_true, Bool.true_and]
      walk_at "ev"
    · simp only [h, decide_false, Bool.false_and]
      walk_at "ev"
  | bool b =>
    walk_at "ev"
  | dict _ => cases h
  | _ => walk_at "ev"
theorem inR_int {i lo hi : Int} : inR (.int i) lo hi = (decide (lo ≤ i) && decide (i ≤ hi)) := rfl
theorem in_int {i lo hi : Int} : den_in_range [.int i, .int lo, .int hi] = .ok (.bool (decide (lo ≤ i) && decide (i ≤ hi))) := e_in_range rfl
theorem e_is_channel {s : Int} {c : Ch} (h : c.Ok s) : den_is_channel [.int s, encC c] = .ok (.bool true) := by
  have := h.g0; have := h.g1; have := h.t0; have := h.t1; have := h.v0; have := h.v1; have := h.k0; have := h.k1
  have ne := h.ne
  unfold den_is_channel encC
  have e1 : den_in_range [.int c.g, .int 0, .int (s - 1)] = .ok (.bool true) := by rw [in_int]; simp; omega
  have e2 : den_in_range [.int c.t, .int 0, .int (s - 1)] = .ok (.bool true) := by rw [in_int]; simp; omega
  have e3 : den_in_range [.int c.gv, .int 1, .int 4] = .ok (.bool true) := by rw [in_int]; simp; omega
  have e4 : den_in_range [.int c.tk, .int 1, .int 4] = .ok (.bool true) := by rw [in_int]; simp; omega
  generalize den_in_range = f at *
  repeat first | walk_at "ev" | simp only [e1, e2, e3, e4, ne]
theorem e_is_net {n : Net} (h : n.Ok) : den_is_net [encN n] = .ok (.bool true) := by
  have := h.s0; have := h.s1; have hl := h.len
  unfold den_is_net encN
  have e1 : den_in_range [.int n.s, .int 1, .int 4] = .ok (.bool true) := by rw [in_int]; simp; omega
  generalize den_in_range = f at *
  have h5 : ¬((5 : Int) < (n.cs.length : Int)) := by omega
  repeat first | walk_at "ev" | simp only [e1, h5]
  rw [compL_map encC (fun _ => false) (fun c => encC c) n.cs]
  · rw [show n.cs.filter (fun _ => false) = [] by simp]
    rfl
  · intro c hc
    refine ⟨_, rfl, ?_, fun h => by cases h⟩
    have e2 := e_is_channel (h.ch c hc)
    unfold den_is_net_t1
    generalize den_is_channel = f at *
    walk_at "ev"
    simp only [e2]
    walk_at "ev"
theorem e_check_net {n : Net} (h : n.Ok) : den_check_net [encN n] = .ok .none := by
  have e1 := e_is_net h
  unfold den_check_net
  generalize den_is_net = f at *
  walk_at "ev"
  simp only [e1]
  walk_at "ev"
def stkD (m : Nat) (d : D) : Bool := match d with
  | .tuple xs => decide (xs.length = m) && xs.all (fun x => inR x 0 9)
  | _ => false
def noDics (d : D) : Bool := noDic d && match d with
  | .tuple xs => xs.all noDic
  | _ => true
theorem filter_all {α : Type} (p : α → Bool) (l : List α) : (l.filter fun x => !p x).isEmpty = l.all p := by
  induction l with
  | nil => rfl
  | cons a l ih => cases h : p a <;> simp [List.filter_cons, h, ih]
theorem isE_map {α β : Type} (f : α → β) (l : List α) : (l.map f).isEmpty = l.isEmpty := by cases l <;> rfl
theorem e_is_stock {n : Net} {d : D} (hl : n.cs.length ≤ 5) (h : noDics d = true) : den_is_stock [encN n, d] = .ok (.bool (stkD n.cs.length d)) := by
  unfold den_is_stock encN stkD
  cases d with
  | tuple xs =>
    walk_at "ev"
    by_cases hx : xs.length = n.cs.length
    · have hx' : ((xs.length : Int) = (n.cs.length : Int)) := by omega
      simp only [hx, decide_true]
      walk_at "ev"
      have e : compL (gN 2) den_is_stock_t1 den_is_stock_e1 [Sl.val (PyData.tuple [PyData.int n.s, PyData.tuple (List.map encC n.cs)]), Sl.val (PyData.tuple xs), Sl.no] (xs.map id) = .ok ((xs.filter fun x => !inR x 0 9).map id) := by
        apply compL_map
        intro x hm
        refine ⟨_, rfl, ?_, fun _ => rfl⟩
        have hd : noDic x = true := by
          have : xs.all noDic = true := by simpa [noDics, noDic] using h
          exact List.all_eq_true.mp this x hm
        have e1 := e_in_range (lo := 0) (hi := 9) hd
        unfold den_is_stock_t1
        generalize den_in_range = f at *
        walk_at "ev"
        simp only [id, e1]
        walk_at "ev"
      simp only [List.map_id] at e
      have hs : xs.length ≤ 1000000 := by omega
      rw [e]
      walk_at "ev"
      rw [filter_all]
      simp
    · have hx' : ¬((xs.length : Int) = (n.cs.length : Int)) := by omega
      simp only [hx, hx', decide_false]
      walk_at "ev"
      rfl
  | dict _ => simp [noDics, noDic] at h
  | _ => walk_at "ev"
theorem e_check_stock {n : Net} {d : D} (hn : n.Ok) (h : noDics d = true) : den_check_stock [encN n, d] = if stkD n.cs.length d then .ok .none else .exc "InvalidStock" none := by
  have e1 := e_check_net hn
  have e2 := e_is_stock hn.len h
  unfold den_check_stock
  generalize den_check_net = f at *
  generalize den_is_stock = f2 at *
  cases q : stkD n.cs.length d <;> rw [q] at e2 <;> (repeat first | walk_at "ev" | simp only [e1, e2]) 
theorem e_check_step {n : Net} {d : D} (h : noDic d = true) : den_check_step [encN n, d] = if inR d 0 (n.s - 1) then .ok .none else .exc "InvalidStep" none := by
  have e2 := e_in_range (lo := 0) (hi := n.s - 1) h
  unfold den_check_step encN
  generalize den_in_range = f2 at *
  cases q : inR d 0 (n.s - 1) <;> rw [q] at e2 <;> (repeat first | walk_at "ev" | simp only [e2])
/-! ### steps that run -/
def isReady (n : Net) (st : List Int) (s : Int) : Bool := (n.cs.zip st).all fun p => !(decide (p.1.t = s) && decide (p.2 < p.1.tk))
def encP (p : Ch × Int) : D := softD [encC p.1, .int p.2]
theorem zip_enc (cs : List Ch) (st : List Int) : zipD (cs.map encC) (encI st) = (cs.zip st).map encP := by
  unfold zipD
  rw [List.zip_map, List.map_map]
  rfl
theorem e_is_ready {n : Net} {st : List Int} {s : Int} (hl : n.cs.length ≤ 1000000) : den_is_ready [encN n, .tuple (encI st), .int s] = .ok (.bool (isReady n st s)) := by
  unfold den_is_ready encN
  walk_at "ev"
  have e : compL (gT 2 (gsC (gN 3) (gsC (gN 4) gsN))) den_is_ready_t1 den_is_ready_e1 [Sl.val (PyData.tuple [PyData.int n.s, PyData.tuple (List.map encC n.cs)]), Sl.val (PyData.tuple (encI st)), Sl.val (PyData.int s), Sl.no, Sl.no] ((n.cs.zip st).map encP) = .ok (((n.cs.zip st).filter fun p => !(!(decide (p.1.t = s) && decide (p.2 < p.1.tk)))).map fun _ => .int 1) := by
    apply compL_map
    intro p hm
    refine ⟨_, rfl, ?_, fun _ => rfl⟩
    unfold den_is_ready_t1
    walk_at "ev"
    by_cases h : p.1.t = s
    · simp only [h, decide_true, Bool.true_and]
      unfold encC
      repeat first | walk_at "ev" | simp only [h, Bool.not_not]
    · unfold encC
      repeat first | walk_at "ev" | simp only [h, Bool.not_not, Bool.false_and]
  rw [zip_enc, e]
  have hz : (n.cs.zip st).length ≤ 1000000 := by rw [List.length_zip]; omega
  walk_at "ev"
  rw [isE_map, filter_all]
  simp [isReady]
def aftr (n : Net) (st : List Int) (s : Int) : List Int := (n.cs.zip st).map fun p => p.2 + p.1.gv * (if p.1.g = s then 1 else 0) - p.1.tk * (if p.1.t = s then 1 else 0)
theorem e_after_runW {n : Net} {st : List Int} {s : Int} (hl : n.cs.length ≤ 1000) (hch : ∀ c ∈ n.cs, c.Ok n.s) : den_after_run [encN n, .tuple (encI st), .int s] = .ok (.tuple (encI (aftr n st s))) := by
  unfold den_after_run encN
  walk_at "ev"
  rw [zip_enc]
  have step : ∀ (pre : List (Ch × Int)) (x : Ch × Int) (post : List (Ch × Int)) (δ : DEnv), n.cs.zip st = pre ++ x :: post → (∃ v4 v5 v6 v7 v8 : Sl, δ = [Sl.val (PyData.tuple [PyData.int n.s, PyData.tuple (List.map encC n.cs)]), Sl.val (PyData.tuple (encI st)), Sl.val (PyData.int s), Sl.own (PyData.list (encI (pre.map fun p => p.2 + p.1.gv * (if p.1.g = s then 1 else 0) - p.1.tk * (if p.1.t = s then 1 else 0)))), v4, v5, v6, v7, v8]) →
      ∃ δ1, gT 2 (gsC (gT 4 (gsC (gN 4) (gsC (gN 5) (gsC (gN 6) (gsC (gN 7) gsN))))) (gsC (gN 8) gsN)) (encP x) δ = some δ1 ∧ ∃ δ2, den_after_run_b1 δ1 = .next δ2 ∧ (∃ v4 v5 v6 v7 v8 : Sl, δ2 = [Sl.val (PyData.tuple [PyData.int n.s, PyData.tuple (List.map encC n.cs)]), Sl.val (PyData.tuple (encI st)), Sl.val (PyData.int s), Sl.own (PyData.list (encI ((pre ++ [x]).map fun p => p.2 + p.1.gv * (if p.1.g = s then 1 else 0) - p.1.tk * (if p.1.t = s then 1 else 0)))), v4, v5, v6, v7, v8]) := by
    intro pre x post δ hp p
    obtain ⟨v4, v5, v6, v7, v8, rfl⟩ := p
    refine ⟨_, rfl, ?_⟩
    have hx : x ∈ n.cs.zip st := by rw [hp]; simp
    have hc := hch x.1 (List.of_mem_zip hx).1
    have := hc.v0; have := hc.v1; have := hc.k0; have := hc.k1
    have hlen : pre.length ≤ 1000000 := by
      have := congrArg List.length hp
      rw [List.length_zip, List.length_append] at this
      omega
    unfold den_after_run_b1
    walk_at "ev"
    exact ⟨_, rfl, _, _, _, _, _, by simp only [encI, List.map_append]; rfl⟩
  obtain ⟨δ', h1, v4, v5, v6, v7, v8, rfl⟩ := forI (g := gT 2 (gsC (gT 4 (gsC (gN 4) (gsC (gN 5) (gsC (gN 6) (gsC (gN 7) gsN))))) (gsC (gN 8) gsN))) (ds := den_after_run_b1) encP _ (n.cs.zip st) step (n.cs.zip st) [] [Sl.val (PyData.tuple [PyData.int n.s, PyData.tuple (List.map encC n.cs)]), Sl.val (PyData.tuple (encI st)), Sl.val (PyData.int s), Sl.own (PyData.list []), Sl.no, Sl.no, Sl.no, Sl.no, Sl.no] rfl ⟨_, _, _, _, _, rfl⟩
  rw [h1]
  walk_at "ev"
  rfl
theorem e_after_run {n : Net} {st : List Int} {s : Int} (hn : n.Ok) : den_after_run [encN n, .tuple (encI st), .int s] = .ok (.tuple (encI (aftr n st s))) := e_after_runW (by have := hn.len; omega) hn.ch
def readyL (n : Net) (st : List Int) : List Int := ((List.range n.s.toNat).filter fun i : Nat => isReady n st (i : Int)).map fun i : Nat => (i : Int)
theorem stk_good {n : Net} {st : List Int} (h1 : st.length = n.cs.length) (h2 : ∀ x ∈ st, 0 ≤ x ∧ x ≤ 9) : stkD n.cs.length (.tuple (encI st)) = true := by
  simp only [stkD, List.length_map, h1, decide_true, Bool.true_and, List.all_map, List.all_eq_true]
  intro x hx
  have := h2 x hx
  simp [inR]
  omega
theorem noDics_int {st : List Int} : noDics (.tuple (encI st)) = true := by
  simp [noDics, noDic, List.all_map]
theorem e_ready_steps {n : Net} {st : List Int} (hn : n.Ok) (h1 : st.length = n.cs.length) (h2 : ∀ x ∈ st, 0 ≤ x ∧ x ≤ 9) : den_ready_steps [encN n, .tuple (encI st)] = .ok (.list (encI (readyL n st))) := by
  have e1 := e_check_stock hn (noDics_int (st := st))
  rw [stk_good h1 h2, if_pos rfl] at e1
  have := hn.s0; have := hn.s1; have hl := hn.len
  unfold den_ready_steps
  generalize den_check_stock = f at *
  repeat first | walk_at "ev" | simp only [e1]
  have e : compL (gN 2) den_ready_steps_t1 den_ready_steps_e1 [Sl.val (encN n), Sl.val (PyData.tuple (encI st)), Sl.no] (rng 0 n.s.toNat) = .ok (((List.range n.s.toNat).filter fun i : Nat => isReady n st (i : Int)).map fun i : Nat => .int (i : Int)) := by
    apply compL_rng
    intro i hi
    refine ⟨_, rfl, ?_, fun _ => rfl⟩
    have e2 := e_is_ready (n := n) (st := st) (s := (i : Int)) (by omega)
    unfold den_ready_steps_t1
    generalize den_is_ready = f2 at *
    repeat first | walk_at "ev" | simp only [e2]
  have e0 : ixD (encN n) (.int 1) = some (.tuple (n.cs.map encC)) := rfl
  have e9 : ixD (encN n) (.int 0) = some (.int n.s) := rfl
  repeat first | walk_at "ev" | simp only [e9, e]
  simp [readyL]
end RN

end
section
namespace RN
open PySem L2 RD
local macro_rules | `(tactic| walk_at "ev") => `(tactic| simp -implicitDefEqProofs (disch := first | omega | (simp only [List.length_map, List.length_append, List.length_cons, List.length_nil, rng_len]; omega)) only [x_run, x_seq, seq_next, seq_ret, seq_exc, seq_brk, seq_cont, fin_next, fin_ret, fin_exc, bind_ok, bind_exc, ofO_some, out_ok, out_exc, oout_some, x_var, x_varB, var_val, varB_val, varB_own, x_op, x_c, x_test, test_b, x_cb, x_nil, x_cons, x_ret, x_drop, x_set, x_setN, x_next, x_app, app_own, x_ext, ext_own, x_setIx, setIx_own, x_par, par_2, x_aug, aug_val, x_frz, frz_own, x_asg, x_tup, x_lst, x_ifS, x_if, x_and, x_or, x_not, x_andV, x_orV, and_b, or_b, x_notV, x_tru, tru_b, tru_i, tru_l, tru_t, tru_n, x_isN, isN_n, isN_i, isN_t, isN_l, isN_b, x_un, neg_i, x_chain, ch_b, x_noP, x_P, p_i, x_sl, sl_l, sl_t, x_isi, isiD, x_call, x_raise, x_items, items_l, items_t, x_rng1, x_rng2, rng1_i, rng2_i, x_zip, zip_l, zip_t, x_for, x_lc, x_yes, x_gN, gsN_nil, gsC_cons, gT_tup, obind_some, len_l, len_t, len_s, int_i, int_b, max_i, min_i, tuple_l, tuple_t, list_l, list_t, ltI, leI, gtI, geI, eqI, neI, addI, subI, mulI, mulI', divI, modI, powC, szT, rng_len, ixL, ixT, at0, at1, at2, at3, ixI, wipeD, List.map_cons, List.map_nil, List.replicate_succ, List.replicate_zero, List.append_nil, List.cons_append, List.nil_append, List.getElem?_cons_zero, List.getElem?_cons_succ, List.set_cons_zero, List.set_cons_succ, List.length_map, List.length_cons, List.length_nil, decide_eq_true_eq, decide_true, decide_false, if_true, if_false, Bool.false_eq_true, Bool.not_true, Bool.not_false, ite_true, ite_false, Nat.reduceAdd, Nat.reduceEqDiff, Int.reduceToNat, and_true, true_and, and_self, Nat.zero_add])

theorem e_stock (ns : List Int) (k : Int) (n : Net) (most : Int) (hk : 0 ≤ k) (hn : n.Ok) (h0 : 0 ≤ most) : ∃ st : List Int, st.length = n.cs.length ∧ (∀ x ∈ st, 0 ≤ x ∧ x ≤ most) ∧ den__law_stock [scrD ns, .int k, encN n, .int most] = .ok (.tuple (encI st)) := by
  obtain ⟨ds, r, er⟩ := e_row ns k hk
  have hl := r.len
  have hn5 := hn.len
  refine ⟨(List.range n.cs.length).map fun i : Nat => ds.getD (40 + (i : Int)).toNat 0 % (most + 1), by simp, fun x hx => ?_, ?_⟩
  · obtain ⟨i, hi, rfl⟩ := List.mem_map.mp hx
    have := mod_rng (ds.getD (40 + (i : Int)).toNat 0) (most + 1) (by omega)
    omega
  · unfold den__law_stock encN
    generalize den__law_row = f at er ⊢
    walk_at "ev"
    simp only [er]
    walk_at "ev"
    rw [show ((n.cs.length : Int)).toNat = n.cs.length by omega]
    rw [compL_rng (fun _ => true) (fun i => .int (ds.getD (40 + (i : Int)).toNat 0 % (most + 1))) n.cs.length, filter_true]
    · walk_at "ev"
      simp only [encI, List.map_map]
      rfl
    · intro i hi
      refine ⟨_, rfl, rfl, fun _ => ?_⟩
      unfold den__law_stock_e1
      walk_at "ev"
end RN

end
section
namespace RN
open PySem L2 RD
local macro_rules | `(tactic| walk_at "ev") => `(tactic| simp -implicitDefEqProofs (disch := first | omega | (simp only [List.length_map, List.length_append, List.length_cons, List.length_nil, rng_len]; done) | (simp only [List.length_map, List.length_append, List.length_cons, List.length_nil, rng_len]; omega)) only [Int.toNat_natCast, Int.cast_ofNat_Int, eq_self, Int.reduceEq, Int.reduceLT, Int.reduceLE, Int.reduceSub, Int.reduceAdd, x_run, x_seq, seq_next, seq_ret, seq_exc, seq_brk, seq_cont, fin_next, fin_ret, fin_exc, bind_ok, bind_exc, ofO_some, out_ok, out_exc, oout_some, x_var, x_varB, var_val, varB_val, varB_own, x_op, x_c, x_test, test_b, x_cb, x_nil, x_cons, x_ret, x_drop, x_set, x_setN, x_next, x_app, app_own, x_ext, ext_own, x_setIx, setIx_own, x_par, par_2, x_aug, aug_val, x_frz, frz_own, frz_dict, frz_val, x_augM, augM_val, x_enum, enum_t, x_asg, x_tup, x_lst, x_ifS, x_if, x_and, x_or, x_not, x_andV, x_orV, and_b, or_b, x_notV, x_tru, tru_b, tru_i, tru_l, tru_t, tru_n, x_isN, isN_n, isN_i, isN_t, isN_l, isN_b, x_un, neg_i, x_chain, ch_b, x_noP, x_P, p_i, x_sl, sl_l, sl_t, x_isi, isiD, x_call, x_raise, x_items, items_l, items_t, x_rng1, x_rng2, rng1_i, rng2_i, x_zip, zip_l, zip_t, zip_lt, x_for, x_lc, x_yes, x_gN, gsN_nil, gsC_cons, gT_tup, gT_soft, obind_some, len_l, len_t, len_s, int_i, int_b, max_i, min_i, tuple_l, tuple_t, list_l, list_t, listA_l, listA_t, listA_d, sum_l, sum_t, x_augIx, augIx_own, x_d0K, x_d0T, x_d1K, x_d1T, x_cntT, cntT_t, x_cntL, cntL_l, x_idxL, idxL_l, rev_l, rev_t, cnt_enc, ltI, leI, gtI, geI, eqI, neI, addI, subI, mulI, mulI', divI, modI, powC, szT, rng_len, ixL, ixT, at0, at1, at2, at3, ixI, wipeD, List.map_cons, List.map_nil, List.replicate_succ, List.replicate_zero, List.append_nil, List.cons_append, List.nil_append, List.getElem?_cons_zero, List.getElem?_cons_succ, List.set_cons_zero, List.set_cons_succ, List.length_map, List.length_cons, List.length_nil, decide_eq_true_eq, decide_true, decide_false, if_true, if_false, Bool.false_eq_true, Bool.not_true, Bool.not_false, ite_true, ite_false, Nat.reduceAdd, Nat.reduceEqDiff, Int.reduceToNat, and_true, true_and, and_self, Nat.zero_add])

theorem run_bad_stock {n : Net} {d e : D} (hn : n.Ok) (h : noDics d = true) (hb : stkD n.cs.length d = false) : den_run [encN n, d, e] = .exc "InvalidStock" none := by
  have e1 := e_check_stock hn h
  rw [hb] at e1
  unfold den_run
  generalize den_check_stock = f at *
  repeat first | walk_at "ev" | simp only [e1]
theorem run_bad_step {n : Net} {d e : D} (hn : n.Ok) (h : noDics d = true) (hb : stkD n.cs.length d = true) (h2 : noDic e = true) (h3 : inR e 0 (n.s - 1) = false) : den_run [encN n, d, e] = .exc "InvalidStep" none := by
  have e1 := e_check_stock hn h
  rw [hb] at e1
  have e2 := e_check_step (n := n) h2
  rw [h3] at e2
  unfold den_run
  generalize den_check_stock = f at *
  generalize den_check_step = f2 at *
  repeat first | walk_at "ev" | simp only [e1, e2]
theorem e_run {n : Net} {st : List Int} {s : Int} (hn : n.Ok) (h1 : st.length = n.cs.length) (h2 : ∀ x ∈ st, 0 ≤ x ∧ x ≤ 9) (h3 : 0 ≤ s) (h4 : s < n.s) : den_run [encN n, .tuple (encI st), .int s] = if isReady n st s then .ok (.tuple (encI (aftr n st s))) else .exc "CannotRun" none := by
  have hl := hn.len
  have e1 := e_check_stock hn (noDics_int (st := st))
  rw [stk_good h1 h2] at e1
  have e2 := e_check_step (n := n) (d := .int s) rfl
  rw [show inR (.int s) 0 (n.s - 1) = true by simp [inR]; omega] at e2
  have e3 := e_is_ready (n := n) (st := st) (s := s) (by omega)
  have e4 := e_after_run (st := st) (s := s) hn
  unfold den_run
  generalize den_check_stock = f at *
  generalize den_check_step = f2 at *
  generalize den_is_ready = f3 at *
  generalize den_after_run = f4 at *
  cases q : isReady n st s <;> rw [q] at e3 <;> (repeat first | walk_at "ev" | simp only [e1, e2, e3, e4])
theorem try_ret {i : Nat} {ds : DS} {known : List Str} {hs : List Hd} {δ : DEnv} {d : D} (h : ds δ = .ret d) : dTry i ds known hs δ = .ret d := by
  unfold dTry
  rw [h]
theorem try_exc {i : Nat} {ds : DS} {known : List Str} {hs : List Hd} {δ δ' : DEnv} {n s : Str} (h : ds δ = .exc n none δ') (h1 : n ∈ known) (h2 : i < δ'.length) (h3 : handle hs n = some s) : dTry i ds known hs δ = .ret (.str s) := by
  unfold dTry
  rw [h]
  simp only [h1, h2, h3, and_self, if_true]
instance : Inhabited Ch := ⟨⟨0, 0, 0, 0⟩⟩
theorem ixC {cs : List Ch} {i : Nat} (h1 : i < cs.length) : atI (cs.map encC) (i : Int) = some (.tuple [.int (cs.getD i default).g, .int (cs.getD i default).t, .int (cs.getD i default).gv, .int (cs.getD i default).tk]) := by
  rw [atI_in (by omega) (by rw [List.length_map]; omega), List.getElem?_map, Int.toNat_natCast, List.getElem?_eq_getElem h1, List.getD_eq_getElem?_getD, List.getElem?_eq_getElem h1]
  rfl
theorem ixN' {l : List Int} {i : Nat} (h1 : i < l.length) : atI (encI l) (i : Int) = some (.int (l.getD i 0)) := by
  rw [ixI (by omega) (by omega), Int.toNat_natCast]
theorem zip_range {β : Type} (cs : List Ch) (st : List Int) (F : Ch → Int → β) (h : st.length = cs.length) : (List.range cs.length).map (fun i => F (cs.getD i default) (st.getD i 0)) = (cs.zip st).map fun p => F p.1 p.2 := by
  apply List.ext_getElem
  · simp [h]
  · intro i h1 h2
    simp only [List.length_map, List.length_range, List.length_zip] at h1 h2
    simp [List.getElem?_eq_getElem h1, List.getElem?_eq_getElem (show i < st.length by omega)]
theorem zip_all (cs : List Ch) (st : List Int) (F : Ch → Int → Bool) (h : st.length = cs.length) : (List.range' 0 cs.length).any (fun i => F (cs.getD i default) (st.getD i 0)) = !(cs.zip st).all fun p => !F p.1 p.2 := by
  have := congrArg (fun l : List Bool => l.any id) (zip_range cs st F h)
  simp only [List.any_map] at this
  rw [← List.range_eq_range']
  simp only [Function.comp_def, id] at this
  rw [this]
  simp [List.any_eq_not_all_not]
theorem e_law_ready {n : Net} {st : List Int} {s : Int} (hl : n.cs.length ≤ 5) (h1 : st.length = n.cs.length) : den__law_ready [encN n, .tuple (encI st), .int s] = .ok (.bool (isReady n st s)) := by
  unfold den__law_ready encN
  walk_at "ev"
  have step : ∀ (i : Nat) (δ : DEnv), i < n.cs.length → (∃ v, δ = [Sl.val (PyData.tuple [PyData.int n.s, PyData.tuple (List.map encC n.cs)]), Sl.val (PyData.tuple (encI st)), Sl.val (PyData.int s), v]) →
      ∃ δ1, gN 3 (.int (i : Int)) δ = some δ1 ∧ if (fun i : Nat => decide ((n.cs.getD i default).t = s) && decide (st.getD i 0 < (n.cs.getD i default).tk)) i then den__law_ready_b1 δ1 = .ret (.bool false) else ∃ δ2, den__law_ready_b1 δ1 = .next δ2 ∧ (∃ v, δ2 = [Sl.val (PyData.tuple [PyData.int n.s, PyData.tuple (List.map encC n.cs)]), Sl.val (PyData.tuple (encI st)), Sl.val (PyData.int s), v]) := by
    intro i δ hi p
    obtain ⟨v, rfl⟩ := p
    refine ⟨_, rfl, ?_⟩
    unfold den__law_ready_b1
    have e1 := ixC (cs := n.cs) hi
    have e2 := ixN' (l := st) (i := i) (by omega)
    by_cases c1 : (n.cs.getD i default).t = s
    · by_cases c2 : st.getD i 0 < (n.cs.getD i default).tk
      · repeat first | walk_at "ev" | simp only [e1, e2, c1, c2]
        simp
      · repeat first | walk_at "ev" | simp only [e1, e2, c1, c2]
        exact ⟨_, rfl, _, rfl⟩
    · repeat first | walk_at "ev" | simp only [e1, e2, c1]
      simp only [Bool.false_and]
      exact ⟨_, rfl, _, rfl⟩
  have := forRs (g := gN 3) (ds := den__law_ready_b1) _ n.cs.length _ _ step n.cs.length 0 _ (by omega) ⟨Sl.no, rfl⟩
  rw [zip_all n.cs st (fun c a => decide (c.t = s) && decide (a < c.tk)) h1] at this
  change (if (!isReady n st s) = true then _ else _) at this
  cases q : isReady n st s with
  | true =>
    rw [q] at this
    simp only [Bool.not_true, Bool.false_eq_true, if_false] at this
    obtain ⟨δ', h3, v, rfl⟩ := this
    simp only [Int.ofNat_zero, Int.cast_ofNat_Int] at h3
    rw [h3]
    walk_at "ev"
  | false =>
    rw [q] at this
    simp only [Bool.not_false, if_true] at this
    simp only [Int.ofNat_zero, Int.cast_ofNat_Int] at this
    rw [this]
    walk_at "ev"
/-! ### the amounts -/
def amts (n : Net) (st cnt : List Int) : List Int := (n.cs.zip st).map fun p => p.2 + (p.1.gv * cnt.getD p.1.g.toNat 0 - p.1.tk * cnt.getD p.1.t.toNat 0)
theorem e_law_amounts {n : Net} {st cnt : List Int} (hn : n.Ok) (h1 : st.length = n.cs.length) (h2 : (cnt.length : Int) = n.s) : den__law_amounts [encN n, .tuple (encI st), .tuple (encI cnt)] = .ok (.tuple (encI (amts n st cnt))) := by
  have hl := hn.len
  unfold den__law_amounts encN
  walk_at "ev"
  have step : ∀ (i : Nat) (δ : DEnv), i < n.cs.length → (∃ v4 v5 v6 v7 v8 v9, δ = [Sl.val (PyData.tuple [PyData.int n.s, PyData.tuple (List.map encC n.cs)]), Sl.val (PyData.tuple (encI st)), Sl.val (PyData.tuple (encI cnt)), Sl.own (PyData.list (encI ((List.range i).map fun i => st.getD i 0 + ((n.cs.getD i default).gv * cnt.getD (n.cs.getD i default).g.toNat 0 - (n.cs.getD i default).tk * cnt.getD (n.cs.getD i default).t.toNat 0)))), v4, v5, v6, v7, v8, v9]) →
      ∃ δ1, gN 4 (.int (i : Int)) δ = some δ1 ∧ ∃ δ2, den__law_amounts_b1 δ1 = .next δ2 ∧ (∃ v4 v5 v6 v7 v8 v9, δ2 = [Sl.val (PyData.tuple [PyData.int n.s, PyData.tuple (List.map encC n.cs)]), Sl.val (PyData.tuple (encI st)), Sl.val (PyData.tuple (encI cnt)), Sl.own (PyData.list (encI ((List.range (i + 1)).map fun i => st.getD i 0 + ((n.cs.getD i default).gv * cnt.getD (n.cs.getD i default).g.toNat 0 - (n.cs.getD i default).tk * cnt.getD (n.cs.getD i default).t.toNat 0)))), v4, v5, v6, v7, v8, v9]) := by
    intro i δ hi p
    obtain ⟨v4, v5, v6, v7, v8, v9, rfl⟩ := p
    refine ⟨_, rfl, ?_⟩
    have hc := hn.ch (n.cs.getD i default) (by rw [List.getD_eq_getElem?_getD, List.getElem?_eq_getElem hi]; exact List.getElem_mem hi)
    have := hc.v0; have := hc.v1; have := hc.k0; have := hc.k1; have := hc.g0; have := hc.g1; have := hc.t0; have := hc.t1
    have e1 := ixC (cs := n.cs) hi
    have e2 := ixN' (l := st) (i := i) (by omega)
    unfold den__law_amounts_b1
    have hlen : (List.range i).length ≤ 1000000 := by simp; omega
    repeat first | walk_at "ev" | simp only [e1, e2]
    exact ⟨_, rfl, _, _, _, _, _, _, by rw [List.range_succ]; simp only [encI, List.map_append]; rfl⟩
  obtain ⟨δ', j1, v4, v5, v6, v7, v8, v9, rfl⟩ := forR0 (g := gN 4) (ds := den__law_amounts_b1) (δ := [Sl.val (PyData.tuple [PyData.int n.s, PyData.tuple (List.map encC n.cs)]), Sl.val (PyData.tuple (encI st)), Sl.val (PyData.tuple (encI cnt)), Sl.own (PyData.list []), Sl.no, Sl.no, Sl.no, Sl.no, Sl.no, Sl.no]) _ n.cs.length ⟨_, _, _, _, _, _, rfl⟩ step
  rw [j1]
  walk_at "ev"
  rw [zip_range n.cs st (fun c a => a + (c.gv * cnt.getD c.g.toNat 0 - c.tk * cnt.getD c.t.toNat 0)) h1]
  rfl
/-! ### the law -/
theorem cut_sub {xs : List D} {lo hi : Option Int} {x : D} (h : x ∈ cutD xs lo hi) : x ∈ xs := List.mem_of_mem_drop (List.mem_of_mem_take h)
theorem cut_len {xs : List D} {lo hi : Option Int} : (cutD xs lo hi).length ≤ xs.length := by
  unfold cutD
  rw [List.length_take, List.length_drop]
  omega
theorem addT {x y : List D} (h : x.length + y.length ≤ 1000000) : addD (.tuple x) (.tuple y) = some (.tuple (x ++ y)) := if_pos h
theorem in_list {i : Int} {l : List Int} : inD false (.int i) (.list (encI l)) = some (.bool (decide (i ∈ l))) := by
  have h : flatD (.int i) = true ∧ (encI l).all flatD = true := ⟨rfl, by simp [List.all_map, flatD]⟩
  refine (if_pos (.inl h)).trans ?_
  clear h
  have e : (encI l).any (fun z => PyData.eqv z (.int i)) = decide (i ∈ l) := by
    induction l with
    | nil => rfl
    | cons a l ih =>
      simp only [encI, List.map_cons, List.any_cons, eqv_int] at ih ⊢
      rw [ih]
      by_cases h : a = i
      · simp [h]
      · simp [h, Ne.symm h]
  rw [e]
  rfl
theorem mem_readyL {n : Net} {st : List Int} {s : Int} (h0 : 0 ≤ s) (h1 : s < n.s) : decide (s ∈ readyL n st) = isReady n st s := by
  have : s ∈ readyL n st ↔ isReady n st s = true := by
    unfold readyL
    rw [List.mem_map]
    constructor
    · rintro ⟨i, hi, rfl⟩
      exact (List.mem_filter.mp hi).2
    · intro h
      refine ⟨s.toNat, List.mem_filter.mpr ⟨List.mem_range.mpr (by omega), ?_⟩, by omega⟩
      rw [show ((s.toNat : Nat) : Int) = s by omega]
      exact h
  by_cases h : s ∈ readyL n st
  · simp [h, this.mp h]
  · have : isReady n st s = false := by
      cases q : isReady n st s
      · rfl
      · exact absurd (this.mpr q) h
    simp [h, this]
def oneL (n : Net) (s : Int) : List Int := (List.range n.s.toNat).map fun i : Nat => if (i : Int) = s then 1 else 0
theorem oneL_at {n : Net} {s g : Int} (h0 : 0 ≤ g) (h1 : g < n.s) : (oneL n s).getD g.toNat 0 = if g = s then 1 else 0 := by
  unfold oneL
  rw [List.getD_eq_getElem?_getD, List.getElem?_map, List.getElem?_range (by omega)]
  simp only [Option.map_some, Option.getD_some]
  rw [show ((g.toNat : Nat) : Int) = g by omega]
theorem amts_one {n : Net} {st : List Int} {s : Int} (hn : n.Ok) : amts n st (oneL n s) = aftr n st s := by
  unfold amts aftr
  apply List.map_congr_left
  intro p hp
  have hc := hn.ch p.1 (List.of_mem_zip hp).1
  rw [oneL_at hc.g0 hc.g1, oneL_at hc.t0 hc.t1]
  omega
theorem str_same {s : Str} (h : PyData.strOk s = true) : eqD true (.str s) (.str s) = some (.bool false) := ne_same (sh_str h) (by omega)
end RN

end
section
namespace RN
open PySem L2 RD
local macro_rules | `(tactic| walk_at "ev") => `(tactic| simp -implicitDefEqProofs (disch := first | omega | (simp only [List.length_map, List.length_append, List.length_cons, List.length_nil, rng_len]; done) | (simp only [List.length_map, List.length_append, List.length_cons, List.length_nil, rng_len]; omega)) only [Int.toNat_natCast, Int.cast_ofNat_Int, eq_self, Int.reduceEq, Int.reduceLT, Int.reduceLE, Int.reduceSub, Int.reduceAdd, x_run, x_seq, seq_next, seq_ret, seq_exc, seq_brk, seq_cont, fin_next, fin_ret, fin_exc, bind_ok, bind_exc, ofO_some, out_ok, out_exc, oout_some, x_var, x_varB, var_val, varB_val, varB_own, x_op, x_c, x_test, test_b, x_cb, x_nil, x_cons, x_ret, x_drop, x_set, x_setN, x_next, x_app, app_own, x_ext, ext_own, x_setIx, setIx_own, x_par, par_2, x_aug, aug_val, x_frz, frz_own, frz_dict, frz_val, x_augM, augM_val, x_enum, enum_t, x_asg, x_tup, x_lst, x_ifS, x_if, x_and, x_or, x_not, x_andV, x_orV, and_b, or_b, x_notV, x_tru, tru_b, tru_i, tru_l, tru_t, tru_n, x_isN, isN_n, isN_i, isN_t, isN_l, isN_b, x_un, neg_i, x_chain, ch_b, x_noP, x_P, p_i, x_sl, sl_l, sl_t, x_isi, isiD, x_call, x_raise, x_items, items_l, items_t, x_rng1, x_rng2, rng1_i, rng2_i, x_zip, zip_l, zip_t, zip_lt, x_for, x_lc, x_yes, x_gN, gsN_nil, gsC_cons, gT_tup, gT_soft, obind_some, len_l, len_t, len_s, int_i, int_b, max_i, min_i, tuple_l, tuple_t, list_l, list_t, listA_l, listA_t, listA_d, sum_l, sum_t, x_augIx, augIx_own, x_d0K, x_d0T, x_d1K, x_d1T, x_cntT, cntT_t, x_cntL, cntL_l, x_idxL, idxL_l, rev_l, rev_t, cnt_enc, ltI, leI, gtI, geI, eqI, neI, addI, subI, mulI, mulI', divI, modI, powC, szT, rng_len, ixL, ixT, at0, at1, at2, at3, ixI, wipeD, List.map_cons, List.map_nil, List.replicate_succ, List.replicate_zero, List.append_nil, List.cons_append, List.nil_append, List.getElem?_cons_zero, List.getElem?_cons_succ, List.set_cons_zero, List.set_cons_succ, List.length_map, List.length_cons, List.length_nil, decide_eq_true_eq, decide_true, decide_false, if_true, if_false, Bool.false_eq_true, Bool.not_true, Bool.not_false, ite_true, ite_false, Nat.reduceAdd, Nat.reduceEqDiff, Int.reduceToNat, and_true, true_and, and_self, Nat.zero_add])

/-- a loop with an early return -/
theorem forF {α σ : Type} {g : DG} {ds : DS} (enc : α → D) (R : σ → DEnv → Prop) (F : σ → α → Option σ) (r : D) : ∀ (l : List α) (s : σ) (δ : DEnv),
    (∀ x ∈ l, ∀ s δ, R s δ → ∃ δ1, g (enc x) δ = some δ1 ∧ match F s x with | none => ds δ1 = .ret r | some s' => ∃ δ2, ds δ1 = .next δ2 ∧ R s' δ2) → R s δ →
    match l.foldlM F s with | none => forL g ds (l.map enc) δ = .ret r | some s' => ∃ δ', forL g ds (l.map enc) δ = .next δ' ∧ R s' δ'
  | [], s, δ, _, h => ⟨δ, rfl, h⟩
  | x :: l, s, δ, hs, h => by
    obtain ⟨δ1, h1, h2⟩ := hs x List.mem_cons_self s δ h
    rw [List.foldlM_cons]
    cases q : F s x with
    | none =>
      rw [q] at h2
      exact forL_cons_ret h1 h2
    | some s' =>
      rw [q] at h2
      obtain ⟨δ2, h3, h4⟩ := h2
      have ih := forF enc R F r l s' δ2 (fun y hy => hs y (List.mem_cons_of_mem _ hy)) h4
      rw [List.map_cons, forL_cons_next h1 h3]
      exact ih
theorem cut_hi {xs : List D} {i : Int} (h0 : 0 ≤ i) (h1 : i ≤ xs.length) : cutD xs none (some i) = xs.take i.toNat := by
  unfold cutD
  rw [HT.sIx_none, show i = ((i.toNat : Nat) : Int) by omega, HT.sIx_nat, Int.toNat_natCast]
  simp only [List.drop_zero, Nat.sub_zero]
  congr 1
  omega
theorem cut_lo {xs : List D} {i : Int} (h0 : 0 ≤ i) (h1 : i ≤ xs.length) : cutD xs (some i) none = xs.drop i.toNat := by
  unfold cutD
  rw [HT.sIx_none, show i = ((i.toNat : Nat) : Int) by omega, HT.sIx_nat, Int.toNat_natCast, Nat.min_eq_left (by omega)]
  exact List.take_of_length_le (by rw [List.length_drop]; exact Nat.le_refl _)
/-! ### attempts -/
def encA (a : Int × Bool) : D := .tuple [.int a.1, .bool a.2]
def stepF (n : Net) (st : List Int) (a : Int × Bool) : Option (List Int) := if isReady n st a.1 = a.2 then some (if a.2 then aftr n st a.1 else st) else none
def followM (n : Net) (st : List Int) (l : List (Int × Bool)) : Option (List Int) := l.foldlM (stepF n) st
def optD : Option (List Int) → D
  | none => .none
  | some l => .tuple (encI l)
theorem neB {a b : Bool} : eqD true (.bool a) (.bool b) = some (.bool (!(a == b))) := by
  rw [eqD_sh sh_bool sh_bool (by omega) (by omega)]
  simp only [PyData.eqv, if_true]
theorem e_follow {n : Net} {st : List Int} {l : List (Int × Bool)} (hn : n.Ok) : den_follow [encN n, .tuple (encI st), .tuple (l.map encA)] = .ok (optD (followM n st l)) := by
  have hl := hn.len
  have e1 : ∀ st s, den_is_ready [encN n, .tuple (encI st), .int s] = .ok (.bool (isReady n st s)) := fun st s => e_is_ready (by omega)
  have e2 : ∀ st s, den_after_run [encN n, .tuple (encI st), .int s] = .ok (.tuple (encI (aftr n st s))) := fun st s => e_after_run hn
  unfold den_follow
  walk_at "ev"
  have := forF (g := gT 2 (gsC (gN 4) (gsC (gN 5) gsN))) (ds := den_follow_b1) encA (fun s δ => ∃ v4 v5, δ = [Sl.val (encN n), Sl.val (.tuple (encI st)), Sl.val (.tuple (l.map encA)), Sl.val (.tuple (encI s)), v4, v5]) (stepF n) .none l st [Sl.val (encN n), Sl.val (.tuple (encI st)), Sl.val (.tuple (l.map encA)), Sl.val (.tuple (encI st)), Sl.no, Sl.no] (by
    intro x hx s δ p
    obtain ⟨v4, v5, rfl⟩ := p
    refine ⟨_, rfl, ?_⟩
    unfold den_follow_b1 stepF
    generalize den_is_ready = f1 at *
    generalize den_after_run = f2 at *
    obtain ⟨z, b⟩ := x
    by_cases h : isReady n s z = b
    · subst h
      cases q : isReady n s z
      · repeat first | walk_at "ev" | simp only [e1, neB, q, beq_self_eq_true]
        exact ⟨_, rfl, _, _, rfl⟩
      · repeat first | walk_at "ev" | simp only [e1, e2, neB, q, beq_self_eq_true]
        exact ⟨_, rfl, _, _, rfl⟩
    · have hb : (isReady n s z == b) = false := by simpa using h
      repeat first | walk_at "ev" | simp only [e1, neB, hb, h]) ⟨_, _, rfl⟩
  unfold followM
  cases q : l.foldlM (stepF n) st with
  | none =>
    rw [q] at this
    simp only at this
    rw [this]
    rfl
  | some r =>
    rw [q] at this
    obtain ⟨δ', h1, v4, v5, rfl⟩ := this
    rw [h1]
    walk_at "ev"
    rfl
end RN

end
section
namespace RN
open PySem L2 RD
local macro_rules | `(tactic| walk_at "ev") => `(tactic| simp -implicitDefEqProofs (disch := first | omega | (simp only [List.length_map, List.length_append, List.length_cons, List.length_nil, rng_len]; done) | (simp only [List.length_map, List.length_append, List.length_cons, List.length_nil, rng_len]; omega)) only [Int.toNat_natCast, Int.cast_ofNat_Int, eq_self, Int.reduceEq, Int.reduceLT, Int.reduceLE, Int.reduceSub, Int.reduceAdd, x_run, x_seq, seq_next, seq_ret, seq_exc, seq_brk, seq_cont, fin_next, fin_ret, fin_exc, bind_ok, bind_exc, ofO_some, out_ok, out_exc, oout_some, x_var, x_varB, var_val, varB_val, varB_own, x_op, x_c, x_test, test_b, x_cb, x_nil, x_cons, x_ret, x_drop, x_set, x_setN, x_next, x_app, app_own, x_ext, ext_own, x_setIx, setIx_own, x_par, par_2, x_aug, aug_val, x_frz, frz_own, frz_val, x_augM, augM_val, x_enum, enum_t, x_asg, x_tup, x_lst, x_ifS, x_if, x_and, x_or, x_not, x_andV, x_orV, and_b, or_b, x_notV, x_tru, tru_b, tru_i, tru_l, tru_t, tru_n, x_isN, isN_n, isN_i, isN_t, isN_l, isN_b, x_un, neg_i, x_chain, ch_b, x_noP, x_P, p_i, x_sl, sl_l, sl_t, x_isi, isiD, x_call, x_raise, x_items, items_l, items_t, x_rng1, x_rng2, rng1_i, rng2_i, x_zip, zip_l, zip_t, x_for, x_lc, x_yes, x_gN, gsN_nil, gsC_cons, gT_tup, obind_some, len_l, len_t, len_s, int_i, int_b, max_i, min_i, tuple_l, tuple_t, list_l, list_t, ltI, leI, gtI, geI, eqI, neI, addI, subI, mulI, mulI', divI, modI, powC, szT, rng_len, ixL, ixT, at0, at1, at2, at3, ixI, wipeD, List.map_cons, List.map_nil, List.replicate_succ, List.replicate_zero, List.append_nil, List.cons_append, List.nil_append, List.getElem?_cons_zero, List.getElem?_cons_succ, List.set_cons_zero, List.set_cons_succ, List.length_map, List.length_cons, List.length_nil, decide_eq_true_eq, decide_true, decide_false, if_true, if_false, Bool.false_eq_true, Bool.not_true, Bool.not_false, ite_true, ite_false, Nat.reduceAdd, Nat.reduceEqDiff, Int.reduceToNat, and_true, true_and, and_self, Nat.zero_add])

def upC (cnt : List Int) (s : Int) : List Int := cnt.set s.toNat (cnt.getD s.toNat 0 + 1)
theorem upC_len {cnt : List Int} {s : Int} : (upC cnt s).length = cnt.length := by unfold upC; rw [List.length_set]
theorem upC_at {cnt : List Int} {s g : Int} (h0 : 0 ≤ s) (h1 : s < cnt.length) (hg : 0 ≤ g) (hg1 : g < cnt.length) : (upC cnt s).getD g.toNat 0 = cnt.getD g.toNat 0 + if g = s then 1 else 0 := by
  unfold upC
  have e : ∀ i : Nat, i < cnt.length → (cnt.set s.toNat (cnt.getD s.toNat 0 + 1)).getD i 0 = if s.toNat = i then cnt.getD s.toNat 0 + 1 else cnt.getD i 0 := by
    intro i hi
    rw [List.getD_eq_getElem?_getD, List.getElem?_eq_getElem (by rw [List.length_set]; exact hi), List.getElem_set]
    rw [List.getD_eq_getElem?_getD (l := cnt) (i := i), List.getElem?_eq_getElem hi]
    rfl
  rw [e _ (by omega)]
  by_cases h : g = s
  · subst h; simp
  · rw [if_neg (by omega), if_neg h]; omega
theorem up_a {cnt : List Int} {s : Int} {v : D} (hl : cnt.length ≤ 1000) : addD (.tuple (cutD (encI cnt) none (some s))) (.tuple [v]) = some (.tuple (cutD (encI cnt) none (some s) ++ [v])) := by
  apply addT
  have := cut_len (xs := encI cnt) (lo := none) (hi := some s)
  rw [List.length_map] at this
  simp only [List.length_cons, List.length_nil]
  omega
theorem up_b {cnt : List Int} {s v : Int} (h0 : 0 ≤ s) (h1 : s < cnt.length) (hl : cnt.length ≤ 1000) : addD (.tuple (cutD (encI cnt) none (some s) ++ [.int v])) (.tuple (cutD (encI cnt) (some (s + 1)) none)) = some (.tuple (encI (cnt.set s.toNat v))) := by
  have a1 := cut_len (xs := encI cnt) (lo := none) (hi := some s)
  have a2 := cut_len (xs := encI cnt) (lo := some (s + 1)) (hi := none)
  rw [List.length_map] at a1 a2
  rw [addT (by simp only [List.length_append, List.length_cons, List.length_nil]; omega)]
  rw [cut_hi h0 (by rw [List.length_map]; omega), cut_lo (by omega) (by rw [List.length_map]; omega)]
  rw [List.set_eq_take_append_cons_drop, if_pos (by omega)]
  simp only [encI, List.map_append, List.map_cons, List.map_take, List.map_drop, List.append_assoc, List.cons_append, List.nil_append]
  rw [show (s + 1).toNat = s.toNat + 1 by omega]
theorem mul_z {s : Int} (h0 : 0 ≤ s) (h1 : s ≤ 1000) : mulD (.list [.int 0]) (.int s) = some (.list (encI (List.replicate s.toNat 0))) := by
  show (if 0 ≤ s ∧ Sz (1 * s.toNat) ∧ s < 2 ^ 60 then some (PyData.list (List.replicate s.toNat [PyData.int 0]).flatten) else none) = _
  rw [if_pos ⟨h0, show 1 * s.toNat ≤ 1000000 by omega, by omega⟩]
  congr 2
  rw [encI, List.map_replicate]
  generalize s.toNat = k
  induction k with
  | zero => rfl
  | succ k ih => rw [List.replicate_succ, List.flatten_cons, ih, List.replicate_succ]; rfl
theorem zip_zip {α β γ : Type} (f : α × β → β) (G : α × β → γ) : ∀ (cs : List α) (st : List β), (cs.zip ((cs.zip st).map f)).map G = (cs.zip st).map fun p => G (p.1, f p)
  | [], _ => rfl
  | _ :: _, [] => rfl
  | c :: cs, a :: st => by
    simp only [List.zip_cons_cons, List.map_cons]
    rw [zip_zip f G cs st]
theorem amts_up {n : Net} {st cnt : List Int} {s : Int} (hn : n.Ok) (hc : (cnt.length : Int) = n.s) (h0 : 0 ≤ s) (h1 : s < n.s) : amts n st (upC cnt s) = aftr n (amts n st cnt) s := by
  unfold amts aftr
  rw [zip_zip]
  apply List.map_congr_left
  intro p hp
  have hk := hn.ch p.1 (List.of_mem_zip hp).1
  have b1 := hk.g0; have b2 := hk.g1; have b3 := hk.t0; have b4 := hk.t1
  rw [upC_at h0 (by omega) hk.g0 (by omega), upC_at h0 (by omega) hk.t0 (by omega)]
  simp only [Int.mul_add]
  omega
theorem amts_zero {n : Net} {st : List Int} (k : Nat) (h : st.length = n.cs.length) : amts n st (List.replicate k 0) = st := by
  unfold amts
  have e : ∀ i : Nat, (List.replicate k (0 : Int)).getD i 0 = 0 := by
    intro i
    rw [List.getD_eq_getElem?_getD]
    by_cases hi : i < k
    · rw [List.getElem?_replicate, if_pos hi]; rfl
    · rw [List.getElem?_replicate, if_neg hi]; rfl
  have e2 : ((n.cs.zip st).map fun p => p.2 + (p.1.gv * (List.replicate k (0 : Int)).getD p.1.g.toNat 0 - p.1.tk * (List.replicate k (0 : Int)).getD p.1.t.toNat 0)) = (n.cs.zip st).map Prod.snd := by
    apply List.map_congr_left
    intro p _
    rw [e, e]
    simp
  rw [e2, List.map_snd_zip (by omega)]
theorem amts_len {n : Net} {st cnt : List Int} (h : st.length = n.cs.length) : (amts n st cnt).length = n.cs.length := by
  unfold amts
  rw [List.length_map, List.length_zip]
  omega
theorem aftr_len {n : Net} {st : List Int} {s : Int} (h : st.length = n.cs.length) : (aftr n st s).length = n.cs.length := by
  unfold aftr
  rw [List.length_map, List.length_zip]
  omega
def stepG (n : Net) (st cnt : List Int) (a : Int × Bool) : Option (List Int) := if isReady n (amts n st cnt) a.1 = a.2 then some (if a.2 then upC cnt a.1 else cnt) else none
theorem followG {n : Net} {st : List Int} (hn : n.Ok) : ∀ (l : List (Int × Bool)) (cnt : List Int), (cnt.length : Int) = n.s → (∀ a ∈ l, 0 ≤ a.1 ∧ a.1 < n.s) → (l.foldlM (stepG n st) cnt).map (amts n st) = l.foldlM (stepF n) (amts n st cnt)
  | [], cnt, _, _ => rfl
  | a :: l, cnt, hc, hl => by
    rw [List.foldlM_cons, List.foldlM_cons]
    have ha := hl a List.mem_cons_self
    unfold stepG stepF
    by_cases h : isReady n (amts n st cnt) a.1 = a.2
    · simp only [h, if_true]
      cases q : a.2
      · exact followG hn l cnt hc fun b hb => hl b (List.mem_cons_of_mem _ hb)
      · have ih := followG (st := st) hn l (upC cnt a.1) (by rw [upC_len]; exact hc) fun b hb => hl b (List.mem_cons_of_mem _ hb)
        rw [amts_up hn hc ha.1 ha.2] at ih
        exact ih
    · simp only [h, if_false]
      rfl
theorem e_law_follow {n : Net} {st : List Int} {l : List (Int × Bool)} (hn : n.Ok) (hs : st.length = n.cs.length) (hl : ∀ a ∈ l, 0 ≤ a.1 ∧ a.1 < n.s) : den__law_follow [encN n, .tuple (encI st), .tuple (l.map encA)] = .ok (optD (followM n st l)) := by
  have h5 := hn.len
  have := hn.s0; have := hn.s1
  have e1 : ∀ st s, st.length = n.cs.length → den__law_ready [encN n, .tuple (encI st), .int s] = .ok (.bool (isReady n st s)) := fun st s h => e_law_ready (by omega) h
  have e2 : ∀ cnt : List Int, (cnt.length : Int) = n.s → den__law_amounts [encN n, .tuple (encI st), .tuple (encI cnt)] = .ok (.tuple (encI (amts n st cnt))) := fun cnt h => e_law_amounts hn hs h
  have e9 : ixD (encN n) (.int 0) = some (.int n.s) := rfl
  unfold den__law_follow
  repeat first | walk_at "ev" | simp only [e9, mul_z (show 0 ≤ n.s by omega) (show n.s ≤ 1000 by omega)]
  have key := forF (g := gT 2 (gsC (gN 4) (gsC (gN 5) gsN))) (ds := den__law_follow_b1) encA (fun cnt δ => (cnt.length : Int) = n.s ∧ ∃ v4 v5, δ = [Sl.val (encN n), Sl.val (.tuple (encI st)), Sl.val (.tuple (l.map encA)), Sl.val (.tuple (encI cnt)), v4, v5]) (stepG n st) .none l (List.replicate n.s.toNat 0) [Sl.val (encN n), Sl.val (.tuple (encI st)), Sl.val (.tuple (l.map encA)), Sl.val (.tuple (encI (List.replicate n.s.toNat 0))), Sl.no, Sl.no] (by
    intro x hx cnt δ p
    obtain ⟨hc, v4, v5, rfl⟩ := p
    obtain ⟨hx0, hx1⟩ := hl x hx
    refine ⟨_, rfl, ?_⟩
    have e3 := e2 cnt hc
    have e4 := e1 (amts n st cnt) x.1 (amts_len hs)
    unfold den__law_follow_b1 stepG
    generalize den__law_ready = f1 at *
    generalize den__law_amounts = f2 at *
    obtain ⟨z, b⟩ := x
    simp only at hx0 hx1 e4
    by_cases h : isReady n (amts n st cnt) z = b
    · subst h
      cases q : isReady n (amts n st cnt) z
      · rw [q] at e4
        repeat first | walk_at "ev" | simp only [e3, e4, neB, q, beq_self_eq_true]
        exact ⟨_, rfl, hc, _, _, rfl⟩
      · rw [q] at e4
        repeat first | walk_at "ev" | simp only [e3, e4, neB, q, beq_self_eq_true, up_a (show cnt.length ≤ 1000 by omega), up_b hx0 (show z < cnt.length by omega) (show cnt.length ≤ 1000 by omega)]
        exact ⟨_, rfl, by rw [upC_len]; exact hc, _, _, rfl⟩
    · have hb : (isReady n (amts n st cnt) z == b) = false := by simpa using h
      repeat first | walk_at "ev" | simp only [e3, e4, neB, hb, h]) ⟨by simp; omega, _, _, rfl⟩
  have hg := followG (st := st) hn l (List.replicate n.s.toNat 0) (by simp; omega) hl
  rw [amts_zero _ hs] at hg
  unfold followM
  rw [← hg]
  cases q : l.foldlM (stepG n st) (List.replicate n.s.toNat 0) with
  | none =>
    rw [q] at key
    simp only at key
    rw [key]
    rfl
  | some r =>
    rw [q] at key
    obtain ⟨δ', h1, hr, v4, v5, rfl⟩ := key
    have e3 := e2 r hr
    rw [h1]
    generalize den__law_amounts = f2 at *
    repeat first | walk_at "ev" | simp only [e3]
    rfl
end RN

end
section
namespace RN
open PySem L2 RD
local macro_rules | `(tactic| walk_at "ev") => `(tactic| simp -implicitDefEqProofs (disch := first | omega | (simp only [List.length_map, List.length_append, List.length_cons, List.length_nil, rng_len]; done) | (simp only [List.length_map, List.length_append, List.length_cons, List.length_nil, rng_len]; omega)) only [Int.toNat_natCast, Int.cast_ofNat_Int, eq_self, Int.reduceEq, Int.reduceLT, Int.reduceLE, Int.reduceSub, Int.reduceAdd, x_run, x_seq, seq_next, seq_ret, seq_exc, seq_brk, seq_cont, fin_next, fin_ret, fin_exc, bind_ok, bind_exc, ofO_some, out_ok, out_exc, oout_some, x_var, x_varB, var_val, varB_val, varB_own, x_op, x_c, x_test, test_b, x_cb, x_nil, x_cons, x_ret, x_drop, x_set, x_setN, x_next, x_app, app_own, x_ext, ext_own, x_setIx, setIx_own, x_par, par_2, x_aug, aug_val, x_frz, frz_own, frz_val, x_augM, augM_val, x_enum, enum_t, x_asg, x_tup, x_lst, x_ifS, x_if, x_and, x_or, x_not, x_andV, x_orV, and_b, or_b, x_notV, x_tru, tru_b, tru_i, tru_l, tru_t, tru_n, x_isN, isN_n, isN_i, isN_t, isN_l, isN_b, x_un, neg_i, x_chain, ch_b, x_noP, x_P, p_i, x_sl, sl_l, sl_t, x_isi, isiD, x_call, x_raise, x_items, items_l, items_t, x_rng1, x_rng2, rng1_i, rng2_i, x_zip, zip_l, zip_t, x_for, x_lc, x_yes, x_gN, gsN_nil, gsC_cons, gT_tup, obind_some, len_l, len_t, len_s, int_i, int_b, max_i, min_i, tuple_l, tuple_t, list_l, list_t, ltI, leI, gtI, geI, eqI, neI, addI, subI, mulI, mulI', divI, modI, powC, szT, rng_len, ixL, ixT, at0, at1, at2, at3, ixI, wipeD, List.map_cons, List.map_nil, List.replicate_succ, List.replicate_zero, List.append_nil, List.cons_append, List.nil_append, List.getElem?_cons_zero, List.getElem?_cons_succ, List.set_cons_zero, List.set_cons_succ, List.length_map, List.length_cons, List.length_nil, decide_eq_true_eq, decide_true, decide_false, if_true, if_false, Bool.false_eq_true, Bool.not_true, Bool.not_false, ite_true, ite_false, Nat.reduceAdd, Nat.reduceEqDiff, Int.reduceToNat, and_true, true_and, and_self, Nat.zero_add])

theorem eqB {a b : Bool} : eqD false (.bool a) (.bool b) = some (.bool (a == b)) := by
  rw [eqD_sh sh_bool sh_bool (by omega) (by omega)]
  simp only [PyData.eqv, Bool.false_eq_true, if_false]
theorem e_law_attempts (ns : List Int) (k : Int) {n : Net} {st : List Int} (hk : 0 ≤ k) (hn : n.Ok) (hs : st.length = n.cs.length) : ∃ l : List (Int × Bool), l.length ≤ 6 ∧ (∀ a ∈ l, 0 ≤ a.1 ∧ a.1 < n.s) ∧ den__law_attempts [scrD ns, .int k, encN n, .tuple (encI st)] = .ok (.tuple (l.map encA)) := by
  obtain ⟨ds, r, er⟩ := e_row ns k hk
  have hl := r.len
  have h5 := hn.len
  have := hn.s0; have := hn.s1
  have m0 := mod_rng (ds.getD 0 0) 7 (by omega)
  have e1 : ∀ st s, st.length = n.cs.length → den__law_ready [encN n, .tuple (encI st), .int s] = .ok (.bool (isReady n st s)) := fun st s h => e_law_ready (by omega) h
  have e2 : ∀ cnt : List Int, (cnt.length : Int) = n.s → den__law_amounts [encN n, .tuple (encI st), .tuple (encI cnt)] = .ok (.tuple (encI (amts n st cnt))) := fun cnt h => e_law_amounts hn hs h
  have e9 : ixD (encN n) (.int 0) = some (.int n.s) := rfl
  unfold den__law_attempts
  generalize den__law_row = f0 at *
  repeat first | walk_at "ev" | simp only [er, e9, mul_z (show 0 ≤ n.s by omega) (show n.s ≤ 1000 by omega)]
  have step : ∀ (i : Nat) (δ : DEnv), i < (ds.getD 0 0 % 7).toNat → (∃ (l : List (Int × Bool)) (cnt : List Int) (v7 v8 v9 : Sl), l.length = i ∧ (∀ a ∈ l, 0 ≤ a.1 ∧ a.1 < n.s) ∧ (cnt.length : Int) = n.s ∧ δ = [Sl.val (scrD ns), Sl.val (.int k), Sl.val (encN n), Sl.val (.tuple (encI st)), Sl.val (.list (encI ds)), Sl.own (.list (l.map encA)), Sl.val (.tuple (encI cnt)), v7, v8, v9]) →
      ∃ δ1, gN 7 (.int (i : Int)) δ = some δ1 ∧ ∃ δ2, den__law_attempts_b1 δ1 = .next δ2 ∧ (∃ (l : List (Int × Bool)) (cnt : List Int) (v7 v8 v9 : Sl), l.length = i + 1 ∧ (∀ a ∈ l, 0 ≤ a.1 ∧ a.1 < n.s) ∧ (cnt.length : Int) = n.s ∧ δ2 = [Sl.val (scrD ns), Sl.val (.int k), Sl.val (encN n), Sl.val (.tuple (encI st)), Sl.val (.list (encI ds)), Sl.own (.list (l.map encA)), Sl.val (.tuple (encI cnt)), v7, v8, v9]) := by
    intro i δ hi p
    obtain ⟨l, cnt, v7, v8, v9, p1, p2, p3, rfl⟩ := p
    refine ⟨_, rfl, ?_⟩
    have ms := mod_rng (ds.getD (1 + (i : Int)).toNat 0) n.s (by omega)
    have e3 := e2 cnt p3
    have e4 := e1 (amts n st cnt) (ds.getD (1 + (i : Int)).toNat 0 % n.s) (amts_len hs)
    have hle : l.length ≤ 1000000 := by omega
    unfold den__law_attempts_b1
    generalize den__law_ready = f1 at *
    generalize den__law_amounts = f2 at *
    repeat first | walk_at "ev" | simp only [e3, e4, e9, neB]
    generalize hb : (!(isReady n (amts n st cnt) (ds.getD (1 + (i : Int)).toNat 0 % n.s) == decide (ds.getD (10 + (i : Int)).toNat 0 % 12 = 0))) = b
    generalize ds.getD (1 + (i : Int)).toNat 0 % n.s = z at *
    have hv : ∀ a ∈ l ++ [(z, b)], 0 ≤ a.1 ∧ a.1 < n.s := fun a ha => by
      rcases List.mem_append.mp ha with ha | ha
      · exact p2 a ha
      · rw [List.mem_singleton.mp ha]; exact ms
    have ap : l.map encA ++ [PyData.tuple [.int z, .bool b]] = (l ++ [(z, b)]).map encA := by rw [List.map_append]; rfl
    cases b
    · repeat first | walk_at "ev" | simp only [ap]
      exact ⟨_, rfl, l ++ [(z, false)], cnt, _, _, _, by simp [p1], hv, p3, rfl⟩
    · repeat first | walk_at "ev" | simp only [ap, up_a (show cnt.length ≤ 1000 by omega), up_b ms.1 (show z < cnt.length by omega) (show cnt.length ≤ 1000 by omega)]
      exact ⟨_, rfl, l ++ [(z, true)], upC cnt z, _, _, _, by simp [p1], hv, by rw [upC_len]; exact p3, rfl⟩
  obtain ⟨δ', j1, l, cnt, v7, v8, v9, p1, p2, p3, rfl⟩ := forR0 (g := gN 7) (ds := den__law_attempts_b1) (δ := [Sl.val (scrD ns), Sl.val (.int k), Sl.val (encN n), Sl.val (.tuple (encI st)), Sl.val (.list (encI ds)), Sl.own (.list []), Sl.val (.tuple (encI (List.replicate n.s.toNat 0))), Sl.no, Sl.no, Sl.no]) _ _ ⟨[], _, _, _, _, rfl, (fun _ h => by cases h), by simp; omega, rfl⟩ step
  rw [j1]
  walk_at "ev"
  exact ⟨l, by omega, p2, rfl⟩
/-! ### all stocks -/
def allS (b : Nat) : Nat → List (List Int)
  | 0 => [[]]
  | m + 1 => (allS b m).flatMap fun one => (List.range b).map fun i : Nat => one ++ [(i : Int)]
def encS (st : List Int) : D := .tuple (encI st)
theorem allS_len (b : Nat) : ∀ m, (allS b m).length = b ^ m
  | 0 => rfl
  | m + 1 => by
    unfold allS
    rw [List.length_flatMap]
    simp only [List.length_map, List.length_range]
    rw [List.map_const', List.sum_replicate_nat, allS_len b m]
    rw [Nat.pow_succ]
theorem allS_mem {b : Nat} : ∀ {m : Nat} {st : List Int}, st ∈ allS b m → st.length = m ∧ ∀ x ∈ st, 0 ≤ x ∧ x < b
  | 0, st, h => by
    rw [List.mem_singleton.mp h]
    exact ⟨rfl, fun _ h => by cases h⟩
  | m + 1, st, h => by
    obtain ⟨one, h1, h2⟩ := List.mem_flatMap.mp h
    obtain ⟨i, hi, rfl⟩ := List.mem_map.mp h2
    obtain ⟨q1, q2⟩ := allS_mem h1
    refine ⟨by simp [q1], fun x hx => ?_⟩
    rcases List.mem_append.mp hx with hx | hx
    · exact q2 x hx
    · rw [List.mem_singleton.mp hx]
      have := List.mem_range.mp hi
      omega
def extS (b : Nat) (one : List Int) : List (List Int) := (List.range b).map fun i : Nat => one ++ [(i : Int)]
theorem ext_room {b : Nat} {l pre post : List (List Int)} {x : List Int} (h : l = pre ++ x :: post) : (pre.flatMap (extS b)).length + (extS b x).length ≤ (l.flatMap (extS b)).length := by
  rw [h, List.flatMap_append, List.flatMap_cons, List.length_append, List.length_append]
  omega
theorem ext_comp {e : DE} {δ : DEnv} {g : DG} {b : Nat} {x : List Int} (he : ∀ i : Nat, i < b → ∃ δ1, g (.int (i : Int)) δ = some δ1 ∧ e δ1 = .ok (encS (x ++ [(i : Int)]))) : compL g dYes e δ (rng 0 b) = .ok ((extS b x).map encS) := by
  rw [compL_rng (fun _ => true) (fun i => encS (x ++ [(i : Int)])) b, filter_true]
  · unfold extS
    rw [List.map_map]
    rfl
  · intro i hi
    obtain ⟨δ1, h1, h2⟩ := he i hi
    exact ⟨δ1, h1, rfl, fun _ => h2⟩
theorem e_all_stocks {m : Nat} {b : Int} (h0 : 0 ≤ b) (hb : b ≤ 9) (hm : m ≤ 5) (hz : ∀ i, i ≤ m → (b + 1).toNat ^ i ≤ 1000000) : den_all_stocks [.int (m : Int), .int b] = .ok (.list ((allS (b + 1).toNat m).map encS)) := by
  unfold den_all_stocks
  walk_at "ev"
  have outer : ∀ (i : Nat) (δ : DEnv), i < m → (∃ v3 v4 v5 v6, δ = [Sl.val (.int (m : Int)), Sl.val (.int b), Sl.val (.list ((allS (b + 1).toNat i).map encS)), v3, v4, v5, v6]) →
      ∃ δ1, gN 3 (.int (i : Int)) δ = some δ1 ∧ ∃ δ2, den_all_stocks_b2 δ1 = .next δ2 ∧ (∃ v3 v4 v5 v6, δ2 = [Sl.val (.int (m : Int)), Sl.val (.int b), Sl.val (.list ((allS (b + 1).toNat (i + 1)).map encS)), v3, v4, v5, v6]) := by
    intro i δ hi p
    obtain ⟨v3, v4, v5, v6, rfl⟩ := p
    refine ⟨_, rfl, ?_⟩
    unfold den_all_stocks_b2
    walk_at "ev"
    have hroom : ((allS (b + 1).toNat i).flatMap (extS (b + 1).toNat)).length ≤ 1000000 := by
      have := hz (i + 1) hi
      rw [← allS_len] at this
      exact this
    have inner : ∀ (pre : List (List Int)) (x : List Int) (post : List (List Int)) (δ : DEnv), allS (b + 1).toNat i = pre ++ x :: post → (∃ v5 v6, δ = [Sl.val (.int (m : Int)), Sl.val (.int b), Sl.val (.list ((allS (b + 1).toNat i).map encS)), Sl.val (.int (i : Int)), Sl.own (.list ((pre.flatMap (extS (b + 1).toNat)).map encS)), v5, v6]) →
        ∃ δ1, gN 5 (encS x) δ = some δ1 ∧ ∃ δ2, den_all_stocks_b1 δ1 = .next δ2 ∧ (∃ v5 v6, δ2 = [Sl.val (.int (m : Int)), Sl.val (.int b), Sl.val (.list ((allS (b + 1).toNat i).map encS)), Sl.val (.int (i : Int)), Sl.own (.list (((pre ++ [x]).flatMap (extS (b + 1).toNat)).map encS)), v5, v6]) := by
      intro pre x post δ hp p
      obtain ⟨v5, v6, rfl⟩ := p
      refine ⟨_, rfl, ?_⟩
      have hr := ext_room (b := (b + 1).toNat) hp
      have hx : x.length ≤ 5 := by
        have := (allS_mem (b := (b + 1).toNat) (m := i) (st := x) (by rw [hp]; simp)).1
        omega
      unfold den_all_stocks_b1
      walk_at "ev"
      rw [ext_comp (b := (b + 1).toNat) (x := x) (by
        intro j hj
        refine ⟨_, rfl, ?_⟩
        unfold den_all_stocks_e1 encS
        have a1 : addD (.tuple (encI x)) (.tuple [.int (j : Int)]) = some (.tuple (encI (x ++ [(j : Int)]))) := by
          rw [addT (by simp; omega)]
          simp [encI]
        repeat first | walk_at "ev" | simp only [a1])]
      walk_at "ev"
      have ea : ((pre ++ [x]).flatMap (extS (b + 1).toNat)).map encS = (pre.flatMap (extS (b + 1).toNat)).map encS ++ (extS (b + 1).toNat x).map encS := by
        rw [List.flatMap_append, List.map_append]
        simp only [List.flatMap_cons, List.flatMap_nil, List.append_nil]
      rw [ea]
      exact ⟨_, rfl, _, _, rfl⟩
    obtain ⟨δ', h1, v5', v6', rfl⟩ := forI (g := gN 5) (ds := den_all_stocks_b1) encS _ (allS (b + 1).toNat i) inner (allS (b + 1).toNat i) [] _ rfl ⟨_, _, rfl⟩
    simp only [List.flatMap_nil, List.map_nil] at h1
    rw [h1]
    walk_at "ev"
    exact ⟨_, rfl, _, _, _, _, rfl⟩
  obtain ⟨δ', j1, v3, v4, v5, v6, rfl⟩ := forR0 (g := gN 3) (ds := den_all_stocks_b2) (δ := [Sl.val (.int (m : Int)), Sl.val (.int b), Sl.val (.list [.tuple []]), Sl.no, Sl.no, Sl.no, Sl.no]) _ m ⟨_, _, _, _, rfl⟩ outer
  rw [j1]
  walk_at "ev"
end RN

end
section
namespace RN
open PySem L2 RD
local macro_rules | `(tactic| walk_at "ev") => `(tactic| simp -implicitDefEqProofs (disch := first | omega | (simp only [List.length_map, List.length_append, List.length_cons, List.length_nil, rng_len]; done) | (simp only [List.length_map, List.length_append, List.length_cons, List.length_nil, rng_len]; omega)) only [Int.toNat_natCast, Int.cast_ofNat_Int, eq_self, Int.reduceEq, Int.reduceLT, Int.reduceLE, Int.reduceSub, Int.reduceAdd, x_run, x_seq, seq_next, seq_ret, seq_exc, seq_brk, seq_cont, fin_next, fin_ret, fin_exc, bind_ok, bind_exc, ofO_some, out_ok, out_exc, oout_some, x_var, x_varB, var_val, varB_val, varB_own, x_op, x_c, x_test, test_b, x_cb, x_nil, x_cons, x_ret, x_drop, x_set, x_setN, x_next, x_app, app_own, x_ext, ext_own, x_setIx, setIx_own, x_par, par_2, x_aug, aug_val, x_frz, frz_own, frz_val, x_augM, augM_val, x_enum, enum_t, x_asg, x_tup, x_lst, x_ifS, x_if, x_and, x_or, x_not, x_andV, x_orV, and_b, or_b, x_notV, x_tru, tru_b, tru_i, tru_l, tru_t, tru_n, x_isN, isN_n, isN_i, isN_t, isN_l, isN_b, x_un, neg_i, x_chain, ch_b, x_noP, x_P, p_i, x_sl, sl_l, sl_t, x_isi, isiD, x_call, x_raise, x_items, items_l, items_t, x_rng1, x_rng2, rng1_i, rng2_i, x_zip, zip_l, zip_t, x_for, x_lc, x_yes, x_gN, gsN_nil, gsC_cons, gT_tup, obind_some, len_l, len_t, len_s, int_i, int_b, max_i, min_i, tuple_l, tuple_t, list_l, list_t, ltI, leI, gtI, geI, eqI, neI, addI, subI, mulI, mulI', divI, modI, powC, szT, rng_len, ixL, ixT, at0, at1, at2, at3, ixI, wipeD, List.map_cons, List.map_nil, List.replicate_succ, List.replicate_zero, List.append_nil, List.cons_append, List.nil_append, List.getElem?_cons_zero, List.getElem?_cons_succ, List.set_cons_zero, List.set_cons_succ, List.length_map, List.length_cons, List.length_nil, decide_eq_true_eq, decide_true, decide_false, if_true, if_false, Bool.false_eq_true, Bool.not_true, Bool.not_false, ite_true, ite_false, Nat.reduceAdd, Nat.reduceEqDiff, Int.reduceToNat, and_true, true_and, and_self, Nat.zero_add])

theorem addL {x y : List D} (h : x.length + y.length ≤ 1000000) : addD (.list x) (.list y) = some (.list (x ++ y)) := if_pos h
theorem e_every_stock {n : Net} {b : Int} (h0 : 0 ≤ b) (hb : b ≤ 9) (hm : n.cs.length ≤ 5) (hz : ∀ i, i ≤ n.cs.length → (b + 1).toNat ^ i ≤ 1000000) : den__law_every_stock [encN n, .int b] = .ok (.list ((allS (b + 1).toNat n.cs.length).map encS)) := by
  unfold den__law_every_stock encN
  walk_at "ev"
  generalize PyData.tuple [PyData.int n.s, PyData.tuple (List.map encC n.cs)] = nn
  generalize n.cs.length = m at *
  have outer : ∀ (i : Nat) (δ : DEnv), i < m → (∃ v3 v4 v5 v6, δ = [Sl.val nn, Sl.val (.int b), Sl.val (.list ((allS (b + 1).toNat i).map encS)), v3, v4, v5, v6]) →
      ∃ δ1, gN 3 (.int (i : Int)) δ = some δ1 ∧ ∃ δ2, den__law_every_stock_b2 δ1 = .next δ2 ∧ (∃ v3 v4 v5 v6, δ2 = [Sl.val nn, Sl.val (.int b), Sl.val (.list ((allS (b + 1).toNat (i + 1)).map encS)), v3, v4, v5, v6]) := by
    intro i δ hi p
    obtain ⟨v3, v4, v5, v6, rfl⟩ := p
    refine ⟨_, rfl, ?_⟩
    unfold den__law_every_stock_b2
    walk_at "ev"
    have hroom : ((allS (b + 1).toNat i).flatMap (extS (b + 1).toNat)).length ≤ 1000000 := by
      have := hz (i + 1) hi
      rw [← allS_len] at this
      exact this
    have inner : ∀ (pre : List (List Int)) (x : List Int) (post : List (List Int)) (δ : DEnv), allS (b + 1).toNat i = pre ++ x :: post → (∃ v5 v6, δ = [Sl.val nn, Sl.val (.int b), Sl.val (.list ((allS (b + 1).toNat i).map encS)), Sl.val (.int (i : Int)), Sl.val (.list ((pre.flatMap (extS (b + 1).toNat)).map encS)), v5, v6]) →
        ∃ δ1, gN 5 (encS x) δ = some δ1 ∧ ∃ δ2, den__law_every_stock_b1 δ1 = .next δ2 ∧ (∃ v5 v6, δ2 = [Sl.val nn, Sl.val (.int b), Sl.val (.list ((allS (b + 1).toNat i).map encS)), Sl.val (.int (i : Int)), Sl.val (.list (((pre ++ [x]).flatMap (extS (b + 1).toNat)).map encS)), v5, v6]) := by
      intro pre x post δ hp p
      obtain ⟨v5, v6, rfl⟩ := p
      refine ⟨_, rfl, ?_⟩
      have hr := ext_room (b := (b + 1).toNat) hp
      have hx : x.length ≤ 5 := by
        have := (allS_mem (b := (b + 1).toNat) (m := i) (st := x) (by rw [hp]; simp)).1
        omega
      unfold den__law_every_stock_b1
      walk_at "ev"
      rw [ext_comp (b := (b + 1).toNat) (x := x) (by
        intro j hj
        refine ⟨_, rfl, ?_⟩
        unfold den__law_every_stock_e1 encS
        have a1 : addD (.tuple (encI x)) (.tuple [.int (j : Int)]) = some (.tuple (encI (x ++ [(j : Int)]))) := by
          rw [addT (by simp; omega)]
          simp [encI]
        repeat first | walk_at "ev" | simp only [a1])]
      have ea : ((pre ++ [x]).flatMap (extS (b + 1).toNat)).map encS = (pre.flatMap (extS (b + 1).toNat)).map encS ++ (extS (b + 1).toNat x).map encS := by
        rw [List.flatMap_append, List.map_append]
        simp only [List.flatMap_cons, List.flatMap_nil, List.append_nil]
      rw [ea]
      have ad := addL (x := (pre.flatMap (extS (b + 1).toNat)).map encS) (y := (extS (b + 1).toNat x).map encS) (by rw [List.length_map, List.length_map]; omega)
      repeat first | walk_at "ev" | simp only [ad]
      exact ⟨_, rfl, _, _, rfl⟩
    obtain ⟨δ', h1, v5', v6', rfl⟩ := forI (g := gN 5) (ds := den__law_every_stock_b1) encS _ (allS (b + 1).toNat i) inner (allS (b + 1).toNat i) [] _ rfl ⟨_, _, rfl⟩
    simp only [List.flatMap_nil, List.map_nil] at h1
    rw [h1]
    walk_at "ev"
    exact ⟨_, rfl, _, _, _, _, rfl⟩
  obtain ⟨δ', j1, v3, v4, v5, v6, rfl⟩ := forR0 (g := gN 3) (ds := den__law_every_stock_b2) (δ := [Sl.val nn, Sl.val (.int b), Sl.val (.list [.tuple []]), Sl.no, Sl.no, Sl.no, Sl.no]) _ m ⟨_, _, _, _, rfl⟩ outer
  rw [j1]
  walk_at "ev"
/-! ### are these attempts -/
theorem att_good {n : Net} {v : Sl} {a : Int × Bool} {q : D} (h0 : 0 ≤ a.1) (h1 : a.1 < n.s) : den_are_attempts_b1 [Sl.val (encN n), v, Sl.val (encA a)] = .next [Sl.val (encN n), v, Sl.val (encA a)] := by
  have e1 : den_in_range [.int a.1, .int 0, .int (n.s - 1)] = .ok (.bool true) := by rw [in_int]; simp; omega
  have e9 : ixD (encN n) (.int 0) = some (.int n.s) := rfl
  unfold den_are_attempts_b1 encA
  generalize den_in_range = f at *
  repeat first | walk_at "ev" | simp only [e1, e9]
def wrongs (n : Net) : List D := [.tuple [.int n.s, .bool true], .tuple [.int (-1), .bool true], .tuple [.int 0, .int 1], .tuple [.int 0], .list [.int 0, .bool true], .none, .tuple [.bool true, .bool true], .tuple [.int 0, .none]]
theorem att_bad {n : Net} {v : Sl} {d : D} (hn : n.Ok) (h : d ∈ wrongs n) : den_are_attempts_b1 [Sl.val (encN n), v, Sl.val d] = .ret (.bool false) := by
  have := hn.s0
  have e1 : den_in_range [.int n.s, .int 0, .int (n.s - 1)] = .ok (.bool false) := by rw [in_int]; simp; omega
  have e2 : den_in_range [.int (-1), .int 0, .int (n.s - 1)] = .ok (.bool false) := by rw [in_int]; simp
  have e3 : den_in_range [.int 0, .int 0, .int (n.s - 1)] = .ok (.bool true) := by rw [in_int]; simp; omega
  have e4 : den_in_range [.bool true, .int 0, .int (n.s - 1)] = .ok (.bool false) := e_in_range rfl
  have e9 : ixD (encN n) (.int 0) = some (.int n.s) := rfl
  unfold den_are_attempts_b1
  generalize den_in_range = f at *
  simp only [wrongs, List.mem_cons, List.not_mem_nil, or_false] at h
  rcases h with rfl | rfl | rfl | rfl | rfl | rfl | rfl | rfl <;> (repeat first | walk_at "ev" | simp only [e1, e2, e3, e4, e9])
theorem e_are_attempts {n : Net} {l : List (Int × Bool)} (h : ∀ a ∈ l, 0 ≤ a.1 ∧ a.1 < n.s) (hl : l.length ≤ 40) : den_are_attempts [encN n, .tuple (l.map encA)] = .ok (.bool true) := by
  unfold den_are_attempts
  have h40 : ¬((40 : Int) < (l.length : Int)) := by omega
  repeat first | walk_at "ev" | simp only [h40]
  have key := forF (g := gN 2) (ds := den_are_attempts_b1) encA (fun (_ : Unit) δ => ∃ v, δ = [Sl.val (encN n), Sl.val (.tuple (l.map encA)), v]) (fun _ _ => some ()) .none l () [Sl.val (encN n), Sl.val (.tuple (l.map encA)), Sl.no] (by
    intro x hx _ δ p
    obtain ⟨v, rfl⟩ := p
    obtain ⟨hx0, hx1⟩ := h x hx
    exact ⟨_, rfl, _, att_good (q := .none) hx0 hx1, _, rfl⟩) ⟨_, rfl⟩
  have e : l.foldlM (fun (_ : Unit) (_ : Int × Bool) => some ()) () = some () := by
    clear key h hl h40
    induction l with
    | nil => rfl
    | cons a l ih => exact ih
  rw [e] at key
  obtain ⟨δ', h1, v, rfl⟩ := key
  rw [h1]
  walk_at "ev"
theorem e_are_bad {n : Net} {l : List (Int × Bool)} {d : D} (hn : n.Ok) (h : ∀ a ∈ l, 0 ≤ a.1 ∧ a.1 < n.s) (hl : l.length ≤ 39) (hd : d ∈ wrongs n) : den_are_attempts [encN n, .tuple (l.map encA ++ [d])] = .ok (.bool false) := by
  unfold den_are_attempts
  have h40 : ¬((40 : Int) < ((l.length + 1 : Nat) : Int)) := by omega
  walk_at "ev"
  simp only [List.length_append, List.length_map, List.length_cons, List.length_nil, Nat.zero_add, h40]
  repeat first | walk_at "ev" | simp only [h40]
  have key : ∀ (l : List (Int × Bool)) (hl : ∀ a ∈ l, 0 ≤ a.1 ∧ a.1 < n.s) (u v : Sl), forL (gN 2) den_are_attempts_b1 (l.map encA ++ [d]) [Sl.val (encN n), u, v] = .ret (.bool false) := by
    intro l
    induction l with
    | nil =>
      intro _ u v
      exact forL_cons_ret rfl (att_bad hn hd)
    | cons a l ih =>
      intro hl u v
      obtain ⟨h0, h1⟩ := hl a List.mem_cons_self
      rw [List.map_cons, List.cons_append, forL_cons_next rfl (att_good (q := .none) h0 h1)]
      exact ih (fun b hb => hl b (List.mem_cons_of_mem _ hb)) u _
  rw [key l h]
  walk_at "ev"
end RN

end
section
namespace RN
open PySem L2 RD
local macro_rules | `(tactic| walk_at "ev") => `(tactic| simp -implicitDefEqProofs (disch := first | omega | (simp only [List.length_map, List.length_append, List.length_cons, List.length_nil, rng_len]; done) | (simp only [List.length_map, List.length_append, List.length_cons, List.length_nil, rng_len]; omega)) only [Int.toNat_natCast, Int.cast_ofNat_Int, eq_self, Int.reduceEq, Int.reduceLT, Int.reduceLE, Int.reduceSub, Int.reduceAdd, x_run, x_seq, seq_next, seq_ret, seq_exc, seq_brk, seq_cont, fin_next, fin_ret, fin_exc, bind_ok, bind_exc, ofO_some, out_ok, out_exc, oout_some, x_var, x_varB, var_val, varB_val, varB_own, x_op, x_c, x_test, test_b, x_cb, x_nil, x_cons, x_ret, x_drop, x_set, x_setN, x_next, x_app, app_own, x_ext, ext_own, x_setIx, setIx_own, x_par, par_2, x_aug, aug_val, x_frz, frz_own, frz_val, x_augM, augM_val, x_enum, enum_t, x_asg, x_tup, x_lst, x_ifS, x_if, x_and, x_or, x_not, x_andV, x_orV, and_b, or_b, x_notV, x_tru, tru_b, tru_i, tru_l, tru_t, tru_n, x_isN, isN_n, isN_i, isN_t, isN_l, isN_b, x_un, neg_i, x_chain, ch_b, x_noP, x_P, p_i, x_sl, sl_l, sl_t, x_isi, isiD, x_call, x_raise, x_items, items_l, items_t, x_rng1, x_rng2, rng1_i, rng2_i, x_zip, zip_l, zip_t, x_for, x_lc, x_yes, x_gN, gsN_nil, gsC_cons, gT_tup, obind_some, len_l, len_t, len_s, int_i, int_b, max_i, min_i, tuple_l, tuple_t, list_l, list_t, ltI, leI, gtI, geI, eqI, neI, addI, subI, mulI, mulI', divI, modI, powC, szT, rng_len, ixL, ixT, at0, at1, at2, at3, ixI, wipeD, List.map_cons, List.map_nil, List.replicate_succ, List.replicate_zero, List.append_nil, List.cons_append, List.nil_append, List.getElem?_cons_zero, List.getElem?_cons_succ, List.set_cons_zero, List.set_cons_succ, List.length_map, List.length_cons, List.length_nil, decide_eq_true_eq, decide_true, decide_false, if_true, if_false, Bool.false_eq_true, Bool.not_true, Bool.not_false, ite_true, ite_false, Nat.reduceAdd, Nat.reduceEqDiff, Int.reduceToNat, and_true, true_and, and_self, Nat.zero_add])

theorem cs_att {n : Net} {a bd : D} (hn : n.Ok) (ha : den_are_attempts [encN n, a] = .ok (.bool false)) : den_check_search [encN n, a, bd] = .exc "InvalidAttempts" none := by
  have e1 := e_check_net hn
  unfold den_check_search
  generalize den_check_net = f1 at *
  generalize den_are_attempts = f2 at *
  repeat first | walk_at "ev" | simp only [e1, ha]
theorem cs_bd {n : Net} {a bd : D} (hn : n.Ok) (ha : den_are_attempts [encN n, a] = .ok (.bool true)) (hb : noDic bd = true) (h : inR bd 0 9 = false) : den_check_search [encN n, a, bd] = .exc "InvalidBound" none := by
  have e1 := e_check_net hn
  have e2 := e_in_range (lo := 0) (hi := 9) hb
  rw [h] at e2
  unfold den_check_search
  generalize den_check_net = f1 at *
  generalize den_are_attempts = f2 at *
  generalize den_in_range = f3 at *
  repeat first | walk_at "ev" | simp only [e1, ha, e2]
theorem cs_ok {n : Net} {a : D} {b : Int} (hn : n.Ok) (ha : den_are_attempts [encN n, a] = .ok (.bool true)) (h0 : 0 ≤ b) (h9 : b ≤ 9) : den_check_search [encN n, a, .int b] = if 2000 < (b + 1) ^ n.cs.length then .exc "TooLong" none else .ok .none := by
  have e1 := e_check_net hn
  have e2 : den_in_range [.int b, .int 0, .int 9] = .ok (.bool true) := by rw [in_int]; simp; omega
  have e9 : ixD (encN n) (.int 1) = some (.tuple (n.cs.map encC)) := rfl
  unfold den_check_search
  generalize den_check_net = f1 at *
  generalize den_are_attempts = f2 at *
  generalize den_in_range = f3 at *
  repeat first | walk_at "ev" | simp only [e1, ha, e2, e9]
  have step : ∀ (pre : List Ch) (x : Ch) (post : List Ch) (δ : DEnv), n.cs = pre ++ x :: post → (∃ v4, δ = [Sl.val (encN n), Sl.val a, Sl.val (.int b), Sl.val (.int ((b + 1) ^ pre.length)), v4]) →
      ∃ δ1, gN 4 (encC x) δ = some δ1 ∧ ∃ δ2, den_check_search_b1 δ1 = .next δ2 ∧ (∃ v4, δ2 = [Sl.val (encN n), Sl.val a, Sl.val (.int b), Sl.val (.int ((b + 1) ^ (pre ++ [x]).length)), v4]) := by
    intro pre x post δ hp p
    obtain ⟨v4, rfl⟩ := p
    refine ⟨_, rfl, ?_⟩
    unfold den_check_search_b1
    walk_at "ev"
    rw [List.length_append, List.length_cons, List.length_nil, Nat.zero_add, Int.pow_succ]
    exact ⟨_, rfl, _, rfl⟩
  obtain ⟨δ', j1, v4, rfl⟩ := forI (g := gN 4) (ds := den_check_search_b1) encC _ n.cs step n.cs [] [Sl.val (encN n), Sl.val a, Sl.val (.int b), Sl.val (.int 1), Sl.no] rfl ⟨Sl.no, by rw [List.length_nil, Int.pow_zero]⟩
  rw [j1]
  by_cases h : 2000 < (b + 1) ^ n.cs.length
  · repeat first | walk_at "ev" | simp only [h]
  · repeat first | walk_at "ev" | simp only [h]
theorem isN_opt {r : Option (List Int)} : isNO true (optD r) = .ok (.bool r.isSome) := by cases r <;> rfl
theorem ag_exc {a b c : D} {x : Str} (h : den_check_search [a, b, c] = .exc x none) : den_agreeing_stocks [a, b, c] = .exc x none := by
  unfold den_agreeing_stocks
  generalize den_check_search = f1 at *
  repeat first | walk_at "ev" | simp only [h]
theorem ar_exc {a b c : D} {x : Str} (h : den_check_search [a, b, c] = .exc x none) : den_amount_ranges [a, b, c] = .exc x none := by
  unfold den_amount_ranges
  generalize den_check_search = f1 at *
  repeat first | walk_at "ev" | simp only [h]
theorem ba_exc {a b c : D} {x : Str} (h : den_check_search [a, b, c] = .exc x none) : den_best_attempt [a, b, c] = .exc x none := by
  unfold den_best_attempt
  generalize den_check_search = f1 at *
  repeat first | walk_at "ev" | simp only [h]
theorem pow_room {b : Int} {m : Nat} (h0 : 0 ≤ b) (h : (b + 1) ^ m ≤ 2000) : ∀ i, i ≤ m → (b + 1).toNat ^ i ≤ 2000 := fun i hi => by
  have e : (((b + 1).toNat : Nat) : Int) = b + 1 := by omega
  rw [← e] at h
  have h2 : (b + 1).toNat ^ m ≤ 2000 := by exact_mod_cast h
  exact Nat.le_trans (Nat.pow_le_pow_right (by omega) hi) h2
def agreeL (n : Net) (l : List (Int × Bool)) (b : Int) : List (List Int) := (allS (b + 1).toNat n.cs.length).filter fun st => (followM n st l).isSome
theorem ag_ok {n : Net} {l : List (Int × Bool)} {b : Int} (hn : n.Ok) (hl : ∀ a ∈ l, 0 ≤ a.1 ∧ a.1 < n.s) (h40 : l.length ≤ 40) (h0 : 0 ≤ b) (h9 : b ≤ 9) (hp : (b + 1) ^ n.cs.length ≤ 2000) : den_agreeing_stocks [encN n, .tuple (l.map encA), .int b] = .ok (.list ((agreeL n l b).map encS)) := by
  have h5 := hn.len
  have e1 := cs_ok hn (e_are_attempts hl h40) h0 h9
  rw [if_neg (by omega)] at e1
  have hr := pow_room h0 hp
  have e2 := e_all_stocks (m := n.cs.length) h0 h9 h5 (fun i hi => by have := hr i hi; omega)
  have e9 : ixD (encN n) (.int 1) = some (.tuple (n.cs.map encC)) := rfl
  have hsz : (allS (b + 1).toNat n.cs.length).length ≤ 1000000 := by
    rw [allS_len]
    have := hr n.cs.length (Nat.le_refl _)
    omega
  unfold den_agreeing_stocks
  generalize den_check_search = f1 at *
  generalize den_all_stocks = f2 at *
  repeat first | walk_at "ev" | simp only [e1, e2, e9]
  have key := compL_map (g := gN 3) (d := den_agreeing_stocks_t1) (da := den_agreeing_stocks_e1) (δ := [Sl.val (encN n), Sl.val (.tuple (l.map encA)), Sl.val (.int b), Sl.no]) encS (fun st => (followM n st l).isSome) encS (allS (b + 1).toNat n.cs.length) (by
    intro st hst
    refine ⟨_, rfl, ?_, fun _ => rfl⟩
    have e3 := e_follow (st := st) (l := l) hn
    unfold den_agreeing_stocks_t1
    unfold encS
    generalize den_follow = f3 at *
    repeat first | walk_at "ev" | simp only [e3, isN_opt])
  rw [key]
  walk_at "ev"
  rfl
/-! ### the law's own calls -/
theorem hid_exc {m : Int} {a b c : D} {x s : Str} (h1 : den_agreeing_stocks [a, b, c] = .exc x none) (h2 : den_amount_ranges [a, b, c] = .exc x none) (h3 : den_best_attempt [a, b, c] = .exc x none)
    (hk : x ∈ (["NetError", "InvalidNet", "InvalidAttempts", "InvalidBound", "TooLong"] : List Str)) (hh : handle [⟨"InvalidAttempts", "NetError", "InvalidBound", "attempts", "other"⟩, ⟨"InvalidBound", "NetError", "InvalidAttempts", "bound", "other"⟩, ⟨"TooLong", "NetError", "InvalidBound", "long", "other"⟩] x = some s) :
    den__law_hidden [.int m, a, b, c] = .ok (.str s) := by
  unfold den__law_hidden
  generalize den_agreeing_stocks = f1 at *
  generalize den_amount_ranges = f2 at *
  generalize den_best_attempt = f3 at *
  walk_at "ev"
  rw [try_exc (n := x) (s := s) (δ' := [Sl.val (.int m), Sl.val a, Sl.val b, Sl.val c, Sl.no]) ?_ hk (by simp) hh]
  · rfl
  · by_cases c0 : m = 0
    · repeat first | walk_at "ev" | simp only [c0, h1]
    · by_cases c1 : m = 1
      · repeat first | walk_at "ev" | simp only [c0, c1, h2]
      · repeat first | walk_at "ev" | simp only [c0, c1, h3]
theorem hid_ok0 {a b c r : D} (h1 : den_agreeing_stocks [a, b, c] = .ok r) : den__law_hidden [.int 0, a, b, c] = .ok r := by
  unfold den__law_hidden
  generalize den_agreeing_stocks = f1 at *
  walk_at "ev"
  rw [try_ret (d := r) (by repeat first | walk_at "ev" | simp only [h1])]
  rfl
end RN

end
section
namespace RN
open PySem L2 RD
local macro_rules | `(tactic| walk_at "ev") => `(tactic| simp -implicitDefEqProofs (disch := first | omega | (simp only [List.length_map, List.length_append, List.length_cons, List.length_nil, rng_len]; done) | (simp only [List.length_map, List.length_append, List.length_cons, List.length_nil, rng_len]; omega)) only [Int.toNat_natCast, Int.cast_ofNat_Int, eq_self, Int.reduceEq, Int.reduceLT, Int.reduceLE, Int.reduceSub, Int.reduceAdd, x_run, x_seq, seq_next, seq_ret, seq_exc, seq_brk, seq_cont, fin_next, fin_ret, fin_exc, bind_ok, bind_exc, ofO_some, out_ok, out_exc, oout_some, x_var, x_varB, var_val, varB_val, varB_own, x_op, x_c, x_test, test_b, x_cb, x_nil, x_cons, x_ret, x_drop, x_set, x_setN, x_next, x_app, app_own, x_ext, ext_own, x_setIx, setIx_own, x_par, par_2, x_aug, aug_val, x_frz, frz_own, frz_val, x_augM, augM_val, x_enum, enum_t, x_asg, x_tup, x_lst, x_ifS, x_if, x_and, x_or, x_not, x_andV, x_orV, and_b, or_b, x_notV, x_tru, tru_b, tru_i, tru_l, tru_t, tru_n, x_isN, isN_n, isN_i, isN_t, isN_l, isN_b, x_un, neg_i, x_chain, ch_b, x_noP, x_P, p_i, x_sl, sl_l, sl_t, x_isi, isiD, x_call, x_raise, x_items, items_l, items_t, x_rng1, x_rng2, rng1_i, rng2_i, x_zip, zip_l, zip_t, x_for, x_lc, x_yes, x_gN, gsN_nil, gsC_cons, gT_tup, obind_some, len_l, len_t, len_s, int_i, int_b, max_i, min_i, tuple_l, tuple_t, list_l, list_t, ltI, leI, gtI, geI, eqI, neI, addI, subI, mulI, mulI', divI, modI, powC, szT, rng_len, ixL, ixT, at0, at1, at2, at3, ixI, wipeD, List.map_cons, List.map_nil, List.replicate_succ, List.replicate_zero, List.append_nil, List.cons_append, List.nil_append, List.getElem?_cons_zero, List.getElem?_cons_succ, List.set_cons_zero, List.set_cons_succ, List.length_map, List.length_cons, List.length_nil, decide_eq_true_eq, decide_true, decide_false, if_true, if_false, Bool.false_eq_true, Bool.not_true, Bool.not_false, ite_true, ite_false, Nat.reduceAdd, Nat.reduceEqDiff, Int.reduceToNat, and_true, true_and, and_self, Nat.zero_add])

theorem ints_encI : ∀ l : List Int, intsD (encI l) = some l
  | [] => rfl
  | a :: l => by
    show (intsD (encI l)).map (a :: ·) = _
    rw [ints_encI l]
    rfl
theorem agg_i {f : List Int → Int} {l : List Int} (h : l ≠ []) : aggD f true [.list (encI l)] = some (.int (f l)) := by
  show (intsD (encI l)).bind (fun ns => if true = true ∧ ns = [] then none else some (PyData.int (f ns))) = _
  rw [ints_encI]
  simp [h]
def folL (n : Net) (l : List (Int × Bool)) (b : Int) : List (List Int) := (allS (b + 1).toNat n.cs.length).filterMap fun st => followM n st l
theorem followM_len {n : Net} : ∀ {l : List (Int × Bool)} {st r : List Int}, st.length = n.cs.length → followM n st l = some r → r.length = n.cs.length
  | [], st, r, h, q => by cases q; exact h
  | a :: l, st, r, h, q => by
    unfold followM at q
    rw [List.foldlM_cons] at q
    unfold stepF at q
    split at q
    · refine followM_len (l := l) (st := if a.2 then aftr n st a.1 else st) ?_ q
      split
      · exact aftr_len h
      · exact h
    · cases q
theorem folL_len {n : Net} {l : List (Int × Bool)} {b : Int} {x : List Int} (h : x ∈ folL n l b) : x.length = n.cs.length := by
  obtain ⟨st, h1, h2⟩ := List.mem_filterMap.mp h
  exact followM_len (allS_mem h1).1 h2
def col (fol : List (List Int)) (i : Nat) : List Int := fol.map fun a => a.getD i 0
def rngD (fol : List (List Int)) (i : Nat) : D := .tuple [.int (minL (col fol i)), .int (maxL (col fol i))]
def isNe (fol : List (List Int)) : Bool := !fol.isEmpty
theorem map_isE {α β : Type} (f : α → β) (l : List α) : (l.map f).isEmpty = l.isEmpty := by cases l <;> rfl
theorem ar_ok {n : Net} {l : List (Int × Bool)} {b : Int} (hn : n.Ok) (hl : ∀ a ∈ l, 0 ≤ a.1 ∧ a.1 < n.s) (h40 : l.length ≤ 40) (h0 : 0 ≤ b) (h9 : b ≤ 9) (hp : (b + 1) ^ n.cs.length ≤ 2000) :
    den_amount_ranges [encN n, .tuple (l.map encA), .int b] = if (folL n l b).isEmpty then .exc "InvalidAttempts" none else .ok (.list ((List.range n.cs.length).map (rngD (folL n l b)))) := by
  have h5 := hn.len
  have e1 := cs_ok hn (e_are_attempts hl h40) h0 h9
  rw [if_neg (by omega)] at e1
  have hr := pow_room h0 hp
  have e2 := e_all_stocks (m := n.cs.length) h0 h9 h5 (fun i hi => by have := hr i hi; omega)
  have e9 : ixD (encN n) (.int 1) = some (.tuple (n.cs.map encC)) := rfl
  have hsz : (allS (b + 1).toNat n.cs.length).length ≤ 2000 := by
    rw [allS_len]
    exact hr n.cs.length (Nat.le_refl _)
  have hlen := fun x (h : x ∈ folL n l b) => folL_len h
  have hfl : (folL n l b).length ≤ 2000 := Nat.le_trans (List.length_filterMap_le _ _) hsz
  have e3 : ∀ st : List Int, den_follow [encN n, .tuple (encI st), .tuple (l.map encA)] = .ok (optD (followM n st l)) := fun st => e_follow hn
  unfold den_amount_ranges
  generalize den_check_search = f1 at *
  generalize den_all_stocks = f2 at *
  repeat first | walk_at "ev" | simp only [e1, e2, e9]
  have step : ∀ (pre : List (List Int)) (x : List Int) (post : List (List Int)) (δ : DEnv), allS (b + 1).toNat n.cs.length = pre ++ x :: post → (∃ v4 v7, δ = [Sl.val (encN n), Sl.val (.tuple (l.map encA)), Sl.val (.int b), Sl.own (.list ((pre.filterMap fun st => followM n st l).map encS)), v4, Sl.no, Sl.no, v7, Sl.no]) →
      ∃ δ1, gN 4 (encS x) δ = some δ1 ∧ ∃ δ2, den_amount_ranges_b1 δ1 = .next δ2 ∧ (∃ v4 v7, δ2 = [Sl.val (encN n), Sl.val (.tuple (l.map encA)), Sl.val (.int b), Sl.own (.list (((pre ++ [x]).filterMap fun st => followM n st l).map encS)), v4, Sl.no, Sl.no, v7, Sl.no]) := by
    intro pre x post δ hp p
    obtain ⟨v4, v7, rfl⟩ := p
    refine ⟨_, rfl, ?_⟩
    have hpl : (pre.filterMap fun st => followM n st l).length ≤ 1000000 := by
      have h1 := List.length_filterMap_le (fun st => followM n st l) pre
      have h2 := congrArg List.length hp
      rw [List.length_append] at h2
      omega
    have e4 := e3 x
    unfold den_amount_ranges_b1
    generalize den_follow = f3 at *
    unfold encS
    rw [List.filterMap_append]
    cases q : followM n x l with
    | none =>
      rw [q] at e4
      repeat first | walk_at "ev" | simp only [e4, isN_opt, optD, Option.isSome, List.filterMap_cons, List.filterMap_nil, q]
      exact ⟨_, rfl, _, _, rfl⟩
    | some r =>
      rw [q] at e4
      have eo : optD (some r) = .tuple (encI r) := rfl
      repeat first | walk_at "ev" | simp only [e4, isN_opt, Option.isSome, List.filterMap_cons, List.filterMap_nil, q, eo, List.map_append]
      exact ⟨_, rfl, _, _, rfl⟩
  obtain ⟨δ', j1, v4, v7, rfl⟩ := forI (g := gN 4) (ds := den_amount_ranges_b1) encS _ (allS (b + 1).toNat n.cs.length) step (allS (b + 1).toNat n.cs.length) [] [Sl.val (encN n), Sl.val (.tuple (l.map encA)), Sl.val (.int b), Sl.own (.list []), Sl.no, Sl.no, Sl.no, Sl.no, Sl.no] rfl ⟨_, _, rfl⟩
  rw [j1]
  change _ = if (folL n l b).isEmpty = true then _ else _
  rw [show ((allS (b + 1).toNat n.cs.length).filterMap fun st => followM n st l) = folL n l b from rfl]
  generalize folL n l b = fol at *
  by_cases hf : fol = []
  · subst hf
    repeat first | walk_at "ev" | simp only [List.isEmpty_nil]
  · have hne : fol.isEmpty = false := by cases fol with | nil => exact absurd rfl hf | cons _ _ => rfl
    have hcol : ∀ i, col fol i ≠ [] := fun i => by
      unfold col
      cases fol with
      | nil => exact absurd rfl hf
      | cons _ _ => simp
    repeat first | walk_at "ev" | simp only [map_isE, hne, e9]
    have loop : ∀ (i : Nat) (δ : DEnv), i < n.cs.length → (∃ s3 v6 v7 v8, (s3 = Sl.own (.list (fol.map encS)) ∨ s3 = Sl.val (.list (fol.map encS))) ∧ δ = [Sl.val (encN n), Sl.val (.tuple (l.map encA)), Sl.val (.int b), s3, v4, Sl.own (.list ((List.range i).map (rngD fol))), v6, v7, v8]) →
        ∃ δ1, gN 6 (.int (i : Int)) δ = some δ1 ∧ ∃ δ2, den_amount_ranges_b2 δ1 = .next δ2 ∧ (∃ s3 v6 v7 v8, (s3 = Sl.own (.list (fol.map encS)) ∨ s3 = Sl.val (.list (fol.map encS))) ∧ δ2 = [Sl.val (encN n), Sl.val (.tuple (l.map encA)), Sl.val (.int b), s3, v4, Sl.own (.list ((List.range (i + 1)).map (rngD fol))), v6, v7, v8]) := by
      intro i δ hi p
      obtain ⟨s3, v6, v7, v8, hs3, rfl⟩ := p
      refine ⟨_, rfl, ?_⟩
      have ec : compL (gN 8) dYes den_amount_ranges_e1 [Sl.val (encN n), Sl.val (.tuple (l.map encA)), Sl.val (.int b), Sl.val (.list (fol.map encS)), v4, Sl.own (.list ((List.range i).map (rngD fol))), Sl.val (.int (i : Int)), v7, Sl.no] (fol.map encS) = .ok (encI (col fol i)) := by
        rw [compL_map encS (fun _ => true) (fun a => .int (a.getD i 0)) fol, filter_true]
        · unfold col
          simp only [encI, List.map_map]
          rfl
        · intro a ha
          refine ⟨_, rfl, rfl, fun _ => ?_⟩
          unfold den_amount_ranges_e1 encS
          have := ixN' (l := a) (i := i) (by rw [hlen a ha]; exact hi)
          repeat first | walk_at "ev" | simp only [this]
      have a1 := agg_i (f := minL) (hcol i)
      have a2 := agg_i (f := maxL) (hcol i)
      have hrl : (List.range i).length ≤ 1000000 := by simp; omega
      unfold den_amount_ranges_b2
      rcases hs3 with rfl | rfl
      · repeat first | walk_at "ev" | simp only [ec, a1, a2]
        rw [List.range_succ, List.map_append]
        exact ⟨_, rfl, _, _, _, _, .inr rfl, rfl⟩
      · repeat first | walk_at "ev" | simp only [ec, a1, a2]
        rw [List.range_succ, List.map_append]
        exact ⟨_, rfl, _, _, _, _, .inr rfl, rfl⟩
    obtain ⟨δ', j2, s3, v6, v7', v8, hs3, rfl⟩ := forR0 (g := gN 6) (ds := den_amount_ranges_b2) (δ := [Sl.val (encN n), Sl.val (.tuple (l.map encA)), Sl.val (.int b), Sl.own (.list (fol.map encS)), v4, Sl.own (.list []), Sl.no, v7, Sl.no]) _ n.cs.length ⟨_, _, _, _, .inl rfl, rfl⟩ loop
    rw [j2]
    walk_at "ev"
/-! ### the best attempt -/
def worstI (n : Net) (fol : List (List Int)) (s : Int) : Int :=
  if (fol.length : Int) - ((fol.filter fun a => isReady n a s).length : Nat) > ((fol.filter fun a => isReady n a s).length : Nat) then (fol.length : Int) - ((fol.filter fun a => isReady n a s).length : Nat) else ((fol.filter fun a => isReady n a s).length : Nat)
def bestW (len w s : Int) : Option (Int × Int) → Option (Int × Int)
  | none => if w < len then some (w, s) else none
  | some p => if w < len then (if w < p.1 then some (w, s) else some p) else some p
def bestS (n : Net) (fol : List (List Int)) (best : Option (Int × Int)) (s : Nat) : Option (Int × Int) := bestW fol.length (worstI n fol s) s best
def bestO (n : Net) (fol : List (List Int)) (k : Nat) : Option (Int × Int) := (List.range k).foldl (bestS n fol) none
def encB : Option (Int × Int) → D
  | none => .none
  | some p => .tuple [.int p.1, .int p.2]
theorem bestO_succ {n : Net} {fol : List (List Int)} {k : Nat} : bestO n fol (k + 1) = bestS n fol (bestO n fol k) k := by
  unfold bestO
  rw [List.range_succ, List.foldl_append]
  rfl
def bestD : Option (Int × Int) → D
  | none => .none
  | some p => .int p.2
theorem fol_map (f : List Int → Option (List Int)) : ∀ L : List (List Int), (L.filter fun st => (f st).isSome).map (fun st => optD (f st)) = (L.filterMap f).map encS
  | [] => rfl
  | a :: L => by
    have ih := fol_map f L
    cases q : f a with
    | none => rw [List.filter_cons_of_neg (by simp [q]), List.filterMap_cons_none q]; exact ih
    | some r => rw [List.filter_cons_of_pos (by simp [q]), List.filterMap_cons_some q, List.map_cons, List.map_cons, ih, q]; rfl
theorem ba_ok {n : Net} {l : List (Int × Bool)} {b : Int} (hn : n.Ok) (hl : ∀ a ∈ l, 0 ≤ a.1 ∧ a.1 < n.s) (h40 : l.length ≤ 40) (h0 : 0 ≤ b) (h9 : b ≤ 9) (hp : (b + 1) ^ n.cs.length ≤ 2000) :
    den_best_attempt [encN n, .tuple (l.map encA), .int b] = if (folL n l b).isEmpty then .exc "InvalidAttempts" none else .ok (bestD (bestO n (folL n l b) n.s.toNat)) := by
  have h5 := hn.len
  have := hn.s0; have := hn.s1
  have e1 := cs_ok hn (e_are_attempts hl h40) h0 h9
  rw [if_neg (by omega)] at e1
  have hr := pow_room h0 hp
  have e2 := e_all_stocks (m := n.cs.length) h0 h9 h5 (fun i hi => by have := hr i hi; omega)
  have e9 : ixD (encN n) (.int 1) = some (.tuple (n.cs.map encC)) := rfl
  have e8 : ixD (encN n) (.int 0) = some (.int n.s) := rfl
  have hsz : (allS (b + 1).toNat n.cs.length).length ≤ 2000 := by
    rw [allS_len]
    exact hr n.cs.length (Nat.le_refl _)
  have hfl : (folL n l b).length ≤ 2000 := Nat.le_trans (List.length_filterMap_le _ _) hsz
  have e3 : ∀ st : List Int, den_follow [encN n, .tuple (encI st), .tuple (l.map encA)] = .ok (optD (followM n st l)) := fun st => e_follow hn
  have e4 : ∀ (st : List Int) (s : Int), den_is_ready [encN n, .tuple (encI st), .int s] = .ok (.bool (isReady n st s)) := fun st s => e_is_ready (by omega)
  have ec1 : compL (gN 8) dYes den_best_attempt_e1 [Sl.val (encN n), Sl.val (.tuple (l.map encA)), Sl.val (.int b), Sl.no, Sl.no, Sl.no, Sl.no, Sl.no, Sl.no, Sl.no] ((allS (b + 1).toNat n.cs.length).map encS) = .ok ((allS (b + 1).toNat n.cs.length).map fun st => optD (followM n st l)) := by
    rw [compL_map encS (fun _ => true) (fun st => optD (followM n st l)), filter_true]
    intro st _
    refine ⟨_, rfl, rfl, fun _ => ?_⟩
    unfold den_best_attempt_e1 encS
    have e3' := e3 st
    generalize den_follow = f3 at *
    repeat first | walk_at "ev" | simp only [e3']
  have ec2 : ∀ v3 : Sl, compL (gN 9) den_best_attempt_t1 den_best_attempt_e2 [Sl.val (encN n), Sl.val (.tuple (l.map encA)), Sl.val (.int b), v3, Sl.no, Sl.no, Sl.no, Sl.no, Sl.no, Sl.no] ((allS (b + 1).toNat n.cs.length).map fun st => optD (followM n st l)) = .ok ((folL n l b).map encS) := by
    intro v3
    rw [compL_map (fun st => optD (followM n st l)) (fun st => (followM n st l).isSome) (fun st => optD (followM n st l))]
    · rw [fol_map]
      rfl
    · intro st _
      refine ⟨_, rfl, ?_, fun _ => rfl⟩
      unfold den_best_attempt_t1
      repeat first | walk_at "ev" | simp only [isN_opt]
  unfold den_best_attempt
  generalize den_check_search = f1 at *
  generalize den_all_stocks = f2 at *
  repeat first | walk_at "ev" | simp only [e1, e2, e9, ec1, ec2]
  generalize folL n l b = fol at *
  by_cases hf : fol = []
  · subst hf
    repeat first | walk_at "ev" | simp only [List.isEmpty_nil]
  · have hne : fol.isEmpty = false := by cases fol with | nil => exact absurd rfl hf | cons _ _ => rfl
    repeat first | walk_at "ev" | simp only [map_isE, hne, e8]
    have loop : ∀ (i : Nat) (δ : DEnv), i < n.s.toNat → (∃ v5 v6 v7, δ = [Sl.val (encN n), Sl.val (.tuple (l.map encA)), Sl.val (.int b), Sl.val (.list (fol.map encS)), Sl.val (encB (bestO n fol i)), v5, v6, v7, Sl.no, Sl.no]) →
        ∃ δ1, gN 5 (.int (i : Int)) δ = some δ1 ∧ ∃ δ2, den_best_attempt_b1 δ1 = .next δ2 ∧ (∃ v5 v6 v7, δ2 = [Sl.val (encN n), Sl.val (.tuple (l.map encA)), Sl.val (.int b), Sl.val (.list (fol.map encS)), Sl.val (encB (bestO n fol (i + 1))), v5, v6, v7, Sl.no, Sl.no]) := by
      intro i δ hi p
      obtain ⟨v5, v6, v7, rfl⟩ := p
      refine ⟨_, rfl, ?_⟩
      have ec : compL (gN 9) den_best_attempt_t2 den_best_attempt_e3 [Sl.val (encN n), Sl.val (.tuple (l.map encA)), Sl.val (.int b), Sl.val (.list (fol.map encS)), Sl.val (encB (bestO n fol i)), Sl.val (.int (i : Int)), v6, v7, Sl.no, Sl.no] (fol.map encS) = .ok ((fol.filter fun a => isReady n a (i : Int)).map encS) := by
        apply compL_map encS (fun a => isReady n a (i : Int)) encS
        intro a _
        refine ⟨_, rfl, ?_, fun _ => rfl⟩
        have e4' := e4 a (i : Int)
        unfold den_best_attempt_t2 encS
        generalize den_is_ready = f4 at *
        repeat first | walk_at "ev" | simp only [e4']
      rw [bestO_succ]
      unfold den_best_attempt_b1 bestS
      repeat first | walk_at "ev" | simp only [ec]
      have hw : (if (fol.length : Int) - ((fol.filter fun a => isReady n a (i : Int)).length : Nat) > ((fol.filter fun a => isReady n a (i : Int)).length : Nat) then (fol.length : Int) - ((fol.filter fun a => isReady n a (i : Int)).length : Nat) else ((fol.filter fun a => isReady n a (i : Int)).length : Nat)) = worstI n fol i := rfl
      simp only [hw]
      generalize worstI n fol i = w
      have hi0 : isNO false .none = .ok (.bool true) := rfl
      by_cases c1 : w < (fol.length : Int)
      · cases hq : bestO n fol i with
        | none =>
          unfold encB bestW
          repeat first | walk_at "ev" | simp only [c1]
          exact ⟨_, rfl, _, _, _, rfl⟩
        | some p =>
          unfold encB bestW
          by_cases c2 : w < p.1
          · repeat first | walk_at "ev" | simp only [c1, c2]
            exact ⟨_, rfl, _, _, _, rfl⟩
          · repeat first | walk_at "ev" | simp only [c1, c2]
            exact ⟨_, rfl, _, _, _, rfl⟩
      · have hb : bestW fol.length w i (bestO n fol i) = bestO n fol i := by
          cases bestO n fol i <;> simp [bestW, c1]
        rw [hb]
        repeat first | walk_at "ev" | simp only [c1]
        exact ⟨_, rfl, _, _, _, rfl⟩
    obtain ⟨δ', j2, v5, v6, v7, rfl⟩ := forR0 (g := gN 5) (ds := den_best_attempt_b1) (δ := [Sl.val (encN n), Sl.val (.tuple (l.map encA)), Sl.val (.int b), Sl.val (.list (fol.map encS)), Sl.val .none, Sl.no, Sl.no, Sl.no, Sl.no, Sl.no]) _ n.s.toNat ⟨_, _, _, rfl⟩ loop
    rw [j2]
    cases hq : bestO n fol n.s.toNat with
    | none =>
      unfold encB bestD
      walk_at "ev"
    | some p =>
      unfold encB bestD
      walk_at "ev"
end RN

end
section
namespace RN
open PySem L2 RD
local macro_rules | `(tactic| walk_at "ev") => `(tactic| simp -implicitDefEqProofs (disch := first | omega | (simp only [List.length_map, List.length_append, List.length_cons, List.length_nil, rng_len]; done) | (simp only [List.length_map, List.length_append, List.length_cons, List.length_nil, rng_len]; omega)) only [Int.toNat_natCast, Int.cast_ofNat_Int, eq_self, Int.reduceEq, Int.reduceLT, Int.reduceLE, Int.reduceSub, Int.reduceAdd, x_run, x_seq, seq_next, seq_ret, seq_exc, seq_brk, seq_cont, fin_next, fin_ret, fin_exc, bind_ok, bind_exc, ofO_some, out_ok, out_exc, oout_some, x_var, x_varB, var_val, varB_val, varB_own, x_op, x_c, x_test, test_b, x_cb, x_nil, x_cons, x_ret, x_drop, x_set, x_setN, x_next, x_app, app_own, x_ext, ext_own, x_setIx, setIx_own, x_par, par_2, x_aug, aug_val, x_frz, frz_own, frz_val, x_augM, augM_val, x_enum, enum_t, x_asg, x_tup, x_lst, x_ifS, x_if, x_and, x_or, x_not, x_andV, x_orV, and_b, or_b, x_notV, x_tru, tru_b, tru_i, tru_l, tru_t, tru_n, x_isN, isN_n, isN_i, isN_t, isN_l, isN_b, x_un, neg_i, x_chain, ch_b, x_noP, x_P, p_i, x_sl, sl_l, sl_t, x_isi, isiD, x_call, x_raise, x_items, items_l, items_t, x_rng1, x_rng2, rng1_i, rng2_i, x_zip, zip_l, zip_t, x_for, x_lc, x_yes, x_gN, gsN_nil, gsC_cons, gT_tup, obind_some, len_l, len_t, len_s, int_i, int_b, max_i, min_i, tuple_l, tuple_t, list_l, list_t, ltI, leI, gtI, geI, eqI, neI, addI, subI, mulI, mulI', divI, modI, powC, szT, rng_len, ixL, ixT, at0, at1, at2, at3, ixI, wipeD, List.map_cons, List.map_nil, List.replicate_succ, List.replicate_zero, List.append_nil, List.cons_append, List.nil_append, List.getElem?_cons_zero, List.getElem?_cons_succ, List.set_cons_zero, List.set_cons_succ, List.length_map, List.length_cons, List.length_nil, decide_eq_true_eq, decide_true, decide_false, if_true, if_false, Bool.false_eq_true, Bool.not_true, Bool.not_false, ite_true, ite_false, Nat.reduceAdd, Nat.reduceEqDiff, Int.reduceToNat, and_true, true_and, and_self, Nat.zero_add])

theorem ok_attempts16 : PyData.strOk "attempts" = true := by decide +kernel
theorem hid_ok1 {a b c r : D} (h1 : den_amount_ranges [a, b, c] = .ok r) : den__law_hidden [.int 1, a, b, c] = .ok r := by
  unfold den__law_hidden
  generalize den_amount_ranges = f1 at *
  walk_at "ev"
  rw [try_ret (d := r) (by repeat first | walk_at "ev" | simp only [h1])]
  rfl
theorem hid_ok2 {a b c r : D} (h1 : den_best_attempt [a, b, c] = .ok r) : den__law_hidden [.int 2, a, b, c] = .ok r := by
  unfold den__law_hidden
  generalize den_best_attempt = f1 at *
  walk_at "ev"
  rw [try_ret (d := r) (by repeat first | walk_at "ev" | simp only [h1])]
  rfl
theorem hid_e1 {a b c : D} (h1 : den_amount_ranges [a, b, c] = .exc "InvalidAttempts" none) : den__law_hidden [.int 1, a, b, c] = .ok (.str "attempts") := by
  unfold den__law_hidden
  generalize den_amount_ranges = f1 at *
  walk_at "ev"
  rw [try_exc (n := "InvalidAttempts") (s := "attempts") (δ' := [Sl.val (.int 1), Sl.val a, Sl.val b, Sl.val c, Sl.no]) (by repeat first | walk_at "ev" | simp only [h1]) (by simp) (by simp) rfl]
  rfl
theorem hid_e2 {a b c : D} (h1 : den_best_attempt [a, b, c] = .exc "InvalidAttempts" none) : den__law_hidden [.int 2, a, b, c] = .ok (.str "attempts") := by
  unfold den__law_hidden
  generalize den_best_attempt = f1 at *
  walk_at "ev"
  rw [try_exc (n := "InvalidAttempts") (s := "attempts") (δ' := [Sl.val (.int 2), Sl.val a, Sl.val b, Sl.val c, Sl.no]) (by repeat first | walk_at "ev" | simp only [h1]) (by simp) (by simp) rfl]
  rfl
theorem sh_bestD {o : Option (Int × Int)} : ShN 0 (bestD o) := by
  cases o
  · exact sh_none
  · exact sh_int
theorem law_true_k16 (ns : List Int) : den_law_k16 [scrD ns] = .ok (.bool true) := by
  obtain ⟨n, hn, q1, q2, en⟩ := e_net ns 2 4 3 (by decide) (by decide) (by decide) (by decide) (by decide)
  have := hn.s0; have := hn.s1; have hn5 := hn.len
  have e8 : ixD (encN n) (.int 0) = some (.int n.s) := rfl
  have e9 : ixD (encN n) (.int 1) = some (.tuple (n.cs.map encC)) := rfl
  have bp : ((4 : Int) + 1) ^ n.cs.length ≤ 2000 := by
    have h : n.cs.length = 0 ∨ n.cs.length = 1 ∨ n.cs.length = 2 ∨ n.cs.length = 3 := by omega
    rcases h with h | h | h | h <;> rw [h] <;> decide
  obtain ⟨st, s1, s2, es⟩ := e_stock ns 3 n 4 (by decide) hn (by decide)
  obtain ⟨l, l1, l2, ea⟩ := e_law_attempts ns 4 (n := n) (st := st) (by decide) hn s1
  have hr := pow_room (b := 4) (by decide) bp
  have ev := e_every_stock (n := n) (b := 4) (by decide) (by decide) hn5 (fun i hi => by have := hr i hi; omega)
  have hsz : (allS ((4 : Int) + 1).toNat n.cs.length).length ≤ 2000 := by
    rw [allS_len]
    exact hr n.cs.length (Nat.le_refl _)
  have har := ar_ok (b := 4) hn l2 (by omega) (by decide) (by decide) bp
  have hba := ba_ok (b := 4) hn l2 (by omega) (by decide) (by decide) bp
  have hfl : (folL n l 4).length ≤ 2000 := Nat.le_trans (List.length_filterMap_le _ _) hsz
  have hlen := fun x (h : x ∈ folL n l 4) => folL_len h
  have ec1 : compL (gN 14) dYes den_law_k16_e1 [Sl.val (scrD ns), Sl.val (encN n), Sl.val (.int 4), Sl.val (.tuple (l.map encA)), Sl.no, Sl.no, Sl.no, Sl.no, Sl.no, Sl.no, Sl.no, Sl.no, Sl.no, Sl.no, Sl.no, Sl.no] ((allS ((4 : Int) + 1).toNat n.cs.length).map encS) = .ok ((allS ((4 : Int) + 1).toNat n.cs.length).map fun st => optD (followM n st l)) := by
    rw [compL_map encS (fun _ => true) (fun st => optD (followM n st l)), filter_true]
    intro st hst
    refine ⟨_, rfl, rfl, fun _ => ?_⟩
    have e3 := e_law_follow (st := st) (l := l) hn (allS_mem hst).1 l2
    unfold den_law_k16_e1 encS
    generalize den__law_follow = f3 at *
    repeat first | walk_at "ev" | simp only [e3]
  have ec2 : ∀ v4 : Sl, compL (gN 15) den_law_k16_t1 den_law_k16_e2 [Sl.val (scrD ns), Sl.val (encN n), Sl.val (.int 4), Sl.val (.tuple (l.map encA)), v4, Sl.no, Sl.no, Sl.no, Sl.no, Sl.no, Sl.no, Sl.no, Sl.no, Sl.no, Sl.no, Sl.no] ((allS ((4 : Int) + 1).toNat n.cs.length).map fun st => optD (followM n st l)) = .ok ((folL n l 4).map encS) := by
    intro v4
    rw [compL_map (fun st => optD (followM n st l)) (fun st => (followM n st l).isSome) (fun st => optD (followM n st l))]
    · rw [fol_map]
      rfl
    · intro st _
      refine ⟨_, rfl, ?_, fun _ => rfl⟩
      unfold den_law_k16_t1
      repeat first | walk_at "ev" | simp only [isN_opt]
  unfold den_law_k16
  generalize den__law_net = f2 at *
  generalize den__law_stock = f3 at *
  generalize den__law_attempts = f4 at *
  generalize den__law_every_stock = f5 at *
  have hsz' : (allS ((4 : Int) + 1).toNat n.cs.length).length ≤ 1000000 := by omega
  generalize hA : allS ((4 : Int) + 1).toNat n.cs.length = A at *
  by_cases hf : folL n l 4 = []
  · rw [hf] at har hba ec2
    have h1 := hid_e1 har
    have h2 := hid_e2 hba
    generalize den__law_hidden = f6 at *
    have e0 := eq_same (sh_list sh_nil) (show 0 + 1 ≤ 64 by omega)
    repeat first | walk_at "ev" | simp only [en, es, ea, ev, ec1, ec2, h1, h2, e0, eq_same (sh_str ok_attempts16) (show 0 ≤ 64 by omega)]
  · have hne : (folL n l 4).isEmpty = false := by
      cases h : folL n l 4 with
      | nil => exact absurd h hf
      | cons _ _ => rfl
    rw [hne] at har hba
    have h1 := hid_ok1 har
    have h2 := hid_ok2 hba
    generalize den__law_hidden = f6 at *
    generalize folL n l 4 = fol at *
    have e0 : eqD false (.list (fol.map encS)) (.list []) = some (.bool false) := by
      have sh : ShN 2 (.list (fol.map encS)) := sh_list (sh_map fun _ => sh_tuple sh_encI)
      rw [eqD_sh sh (sh_list sh_nil) (show 2 ≤ 64 by omega) (show 0 + 1 ≤ 64 by omega), eqv_list]
      cases fol with
      | nil => exact absurd rfl hf
      | cons _ _ => simp [PyData.eqvAll]
    repeat first | walk_at "ev" | simp only [en, es, ea, ev, ec1, ec2, h1, h2, e0, e9]
    have hcol : ∀ i, col fol i ≠ [] := fun i => by
      unfold col
      cases fol with
      | nil => exact absurd rfl hf
      | cons _ _ => simp
    have loop : ∀ (i : Nat) (δ : DEnv), i < n.cs.length → (∃ v8 v11, δ = [Sl.val (scrD ns), Sl.val (encN n), Sl.val (.int 4), Sl.val (.tuple (l.map encA)), Sl.val (.list (fol.map encS)), Sl.val (.list ((List.range n.cs.length).map (rngD fol))), Sl.val (bestD (bestO n fol n.s.toNat)), Sl.own (.list ((List.range i).map (rngD fol))), v8, Sl.no, Sl.no, v11, Sl.no, Sl.no, Sl.no, Sl.no]) →
        ∃ δ1, gN 8 (.int (i : Int)) δ = some δ1 ∧ ∃ δ2, den_law_k16_b1 δ1 = .next δ2 ∧ (∃ v8 v11, δ2 = [Sl.val (scrD ns), Sl.val (encN n), Sl.val (.int 4), Sl.val (.tuple (l.map encA)), Sl.val (.list (fol.map encS)), Sl.val (.list ((List.range n.cs.length).map (rngD fol))), Sl.val (bestD (bestO n fol n.s.toNat)), Sl.own (.list ((List.range (i + 1)).map (rngD fol))), v8, Sl.no, Sl.no, v11, Sl.no, Sl.no, Sl.no, Sl.no]) := by
      intro i δ hi p
      obtain ⟨v8, v11, rfl⟩ := p
      refine ⟨_, rfl, ?_⟩
      have ec : compL (gN 15) dYes den_law_k16_e3 [Sl.val (scrD ns), Sl.val (encN n), Sl.val (.int 4), Sl.val (.tuple (l.map encA)), Sl.val (.list (fol.map encS)), Sl.val (.list ((List.range n.cs.length).map (rngD fol))), Sl.val (bestD (bestO n fol n.s.toNat)), Sl.own (.list ((List.range i).map (rngD fol))), Sl.val (.int (i : Int)), Sl.no, Sl.no, v11, Sl.no, Sl.no, Sl.no, Sl.no] (fol.map encS) = .ok (encI (col fol i)) := by
        rw [compL_map encS (fun _ => true) (fun a => .int (a.getD i 0)) fol, filter_true]
        · unfold col
          simp only [encI, List.map_map]
          rfl
        · intro a ha
          refine ⟨_, rfl, rfl, fun _ => ?_⟩
          unfold den_law_k16_e3 encS
          have := ixN' (l := a) (i := i) (by rw [hlen a ha]; exact hi)
          repeat first | walk_at "ev" | simp only [this]
      have a1 := agg_i (f := minL) (hcol i)
      have a2 := agg_i (f := maxL) (hcol i)
      have hrl : (List.range i).length ≤ 1000000 := by simp; omega
      unfold den_law_k16_b1
      repeat first | walk_at "ev" | simp only [ec, a1, a2]
      rw [List.range_succ, List.map_append]
      exact ⟨_, rfl, _, _, rfl⟩
    obtain ⟨δ', j2, v8, v11, rfl⟩ := forR0 (g := gN 8) (ds := den_law_k16_b1) (δ := [Sl.val (scrD ns), Sl.val (encN n), Sl.val (.int 4), Sl.val (.tuple (l.map encA)), Sl.val (.list (fol.map encS)), Sl.val (.list ((List.range n.cs.length).map (rngD fol))), Sl.val (bestD (bestO n fol n.s.toNat)), Sl.own (.list []), Sl.no, Sl.no, Sl.no, Sl.no, Sl.no, Sl.no, Sl.no, Sl.no]) _ n.cs.length ⟨_, _, rfl⟩ loop
    rw [j2]
    repeat first | walk_at "ev" | simp only [e8]
    have loop2 : ∀ (i : Nat) (δ : DEnv), i < n.s.toNat → (∃ v10 v12 v13, δ = [Sl.val (scrD ns), Sl.val (encN n), Sl.val (.int 4), Sl.val (.tuple (l.map encA)), Sl.val (.list (fol.map encS)), Sl.val (.list ((List.range n.cs.length).map (rngD fol))), Sl.val (bestD (bestO n fol n.s.toNat)), Sl.own (.list ((List.range n.cs.length).map (rngD fol))), v8, Sl.val (encB (bestO n fol i)), v10, v11, v12, v13, Sl.no, Sl.no]) →
        ∃ δ1, gN 10 (.int (i : Int)) δ = some δ1 ∧ ∃ δ2, den_law_k16_b2 δ1 = .next δ2 ∧ (∃ v10 v12 v13, δ2 = [Sl.val (scrD ns), Sl.val (encN n), Sl.val (.int 4), Sl.val (.tuple (l.map encA)), Sl.val (.list (fol.map encS)), Sl.val (.list ((List.range n.cs.length).map (rngD fol))), Sl.val (bestD (bestO n fol n.s.toNat)), Sl.own (.list ((List.range n.cs.length).map (rngD fol))), v8, Sl.val (encB (bestO n fol (i + 1))), v10, v11, v12, v13, Sl.no, Sl.no]) := by
      intro i δ hi p
      obtain ⟨v10, v12, v13, rfl⟩ := p
      refine ⟨_, rfl, ?_⟩
      have ec : compL (gN 15) den_law_k16_t2 den_law_k16_e4 [Sl.val (scrD ns), Sl.val (encN n), Sl.val (.int 4), Sl.val (.tuple (l.map encA)), Sl.val (.list (fol.map encS)), Sl.val (.list ((List.range n.cs.length).map (rngD fol))), Sl.val (bestD (bestO n fol n.s.toNat)), Sl.own (.list ((List.range n.cs.length).map (rngD fol))), v8, Sl.val (encB (bestO n fol i)), Sl.val (.int (i : Int)), v11, v12, v13, Sl.no, Sl.no] (fol.map encS) = .ok ((fol.filter fun a => isReady n a (i : Int)).map encS) := by
        apply compL_map encS (fun a => isReady n a (i : Int)) encS
        intro a ha
        refine ⟨_, rfl, ?_, fun _ => rfl⟩
        have e4' := e_law_ready (n := n) (st := a) (s := (i : Int)) hn5 (hlen a ha)
        unfold den_law_k16_t2 encS
        generalize den__law_ready = f4 at *
        repeat first | walk_at "ev" | simp only [e4']
      rw [bestO_succ]
      unfold den_law_k16_b2 bestS
      repeat first | walk_at "ev" | simp only [ec]
      have hw : (if (fol.length : Int) - ((fol.filter fun a => isReady n a (i : Int)).length : Nat) > ((fol.filter fun a => isReady n a (i : Int)).length : Nat) then (fol.length : Int) - ((fol.filter fun a => isReady n a (i : Int)).length : Nat) else ((fol.filter fun a => isReady n a (i : Int)).length : Nat)) = worstI n fol i := rfl
      simp only [hw]
      generalize worstI n fol i = w
      by_cases c1 : w < (fol.length : Int)
      · cases hq : bestO n fol i with
        | none =>
          unfold encB bestW
          repeat first | walk_at "ev" | simp only [c1]
          exact ⟨_, rfl, _, _, _, rfl⟩
        | some p =>
          unfold encB bestW
          by_cases c2 : w < p.1
          · repeat first | walk_at "ev" | simp only [c1, c2]
            exact ⟨_, rfl, _, _, _, rfl⟩
          · repeat first | walk_at "ev" | simp only [c1, c2]
            exact ⟨_, rfl, _, _, _, rfl⟩
      · have hb : bestW fol.length w i (bestO n fol i) = bestO n fol i := by
          cases bestO n fol i <;> simp [bestW, c1]
        rw [hb]
        repeat first | walk_at "ev" | simp only [c1]
        exact ⟨_, rfl, _, _, _, rfl⟩
    obtain ⟨δ', j3, v10, v12, v13, rfl⟩ := forR0 (g := gN 10) (ds := den_law_k16_b2) (δ := [Sl.val (scrD ns), Sl.val (encN n), Sl.val (.int 4), Sl.val (.tuple (l.map encA)), Sl.val (.list (fol.map encS)), Sl.val (.list ((List.range n.cs.length).map (rngD fol))), Sl.val (bestD (bestO n fol n.s.toNat)), Sl.own (.list ((List.range n.cs.length).map (rngD fol))), v8, Sl.val (encB (bestO n fol 0)), Sl.no, v11, Sl.no, Sl.no, Sl.no, Sl.no]) _ n.s.toNat ⟨_, _, _, rfl⟩ loop2
    have j3' := j3
    simp only [show encB (bestO n fol 0) = PyData.none from rfl] at j3'
    rw [j3']
    have sr : ShN 2 (.list ((List.range n.cs.length).map (rngD fol))) := sh_list (sh_map fun _ => sh_tuple (sh_cons sh_int (sh_cons sh_int sh_nil)))
    have er := eq_same sr (show 2 ≤ 64 by omega)
    cases hq : bestO n fol n.s.toNat with
    | none =>
      have eb := eq_same sh_none (show 0 ≤ 64 by omega)
      unfold encB bestD
      repeat first | walk_at "ev" | simp only [er, eb]
    | some p =>
      unfold encB bestD
      repeat first | walk_at "ev" | simp only [er]
end RN

end
section
namespace K16
open PySem L2 RD
structure Tx (K : PySem.W.Frag) (mg : Str → Option Value) : Prop where
  f_bool : mg "bool" = none
  f_int : mg "int" = none
  f_isinstance : mg "isinstance" = none
  f_len : mg "len" = none
  f_max : mg "max" = none
  f_min : mg "min" = none
  f_range : mg "range" = none
  f_tuple : mg "tuple" = none
  f_zip : mg "zip" = none
  i_MAX_ATTEMPTS : IntG mg "MAX_ATTEMPTS" 40
  i_MAX_BOUND : IntG mg "MAX_BOUND" 9
  i_MAX_CHANNELS : IntG mg "MAX_CHANNELS" 5
  i_MAX_RATE : IntG mg "MAX_RATE" 4
  i_MAX_STEPS : IntG mg "MAX_STEPS" 4
  i_MAX_STOCKS : IntG mg "MAX_STOCKS" 2000
  e_InvalidAttempts : ExcT K mg "InvalidAttempts"
  e_InvalidBound : ExcT K mg "InvalidBound"
  e_InvalidNet : ExcT K mg "InvalidNet"
  e_TooLong : ExcT K mg "TooLong"

  exk : ExK K mg excs
variable {P : Program} {w : World} {K : PySem.W.Frag} {mg : Str → Option Value} {base : Heap}
abbrev N_in_range : List Str := ["value", "low", "high"]
theorem sc_in_range : FnScope N_in_range ["value", "low", "high"] (defScope s_in_range) := ⟨rfl, rfl, rfl, by decide +kernel, rfl, by decide +kernel, by decide +kernel⟩
theorem ok_in_range {f : Addr} {fd : FuncData} (T : Tx K mg) (F : Fun K "in_range" "in_range" s_in_range f fd) :
    FnOk P w K mg base (L2.CX P w) 1 f fd ["value", "low", "high"] (spK P w K mg 3 RN.den_in_range) := by
  letI : HasK := ⟨K, mg, P, w⟩
  refine fn_den F sc_in_range rfl fun cdv A outer s H E F0 hr => ?_
  have hu := hr.units
  exact ⟨_, (jss_one (js_ret (je_and (je_isi .int rfl T.f_isinstance rfl T.f_int (by decide +kernel) (by decide) (by decide) (je_var 0)) (je_and (je_not (JE.toB (je_isi .bool rfl T.f_isinstance rfl T.f_bool (by decide +kernel) (by decide) (by decide) (je_var 0)))) (je_one (je_lele (jb_var 1) (jb_var 0) (jb_var 2)))))))⟩
abbrev N_is_channel : List Str := ["steps", "value"]
theorem sc_is_channel : FnScope N_is_channel ["steps", "value"] (defScope s_is_channel) := ⟨rfl, rfl, rfl, by decide +kernel, rfl, by decide +kernel, by decide +kernel⟩
theorem ok_is_channel {f : Addr} {fd : FuncData} (T : Tx K mg) (F : Fun K "is_channel" "is_channel" s_is_channel f fd) (G_in_range : Cal P w K mg base 1 "in_range" 3 RN.den_in_range) :
    FnOk P w K mg base (L2.CX P w) 2 f fd ["steps", "value"] (spK P w K mg 2 RN.den_is_channel) := by
  letI : HasK := ⟨K, mg, P, w⟩
  refine fn_den F sc_is_channel rfl fun cdv A outer s H E F0 hr => ?_
  have hu := hr.units
  have tk := takes_of (X := cxOf (L2.CX P w) P w K mg base N_is_channel "is_channel" (defScope s_is_channel) f cdv A outer s H E) (E := E) rfl rfl rfl rfl
  exact ⟨_, (jss_cons (js_if (JW.t (jw_or (jt_not (jt_tru (JE.toB (je_isi .tuple rfl T.f_isinstance rfl T.f_tuple (by decide +kernel) (by decide) (by decide) (je_var 1))))) (jw_or1 (jt_ne hu (JE.toB (je_len rfl T.f_len (jab_cons (jb_var 1) jab_nil))) (JE.toB je_int))))) (jss_one (js_ret je_bl)) jss_nil)
      (jss_cons (js_if (JW.t (jw_or (jt_not (jt_tru (JE.toB (je_call _ rfl G_in_range hr (by decide) tk rfl (ja_cons (je_ix hu (jb_var 1) (JE.toB je_int)) (ja_cons je_int (ja_cons (je_sub (jb_var 0) (JE.toB je_int)) ja_nil))))))) (jw_or (jt_not (jt_tru (JE.toB (je_call _ rfl G_in_range hr (by decide) tk rfl (ja_cons (je_ix hu (jb_var 1) (JE.toB je_int)) (ja_cons je_int (ja_cons (je_sub (jb_var 0) (JE.toB je_int)) ja_nil))))))) (jw_or1 (jt_eq hu (JE.toB (je_ix hu (jb_var 1) (JE.toB je_int))) (JE.toB (je_ix hu (jb_var 1) (JE.toB je_int)))))))) (jss_one (js_ret je_bl)) jss_nil)
      (jss_one (js_ret (je_and (je_call _ rfl G_in_range hr (by decide) tk rfl (ja_cons (je_ix hu (jb_var 1) (JE.toB je_int)) (ja_cons je_int (ja_cons (je_gint T.i_MAX_RATE rfl) ja_nil)))) (je_one (je_call _ rfl G_in_range hr (by decide) tk rfl (ja_cons (je_ix hu (jb_var 1) (JE.toB je_int)) (ja_cons je_int (ja_cons (je_gint T.i_MAX_RATE rfl) ja_nil))))))))))⟩
abbrev N_is_net : List Str := ["value", "channel"]
theorem sc_is_net : FnScope N_is_net ["value"] (defScope s_is_net) := ⟨rfl, rfl, rfl, by decide +kernel, rfl, by decide +kernel, by decide +kernel⟩
theorem ok_is_net {f : Addr} {fd : FuncData} (T : Tx K mg) (F : Fun K "is_net" "is_net" s_is_net f fd) (G_in_range : Cal P w K mg base 1 "in_range" 3 RN.den_in_range) (G_is_channel : Cal P w K mg base 2 "is_channel" 2 RN.den_is_channel) :
    FnOk P w K mg base (L2.CX P w) 3 f fd ["value"] (spK P w K mg 1 RN.den_is_net) := by
  letI : HasK := ⟨K, mg, P, w⟩
  refine fn_den F sc_is_net rfl fun cdv A outer s H E F0 hr => ?_
  have hu := hr.units
  have tk := takes_of (X := cxOf (L2.CX P w) P w K mg base N_is_net "is_net" (defScope s_is_net) f cdv A outer s H E) (E := E) rfl rfl rfl rfl
  exact ⟨_, (jss_cons (js_if (JW.t (jw_or (jt_not (jt_tru (JE.toB (je_isi .tuple rfl T.f_isinstance rfl T.f_tuple (by decide +kernel) (by decide) (by decide) (je_var 0))))) (jw_or (jt_ne hu (JE.toB (je_len rfl T.f_len (jab_cons (jb_var 0) jab_nil))) (JE.toB je_int)) (jw_or1 (jt_not (jt_tru (JE.toB (je_call _ rfl G_in_range hr (by decide) tk rfl (ja_cons (je_ix hu (jb_var 0) (JE.toB je_int)) (ja_cons je_int (ja_cons (je_gint T.i_MAX_STEPS rfl) ja_nil))))))))))) (jss_one (js_ret je_bl)) jss_nil)
      (jss_cons (js_if (JW.t (jw_or (jt_not (jt_tru (JE.toB (je_isi .tuple rfl T.f_isinstance rfl T.f_tuple (by decide +kernel) (by decide) (by decide) (je_ix hu (jb_var 0) (JE.toB je_int)))))) (jw_or1 (jt_gt (JE.toB (je_len rfl T.f_len (jab_cons (JE.toB (je_ix hu (jb_var 0) (JE.toB je_int))) jab_nil))) (JE.toB (je_gint T.i_MAX_CHANNELS rfl)))))) (jss_one (js_ret je_bl)) jss_nil)
      (jss_one (js_ret (je_not (JE.toB (je_lc [("channel", 1)] rfl rfl sc_is_net.nd (ji_seq (je_ix hu (jb_var 0) (JE.toB je_int))) (blkOk_by (N := N_is_net) (sc := defScope s_is_net) (by decide +kernel)) (stays_name (by decide)) (fun _ _ _ _ _ => (jg_name (i := 1) sc_is_net.nd)) (fun _ _ _ _ _ => (jts_one (jt_not (jt_tru (JE.toB (je_call W0 rfl G_is_channel hr (by decide) takes0 rfl (ja_cons (je_ix hu (jb_var 0) (JE.toB je_int)) (ja_cons (je_var 1) ja_nil)))))))) (fun _ _ _ _ _ => (je_var 1)))))))))⟩
abbrev N_check_net : List Str := ["net"]
theorem sc_check_net : FnScope N_check_net ["net"] (defScope s_check_net) := ⟨rfl, rfl, rfl, by decide +kernel, rfl, by decide +kernel, by decide +kernel⟩
theorem ok_check_net {f : Addr} {fd : FuncData} (T : Tx K mg) (F : Fun K "check_net" "check_net" s_check_net f fd) (G_is_net : Cal P w K mg base 3 "is_net" 1 RN.den_is_net) :
    FnOk P w K mg base (L2.CX P w) 4 f fd ["net"] (spK P w K mg 1 RN.den_check_net) := by
  letI : HasK := ⟨K, mg, P, w⟩
  refine fn_den F sc_check_net rfl fun cdv A outer s H E F0 hr => ?_
  have hu := hr.units
  have tk := takes_of (X := cxOf (L2.CX P w) P w K mg base N_check_net "check_net" (defScope s_check_net) f cdv A outer s H E) (E := E) rfl rfl rfl rfl
  exact ⟨_, (jss_one (js_if (jt_not (jt_tru (JE.toB (je_call _ rfl G_is_net hr (by decide) tk rfl (ja_cons (je_var 0) ja_nil))))) (jss_one (js_raise T.e_InvalidNet rfl tk rfl)) jss_nil))⟩
abbrev N_is_ready : List Str := ["net", "stock", "step", "channel", "amount"]
theorem sc_is_ready : FnScope N_is_ready ["net", "stock", "step"] (defScope s_is_ready) := ⟨rfl, rfl, rfl, by decide +kernel, rfl, by decide +kernel, by decide +kernel⟩
theorem ok_is_ready {f : Addr} {fd : FuncData} (T : Tx K mg) (F : Fun K "is_ready" "is_ready" s_is_ready f fd) :
    FnOk P w K mg base (L2.CX P w) 1 f fd ["net", "stock", "step"] (spK P w K mg 3 RN.den_is_ready) := by
  letI : HasK := ⟨K, mg, P, w⟩
  refine fn_den F sc_is_ready rfl fun cdv A outer s H E F0 hr => ?_
  have hu := hr.units
  exact ⟨_, (jss_one (js_ret (je_not (JE.toB (je_lc [("channel", 3), ("amount", 4)] rfl rfl sc_is_ready.nd (ji_zip rfl T.f_zip (ja_cons (je_ix hu (jb_var 0) (JE.toB je_int)) (ja_cons (je_var 1) ja_nil))) (blkOk_by (N := N_is_ready) (sc := defScope s_is_ready) (by decide +kernel)) (stays_tup (stays_cons (stays_name (by decide)) (stays_cons (stays_name (by decide)) stays_nil))) (fun _ _ _ _ _ => (jg_tup rfl (jgs_cons (jg_name (i := 3) sc_is_ready.nd) (jgs_cons (jg_name (i := 4) sc_is_ready.nd) jgs_nil)))) (fun _ _ _ _ _ => (jts_one (JW.t (jw_and (jt_eq hu (JE.toB (je_ix hu (jb_var 3) (JE.toB je_int))) (jb_var 2)) (jw_and1 (jt_lt (jb_var 4) (JE.toB (je_ix hu (jb_var 3) (JE.toB je_int))))))))) (fun _ _ _ _ _ => je_int))))))⟩
abbrev N_after_run : List Str := ["net", "stock", "step", "result", "giver", "taker", "give", "take", "amount"]
theorem sc_after_run : FnScope N_after_run ["net", "stock", "step"] (defScope s_after_run) := ⟨rfl, rfl, rfl, by decide +kernel, rfl, by decide +kernel, by decide +kernel⟩
theorem ok_after_run {f : Addr} {fd : FuncData} (T : Tx K mg) (F : Fun K "after_run" "after_run" s_after_run f fd) :
    FnOk P w K mg base (L2.CX P w) 1 f fd ["net", "stock", "step"] (spK P w K mg 3 RN.den_after_run) := by
  letI : HasK := ⟨K, mg, P, w⟩
  refine fn_den F sc_after_run rfl fun cdv A outer s H E F0 hr => ?_
  have hu := hr.units
  have po := passes_of (X := cxOf (L2.CX P w) P w K mg base N_after_run "after_run" (defScope s_after_run) f cdv A outer s H E) rfl
  exact ⟨_, (jss_cons (js_setN (i := 3) sc_after_run.nd (jn_lst ja_nil))
      (jss_cons (js_for po rfl (ji_zip rfl T.f_zip (ja_cons (je_ix hu (jb_var 0) (JE.toB je_int)) (ja_cons (je_var 1) ja_nil))) (jg_tup rfl (jgs_cons (jg_tup rfl (jgs_cons (jg_name (i := 4) sc_after_run.nd) (jgs_cons (jg_name (i := 5) sc_after_run.nd) (jgs_cons (jg_name (i := 6) sc_after_run.nd) (jgs_cons (jg_name (i := 7) sc_after_run.nd) jgs_nil))))) (jgs_cons (jg_name (i := 8) sc_after_run.nd) jgs_nil))) (jss_one (js_app (i := 3) (je_sub (JE.toB (je_add (jb_var 8) (JE.toB (je_mul (jb_var 6) (JE.toB (je_intc rfl T.f_int (jab_cons (JE.toB (je_eq hu (jb_var 4) (jb_var 2))) jab_nil))))))) (JE.toB (je_mul (jb_var 7) (JE.toB (je_intc rfl T.f_int (jab_cons (JE.toB (je_eq hu (jb_var 5) (jb_var 2))) jab_nil)))))))))
      (jss_one (js_ret (je_tuple rfl T.f_tuple (jab_cons (jb_var 3) jab_nil))))))⟩
abbrev N_are_attempts : List Str := ["net", "value", "attempt"]
theorem sc_are_attempts : FnScope N_are_attempts ["net", "value"] (defScope s_are_attempts) := ⟨rfl, rfl, rfl, by decide +kernel, rfl, by decide +kernel, by decide +kernel⟩
theorem ok_are_attempts {f : Addr} {fd : FuncData} (T : Tx K mg) (F : Fun K "are_attempts" "are_attempts" s_are_attempts f fd) (G_in_range : Cal P w K mg base 1 "in_range" 3 RN.den_in_range) :
    FnOk P w K mg base (L2.CX P w) 2 f fd ["net", "value"] (spK P w K mg 2 RN.den_are_attempts) := by
  letI : HasK := ⟨K, mg, P, w⟩
  refine fn_den F sc_are_attempts rfl fun cdv A outer s H E F0 hr => ?_
  have hu := hr.units
  have tk := takes_of (X := cxOf (L2.CX P w) P w K mg base N_are_attempts "are_attempts" (defScope s_are_attempts) f cdv A outer s H E) (E := E) rfl rfl rfl rfl
  have po := passes_of (X := cxOf (L2.CX P w) P w K mg base N_are_attempts "are_attempts" (defScope s_are_attempts) f cdv A outer s H E) rfl
  exact ⟨_, (jss_cons (js_if (JW.t (jw_or (jt_not (jt_tru (JE.toB (je_isi .tuple rfl T.f_isinstance rfl T.f_tuple (by decide +kernel) (by decide) (by decide) (je_var 1))))) (jw_or1 (jt_gt (JE.toB (je_len rfl T.f_len (jab_cons (jb_var 1) jab_nil))) (JE.toB (je_gint T.i_MAX_ATTEMPTS rfl)))))) (jss_one (js_ret je_bl)) jss_nil)
      (jss_cons (js_for po rfl (ji_seq (je_var 1)) (jg_name (i := 2) sc_are_attempts.nd) (jss_cons (js_if (JW.t (jw_or (jt_not (jt_tru (JE.toB (je_isi .tuple rfl T.f_isinstance rfl T.f_tuple (by decide +kernel) (by decide) (by decide) (je_var 2))))) (jw_or (jt_ne hu (JE.toB (je_len rfl T.f_len (jab_cons (jb_var 2) jab_nil))) (JE.toB je_int)) (jw_or1 (jt_not (jt_tru (JE.toB (je_call _ rfl G_in_range hr (by decide) tk rfl (ja_cons (je_ix hu (jb_var 2) (JE.toB je_int)) (ja_cons je_int (ja_cons (je_sub (JE.toB (je_ix hu (jb_var 0) (JE.toB je_int))) (JE.toB je_int)) ja_nil))))))))))) (jss_one (js_ret je_bl)) jss_nil)
      (jss_one (js_if (jt_not (jt_tru (JE.toB (je_isi .bool rfl T.f_isinstance rfl T.f_bool (by decide +kernel) (by decide) (by decide) (je_ix hu (jb_var 2) (JE.toB je_int)))))) (jss_one (js_ret je_bl)) jss_nil))))
      (jss_one (js_ret je_bl))))⟩
abbrev N_all_stocks : List Str := ["places", "bound", "result", "time", "longer", "one", "amount"]
theorem sc_all_stocks : FnScope N_all_stocks ["places", "bound"] (defScope s_all_stocks) := ⟨rfl, rfl, rfl, by decide +kernel, rfl, by decide +kernel, by decide +kernel⟩
theorem ok_all_stocks {f : Addr} {fd : FuncData} (T : Tx K mg) (F : Fun K "all_stocks" "all_stocks" s_all_stocks f fd) :
    FnOk P w K mg base (L2.CX P w) 1 f fd ["places", "bound"] (spK P w K mg 2 RN.den_all_stocks) := by
  letI : HasK := ⟨K, mg, P, w⟩
  refine fn_den F sc_all_stocks rfl fun cdv A outer s H E F0 hr => ?_
  have hu := hr.units
  have po := passes_of (X := cxOf (L2.CX P w) P w K mg base N_all_stocks "all_stocks" (defScope s_all_stocks) f cdv A outer s H E) rfl
  exact ⟨_, (jss_cons (js_set (i := 2) sc_all_stocks.nd (je_lst (ja_cons (je_tup ja_nil) ja_nil)))
      (jss_cons (js_for po rfl (ji_rng1 rfl T.f_range (ja_cons (je_var 0) ja_nil)) (jg_name (i := 3) sc_all_stocks.nd) (jss_cons (js_setN (i := 4) sc_all_stocks.nd (jn_lst ja_nil))
      (jss_cons (js_for po rfl (ji_seq (je_var 2)) (jg_name (i := 5) sc_all_stocks.nd) (jss_one (js_ext (i := 4) (je_lc [("amount", 6)] rfl rfl sc_all_stocks.nd (ji_rng1 rfl T.f_range (ja_cons (je_add (jb_var 1) (JE.toB je_int)) ja_nil)) (blkOk_by (N := N_all_stocks) (sc := defScope s_all_stocks) (by decide +kernel)) (stays_name (by decide)) (fun _ _ _ _ _ => (jg_name (i := 6) sc_all_stocks.nd)) (fun _ _ _ _ _ => jts_nil) (fun _ _ _ _ _ => (je_add (jb_var 5) (JE.toB (je_tup (ja_cons (je_var 6) ja_nil)))))))))
      (jss_frz 4 (jss_one (js_set (i := 2) sc_all_stocks.nd (je_var 4)))))))
      (jss_one (js_ret (je_var 2)))))⟩
abbrev N_follow : List Str := ["net", "stock", "attempts", "amounts", "step", "success"]
theorem sc_follow : FnScope N_follow ["net", "stock", "attempts"] (defScope s_follow) := ⟨rfl, rfl, rfl, by decide +kernel, rfl, by decide +kernel, by decide +kernel⟩
theorem ok_follow {f : Addr} {fd : FuncData} (T : Tx K mg) (F : Fun K "follow" "follow" s_follow f fd) (G_is_ready : Cal P w K mg base 1 "is_ready" 3 RN.den_is_ready) (G_after_run : Cal P w K mg base 1 "after_run" 3 RN.den_after_run) :
    FnOk P w K mg base (L2.CX P w) 2 f fd ["net", "stock", "attempts"] (spK P w K mg 3 RN.den_follow) := by
  letI : HasK := ⟨K, mg, P, w⟩
  refine fn_den F sc_follow rfl fun cdv A outer s H E F0 hr => ?_
  have hu := hr.units
  have tk := takes_of (X := cxOf (L2.CX P w) P w K mg base N_follow "follow" (defScope s_follow) f cdv A outer s H E) (E := E) rfl rfl rfl rfl
  have po := passes_of (X := cxOf (L2.CX P w) P w K mg base N_follow "follow" (defScope s_follow) f cdv A outer s H E) rfl
  exact ⟨_, (jss_cons (js_set (i := 3) sc_follow.nd (je_var 1))
      (jss_cons (js_for po rfl (ji_seq (je_var 2)) (jg_tup rfl (jgs_cons (jg_name (i := 4) sc_follow.nd) (jgs_cons (jg_name (i := 5) sc_follow.nd) jgs_nil))) (jss_cons (js_if (jt_ne hu (JE.toB (je_call _ rfl G_is_ready hr (by decide) tk rfl (ja_cons (je_var 0) (ja_cons (je_var 3) (ja_cons (je_var 4) ja_nil))))) (jb_var 5)) (jss_one (js_ret je_non)) jss_nil)
      (jss_one (js_if (jt_tru (jb_var 5)) (jss_one (js_set (i := 3) sc_follow.nd (je_call _ rfl G_after_run hr (by decide) tk rfl (ja_cons (je_var 0) (ja_cons (je_var 3) (ja_cons (je_var 4) ja_nil)))))) jss_nil))))
      (jss_one (js_ret (je_var 3)))))⟩
abbrev N_check_search : List Str := ["net", "attempts", "bound", "total", "channel"]
theorem sc_check_search : FnScope N_check_search ["net", "attempts", "bound"] (defScope s_check_search) := ⟨rfl, rfl, rfl, by decide +kernel, rfl, by decide +kernel, by decide +kernel⟩
theorem ok_check_search {f : Addr} {fd : FuncData} (T : Tx K mg) (F : Fun K "check_search" "check_search" s_check_search f fd) (G_check_net : Cal P w K mg base 4 "check_net" 1 RN.den_check_net) (G_are_attempts : Cal P w K mg base 2 "are_attempts" 2 RN.den_are_attempts) (G_in_range : Cal P w K mg base 1 "in_range" 3 RN.den_in_range) :
    FnOk P w K mg base (L2.CX P w) 5 f fd ["net", "attempts", "bound"] (spK P w K mg 3 RN.den_check_search) := by
  letI : HasK := ⟨K, mg, P, w⟩
  refine fn_den F sc_check_search rfl fun cdv A outer s H E F0 hr => ?_
  have hu := hr.units
  have tk := takes_of (X := cxOf (L2.CX P w) P w K mg base N_check_search "check_search" (defScope s_check_search) f cdv A outer s H E) (E := E) rfl rfl rfl rfl
  have po := passes_of (X := cxOf (L2.CX P w) P w K mg base N_check_search "check_search" (defScope s_check_search) f cdv A outer s H E) rfl
  exact ⟨_, (jss_cons (js_expr (je_call _ rfl G_check_net hr (by decide) tk rfl (ja_cons (je_var 0) ja_nil)))
      (jss_cons (js_if (jt_not (jt_tru (JE.toB (je_call _ rfl G_are_attempts hr (by decide) tk rfl (ja_cons (je_var 0) (ja_cons (je_var 1) ja_nil)))))) (jss_one (js_raise T.e_InvalidAttempts rfl tk rfl)) jss_nil)
      (jss_cons (js_if (jt_not (jt_tru (JE.toB (je_call _ rfl G_in_range hr (by decide) tk rfl (ja_cons (je_var 2) (ja_cons je_int (ja_cons (je_gint T.i_MAX_BOUND rfl) ja_nil))))))) (jss_one (js_raise T.e_InvalidBound rfl tk rfl)) jss_nil)
      (jss_cons (js_set (i := 3) sc_check_search.nd je_int)
      (jss_cons (js_for po rfl (ji_seq (je_ix hu (jb_var 0) (JE.toB je_int))) (jg_name (i := 4) sc_check_search.nd) (jss_one (js_augM (i := 3) sc_check_search.nd (je_add (jb_var 2) (JE.toB je_int)))))
      (jss_one (js_if (jt_gt (jb_var 3) (JE.toB (je_gint T.i_MAX_STOCKS rfl))) (jss_one (js_raise T.e_TooLong rfl tk rfl)) jss_nil)))))))⟩
abbrev N_agreeing_stocks : List Str := ["net", "attempts", "bound", "stock"]
theorem sc_agreeing_stocks : FnScope N_agreeing_stocks ["net", "attempts", "bound"] (defScope s_agreeing_stocks) := ⟨rfl, rfl, rfl, by decide +kernel, rfl, by decide +kernel, by decide +kernel⟩
theorem ok_agreeing_stocks {f : Addr} {fd : FuncData} (T : Tx K mg) (F : Fun K "agreeing_stocks" "agreeing_stocks" s_agreeing_stocks f fd) (G_check_search : Cal P w K mg base 5 "check_search" 3 RN.den_check_search) (G_all_stocks : Cal P w K mg base 1 "all_stocks" 2 RN.den_all_stocks) (G_follow : Cal P w K mg base 2 "follow" 3 RN.den_follow) :
    FnOk P w K mg base (L2.CX P w) 6 f fd ["net", "attempts", "bound"] (spK P w K mg 3 RN.den_agreeing_stocks) := by
  letI : HasK := ⟨K, mg, P, w⟩
  refine fn_den F sc_agreeing_stocks rfl fun cdv A outer s H E F0 hr => ?_
  have hu := hr.units
  have tk := takes_of (X := cxOf (L2.CX P w) P w K mg base N_agreeing_stocks "agreeing_stocks" (defScope s_agreeing_stocks) f cdv A outer s H E) (E := E) rfl rfl rfl rfl
  exact ⟨_, (jss_cons (js_expr (je_call _ rfl G_check_search hr (by decide) tk rfl (ja_cons (je_var 0) (ja_cons (je_var 1) (ja_cons (je_var 2) ja_nil)))))
      (jss_one (js_ret (je_lc [("stock", 3)] rfl rfl sc_agreeing_stocks.nd (ji_seq (je_call _ rfl G_all_stocks hr (by decide) tk rfl (ja_cons (je_len rfl T.f_len (jab_cons (JE.toB (je_ix hu (jb_var 0) (JE.toB je_int))) jab_nil)) (ja_cons (je_var 2) ja_nil)))) (blkOk_by (N := N_agreeing_stocks) (sc := defScope s_agreeing_stocks) (by decide +kernel)) (stays_name (by decide)) (fun _ _ _ _ _ => (jg_name (i := 3) sc_agreeing_stocks.nd)) (fun _ _ _ _ _ => (jts_one (jt_notN (je_call W0 rfl G_follow hr (by decide) takes0 rfl (ja_cons (je_var 0) (ja_cons (je_var 3) (ja_cons (je_var 1) ja_nil))))))) (fun _ _ _ _ _ => (je_var 3))))))⟩
abbrev N_amount_ranges : List Str := ["net", "attempts", "bound", "found", "stock", "result", "number", "amounts", "one"]
theorem sc_amount_ranges : FnScope N_amount_ranges ["net", "attempts", "bound"] (defScope s_amount_ranges) := ⟨rfl, rfl, rfl, by decide +kernel, rfl, by decide +kernel, by decide +kernel⟩
theorem ok_amount_ranges {f : Addr} {fd : FuncData} (T : Tx K mg) (F : Fun K "amount_ranges" "amount_ranges" s_amount_ranges f fd) (G_check_search : Cal P w K mg base 5 "check_search" 3 RN.den_check_search) (G_all_stocks : Cal P w K mg base 1 "all_stocks" 2 RN.den_all_stocks) (G_follow : Cal P w K mg base 2 "follow" 3 RN.den_follow) :
    FnOk P w K mg base (L2.CX P w) 6 f fd ["net", "attempts", "bound"] (spK P w K mg 3 RN.den_amount_ranges) := by
  letI : HasK := ⟨K, mg, P, w⟩
  refine fn_den F sc_amount_ranges rfl fun cdv A outer s H E F0 hr => ?_
  have hu := hr.units
  have tk := takes_of (X := cxOf (L2.CX P w) P w K mg base N_amount_ranges "amount_ranges" (defScope s_amount_ranges) f cdv A outer s H E) (E := E) rfl rfl rfl rfl
  have po := passes_of (X := cxOf (L2.CX P w) P w K mg base N_amount_ranges "amount_ranges" (defScope s_amount_ranges) f cdv A outer s H E) rfl
  exact ⟨_, (jss_cons (js_expr (je_call _ rfl G_check_search hr (by decide) tk rfl (ja_cons (je_var 0) (ja_cons (je_var 1) (ja_cons (je_var 2) ja_nil)))))
      (jss_cons (js_setN (i := 3) sc_amount_ranges.nd (jn_lst ja_nil))
      (jss_cons (js_for po rfl (ji_seq (je_call _ rfl G_all_stocks hr (by decide) tk rfl (ja_cons (je_len rfl T.f_len (jab_cons (JE.toB (je_ix hu (jb_var 0) (JE.toB je_int))) jab_nil)) (ja_cons (je_var 2) ja_nil)))) (jg_name (i := 4) sc_amount_ranges.nd) (jss_cons (js_set (i := 7) sc_amount_ranges.nd (je_call _ rfl G_follow hr (by decide) tk rfl (ja_cons (je_var 0) (ja_cons (je_var 4) (ja_cons (je_var 1) ja_nil)))))
      (jss_one (js_if (jt_notN (je_var 7)) (jss_one (js_app (i := 3) (je_var 7))) jss_nil))))
      (jss_cons (js_if (jt_not (jt_tru (jb_var 3))) (jss_one (js_raise T.e_InvalidAttempts rfl tk rfl)) jss_nil)
      (jss_cons (js_setN (i := 5) sc_amount_ranges.nd (jn_lst ja_nil))
      (jss_cons (js_for po rfl (ji_rng1 rfl T.f_range (ja_cons (je_len rfl T.f_len (jab_cons (JE.toB (je_ix hu (jb_var 0) (JE.toB je_int))) jab_nil)) ja_nil)) (jg_name (i := 6) sc_amount_ranges.nd) (jss_frz 3 (jss_cons (js_setLc (i := 7) [("one", 8)] rfl rfl sc_amount_ranges.nd (ji_seq (je_var 3)) (blkOk_by (N := N_amount_ranges) (sc := defScope s_amount_ranges) (by decide +kernel)) (stays_name (by decide)) (fun _ _ _ _ _ => (jg_name (i := 8) sc_amount_ranges.nd)) (fun _ _ _ _ _ => jts_nil) (fun _ _ _ _ _ => (je_ix hu (jb_var 8) (jb_var 6))) (sw_true rfl rfl rfl (by decide +kernel)))
      (jss_one (js_app (i := 5) (je_tup (ja_cons (je_min1 rfl T.f_min rfl (jab_cons (jb_var 7) jab_nil)) (ja_cons (je_max1 rfl T.f_max rfl (jab_cons (jb_var 7) jab_nil)) ja_nil))))))))
      (jss_frz 5 (jss_one (js_ret (je_var 5))))))))))⟩
abbrev N_best_attempt : List Str := ["net", "attempts", "bound", "found", "best", "step", "many", "worst", "stock", "amounts"]
theorem sc_best_attempt : FnScope N_best_attempt ["net", "attempts", "bound"] (defScope s_best_attempt) := ⟨rfl, rfl, rfl, by decide +kernel, rfl, by decide +kernel, by decide +kernel⟩
theorem ok_best_attempt {f : Addr} {fd : FuncData} (T : Tx K mg) (F : Fun K "best_attempt" "best_attempt" s_best_attempt f fd) (G_check_search : Cal P w K mg base 5 "check_search" 3 RN.den_check_search) (G_all_stocks : Cal P w K mg base 1 "all_stocks" 2 RN.den_all_stocks) (G_follow : Cal P w K mg base 2 "follow" 3 RN.den_follow) (G_is_ready : Cal P w K mg base 1 "is_ready" 3 RN.den_is_ready) :
    FnOk P w K mg base (L2.CX P w) 6 f fd ["net", "attempts", "bound"] (spK P w K mg 3 RN.den_best_attempt) := by
  letI : HasK := ⟨K, mg, P, w⟩
  refine fn_den F sc_best_attempt rfl fun cdv A outer s H E F0 hr => ?_
  have hu := hr.units
  have tk := takes_of (X := cxOf (L2.CX P w) P w K mg base N_best_attempt "best_attempt" (defScope s_best_attempt) f cdv A outer s H E) (E := E) rfl rfl rfl rfl
  have po := passes_of (X := cxOf (L2.CX P w) P w K mg base N_best_attempt "best_attempt" (defScope s_best_attempt) f cdv A outer s H E) rfl
  exact ⟨_, (jss_cons (js_expr (je_call _ rfl G_check_search hr (by decide) tk rfl (ja_cons (je_var 0) (ja_cons (je_var 1) (ja_cons (je_var 2) ja_nil)))))
      (jss_cons (js_setLc (i := 3) [("stock", 8)] rfl rfl sc_best_attempt.nd (ji_seq (je_call _ rfl G_all_stocks hr (by decide) tk rfl (ja_cons (je_len rfl T.f_len (jab_cons (JE.toB (je_ix hu (jb_var 0) (JE.toB je_int))) jab_nil)) (ja_cons (je_var 2) ja_nil)))) (blkOk_by (N := N_best_attempt) (sc := defScope s_best_attempt) (by decide +kernel)) (stays_name (by decide)) (fun _ _ _ _ _ => (jg_name (i := 8) sc_best_attempt.nd)) (fun _ _ _ _ _ => jts_nil) (fun _ _ _ _ _ => (je_call W0 rfl G_follow hr (by decide) takes0 rfl (ja_cons (je_var 0) (ja_cons (je_var 8) (ja_cons (je_var 1) ja_nil))))) (sw_true rfl rfl rfl (by decide +kernel)))
      (jss_cons (js_setLc (i := 3) [("amounts", 9)] rfl rfl sc_best_attempt.nd (ji_seq (je_var 3)) (blkOk_by (N := N_best_attempt) (sc := defScope s_best_attempt) (by decide +kernel)) (stays_name (by decide)) (fun _ _ _ _ _ => (jg_name (i := 9) sc_best_attempt.nd)) (fun _ _ _ _ _ => (jts_one (jt_notN (je_var 9)))) (fun _ _ _ _ _ => (je_var 9)) (sw_true rfl rfl rfl (by decide +kernel)))
      (jss_cons (js_if (jt_not (jt_tru (jb_var 3))) (jss_one (js_raise T.e_InvalidAttempts rfl tk rfl)) jss_nil)
      (jss_cons (js_set (i := 4) sc_best_attempt.nd je_non)
      (jss_cons (js_for po rfl (ji_rng1 rfl T.f_range (ja_cons (je_ix hu (jb_var 0) (JE.toB je_int)) ja_nil)) (jg_name (i := 5) sc_best_attempt.nd) (jss_cons (js_set (i := 6) sc_best_attempt.nd (je_len rfl T.f_len (jab_cons (JE.toB (je_lc [("amounts", 9)] rfl rfl sc_best_attempt.nd (ji_seq (je_var 3)) (blkOk_by (N := N_best_attempt) (sc := defScope s_best_attempt) (by decide +kernel)) (stays_name (by decide)) (fun _ _ _ _ _ => (jg_name (i := 9) sc_best_attempt.nd)) (fun _ _ _ _ _ => (jts_one (jt_tru (JE.toB (je_call W0 rfl G_is_ready hr (by decide) takes0 rfl (ja_cons (je_var 0) (ja_cons (je_var 9) (ja_cons (je_var 5) ja_nil)))))))) (fun _ _ _ _ _ => (je_var 9)))) jab_nil)))
      (jss_cons (js_set (i := 7) sc_best_attempt.nd (je_max2 rfl T.f_max rfl (jab_cons (jb_var 6) (jab_cons (JE.toB (je_sub (JE.toB (je_len rfl T.f_len (jab_cons (jb_var 3) jab_nil))) (jb_var 6))) jab_nil))))
      (jss_one (js_if (JW.t (jw_and (jt_lt (jb_var 7) (JE.toB (je_len rfl T.f_len (jab_cons (jb_var 3) jab_nil)))) (jw_and1 (JW.t (jw_or (jt_isN (je_var 4)) (jw_or1 (jt_lt (jb_var 7) (JE.toB (je_ix hu (jb_var 4) (JE.toB je_int)))))))))) (jss_one (js_set (i := 4) sc_best_attempt.nd (je_tup (ja_cons (je_var 7) (ja_cons (je_var 5) ja_nil))))) jss_nil)))))
      (jss_one (js_ret (je_if (jt_isN (je_var 4)) je_non (je_ix hu (jb_var 4) (JE.toB je_int)))))))))))⟩
abbrev N__law_cell : List Str := ["script", "k"]
theorem sc__law_cell : FnScope N__law_cell ["script", "k"] (defScope s__law_cell) := ⟨rfl, rfl, rfl, by decide +kernel, rfl, by decide +kernel, by decide +kernel⟩
theorem ok__law_cell {f : Addr} {fd : FuncData} (T : Tx K mg) (F : Fun K "_law_cell" "_law_cell" s__law_cell f fd) :
    FnOk P w K mg base (L2.CX P w) 1 f fd ["script", "k"] (spK P w K mg 2 RN.den__law_cell) := by
  letI : HasK := ⟨K, mg, P, w⟩
  refine fn_den F sc__law_cell rfl fun cdv A outer s H E F0 hr => ?_
  have hu := hr.units
  exact ⟨_, (jss_cons (js_if (jt_lt (jb_var 1) (JE.toB (je_len rfl T.f_len (jab_cons (jb_var 0) jab_nil)))) (jss_one (js_ret (je_ix hu (jb_var 0) (jb_var 1)))) jss_nil)
      (jss_one (js_ret je_int)))⟩
abbrev N__law_row : List Str := ["script", "at", "cell", "found", "time"]
theorem sc__law_row : FnScope N__law_row ["script", "at"] (defScope s__law_row) := ⟨rfl, rfl, rfl, by decide +kernel, rfl, by decide +kernel, by decide +kernel⟩
theorem ok__law_row {f : Addr} {fd : FuncData} (T : Tx K mg) (F : Fun K "_law_row" "_law_row" s__law_row f fd) (G__law_cell : Cal P w K mg base 1 "_law_cell" 2 RN.den__law_cell) :
    FnOk P w K mg base (L2.CX P w) 2 f fd ["script", "at"] (spK P w K mg 2 RN.den__law_row) := by
  letI : HasK := ⟨K, mg, P, w⟩
  refine fn_den F sc__law_row rfl fun cdv A outer s H E F0 hr => ?_
  have hu := hr.units
  have tk := takes_of (X := cxOf (L2.CX P w) P w K mg base N__law_row "_law_row" (defScope s__law_row) f cdv A outer s H E) (E := E) rfl rfl rfl rfl
  have po := passes_of (X := cxOf (L2.CX P w) P w K mg base N__law_row "_law_row" (defScope s__law_row) f cdv A outer s H E) rfl
  exact ⟨_, (jss_cons (js_set (i := 2) sc__law_row.nd (je_call _ rfl G__law_cell hr (by decide) tk rfl (ja_cons (je_var 0) (ja_cons (je_var 1) ja_nil))))
      (jss_cons (js_setN (i := 3) sc__law_row.nd (jn_lst ja_nil))
      (jss_cons (js_for po rfl (ji_rng1 rfl T.f_range (ja_cons je_int ja_nil)) (jg_name (i := 4) sc__law_row.nd) (jss_one (js_if (jt_lt (JE.toB (je_call _ rfl G__law_cell hr (by decide) tk rfl (ja_cons (je_var 0) (ja_cons (je_var 1) ja_nil)))) (JE.toB (je_pow (JE.toB je_int) (JE.toB je_int)))) (jss_cons (js_set (i := 2) sc__law_row.nd (je_mod (JE.toB (je_add (JE.toB (je_add (JE.toB (je_add (JE.toB (je_mul (jb_var 2) (JE.toB je_int))) (JE.toB (je_mul (JE.toB je_int) (jb_var 4))))) (JE.toB je_int))) (JE.toB (je_call _ rfl G__law_cell hr (by decide) tk rfl (ja_cons (je_var 0) (ja_cons (je_mod (JE.toB (je_add (JE.toB (je_add (jb_var 1) (JE.toB je_int))) (jb_var 4))) (JE.toB je_int)) ja_nil)))))) (JE.toB je_int)))
      (jss_one (js_app (i := 3) (je_mod (JE.toB (je_fdiv (jb_var 2) (JE.toB je_int))) (JE.toB je_int))))) (jss_cons (js_app (i := 3) (je_mod (jb_var 2) (JE.toB je_int)))
      (jss_one (js_set (i := 2) sc__law_row.nd (je_fdiv (jb_var 2) (JE.toB je_int))))))))
      (jss_frz 3 (jss_one (js_ret (je_var 3)))))))⟩
abbrev N__law_gcd : List Str := ["one", "other"]
theorem sc__law_gcd : FnScope N__law_gcd ["one", "other"] (defScope s__law_gcd) := ⟨rfl, rfl, rfl, by decide +kernel, rfl, by decide +kernel, by decide +kernel⟩
theorem ok__law_gcd {f : Addr} {fd : FuncData} (T : Tx K mg) (F : Fun K "_law_gcd" "_law_gcd" s__law_gcd f fd) :
    FnOk P w K mg base (L2.CX P w) 1 f fd ["one", "other"] (spK P w K mg 2 RN.den__law_gcd) := by
  letI : HasK := ⟨K, mg, P, w⟩
  refine fn_den F sc__law_gcd rfl fun cdv A outer s H E F0 hr => ?_
  have hu := hr.units
  have po := passes_of (X := cxOf (L2.CX P w) P w K mg base N__law_gcd "_law_gcd" (defScope s__law_gcd) f cdv A outer s H E) rfl
  exact ⟨_, (jss_cons (js_while 100000 po (jt_ne hu (jb_var 1) (JE.toB je_int)) (jss_one (js_par (i := 0) (j := 1) rfl sc__law_gcd.nd (ja_cons (je_var 1) (ja_cons (je_mod (jb_var 0) (jb_var 1)) ja_nil)) (fun h => ps_par (by rfl) sc__law_gcd.nd rfl rfl (by decide) rfl rfl h (by rfl)))))
      (jss_one (js_ret (je_var 0))))⟩
abbrev N__law_net : List Str := ["script", "at", "most_steps", "most_channels", "draws", "steps", "hidden", "channels", "place", "giver", "taker", "divisor", "give", "take", "step"]
theorem sc__law_net : FnScope N__law_net ["script", "at", "most_steps", "most_channels"] (defScope s__law_net) := ⟨rfl, rfl, rfl, by decide +kernel, rfl, by decide +kernel, by decide +kernel⟩
theorem ok__law_net {f : Addr} {fd : FuncData} (T : Tx K mg) (F : Fun K "_law_net" "_law_net" s__law_net f fd) (G__law_row : Cal P w K mg base 2 "_law_row" 2 RN.den__law_row) (G__law_gcd : Cal P w K mg base 1 "_law_gcd" 2 RN.den__law_gcd) :
    FnOk P w K mg base (L2.CX P w) 3 f fd ["script", "at", "most_steps", "most_channels"] (spK P w K mg 4 RN.den__law_net) := by
  letI : HasK := ⟨K, mg, P, w⟩
  refine fn_den F sc__law_net rfl fun cdv A outer s H E F0 hr => ?_
  have hu := hr.units
  have tk := takes_of (X := cxOf (L2.CX P w) P w K mg base N__law_net "_law_net" (defScope s__law_net) f cdv A outer s H E) (E := E) rfl rfl rfl rfl
  have po := passes_of (X := cxOf (L2.CX P w) P w K mg base N__law_net "_law_net" (defScope s__law_net) f cdv A outer s H E) rfl
  exact ⟨_, (jss_cons (js_set (i := 4) sc__law_net.nd (je_call _ rfl G__law_row hr (by decide) tk rfl (ja_cons (je_var 0) (ja_cons (je_var 1) ja_nil))))
      (jss_cons (js_set (i := 5) sc__law_net.nd (je_add (JE.toB je_int) (JE.toB (je_mod (JE.toB (je_ix hu (jb_var 4) (JE.toB je_int))) (jb_var 2)))))
      (jss_cons (js_setLc (i := 6) [("step", 14)] rfl rfl sc__law_net.nd (ji_rng1 rfl T.f_range (ja_cons (je_var 5) ja_nil)) (blkOk_by (N := N__law_net) (sc := defScope s__law_net) (by decide +kernel)) (stays_name (by decide)) (fun _ _ _ _ _ => (jg_name (i := 14) sc__law_net.nd)) (fun _ _ _ _ _ => jts_nil) (fun _ _ _ _ _ => (je_ix hu (JE.toB (je_lst (ja_cons je_int (ja_cons je_int (ja_cons je_int (ja_cons je_int (ja_cons je_int (ja_cons je_int ja_nil)))))))) (JE.toB (je_mod (JE.toB (je_ix hu (jb_var 4) (JE.toB (je_add (JE.toB je_int) (jb_var 14))))) (JE.toB je_int))))) (sw_true rfl rfl rfl (by decide +kernel)))
      (jss_cons (js_setN (i := 7) sc__law_net.nd (jn_lst ja_nil))
      (jss_cons (js_if (jt_gt (jb_var 5) (JE.toB je_int)) (jss_one (js_for po rfl (ji_rng1 rfl T.f_range (ja_cons (je_mod (JE.toB (je_ix hu (jb_var 4) (JE.toB je_int))) (JE.toB (je_add (jb_var 3) (JE.toB je_int)))) ja_nil)) (jg_name (i := 8) sc__law_net.nd) (jss_cons (js_set (i := 9) sc__law_net.nd (je_mod (JE.toB (je_ix hu (jb_var 4) (JE.toB (je_add (JE.toB je_int) (JE.toB (je_mul (JE.toB je_int) (jb_var 8))))))) (jb_var 5)))
      (jss_cons (js_set (i := 10) sc__law_net.nd (je_mod (JE.toB (je_add (JE.toB (je_add (jb_var 9) (JE.toB je_int))) (JE.toB (je_mod (JE.toB (je_ix hu (jb_var 4) (JE.toB (je_add (JE.toB je_int) (JE.toB (je_mul (JE.toB je_int) (jb_var 8))))))) (JE.toB (je_sub (jb_var 5) (JE.toB je_int))))))) (jb_var 5)))
      (jss_cons (js_set (i := 11) sc__law_net.nd (je_call _ rfl G__law_gcd hr (by decide) tk rfl (ja_cons (je_ix hu (jb_var 6) (jb_var 9)) (ja_cons (je_ix hu (jb_var 6) (jb_var 10)) ja_nil))))
      (jss_cons (js_set (i := 12) sc__law_net.nd (je_fdiv (JE.toB (je_ix hu (jb_var 6) (jb_var 10))) (jb_var 11)))
      (jss_cons (js_set (i := 13) sc__law_net.nd (je_fdiv (JE.toB (je_ix hu (jb_var 6) (jb_var 9))) (jb_var 11)))
      (jss_cons (js_if (JW.t (jw_and (jt_eq hu (JE.toB (je_mod (JE.toB (je_ix hu (jb_var 4) (JE.toB je_int))) (JE.toB je_int))) (JE.toB je_int)) (jw_and1 (jt_eq hu (JE.toB (je_mod (JE.toB (je_ix hu (jb_var 4) (JE.toB (je_add (JE.toB je_int) (JE.toB (je_mul (JE.toB je_int) (jb_var 8))))))) (JE.toB je_int))) (JE.toB je_int))))) (jss_cons (js_set (i := 12) sc__law_net.nd (je_add (JE.toB je_int) (JE.toB (je_mod (JE.toB (je_ix hu (jb_var 4) (JE.toB (je_add (JE.toB je_int) (JE.toB (je_mul (JE.toB je_int) (jb_var 8))))))) (JE.toB je_int)))))
      (jss_one (js_set (i := 13) sc__law_net.nd (je_add (JE.toB je_int) (JE.toB (je_mod (JE.toB (je_ix hu (jb_var 4) (JE.toB (je_add (JE.toB je_int) (JE.toB (je_mul (JE.toB je_int) (jb_var 8))))))) (JE.toB je_int))))))) jss_nil)
      (jss_one (js_app (i := 7) (je_tup (ja_cons (je_var 9) (ja_cons (je_var 10) (ja_cons (je_var 12) (ja_cons (je_var 13) ja_nil))))))))))))))) jss_nil)
      (jss_one (js_ret (je_tup (ja_cons (je_var 5) (ja_cons (je_tuple rfl T.f_tuple (jab_cons (jb_var 7) jab_nil)) ja_nil))))))))))⟩
abbrev N__law_stock : List Str := ["script", "at", "net", "most", "draws", "place"]
theorem sc__law_stock : FnScope N__law_stock ["script", "at", "net", "most"] (defScope s__law_stock) := ⟨rfl, rfl, rfl, by decide +kernel, rfl, by decide +kernel, by decide +kernel⟩
theorem ok__law_stock {f : Addr} {fd : FuncData} (T : Tx K mg) (F : Fun K "_law_stock" "_law_stock" s__law_stock f fd) (G__law_row : Cal P w K mg base 2 "_law_row" 2 RN.den__law_row) :
    FnOk P w K mg base (L2.CX P w) 3 f fd ["script", "at", "net", "most"] (spK P w K mg 4 RN.den__law_stock) := by
  letI : HasK := ⟨K, mg, P, w⟩
  refine fn_den F sc__law_stock rfl fun cdv A outer s H E F0 hr => ?_
  have hu := hr.units
  have tk := takes_of (X := cxOf (L2.CX P w) P w K mg base N__law_stock "_law_stock" (defScope s__law_stock) f cdv A outer s H E) (E := E) rfl rfl rfl rfl
  exact ⟨_, (jss_cons (js_set (i := 4) sc__law_stock.nd (je_call _ rfl G__law_row hr (by decide) tk rfl (ja_cons (je_var 0) (ja_cons (je_var 1) ja_nil))))
      (jss_one (js_ret (je_tuple rfl T.f_tuple (jab_cons (JE.toB (je_lc [("place", 5)] rfl rfl sc__law_stock.nd (ji_rng1 rfl T.f_range (ja_cons (je_len rfl T.f_len (jab_cons (JE.toB (je_ix hu (jb_var 2) (JE.toB je_int))) jab_nil)) ja_nil)) (blkOk_by (N := N__law_stock) (sc := defScope s__law_stock) (by decide +kernel)) (stays_name (by decide)) (fun _ _ _ _ _ => (jg_name (i := 5) sc__law_stock.nd)) (fun _ _ _ _ _ => jts_nil) (fun _ _ _ _ _ => (je_mod (JE.toB (je_ix hu (jb_var 4) (JE.toB (je_add (JE.toB je_int) (jb_var 5))))) (JE.toB (je_add (jb_var 3) (JE.toB je_int))))))) jab_nil)))))⟩
abbrev N__law_ready : List Str := ["net", "amounts", "step", "place"]
theorem sc__law_ready : FnScope N__law_ready ["net", "amounts", "step"] (defScope s__law_ready) := ⟨rfl, rfl, rfl, by decide +kernel, rfl, by decide +kernel, by decide +kernel⟩
theorem ok__law_ready {f : Addr} {fd : FuncData} (T : Tx K mg) (F : Fun K "_law_ready" "_law_ready" s__law_ready f fd) :
    FnOk P w K mg base (L2.CX P w) 1 f fd ["net", "amounts", "step"] (spK P w K mg 3 RN.den__law_ready) := by
  letI : HasK := ⟨K, mg, P, w⟩
  refine fn_den F sc__law_ready rfl fun cdv A outer s H E F0 hr => ?_
  have hu := hr.units
  have po := passes_of (X := cxOf (L2.CX P w) P w K mg base N__law_ready "_law_ready" (defScope s__law_ready) f cdv A outer s H E) rfl
  exact ⟨_, (jss_cons (js_for po rfl (ji_rng1 rfl T.f_range (ja_cons (je_len rfl T.f_len (jab_cons (JE.toB (je_ix hu (jb_var 0) (JE.toB je_int))) jab_nil)) ja_nil)) (jg_name (i := 3) sc__law_ready.nd) (jss_one (js_if (JW.t (jw_and (jt_eq hu (JE.toB (je_ix hu (JE.toB (je_ix hu (JE.toB (je_ix hu (jb_var 0) (JE.toB je_int))) (jb_var 3))) (JE.toB je_int))) (jb_var 2)) (jw_and1 (jt_lt (JE.toB (je_ix hu (jb_var 1) (jb_var 3))) (JE.toB (je_ix hu (JE.toB (je_ix hu (JE.toB (je_ix hu (jb_var 0) (JE.toB je_int))) (jb_var 3))) (JE.toB je_int))))))) (jss_one (js_ret je_bl)) jss_nil)))
      (jss_one (js_ret je_bl)))⟩
abbrev N__law_amounts : List Str := ["net", "stock", "counts", "found", "place", "giver", "taker", "give", "take", "change"]
theorem sc__law_amounts : FnScope N__law_amounts ["net", "stock", "counts"] (defScope s__law_amounts) := ⟨rfl, rfl, rfl, by decide +kernel, rfl, by decide +kernel, by decide +kernel⟩
theorem ok__law_amounts {f : Addr} {fd : FuncData} (T : Tx K mg) (F : Fun K "_law_amounts" "_law_amounts" s__law_amounts f fd) :
    FnOk P w K mg base (L2.CX P w) 1 f fd ["net", "stock", "counts"] (spK P w K mg 3 RN.den__law_amounts) := by
  letI : HasK := ⟨K, mg, P, w⟩
  refine fn_den F sc__law_amounts rfl fun cdv A outer s H E F0 hr => ?_
  have hu := hr.units
  have po := passes_of (X := cxOf (L2.CX P w) P w K mg base N__law_amounts "_law_amounts" (defScope s__law_amounts) f cdv A outer s H E) rfl
  exact ⟨_, (jss_cons (js_setN (i := 3) sc__law_amounts.nd (jn_lst ja_nil))
      (jss_cons (js_for po rfl (ji_rng1 rfl T.f_range (ja_cons (je_len rfl T.f_len (jab_cons (JE.toB (je_ix hu (jb_var 0) (JE.toB je_int))) jab_nil)) ja_nil)) (jg_name (i := 4) sc__law_amounts.nd) (jss_cons (js_asg (je_ix hu (JE.toB (je_ix hu (jb_var 0) (JE.toB je_int))) (jb_var 4)) (jg_tup rfl (jgs_cons (jg_name (i := 5) sc__law_amounts.nd) (jgs_cons (jg_name (i := 6) sc__law_amounts.nd) (jgs_cons (jg_name (i := 7) sc__law_amounts.nd) (jgs_cons (jg_name (i := 8) sc__law_amounts.nd) jgs_nil))))))
      (jss_cons (js_set (i := 9) sc__law_amounts.nd (je_sub (JE.toB (je_mul (jb_var 7) (JE.toB (je_ix hu (jb_var 2) (jb_var 5))))) (JE.toB (je_mul (jb_var 8) (JE.toB (je_ix hu (jb_var 2) (jb_var 6)))))))
      (jss_one (js_app (i := 3) (je_add (JE.toB (je_ix hu (jb_var 1) (jb_var 4))) (jb_var 9)))))))
      (jss_one (js_ret (je_tuple rfl T.f_tuple (jab_cons (jb_var 3) jab_nil))))))⟩
abbrev N__law_attempts : List Str := ["script", "at", "net", "stock", "draws", "found", "done", "place", "step", "success"]
theorem sc__law_attempts : FnScope N__law_attempts ["script", "at", "net", "stock"] (defScope s__law_attempts) := ⟨rfl, rfl, rfl, by decide +kernel, rfl, by decide +kernel, by decide +kernel⟩
theorem ok__law_attempts {f : Addr} {fd : FuncData} (T : Tx K mg) (F : Fun K "_law_attempts" "_law_attempts" s__law_attempts f fd) (G__law_row : Cal P w K mg base 2 "_law_row" 2 RN.den__law_row) (G__law_ready : Cal P w K mg base 1 "_law_ready" 3 RN.den__law_ready) (G__law_amounts : Cal P w K mg base 1 "_law_amounts" 3 RN.den__law_amounts) :
    FnOk P w K mg base (L2.CX P w) 3 f fd ["script", "at", "net", "stock"] (spK P w K mg 4 RN.den__law_attempts) := by
  letI : HasK := ⟨K, mg, P, w⟩
  refine fn_den F sc__law_attempts rfl fun cdv A outer s H E F0 hr => ?_
  have hu := hr.units
  have tk := takes_of (X := cxOf (L2.CX P w) P w K mg base N__law_attempts "_law_attempts" (defScope s__law_attempts) f cdv A outer s H E) (E := E) rfl rfl rfl rfl
  have po := passes_of (X := cxOf (L2.CX P w) P w K mg base N__law_attempts "_law_attempts" (defScope s__law_attempts) f cdv A outer s H E) rfl
  exact ⟨_, (jss_cons (js_set (i := 4) sc__law_attempts.nd (je_call _ rfl G__law_row hr (by decide) tk rfl (ja_cons (je_var 0) (ja_cons (je_var 1) ja_nil))))
      (jss_cons (js_setN (i := 5) sc__law_attempts.nd (jn_lst ja_nil))
      (jss_cons (js_set (i := 6) sc__law_attempts.nd (je_tuple rfl T.f_tuple (jab_cons (JE.toB (je_mul (JE.toB (je_lst (ja_cons je_int ja_nil))) (JE.toB (je_ix hu (jb_var 2) (JE.toB je_int))))) jab_nil)))
      (jss_cons (js_for po rfl (ji_rng1 rfl T.f_range (ja_cons (je_mod (JE.toB (je_ix hu (jb_var 4) (JE.toB je_int))) (JE.toB je_int)) ja_nil)) (jg_name (i := 7) sc__law_attempts.nd) (jss_cons (js_set (i := 8) sc__law_attempts.nd (je_mod (JE.toB (je_ix hu (jb_var 4) (JE.toB (je_add (JE.toB je_int) (jb_var 7))))) (JE.toB (je_ix hu (jb_var 2) (JE.toB je_int)))))
      (jss_cons (js_set (i := 9) sc__law_attempts.nd (je_ne hu (JE.toB (je_call _ rfl G__law_ready hr (by decide) tk rfl (ja_cons (je_var 2) (ja_cons (je_call _ rfl G__law_amounts hr (by decide) tk rfl (ja_cons (je_var 2) (ja_cons (je_var 3) (ja_cons (je_var 6) ja_nil)))) (ja_cons (je_var 8) ja_nil))))) (JE.toB (je_eq hu (JE.toB (je_mod (JE.toB (je_ix hu (jb_var 4) (JE.toB (je_add (JE.toB je_int) (jb_var 7))))) (JE.toB je_int))) (JE.toB je_int)))))
      (jss_cons (js_app (i := 5) (je_tup (ja_cons (je_var 8) (ja_cons (je_var 9) ja_nil))))
      (jss_one (js_if (jt_tru (jb_var 9)) (jss_one (js_set (i := 6) sc__law_attempts.nd (je_add (JE.toB (je_add (JE.toB (je_slice (jb_var 6) jo_none (jo_some (jb_var 8)))) (JE.toB (je_tup (ja_cons (je_add (JE.toB (je_ix hu (jb_var 6) (jb_var 8))) (JE.toB je_int)) ja_nil))))) (JE.toB (je_slice (jb_var 6) (jo_some (JE.toB (je_add (jb_var 8) (JE.toB je_int)))) jo_none))))) jss_nil))))))
      (jss_one (js_ret (je_tuple rfl T.f_tuple (jab_cons (jb_var 5) jab_nil))))))))⟩
abbrev N__law_follow : List Str := ["net", "stock", "attempts", "done", "step", "success"]
theorem sc__law_follow : FnScope N__law_follow ["net", "stock", "attempts"] (defScope s__law_follow) := ⟨rfl, rfl, rfl, by decide +kernel, rfl, by decide +kernel, by decide +kernel⟩
theorem ok__law_follow {f : Addr} {fd : FuncData} (T : Tx K mg) (F : Fun K "_law_follow" "_law_follow" s__law_follow f fd) (G__law_ready : Cal P w K mg base 1 "_law_ready" 3 RN.den__law_ready) (G__law_amounts : Cal P w K mg base 1 "_law_amounts" 3 RN.den__law_amounts) :
    FnOk P w K mg base (L2.CX P w) 2 f fd ["net", "stock", "attempts"] (spK P w K mg 3 RN.den__law_follow) := by
  letI : HasK := ⟨K, mg, P, w⟩
  refine fn_den F sc__law_follow rfl fun cdv A outer s H E F0 hr => ?_
  have hu := hr.units
  have tk := takes_of (X := cxOf (L2.CX P w) P w K mg base N__law_follow "_law_follow" (defScope s__law_follow) f cdv A outer s H E) (E := E) rfl rfl rfl rfl
  have po := passes_of (X := cxOf (L2.CX P w) P w K mg base N__law_follow "_law_follow" (defScope s__law_follow) f cdv A outer s H E) rfl
  exact ⟨_, (jss_cons (js_set (i := 3) sc__law_follow.nd (je_tuple rfl T.f_tuple (jab_cons (JE.toB (je_mul (JE.toB (je_lst (ja_cons je_int ja_nil))) (JE.toB (je_ix hu (jb_var 0) (JE.toB je_int))))) jab_nil)))
      (jss_cons (js_for po rfl (ji_seq (je_var 2)) (jg_tup rfl (jgs_cons (jg_name (i := 4) sc__law_follow.nd) (jgs_cons (jg_name (i := 5) sc__law_follow.nd) jgs_nil))) (jss_cons (js_if (jt_ne hu (JE.toB (je_call _ rfl G__law_ready hr (by decide) tk rfl (ja_cons (je_var 0) (ja_cons (je_call _ rfl G__law_amounts hr (by decide) tk rfl (ja_cons (je_var 0) (ja_cons (je_var 1) (ja_cons (je_var 3) ja_nil)))) (ja_cons (je_var 4) ja_nil))))) (jb_var 5)) (jss_one (js_ret je_non)) jss_nil)
      (jss_one (js_if (jt_tru (jb_var 5)) (jss_one (js_set (i := 3) sc__law_follow.nd (je_add (JE.toB (je_add (JE.toB (je_slice (jb_var 3) jo_none (jo_some (jb_var 4)))) (JE.toB (je_tup (ja_cons (je_add (JE.toB (je_ix hu (jb_var 3) (jb_var 4))) (JE.toB je_int)) ja_nil))))) (JE.toB (je_slice (jb_var 3) (jo_some (JE.toB (je_add (jb_var 4) (JE.toB je_int)))) jo_none))))) jss_nil))))
      (jss_one (js_ret (je_call _ rfl G__law_amounts hr (by decide) tk rfl (ja_cons (je_var 0) (ja_cons (je_var 1) (ja_cons (je_var 3) ja_nil))))))))⟩
abbrev N__law_every_stock : List Str := ["net", "bound", "found", "place", "longer", "one", "amount"]
theorem sc__law_every_stock : FnScope N__law_every_stock ["net", "bound"] (defScope s__law_every_stock) := ⟨rfl, rfl, rfl, by decide +kernel, rfl, by decide +kernel, by decide +kernel⟩
theorem ok__law_every_stock {f : Addr} {fd : FuncData} (T : Tx K mg) (F : Fun K "_law_every_stock" "_law_every_stock" s__law_every_stock f fd) :
    FnOk P w K mg base (L2.CX P w) 1 f fd ["net", "bound"] (spK P w K mg 2 RN.den__law_every_stock) := by
  letI : HasK := ⟨K, mg, P, w⟩
  refine fn_den F sc__law_every_stock rfl fun cdv A outer s H E F0 hr => ?_
  have hu := hr.units
  have po := passes_of (X := cxOf (L2.CX P w) P w K mg base N__law_every_stock "_law_every_stock" (defScope s__law_every_stock) f cdv A outer s H E) rfl
  exact ⟨_, (jss_cons (js_set (i := 2) sc__law_every_stock.nd (je_lst (ja_cons (je_tup ja_nil) ja_nil)))
      (jss_cons (js_for po rfl (ji_rng1 rfl T.f_range (ja_cons (je_len rfl T.f_len (jab_cons (JE.toB (je_ix hu (jb_var 0) (JE.toB je_int))) jab_nil)) ja_nil)) (jg_name (i := 3) sc__law_every_stock.nd) (jss_cons (js_set (i := 4) sc__law_every_stock.nd (je_lst ja_nil))
      (jss_cons (js_for po rfl (ji_seq (je_var 2)) (jg_name (i := 5) sc__law_every_stock.nd) (jss_one (js_set (i := 4) sc__law_every_stock.nd (je_add (jb_var 4) (JE.toB (je_lc [("amount", 6)] rfl rfl sc__law_every_stock.nd (ji_rng1 rfl T.f_range (ja_cons (je_add (jb_var 1) (JE.toB je_int)) ja_nil)) (blkOk_by (N := N__law_every_stock) (sc := defScope s__law_every_stock) (by decide +kernel)) (stays_name (by decide)) (fun _ _ _ _ _ => (jg_name (i := 6) sc__law_every_stock.nd)) (fun _ _ _ _ _ => jts_nil) (fun _ _ _ _ _ => (je_add (jb_var 5) (JE.toB (je_tup (ja_cons (je_var 6) ja_nil)))))))))))
      (jss_one (js_set (i := 2) sc__law_every_stock.nd (je_var 4))))))
      (jss_one (js_ret (je_var 2)))))⟩
abbrev N__law_hidden : List Str := ["mode", "net", "attempts", "bound", "e"]
theorem sc__law_hidden : FnScope N__law_hidden ["mode", "net", "attempts", "bound"] (defScope s__law_hidden) := ⟨rfl, rfl, rfl, by decide +kernel, rfl, by decide +kernel, by decide +kernel⟩
theorem ok__law_hidden {f : Addr} {fd : FuncData} (T : Tx K mg) (F : Fun K "_law_hidden" "_law_hidden" s__law_hidden f fd) (G_agreeing_stocks : Cal P w K mg base 6 "agreeing_stocks" 3 RN.den_agreeing_stocks) (G_amount_ranges : Cal P w K mg base 6 "amount_ranges" 3 RN.den_amount_ranges) (G_best_attempt : Cal P w K mg base 6 "best_attempt" 3 RN.den_best_attempt) :
    FnOk P w K mg base (L2.CX P w) 7 f fd ["mode", "net", "attempts", "bound"] (spK P w K mg 4 RN.den__law_hidden) := by
  letI : HasK := ⟨K, mg, P, w⟩
  refine fn_den F sc__law_hidden rfl fun cdv A outer s H E F0 hr => ?_
  have hu := hr.units
  have tk := takes_of (X := cxOf (L2.CX P w) P w K mg base N__law_hidden "_law_hidden" (defScope s__law_hidden) f cdv A outer s H E) (E := E) rfl rfl rfl rfl
  have po := passes_of (X := cxOf (L2.CX P w) P w K mg base N__law_hidden "_law_hidden" (defScope s__law_hidden) f cdv A outer s H E) rfl
  exact ⟨_, (jss_one (js_try (i := 4) T.exk (by decide +kernel) tk sc__law_hidden.nd (fun W pn xe tk po => ⟨_, (jss_cons (js_if (jt_eq hu (jb_var 0) (JE.toB je_int)) (jss_one (js_ret (je_call W rfl G_agreeing_stocks hr (by decide) tk rfl (ja_cons (je_var 1) (ja_cons (je_var 2) (ja_cons (je_var 3) ja_nil)))))) jss_nil)
      (jss_one (js_ret (je_if (jt_eq hu (jb_var 0) (JE.toB je_int)) (je_call W rfl G_amount_ranges hr (by decide) tk rfl (ja_cons (je_var 1) (ja_cons (je_var 2) (ja_cons (je_var 3) ja_nil)))) (je_call W rfl G_best_attempt hr (by decide) tk rfl (ja_cons (je_var 1) (ja_cons (je_var 2) (ja_cons (je_var 3) ja_nil))))))))⟩) (jh_cons T.exk T.f_isinstance (by decide +kernel) (by decide +kernel) (by decide +kernel) (jh_cons T.exk T.f_isinstance (by decide +kernel) (by decide +kernel) (by decide +kernel) (jh_cons T.exk T.f_isinstance (by decide +kernel) (by decide +kernel) (by decide +kernel) jh_nil)))))⟩
abbrev N_law : List Str := ["script", "net", "bound", "attempts", "followed", "found", "asked", "due", "place", "best", "step", "here", "many", "worst", "stock", "amounts"]
theorem sc_law : FnScope N_law ["script"] (defScope s_law) := ⟨rfl, rfl, rfl, by decide +kernel, rfl, by decide +kernel, by decide +kernel⟩
theorem ok_law {f : Addr} {fd : FuncData} (T : Tx K mg) (F : Fun K "law" "law" s_law f fd) (G__law_net : Cal P w K mg base 3 "_law_net" 4 RN.den__law_net) (G__law_attempts : Cal P w K mg base 3 "_law_attempts" 4 RN.den__law_attempts) (G__law_stock : Cal P w K mg base 3 "_law_stock" 4 RN.den__law_stock) (G__law_every_stock : Cal P w K mg base 1 "_law_every_stock" 2 RN.den__law_every_stock) (G__law_follow : Cal P w K mg base 2 "_law_follow" 3 RN.den__law_follow) (G__law_hidden : Cal P w K mg base 7 "_law_hidden" 4 RN.den__law_hidden) (G__law_ready : Cal P w K mg base 1 "_law_ready" 3 RN.den__law_ready) :
    FnOk P w K mg base (L2.CX P w) 8 f fd ["script"] (spK P w K mg 1 RN.den_law_k16) := by
  letI : HasK := ⟨K, mg, P, w⟩
  refine fn_den F sc_law rfl fun cdv A outer s H E F0 hr => ?_
  have hu := hr.units
  have tk := takes_of (X := cxOf (L2.CX P w) P w K mg base N_law "law" (defScope s_law) f cdv A outer s H E) (E := E) rfl rfl rfl rfl
  have po := passes_of (X := cxOf (L2.CX P w) P w K mg base N_law "law" (defScope s_law) f cdv A outer s H E) rfl
  exact ⟨_, (jss_cons (js_set (i := 1) sc_law.nd (je_call _ rfl G__law_net hr (by decide) tk rfl (ja_cons (je_var 0) (ja_cons je_int (ja_cons je_int (ja_cons je_int ja_nil))))))
      (jss_cons (js_set (i := 2) sc_law.nd je_int)
      (jss_cons (js_set (i := 3) sc_law.nd (je_call _ rfl G__law_attempts hr (by decide) tk rfl (ja_cons (je_var 0) (ja_cons je_int (ja_cons (je_var 1) (ja_cons (je_call _ rfl G__law_stock hr (by decide) tk rfl (ja_cons (je_var 0) (ja_cons je_int (ja_cons (je_var 1) (ja_cons (je_var 2) ja_nil))))) ja_nil))))))
      (jss_cons (js_setLc (i := 4) [("stock", 14)] rfl rfl sc_law.nd (ji_seq (je_call _ rfl G__law_every_stock hr (by decide) tk rfl (ja_cons (je_var 1) (ja_cons (je_var 2) ja_nil)))) (blkOk_by (N := N_law) (sc := defScope s_law) (by decide +kernel)) (stays_name (by decide)) (fun _ _ _ _ _ => (jg_name (i := 14) sc_law.nd)) (fun _ _ _ _ _ => jts_nil) (fun _ _ _ _ _ => (je_call W0 rfl G__law_follow hr (by decide) takes0 rfl (ja_cons (je_var 1) (ja_cons (je_var 14) (ja_cons (je_var 3) ja_nil))))) (sw_true rfl rfl rfl (by decide +kernel)))
      (jss_cons (js_setLc (i := 4) [("amounts", 15)] rfl rfl sc_law.nd (ji_seq (je_var 4)) (blkOk_by (N := N_law) (sc := defScope s_law) (by decide +kernel)) (stays_name (by decide)) (fun _ _ _ _ _ => (jg_name (i := 15) sc_law.nd)) (fun _ _ _ _ _ => (jts_one (jt_notN (je_var 15)))) (fun _ _ _ _ _ => (je_var 15)) (sw_true rfl rfl rfl (by decide +kernel)))
      (jss_cons (js_set (i := 5) sc_law.nd (je_call _ rfl G__law_hidden hr (by decide) tk rfl (ja_cons je_int (ja_cons (je_var 1) (ja_cons (je_var 3) (ja_cons (je_var 2) ja_nil))))))
      (jss_cons (js_set (i := 6) sc_law.nd (je_call _ rfl G__law_hidden hr (by decide) tk rfl (ja_cons je_int (ja_cons (je_var 1) (ja_cons (je_var 3) (ja_cons (je_var 2) ja_nil))))))
      (jss_cons (js_if (jt_eq hu (jb_var 4) (JE.toB (je_lst ja_nil))) (jss_one (js_ret (je_and (je_eq hu (jb_var 5) (JE.toB je_str)) (je_one (je_eq hu (jb_var 6) (JE.toB je_str)))))) jss_nil)
      (jss_cons (js_setN (i := 7) sc_law.nd (jn_lst ja_nil))
      (jss_cons (js_for po rfl (ji_rng1 rfl T.f_range (ja_cons (je_len rfl T.f_len (jab_cons (JE.toB (je_ix hu (jb_var 1) (JE.toB je_int))) jab_nil)) ja_nil)) (jg_name (i := 8) sc_law.nd) (jss_cons (js_setLc (i := 11) [("amounts", 15)] rfl rfl sc_law.nd (ji_seq (je_var 4)) (blkOk_by (N := N_law) (sc := defScope s_law) (by decide +kernel)) (stays_name (by decide)) (fun _ _ _ _ _ => (jg_name (i := 15) sc_law.nd)) (fun _ _ _ _ _ => jts_nil) (fun _ _ _ _ _ => (je_ix hu (jb_var 15) (jb_var 8))) (sw_true rfl rfl rfl (by decide +kernel)))
      (jss_one (js_app (i := 7) (je_tup (ja_cons (je_min1 rfl T.f_min rfl (jab_cons (jb_var 11) jab_nil)) (ja_cons (je_max1 rfl T.f_max rfl (jab_cons (jb_var 11) jab_nil)) ja_nil)))))))
      (jss_cons (js_set (i := 9) sc_law.nd je_non)
      (jss_cons (js_for po rfl (ji_rng1 rfl T.f_range (ja_cons (je_ix hu (jb_var 1) (JE.toB je_int)) ja_nil)) (jg_name (i := 10) sc_law.nd) (jss_cons (js_set (i := 12) sc_law.nd (je_len rfl T.f_len (jab_cons (JE.toB (je_lc [("amounts", 15)] rfl rfl sc_law.nd (ji_seq (je_var 4)) (blkOk_by (N := N_law) (sc := defScope s_law) (by decide +kernel)) (stays_name (by decide)) (fun _ _ _ _ _ => (jg_name (i := 15) sc_law.nd)) (fun _ _ _ _ _ => (jts_one (jt_tru (JE.toB (je_call W0 rfl G__law_ready hr (by decide) takes0 rfl (ja_cons (je_var 1) (ja_cons (je_var 15) (ja_cons (je_var 10) ja_nil)))))))) (fun _ _ _ _ _ => (je_var 15)))) jab_nil)))
      (jss_cons (js_set (i := 13) sc_law.nd (je_max2 rfl T.f_max rfl (jab_cons (jb_var 12) (jab_cons (JE.toB (je_sub (JE.toB (je_len rfl T.f_len (jab_cons (jb_var 4) jab_nil))) (jb_var 12))) jab_nil))))
      (jss_one (js_if (JW.t (jw_and (jt_lt (jb_var 13) (JE.toB (je_len rfl T.f_len (jab_cons (jb_var 4) jab_nil)))) (jw_and1 (JW.t (jw_or (jt_isN (je_var 9)) (jw_or1 (jt_lt (jb_var 13) (JE.toB (je_ix hu (jb_var 9) (JE.toB je_int)))))))))) (jss_one (js_set (i := 9) sc_law.nd (je_tup (ja_cons (je_var 13) (ja_cons (je_var 10) ja_nil))))) jss_nil)))))
      (jss_one (js_ret (je_and (je_eq hu (jb_var 5) (jb_var 7)) (je_one (je_eq hu (jb_var 6) (JE.toB (je_if (jt_isN (je_var 9)) je_non (je_ix hu (jb_var 9) (JE.toB je_int)))))))))))))))))))))⟩
end K16

end
namespace K16
open PySem RD
theorem law_true (ns : List Int) (h : ns.length ≤ 63) (hb : ∀ z ∈ ns, Builtin.Int.intBits z ≤ 1048576) : RN.den_law_k16 [scrD ns] = .ok (.bool true) := RN.law_true_k16 ns
end K16
namespace K16
open PySem L2 RD
theorem facts {P : Program} {w : World} {K : PySem.W.Frag} {h : Heap} {mg : Str → Option Value} {f : Addr} (X : K.In h) (G : h.Ns mainGlobals mg) (hfa : mg ("law" : Str) = some (.ref f)) (c : He.SaysD fa fn K) (c2 : ck K = true) :
    ∃ fd : FuncData, (∀ (s : Shared) (v : Value), BindsTo s fd ⟨[v], []⟩ [("script", v)]) ∧ ∀ base : Heap, K.In base → base.Ns mainGlobals mg → FnOk P w K mg base (L2.CX P w) 8 f fd ["script"] (spK P w K mg 1 RN.den_law_k16) := by
  have T : Tx K mg := { f_bool := He.free_ok X G (c.fact 30 (f := .free "bool") rfl), f_int := He.free_ok X G (c.fact 31 (f := .free "int") rfl), f_isinstance := He.free_ok X G (c.fact 32 (f := .free "isinstance") rfl), f_len := He.free_ok X G (c.fact 33 (f := .free "len") rfl), f_max := He.free_ok X G (c.fact 34 (f := .free "max") rfl), f_min := He.free_ok X G (c.fact 35 (f := .free "min") rfl), f_range := He.free_ok X G (c.fact 36 (f := .free "range") rfl), f_tuple := He.free_ok X G (c.fact 37 (f := .free "tuple") rfl), f_zip := He.free_ok X G (c.fact 38 (f := .free "zip") rfl), i_MAX_ATTEMPTS := He.int_ok X G (c.fact 39 (f := .int "MAX_ATTEMPTS" 40) rfl), i_MAX_BOUND := He.int_ok X G (c.fact 40 (f := .int "MAX_BOUND" 9) rfl), i_MAX_CHANNELS := He.int_ok X G (c.fact 41 (f := .int "MAX_CHANNELS" 5) rfl), i_MAX_RATE := He.int_ok X G (c.fact 42 (f := .int "MAX_RATE" 4) rfl), i_MAX_STEPS := He.int_ok X G (c.fact 43 (f := .int "MAX_STEPS" 4) rfl), i_MAX_STOCKS := He.int_ok X G (c.fact 44 (f := .int "MAX_STOCKS" 2000) rfl), e_InvalidAttempts := excT_of X G (c.fact 27 (f := .glo "InvalidAttempts") rfl) (c.fact 45 (f := .exc "InvalidAttempts") rfl), e_InvalidBound := excT_of X G (c.fact 28 (f := .glo "InvalidBound") rfl) (c.fact 46 (f := .exc "InvalidBound") rfl), e_InvalidNet := excT_of X G (c.fact 26 (f := .glo "InvalidNet") rfl) (c.fact 47 (f := .exc "InvalidNet") rfl), e_TooLong := excT_of X G (c.fact 29 (f := .glo "TooLong") rfl) (c.fact 48 (f := .exc "TooLong") rfl), exk := exk_of X G c2 }
  obtain ⟨fd_in_range, D_in_range⟩ := c.def_ 0 (d := dd_in_range) rfl
  have g_in_range := He.glo_ok X G (c.fact 0 (f := .glo "in_range") rfl)
  have b_in_range : Binds K fd_in_range ["value", "low", "high"] [] := FunD.bindsN D_in_range fun _ _ _ _ _ _ us hl => match us, hl with | [_, _, _], _ => rfl
  obtain ⟨fd_is_channel, D_is_channel⟩ := c.def_ 1 (d := dd_is_channel) rfl
  have g_is_channel := He.glo_ok X G (c.fact 1 (f := .glo "is_channel") rfl)
  have b_is_channel : Binds K fd_is_channel ["steps", "value"] [] := FunD.bindsN D_is_channel fun _ _ _ _ _ _ us hl => match us, hl with | [_, _], _ => rfl
  obtain ⟨fd_is_net, D_is_net⟩ := c.def_ 2 (d := dd_is_net) rfl
  have g_is_net := He.glo_ok X G (c.fact 2 (f := .glo "is_net") rfl)
  have b_is_net : Binds K fd_is_net ["value"] [] := FunD.bindsN D_is_net fun _ _ _ _ _ _ us hl => match us, hl with | [_], _ => rfl
  obtain ⟨fd_check_net, D_check_net⟩ := c.def_ 3 (d := dd_check_net) rfl
  have g_check_net := He.glo_ok X G (c.fact 3 (f := .glo "check_net") rfl)
  have b_check_net : Binds K fd_check_net ["net"] [] := FunD.bindsN D_check_net fun _ _ _ _ _ _ us hl => match us, hl with | [_], _ => rfl
  obtain ⟨fd_is_ready, D_is_ready⟩ := c.def_ 4 (d := dd_is_ready) rfl
  have g_is_ready := He.glo_ok X G (c.fact 4 (f := .glo "is_ready") rfl)
  have b_is_ready : Binds K fd_is_ready ["net", "stock", "step"] [] := FunD.bindsN D_is_ready fun _ _ _ _ _ _ us hl => match us, hl with | [_, _, _], _ => rfl
  obtain ⟨fd_after_run, D_after_run⟩ := c.def_ 5 (d := dd_after_run) rfl
  have g_after_run := He.glo_ok X G (c.fact 5 (f := .glo "after_run") rfl)
  have b_after_run : Binds K fd_after_run ["net", "stock", "step"] [] := FunD.bindsN D_after_run fun _ _ _ _ _ _ us hl => match us, hl with | [_, _, _], _ => rfl
  obtain ⟨fd_are_attempts, D_are_attempts⟩ := c.def_ 6 (d := dd_are_attempts) rfl
  have g_are_attempts := He.glo_ok X G (c.fact 6 (f := .glo "are_attempts") rfl)
  have b_are_attempts : Binds K fd_are_attempts ["net", "value"] [] := FunD.bindsN D_are_attempts fun _ _ _ _ _ _ us hl => match us, hl with | [_, _], _ => rfl
  obtain ⟨fd_all_stocks, D_all_stocks⟩ := c.def_ 7 (d := dd_all_stocks) rfl
  have g_all_stocks := He.glo_ok X G (c.fact 7 (f := .glo "all_stocks") rfl)
  have b_all_stocks : Binds K fd_all_stocks ["places", "bound"] [] := FunD.bindsN D_all_stocks fun _ _ _ _ _ _ us hl => match us, hl with | [_, _], _ => rfl
  obtain ⟨fd_follow, D_follow⟩ := c.def_ 8 (d := dd_follow) rfl
  have g_follow := He.glo_ok X G (c.fact 8 (f := .glo "follow") rfl)
  have b_follow : Binds K fd_follow ["net", "stock", "attempts"] [] := FunD.bindsN D_follow fun _ _ _ _ _ _ us hl => match us, hl with | [_, _, _], _ => rfl
  obtain ⟨fd_check_search, D_check_search⟩ := c.def_ 9 (d := dd_check_search) rfl
  have g_check_search := He.glo_ok X G (c.fact 9 (f := .glo "check_search") rfl)
  have b_check_search : Binds K fd_check_search ["net", "attempts", "bound"] [] := FunD.bindsN D_check_search fun _ _ _ _ _ _ us hl => match us, hl with | [_, _, _], _ => rfl
  obtain ⟨fd_agreeing_stocks, D_agreeing_stocks⟩ := c.def_ 10 (d := dd_agreeing_stocks) rfl
  have g_agreeing_stocks := He.glo_ok X G (c.fact 10 (f := .glo "agreeing_stocks") rfl)
  have b_agreeing_stocks : Binds K fd_agreeing_stocks ["net", "attempts", "bound"] [] := FunD.bindsN D_agreeing_stocks fun _ _ _ _ _ _ us hl => match us, hl with | [_, _, _], _ => rfl
  obtain ⟨fd_amount_ranges, D_amount_ranges⟩ := c.def_ 11 (d := dd_amount_ranges) rfl
  have g_amount_ranges := He.glo_ok X G (c.fact 11 (f := .glo "amount_ranges") rfl)
  have b_amount_ranges : Binds K fd_amount_ranges ["net", "attempts", "bound"] [] := FunD.bindsN D_amount_ranges fun _ _ _ _ _ _ us hl => match us, hl with | [_, _, _], _ => rfl
  obtain ⟨fd_best_attempt, D_best_attempt⟩ := c.def_ 12 (d := dd_best_attempt) rfl
  have g_best_attempt := He.glo_ok X G (c.fact 12 (f := .glo "best_attempt") rfl)
  have b_best_attempt : Binds K fd_best_attempt ["net", "attempts", "bound"] [] := FunD.bindsN D_best_attempt fun _ _ _ _ _ _ us hl => match us, hl with | [_, _, _], _ => rfl
  obtain ⟨fd__law_cell, D__law_cell⟩ := c.def_ 13 (d := dd__law_cell) rfl
  have g__law_cell := He.glo_ok X G (c.fact 13 (f := .glo "_law_cell") rfl)
  have b__law_cell : Binds K fd__law_cell ["script", "k"] [] := FunD.bindsN D__law_cell fun _ _ _ _ _ _ us hl => match us, hl with | [_, _], _ => rfl
  obtain ⟨fd__law_row, D__law_row⟩ := c.def_ 14 (d := dd__law_row) rfl
  have g__law_row := He.glo_ok X G (c.fact 14 (f := .glo "_law_row") rfl)
  have b__law_row : Binds K fd__law_row ["script", "at"] [] := FunD.bindsN D__law_row fun _ _ _ _ _ _ us hl => match us, hl with | [_, _], _ => rfl
  obtain ⟨fd__law_gcd, D__law_gcd⟩ := c.def_ 15 (d := dd__law_gcd) rfl
  have g__law_gcd := He.glo_ok X G (c.fact 15 (f := .glo "_law_gcd") rfl)
  have b__law_gcd : Binds K fd__law_gcd ["one", "other"] [] := FunD.bindsN D__law_gcd fun _ _ _ _ _ _ us hl => match us, hl with | [_, _], _ => rfl
  obtain ⟨fd__law_net, D__law_net⟩ := c.def_ 16 (d := dd__law_net) rfl
  have g__law_net := He.glo_ok X G (c.fact 16 (f := .glo "_law_net") rfl)
  have b__law_net : Binds K fd__law_net ["script", "at", "most_steps", "most_channels"] [] := FunD.bindsN D__law_net fun _ _ _ _ _ _ us hl => match us, hl with | [_, _, _, _], _ => rfl
  obtain ⟨fd__law_stock, D__law_stock⟩ := c.def_ 17 (d := dd__law_stock) rfl
  have g__law_stock := He.glo_ok X G (c.fact 17 (f := .glo "_law_stock") rfl)
  have b__law_stock : Binds K fd__law_stock ["script", "at", "net", "most"] [] := FunD.bindsN D__law_stock fun _ _ _ _ _ _ us hl => match us, hl with | [_, _, _, _], _ => rfl
  obtain ⟨fd__law_ready, D__law_ready⟩ := c.def_ 18 (d := dd__law_ready) rfl
  have g__law_ready := He.glo_ok X G (c.fact 18 (f := .glo "_law_ready") rfl)
  have b__law_ready : Binds K fd__law_ready ["net", "amounts", "step"] [] := FunD.bindsN D__law_ready fun _ _ _ _ _ _ us hl => match us, hl with | [_, _, _], _ => rfl
  obtain ⟨fd__law_amounts, D__law_amounts⟩ := c.def_ 19 (d := dd__law_amounts) rfl
  have g__law_amounts := He.glo_ok X G (c.fact 19 (f := .glo "_law_amounts") rfl)
  have b__law_amounts : Binds K fd__law_amounts ["net", "stock", "counts"] [] := FunD.bindsN D__law_amounts fun _ _ _ _ _ _ us hl => match us, hl with | [_, _, _], _ => rfl
  obtain ⟨fd__law_attempts, D__law_attempts⟩ := c.def_ 20 (d := dd__law_attempts) rfl
  have g__law_attempts := He.glo_ok X G (c.fact 20 (f := .glo "_law_attempts") rfl)
  have b__law_attempts : Binds K fd__law_attempts ["script", "at", "net", "stock"] [] := FunD.bindsN D__law_attempts fun _ _ _ _ _ _ us hl => match us, hl with | [_, _, _, _], _ => rfl
  obtain ⟨fd__law_follow, D__law_follow⟩ := c.def_ 21 (d := dd__law_follow) rfl
  have g__law_follow := He.glo_ok X G (c.fact 21 (f := .glo "_law_follow") rfl)
  have b__law_follow : Binds K fd__law_follow ["net", "stock", "attempts"] [] := FunD.bindsN D__law_follow fun _ _ _ _ _ _ us hl => match us, hl with | [_, _, _], _ => rfl
  obtain ⟨fd__law_every_stock, D__law_every_stock⟩ := c.def_ 22 (d := dd__law_every_stock) rfl
  have g__law_every_stock := He.glo_ok X G (c.fact 22 (f := .glo "_law_every_stock") rfl)
  have b__law_every_stock : Binds K fd__law_every_stock ["net", "bound"] [] := FunD.bindsN D__law_every_stock fun _ _ _ _ _ _ us hl => match us, hl with | [_, _], _ => rfl
  obtain ⟨fd__law_hidden, D__law_hidden⟩ := c.def_ 23 (d := dd__law_hidden) rfl
  have g__law_hidden := He.glo_ok X G (c.fact 23 (f := .glo "_law_hidden") rfl)
  have b__law_hidden : Binds K fd__law_hidden ["mode", "net", "attempts", "bound"] [] := FunD.bindsN D__law_hidden fun _ _ _ _ _ _ us hl => match us, hl with | [_, _, _, _], _ => rfl
  obtain ⟨fd_law, D_law⟩ := c.def_ 24 (d := dd_law) rfl
  have g_law := He.glo_ok X G (c.fact 24 (f := .glo "law") rfl)
  have b_law : Binds K fd_law ["script"] [] := FunD.bindsN D_law fun _ _ _ _ _ _ us hl => match us, hl with | [_], _ => rfl
  have e := hfa.symm.trans g_law
  cases e
  have bA := FunD.bindsA (ps := ["script"]) D_law fun _ _ _ _ _ _ us hl => match us, hl with | [_], _ => rfl
  refine ⟨fd_law, fun s v => bA s [v] rfl, fun base _ _ => ?_⟩
  have G_in_range : Cal P w K mg base 1 "in_range" 3 RN.den_in_range := cal_of (ok_in_range T (fun_of D_in_range)) g_in_range D_in_range.kp b_in_range
  have G_is_channel : Cal P w K mg base 2 "is_channel" 2 RN.den_is_channel := cal_of (ok_is_channel T (fun_of D_is_channel) G_in_range) g_is_channel D_is_channel.kp b_is_channel
  have G_is_net : Cal P w K mg base 3 "is_net" 1 RN.den_is_net := cal_of (ok_is_net T (fun_of D_is_net) G_in_range G_is_channel) g_is_net D_is_net.kp b_is_net
  have G_check_net : Cal P w K mg base 4 "check_net" 1 RN.den_check_net := cal_of (ok_check_net T (fun_of D_check_net) G_is_net) g_check_net D_check_net.kp b_check_net
  have G_is_ready : Cal P w K mg base 1 "is_ready" 3 RN.den_is_ready := cal_of (ok_is_ready T (fun_of D_is_ready)) g_is_ready D_is_ready.kp b_is_ready
  have G_after_run : Cal P w K mg base 1 "after_run" 3 RN.den_after_run := cal_of (ok_after_run T (fun_of D_after_run)) g_after_run D_after_run.kp b_after_run
  have G_are_attempts : Cal P w K mg base 2 "are_attempts" 2 RN.den_are_attempts := cal_of (ok_are_attempts T (fun_of D_are_attempts) G_in_range) g_are_attempts D_are_attempts.kp b_are_attempts
  have G_all_stocks : Cal P w K mg base 1 "all_stocks" 2 RN.den_all_stocks := cal_of (ok_all_stocks T (fun_of D_all_stocks)) g_all_stocks D_all_stocks.kp b_all_stocks
  have G_follow : Cal P w K mg base 2 "follow" 3 RN.den_follow := cal_of (ok_follow T (fun_of D_follow) G_is_ready G_after_run) g_follow D_follow.kp b_follow
  have G_check_search : Cal P w K mg base 5 "check_search" 3 RN.den_check_search := cal_of (ok_check_search T (fun_of D_check_search) G_check_net G_are_attempts G_in_range) g_check_search D_check_search.kp b_check_search
  have G_agreeing_stocks : Cal P w K mg base 6 "agreeing_stocks" 3 RN.den_agreeing_stocks := cal_of (ok_agreeing_stocks T (fun_of D_agreeing_stocks) G_check_search G_all_stocks G_follow) g_agreeing_stocks D_agreeing_stocks.kp b_agreeing_stocks
  have G_amount_ranges : Cal P w K mg base 6 "amount_ranges" 3 RN.den_amount_ranges := cal_of (ok_amount_ranges T (fun_of D_amount_ranges) G_check_search G_all_stocks G_follow) g_amount_ranges D_amount_ranges.kp b_amount_ranges
  have G_best_attempt : Cal P w K mg base 6 "best_attempt" 3 RN.den_best_attempt := cal_of (ok_best_attempt T (fun_of D_best_attempt) G_check_search G_all_stocks G_follow G_is_ready) g_best_attempt D_best_attempt.kp b_best_attempt
  have G__law_cell : Cal P w K mg base 1 "_law_cell" 2 RN.den__law_cell := cal_of (ok__law_cell T (fun_of D__law_cell)) g__law_cell D__law_cell.kp b__law_cell
  have G__law_row : Cal P w K mg base 2 "_law_row" 2 RN.den__law_row := cal_of (ok__law_row T (fun_of D__law_row) G__law_cell) g__law_row D__law_row.kp b__law_row
  have G__law_gcd : Cal P w K mg base 1 "_law_gcd" 2 RN.den__law_gcd := cal_of (ok__law_gcd T (fun_of D__law_gcd)) g__law_gcd D__law_gcd.kp b__law_gcd
  have G__law_net : Cal P w K mg base 3 "_law_net" 4 RN.den__law_net := cal_of (ok__law_net T (fun_of D__law_net) G__law_row G__law_gcd) g__law_net D__law_net.kp b__law_net
  have G__law_stock : Cal P w K mg base 3 "_law_stock" 4 RN.den__law_stock := cal_of (ok__law_stock T (fun_of D__law_stock) G__law_row) g__law_stock D__law_stock.kp b__law_stock
  have G__law_ready : Cal P w K mg base 1 "_law_ready" 3 RN.den__law_ready := cal_of (ok__law_ready T (fun_of D__law_ready)) g__law_ready D__law_ready.kp b__law_ready
  have G__law_amounts : Cal P w K mg base 1 "_law_amounts" 3 RN.den__law_amounts := cal_of (ok__law_amounts T (fun_of D__law_amounts)) g__law_amounts D__law_amounts.kp b__law_amounts
  have G__law_attempts : Cal P w K mg base 3 "_law_attempts" 4 RN.den__law_attempts := cal_of (ok__law_attempts T (fun_of D__law_attempts) G__law_row G__law_ready G__law_amounts) g__law_attempts D__law_attempts.kp b__law_attempts
  have G__law_follow : Cal P w K mg base 2 "_law_follow" 3 RN.den__law_follow := cal_of (ok__law_follow T (fun_of D__law_follow) G__law_ready G__law_amounts) g__law_follow D__law_follow.kp b__law_follow
  have G__law_every_stock : Cal P w K mg base 1 "_law_every_stock" 2 RN.den__law_every_stock := cal_of (ok__law_every_stock T (fun_of D__law_every_stock)) g__law_every_stock D__law_every_stock.kp b__law_every_stock
  have G__law_hidden : Cal P w K mg base 7 "_law_hidden" 4 RN.den__law_hidden := cal_of (ok__law_hidden T (fun_of D__law_hidden) G_agreeing_stocks G_amount_ranges G_best_attempt) g__law_hidden D__law_hidden.kp b__law_hidden
  exact ok_law T (fun_of D_law) G__law_net G__law_attempts G__law_stock G__law_every_stock G__law_follow G__law_hidden G__law_ready
end K16
open PySem PySem.W PySem.Calls PyProof.Rows
set_option maxRecDepth 100000 in
set_option maxHeartbeats 0 in
theorem PySem.Challenge.cw_ratenets_k16_best_attempts_holds : PySem.Challenge.rw_ratenets_k16_best_attempts.Holds := by
  w_on; o_law
  refine HandSHeadRun.head_any (r := OpenLaw.row PySem.Challenge.rw_ratenets_k16_best_attempts) (q := view (OpenLaw.row PySem.Challenge.rw_ratenets_k16_best_attempts).prog [39]) (H := K16.hk) (ob := K16.ob) (M := 6000) (loose := K16.nms) (d := HandSHeadRun.topDef (OpenLaw.row PySem.Challenge.rw_ratenets_k16_best_attempts).prog 39) (kwd := []) (fun s => RD.obR_eq s)
    (by kernel_rfl) (fun s => by kernel_rfl) K16.run (by kernel_rfl) (by kernel_rfl) (by kernel_rfl) (by rfl) (by first | assumption | decide +kernel) (by decide +kernel) ⟨rfl, rfl, rfl, rfl, rfl, by decide +kernel⟩ ?hw ?hc
  case hw => w_witness2
  case hc =>
    refine RD.walk_ofR (l := PySem.Challenge.rw_ratenets_k16_best_attempts) (n := 63) (k := 8) (x := "script") (den := RN.den_law_k16) rfl (by decide) (by kernel_rfl) ⟨rfl, by decide, by decide⟩ ?F K16.law_true
    intro w mg fa h Y G hmg0
    obtain ⟨K, KX, c, c2⟩ := Y
    have hmg : mg ("law" : PySem.Str) = some (.ref fa) := by
      have e : (HandSHeadRun.topDef (OpenLaw.row PySem.Challenge.rw_ratenets_k16_best_attempts).prog 39).name = ("law" : PySem.Str) := by kernel_rfl
      rw [← e]
      exact hmg0
    obtain ⟨fd, hb, hFn⟩ := K16.facts (P := (PySem.Challenge.rw_ratenets_k16_best_attempts).prog) (w := w) KX G hmg c c2
    exact ⟨K, fd, KX, hb, hFn⟩
