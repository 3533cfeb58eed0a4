import PyProof.Rows.All
import Wide.All
import OpenK.AllK
import Wide.FinOn
import HandS.ForMost
import HandS.ForExc
import HandS.Deep
import HandS.Flow
import KE.SortData
import KE.KDictKeyed
import KE.KDictWalk
import HandS.TupAny
import HandS.TupLe
import HandS.TupMul
import HandS.Style
import HandS.Star
import HandS.More
import KE.DataFind
import KE.GoesMore
import HandS.Zip
import HandS.IsInst
import KE.DataIsa
import KE.DataMinMax
import KE.KDictCopyH
import HandS.Strs
import PyProof.WalksMore
import KE.SortLaws
import PyProof.TupleOfSeq
import HandS.Conv
import HandS.Dict
import PyProof.ReprReads
import PyProof.ReprRoads
import HandS.HeadEnd
import HandS.Ends
import KE.KStrBytes
import HandS.Defaults
import KE.KStateDown
import HandS.Base
import HandS.Call
import HandS.Words
import HandS.WordsExc
import HandS.Head0
import HandS.Head1
import HandS.Head2
import HandS.HeadHook1
import HandS.HeadHook2
import PySem.Challenge.RW_soonerornot_k64_whole_books_of_sets
set_option Elab.async false
set_option linter.all false
set_option maxRecDepth 100000
/-! Dy: programs over plain data. A def's text is matched, rule by rule, with a plain Lean function (its mirror) over frames of data; the heap is gone behind it. -/
namespace Dy
open PySem PySem.Spec PyProof.Rows L2

abbrev D := PyData
abbrev DEnt := D × D

/-- a datum as a key -/
def keyOf : D → Option NestedKey
  | .none => some .none
  | .bool b => some (.num (if b = true then 1 else 0))
  | .int i => some (.num i)
  | .str x => some (.text x)
  | .tuple xs => (go xs).map .tup
  | .list _ => none
  | .dict _ => none
where
  go : List D → Option (List NestedKey)
  | [] => some []
  | x :: xs => match keyOf x, go xs with
    | some k, some ks => some (k :: ks)
    | _, _ => none

/-- exactly this object stands at a -/
def IsO (a : Addr) (o : Obj) : Heap → Prop := fun h => h.get? a = some o
def dObj (es : List DictEntry) (ep : Nat) : Obj := { cls := .type "dict", data := .dict es.toArray ep }

inductive Ents (w : World) : List DEnt → List V → List V → List DictEntry → Prop
  | nil : Ents w [] [] [] []
  | cons {k d : D} {kv vv : V} {e : DictEntry} {kvs : List DEnt} {ks vs : List V} {es : List DictEntry} {nk : NestedKey} : keyOf k = some nk → nk.depth ≤ 8 → RelV kv e.key → RelV vv e.val → e.hash = nk.hash w →
      Ents w kvs ks vs es → Ents w ((k, d) :: kvs) (kv :: ks) (vv :: vs) (e :: es)

mutual
/-- the value v is the datum d -/
inductive Rep (w : World) (K : PySem.W.Frag) (G : Hp) : D → V → Prop
  | non : Rep w K G .none .non
  | bl (b : Bool) : Rep w K G (.bool b) (.bl b)
  | int (i : Int) : Rep w K G (.int i) (.int i)
  | str (x : Str) : Rep w K G (.str x) (.str x)
  | lst {a : Addr} {ds : List D} {xs : List V} : G a = some (.lst xs) → RepA w K G ds xs → Rep w K G (.list ds) (.ref a)
  | tup {a : Addr} {ds : List D} {xs : List V} : SqT K G a xs → RepA w K G ds xs → Rep w K G (.tuple ds) (.ref a)
  | dct {a : Addr} {kvs : List DEnt} {es : List DictEntry} {ep : Nat} {ks vs : List V} : G a = some (.ext (IsO a (dObj es ep))) → (a == sysModules) = false → kvs.length ≤ sizeLine → (kvs.map fun p => keyOf p.1).Nodup →
      Ents w kvs ks vs es → RepA w K G (kvs.map (·.1)) ks → RepA w K G (kvs.map (·.2)) vs → Rep w K G (.dict kvs) (.ref a)
inductive RepA (w : World) (K : PySem.W.Frag) (G : Hp) : List D → List V → Prop
  | nil : RepA w K G [] []
  | cons {d : D} {v : V} {ds : List D} {vs : List V} : Rep w K G d v → RepA w K G ds vs → RepA w K G (d :: ds) (v :: vs)
end

theorem sqT_same {K : PySem.W.Frag} {H H' : Hp} {a : Addr} {xs : List V} (e : Same H H') (h : SqT K H a xs) : SqT K H' a xs := by
  rcases h with (h | ⟨o, h⟩) | h
  · exact .inl (.inl (e _ _ h))
  · exact .inl (.inr ⟨o, e _ _ h⟩)
  · exact .inr h
section
variable {w : World} {K : PySem.W.Frag} {G G' : Hp}
mutual
theorem Rep.mono (e : Same G G') : ∀ {d : D} {v : V}, Rep w K G d v → Rep w K G' d v
  | _, _, .non => .non
  | _, _, .bl b => .bl b
  | _, _, .int i => .int i
  | _, _, .str x => .str x
  | _, _, .lst h t => .lst (e _ _ h) (RepA.mono e t)
  | _, _, .tup h t => .tup (sqT_same e h) (RepA.mono e t)
  | _, _, .dct h a b c d t u => .dct (e _ _ h) a b c d (RepA.mono e t) (RepA.mono e u)
theorem RepA.mono (e : Same G G') : ∀ {ds : List D} {vs : List V}, RepA w K G ds vs → RepA w K G' ds vs
  | _, _, .nil => .nil
  | _, _, .cons h t => .cons (Rep.mono e h) (RepA.mono e t)
end
theorem RepA.length : ∀ {ds : List D} {vs : List V}, RepA w K G ds vs → ds.length = vs.length
  | _, _, .nil => rfl
  | _, _, .cons _ t => congrArg Nat.succ (RepA.length t)
theorem RepA.append : ∀ {ds es : List D} {vs us : List V}, RepA w K G ds vs → RepA w K G es us → RepA w K G (ds ++ es) (vs ++ us)
  | _, _, _, _, .nil, s => s
  | _, _, _, _, .cons h t, s => .cons h (RepA.append t s)
theorem RepA.get : ∀ {ds : List D} {vs : List V} {i : Nat} {d : D}, RepA w K G ds vs → ds[i]? = some d → ∃ v, vs[i]? = some v ∧ Rep w K G d v
  | _, _, _, _, .nil, h => by simp at h
  | _, _, 0, _, .cons h t, e => by
    rw [List.getElem?_cons_zero] at e
    cases e
    exact ⟨_, rfl, h⟩
  | _, _, i + 1, _, .cons h t, e => by
    rw [List.getElem?_cons_succ] at e
    exact RepA.get (i := i) t e
theorem RepA.getV : ∀ {ds : List D} {vs : List V} {i : Nat} {v : V}, RepA w K G ds vs → vs[i]? = some v → ∃ d, ds[i]? = some d ∧ Rep w K G d v
  | _, _, _, _, .nil, h => by simp at h
  | _, _, 0, _, .cons h t, e => by
    rw [List.getElem?_cons_zero] at e
    cases e
    exact ⟨_, rfl, h⟩
  | _, _, i + 1, _, .cons h t, e => by
    rw [List.getElem?_cons_succ] at e
    exact RepA.getV (i := i) t e
theorem RepA.take : ∀ {ds : List D} {vs : List V} (n : Nat), RepA w K G ds vs → RepA w K G (ds.take n) (vs.take n)
  | _, _, 0, _ => .nil
  | _, _, _ + 1, .nil => .nil
  | _, _, n + 1, .cons h t => .cons h (RepA.take n t)
theorem RepA.drop : ∀ {ds : List D} {vs : List V} (n : Nat), RepA w K G ds vs → RepA w K G (ds.drop n) (vs.drop n)
  | _, _, 0, h => h
  | _, _, _ + 1, .nil => .nil
  | _, _, n + 1, .cons _ t => RepA.drop n t
theorem RepA.set {d : D} {v : V} (r : Rep w K G d v) : ∀ {ds : List D} {vs : List V} (i : Nat), RepA w K G ds vs → RepA w K G (ds.set i d) (vs.set i v)
  | _, _, _, .nil => .nil
  | _, _, 0, .cons _ t => .cons r t
  | _, _, i + 1, .cons h t => .cons h (RepA.set r i t)
theorem RepA.reverse : ∀ {ds : List D} {vs : List V}, RepA w K G ds vs → RepA w K G ds.reverse vs.reverse
  | _, _, .nil => .nil
  | _, _, .cons h t => by
    rw [List.reverse_cons, List.reverse_cons]
    exact (RepA.reverse t).append (.cons h .nil)

mutual
/-- the data without dicts are the layer's own Dp -/
theorem Rep.dp : ∀ {d : D} {v : V}, Rep w K G d v → d.canLay0 = true → Dp K G v d
  | _, _, .non, _ => .non
  | _, _, .bl b, _ => .bl b
  | _, _, .int i, _ => .int i
  | _, _, .str x, _ => .str x
  | _, _, .lst h t, c => .lst (.inl (.inl h)) (RepA.dp t (by simpa [PyData.canLay0] using c))
  | _, _, .tup h t, c => .tup h (RepA.dp t (by simpa [PyData.canLay0] using c))
  | _, _, .dct h a b c d t u, cc => by simp [PyData.canLay0] at cc
theorem RepA.dp : ∀ {ds : List D} {vs : List V}, RepA w K G ds vs → PyData.canLayAll0 ds = true → DpAll K G vs ds
  | _, _, .nil, _ => .nil
  | _, _, .cons h t, c => by
    simp only [PyData.canLayAll0, Bool.and_eq_true] at c
    exact .cons (Rep.dp h c.1) (RepA.dp t c.2)
end
end

mutual
/-- no list and no dict in it -/
def noL : D → Bool
  | .tuple xs => noLs xs
  | .list _ => false
  | .dict _ => false
  | _ => true
def noLs : List D → Bool
  | [] => true
  | x :: xs => noL x && noLs xs
end
end Dy

set_option Elab.async false
set_option linter.all false
set_option maxRecDepth 100000
namespace Dy
open PySem PySem.Spec PyProof.Rows L2

/-- what a slot holds: nothing that is known, a datum, a list or a dict of the frame's own (that may change), a handle of the outer state -/
inductive Sl where
  | non | val (d : D) | lst (l : List D) | dct (kvs : List DEnt) | hdl (k : Nat)
def Sl.own : Sl → Bool
  | .lst _ => true
  | .dct _ => true
  | _ => false
/-- what an expression gives: a datum, a new list, a new dict, the frame's own thing in slot i, a handle -/
inductive Out where
  | val (d : D) | newl (l : List D) | newd (kvs : List DEnt) | bor (i : Nat) | hdl (k : Nat)
/-- an exception: its class's name, its own field -/
structure Exn where
  cls : Str
  fld : Option (Str × D)

/-- the outer state: what it is, where it lies, its handles -/
structure Sy where
  S : Type
  W : Type
  R : W → S → Hp → (Addr → Prop) → Prop
  hv : W → Nat → V
  at_ : ∀ {wi s H fp}, R wi s H fp → ∀ a, fp a → ∃ o, H a = some o
  stay : ∀ {wi s H H' fp}, R wi s H fp → (∀ a, fp a → H' a = H a) → R wi s H' fp

abbrev Fr := List Sl
inductive Rx (S α : Type) where
  | ok (a : α) (ρ : Fr) (s : S) | ex (e : Exn) (ρ : Fr) (s : S) | bad
abbrev Re (S : Type) := Rx S Out
inductive Fl (S : Type) where
  | nx (ρ : Fr) (s : S) | rt (o : Out) (ρ : Fr) (s : S) | bk (ρ : Fr) (s : S) | ct (ρ : Fr) (s : S) | ex (e : Exn) (ρ : Fr) (s : S) | bad
abbrev ME (S : Type) := Fr → S → Re S
abbrev MT (S : Type) := Fr → S → Rx S Bool
abbrev MA (S : Type) := Fr → S → Rx S (List Out)
abbrev MS (S : Type) := Fr → S → Fl S

/-- the addresses of the frame's own things -/
def Own (σ : L2.St) (ρ : Fr) (a : Addr) : Prop := ∃ (i : Nat) (x : Sl), ρ[i]? = some x ∧ x.own = true ∧ σ[i]? = some (some (.ref a))

section
variable (w : World) (K : PySem.W.Frag)
/-- a dict at a holds kvs -/
def DctAt (H G : Hp) (a : Addr) (kvs : List DEnt) : Prop := ∃ es ep ks vs, H a = some (.ext (IsO a (dObj es ep))) ∧ (a == sysModules) = false ∧ kvs.length ≤ sizeLine ∧ (kvs.map fun p => keyOf p.1).Nodup ∧
  Ents w kvs ks vs es ∧ RepA w K G (kvs.map (·.1)) ks ∧ RepA w K G (kvs.map (·.2)) vs
def LstAt (H G : Hp) (a : Addr) (l : List D) : Prop := ∃ vs, H a = some (.lst vs) ∧ RepA w K G l vs
def SlOk (hv : Nat → V) (G H : Hp) (fp : Addr → Prop) : Sl → Option (Option V) → Prop
  | .non, _ => True
  | .val d, z => ∃ v, z = some (some v) ∧ Rep w K G d v
  | .lst l, z => ∃ a, z = some (some (.ref a)) ∧ G a = none ∧ ¬ fp a ∧ LstAt w K H G a l
  | .dct kvs, z => ∃ a, z = some (some (.ref a)) ∧ G a = none ∧ ¬ fp a ∧ DctAt w K H G a kvs
  | .hdl k, z => z = some (some (hv k))

structure Cfg (Y : Sy) (wi : Y.W) (G H : Hp) (fp : Addr → Prop) (σ : L2.St) (ρ : Fr) (s : Y.S) : Prop where
  sub : Same G H
  rs : Y.R wi s H fp
  gfp : ∀ a, fp a → G a = none
  len : σ.length = ρ.length
  slot : ∀ (i : Nat) (x : Sl), ρ[i]? = some x → SlOk w K (Y.hv wi) G H fp x σ[i]?
  dis : ∀ (i j : Nat) (a : Addr) (x y : Sl), ρ[i]? = some x → ρ[j]? = some y → x.own = true → y.own = true → σ[i]? = some (some (V.ref a)) → σ[j]? = some (some (V.ref a)) → i = j

/-- a tuple -/
def IsT (o : Option HO) : Prop := ∃ xs, o = some (.tup xs) ∨ ∃ ob, o = some (.frz ob (.tup xs))
/-- what a piece of code may change -/
structure Tr (G H : Hp) (fp O : Addr → Prop) (G' H' : Hp) (fp' : Addr → Prop) : Prop where
  gg : Same G G'
  oth : ∀ a o, H a = some o → ¬ fp a → ¬ O a → H' a = some o
  dom : ∀ a, H' a = none → H a = none
  gnew : ∀ a, G a = none → G' a = none ∨ H a = none ∨ O a ∨ IsT (H a)
  fnew : ∀ a, fp' a → fp a ∨ H a = none
  tfp : ∀ a, IsT (H' a) → fp a → IsT (H a) ∨ O a ∨ H a = none

/-- H0: the heap ahead of the code that gave it -/
def RepO (Y : Sy) (wi : Y.W) (H0 G H : Hp) (fp : Addr → Prop) (σ : L2.St) (ρ : Fr) : Out → V → Prop
  | .val d, v => Rep w K G d v
  | .newl l, v => ∃ p, v = .ref p ∧ H0 p = none ∧ G p = none ∧ ¬ fp p ∧ ¬ Own σ ρ p ∧ LstAt w K H G p l
  | .newd kvs, v => ∃ p, v = .ref p ∧ H0 p = none ∧ G p = none ∧ ¬ fp p ∧ ¬ Own σ ρ p ∧ DctAt w K H G p kvs
  | .bor i, v => σ[i]? = some (some v) ∧ ∃ x, ρ[i]? = some x ∧ x.own = true
  | .hdl k, v => v = Y.hv wi k
end

/-- slots of one kind -/
def Kin : Sl → Sl → Prop
  | .lst _, .lst _ => True
  | .dct _, .dct _ => True
  | x, y => x = y
def Sim (ρ ρ' : Fr) : Prop := ρ.length = ρ'.length ∧ ∀ (i : Nat) (x y : Sl), ρ[i]? = some x → ρ'[i]? = some y → Kin x y
theorem Kin.refl (x : Sl) : Kin x x := by cases x <;> trivial
theorem Kin.trans {x y z : Sl} (h : Kin x y) (k : Kin y z) : Kin x z := by
  cases x <;> cases y <;> first | trivial | (cases h; exact k) | (cases z <;> first | trivial | (cases k) | (cases h))
theorem Kin.own {x y : Sl} (h : Kin x y) : x.own = y.own := by
  cases x <;> cases y <;> first | rfl | (cases h; rfl) | cases h
theorem Sim.refl (ρ : Fr) : Sim ρ ρ := ⟨rfl, fun i x y h k => by
  rw [h] at k
  cases k
  exact Kin.refl x⟩
theorem Sim.trans {a b c : Fr} (h : Sim a b) (k : Sim b c) : Sim a c := ⟨h.1.trans k.1, fun i x z hx hz => by
  have hi : i < b.length := by
    have := (List.getElem?_eq_some_iff.mp hx).1
    rw [← h.1]
    exact this
  exact (h.2 i x b[i] hx (List.getElem?_eq_getElem hi)).trans (k.2 i b[i] z (List.getElem?_eq_getElem hi) hz)⟩
theorem Sim.get {a b : Fr} (h : Sim a b) {i : Nat} {x : Sl} (e : a[i]? = some x) : ∃ y, b[i]? = some y ∧ Kin x y := by
  have hi : i < b.length := by
    have := (List.getElem?_eq_some_iff.mp e).1
    rw [← h.1]
    exact this
  exact ⟨b[i], List.getElem?_eq_getElem hi, h.2 i x b[i] e (List.getElem?_eq_getElem hi)⟩
theorem Kin.symm {x y : Sl} (h : Kin x y) : Kin y x := by
  cases x <;> cases y <;> first | trivial | (cases h; rfl) | cases h
theorem Sim.symm {a b : Fr} (h : Sim a b) : Sim b a := ⟨h.1.symm, fun i x y hx hy => (h.2 i y x hy hx).symm⟩
theorem Sim.ownI {σ : L2.St} {a b : Fr} (h : Sim a b) {p : Addr} (o : Own σ b p) : Own σ a p := by
  obtain ⟨i, y, hy, ho, e⟩ := o
  obtain ⟨x, hx, k⟩ := h.symm.get hy
  exact ⟨i, x, hx, k.own ▸ ho, e⟩

section
variable {G H G' H' G'' H'' : Hp} {fp fp' fp'' O O' : Addr → Prop}
theorem Tr.refl : Tr G H fp O G H fp := ⟨fun _ _ h => h, fun _ _ h _ _ => h, fun _ h => h, fun _ h => .inl h, fun _ h => .inl h, fun _ h _ => .inl h⟩
theorem Tr.trans (a : Tr G H fp O G' H' fp') (b : Tr G' H' fp' O' G'' H'' fp'') (ho : ∀ p, O' p → O p ∨ H p = none) : Tr G H fp O G'' H'' fp'' := by
  refine ⟨a.gg.trans b.gg, fun p o h h1 h2 => ?_, fun p h => a.dom p (b.dom p h), fun p h => ?_, fun p h => ?_, fun p h hf => ?_⟩
  · have nz : H p ≠ none := by rw [h]; exact fun z => nomatch z
    refine b.oth p o (a.oth p o h h1 h2) (fun z => (a.fnew p z).elim h1 nz) (fun z => (ho p z).elim h2 nz)
  · rcases a.gnew p h with z | z
    · rcases b.gnew p z with y | y | y | y
      · exact .inl y
      · exact .inr (.inl (a.dom p y))
      · exact .inr ((ho p y).elim (fun q => .inr (.inl q)) .inl)
      · by_cases hf : fp p
        · rcases a.tfp p y hf with q | q | q
          · exact .inr (.inr (.inr q))
          · exact .inr (.inr (.inl q))
          · exact .inr (.inl q)
        · by_cases hO : O p
          · exact .inr (.inr (.inl hO))
          · cases hp : H p with
            | none => exact .inr (.inl rfl)
            | some o =>
              rw [a.oth p o hp hf hO] at y
              exact .inr (.inr (.inr y))
    · exact .inr z
  · rcases b.fnew p h with z | z
    · exact a.fnew p z
    · exact .inr (a.dom p z)
  · have back : IsT (H' p) → IsT (H p) ∨ O p ∨ H p = none := fun q => a.tfp p q hf
    have own : O' p → IsT (H p) ∨ O p ∨ H p = none := fun q => (ho p q).elim (fun z => .inr (.inl z)) fun z => .inr (.inr z)
    by_cases hf' : fp' p
    · rcases b.tfp p h hf' with q | q | q
      · exact back q
      · exact own q
      · exact .inr (.inr (a.dom p q))
    · by_cases hO : O' p
      · exact own hO
      · cases hp : H' p with
        | none => exact .inr (.inr (a.dom p hp))
        | some o =>
          rw [b.oth p o hp hf' hO, ← hp] at h
          exact back h
/-- what stood outside and is no tuple stays outside -/
theorem Tr.stays (a : Tr G H fp O G' H' fp') {p : Addr} {o : HO} (g : G p = none) (h : H p = some o) (no : ¬ O p) (nt : ¬ IsT (some o)) : G' p = none := by
  rcases a.gnew p g with z | z | z | z
  · exact z
  · rw [h] at z
    cases z
  · exact (no z).elim
  · rw [h] at z
    exact (nt z).elim
theorem Tr.wide (a : Tr G H fp O G' H' fp') (ho : ∀ p, O p → O' p) : Tr G H fp O' G' H' fp' :=
  ⟨a.gg, fun p o h h1 h2 => a.oth p o h h1 fun z => h2 (ho p z), a.dom, fun p h => (a.gnew p h).imp (fun z => z) fun z => z.imp (fun y => y) fun y => y.imp (ho p) fun x => x, a.fnew, fun p h hf => (a.tfp p h hf).imp (fun z => z) fun z => z.imp (ho p) fun y => y⟩
end

section
variable {w : World} {K : PySem.W.Frag} {Y : Sy} {wi : Y.W} {H0 G H G' H' : Hp} {fp fp' : Addr → Prop} {σ : L2.St} {ρ ρ' : Fr} {s s' : Y.S}
theorem LstAt.mono {a : Addr} {l : List D} (x : LstAt w K H G a l) (e : H' a = H a) (g : Same G G') : LstAt w K H' G' a l := by
  obtain ⟨vs, h, r⟩ := x
  exact ⟨vs, e.trans h, r.mono g⟩
theorem DctAt.mono {a : Addr} {l : List DEnt} (x : DctAt w K H G a l) (e : H' a = H a) (g : Same G G') : DctAt w K H' G' a l := by
  obtain ⟨es, ep, ks, vs, h, h1, h2, h3, h4, h5, h6⟩ := x
  exact ⟨es, ep, ks, vs, e.trans h, h1, h2, h3, h4, h5.mono g, h6.mono g⟩
theorem LstAt.there {a : Addr} {l : List D} (x : LstAt w K H G a l) : H a ≠ none := by
  obtain ⟨vs, h, _⟩ := x
  rw [h]
  exact fun z => nomatch z
theorem DctAt.there {a : Addr} {l : List DEnt} (x : DctAt w K H G a l) : H a ≠ none := by
  obtain ⟨es, ep, ks, vs, h, _⟩ := x
  rw [h]
  exact fun z => nomatch z
theorem not_isT_lst {xs : List V} : ¬ IsT (some (.lst xs)) := fun ⟨ys, h⟩ => by
  rcases h with h | ⟨ob, h⟩ <;> cases h
theorem not_isT_ext {f : Heap → Prop} : ¬ IsT (some (.ext f)) := fun ⟨ys, h⟩ => by
  rcases h with h | ⟨ob, h⟩ <;> cases h
theorem LstAt.noT {a : Addr} {l : List D} (x : LstAt w K H G a l) : ¬ IsT (H a) := by
  obtain ⟨vs, h, _⟩ := x
  rw [h]
  exact not_isT_lst
theorem DctAt.noT {a : Addr} {l : List DEnt} (x : DctAt w K H G a l) : ¬ IsT (H a) := by
  obtain ⟨es, ep, ks, vs, h, _⟩ := x
  rw [h]
  exact not_isT_ext
theorem some_of_ne {α : Type} {x : Option α} (h : x ≠ none) : ∃ a, x = some a := by
  cases x with
  | none => exact (h rfl).elim
  | some a => exact ⟨a, rfl⟩
/-- what an expression gave is kept by the next one -/
theorem RepO.keep {o : Out} {v : V} (r : RepO w K Y wi H0 G H fp σ ρ o v) (t : Tr G H fp (Own σ ρ) G' H' fp') (sim : Sim ρ ρ') : RepO w K Y wi H0 G' H' fp' σ ρ' o v := by
  cases o with
  | val d => exact Rep.mono t.gg r
  | newl l =>
    obtain ⟨p, rfl, h0, h1, h2, h3, h4⟩ := r
    obtain ⟨o, ho⟩ := some_of_ne h4.there
    refine ⟨p, rfl, h0, ?_, fun z => ?_, fun z => h3 (sim.ownI z), h4.mono ((t.oth p o ho h2 h3).trans ho.symm) t.gg⟩
    · exact t.stays h1 ho h3 (ho ▸ h4.noT)
    · exact (t.fnew p z).elim h2 h4.there
  | newd l =>
    obtain ⟨p, rfl, h0, h1, h2, h3, h4⟩ := r
    obtain ⟨o, ho⟩ := some_of_ne h4.there
    refine ⟨p, rfl, h0, ?_, fun z => ?_, fun z => h3 (sim.ownI z), h4.mono ((t.oth p o ho h2 h3).trans ho.symm) t.gg⟩
    · exact t.stays h1 ho h3 (ho ▸ h4.noT)
    · exact (t.fnew p z).elim h2 h4.there
  | bor i =>
    obtain ⟨e, x, hx, ho⟩ := r
    obtain ⟨y, hy, k⟩ := sim.get hx
    exact ⟨e, y, hy, k.own ▸ ho⟩
  | hdl k => exact r
theorem RepO.back {H1 : Hp} {o : Out} {v : V} (r : RepO w K Y wi H1 G H fp σ ρ o v) (d : ∀ a, H1 a = none → H0 a = none) : RepO w K Y wi H0 G H fp σ ρ o v := by
  cases o with
  | val d => exact r
  | newl l =>
    obtain ⟨p, rfl, h0, r⟩ := r
    exact ⟨p, rfl, d p h0, r⟩
  | newd l =>
    obtain ⟨p, rfl, h0, r⟩ := r
    exact ⟨p, rfl, d p h0, r⟩
  | bor i => exact r
  | hdl k => exact r
end
end Dy

set_option Elab.async false
set_option linter.all false
set_option maxRecDepth 100000
namespace Dy
open PySem PySem.Spec PyProof.Rows L2

/-- where a piece of code stands -/
structure CC where
  P : Program
  w : World
  K : PySem.W.Frag
  mg : Str → Option Value
  base : Heap
  N : List Str
  sc : Scope
  fnn : Str → Bool
  calm : Bool
  k : Nat
  fn : Bool

structure InC (c : CC) (X : Cx) : Prop where
  prog : X.prog = c.P
  w : X.w = c.w
  K : X.K = c.K
  mg : X.mg = c.mg
  base : X.base = c.base
  N : X.N = c.N
  sc : X.env.scope = c.sc
  fnn : X.fn = c.fnn
  calm : X.calm = c.calm
  units : X.A.units + 16 * c.k + 200 < cLine
  room : c.calm = true → Room c.k X.A
  fr : c.fn = true → X.stack = X.env :: X.outer ∧ X.env.frame = some X.env.locals ∧ PassesOwn (model X.prog X.w) X.A X.env X.xe
  nd : c.N.Nodup
  gd : X.A.guards = some []

abbrev Rel (α β : Type) := (H0 G H : Hp) → (fp : Addr → Prop) → (σ : L2.St) → (ρ : Fr) → α → β → Prop

/-- the exception as it lies -/
def RepX (c : CC) (G H : Hp) (e : Exn) (cls : Value) (dd : Option Addr) : Prop := ∃ C, c.mg e.cls = some (.ref C) ∧ cls = .ref C ∧
  match e.fld with
  | none => True
  | some (f, d) => ∃ a v, dd = some a ∧ H a = some (.xd [(f, v)]) ∧ Rep c.w c.K G d v

def Cont {α β : Type} (c : CC) (Y : Sy) (W : WX) (rel : Rel α β) (wi : Y.W) (G H : Hp) (fp : Addr → Prop) (σ : L2.St) (ρ : Fr) (Q : β → Hp → Prop) : Rx Y.S α → Prop
  | .ok a ρ' s' => ∀ G' H' fp' v, Cfg c.w c.K Y wi G' H' fp' σ ρ' s' → Sim ρ ρ' → Tr G H fp (Own σ ρ) G' H' fp' → rel H G' H' fp' σ ρ' a v → Q v H'
  | .ex e ρ' s' => ∀ G' H' fp' cls dd, Cfg c.w c.K Y wi G' H' fp' σ ρ' s' → Sim ρ ρ' → Tr G H fp (Own σ ρ) G' H' fp' → RepX c G' H' e cls dd → W cls dd σ H'
  | .bad => False

def Rx.bind {S α β : Type} : Rx S α → (α → Fr → S → Rx S β) → Rx S β
  | .ok a ρ s, k => k a ρ s
  | .ex e ρ s, _ => .ex e ρ s
  | .bad, _ => .bad

section
variable {α β γ δ : Type} {c : CC} {Y : Sy} {W : WX} {wi : Y.W} {G H G1 H1 : Hp} {fp fp1 : Addr → Prop} {σ : L2.St} {ρ ρ1 : Fr} {s s1 : Y.S} {rel : Rel α β} {rel' : Rel γ δ} {Q Q' : β → Hp → Prop} {r : Rx Y.S α}
theorem Cont.mono (h : Cont c Y W rel wi G H fp σ ρ Q r) (k : ∀ v H, Q v H → Q' v H) : Cont c Y W rel wi G H fp σ ρ Q' r := by
  cases r with
  | ok a ρ' s' => exact fun G' H' fp' v h1 h2 h3 h4 => k _ _ (h G' H' fp' v h1 h2 h3 h4)
  | ex e ρ' s' => exact h
  | bad => exact h
/-- what a part gave may be told from an earlier start -/
def Early (rel : Rel α β) : Prop := ∀ (H0 H1 G H : Hp) (fp : Addr → Prop) (σ : L2.St) (ρ : Fr) (a : α) (b : β), (∀ p, H1 p = none → H0 p = none) → rel H1 G H fp σ ρ a b → rel H0 G H fp σ ρ a b
theorem Cont.shift (er : Early rel) (h : Cont c Y W rel wi G H fp σ ρ Q r) (tr : Tr G H fp (Own σ ρ) G1 H1 fp1) (sim : Sim ρ ρ1) : Cont c Y W rel wi G1 H1 fp1 σ ρ1 Q r := by
  cases r with
  | ok a ρ' s' => exact fun G' H' fp' v h1 h2 h3 h4 => h G' H' fp' v h1 (sim.trans h2) (tr.trans h3 fun p o => .inl (sim.ownI o)) (er _ _ _ _ _ _ _ _ _ tr.dom h4)
  | ex e ρ' s' => exact fun G' H' fp' cls dd h1 h2 h3 h4 => h G' H' fp' cls dd h1 (sim.trans h2) (tr.trans h3 fun p o => .inl (sim.ownI o)) h4
  | bad => exact h
/-- the state behind a part, what the part gave, and what is still to be done -/
def Mid (c : CC) (Y : Sy) (W : WX) (rel : Rel α β) (rel' : Rel γ δ) (wi : Y.W) (G H : Hp) (fp : Addr → Prop) (σ : L2.St) (ρ : Fr) (Q : δ → Hp → Prop) (k : α → Fr → Y.S → Rx Y.S γ) (x : β) (H1 : Hp) : Prop :=
  ∃ G1 fp1 ρ1 s1 a, Cfg c.w c.K Y wi G1 H1 fp1 σ ρ1 s1 ∧ Sim ρ ρ1 ∧ Tr G H fp (Own σ ρ) G1 H1 fp1 ∧ rel H G1 H1 fp1 σ ρ1 a x ∧ Cont c Y W rel' wi G H fp σ ρ Q (k a ρ1 s1)
theorem Cont.bindL {k : α → Fr → Y.S → Rx Y.S γ} {Q : δ → Hp → Prop} (h : Cont c Y W rel' wi G H fp σ ρ Q (r.bind k)) : Cont c Y W rel wi G H fp σ ρ (Mid c Y W rel rel' wi G H fp σ ρ Q k) r := by
  cases r with
  | ok a ρ' s' => exact fun G' H' fp' v h1 h2 h3 h4 => ⟨G', fp', ρ', s', a, h1, h2, h3, h4, h⟩
  | ex e ρ' s' => exact h
  | bad => exact h
end

section
variable (c : CC) (Y : Sy)
abbrev relO (wi : Y.W) : Rel Out V := fun H0 G H fp σ ρ o v => RepO c.w c.K Y wi H0 G H fp σ ρ o v
abbrev relT : Rel Bool Bool := fun _ _ _ _ _ _ a b => a = b
inductive RepOs (wi : Y.W) (H0 G H : Hp) (fp : Addr → Prop) (σ : L2.St) (ρ : Fr) : List Out → List V → Prop
  | nil : RepOs wi H0 G H fp σ ρ [] []
  | cons {o v os vs} : RepO c.w c.K Y wi H0 G H fp σ ρ o v → RepOs wi H0 G H fp σ ρ os vs → RepOs wi H0 G H fp σ ρ (o :: os) (v :: vs)
abbrev relA (wi : Y.W) : Rel (List Out) (List V) := RepOs c Y wi
def tE (W : WX) (m : ME Y.S) : TE := fun σ H Q => ∃ wi G fp ρ s, Cfg c.w c.K Y wi G H fp σ ρ s ∧ Cont c Y W (relO c Y wi) wi G H fp σ ρ Q (m ρ s)
def tT (W : WX) (m : MT Y.S) : TT := fun σ H Q => ∃ wi G fp ρ s, Cfg c.w c.K Y wi G H fp σ ρ s ∧ Cont c Y W relT wi G H fp σ ρ Q (m ρ s)
def tA (W : WX) (m : MA Y.S) : TA := fun σ H Q => ∃ wi G fp ρ s, Cfg c.w c.K Y wi G H fp σ ρ s ∧ Cont c Y W (relA c Y wi) wi G H fp σ ρ Q (m ρ s)
def DE (e : Expr) (m : ME Y.S) : Prop := ∀ X W, InC c X → Takes X W → PE X e (tE c Y W m)
def DT (e : Expr) (m : MT Y.S) : Prop := ∀ X W, InC c X → Takes X W → PT X e (tT c Y W m)
def DW (e : Expr) (m : MT Y.S) : Prop := ∀ X W, InC c X → Takes X W → PW X e (tT c Y W m)
def DA (es : List Expr) (m : MA Y.S) : Prop := ∀ X W, InC c X → Takes X W → PA X es (tA c Y W m)

/-- behind a statement -/
def ContS (W : WX) (wi : Y.W) (G H : Hp) (fp : Addr → Prop) (σ : L2.St) (ρ : Fr) (E : Ends) : Fl Y.S → Prop
  | .nx ρ' s' => ∀ G' H' fp' σ', Cfg c.w c.K Y wi G' H' fp' σ' ρ' s' → Tr G H fp (Own σ ρ) G' H' fp' → (∀ p, Own σ' ρ' p → Own σ ρ p ∨ H p = none) → E.nx σ' H'
  | .bk ρ' s' => ∀ G' H' fp' σ', Cfg c.w c.K Y wi G' H' fp' σ' ρ' s' → Tr G H fp (Own σ ρ) G' H' fp' → (∀ p, Own σ' ρ' p → Own σ ρ p ∨ H p = none) → E.bk σ' H'
  | .ct ρ' s' => ∀ G' H' fp' σ', Cfg c.w c.K Y wi G' H' fp' σ' ρ' s' → Tr G H fp (Own σ ρ) G' H' fp' → (∀ p, Own σ' ρ' p → Own σ ρ p ∨ H p = none) → E.ct σ' H'
  | .rt o ρ' s' => ∀ G' H' fp' σ' v, Cfg c.w c.K Y wi G' H' fp' σ' ρ' s' → Tr G H fp (Own σ ρ) G' H' fp' → (∀ p, Own σ' ρ' p → Own σ ρ p ∨ H p = none) → RepO c.w c.K Y wi H G' H' fp' σ' ρ' o v → E.rt v H'
  | .ex e ρ' s' => ∀ G' H' fp' σ' cls dd, Cfg c.w c.K Y wi G' H' fp' σ' ρ' s' → Tr G H fp (Own σ ρ) G' H' fp' → (∀ p, Own σ' ρ' p → Own σ ρ p ∨ H p = none) → RepX c G' H' e cls dd → W cls dd σ' H'
  | .bad => False
def tS (W : WX) (m : MS Y.S) : TS := fun E σ H => ∃ wi G fp ρ s, Cfg c.w c.K Y wi G H fp σ ρ s ∧ ContS c Y W wi G H fp σ ρ E (m ρ s)
def DS (st : Stmt) (m : MS Y.S) : Prop := ∀ X W, InC c X → Takes X W → PS X st (tS c Y W m)
def DSs (sts : List Stmt) (m : MS Y.S) : Prop := ∀ X W, InC c X → Takes X W → PSs X sts (tS c Y W m)
end

section
variable {c : CC} {Y : Sy} {W : WX} {wi : Y.W} {G H G1 H1 : Hp} {fp fp1 : Addr → Prop} {σ σ1 : L2.St} {ρ ρ1 : Fr} {E : Ends} {f : Fl Y.S}
theorem ContS.shift (h : ContS c Y W wi G H fp σ ρ E f) (tr : Tr G H fp (Own σ ρ) G1 H1 fp1) (ho : ∀ p, Own σ1 ρ1 p → Own σ ρ p ∨ H p = none) : ContS c Y W wi G1 H1 fp1 σ1 ρ1 E f := by
  have ow : ∀ {σ' : L2.St} {ρ' : Fr}, (∀ p, Own σ' ρ' p → Own σ1 ρ1 p ∨ H1 p = none) → ∀ p, Own σ' ρ' p → Own σ ρ p ∨ H p = none := fun k p o => (k p o).elim (ho p) fun z => .inr (tr.dom p z)
  cases f with
  | nx ρ' s' => exact fun G' H' fp' σ' h1 h2 h3 => h G' H' fp' σ' h1 (tr.trans h2 ho) (ow h3)
  | bk ρ' s' => exact fun G' H' fp' σ' h1 h2 h3 => h G' H' fp' σ' h1 (tr.trans h2 ho) (ow h3)
  | ct ρ' s' => exact fun G' H' fp' σ' h1 h2 h3 => h G' H' fp' σ' h1 (tr.trans h2 ho) (ow h3)
  | rt o ρ' s' => exact fun G' H' fp' σ' v h1 h2 h3 h4 => h G' H' fp' σ' v h1 (tr.trans h2 ho) (ow h3) (h4.back tr.dom)
  | ex e ρ' s' => exact fun G' H' fp' σ' cls dd h1 h2 h3 h4 => h G' H' fp' σ' cls dd h1 (tr.trans h2 ho) (ow h3) h4
  | bad => exact h
end

theorem early_O {c : CC} {Y : Sy} {wi : Y.W} : Early (relO c Y wi) := fun _ _ _ _ _ _ _ _ _ d r => RepO.back r d
theorem early_T : Early relT := fun _ _ _ _ _ _ _ _ _ _ r => r
theorem RepOs.back {c : CC} {Y : Sy} {wi : Y.W} {H0 H1 G H : Hp} {fp : Addr → Prop} {σ : L2.St} {ρ : Fr} (d : ∀ p, H1 p = none → H0 p = none) : ∀ {os : List Out} {vs : List V}, RepOs c Y wi H1 G H fp σ ρ os vs → RepOs c Y wi H0 G H fp σ ρ os vs
  | _, _, .nil => .nil
  | _, _, .cons h t => .cons (h.back d) (RepOs.back d t)
theorem early_A {c : CC} {Y : Sy} {wi : Y.W} : Early (relA c Y wi) := fun _ _ _ _ _ _ _ _ _ d r => RepOs.back d r

theorem PE.imp {X : Cx} {e : Expr} {t t' : TE} (h : PE X e t) (k : ∀ σ H Q, t' σ H Q → t σ H Q) : PE X e t' := ⟨fun pins s σ H Q I q => h.run pins s σ H Q I (k σ H Q q)⟩
theorem PT.imp {X : Cx} {e : Expr} {t t' : TT} (h : PT X e t) (k : ∀ σ H Q, t' σ H Q → t σ H Q) : PT X e t' := ⟨fun pins s σ H Q I q => h.run pins s σ H Q I (k σ H Q q)⟩
theorem PW.imp {X : Cx} {e : Expr} {t t' : TT} (h : PW X e t) (k : ∀ σ H Q, t' σ H Q → t σ H Q) : PW X e t' := ⟨fun wh pins s σ H Q I q => h.run wh pins s σ H Q I (k σ H Q q)⟩
theorem PA.imp {X : Cx} {es : List Expr} {t t' : TA} (h : PA X es t) (k : ∀ σ H Q, t' σ H Q → t σ H Q) : PA X es t' := ⟨fun pos pins s σ H Q I q => h.run pos pins s σ H Q I (k σ H Q q)⟩
theorem PS.imp {X : Cx} {st : Stmt} {t t' : TS} (h : PS X st t) (k : ∀ D σ H, t' D σ H → t D σ H) : PS X st t' := ⟨fun pins s σ H D I q => h.run pins s σ H D I (k D σ H q)⟩
theorem PSs.imp {X : Cx} {st : List Stmt} {t t' : TS} (h : PSs X st t) (k : ∀ D σ H, t' D σ H → t D σ H) : PSs X st t' := ⟨fun pins s σ H D I q => h.run pins s σ H D I (k D σ H q)⟩
end Dy

set_option Elab.async false
set_option linter.all false
set_option maxRecDepth 100000
namespace Dy
open PySem PySem.Spec PyProof.Rows L2

/-- what an answer reads as -/
def rd (ρ : Fr) : Out → Option D
  | .val d => some d
  | .newl l => some (.list l)
  | .newd kvs => some (.dict kvs)
  | .bor i => match ρ[i]? with
    | some (.lst l) => some (.list l)
    | some (.dct kvs) => some (.dict kvs)
    | _ => none
  | .hdl _ => none
def frz : Out → Out
  | .newl l => .val (.list l)
  | .newd kvs => .val (.dict kvs)
  | o => o

section
variable (w : World) (K : PySem.W.Frag)
/-- a datum at hand: a list's or dict's own object as it stands now, all within it settled -/
def Vw (G H : Hp) : D → V → Prop
  | .list l, v => ∃ a vs, v = .ref a ∧ H a = some (.lst vs) ∧ RepA w K G l vs
  | .dict kvs, v => ∃ a, v = .ref a ∧ DctAt w K H G a kvs
  | d, v => Rep w K G d v
end

theorem same_upd {H : Hp} {p : Addr} {o : HO} (h : H p = none) : Same H (upd H p o) := fun b x e => by
  rw [upd_ne (ne_of_none e h)]
  exact e

section
variable {c : CC} {w : World} {K : PySem.W.Frag} {Y : Sy} {wi : Y.W} {H0 G H G' H' G0 : Hp} {fp fp' fp0 O : Addr → Prop} {σ : L2.St} {ρ ρ' : Fr} {s s' : Y.S} {W : WX}
theorem Vw.rep {d : D} {v : V} (e : Same G H) (h : Vw w K G H d v) : Rep w K H d v := by
  cases d with
  | list l =>
    obtain ⟨a, vs, rfl, h, r⟩ := h
    exact .lst h (r.mono e)
  | dict kvs =>
    obtain ⟨a, rfl, es, ep, ks, vs, h, h1, h2, h3, h4, h5, h6⟩ := h
    exact .dct h h1 h2 h3 h4 (h5.mono e) (h6.mono e)
  | _ => exact Rep.mono e h
theorem Rep.vw {d : D} {v : V} (e : Same G H) (h : Rep w K G d v) : Vw w K G H d v := by
  cases h with
  | lst h r => exact ⟨_, _, rfl, e _ _ h, r⟩
  | dct h a b c d t u => exact ⟨_, rfl, _, _, _, _, e _ _ h, a, b, c, d, t, u⟩
  | non => exact .non
  | bl b => exact .bl b
  | int i => exact .int i
  | str x => exact .str x
  | tup h t => exact .tup h t
theorem Cfg.vw (cfg : Cfg w K Y wi G H fp σ ρ s) {o : Out} {v : V} {d : D} (r : RepO w K Y wi H0 G H fp σ ρ o v) (e : rd ρ o = some d) : Vw w K G H d v := by
  cases o with
  | val x =>
    cases e
    exact Rep.vw cfg.sub r
  | newl l =>
    cases e
    obtain ⟨p, rfl, _, _, _, _, vs, h, q⟩ := r
    exact ⟨p, vs, rfl, h, q⟩
  | newd l =>
    cases e
    obtain ⟨p, rfl, _, _, _, _, h⟩ := r
    exact ⟨p, rfl, h⟩
  | bor i =>
    obtain ⟨e1, x, hx, ho⟩ := r
    have sl := cfg.slot i x hx
    have e : (match ρ[i]? with
      | some (.lst l) => some (PyData.list l)
      | some (.dct kvs) => some (PyData.dict kvs)
      | _ => none) = some d := e
    rw [hx] at e
    cases x with
    | lst l =>
      cases e
      obtain ⟨a, ha, _, _, vs, h, q⟩ := sl
      rw [e1] at ha
      cases ha
      exact ⟨a, vs, rfl, h, q⟩
    | dct l =>
      cases e
      obtain ⟨a, ha, _, _, h⟩ := sl
      rw [e1] at ha
      cases ha
      exact ⟨a, rfl, h⟩
    | _ => cases ho
  | hdl k => cases e

theorem own_there (cfg : Cfg w K Y wi G H fp σ ρ s) {a : Addr} (o : Own σ ρ a) : H a ≠ none ∧ G a = none ∧ ¬ fp a := by
  obtain ⟨i, x, hx, ho, e⟩ := o
  have sl := cfg.slot i x hx
  cases x with
  | lst l =>
    obtain ⟨b, hb, h1, h2, h3⟩ := sl
    rw [e] at hb
    cases hb
    exact ⟨h3.there, h1, h2⟩
  | dct l =>
    obtain ⟨b, hb, h1, h2, h3⟩ := sl
    rw [e] at hb
    cases hb
    exact ⟨h3.there, h1, h2⟩
  | _ => cases ho

theorem own_noT (cfg : Cfg w K Y wi G H fp σ ρ s) {a : Addr} (o : Own σ ρ a) : ¬ IsT (H a) := by
  obtain ⟨i, x, hx, ho, e⟩ := o
  have sl := cfg.slot i x hx
  cases x with
  | lst l =>
    obtain ⟨b, hb, h1, h2, h3⟩ := sl
    rw [e] at hb
    cases hb
    exact h3.noT
  | dct l =>
    obtain ⟨b, hb, h1, h2, h3⟩ := sl
    rw [e] at hb
    cases hb
    exact h3.noT
  | _ => cases ho
/-- a thing that stands by itself is settled -/
theorem Cfg.grow (cfg : Cfg w K Y wi G H fp σ ρ s) {p : Addr} {u : HO} (hp : H p = some u) (g : G p = none) (f : ¬ fp p) (o : ¬ Own σ ρ p) : Cfg w K Y wi (upd G p u) H fp σ ρ s := by
  have sg : Same G (upd G p u) := same_upd g
  refine ⟨fun a x h => ?_, cfg.rs, fun a h => ?_, cfg.len, fun i x hx => ?_, cfg.dis⟩
  · by_cases e : a = p
    · subst e
      rw [upd_same] at h
      cases h
      exact hp
    · rw [upd_ne e] at h
      exact cfg.sub a x h
  · rw [upd_ne fun e => f (by rw [← e]; exact h)]
    exact cfg.gfp a h
  · have sl := cfg.slot i x hx
    cases x with
    | non => trivial
    | val d =>
      obtain ⟨v, h, r⟩ := sl
      exact ⟨v, h, r.mono sg⟩
    | lst l =>
      obtain ⟨b, hb, h1, h2, h3⟩ := sl
      refine ⟨b, hb, ?_, h2, h3.mono rfl sg⟩
      rw [upd_ne fun e => o (by rw [← e]; exact ⟨i, _, hx, rfl, hb⟩)]
      exact h1
    | dct l =>
      obtain ⟨b, hb, h1, h2, h3⟩ := sl
      refine ⟨b, hb, ?_, h2, h3.mono rfl sg⟩
      rw [upd_ne fun e => o (by rw [← e]; exact ⟨i, _, hx, rfl, hb⟩)]
      exact h1
    | hdl k => exact sl
theorem Tr.grow (tr : Tr G0 H0 fp0 O G H fp) {p : Addr} {u : HO} (g : G p = none) (h : H0 p = none) : Tr G0 H0 fp0 O (upd G p u) H fp := by
  refine ⟨tr.gg.trans (same_upd g), tr.oth, tr.dom, fun a ha => ?_, tr.fnew, tr.tfp⟩
  by_cases e : a = p
  · subst e
    exact .inr (.inl h)
  · rw [upd_ne e]
    exact tr.gnew a ha
theorem frz_ok (cfg : Cfg w K Y wi G H fp σ ρ s) (tr : Tr G0 H0 fp0 O G H fp) {o : Out} {v : V} (r : RepO w K Y wi H0 G H fp σ ρ o v) : ∃ G1, Cfg w K Y wi G1 H fp σ ρ s ∧ Tr G0 H0 fp0 O G1 H fp ∧ RepO w K Y wi H0 G1 H fp σ ρ (frz o) v ∧ Same G G1 := by
  cases o with
  | newl l =>
    obtain ⟨p, rfl, h0, h1, h2, h3, vs, h, q⟩ := r
    exact ⟨upd G p (.lst vs), cfg.grow h h1 h2 h3, tr.grow h1 h0, .lst upd_same (q.mono (same_upd h1)), same_upd h1⟩
  | newd l =>
    obtain ⟨p, rfl, h0, h1, h2, h3, es, ep, ks, vs, h, q1, q2, q3, q4, q5, q6⟩ := r
    exact ⟨upd G p _, cfg.grow h h1 h2 h3, tr.grow h1 h0, .dct upd_same q1 q2 q3 q4 (q5.mono (same_upd h1)) (q6.mono (same_upd h1)), same_upd h1⟩
  | val d => exact ⟨G, cfg, tr, r, fun _ _ h => h⟩
  | bor i => exact ⟨G, cfg, tr, r, fun _ _ h => h⟩
  | hdl k => exact ⟨G, cfg, tr, r, fun _ _ h => h⟩

/-- a new object -/
theorem Cfg.laid (cfg : Cfg w K Y wi G H fp σ ρ s) {p : Addr} {u : HO} (hp : H p = none) : Cfg w K Y wi G (upd H p u) fp σ ρ s := by
  have keep : ∀ a, H a ≠ none → upd H p u a = H a := fun a h => upd_ne fun e => h (by rw [e]; exact hp)
  refine ⟨fun a x h => ?_, ?_, cfg.gfp, cfg.len, fun i x hx => ?_, cfg.dis⟩
  · have z := cfg.sub a x h
    rw [keep a (by rw [z]; exact fun q => nomatch q)]
    exact z
  · refine Y.stay cfg.rs fun a h => keep a ?_
    obtain ⟨o, e⟩ := Y.at_ cfg.rs a h
    rw [e]
    exact fun q => nomatch q
  · have sl := cfg.slot i x hx
    cases x with
    | non => trivial
    | val d => exact sl
    | lst l =>
      obtain ⟨b, hb, h1, h2, h3⟩ := sl
      exact ⟨b, hb, h1, h2, h3.mono (keep b h3.there) fun _ _ h => h⟩
    | dct l =>
      obtain ⟨b, hb, h1, h2, h3⟩ := sl
      exact ⟨b, hb, h1, h2, h3.mono (keep b h3.there) fun _ _ h => h⟩
    | hdl k => exact sl
theorem Tr.laid (tr : Tr G0 H0 fp0 O G H fp) {p : Addr} {u : HO} (hp : H p = none) : Tr G0 H0 fp0 O G (upd H p u) fp := by
  refine ⟨tr.gg, fun a o h h1 h2 => ?_, fun a h => ?_, tr.gnew, tr.fnew, fun a h hf => ?_⟩
  rotate_left 2
  · by_cases e : a = p
    · exact .inr (.inr (tr.dom a (by rw [e]; exact hp)))
    · rw [upd_ne e] at h
      exact tr.tfp a h hf
  · have z := tr.oth a o h h1 h2
    rw [upd_ne (ne_of_none z hp)]
    exact z
  · by_cases e : a = p
    · subst e
      rw [upd_same] at h
      cases h
    · rw [upd_ne e] at h
      exact tr.dom a h
theorem Cfg.free (cfg : Cfg w K Y wi G H fp σ ρ s) {p : Addr} (hp : H p = none) : G p = none ∧ ¬ fp p ∧ ¬ Own σ ρ p :=
  ⟨Same.free cfg.sub hp, (fun z => by
    obtain ⟨o, e⟩ := Y.at_ cfg.rs p z
    rw [hp] at e
    cases e), fun z => (own_there cfg z).1 hp⟩
theorem frz_any {H1 : Hp} {o : Out} {v : V} (r : RepO w K Y wi H0 G H fp σ ρ (frz o) v) : RepO w K Y wi H1 G H fp σ ρ (frz o) v := by cases o <;> exact r

/-! ends -/
variable {Q : V → Hp → Prop}
theorem fin_val (cfg : Cfg c.w c.K Y wi G H fp σ ρ s) {d : D} {v : V} (k : Cont c Y W (relO c Y wi) wi G H fp σ ρ Q (.ok (.val d) ρ s)) (r : Rep c.w c.K G d v) : Q v H :=
  k G H fp v cfg (Sim.refl ρ) Tr.refl r
theorem fin_tup (cfg : Cfg c.w c.K Y wi G H fp σ ρ s) {l : List D} {vs : List V} (k : Cont c Y W (relO c Y wi) wi G H fp σ ρ Q (.ok (.val (.tuple l)) ρ s)) (r : RepA c.w c.K G l vs) {p : Addr} (hp : H p = none) : Q (.ref p) (upd H p (.tup vs)) := by
  have f := cfg.free hp
  refine k (upd G p (.tup vs)) _ fp _ ((cfg.laid hp).grow upd_same f.1 f.2.1 f.2.2) (Sim.refl ρ) ((Tr.refl.laid hp).grow f.1 hp) ?_
  exact .tup (.inl (.inl upd_same)) (r.mono (same_upd f.1))
theorem fin_lst (cfg : Cfg c.w c.K Y wi G H fp σ ρ s) {l : List D} {vs : List V} (k : Cont c Y W (relO c Y wi) wi G H fp σ ρ Q (.ok (.newl l) ρ s)) (r : RepA c.w c.K G l vs) {p : Addr} (hp : H p = none) : Q (.ref p) (upd H p (.lst vs)) := by
  have f := cfg.free hp
  exact k G _ fp _ (cfg.laid hp) (Sim.refl ρ) (Tr.refl.laid hp) ⟨p, rfl, hp, f.1, f.2.1, f.2.2, vs, upd_same, r⟩
end

/-! ### expressions -/
section
variable {S : Type}
def eC (d : D) : ME S := fun ρ s => .ok (.val d) ρ s
def eVar (i : Nat) : ME S := fun ρ s => match ρ[i]? with
  | some (.val d) => .ok (.val d) ρ s
  | some (.lst _) => .ok (.bor i) ρ s
  | some (.dct _) => .ok (.bor i) ρ s
  | some (.hdl k) => .ok (.hdl k) ρ s
  | _ => .bad
def Rx.of {α : Type} (o : Option α) (ρ : Fr) (s : S) : Rx S α := match o with
  | some a => .ok a ρ s
  | none => .bad
def eBin (f : D → D → Option Out) (a b : ME S) : ME S := fun ρ s => (a ρ s).bind fun x ρ s => (b ρ s).bind fun y ρ s => .of ((rd ρ x).bind fun d => (rd ρ y).bind fun e => f d e) ρ s
def eUn (f : D → Option Out) (a : ME S) : ME S := fun ρ s => (a ρ s).bind fun x ρ s => .of ((rd ρ x).bind f) ρ s
def aNil : MA S := fun ρ s => .ok [] ρ s
def aCons (a : ME S) (r : MA S) : MA S := fun ρ s => (a ρ s).bind fun x ρ s => (r ρ s).bind fun xs ρ s => .ok (frz x :: xs) ρ s
/-- plain data alone -/
def vals : List Out → Option (List D)
  | [] => some []
  | .val d :: r => (vals r).map (d :: ·)
  | _ :: _ => none
def sizeOk (n : Nat) : Bool := decide (n ≤ 16777216)
def eTup (a : MA S) : ME S := fun ρ s => (a ρ s).bind fun xs ρ s => .of ((vals xs).bind fun l => if sizeOk l.length then some (.val (.tuple l)) else none) ρ s
def eLst (a : MA S) : ME S := fun ρ s => (a ρ s).bind fun xs ρ s => .of ((vals xs).bind fun l => if sizeOk l.length then some (.newl l) else none) ρ s
end

section
variable {c : CC} {Y : Sy} {a b e : Expr} {es : List Expr} {ma mb me : ME Y.S} {mr : MA Y.S} {pos : Pos}
theorem sizeOk_le {n : Nat} (h : sizeOk n = true) : n ≤ sizeLine := by
  rw [sizeLine_eq]
  exact of_decide_eq_true h
theorem de_c {v : V} {d : D} (h : ∀ X, InC c X → PE X e (tC v)) (r : ∀ G, Rep c.w c.K G d v) : DE c Y e (eC d) := fun X W ic tk => by
  refine PE.imp (h X ic) ?_
  rintro σ H Q ⟨wi, G, fp, ρ, s, cfg, k⟩
  exact fin_val cfg k (r G)
theorem de_int {i : Int} {j} : DE c Y (.Constant (.int i) j pos) (eC (.int i)) := de_c (fun _ _ => pe_int) fun _ => .int i
theorem de_bl {i : Bool} {j} : DE c Y (.Constant (.bool i) j pos) (eC (.bool i)) := de_c (fun _ _ => pe_bl) fun _ => .bl i
theorem de_non {j} : DE c Y (.Constant .none j pos) (eC .none) := de_c (fun _ _ => pe_non) fun _ => .non
theorem de_str {x : Str} {j} : DE c Y (.Constant (.str x) j pos) (eC (.str x)) := de_c (fun _ _ => pe_str) fun _ => .str x
theorem de_var (i : Nat) {x : Str} (hN : c.N[i]? = some x := by rfl) (hv : Vis c.sc x := by first | exact Or.inl rfl | exact Or.inr (Or.inl rfl) | exact Or.inr (Or.inr rfl)) (hd : (x == ("__debug__" : Str)) = false := by decide)
    (hcd : (x == ("__classdict__" : Str)) = false := by decide) : DE c Y (.Name x pos) (eVar i) := fun X W ic tk => by
  refine PE.imp (pe_var (i := i) (by rw [ic.N]; exact hN) (by rw [ic.sc]; exact hv) hd hcd) ?_
  rintro σ H Q ⟨wi, G, fp, ρ, s, cfg, k⟩
  unfold eVar at k
  cases h : ρ[i]? with
  | none =>
    rw [h] at k
    exact k.elim
  | some x =>
    rw [h] at k
    have sl := cfg.slot i x h
    cases x with
    | non => exact k.elim
    | val d =>
      obtain ⟨v, hv, r⟩ := sl
      exact ⟨v, hv, k G H fp v cfg (Sim.refl ρ) Tr.refl r⟩
    | lst l =>
      obtain ⟨p, hv, r⟩ := sl
      exact ⟨_, hv, k G H fp _ cfg (Sim.refl ρ) Tr.refl ⟨hv, _, h, rfl⟩⟩
    | dct l =>
      obtain ⟨p, hv, r⟩ := sl
      exact ⟨_, hv, k G H fp _ cfg (Sim.refl ρ) Tr.refl ⟨hv, _, h, rfl⟩⟩
    | hdl j =>
      exact ⟨_, sl, k G H fp _ cfg (Sim.refl ρ) Tr.refl rfl⟩

/-- an operation of two values keeps to f -/
def Snd2 (c : CC) (r : R2) (f : D → D → Option Out) : Prop := ∀ (Y : Sy) (W : WX) (wi : Y.W) (G H : Hp) (fp : Addr → Prop) (σ : L2.St) (ρ : Fr) (s : Y.S) (x y : D) (v u : V) (o : Out) (Q : VK), Cfg c.w c.K Y wi G H fp σ ρ s → Vw c.w c.K G H x v → Vw c.w c.K G H y u → f x y = some o →
  Cont c Y W (relO c Y wi) wi G H fp σ ρ Q (.ok o ρ s) → r v u H Q
def Snd1 (c : CC) (r : V → Hp → VK → Prop) (f : D → Option Out) : Prop := ∀ (Y : Sy) (W : WX) (wi : Y.W) (G H : Hp) (fp : Addr → Prop) (σ : L2.St) (ρ : Fr) (s : Y.S) (x : D) (v : V) (o : Out) (Q : VK), Cfg c.w c.K Y wi G H fp σ ρ s → Vw c.w c.K G H x v → f x = some o →
  Cont c Y W (relO c Y wi) wi G H fp σ ρ Q (.ok o ρ s) → r v H Q
theorem of_some {α β : Type} {c : CC} {Y : Sy} {W : WX} {wi : Y.W} {G H : Hp} {fp : Addr → Prop} {σ : L2.St} {ρ ρ' : Fr} {s' : Y.S} {rel : Rel α β} {Q : β → Hp → Prop} {o : Option α} (k : Cont c Y W rel wi G H fp σ ρ Q (.of o ρ' s')) : ∃ a, o = some a ∧ Cont c Y W rel wi G H fp σ ρ Q (.ok a ρ' s') := by
  cases o with
  | none => exact k.elim
  | some a => exact ⟨a, rfl, k⟩
/-- the reading of two parts and an operation -/
theorem bin_imp {W : WX} {r : R2} {f : D → D → Option Out} (hs : Snd2 c r f) {σ : L2.St} {H : Hp} {Q : VK} (h : tE c Y W (eBin f ma mb) σ H Q) : tOp r (tE c Y W ma) (tE c Y W mb) σ H Q := by
  obtain ⟨wi, G, fp, ρ, s, cfg, k⟩ := h
  refine ⟨wi, G, fp, ρ, s, cfg, (Cont.bindL k).mono fun x H1 ⟨G1, fp1, ρ1, s1, o1, cfg1, sim1, tr1, r1, k1⟩ => ?_⟩
  refine ⟨wi, G1, fp1, ρ1, s1, cfg1, (Cont.bindL (k1.shift early_O tr1 sim1)).mono fun y H2 ⟨G2, fp2, ρ2, s2, o2, cfg2, sim2, tr2, r2, k2⟩ => ?_⟩
  obtain ⟨o, eo, k3⟩ := of_some (k2.shift early_O tr2 sim2)
  have r1' := r1.keep tr2 sim2
  cases e1 : rd ρ2 o1 with
  | none =>
    rw [e1] at eo
    cases eo
  | some d1 =>
    cases e2 : rd ρ2 o2 with
    | none =>
      rw [e1, e2] at eo
      cases eo
    | some d2 =>
      rw [e1, e2] at eo
      exact hs Y W wi G2 H2 fp2 σ ρ2 s2 d1 d2 x y o Q cfg2 (cfg2.vw r1' e1) (cfg2.vw r2 e2) eo k3
theorem un_imp {W : WX} {r : V → Hp → VK → Prop} {f : D → Option Out} (hs : Snd1 c r f) {σ : L2.St} {H : Hp} {Q : VK} (h : tE c Y W (eUn f ma) σ H Q) : tE c Y W ma σ H fun v H1 => r v H1 Q := by
  obtain ⟨wi, G, fp, ρ, s, cfg, k⟩ := h
  refine ⟨wi, G, fp, ρ, s, cfg, (Cont.bindL k).mono fun x H1 ⟨G1, fp1, ρ1, s1, o1, cfg1, sim1, tr1, r1, k1⟩ => ?_⟩
  obtain ⟨o, eo, k3⟩ := of_some (k1.shift early_O tr1 sim1)
  cases e1 : rd ρ1 o1 with
  | none =>
    rw [e1] at eo
    cases eo
  | some d1 =>
    rw [e1] at eo
    exact hs Y W wi G1 H1 fp1 σ ρ1 s1 d1 x o Q cfg1 (cfg1.vw r1 e1) eo k3
theorem de_bin {op : Operator} {r : R2} {f : D → D → Option Out} (ho : ∀ X, InC c X → OpR X (binaryOp op) r) (hs : Snd2 c r f) (ha : DE c Y a ma) (hb : DE c Y b mb) : DE c Y (.BinOp a op b pos) (eBin f ma mb) := fun X W ic tk =>
  PE.imp (pe_op (ho X ic) (ha X W ic tk) (hb X W ic tk)) fun _ _ _ h => bin_imp hs h
theorem de_un {op : UnaryOp} {r : V → Hp → VK → Prop} {f : D → Option Out} (ho : ∀ X, InC c X → UnR X (unaryOp op) r) (hs : Snd1 c r f) (ha : DE c Y a ma) : DE c Y (.UnaryOp op a pos) (eUn f ma) := fun X W ic tk =>
  PE.imp (pe_un (ho X ic) (ha X W ic tk)) fun _ _ _ h => un_imp hs h

theorem da_nil : DA c Y [] aNil := fun X W ic tk => PA.imp pa_nil (by
  rintro σ H Q ⟨wi, G, fp, ρ, s, cfg, k⟩
  exact k G H fp [] cfg (Sim.refl ρ) Tr.refl .nil)
theorem RepOs.keep {wi : Y.W} {H0 G H G' H' : Hp} {fp fp' : Addr → Prop} {σ : L2.St} {ρ ρ' : Fr} (t : Tr G H fp (Own σ ρ) G' H' fp') (sim : Sim ρ ρ') : ∀ {os : List Out} {vs : List V}, RepOs c Y wi H0 G H fp σ ρ os vs → RepOs c Y wi H0 G' H' fp' σ ρ' os vs
  | _, _, .nil => .nil
  | _, _, .cons h r => .cons (h.keep t sim) (RepOs.keep t sim r)
theorem da_cons (ha : DE c Y e me) (hr : DA c Y es mr) (hs : ∀ env, starEach (e :: es) env = (false, eval e env) :: starEach es env := by intro _; rfl) : DA c Y (e :: es) (aCons me mr) := fun X W ic tk => by
  refine PA.imp (pa_cons (ha X W ic tk) (hr X W ic tk) (hs _)) ?_
  rintro σ H Q ⟨wi, G, fp, ρ, s, cfg, k⟩
  refine ⟨wi, G, fp, ρ, s, cfg, (Cont.bindL k).mono fun x H1 ⟨G1, fp1, ρ1, s1, o1, cfg1, sim1, tr1, r1, k1⟩ => ?_⟩
  obtain ⟨G2, cfg2, tr2, r2, gg⟩ := frz_ok cfg1 tr1 r1
  refine ⟨wi, G2, fp1, ρ1, s1, cfg2, (Cont.bindL (k1.shift early_A tr2 sim1)).mono fun xs H3 ⟨G3, fp3, ρ3, s3, os, cfg3, sim3, tr3, r3, k3⟩ => ?_⟩
  exact k3 G3 H3 fp3 _ cfg3 sim3 tr3 (.cons ((frz_any r2).keep tr3 sim3) r3)
end
end Dy

set_option Elab.async false
set_option linter.all false
set_option maxRecDepth 100000
namespace Dy
open PySem PySem.Spec PyProof.Rows L2

theorem OpR.or {X : Cx} {f : Value → Value → Sem Value} {r r' : R2} (h : OpR X f r) (h' : OpR X f r') : OpR X f fun x y H Q => r x y H Q ∨ r' x y H Q := fun pins s σ H x y v u Q I rx ry q => q.elim (h pins s σ H x y v u Q I rx ry) (h' pins s σ H x y v u Q I rx ry)
theorem Snd2.or {c : CC} {r r' : R2} {f f' : D → D → Option Out} (h : Snd2 c r f) (h' : Snd2 c r' f') : Snd2 c (fun x y H Q => r x y H Q ∨ r' x y H Q) fun x y => (f x y).or (f' x y) := fun Y W wi G H fp σ ρ s x y v u o Q cfg vx vy e k => by
  have e : (f x y).or (f' x y) = some o := e
  cases ef : f x y with
  | some o' =>
    rw [ef] at e
    cases e
    exact .inl (h Y W wi G H fp σ ρ s x y v u o Q cfg vx vy ef k)
  | none =>
    rw [ef] at e
    exact .inr (h' Y W wi G H fp σ ρ s x y v u o Q cfg vx vy e k)
section
variable {c : CC}
/-- ints alone -/
def onI (f : Int → Int → Option D) : D → D → Option Out
  | .int i, .int j => (f i j).map .val
  | _, _ => none
theorem vw_int {w : World} {K : PySem.W.Frag} {G H : Hp} {i : Int} {v : V} (h : Vw w K G H (.int i) v) : v = .int i := by
  cases (show Rep w K G (.int i) v from h)
  rfl
theorem vw_bl {w : World} {K : PySem.W.Frag} {G H : Hp} {i : Bool} {v : V} (h : Vw w K G H (.bool i) v) : v = .bl i := by
  cases (show Rep w K G (.bool i) v from h)
  rfl
theorem vw_non {w : World} {K : PySem.W.Frag} {G H : Hp} {v : V} (h : Vw w K G H .none v) : v = .non := by
  cases (show Rep w K G .none v from h)
  rfl
theorem vw_str {w : World} {K : PySem.W.Frag} {G H : Hp} {i : Str} {v : V} (h : Vw w K G H (.str i) v) : v = .str i := by
  cases (show Rep w K G (.str i) v from h)
  rfl
theorem vw_tup {w : World} {K : PySem.W.Frag} {G H : Hp} {l : List D} {v : V} (h : Vw w K G H (.tuple l) v) : ∃ a vs, v = .ref a ∧ SqT K G a vs ∧ RepA w K G l vs := by
  have h : Rep w K G (.tuple l) v := h
  cases h with
  | tup h1 t => exact ⟨_, _, rfl, h1, t⟩
theorem snd_I {f : Int → Int → Option D} {C : Int → Int → Prop} {g : Int → Int → V} (hf : ∀ i j d, f i j = some d → C i j ∧ ∀ w K G, Rep w K G d (g i j)) : Snd2 c (rI C g) (onI f) := fun Y W wi G H fp σ ρ s x y v u o Q cfg vx vy e k => by
  unfold onI at e
  split at e
  · rename_i i j
    cases ef : f i j with
    | none =>
      rw [ef] at e
      cases e
    | some d =>
      rw [ef] at e
      cases e
      obtain ⟨h1, h2⟩ := hf i j d ef
      exact ⟨i, j, vw_int vx, vw_int vy, h1, fin_val cfg k (h2 _ _ _)⟩
  · cases e
theorem snd_I0 {f : Int → Int → D} {g : Int → Int → V} (hf : ∀ i j w K G, Rep w K G (f i j) (g i j)) : Snd2 c (rI0 g) (onI fun i j => some (f i j)) := fun Y W wi G H fp σ ρ s x y v u o Q cfg vx vy e k => by
  unfold onI at e
  split at e
  · rename_i i j
    cases e
    exact ⟨i, j, vw_int vx, vw_int vy, fin_val cfg k (hf _ _ _ _ _)⟩
  · cases e

/-! + -/
def catT : D → D → Option Out
  | .tuple a, .tuple b => if sizeOk (a.length + b.length) then some (.val (.tuple (a ++ b))) else none
  | _, _ => none
def catL : D → D → Option Out
  | .list a, .list b => if sizeOk (a.length + b.length) then some (.newl (a ++ b)) else none
  | _, _ => none
def catS : D → D → Option Out
  | .str a, .str b => if sizeOk (a.length + b.length) then some (.val (.str (a ++ b))) else none
  | _, _ => none
theorem snd_catT : Snd2 c (rCatA c.K) catT := fun Y W wi G H fp σ ρ s x y v u o Q cfg vx vy e k => by
  unfold catT at e
  split at e
  · rename_i a b
    split at e
    · rename_i hz
      cases e
      obtain ⟨p, vs, rfl, h1, r1⟩ := vw_tup vx
      obtain ⟨q, us, rfl, h2, r2⟩ := vw_tup vy
      have hl := r1.length
      have hl2 := r2.length
      refine ⟨p, q, vs, us, rfl, rfl, sqT_same cfg.sub h1, sqT_same cfg.sub h2, by rw [← hl, ← hl2]; exact sizeOk_le hz, fun z => ?_, fun z z2 => ?_, fun _ _ p' hp => fin_tup cfg k (r1.append r2) hp⟩
      · subst z
        cases r1
        exact fin_val cfg k (.tup h2 r2)
      · subst z2
        cases r2
        rw [List.append_nil] at k
        exact fin_val cfg k (.tup h1 r1)
    · cases e
  · cases e
theorem snd_catL : Snd2 c rCat catL := fun Y W wi G H fp σ ρ s x y v u o Q cfg vx vy e k => by
  unfold catL at e
  split at e
  · rename_i a b
    split at e
    · rename_i hz
      cases e
      obtain ⟨p, vs, rfl, h1, r1⟩ := vx
      obtain ⟨q, us, rfl, h2, r2⟩ := vy
      have hl := r1.length
      have hl2 := r2.length
      exact ⟨p, q, vs, us, rfl, rfl, h1, h2, by rw [← hl, ← hl2]; exact sizeOk_le hz, fun p' hp => fin_lst cfg k (r1.append r2) hp⟩
    · cases e
  · cases e
theorem snd_catS : Snd2 c (fun x y H Q => ∃ i j, x = .str i ∧ y = .str j ∧ i.length + j.length ≤ sizeLine ∧ Q (.str (i ++ j)) H) catS := fun Y W wi G H fp σ ρ s x y v u o Q cfg vx vy e k => by
  unfold catS at e
  split at e
  · rename_i a b
    split at e
    · rename_i hz
      cases e
      exact ⟨a, b, vw_str vx, vw_str vy, sizeOk_le hz, fin_val cfg k (.str _)⟩
    · cases e
  · cases e
def addD : D → D → Option Out := fun x y => (onI (fun i j => some (.int (i + j))) x y).or ((catT x y).or ((catL x y).or (catS x y)))
section
variable {Y : Sy} {a b : Expr} {ma mb : ME Y.S} {pos : Pos}
theorem de_add (ha : DE c Y a ma) (hb : DE c Y b mb) : DE c Y (.BinOp a .Add b pos) (eBin addD ma mb) :=
  de_bin (fun X ic => OpR.or op_add (OpR.or (by rw [← ic.K]; exact op_catA) (OpR.or op_cat op_add_str))) ((snd_I0 fun i j w K G => .int (i + j)).or (snd_catT.or (snd_catL.or snd_catS))) ha hb
def subD := onI fun i j => some (.int (i - j))
theorem de_sub (ha : DE c Y a ma) (hb : DE c Y b mb) : DE c Y (.BinOp a .Sub b pos) (eBin subD ma mb) := de_bin (fun X ic => op_sub) (snd_I0 fun i j w K G => .int (i - j)) ha hb
/-! * -/
def within64 (i : Int) : Bool := decide (-18446744073709551616 < i) && decide (i < 18446744073709551616)
def mulI := onI fun i j => if within64 i || within64 j then some (.int (i * j)) else none
theorem w64 {i : Int} (h : within64 i = true) : -(2 ^ 64) < i ∧ i < 2 ^ 64 := by
  unfold within64 at h
  rw [Bool.and_eq_true, decide_eq_true_eq, decide_eq_true_eq] at h
  exact ⟨by have := h.1; omega, by have := h.2; omega⟩
theorem snd_mulI : Snd2 c (rI CMul fun i j => .int (i * j)) mulI := snd_I fun i j d e => by
  split at e
  · rename_i h
    cases e
    rw [Bool.or_eq_true] at h
    exact ⟨h.elim (fun z => .inl (w64 z)) fun z => .inr (w64 z), fun w K G => .int _⟩
  · cases e
def repL : D → D → Option Out
  | .list a, .int k => if decide (-9223372036854775808 ≤ k) && decide (k < 9223372036854775808) && sizeOk (a.length * k.toNat) then some (.newl (List.replicate k.toNat a).flatten) else none
  | _, _ => none
theorem repA_rep {w : World} {K : PySem.W.Frag} {G : Hp} {l : List D} {vs : List V} (r : RepA w K G l vs) : ∀ n : Nat, RepA w K G (List.replicate n l).flatten (List.replicate n vs).flatten
  | 0 => .nil
  | n + 1 => by
    rw [List.replicate_succ, List.replicate_succ, List.flatten_cons, List.flatten_cons]
    exact r.append (repA_rep r n)
theorem snd_repL : Snd2 c rRep repL := fun Y W wi G H fp σ ρ s x y v u o Q cfg vx vy e k => by
  unfold repL at e
  split at e
  · rename_i a n
    split at e
    · rename_i hz
      cases e
      rw [Bool.and_eq_true, Bool.and_eq_true, decide_eq_true_eq, decide_eq_true_eq] at hz
      obtain ⟨p, vs, rfl, h1, r1⟩ := vx
      have hl := r1.length
      exact ⟨p, n, vs, rfl, vw_int vy, h1, by have := hz.1.1; omega, by have := hz.1.2; omega, by rw [← hl]; exact sizeOk_le hz.2, fun p' hp => fin_lst cfg k (repA_rep r1 _) hp⟩
    · cases e
  · cases e
def mulD : D → D → Option Out := fun x y => (mulI x y).or (repL x y)
theorem de_mul (ha : DE c Y a ma) (hb : DE c Y b mb) : DE c Y (.BinOp a .Mult b pos) (eBin mulD ma mb) := de_bin (fun X ic => OpR.or op_mul op_rep) (snd_mulI.or snd_repL) ha hb
def fdivD := onI fun i j => if decide (0 < j) && decide (j < 1073741824) then some (.int (i / j)) else none
theorem de_fdiv (ha : DE c Y a ma) (hb : DE c Y b mb) : DE c Y (.BinOp a .FloorDiv b pos) (eBin fdivD ma mb) := de_bin (fun X ic => op_fdiv) (snd_I fun i j d e => by
  split at e
  · rename_i h
    cases e
    rw [Bool.and_eq_true, decide_eq_true_eq, decide_eq_true_eq] at h
    exact ⟨h, fun w K G => .int _⟩
  · cases e) ha hb
def modD := onI fun i j => if decide (0 < j) then some (.int (i % j)) else none
theorem de_mod (ha : DE c Y a ma) (hb : DE c Y b mb) : DE c Y (.BinOp a .Mod b pos) (eBin modD ma mb) := de_bin (fun X ic => op_mod) (snd_I fun i j d e => by
  split at e
  · rename_i h
    cases e
    exact ⟨of_decide_eq_true h, fun w K G => .int _⟩
  · cases e) ha hb
def powOk (i j : Int) : Bool := decide (0 ≤ j) && decide (j ≤ 1000000) && decide (i.natAbs < 18446744073709551616)
theorem powOk_c {i j : Int} (h : powOk i j = true) : CPow i j := by
  unfold powOk at h
  rw [Bool.and_eq_true, Bool.and_eq_true, decide_eq_true_eq, decide_eq_true_eq, decide_eq_true_eq] at h
  exact ⟨h.1.1, h.1.2, by have := h.2; omega⟩
def powD := onI fun i j => if powOk i j then some (.int (i ^ j.toNat)) else none
theorem de_pow (ha : DE c Y a ma) (hb : DE c Y b mb) : DE c Y (.BinOp a .Pow b pos) (eBin powD ma mb) := de_bin (fun X ic => op_pow) (snd_I fun i j d e => by
  split at e
  · rename_i h
    cases e
    exact ⟨powOk_c h, fun w K G => .int _⟩
  · cases e) ha hb
def shlD := onI fun i j => if powOk i j then some (.int (i * 2 ^ j.toNat)) else none
theorem de_shl (ha : DE c Y a ma) (hb : DE c Y b mb) : DE c Y (.BinOp a .LShift b pos) (eBin shlD ma mb) := de_bin (fun X ic => op_shl) (snd_I fun i j d e => by
  split at e
  · rename_i h
    cases e
    exact ⟨powOk_c h, fun w K G => .int _⟩
  · cases e) ha hb
def shrD := onI fun i j => if decide (0 ≤ j) then some (.int (i / 2 ^ j.toNat)) else none
theorem de_shr (ha : DE c Y a ma) (hb : DE c Y b mb) : DE c Y (.BinOp a .RShift b pos) (eBin shrD ma mb) := de_bin (fun X ic => op_shr) (snd_I fun i j d e => by
  split at e
  · rename_i h
    cases e
    exact ⟨of_decide_eq_true h, fun w K G => .int _⟩
  · cases e) ha hb
def bandD := onI fun i j => some (.int (Builtin.bitAnd i j))
theorem de_band (ha : DE c Y a ma) (hb : DE c Y b mb) : DE c Y (.BinOp a .BitAnd b pos) (eBin bandD ma mb) := de_bin (fun X ic => op_and) (snd_I0 fun i j w K G => .int _) ha hb
def borD := onI fun i j => some (.int (Builtin.bitOr i j))
theorem de_bor (ha : DE c Y a ma) (hb : DE c Y b mb) : DE c Y (.BinOp a .BitOr b pos) (eBin borD ma mb) := de_bin (fun X ic => op_or) (snd_I0 fun i j w K G => .int _) ha hb
def negD : D → Option Out
  | .int i => some (.val (.int (-i)))
  | _ => none
theorem snd_neg : Snd1 c (rU fun i => .int (-i)) negD := fun Y W wi G H fp σ ρ s x v o Q cfg vx e k => by
  unfold negD at e
  split at e
  · cases e
    exact ⟨_, vw_int vx, fin_val cfg k (.int _)⟩
  · cases e
theorem de_neg (ha : DE c Y a ma) : DE c Y (.UnaryOp .USub a pos) (eUn negD ma) := de_un (fun X ic => un_neg) snd_neg ha
end
end
end Dy

set_option Elab.async false
set_option linter.all false
set_option maxRecDepth 100000
namespace Dy
open PySem PySem.Spec PyProof.Rows L2

/-! ### comparisons -/
def onB (f : D → D → Option Bool) : D → D → Option Out := fun x y => (f x y).map fun b => .val (.bool b)
def eqD := onB fun x y => if SeqAt.shaped x && SeqAt.shaped y then some (PyData.eqv x y) else none
def neD := onB fun x y => if SeqAt.shaped x && SeqAt.shaped y then some (!PyData.eqv x y) else none
def inD := onB fun x y => match y with
  | .list ds => if SeqAt.shaped x && SeqAt.shaped y then some (ds.any fun z => PyData.eqv z x) else none
  | .tuple ds => if SeqAt.shaped x && SeqAt.shaped y then some (ds.any fun z => PyData.eqv z x) else none
  | _ => none
def inS := onB fun x y => match x, y with
  | .str i, .str j => some (!(Builtin.Str.occurrences j i 0 j.length 1).isEmpty)
  | _, _ => none
def notO (f : D → D → Option Out) : D → D → Option Out := fun x y => match f x y with
  | some (.val (.bool b)) => some (.val (.bool (!b)))
  | _ => none
def isNone : D → Bool
  | .none => true
  | _ => false
def isD := onB fun x y => match y with
  | .none => some (isNone x)
  | .bool b => match x with
    | .bool a => some (decide (a = b))
    | _ => none
  | _ => none
def isNotD := notO isD
def ltI := onI fun i j => some (.bool (decide (i < j)))
def leI := onI fun i j => some (.bool (decide (i ≤ j)))
def gtI := onI fun i j => some (.bool (decide (j < i)))
def geI := onI fun i j => some (.bool (decide (j ≤ i)))

theorem onB_some {f : D → D → Option Bool} {x y : D} {o : Out} (h : onB f x y = some o) : ∃ b, f x y = some b ∧ o = .val (.bool b) := by
  unfold onB at h
  cases e : f x y with
  | none =>
    rw [e] at h
    cases h
  | some b =>
    rw [e] at h
    cases h
    exact ⟨b, rfl, rfl⟩
theorem shaped_lay {d : D} (h : SeqAt.shaped d = true) : d.canLay0 = true := by
  have h : (d.canLay0 && decide (d.depth ≤ 64)) = true := h
  rw [Bool.and_eq_true] at h
  exact h.1
theorem InC.u64 {c : CC} {X : Cx} (ic : InC c X) : X.A.units + 65 < cLine := by have := ic.units; omega
section
variable {c : CC}
theorem snd_eqD : Snd2 c (rEqD c.K) eqD := fun Y W wi G H fp σ ρ s x y v u o Q cfg vx vy e k => by
  obtain ⟨b, e2, rfl⟩ := onB_some e
  replace e := e2
  split at e
  · rename_i hs
    cases e
    rw [Bool.and_eq_true] at hs
    exact ⟨x, y, (vx.rep cfg.sub).dp (shaped_lay hs.1), (vy.rep cfg.sub).dp (shaped_lay hs.2), hs.1, hs.2, fin_val cfg k (.bl _)⟩
  · cases e
theorem snd_neD : Snd2 c (rNeD c.K) neD := fun Y W wi G H fp σ ρ s x y v u o Q cfg vx vy e k => by
  obtain ⟨b, e2, rfl⟩ := onB_some e
  replace e := e2
  split at e
  · rename_i hs
    cases e
    rw [Bool.and_eq_true] at hs
    exact ⟨x, y, (vx.rep cfg.sub).dp (shaped_lay hs.1), (vy.rep cfg.sub).dp (shaped_lay hs.2), hs.1, hs.2, fin_val cfg k (.bl _)⟩
  · cases e

def rInTD (K : PySem.W.Frag) (neg : Bool) : R2 := fun x y H Q => ∃ d ds, Dp K H x d ∧ Dp K H y (.tuple ds) ∧ SeqAt.shaped d = true ∧ SeqAt.shaped (.tuple ds) = true ∧ Q (.bl (neg.xor (ds.any fun z => PyData.eqv z d))) H
theorem op_inTD {X : Cx} (hu : X.A.units + 65 < cLine) : OpR X (compareOp .In) (rInTD X.K false) := by
  intro pins s σ H x y v u Q I rx ry h
  obtain ⟨d, ds, hd, he, sd, se, q⟩ := h
  obtain ⟨as, r1⟩ := Dp.reads I d x v hd rx
  obtain ⟨bs, r2⟩ := Dp.reads I (.tuple ds) y u he ry
  rw [Bool.false_xor] at q
  exact SeqAt.in_tuple_reads r2 r1 (SeqAt.canLay_of_shaped se) (SeqAt.canLay_of_shaped sd) (room_in_shaped sd hu) ⟨.bl _, H, I, rfl, q⟩
theorem op_notInTD {X : Cx} (hu : X.A.units + 65 < cLine) : OpR X (compareOp .NotIn) (rInTD X.K true) := by
  intro pins s σ H x y v u Q I rx ry h
  obtain ⟨d, ds, hd, he, sd, se, q⟩ := h
  obtain ⟨as, r1⟩ := Dp.reads I d x v hd rx
  obtain ⟨bs, r2⟩ := Dp.reads I (.tuple ds) y u he ry
  rw [Bool.true_xor] at q
  exact SeqAt.notIn_tuple_reads r2 r1 (SeqAt.canLay_of_shaped se) (SeqAt.canLay_of_shaped sd) (room_in_shaped sd hu) ⟨.bl _, H, I, rfl, q⟩
theorem snd_inD : Snd2 c (fun x y H Q => rInD c.K x y H Q ∨ rInTD c.K false x y H Q) inD := fun Y W wi G H fp σ ρ s x y v u o Q cfg vx vy e k => by
  obtain ⟨b, e2, rfl⟩ := onB_some e
  replace e := e2
  split at e
  · rename_i ds
    split at e
    · rename_i hs
      cases e
      rw [Bool.and_eq_true] at hs
      exact .inl ⟨x, ds, (vx.rep cfg.sub).dp (shaped_lay hs.1), (vy.rep cfg.sub).dp (shaped_lay hs.2), hs.1, hs.2, fin_val cfg k (.bl _)⟩
    · cases e
  · rename_i ds
    split at e
    · rename_i hs
      cases e
      rw [Bool.and_eq_true] at hs
      exact .inr ⟨x, ds, (vx.rep cfg.sub).dp (shaped_lay hs.1), (vy.rep cfg.sub).dp (shaped_lay hs.2), hs.1, hs.2, fin_val cfg k (by rw [Bool.false_xor]; exact .bl _)⟩
    · cases e
  · cases e
theorem snd_notInD : Snd2 c (fun x y H Q => rNotInD c.K x y H Q ∨ rInTD c.K true x y H Q) (notO inD) := fun Y W wi G H fp σ ρ s x y v u o Q cfg vx vy e k => by
  unfold notO at e
  split at e
  · rename_i b eb
    cases e
    obtain ⟨b', e2, eo⟩ := onB_some eb
    cases eo
    have e := e2
    split at e
    · rename_i ds
      split at e
      · rename_i hs
        cases e
        rw [Bool.and_eq_true] at hs
        exact .inl ⟨x, ds, (vx.rep cfg.sub).dp (shaped_lay hs.1), (vy.rep cfg.sub).dp (shaped_lay hs.2), hs.1, hs.2, fin_val cfg k (.bl _)⟩
      · cases e
    · rename_i ds
      split at e
      · rename_i hs
        cases e
        rw [Bool.and_eq_true] at hs
        exact .inr ⟨x, ds, (vx.rep cfg.sub).dp (shaped_lay hs.1), (vy.rep cfg.sub).dp (shaped_lay hs.2), hs.1, hs.2, fin_val cfg k (by rw [Bool.true_xor]; exact .bl _)⟩
      · cases e
    · cases e
  · cases e
theorem snd_inS : Snd2 c (fun x y H Q => ∃ i j, x = .str i ∧ y = .str j ∧ Q (.bl (!(Builtin.Str.occurrences j i 0 j.length 1).isEmpty)) H) inS := fun Y W wi G H fp σ ρ s x y v u o Q cfg vx vy e k => by
  obtain ⟨b, e2, rfl⟩ := onB_some e
  replace e := e2
  split at e
  · cases e
    exact ⟨_, _, vw_str vx, vw_str vy, fin_val cfg k (.bl _)⟩
  · cases e
theorem snd_notInS : Snd2 c (fun x y H Q => ∃ i j, x = .str i ∧ y = .str j ∧ Q (.bl (!(!(Builtin.Str.occurrences j i 0 j.length 1).isEmpty))) H) (notO inS) := fun Y W wi G H fp σ ρ s x y v u o Q cfg vx vy e k => by
  unfold notO at e
  split at e
  · rename_i b eb
    cases e
    obtain ⟨b', e2, eo⟩ := onB_some eb
    cases eo
    have e := e2
    split at e
    · cases e
      exact ⟨_, _, vw_str vx, vw_str vy, fin_val cfg k (.bl _)⟩
    · cases e
  · cases e
theorem vw_isN {w : World} {K : PySem.W.Frag} {G H : Hp} {d : D} {v : V} (h : Vw w K G H d v) : decide (v = .non) = isNone d := by
  cases d with
  | none => rw [vw_non h]; rfl
  | bool b => rw [vw_bl h]; rfl
  | int b => rw [vw_int h]; rfl
  | str b => rw [vw_str h]; rfl
  | list l =>
    obtain ⟨a, vs, rfl, _⟩ := h
    rfl
  | tuple l =>
    obtain ⟨a, vs, rfl, _⟩ := vw_tup h
    rfl
  | dict l =>
    obtain ⟨a, rfl, _⟩ := h
    rfl
theorem snd_isD : Snd2 c (fun x y H Q => (y = .non ∧ Q (.bl (decide (x = .non))) H) ∨ rIsB x y H Q) isD := fun Y W wi G H fp σ ρ s x y v u o Q cfg vx vy e k => by
  obtain ⟨b, e2, rfl⟩ := onB_some e
  replace e := e2
  split at e
  · cases e
    exact .inl ⟨vw_non vy, by rw [vw_isN vx]; exact fin_val cfg k (.bl _)⟩
  · split at e
    · cases e
      exact .inr ⟨_, _, vw_bl vx, vw_bl vy, fin_val cfg k (.bl _)⟩
    · cases e
  · cases e
theorem snd_isNotD : Snd2 c (fun x y H Q => (y = .non ∧ Q (.bl (!decide (x = .non))) H) ∨ rNotB x y H Q) isNotD := fun Y W wi G H fp σ ρ s x y v u o Q cfg vx vy e k => by
  unfold isNotD notO at e
  split at e
  · rename_i b eb
    cases e
    obtain ⟨b', e2, eo⟩ := onB_some eb
    cases eo
    have e := e2
    split at e
    · cases e
      exact .inl ⟨vw_non vy, by rw [vw_isN vx]; exact fin_val cfg k (.bl _)⟩
    · split at e
      · cases e
        exact .inr ⟨_, _, vw_bl vx, vw_bl vy, fin_val cfg k (.bl _)⟩
      · cases e
    · cases e
  · cases e

/-! order of tuples of ints -/
def intsOf : List D → Option (List Int)
  | [] => some []
  | .int i :: r => (intsOf r).map (i :: ·)
  | _ :: _ => none
theorem intsOf_map : ∀ {l : List D} {ns : List Int}, intsOf l = some ns → l = ns.map .int
  | [], _, h => by
    cases h
    rfl
  | .int i :: r, ns, h => by
    unfold intsOf at h
    cases e : intsOf r with
    | none =>
      rw [e] at h
      cases h
    | some ms =>
      rw [e] at h
      cases h
      rw [intsOf_map e]
      rfl
  | .none :: r, ns, h => by cases h
  | .bool _ :: r, ns, h => by cases h
  | .str _ :: r, ns, h => by cases h
  | .list _ :: r, ns, h => by cases h
  | .tuple _ :: r, ns, h => by cases h
  | .dict _ :: r, ns, h => by cases h
theorem repA_ints {w : World} {K : PySem.W.Frag} {G : Hp} : ∀ {ns : List Int} {vs : List V}, RepA w K G (ns.map .int) vs → vs = ns.map V.int
  | [], _, h => by
    cases h
    rfl
  | n :: ns, _, h => by
    cases h with
    | cons h t =>
      cases h
      rw [repA_ints t]
      rfl
def leL : List Int → List Int → Bool
  | [], _ => true
  | _ :: _, [] => false
  | x :: xs, y :: ys => if x = y then leL xs ys else decide (x < y)
def onT (f : List Int → List Int → Bool) := onB fun x y => match x, y with
  | .tuple a, .tuple b => match intsOf a, intsOf b with
    | some ns, some ms => some (f ns ms)
    | _, _ => none
  | _, _ => none
abbrev leAt (ns ms : List Int) : Bool := Ob.lexAt (fun j => decide (ns.getD j 0 = ms.getD j 0)) (fun j => decide (ns.getD j 0 ≤ ms.getD j 0)) (decide (ns.length ≤ ms.length)) 0 (min ns.length ms.length)
theorem snd_leT : Snd2 c (rLeT c.K) (onT leAt) := fun Y W wi G H fp σ ρ s x y v u o Q cfg vx vy e k => by
  obtain ⟨b, e2, rfl⟩ := onB_some e
  replace e := e2
  split at e
  · rename_i a1 b1
    split at e
    · rename_i ns ms h1 h2
      cases e
      obtain rfl := intsOf_map h1
      obtain rfl := intsOf_map h2
      obtain ⟨p, vs, rfl, q1, r1⟩ := vw_tup vx
      obtain ⟨q, us, rfl, q2, r2⟩ := vw_tup vy
      have e3 := repA_ints r1
      have e4 := repA_ints r2
      subst e3 e4
      exact ⟨p, q, ns, ms, rfl, rfl, sqT_same cfg.sub q1, sqT_same cfg.sub q2, fin_val cfg k (.bl _)⟩
    · cases e
  · cases e
def leD : D → D → Option Out := fun x y => (leI x y).or (onT leAt x y)

section
variable {Y : Sy} {a b d e : Expr} {es : List Expr} {ma mb md me : ME Y.S} {mr : MA Y.S} {ta tb : MT Y.S} {pos p : Pos} {rest : List Expr}
def toB {S : Type} : Out → Fr → S → Rx S Bool
  | .val (.bool b), ρ, s => .ok b ρ s
  | _, _, _ => .bad
def tOf {S : Type} (m : ME S) : MT S := fun ρ s => (m ρ s).bind toB
/-- a comparison as a test -/
abbrev tBin {S : Type} (f : D → D → Option Out) (a b : ME S) : MT S := tOf (eBin f a b)
theorem de_cmp {op : CmpOp} {r : R2} {f : D → D → Option Out} (ho : ∀ X, InC c X → OpR X (compareOp op) r) (hs : Snd2 c r f) (ha : DE c Y a ma) (hb : DE c Y b mb) (hm : behindInMarks op b = false) : DE c Y (.Compare a [op] [b] pos) (eBin f ma mb) := fun X W ic tk =>
  PE.imp (pe_cmpR (ho X ic) (ha X W ic tk) (hb X W ic tk) hm) fun _ _ _ h => bin_imp hs h
/-- an answer that is a bool, as a test -/
theorem test_of {W : WX} {m : ME Y.S} {σ : L2.St} {H : Hp} {Q : Bool → Hp → Prop} (h : tT c Y W (tOf m) σ H Q) : tE c Y W m σ H fun x H' => ∃ k, x = .bl k ∧ Q k H' := by
  obtain ⟨wi, G, fp, ρ, s, cfg, k⟩ := h
  refine ⟨wi, G, fp, ρ, s, cfg, (Cont.bindL k).mono fun x H1 ⟨G1, fp1, ρ1, s1, o1, cfg1, sim1, tr1, r1, k1⟩ => ?_⟩
  unfold toB at k1
  split at k1
  · rename_i b
    cases (show Rep c.w c.K G1 (.bool b) x from r1)
    exact ⟨b, rfl, k1 G1 H1 fp1 b cfg1 sim1 tr1 rfl⟩
  · exact k1.elim
theorem dt_cmp {op : CmpOp} {r : R2} {f : D → D → Option Out} (ho : ∀ X, InC c X → OpR X (compareOp op) r) (hs : Snd2 c r f) (ha : DE c Y a ma) (hb : DE c Y b mb) (hm : behindInMarks op b = false) : DT c Y (.Compare a [op] [b] pos) (tBin f ma mb) := fun X W ic tk => by
  refine PT.imp (pt_cmpR (ho X ic) (ha X W ic tk) (hb X W ic tk) hm) ?_
  intro σ H Q h
  exact bin_imp hs (test_of h)
end
end
end Dy

set_option Elab.async false
set_option linter.all false
set_option maxRecDepth 100000
namespace Dy
open PySem PySem.Spec PyProof.Rows L2

/-! ### truth, and, or, not -/
def truD : D → Option Bool
  | .none => some false
  | .bool b => some b
  | .int i => some (i != 0)
  | .str x => if sizeOk x.length then some ((x.length : Int) != 0) else none
  | .list l => some (!l.isEmpty)
  | .tuple l => some (!l.isEmpty)
  | .dict _ => none
theorem repA_empty {w : World} {K : PySem.W.Frag} {G : Hp} {l : List D} {vs : List V} (r : RepA w K G l vs) : (!vs.isEmpty) = !l.isEmpty := by cases r <;> rfl
theorem vw_tru {c : CC} {G H : Hp} {d : D} {v : V} {b : Bool} (e : Same G H) (h : Vw c.w c.K G H d v) (t : truD d = some b) : TruV c.K v H b := by
  cases d with
  | none =>
    cases t
    rw [vw_non h]
    rfl
  | bool b =>
    cases t
    rw [vw_bl h]
    rfl
  | int b =>
    cases t
    rw [vw_int h]
    rfl
  | str x =>
    have t : (if sizeOk x.length then some ((x.length : Int) != 0) else none) = some b := t
    split at t
    · rename_i hz
      cases t
      rw [vw_str h]
      exact ⟨sizeOk_le hz, rfl⟩
    · cases t
  | list l =>
    cases t
    obtain ⟨a, vs, rfl, h1, r⟩ := h
    exact .inl ⟨vs, .inl (.inl h1), (repA_empty r).symm⟩
  | tuple l =>
    cases t
    obtain ⟨a, vs, rfl, h1, r⟩ := vw_tup h
    exact .inr (.inl ⟨vs, sqT_same e h1, (repA_empty r).symm⟩)
  | dict l => cases t
section
variable {S : Type}
def tru (ρ : Fr) (o : Out) : Option Bool := (rd ρ o).bind truD
def tTru (m : ME S) : MT S := fun ρ s => (m ρ s).bind fun o ρ s => .of (tru ρ o) ρ s
def tAnd (a b : MT S) : MT S := fun ρ s => (a ρ s).bind fun x ρ s => if x then b ρ s else .ok false ρ s
def tOr (a b : MT S) : MT S := fun ρ s => (a ρ s).bind fun x ρ s => if x then .ok true ρ s else b ρ s
def tNot (a : MT S) : MT S := fun ρ s => (a ρ s).bind fun x ρ s => .ok (!x) ρ s
def eAnd (a b : ME S) : ME S := fun ρ s => (a ρ s).bind fun x ρ s => match tru ρ x with
  | some true => b ρ s
  | some false => .ok x ρ s
  | none => .bad
def eOr (a b : ME S) : ME S := fun ρ s => (a ρ s).bind fun x ρ s => match tru ρ x with
  | some true => .ok x ρ s
  | some false => b ρ s
  | none => .bad
def eNot (a : ME S) : ME S := fun ρ s => (a ρ s).bind fun x ρ s => .of ((tru ρ x).map fun b => .val (.bool (!b))) ρ s
def eIf (t : MT S) (a b : ME S) : ME S := fun ρ s => (t ρ s).bind fun x ρ s => if x then a ρ s else b ρ s
end
section
variable {c : CC} {Y : Sy} {a b d e : Expr} {es : List Expr} {ma mb md me : ME Y.S} {mr : MA Y.S} {ta tb : MT Y.S} {pos p : Pos} {rest : List Expr}
theorem tru_rd {ρ : Fr} {o : Out} {b : Bool} (h : tru ρ o = some b) : ∃ d, rd ρ o = some d ∧ truD d = some b := by
  unfold tru at h
  cases e : rd ρ o with
  | none =>
    rw [e] at h
    cases h
  | some d =>
    rw [e] at h
    exact ⟨d, rfl, h⟩
theorem dt_tru (ha : DE c Y a ma) (he : ∀ (env : Env) whole, isTrue a env whole = (do let v ← whole; standAt a.pos; holding [v] (truthy v)) := by intro _ _; rfl) : DT c Y a (tTru ma) := fun X W ic tk => by
  refine PT.imp (pt_truth (ha X W ic tk) (he X.env)) ?_
  rintro σ H Q ⟨wi, G, fp, ρ, s, cfg, k⟩
  refine ⟨wi, G, fp, ρ, s, cfg, (Cont.bindL k).mono fun x H1 ⟨G1, fp1, ρ1, s1, o1, cfg1, sim1, tr1, r1, k1⟩ => ?_⟩
  obtain ⟨b, eb, k2⟩ := of_some k1
  obtain ⟨d, ed, et⟩ := tru_rd eb
  exact ⟨b, by rw [ic.K]; exact vw_tru cfg1.sub (cfg1.vw r1 ed) et, k2 G1 H1 fp1 b cfg1 sim1 tr1 rfl⟩
theorem dw_and1 (ha : DT c Y a ta) : DW c Y (.BoolOp .And [a] pos) ta := fun X W ic tk => pw_and1 (ha X W ic tk)
theorem dw_or1 (ha : DT c Y a ta) : DW c Y (.BoolOp .Or [a] pos) ta := fun X W ic tk => pw_or1 (ha X W ic tk)
theorem dw_and (ha : DT c Y a ta) (hb : DW c Y (.BoolOp .And (b :: rest) pos) tb) : DW c Y (.BoolOp .And (a :: b :: rest) pos) (tAnd ta tb) := fun X W ic tk => by
  refine PW.imp (pw_and (ha X W ic tk) (hb X W ic tk)) ?_
  rintro σ H Q ⟨wi, G, fp, ρ, s, cfg, k⟩
  refine ⟨wi, G, fp, ρ, s, cfg, (Cont.bindL k).mono fun x H1 ⟨G1, fp1, ρ1, s1, o1, cfg1, sim1, tr1, r1, k1⟩ => ?_⟩
  subst r1
  cases o1 with
  | true => exact ⟨wi, G1, fp1, ρ1, s1, cfg1, k1.shift early_T tr1 sim1⟩
  | false => exact k1 G1 H1 fp1 false cfg1 sim1 tr1 rfl
theorem dw_or (ha : DT c Y a ta) (hb : DW c Y (.BoolOp .Or (b :: rest) pos) tb) : DW c Y (.BoolOp .Or (a :: b :: rest) pos) (tOr ta tb) := fun X W ic tk => by
  refine PW.imp (pw_or (ha X W ic tk) (hb X W ic tk)) ?_
  rintro σ H Q ⟨wi, G, fp, ρ, s, cfg, k⟩
  refine ⟨wi, G, fp, ρ, s, cfg, (Cont.bindL k).mono fun x H1 ⟨G1, fp1, ρ1, s1, o1, cfg1, sim1, tr1, r1, k1⟩ => ?_⟩
  subst r1
  cases o1 with
  | false => exact ⟨wi, G1, fp1, ρ1, s1, cfg1, k1.shift early_T tr1 sim1⟩
  | true => exact k1 G1 H1 fp1 true cfg1 sim1 tr1 rfl
theorem dt_w (h : DW c Y a ta) : DT c Y a ta := fun X W ic tk => (h X W ic tk).pt
theorem dt_not (ha : DT c Y a ta) : DT c Y (.UnaryOp .Not a pos) (tNot ta) := fun X W ic tk => by
  refine PT.imp (pt_not (ha X W ic tk)) ?_
  rintro σ H Q ⟨wi, G, fp, ρ, s, cfg, k⟩
  refine ⟨wi, G, fp, ρ, s, cfg, (Cont.bindL k).mono fun x H1 ⟨G1, fp1, ρ1, s1, o1, cfg1, sim1, tr1, r1, k1⟩ => ?_⟩
  subst r1
  exact k1 G1 H1 fp1 _ cfg1 sim1 tr1 rfl
theorem de_one {op : BoolOp} (ha : DE c Y a ma) : DE c Y (.BoolOp op [a] pos) ma := fun X W ic tk => pe_one (ha X W ic tk)
theorem de_and (ha : DE c Y a ma) (hb : DE c Y (.BoolOp .And (b :: rest) pos) mb) : DE c Y (.BoolOp .And (a :: b :: rest) pos) (eAnd ma mb) := fun X W ic tk => by
  refine PE.imp (pe_andT (ha X W ic tk) (hb X W ic tk)) ?_
  rintro σ H Q ⟨wi, G, fp, ρ, s, cfg, k⟩
  refine ⟨wi, G, fp, ρ, s, cfg, (Cont.bindL k).mono fun x H1 ⟨G1, fp1, ρ1, s1, o1, cfg1, sim1, tr1, r1, k1⟩ => ?_⟩
  dsimp only at k1
  cases eb : tru ρ1 o1 with
  | none =>
    rw [eb] at k1
    exact k1.elim
  | some b =>
    rw [eb] at k1
    obtain ⟨d, ed, et⟩ := tru_rd eb
    refine ⟨b, by rw [ic.K]; exact vw_tru cfg1.sub (cfg1.vw r1 ed) et, ?_⟩
    cases b with
    | true => exact ite_tt ⟨wi, G1, fp1, ρ1, s1, cfg1, k1.shift early_O tr1 sim1⟩
    | false => exact ite_ff (k1 G1 H1 fp1 x cfg1 sim1 tr1 r1)
theorem de_or (ha : DE c Y a ma) (hb : DE c Y (.BoolOp .Or (b :: rest) pos) mb) : DE c Y (.BoolOp .Or (a :: b :: rest) pos) (eOr ma mb) := fun X W ic tk => by
  refine PE.imp (pe_orT (ha X W ic tk) (hb X W ic tk)) ?_
  rintro σ H Q ⟨wi, G, fp, ρ, s, cfg, k⟩
  refine ⟨wi, G, fp, ρ, s, cfg, (Cont.bindL k).mono fun x H1 ⟨G1, fp1, ρ1, s1, o1, cfg1, sim1, tr1, r1, k1⟩ => ?_⟩
  dsimp only at k1
  cases eb : tru ρ1 o1 with
  | none =>
    rw [eb] at k1
    exact k1.elim
  | some b =>
    rw [eb] at k1
    obtain ⟨d, ed, et⟩ := tru_rd eb
    refine ⟨b, by rw [ic.K]; exact vw_tru cfg1.sub (cfg1.vw r1 ed) et, ?_⟩
    cases b with
    | false => exact ite_ff ⟨wi, G1, fp1, ρ1, s1, cfg1, k1.shift early_O tr1 sim1⟩
    | true => exact ite_tt (k1 G1 H1 fp1 x cfg1 sim1 tr1 r1)
theorem de_not (ha : DE c Y a ma) : DE c Y (.UnaryOp .Not a pos) (eNot ma) := fun X W ic tk => by
  refine PE.imp (pe_notT (ha X W ic tk)) ?_
  rintro σ H Q ⟨wi, G, fp, ρ, s, cfg, k⟩
  refine ⟨wi, G, fp, ρ, s, cfg, (Cont.bindL k).mono fun x H1 ⟨G1, fp1, ρ1, s1, o1, cfg1, sim1, tr1, r1, k1⟩ => ?_⟩
  obtain ⟨o, eo, k2⟩ := of_some k1
  cases eb : tru ρ1 o1 with
  | none =>
    rw [eb] at eo
    cases eo
  | some b =>
    rw [eb] at eo
    cases eo
    obtain ⟨d, ed, et⟩ := tru_rd eb
    exact ⟨b, by rw [ic.K]; exact vw_tru cfg1.sub (cfg1.vw r1 ed) et, k2 G1 H1 fp1 _ cfg1 sim1 tr1 (.bl _)⟩
theorem de_if (ht : DT c Y d ta) (ha : DE c Y a ma) (hb : DE c Y b mb) : DE c Y (.IfExp d a b pos) (eIf ta ma mb) := fun X W ic tk => by
  refine PE.imp (pe_ifExp (ht X W ic tk) (ha X W ic tk) (hb X W ic tk)) ?_
  rintro σ H Q ⟨wi, G, fp, ρ, s, cfg, k⟩
  refine ⟨wi, G, fp, ρ, s, cfg, (Cont.bindL k).mono fun x H1 ⟨G1, fp1, ρ1, s1, o1, cfg1, sim1, tr1, r1, k1⟩ => ?_⟩
  subst r1
  cases o1 with
  | true => exact ⟨wi, G1, fp1, ρ1, s1, cfg1, k1.shift early_O tr1 sim1⟩
  | false => exact ⟨wi, G1, fp1, ρ1, s1, cfg1, k1.shift early_O tr1 sim1⟩

/-! ### displays -/
theorem vals_rep {wi : Y.W} {H0 G H : Hp} {fp : Addr → Prop} {σ : L2.St} {ρ : Fr} : ∀ {os : List Out} {vs : List V} {l : List D}, RepOs c Y wi H0 G H fp σ ρ os vs → vals os = some l → RepA c.w c.K G l vs
  | _, _, _, .nil, h => by
    cases h
    exact .nil
  | o :: os, _, _, .cons r t, h => by
    cases o with
    | val d =>
      unfold vals at h
      cases e : vals os with
      | none =>
        rw [e] at h
        cases h
      | some l =>
        rw [e] at h
        cases h
        exact .cons r (vals_rep t e)
    | _ => cases h
theorem de_tup {x1} (h : DA c Y es mr) : DE c Y (.Tuple es x1 pos) (eTup mr) := fun X W ic tk => by
  refine PE.imp (pe_tup (h X W ic tk)) ?_
  rintro σ H Q ⟨wi, G, fp, ρ, s, cfg, k⟩
  refine ⟨wi, G, fp, ρ, s, cfg, (Cont.bindL k).mono fun xs H1 ⟨G1, fp1, ρ1, s1, o1, cfg1, sim1, tr1, r1, k1⟩ => ?_⟩
  obtain ⟨o, eo, k2⟩ := of_some k1
  cases ev : vals o1 with
  | none =>
    rw [ev] at eo
    cases eo
  | some l =>
    rw [ev] at eo
    have eo : (if sizeOk l.length then some (Out.val (.tuple l)) else none) = some o := eo
    split at eo
    · rename_i hz
      cases eo
      have r := vals_rep r1 ev
      exact ⟨by rw [← r.length]; exact sizeOk_le hz, fun p hp => fin_tup cfg1 (k2.shift early_O tr1 sim1) r hp⟩
    · cases eo
theorem de_lst (h : DA c Y es mr) : DE c Y (.List es pos) (eLst mr) := fun X W ic tk => by
  refine PE.imp (pe_lst (h X W ic tk)) ?_
  rintro σ H Q ⟨wi, G, fp, ρ, s, cfg, k⟩
  refine ⟨wi, G, fp, ρ, s, cfg, (Cont.bindL k).mono fun xs H1 ⟨G1, fp1, ρ1, s1, o1, cfg1, sim1, tr1, r1, k1⟩ => ?_⟩
  obtain ⟨o, eo, k2⟩ := of_some k1
  cases ev : vals o1 with
  | none =>
    rw [ev] at eo
    cases eo
  | some l =>
    rw [ev] at eo
    have eo : (if sizeOk l.length then some (Out.newl l) else none) = some o := eo
    split at eo
    · rename_i hz
      cases eo
      have r := vals_rep r1 ev
      exact ⟨by rw [← r.length]; exact sizeOk_le hz, fun p hp => fin_lst cfg1 (k2.shift early_O tr1 sim1) r hp⟩
    · cases eo
/-- the items of a list or a tuple -/
def items : D → Option (List D)
  | .list l => some l
  | .tuple l => some l
  | _ => none
def aStar {S : Type} (a : ME S) (r : MA S) : MA S := fun ρ s => (a ρ s).bind fun x ρ s => match (rd ρ x).bind items with
  | some l => (r ρ s).bind fun xs ρ s => .ok (l.map .val ++ xs) ρ s
  | none => .bad
theorem repOs_vals {wi : Y.W} {H0 G H : Hp} {fp : Addr → Prop} {σ : L2.St} {ρ : Fr} : ∀ {l : List D} {vs : List V}, RepA c.w c.K G l vs → RepOs c Y wi H0 G H fp σ ρ (l.map .val) vs
  | _, _, .nil => .nil
  | _, _, .cons h t => .cons h (repOs_vals t)
theorem RepOs.append {wi : Y.W} {H0 G H : Hp} {fp : Addr → Prop} {σ : L2.St} {ρ : Fr} : ∀ {os ps : List Out} {vs us : List V}, RepOs c Y wi H0 G H fp σ ρ os vs → RepOs c Y wi H0 G H fp σ ρ ps us → RepOs c Y wi H0 G H fp σ ρ (os ++ ps) (vs ++ us)
  | _, _, _, _, .nil, h => h
  | _, _, _, _, .cons h t, k => .cons h (RepOs.append t k)
theorem vw_items {G H : Hp} {d : D} {v : V} {l : List D} (e : Same G H) (h : Vw c.w c.K G H d v) (t : items d = some l) : ∃ p xs, v = .ref p ∧ (SqT c.K H p xs ∨ SqL c.K H p xs) ∧ RepA c.w c.K G l xs := by
  cases d with
  | list m =>
    cases t
    obtain ⟨a, vs, rfl, h1, r⟩ := h
    exact ⟨a, vs, rfl, .inr (.inl (.inl h1)), r⟩
  | tuple m =>
    cases t
    obtain ⟨a, vs, rfl, h1, r⟩ := vw_tup h
    exact ⟨a, vs, rfl, .inl (sqT_same e h1), r⟩
  | _ => cases t
theorem da_star (ha : DE c Y e me) (hr : DA c Y es mr) (hs : ∀ env, starEach (.Starred e p :: es) env = (true, eval e env) :: starEach es env := by intro _; rfl) : DA c Y (.Starred e p :: es) (aStar me mr) := fun X W ic tk => by
  refine PA.imp (StX.pa_star (ha X W ic tk) (hr X W ic tk) (hs _)) ?_
  rintro σ H Q ⟨wi, G, fp, ρ, s, cfg, k⟩
  refine ⟨wi, G, fp, ρ, s, cfg, (Cont.bindL k).mono fun x H1 ⟨G1, fp1, ρ1, s1, o1, cfg1, sim1, tr1, r1, k1⟩ => ?_⟩
  dsimp only at k1
  cases er : rd ρ1 o1 with
  | none =>
    rw [er] at k1
    exact k1.elim
  | some d =>
    cases ei : items d with
    | none =>
      rw [er, Option.bind_some, ei] at k1
      exact k1.elim
    | some l =>
      rw [er, Option.bind_some, ei] at k1
      obtain ⟨p, xs, rfl, hh, ra⟩ := vw_items cfg1.sub (cfg1.vw r1 er) ei
      refine ⟨p, xs, rfl, by rw [ic.K]; exact hh, wi, G1, fp1, ρ1, s1, cfg1, (Cont.bindL (k1.shift early_A tr1 sim1)).mono fun ys H2 ⟨G2, fp2, ρ2, s2, os, cfg2, sim2, tr2, r2, k2⟩ => ?_⟩
      exact k2 G2 H2 fp2 _ cfg2 sim2 tr2 ((repOs_vals (ra.mono tr2.gg)).append r2)

/-! ### items -/
def ixD : D → D → Option Out
  | .list l, .int i => (atI l i).map .val
  | .tuple l, .int i => (atI l i).map .val
  | .str x, .int i => if sizeOk x.length then (atI x.cps.toList i).map fun k => .val (.str ⟨#[k]⟩) else none
  | _, _ => none
theorem repA_at {w : World} {K : PySem.W.Frag} {G : Hp} {l : List D} {vs : List V} {i : Int} {d : D} (r : RepA w K G l vs) (h : atI l i = some d) : ∃ v, atI vs i = some v ∧ Rep w K G d v := by
  unfold atI at h ⊢
  rw [← r.length]
  cases e : ixN l.length i with
  | none =>
    rw [e] at h
    cases h
  | some j =>
    rw [e] at h
    exact r.get h
theorem snd_ixD : Snd2 c (rIx c.K) ixD := fun Y W wi G H fp σ ρ s x y v u o Q cfg vx vy e k => by
  unfold ixD at e
  split at e
  · rename_i l i
    cases ea : atI l i with
    | none =>
      rw [ea] at e
      cases e
    | some d =>
      rw [ea] at e
      cases e
      obtain ⟨a, vs, rfl, h1, r⟩ := vx
      obtain ⟨z, hz, rz⟩ := repA_at r ea
      exact .inl ⟨a, vs, i, z, rfl, vw_int vy, .inl (.inl h1), hz, fin_val cfg k rz⟩
  · rename_i l i
    cases ea : atI l i with
    | none =>
      rw [ea] at e
      cases e
    | some d =>
      rw [ea] at e
      cases e
      obtain ⟨a, vs, rfl, h1, r⟩ := vw_tup vx
      obtain ⟨z, hz, rz⟩ := repA_at r ea
      exact .inr (.inl ⟨a, vs, i, z, rfl, vw_int vy, sqT_same cfg.sub h1, hz, fin_val cfg k rz⟩)
  · rename_i z i
    split at e
    · rename_i hz
      cases ea : atI z.cps.toList i with
      | none =>
        rw [ea] at e
        cases e
      | some d =>
        rw [ea] at e
        cases e
        exact .inr (.inr ⟨z, i, d, vw_str vx, vw_int vy, sizeOk_le hz, ea, fin_val cfg k (.str _)⟩)
    · cases e
  · cases e
theorem de_ixR {r : R2} {f : D → D → Option Out} (ho : ∀ X, InC c X → IxR X r) (hs : Snd2 c r f) (ha : DE c Y a ma) (hb : DE c Y b mb) (hp : PlainIx b) : DE c Y (.Subscript a b pos) (eBin f ma mb) := fun X W ic tk =>
  PE.imp (pe_ix (ho X ic) (ha X W ic tk) (hb X W ic tk) hp) fun _ _ _ h => bin_imp hs h

/-! ### slices -/
def cutD (l : List D) (lo hi : Option Int) : List D := (l.drop (HT.sIx l.length 0 lo)).take (HT.sIx l.length l.length hi - HT.sIx l.length 0 lo)
def slD : D → Option Int → Option Int → Option Out
  | .list l, lo, hi => some (.newl (cutD l lo hi))
  | .tuple l, lo, hi => some (.val (.tuple (cutD l lo hi)))
  | _, _, _ => none
/-- a part of a slice -/
abbrev MO (S : Type) := Fr → S → Rx S (Option Int)
def oNo {S : Type} : MO S := fun ρ s => .ok none ρ s
def oPart {S : Type} (m : ME S) : MO S := fun ρ s => (m ρ s).bind fun x ρ s => match x with
  | .val (.int i) => .ok (some i) ρ s
  | _ => .bad
abbrev relP : Rel (Option Int) (Option Int) := fun _ _ _ _ _ _ a b => a = b
theorem early_P : Early relP := fun _ _ _ _ _ _ _ _ _ _ r => r
def tP (c : CC) (Y : Sy) (W : WX) (m : MO Y.S) : TO := fun σ H Q => ∃ wi G fp ρ s, Cfg c.w c.K Y wi G H fp σ ρ s ∧ Cont c Y W relP wi G H fp σ ρ Q (m ρ s)
def DO_ (c : CC) (Y : Sy) (o : Option Expr) (m : MO Y.S) : Prop := ∀ X W, InC c X → Takes X W → PO X o (tP c Y W m)
theorem PO.imp {X : Cx} {o : Option Expr} {t t' : TO} (h : PO X o t) (k : ∀ σ H Q, t' σ H Q → t σ H Q) : PO X o t' := ⟨fun pins s σ H Q I q => h.run pins s σ H Q I (k σ H Q q)⟩
theorem do_none : DO_ c Y none oNo := fun X W ic tk => PO.imp po_none (by
  rintro σ H Q ⟨wi, G, fp, ρ, s, cfg, k⟩
  exact k G H fp none cfg (Sim.refl ρ) Tr.refl rfl)
theorem do_some (h : DE c Y e me) : DO_ c Y (some e) (oPart me) := fun X W ic tk => PO.imp (po_some (h X W ic tk)) (by
  rintro σ H Q ⟨wi, G, fp, ρ, s, cfg, k⟩
  refine ⟨wi, G, fp, ρ, s, cfg, (Cont.bindL k).mono fun x H1 ⟨G1, fp1, ρ1, s1, o1, cfg1, sim1, tr1, r1, k1⟩ => ?_⟩
  dsimp only at k1
  split at k1
  · rename_i i
    cases (show Rep c.w c.K G1 (.int i) x from r1)
    exact ⟨i, rfl, k1 G1 H1 fp1 _ cfg1 sim1 tr1 rfl⟩
  · exact k1.elim)
def eSl {S : Type} (a : ME S) (l u : MO S) : ME S := fun ρ s => (a ρ s).bind fun x ρ s => (l ρ s).bind fun lo ρ s => (u ρ s).bind fun hi ρ s => .of ((rd ρ x).bind fun d => slD d lo hi) ρ s
theorem de_slice {ml mu : MO Y.S} {lo hi : Option Expr} {p2 : Pos} (ha : DE c Y a ma) (hl : DO_ c Y lo ml) (hu : DO_ c Y hi mu) : DE c Y (.Subscript a (.Slice lo hi none p2) pos) (eSl ma ml mu) := fun X W ic tk => by
  refine PE.imp (pe_slice (SlR.or sl_list sl_tupA) (ha X W ic tk) (hl X W ic tk) (hu X W ic tk)) ?_
  rintro σ H Q ⟨wi, G, fp, ρ, s, cfg, k⟩
  refine ⟨wi, G, fp, ρ, s, cfg, (Cont.bindL k).mono fun x H1 ⟨G1, fp1, ρ1, s1, o1, cfg1, sim1, tr1, r1, k1⟩ => ?_⟩
  refine ⟨wi, G1, fp1, ρ1, s1, cfg1, (Cont.bindL (k1.shift early_O tr1 sim1)).mono fun lo H2 ⟨G2, fp2, ρ2, s2, o2, cfg2, sim2, tr2, r2, k2⟩ => ?_⟩
  refine ⟨wi, G2, fp2, ρ2, s2, cfg2, (Cont.bindL (k2.shift early_O tr2 sim2)).mono fun hi H3 ⟨G3, fp3, ρ3, s3, o3, cfg3, sim3, tr3, r3, k3⟩ => ?_⟩
  subst r2 r3
  obtain ⟨o, eo, k4⟩ := of_some (k3.shift early_O tr3 sim3)
  cases er : rd ρ3 o1 with
  | none =>
    rw [er] at eo
    cases eo
  | some d =>
    rw [er] at eo
    have vx := cfg3.vw ((r1.keep tr2 sim2).keep tr3 sim3) er
    have eo : slD d o2 o3 = some o := eo
    cases d with
    | list l =>
      cases eo
      obtain ⟨a, vs, rfl, h1, r⟩ := vx
      refine .inl ⟨a, vs, rfl, .inl (.inl h1), fun p hp => fin_lst cfg3 k4 ?_ hp⟩
      unfold cutD
      rw [r.length]
      exact (r.drop _).take _
    | tuple l =>
      cases eo
      obtain ⟨a, vs, rfl, h1, r⟩ := vw_tup vx
      have rr : RepA c.w c.K G3 (cutD l o2 o3) (cutV vs o2 o3) := by
        unfold cutD
        rw [r.length]
        exact (r.drop _).take _
      refine .inr ⟨a, vs, rfl, by rw [ic.K]; exact sqT_same cfg3.sub h1, fun z => fin_val cfg3 k4 ?_, fun z p hp => fin_tup cfg3 k4 rr hp⟩
      unfold cutD
      rw [r.length, z.1, z.2, List.drop_zero, Nat.sub_zero, ← r.length, List.take_length]
      exact .tup h1 r
    | _ => cases eo
end
end Dy

set_option Elab.async false
set_option linter.all false
set_option maxRecDepth 100000
namespace Dy
open PySem PySem.Spec PyProof.Rows L2

def Rx.fl {S α : Type} : Rx S α → (α → Fr → S → Fl S) → Fl S
  | .ok a ρ s, k => k a ρ s
  | .ex e ρ s, _ => .ex e ρ s
  | .bad, _ => .bad
def Fl.seq {S : Type} : Fl S → (Fr → S → Fl S) → Fl S
  | .nx ρ s, k => k ρ s
  | f, _ => f
/-- an answer put into a slot -/
def putO (i : Nat) (o : Out) (ρ : Fr) : Option Fr := match o with
  | .val d => some (ρ.set i (.val d))
  | .newl l => some (ρ.set i (.lst l))
  | .newd kvs => some (ρ.set i (.dct kvs))
  | .hdl k => some (ρ.set i (.hdl k))
  | .bor j => if j = i then some ρ else match ρ[j]? with
    | some (.lst l) => some ((ρ.set j .non).set i (.lst l))
    | some (.dct kvs) => some ((ρ.set j .non).set i (.dct kvs))
    | _ => none

section
variable {α β : Type} {c : CC} {Y : Sy} {W : WX} {wi : Y.W} {G H G1 H1 : Hp} {fp fp1 : Addr → Prop} {σ σ' : L2.St} {ρ ρ1 : Fr} {s s1 : Y.S} {rel : Rel α β} {r : Rx Y.S α} {E : Ends}
/-- behind a part of a statement -/
def MidS (c : CC) (Y : Sy) (W : WX) (rel : Rel α β) (wi : Y.W) (G H : Hp) (fp : Addr → Prop) (σ : L2.St) (ρ : Fr) (E : Ends) (k : α → Fr → Y.S → Fl Y.S) (x : β) (H1 : Hp) : Prop :=
  ∃ G1 fp1 ρ1 s1 a, Cfg c.w c.K Y wi G1 H1 fp1 σ ρ1 s1 ∧ Sim ρ ρ1 ∧ Tr G H fp (Own σ ρ) G1 H1 fp1 ∧ rel H G1 H1 fp1 σ ρ1 a x ∧ ContS c Y W wi G H fp σ ρ E (k a ρ1 s1)
theorem Cont.bindS {k : α → Fr → Y.S → Fl Y.S} (h : ContS c Y W wi G H fp σ ρ E (r.fl k)) : Cont c Y W rel wi G H fp σ ρ (MidS c Y W rel wi G H fp σ ρ E k) r := by
  cases r with
  | ok a ρ' s' => exact fun G' H' fp' v h1 h2 h3 h4 => ⟨G', fp', ρ', s', a, h1, h2, h3, h4, h⟩
  | ex e ρ' s' => exact fun G' H' fp' cls dd h1 h2 h3 h4 => h G' H' fp' σ cls dd h1 h3 (fun p o => .inl (h2.ownI o)) h4
  | bad => exact h

theorem Own.put {i : Nat} {v : V} {x : Sl} {p : Addr} (o : Own (σ.set i (some v)) (ρ.set i x) p) : Own σ ρ p ∨ (x.own = true ∧ v = .ref p) := by
  obtain ⟨j, y, hy, ho, e⟩ := o
  by_cases hj : i = j
  · subst hj
    rw [List.getElem?_set] at hy e
    rw [if_pos rfl] at hy e
    split at hy
    · split at e
      · cases hy
        cases e
        exact .inr ⟨ho, rfl⟩
      · cases e
    · cases hy
  · rw [List.getElem?_set_ne hj] at hy e
    exact .inl ⟨j, y, hy, ho, e⟩
theorem Own.drop {j : Nat} {p : Addr} (o : Own σ (ρ.set j .non) p) : Own σ ρ p := by
  obtain ⟨i, y, hy, ho, e⟩ := o
  by_cases hj : j = i
  · subst hj
    rw [List.getElem?_set, if_pos rfl] at hy
    split at hy
    · cases hy
      cases ho
    · cases hy
  · rw [List.getElem?_set_ne hj] at hy
    exact ⟨i, y, hy, ho, e⟩
theorem Cfg.put {w : World} {K : PySem.W.Frag} (cfg : Cfg w K Y wi G H fp σ ρ s) (i : Nat) {x : Sl} {v : V} (ok : SlOk w K (Y.hv wi) G H fp x (some (some v)))
    (ne : x.own = true → ∀ (j : Nat) (y : Sl) (a : Addr), j ≠ i → ρ[j]? = some y → y.own = true → σ[j]? = some (some (.ref a)) → v ≠ .ref a) : Cfg w K Y wi G H fp (σ.set i (some v)) (ρ.set i x) s := by
  refine ⟨cfg.sub, cfg.rs, cfg.gfp, by rw [List.length_set, List.length_set]; exact cfg.len, fun j y hy => ?_, fun j k a y z hy hz oy oz ey ez => ?_⟩
  · by_cases hj : i = j
    · subst hj
      rw [List.getElem?_set, if_pos rfl] at hy
      split at hy
      · rename_i hl
        cases hy
        rw [List.getElem?_set, if_pos rfl, if_pos (by rw [cfg.len]; exact hl)]
        exact ok
      · cases hy
    · rw [List.getElem?_set_ne hj] at hy ⊢
      exact cfg.slot j y hy
  · by_cases hj : i = j
    · by_cases hk : i = k
      · rw [← hj, ← hk]
      · subst hj
        rw [List.getElem?_set_ne hk] at hz ez
        rw [List.getElem?_set, if_pos rfl] at hy ey
        split at hy
        · split at ey
          · cases hy
            cases ey
            exact absurd rfl (ne oy k z a (fun e => hk e.symm) hz oz ez)
          · cases ey
        · cases hy
    · rw [List.getElem?_set_ne hj] at hy ey
      by_cases hk : i = k
      · subst hk
        rw [List.getElem?_set, if_pos rfl] at hz ez
        split at hz
        · split at ez
          · cases hz
            cases ez
            exact absurd rfl (ne oz j y a (fun e => hj e.symm) hy oy ey)
          · cases ez
        · cases hz
      · rw [List.getElem?_set_ne hk] at hz ez
        exact cfg.dis j k a y z hy hz oy oz ey ez
theorem Cfg.drop {w : World} {K : PySem.W.Frag} (cfg : Cfg w K Y wi G H fp σ ρ s) (j : Nat) : Cfg w K Y wi G H fp σ (ρ.set j .non) s := by
  have back : ∀ {i : Nat} {x : Sl}, (ρ.set j .non)[i]? = some x → x = .non ∨ ρ[i]? = some x := fun {i x} h => by
    by_cases hj : j = i
    · subst hj
      rw [List.getElem?_set, if_pos rfl] at h
      split at h
      · cases h
        exact .inl rfl
      · cases h
    · rw [List.getElem?_set_ne hj] at h
      exact .inr h
  refine ⟨cfg.sub, cfg.rs, cfg.gfp, by rw [List.length_set]; exact cfg.len, fun i x hx => ?_, fun i k a x y hx hy ox oy e1 e2 => ?_⟩
  · rcases back hx with rfl | h
    · trivial
    · exact cfg.slot i x h
  · rcases back hx with rfl | h
    · cases ox
    · rcases back hy with rfl | h'
      · cases oy
      · exact cfg.dis i k a x y h h' ox oy e1 e2
theorem own_ne {w : World} {K : PySem.W.Frag} (cfg : Cfg w K Y wi G H fp σ ρ s) {p : Addr} (h : ¬ Own σ ρ p) : ∀ (j : Nat) (y : Sl) (a : Addr), ρ[j]? = some y → y.own = true → σ[j]? = some (some (.ref a)) → V.ref p ≠ .ref a := fun j y a hy oy ey e => by
  cases e
  exact h ⟨j, y, hy, oy, ey⟩
/-- an answer is stored -/
theorem put_ok {H0 : Hp} (cfg : Cfg c.w c.K Y wi G H fp σ ρ s) {o : Out} {v : V} {i : Nat} {ρ' : Fr} (r : RepO c.w c.K Y wi H0 G H fp σ ρ o v) (e : putO i o ρ = some ρ') :
    Cfg c.w c.K Y wi G H fp (σ.set i (some v)) ρ' s ∧ ∀ p, Own (σ.set i (some v)) ρ' p → Own σ ρ p ∨ H0 p = none := by
  cases o with
  | val d =>
    cases e
    exact ⟨cfg.put i ⟨v, rfl, r⟩ (fun z => by cases z), fun p o => o.put.elim .inl fun z => by cases z.1⟩
  | newl l =>
    cases e
    obtain ⟨p, rfl, h0, h1, h2, h3, h4⟩ := r
    exact ⟨cfg.put i ⟨p, rfl, h1, h2, h4⟩ fun _ j y a _ => own_ne cfg h3 j y a, fun q o => o.put.elim .inl fun z => by cases z.2; exact .inr h0⟩
  | newd l =>
    cases e
    obtain ⟨p, rfl, h0, h1, h2, h3, h4⟩ := r
    exact ⟨cfg.put i ⟨p, rfl, h1, h2, h4⟩ fun _ j y a _ => own_ne cfg h3 j y a, fun q o => o.put.elim .inl fun z => by cases z.2; exact .inr h0⟩
  | hdl k =>
    cases e
    exact ⟨cfg.put i (congrArg (fun z => some (some z)) (show v = Y.hv wi k from r)) (fun z => by cases z), fun p o => o.put.elim .inl fun z => by cases z.1⟩
  | bor j =>
    obtain ⟨ev, x, hx, ho⟩ := r
    unfold putO at e
    dsimp only at e
    by_cases hj : j = i
    · rw [if_pos hj] at e
      cases e
      subst hj
      have es : σ.set j (some v) = σ := by
        refine List.ext_getElem? fun k => ?_
        by_cases hk : j = k
        · subst hk
          rw [List.getElem?_set, if_pos rfl, ev]
          split
          · rfl
          · rename_i hl
            rw [List.getElem?_eq_none (by omega)] at ev
            cases ev
        · rw [List.getElem?_set_ne hk]
      rw [es]
      exact ⟨cfg, fun p o => .inl o⟩
    · rw [if_neg hj, hx] at e
      have sl := cfg.slot j x hx
      have ne : ∀ (k : Nat) (y : Sl) (a : Addr), k ≠ i → (ρ.set j .non)[k]? = some y → y.own = true → σ[k]? = some (some (.ref a)) → v ≠ .ref a := fun k y a _ hy oy ey ev2 => by
        by_cases hk : j = k
        · subst hk
          rw [List.getElem?_set, if_pos rfl] at hy
          split at hy
          · cases hy
            cases oy
          · cases hy
        · rw [List.getElem?_set_ne hk] at hy
          exact hk (cfg.dis j k a x y hx hy ho oy (by rw [ev, ev2]) ey)
      cases x with
      | lst l =>
        cases e
        obtain ⟨a, ha, h1, h2, h3⟩ := sl
        rw [ev] at ha
        cases ha
        exact ⟨(cfg.drop j).put i ⟨a, rfl, h1, h2, h3⟩ fun _ => ne, fun p o => o.put.elim (fun z => .inl z.drop) fun z => by cases z.2; exact .inl ⟨j, _, hx, rfl, ev⟩⟩
      | dct l =>
        cases e
        obtain ⟨a, ha, h1, h2, h3⟩ := sl
        rw [ev] at ha
        cases ha
        exact ⟨(cfg.drop j).put i ⟨a, rfl, h1, h2, h3⟩ fun _ => ne, fun p o => o.put.elim (fun z => .inl z.drop) fun z => by cases z.2; exact .inl ⟨j, _, hx, rfl, ev⟩⟩
      | _ => cases ho
end

/-! ### statements -/
section
variable {S : Type}
def sNil : MS S := fun ρ s => .nx ρ s
def sSeq (a b : MS S) : MS S := fun ρ s => (a ρ s).seq b
def sRet (m : ME S) : MS S := fun ρ s => (m ρ s).fl fun o ρ s => .rt o ρ s
def sRetN : MS S := fun ρ s => .rt (.val .none) ρ s
def sDrop (m : ME S) : MS S := fun ρ s => (m ρ s).fl fun _ ρ s => .nx ρ s
def Fl.of (o : Option Fr) (s : S) : Fl S := match o with
  | some ρ => .nx ρ s
  | none => .bad
def sAsg (i : Nat) (m : ME S) : MS S := fun ρ s => (m ρ s).fl fun o ρ s => .of (putO i o ρ) s
def sIf (t : MT S) (a b : MS S) : MS S := fun ρ s => (t ρ s).fl fun x ρ s => if x then a ρ s else b ρ s
def sBk : MS S := fun ρ s => .bk ρ s
def sCt : MS S := fun ρ s => .ct ρ s
end
section
variable {c : CC} {Y : Sy} {e d : Expr} {me : ME Y.S} {mt : MT Y.S} {ma mb : MS Y.S} {pos p : Pos} {st : Stmt} {rest ba bb : List Stmt}
theorem dss_nil : DSs c Y [] sNil := fun X W ic tk => PSs.imp pss_nil (by
  rintro D σ H ⟨wi, G, fp, ρ, s, cfg, k⟩
  exact k G H fp σ cfg Tr.refl fun p o => .inl o)
theorem dss_cons (ha : DS c Y st ma) (hb : DSs c Y rest mb) : DSs c Y (st :: rest) (sSeq ma mb) := fun X W ic tk => by
  refine PSs.imp (pss_cons (ha X W ic tk) (hb X W ic tk)) ?_
  rintro D σ H ⟨wi, G, fp, ρ, s, cfg, k⟩
  refine ⟨wi, G, fp, ρ, s, cfg, ?_⟩
  have k : ContS c Y W wi G H fp σ ρ D ((ma ρ s).seq mb) := k
  cases e : ma ρ s with
  | nx ρ' s' =>
    rw [e] at k
    exact fun G' H' fp' σ' h1 h2 h3 => ⟨wi, G', fp', ρ', s', h1, ContS.shift k h2 h3⟩
  | _ =>
    rw [e] at k
    exact k
theorem ds_pass : DS c Y (.Pass pos) sNil := fun X W ic tk => PS.imp ps_pass (by
  rintro D σ H ⟨wi, G, fp, ρ, s, cfg, k⟩
  exact k G H fp σ cfg Tr.refl fun p o => .inl o)
theorem ds_break : DS c Y (.Break pos) sBk := fun X W ic tk => PS.imp ps_break (by
  rintro D σ H ⟨wi, G, fp, ρ, s, cfg, k⟩
  exact k G H fp σ cfg Tr.refl fun p o => .inl o)
theorem ds_continue : DS c Y (.Continue pos) sCt := fun X W ic tk => PS.imp ps_continue (by
  rintro D σ H ⟨wi, G, fp, ρ, s, cfg, k⟩
  exact k G H fp σ cfg Tr.refl fun p o => .inl o)
theorem ds_doc {x : Str} {j : Nat} : DS c Y (.Expr (.Constant (.str x) j p) pos) sNil := fun X W ic tk => PS.imp ps_doc (by
  rintro D σ H ⟨wi, G, fp, ρ, s, cfg, k⟩
  exact k G H fp σ cfg Tr.refl fun p o => .inl o)
theorem ds_ret (h : DE c Y e me) : DS c Y (.Return (some e) pos) (sRet me) := fun X W ic tk => by
  refine PS.imp (ps_ret (h X W ic tk)) ?_
  rintro D σ H ⟨wi, G, fp, ρ, s, cfg, k⟩
  refine ⟨wi, G, fp, ρ, s, cfg, (Cont.bindS k).mono fun x H1 ⟨G1, fp1, ρ1, s1, o1, cfg1, sim1, tr1, r1, k1⟩ => ?_⟩
  exact k1 G1 H1 fp1 σ x cfg1 tr1 (fun p o => .inl (sim1.ownI o)) r1
theorem ds_retN : DS c Y (.Return none pos) sRetN := fun X W ic tk => PS.imp ps_retN (by
  rintro D σ H ⟨wi, G, fp, ρ, s, cfg, k⟩
  exact k G H fp σ .non cfg Tr.refl (fun p o => .inl o) .non)
theorem ds_expr (h : DE c Y e me) (hs : ∀ env, env.scope = c.sc → swapsWith e none pos.line env = pure false := by intro _ _; rfl) : DS c Y (.Expr e pos) (sDrop me) := fun X W ic tk => by
  refine PS.imp (ps_expr (h X W ic tk) (hs _ ic.sc)) ?_
  rintro D σ H ⟨wi, G, fp, ρ, s, cfg, k⟩
  refine ⟨wi, G, fp, ρ, s, cfg, (Cont.bindS k).mono fun x H1 ⟨G1, fp1, ρ1, s1, o1, cfg1, sim1, tr1, r1, k1⟩ => ?_⟩
  exact k1 G1 H1 fp1 σ cfg1 tr1 fun p o => .inl (sim1.ownI o)
theorem of_nx {W : WX} {wi : Y.W} {G H : Hp} {fp : Addr → Prop} {σ : L2.St} {ρ : Fr} {E : Ends} {o : Option Fr} {s : Y.S} (k : ContS c Y W wi G H fp σ ρ E (.of o s)) : ∃ ρ', o = some ρ' ∧ ContS c Y W wi G H fp σ ρ E (.nx ρ' s) := by
  cases o with
  | none => exact k.elim
  | some ρ' => exact ⟨ρ', rfl, k⟩
/-- x = e -/
theorem asg_imp {W : WX} {i : Nat} {D : Ends} {σ : L2.St} {H : Hp} (h : tS c Y W (sAsg i me) D σ H) : tAsg (tE c Y W me) (gName i) D σ H := by
  obtain ⟨wi, G, fp, ρ, s, cfg, k⟩ := h
  refine ⟨wi, G, fp, ρ, s, cfg, (Cont.bindS k).mono fun x H1 ⟨G1, fp1, ρ1, s1, o1, cfg1, sim1, tr1, r1, k1⟩ => ?_⟩
  obtain ⟨ρ2, e2, k2⟩ := of_nx k1
  obtain ⟨cfg2, ow⟩ := put_ok cfg1 r1 e2
  exact k2 G1 H1 fp1 _ cfg2 tr1 fun p o => (ow p o).imp (fun z => sim1.ownI z) fun z => z
theorem ds_set (i : Nat) {x : Str} (h : DE c Y e me) (hi : c.N[i]? = some x := by rfl) (hx : Loc c.sc x := by first | exact .inl rfl | exact .inr rfl) (hf : c.fnn x = true ∨ c.sc.names.lookup x = some .local := by first | exact .inl rfl | exact .inr rfl)
    (hs : ∀ env, env.scope = c.sc → swapsWith e (some (.Name x p)) pos.line env = pure false := by intro _ _; rfl) : DS c Y (.Assign [.Name x p] e pos) (sAsg i me) := fun X W ic tk =>
  PS.imp (ps_set (i := i) (by rw [ic.N]; exact ic.nd) (by rw [ic.N]; exact hi) (by rw [ic.sc]; exact hx) (h X W ic tk) (hs _ ic.sc) (by rw [ic.fnn, ic.sc]; exact hf)) fun _ _ _ q => asg_imp q
theorem ds_if (ht : DT c Y d mt) (ha : DSs c Y ba ma) (hb : DSs c Y bb mb) : DS c Y (.If d ba bb pos) (sIf mt ma mb) := fun X W ic tk => by
  refine PS.imp (ps_if (ht X W ic tk) (ha X W ic tk) (hb X W ic tk)) ?_
  rintro D σ H ⟨wi, G, fp, ρ, s, cfg, k⟩
  refine ⟨wi, G, fp, ρ, s, cfg, (Cont.bindS k).mono fun x H1 ⟨G1, fp1, ρ1, s1, o1, cfg1, sim1, tr1, r1, k1⟩ => ?_⟩
  subst r1
  cases o1 with
  | true => exact ite_tt ⟨wi, G1, fp1, ρ1, s1, cfg1, ContS.shift k1 tr1 fun p o => .inl (sim1.ownI o)⟩
  | false => exact ite_ff ⟨wi, G1, fp1, ρ1, s1, cfg1, ContS.shift k1 tr1 fun p o => .inl (sim1.ownI o)⟩
end
end Dy

set_option Elab.async false
set_option linter.all false
set_option maxRecDepth 100000
namespace Dy
open PySem PySem.Spec PyProof.Rows L2

/-! ### targets -/
abbrev MG := D → Fr → Option Fr
abbrev MGs := List D → Fr → Option Fr
def gN (i : Nat) : MG := fun d ρ => some (ρ.set i (.val d))
def gsNil : MGs := fun ds ρ => match ds with
  | [] => some ρ
  | _ => none
def gsCons (g : MG) (r : MGs) : MGs := fun ds ρ => match ds with
  | d :: ds => (g d ρ).bind (r ds)
  | [] => none
def gT (r : MGs) : MG := fun d ρ => match d with
  | .tuple ds => r ds ρ
  | _ => none
/-- σ' is σ but for some slots -/
def Off (ix : List Nat) (σ σ' : L2.St) : Prop := σ'.length = σ.length ∧ ∀ i, i ∉ ix → σ'[i]? = σ[i]?
def tG (c : CC) (Y : Sy) (ix : List Nat) (g : MG) : TG := fun v σ H Q => ∃ (wi : Y.W) (G : Hp) (fp : Addr → Prop) (ρ : Fr) (s : Y.S) (d : D) (ρ' : Fr), Cfg c.w c.K Y wi G H fp σ ρ s ∧ Rep c.w c.K G d v ∧ g d ρ = some ρ' ∧
  ∀ σ', Cfg c.w c.K Y wi G H fp σ' ρ' s → (∀ p, Own σ' ρ' p → Own σ ρ p) → Off ix σ σ' → Q σ' H
def tGs (c : CC) (Y : Sy) (ix : List Nat) (g : MGs) : TGs := fun vs σ H Q => ∃ (wi : Y.W) (G : Hp) (fp : Addr → Prop) (ρ : Fr) (s : Y.S) (ds : List D) (ρ' : Fr), Cfg c.w c.K Y wi G H fp σ ρ s ∧ RepA c.w c.K G ds vs ∧ g ds ρ = some ρ' ∧
  ∀ σ', Cfg c.w c.K Y wi G H fp σ' ρ' s → (∀ p, Own σ' ρ' p → Own σ ρ p) → Off ix σ σ' → Q σ' H
/-- only these slots of the frame change -/
def OffF (ix : List Nat) (ρ ρ' : Fr) : Prop := ρ'.length = ρ.length ∧ ∀ i, i ∉ ix → ρ'[i]? = ρ[i]?
structure DG (c : CC) (Y : Sy) (tg : Expr) (ix : List Nat) (g : MG) : Prop where
  run : ∀ X, InC c X → PG X tg (tG c Y ix g)
  off : ∀ d ρ ρ', g d ρ = some ρ' → OffF ix ρ ρ'
structure DGs (c : CC) (Y : Sy) (ts : List Expr) (ix : List Nat) (g : MGs) : Prop where
  run : ∀ X, InC c X → PGs X ts (tGs c Y ix g)
  off : ∀ ds ρ ρ', g ds ρ = some ρ' → OffF ix ρ ρ'
  len : ∀ ds ρ ρ', g ds ρ = some ρ' → ds.length = ts.length
theorem PG.imp {X : Cx} {e : Expr} {t t' : TG} (h : PG X e t) (k : ∀ v σ H Q, t' v σ H Q → t v σ H Q) : PG X e t' := ⟨fun pins s σ H v u Q I r q => h.run pins s σ H v u Q I r (k v σ H Q q)⟩
theorem PGs.imp {X : Cx} {es : List Expr} {t t' : TGs} (h : PGs X es t) (k : ∀ v σ H Q, t' v σ H Q → t v σ H Q) : PGs X es t' := ⟨fun pins s σ H v u Q I r q => h.run pins s σ H v u Q I r (k v σ H Q q)⟩
section
variable {c : CC} {Y : Sy} {e tg iter : Expr} {es : List Expr} {me : ME Y.S} {mt : MT Y.S} {ma mb : MS Y.S} {pos p : Pos} {st : Stmt} {body rest ba bb : List Stmt} {ix jx : List Nat} {g : MG} {gs : MGs}
theorem dg_n (i : Nat) {x : Str} (hi : c.N[i]? = some x := by rfl) (hx : Loc c.sc x := by first | exact .inl rfl | exact .inr rfl) (hf : c.fnn x = true ∨ c.sc.names.lookup x = some .local := by first | exact .inl rfl | exact .inr rfl) : DG c Y (.Name x pos) [i] (gN i) := by
  refine ⟨fun X ic => ?_, fun d ρ ρ' e => by
    cases e
    exact ⟨by rw [List.length_set], fun j hj => List.getElem?_set_ne fun e => hj (by rw [e]; exact List.mem_singleton_self j)⟩⟩
  refine PG.imp (pg_name (i := i) (by rw [ic.N]; exact ic.nd) (by rw [ic.N]; exact hi) (by rw [ic.sc]; exact hx) (by rw [ic.fnn, ic.sc]; exact hf)) ?_
  rintro v σ H Q ⟨wi, G, fp, ρ, s, d, ρ', cfg, r, e, k⟩
  cases e
  obtain ⟨cfg2, ow⟩ := put_ok (H0 := fun _ => some (.lst [])) cfg (show RepO c.w c.K Y wi (fun _ => some (.lst [])) G H fp σ ρ (.val d) v from r) (show putO i (.val d) ρ = some _ from rfl)
  exact k _ cfg2 (fun p o => (ow p o).elim (fun z => z) fun z => nomatch z) ⟨by rw [List.length_set], fun j hj => List.getElem?_set_ne fun e => hj (by rw [e]; exact List.mem_singleton_self j)⟩
theorem gsNil_eq {ds : List D} {ρ ρ' : Fr} (e : gsNil ds ρ = some ρ') : ds = [] ∧ ρ = ρ' := by
  cases ds with
  | nil =>
    cases e
    exact ⟨rfl, rfl⟩
  | cons d ds => cases e
theorem gsCons_eq {g : MG} {gs : MGs} {ds : List D} {ρ ρ' : Fr} (e : gsCons g gs ds ρ = some ρ') : ∃ d es ρ1, ds = d :: es ∧ g d ρ = some ρ1 ∧ gs es ρ1 = some ρ' := by
  cases ds with
  | nil => cases e
  | cons d ds =>
    have e : (g d ρ).bind (gs ds) = some ρ' := e
    cases eg : g d ρ with
    | none =>
      rw [eg] at e
      cases e
    | some ρ1 =>
      rw [eg] at e
      exact ⟨d, ds, ρ1, rfl, eg, e⟩
theorem dgs_nil : DGs c Y [] [] gsNil := by
  refine ⟨fun X ic => ?_, fun ds ρ ρ' e => by rw [(gsNil_eq e).2]; exact ⟨rfl, fun _ _ => rfl⟩, fun ds ρ ρ' e => by rw [(gsNil_eq e).1]; rfl⟩
  refine PGs.imp pgs_nil (by
  rintro vs σ H Q ⟨wi, G, fp, ρ, s, ds, ρ', cfg, r, e, k⟩
  unfold gsNil at e
  cases r with
  | nil =>
    cases e
    exact ⟨rfl, k σ cfg (fun p o => o) ⟨rfl, fun _ _ => rfl⟩⟩
  | cons => cases e)
theorem dgs_cons (h : DG c Y e ix g) (hr : DGs c Y es jx gs) (hs : ∀ env, (assignEach (e :: es) env).map (·.2) = assign e env :: (assignEach es env).map (·.2) := by intro _; rfl) : DGs c Y (e :: es) (ix ++ jx) (gsCons g gs) := by
  refine ⟨fun X ic => ?_, fun ds ρ ρ' e => ?_, fun ds ρ ρ' e => ?_⟩
  rotate_left
  · obtain ⟨d, es, ρ1, rfl, e1, e2⟩ := gsCons_eq e
    have o1 := h.off _ _ _ e1
    have o2 := hr.off _ _ _ e2
    refine ⟨o2.1.trans o1.1, fun i hi => ?_⟩
    rw [List.mem_append, not_or] at hi
    exact (o2.2 i hi.2).trans (o1.2 i hi.1)
  · obtain ⟨d, es, ρ1, rfl, e1, e2⟩ := gsCons_eq e
    exact congrArg Nat.succ (hr.len _ _ _ e2)
  refine PGs.imp (pgs_cons (h.run X ic) (hr.run X ic) (hs _)) ?_
  rintro vs σ H Q ⟨wi, G, fp, ρ, s, ds, ρ', cfg, r, e, k⟩
  cases r with
  | nil => cases e
  | @cons d v ds vs r t =>
    have e : (g d ρ).bind (gs ds) = some ρ' := e
    cases eg : g d ρ with
    | none =>
      rw [eg] at e
      cases e
    | some ρ1 =>
      rw [eg] at e
      refine ⟨v, vs, rfl, wi, G, fp, ρ, s, d, ρ1, cfg, r, eg, fun σ1 cfg1 ow1 of1 => ?_⟩
      refine ⟨wi, G, fp, ρ1, s, ds, ρ', cfg1, t, e, fun σ2 cfg2 ow2 of2 => k σ2 cfg2 (fun p o => ow1 p (ow2 p o)) ⟨of2.1.trans of1.1, fun i hi => ?_⟩⟩
      rw [List.mem_append, not_or] at hi
      exact (of2.2 i hi.2).trans (of1.2 i hi.1)
theorem dg_t {k : Nat} (h : DGs c Y es ix gs) (hc : c.calm = true := by rfl) (hn : ∀ env, (assignEach es env).length = es.length := by intro _; rfl)
    (hst : ∀ env, (assignEach es env).findIdx? (·.1) = none := by intro _; rfl) : DG c Y (.Tuple es k pos) ix (gT gs) := by
  refine ⟨fun X ic => ?_, fun d ρ ρ' e => by
    unfold gT at e
    split at e
    · exact h.off _ _ _ e
    · cases e⟩
  refine PG.imp (pg_tup (ic.calm.trans hc) (h.run X ic) (hn _) (hst _)) ?_
  rintro v σ H Q ⟨wi, G, fp, ρ, s, d, ρ', cfg, r, e, k⟩
  unfold gT at e
  cases r with
  | @tup a ds xs h1 t =>
    exact ⟨a, xs, rfl, by rw [ic.K]; exact sqT_same cfg.sub h1, by rw [← t.length]; exact h.len _ _ _ e, wi, G, fp, ρ, s, ds, ρ', cfg, t, e, k⟩
  | _ => cases e
end
/-! ### what is walked -/
/-- J goes through the data l, whatever grows from G -/
structure Runs (w : World) (K : PySem.W.Frag) (J : It) (l : List D) (G : Hp) : Prop where
  go : ∀ i H, Same G H → i < l.length → J.go i H
  stop : ∀ H, Same G H → J.stop l.length H
  yld : ∀ i H x H', Same G H → i < l.length → J.yld i H x H' → ∃ d, l[i]? = some d ∧ ((H' = H ∧ Rep w K G d x) ∨ ∃ T ds vs, H T = none ∧ H' = upd H T (.tup vs) ∧ x = .ref T ∧ d = .tuple ds ∧ RepA w K G ds vs)
theorem Runs.mono {w : World} {K : PySem.W.Frag} {J : It} {l : List D} {G G' : Hp} (h : Runs w K J l G) (e : Same G G') : Runs w K J l G' where
  go := fun i H s => h.go i H (e.trans s)
  stop := fun H s => h.stop H (e.trans s)
  yld := fun i H x H' s hi y => by
    obtain ⟨d, h1, h2⟩ := h.yld i H x H' (e.trans s) hi y
    refine ⟨d, h1, h2.imp (fun z => ⟨z.1, z.2.mono e⟩) ?_⟩
    rintro ⟨T, ds, vs, z1, z2, z3, z4, z5⟩
    exact ⟨T, ds, vs, z1, z2, z3, z4, z5.mono e⟩
abbrev MI (S : Type) := Fr → S → Rx S (List D)
abbrev relI (c : CC) : Rel (List D) It := fun _ G H fp σ ρ l J => Runs c.w c.K J l G
theorem early_I {c : CC} : Early (relI c) := fun _ _ _ _ _ _ _ _ _ _ r => r
def tI (c : CC) (Y : Sy) (W : WX) (m : MI Y.S) : TI := fun σ H R => ∃ wi G fp ρ s, Cfg c.w c.K Y wi G H fp σ ρ s ∧ Cont c Y W (relI c) wi G H fp σ ρ R (m ρ s)
def DI (c : CC) (Y : Sy) (tg iter : Expr) (m : MI Y.S) : Prop := ∀ X W, InC c X → Takes X W → PI X tg iter (tI c Y W m)
theorem PI.imp {X : Cx} {tg e : Expr} {t t' : TI} (h : PI X tg e t) (k : ∀ σ H R, t' σ H R → t σ H R) : PI X tg e t' := ⟨fun pins s σ H R I q => h.run pins s σ H R I (k σ H R q)⟩

/-- the item that is handed out, as a settled datum -/
theorem yield_ok {w : World} {K : PySem.W.Frag} {Y : Sy} {wi : Y.W} {G0 G H H' : Hp} {fp : Addr → Prop} {σ : L2.St} {ρ : Fr} {s : Y.S} {J : It} {l : List D} {i : Nat} {x : V} (R : Runs w K J l G0) (e : Same G0 G) (cfg : Cfg w K Y wi G H fp σ ρ s) (hi : i < l.length) (y : J.yld i H x H') :
    ∃ d G', l[i]? = some d ∧ Cfg w K Y wi G' H' fp σ ρ s ∧ Same G G' ∧ Rep w K G' d x ∧ (∀ O : Addr → Prop, Tr G H fp O G' H' fp) ∧ (∀ p o, H p = some o → H' p = some o) ∧ (∀ p, G p = none → G' p = none ∨ H p = none) := by
  obtain ⟨d, hd, h⟩ := R.yld i H x H' (e.trans cfg.sub) hi y
  rcases h with ⟨rfl, r⟩ | ⟨T, ds, vs, h1, rfl, rfl, rfl, r⟩
  · exact ⟨d, G, hd, cfg, fun _ _ h => h, r.mono e, fun _ => Tr.refl, fun _ _ h => h, fun _ h => .inl h⟩
  · have f := cfg.free h1
    refine ⟨_, upd G T (.tup vs), hd, (cfg.laid h1).grow upd_same f.1 f.2.1 f.2.2, same_upd f.1, .tup (.inl (.inl upd_same)) (r.mono (e.trans (same_upd f.1))), fun O => (Tr.refl.laid h1).grow f.1 h1, fun p o h => ?_, fun p h => ?_⟩
    · rw [upd_ne (ne_of_none h h1)]
      exact h
    · by_cases ep : p = T
      · exact .inr (by rw [ep]; exact h1)
      · exact .inl (by rw [upd_ne ep]; exact h)

/-! ### for -/
def forL {S : Type} (g : MG) (body : MS S) : List D → Fr → S → Fl S
  | [], ρ, s => .nx ρ s
  | d :: r, ρ, s => match g d ρ with
    | none => .bad
    | some ρ1 => match body ρ1 s with
      | .nx ρ s => forL g body r ρ s
      | .ct ρ s => forL g body r ρ s
      | .bk ρ s => .nx ρ s
      | f => f
def sFor {S : Type} (g : MG) (mi : MI S) (body : MS S) : MS S := fun ρ s => (mi ρ s).fl fun l ρ s => forL g body l ρ s
section
variable {c : CC} {Y : Sy} {e d tg iter : Expr} {es : List Expr} {me : ME Y.S} {mt : MT Y.S} {mi : MI Y.S} {ma mb : MS Y.S} {pos p : Pos} {st : Stmt} {body rest ba bb : List Stmt} {ix jx : List Nat} {g : MG} {gs : MGs}
theorem ds_for (hi : DI c Y tg iter mi) (hg : DG c Y tg ix g) (hb : DSs c Y body mb) (hc : c.calm = true := by rfl) (hf : c.fn = true := by rfl) (hs : ∀ env x, foldedSetIterable iter env x = pure x := by intro _ _; rfl) :
    DS c Y (.For tg iter body [] pos) (sFor g mi mb) := fun X W ic tk => by
  refine PS.imp (ps_for (ic.fr hf).2.2 (ic.calm.trans hc) (hi X W ic tk) (hg.run X ic) (hb X W ic tk) (hs _)) ?_
  rintro D σ H ⟨wi, G, fp, ρ, s, cfg, k⟩
  refine ⟨wi, G, fp, ρ, s, cfg, (Cont.bindS k).mono fun J H1 ⟨G1, fp1, ρ1, s1, l, cfg1, sim1, tr1, r1, k1⟩ => ?_⟩
  have k1 := ContS.shift k1 tr1 fun p o => .inl (sim1.ownI o)
  refine ⟨fun i m σ H => m = l.length - i ∧ i ≤ l.length ∧ ∃ G fp ρ s, Cfg c.w c.K Y wi G H fp σ ρ s ∧ Same G1 G ∧ ContS c Y W wi G H fp σ ρ D (forL g mb (l.drop i) ρ s), ⟨l.length, by simp, Nat.zero_le _, G1, fp1, ρ1, s1, cfg1, fun _ _ h => h, k1⟩, ?_⟩
  rintro i m σ2 H2 ⟨rfl, hi2, G2, fp2, ρ2, s2, cfg2, sg, k2⟩
  by_cases hlt : i < l.length
  · refine .inr ⟨r1.go i H2 (sg.trans cfg2.sub) hlt, _, fun σ' H' hN => ⟨l.length - (i + 1), by omega, hN⟩, fun x H3 y => ?_⟩
    obtain ⟨d, G3, hd, cfg3, sg3, r3, tr3, kp, gn⟩ := yield_ok r1 sg cfg2 hlt y
    have ed : l.drop i = d :: l.drop (i + 1) := by
      rw [List.drop_eq_getElem_cons hlt]
      obtain ⟨_, hd'⟩ := List.getElem?_eq_some_iff.mp hd
      rw [hd']
    rw [ed] at k2
    have k3 := ContS.shift k2 (tr3 _) fun p o => .inl o
    unfold forL at k3
    cases eg : g d ρ2 with
    | none =>
      rw [eg] at k3
      exact k3.elim
    | some ρ3 =>
      rw [eg] at k3
      dsimp only at k3
      refine ⟨wi, G3, fp2, ρ2, s2, d, ρ3, cfg3, r3, eg, fun σ4 cfg4 ow4 _ => ⟨wi, G3, fp2, ρ3, s2, cfg4, ?_⟩⟩
      have k4 := ContS.shift k3 (Tr.refl) (σ1 := σ4) (ρ1 := ρ3) fun p o => .inl (ow4 p o)
      cases eb : mb ρ3 s2 with
      | nx ρ5 s5 =>
        rw [eb] at k4
        exact fun G' H' fp' σ' h1 h2 h3 => ⟨rfl, by omega, G', fp', ρ5, s5, h1, sg.trans (sg3.trans h2.gg), ContS.shift k4 h2 h3⟩
      | ct ρ5 s5 =>
        rw [eb] at k4
        exact fun G' H' fp' σ' h1 h2 h3 => ⟨rfl, by omega, G', fp', ρ5, s5, h1, sg.trans (sg3.trans h2.gg), ContS.shift k4 h2 h3⟩
      | bk ρ5 s5 =>
        rw [eb] at k4
        exact k4
      | rt o ρ5 s5 =>
        rw [eb] at k4
        exact k4
      | ex o ρ5 s5 =>
        rw [eb] at k4
        exact k4
      | bad =>
        rw [eb] at k4
        exact k4
  · have e : i = l.length := by omega
    subst e
    rw [List.drop_length] at k2
    exact .inl ⟨r1.stop H2 (sg.trans cfg2.sub), k2 G2 H2 fp2 σ2 cfg2 Tr.refl fun p o => .inl o⟩

/-! ### while -/
def whileL {S : Type} (t : MT S) (body : MS S) : Nat → Fr → S → Fl S
  | 0, _, _ => .bad
  | n + 1, ρ, s => (t ρ s).fl fun b ρ s => if b then match body ρ s with
    | .nx ρ s => whileL t body n ρ s
    | .ct ρ s => whileL t body n ρ s
    | .bk ρ s => .nx ρ s
    | f => f else .nx ρ s
def sWhile {S : Type} (n : Nat) (t : MT S) (body : MS S) : MS S := fun ρ s => whileL t body n ρ s
theorem ds_while (n : Nat) (ht : DT c Y d mt) (hb : DSs c Y body mb) (hf : c.fn = true := by rfl) : DS c Y (.While d body [] pos) (sWhile n mt mb) := fun X W ic tk => by
  refine PS.imp (ps_while (ic.fr hf).2.2 (ht X W ic tk) (hb X W ic tk)) ?_
  rintro D σ H ⟨wi, G, fp, ρ, s, cfg, k⟩
  refine ⟨fun m σ H => ∃ G fp ρ s, Cfg c.w c.K Y wi G H fp σ ρ s ∧ ContS c Y W wi G H fp σ ρ D (whileL mt mb m ρ s), ⟨n, G, fp, ρ, s, cfg, k⟩, ?_⟩
  rintro m σ2 H2 ⟨G2, fp2, ρ2, s2, cfg2, k2⟩
  cases m with
  | zero => exact k2.elim
  | succ m =>
    unfold whileL at k2
    refine ⟨wi, G2, fp2, ρ2, s2, cfg2, (Cont.bindS k2).mono fun b H3 ⟨G3, fp3, ρ3, s3, a, cfg3, sim3, tr3, r3, k3⟩ => ?_⟩
    subst r3
    have k3 := ContS.shift k3 tr3 fun p o => .inl (sim3.ownI o)
    cases a with
    | false => exact ite_ff (k3 G3 H3 fp3 σ2 cfg3 Tr.refl fun p o => .inl o)
    | true =>
      refine ite_tt ⟨_, fun σ' H' hN => ⟨m, Nat.lt_succ_self m, hN⟩, wi, G3, fp3, ρ3, s3, cfg3, ?_⟩
      dsimp only at k3
      rw [if_pos rfl] at k3
      cases eb : mb ρ3 s3 with
      | nx ρ5 s5 =>
        rw [eb] at k3
        exact fun G' H' fp' σ' h1 h2 h3 => ⟨G', fp', ρ5, s5, h1, ContS.shift k3 h2 h3⟩
      | ct ρ5 s5 =>
        rw [eb] at k3
        exact fun G' H' fp' σ' h1 h2 h3 => ⟨G', fp', ρ5, s5, h1, ContS.shift k3 h2 h3⟩
      | bk ρ5 s5 =>
        rw [eb] at k3
        exact k3
      | rt o ρ5 s5 =>
        rw [eb] at k3
        exact k3
      | ex o ρ5 s5 =>
        rw [eb] at k3
        exact k3
      | bad =>
        rw [eb] at k3
        exact k3
end
end Dy

set_option Elab.async false
set_option linter.all false
set_option maxRecDepth 100000
namespace Dy
open PySem PySem.Spec PyProof.Rows L2

/-! ### list comprehensions -/
def wipeF (ρ : Fr) : List Nat → Fr
  | [] => ρ
  | v :: vs => (wipeF ρ vs).set v .non
/-- the slots vs as they were in ρ, the others as in ρ' -/
def backF (ρ ρ' : Fr) : List Nat → Fr
  | [] => ρ'
  | v :: vs => (backF ρ ρ' vs).set v (ρ.getD v .non)
theorem wipeF_length (ρ : Fr) : ∀ vs : List Nat, (wipeF ρ vs).length = ρ.length
  | [] => rfl
  | v :: vs => by
    unfold wipeF
    rw [List.length_set, wipeF_length ρ vs]
theorem wipeF_get {ρ : Fr} {i : Nat} {x : Sl} : ∀ {vs : List Nat}, (wipeF ρ vs)[i]? = some x → x = .non ∨ (ρ[i]? = some x ∧ i ∉ vs)
  | [], h => .inr ⟨h, by simp⟩
  | v :: vs, h => by
    unfold wipeF at h
    by_cases hv : v = i
    · subst hv
      rw [List.getElem?_set, if_pos rfl] at h
      split at h
      · cases h
        exact .inl rfl
      · cases h
    · rw [List.getElem?_set_ne hv] at h
      exact (wipeF_get h).imp (fun z => z) fun z => ⟨z.1, fun q => (List.mem_cons.mp q).elim (fun e => hv e.symm) z.2⟩
theorem wipe_set {σ : L2.St} {i : Nat} : ∀ {vs : List Nat}, i ∉ vs → (wipe σ vs)[i]? = σ[i]?
  | [], _ => rfl
  | v :: vs, h => by
    unfold wipe
    rw [List.mem_cons, not_or] at h
    rw [List.getElem?_set_ne fun e => h.1 e.symm]
    exact wipe_set h.2
theorem wipeF_set {σ : Fr} {i : Nat} : ∀ {vs : List Nat}, i ∉ vs → (wipeF σ vs)[i]? = σ[i]?
  | [], _ => rfl
  | v :: vs, h => by
    unfold wipeF
    rw [List.mem_cons, not_or] at h
    rw [List.getElem?_set_ne fun e => h.1 e.symm]
    exact wipeF_set h.2
theorem wipe_in {σ : L2.St} {i : Nat} : ∀ {vs : List Nat}, i ∈ vs → i < σ.length → (wipe σ vs)[i]? = some none
  | v :: vs, h, hi => by
    unfold wipe
    by_cases hv : v = i
    · subst hv
      rw [List.getElem?_set, if_pos rfl, if_pos (by rw [wipe_length]; exact hi)]
    · rw [List.getElem?_set_ne hv]
      exact wipe_in ((List.mem_cons.mp h).elim (fun e => absurd e.symm hv) fun z => z) hi
theorem backF_length (ρ ρ' : Fr) : ∀ vs : List Nat, (backF ρ ρ' vs).length = ρ'.length
  | [] => rfl
  | v :: vs => by
    unfold backF
    rw [List.length_set, backF_length ρ ρ' vs]
theorem backF_out {ρ ρ' : Fr} {i : Nat} : ∀ {vs : List Nat}, i ∉ vs → (backF ρ ρ' vs)[i]? = ρ'[i]?
  | [], _ => rfl
  | v :: vs, h => by
    unfold backF
    rw [List.mem_cons, not_or] at h
    rw [List.getElem?_set_ne fun e => h.1 e.symm]
    exact backF_out h.2
theorem backF_in {ρ ρ' : Fr} {i : Nat} (hl : ρ.length = ρ'.length) : ∀ {vs : List Nat}, i ∈ vs → i < ρ'.length → (backF ρ ρ' vs)[i]? = ρ[i]?
  | v :: vs, h, hi => by
    unfold backF
    by_cases hv : v = i
    · subst hv
      rw [List.getElem?_set, if_pos rfl, if_pos (by rw [backF_length]; exact hi), List.getD_eq_getElem?_getD, List.getElem?_eq_getElem (by omega)]
      rfl
    · rw [List.getElem?_set_ne hv]
      exact backF_in hl ((List.mem_cons.mp h).elim (fun e => absurd e.symm hv) fun z => z) hi
/-- a target's slots forgotten again -/
theorem wipeF_in {σ : Fr} {i : Nat} {x : Sl} : ∀ {vs : List Nat}, i ∈ vs → (wipeF σ vs)[i]? = some x → x = .non
  | v :: vs, h, e => by
    unfold wipeF at e
    by_cases hv : v = i
    · subst hv
      rw [List.getElem?_set, if_pos rfl] at e
      split at e
      · cases e
        rfl
      · cases e
    · rw [List.getElem?_set_ne hv] at e
      exact wipeF_in ((List.mem_cons.mp h).elim (fun e => absurd e.symm hv) fun z => z) e
theorem sim_turn {ρ1 ρ2 ρ3 ρ5 : Fr} {vs ix : List Nat} (h : Sim (wipeF ρ1 vs) ρ2) (o : OffF ix ρ2 ρ3) (hix : ∀ i ∈ ix, i ∈ vs) (h5 : Sim ρ3 ρ5) : Sim (wipeF ρ1 vs) (wipeF ρ5 vs) := by
  refine ⟨by rw [wipeF_length ρ5, ← h5.1, o.1, ← h.1], fun i x y hx hy => ?_⟩
  by_cases hi : i ∈ vs
  · rw [wipeF_in hi hx, wipeF_in hi hy]
    exact Kin.refl _
  · obtain ⟨z, hz, k⟩ := h.get hx
    rw [wipeF_set hi] at hy
    rw [← o.2 i fun q => hi (hix i q)] at hz
    exact k.trans (h5.2 i z y hz hy)
theorem wipe_off {σ σ' : L2.St} {vs ix : List Nat} (o : Off ix (wipe σ vs) σ') (h : ∀ i ∈ ix, i ∈ vs) : wipe σ' vs = wipe σ vs := by
  refine List.ext_getElem? fun i => ?_
  have hl : σ'.length = σ.length := o.1.trans (wipe_length σ vs)
  by_cases hi : i ∈ vs
  · by_cases hj : i < σ.length
    · rw [wipe_in hi (by omega), wipe_in hi hj]
    · rw [List.getElem?_eq_none (by rw [wipe_length]; omega), List.getElem?_eq_none (by rw [wipe_length]; omega)]
  · rw [wipe_set hi, o.2 i fun z => hi (h i z)]
section
variable {w : World} {K : PySem.W.Frag} {Y : Sy} {wi : Y.W} {G H G' H' G0 H0 : Hp} {fp fp' fp0 O : Addr → Prop} {σ : L2.St} {ρ ρ' : Fr} {s s' : Y.S}
theorem Cfg.wipe (cfg : Cfg w K Y wi G H fp σ ρ s) (vs : List Nat) : Cfg w K Y wi G H fp (L2.wipe σ vs) (wipeF ρ vs) s := by
  refine ⟨cfg.sub, cfg.rs, cfg.gfp, by rw [wipe_length, wipeF_length]; exact cfg.len, fun i x hx => ?_, fun i j a x y hx hy ox oy ex ey => ?_⟩
  · rcases wipeF_get hx with rfl | ⟨h, hi⟩
    · trivial
    · rw [wipe_set hi]
      exact cfg.slot i x h
  · rcases wipeF_get hx with rfl | ⟨h, hi⟩
    · cases ox
    · rcases wipeF_get hy with rfl | ⟨h', hj⟩
      · cases oy
      · rw [wipe_set hi] at ex
        rw [wipe_set hj] at ey
        exact cfg.dis i j a x y h h' ox oy ex ey
theorem Own.wipe {vs : List Nat} {p : Addr} (o : Own (L2.wipe σ vs) (wipeF ρ vs) p) : ∃ (i : Nat) (x : Sl), i ∉ vs ∧ ρ[i]? = some x ∧ x.own = true ∧ σ[i]? = some (some (.ref p)) := by
  obtain ⟨i, x, hx, ox, e⟩ := o
  rcases wipeF_get hx with rfl | ⟨h, hi⟩
  · cases ox
  · rw [wipe_set hi] at e
    exact ⟨i, x, hi, h, ox, e⟩
theorem Own.unwipe {vs : List Nat} {p : Addr} (o : Own (L2.wipe σ vs) (wipeF ρ vs) p) : Own σ ρ p := by
  obtain ⟨i, x, _, h, ox, e⟩ := o.wipe
  exact ⟨i, x, h, ox, e⟩
/-- the frame behind a block: its names are the frame's again -/
theorem back_ok {vs : List Nat} (cfg : Cfg w K Y wi G0 H0 fp0 σ ρ s) (tr : Tr G0 H0 fp0 (Own (L2.wipe σ vs) (wipeF ρ vs)) G H fp) (c2 : Cfg w K Y wi G H fp (L2.wipe σ vs) ρ' s') (sim : Sim (wipeF ρ vs) ρ') :
    Cfg w K Y wi G H fp σ (backF ρ ρ' vs) s' ∧ Sim ρ (backF ρ ρ' vs) := by
  have hl : ρ.length = ρ'.length := (wipeF_length ρ vs).symm.trans sim.1
  have get : ∀ {i : Nat} {x : Sl}, (backF ρ ρ' vs)[i]? = some x → (i ∈ vs ∧ ρ[i]? = some x) ∨ (i ∉ vs ∧ ρ'[i]? = some x) := fun {i x} h => by
    by_cases hi : i ∈ vs
    · have hlt : i < ρ'.length := by
        have := (List.getElem?_eq_some_iff.mp h).1
        rw [backF_length] at this
        exact this
      rw [backF_in hl hi hlt] at h
      exact .inl ⟨hi, h⟩
    · rw [backF_out hi] at h
      exact .inr ⟨hi, h⟩
  -- what stood by itself under the block's names is as it was
  have kept : ∀ (i : Nat) (x : Sl) (a : Addr), i ∈ vs → ρ[i]? = some x → x.own = true → σ[i]? = some (some (.ref a)) → H a = H0 a ∧ G a = none ∧ ¬ fp a := fun i x a hi hx ox e => by
    obtain ⟨h1, h2, h3⟩ := own_there cfg ⟨i, x, hx, ox, e⟩
    have no : ¬ Own (L2.wipe σ vs) (wipeF ρ vs) a := fun z => by
      obtain ⟨j, y, hj, hy, oy, ey⟩ := z.wipe
      have := cfg.dis i j a x y hx hy ox oy e ey
      exact hj (this ▸ hi)
    obtain ⟨o, ho⟩ := some_of_ne h1
    refine ⟨(tr.oth a o ho h3 no).trans ho.symm, ?_, fun z => (tr.fnew a z).elim h3 h1⟩
    exact tr.stays h2 ho no (ho ▸ own_noT cfg ⟨i, x, hx, ox, e⟩)
  refine ⟨⟨c2.sub, c2.rs, c2.gfp, by rw [backF_length, ← hl]; exact cfg.len, fun i x hx => ?_, fun i j a x y hx hy ox oy ex ey => ?_⟩, by rw [backF_length]; exact hl, fun i x y hx hy => ?_⟩
  · rcases get hx with ⟨hi, h⟩ | ⟨hi, h⟩
    · have sl := cfg.slot i x h
      cases x with
      | non => trivial
      | val d =>
        obtain ⟨v, e, r⟩ := sl
        exact ⟨v, e, r.mono tr.gg⟩
      | lst l =>
        obtain ⟨a, e, _, _, q⟩ := sl
        obtain ⟨z1, z2, z3⟩ := kept i _ a hi h rfl e
        exact ⟨a, e, z2, z3, q.mono z1 tr.gg⟩
      | dct l =>
        obtain ⟨a, e, _, _, q⟩ := sl
        obtain ⟨z1, z2, z3⟩ := kept i _ a hi h rfl e
        exact ⟨a, e, z2, z3, q.mono z1 tr.gg⟩
      | hdl k => exact sl
    · have sl := c2.slot i x h
      rw [wipe_set hi] at sl
      exact sl
  · rcases get hx with ⟨hi, h⟩ | ⟨hi, h⟩
    · rcases get hy with ⟨hj, h'⟩ | ⟨hj, h'⟩
      · exact cfg.dis i j a x y h h' ox oy ex ey
      · obtain ⟨y0, hy0, ky⟩ := sim.symm.get h'
        rw [wipeF_set hj] at hy0
        exact cfg.dis i j a x y0 h hy0 ox (ky.own ▸ oy) ex ey
    · obtain ⟨x0, hx0, kx⟩ := sim.symm.get h
      rw [wipeF_set hi] at hx0
      rcases get hy with ⟨hj, h'⟩ | ⟨hj, h'⟩
      · exact cfg.dis i j a x0 y hx0 h' (kx.own ▸ ox) oy ex ey
      · obtain ⟨y0, hy0, ky⟩ := sim.symm.get h'
        rw [wipeF_set hj] at hy0
        exact cfg.dis i j a x0 y0 hx0 hy0 (kx.own ▸ ox) (ky.own ▸ oy) ex ey
  · rcases get hy with ⟨hi, h⟩ | ⟨hi, h⟩
    · rw [hx] at h
      cases h
      exact Kin.refl x
    · refine sim.2 i x y ?_ h
      rw [wipeF_set hi]
      exact hx
/-- an object apart is written -/
theorem Cfg.apart (cfg : Cfg w K Y wi G H fp σ ρ s) {p : Addr} {u : HO} (g : G p = none) (f : ¬ fp p) (o : ¬ Own σ ρ p) : Cfg w K Y wi G (upd H p u) fp σ ρ s := by
  have own : ∀ (i : Nat) (x : Sl) (a : Addr), ρ[i]? = some x → x.own = true → σ[i]? = some (some (.ref a)) → upd H p u a = H a := fun i x a hx ox e => upd_ne fun z => o (by rw [← z]; exact ⟨i, x, hx, ox, e⟩)
  refine ⟨fun a x h => ?_, ?_, cfg.gfp, cfg.len, fun i x hx => ?_, cfg.dis⟩
  · rw [upd_ne (ne_of_none h g)]
    exact cfg.sub a x h
  · exact Y.stay cfg.rs fun a h => upd_ne fun e => f (by rw [← e]; exact h)
  · have sl := cfg.slot i x hx
    cases x with
    | non => trivial
    | val d => exact sl
    | lst l =>
      obtain ⟨a, e, h1, h2, h3⟩ := sl
      exact ⟨a, e, h1, h2, h3.mono (own i _ a hx rfl e) fun _ _ h => h⟩
    | dct l =>
      obtain ⟨a, e, h1, h2, h3⟩ := sl
      exact ⟨a, e, h1, h2, h3.mono (own i _ a hx rfl e) fun _ _ h => h⟩
    | hdl k => exact sl
theorem Tr.apart (tr : Tr G0 H0 fp0 O G H fp) {p : Addr} {u : HO} (h : H0 p = none) : Tr G0 H0 fp0 O G (upd H p u) fp := by
  refine ⟨tr.gg, fun a o ho h1 h2 => ?_, fun a ha => ?_, tr.gnew, tr.fnew, fun a hh hf => ?_⟩
  rotate_left 2
  · by_cases e : a = p
    · exact .inr (.inr (by rw [e]; exact h))
    · rw [upd_ne e] at hh
      exact tr.tfp a hh hf
  · rw [upd_ne (ne_of_none ho h)]
    exact tr.oth a o ho h1 h2
  · by_cases e : a = p
    · rw [e]
      exact h
    · rw [upd_ne e] at ha
      exact tr.dom a ha
end
/-- one turn; k: what follows it -/
def turnL {S : Type} (vs : List Nat) (g : MG) (t : MT S) (e : ME S) (d : D) (ρ : Fr) (s : S) (acc : List D) (k : Fr → S → List D → Rx S (List D)) : Rx S (List D) :=
  match g d ρ with
  | none => .bad
  | some ρ1 => match t ρ1 s with
    | .ok true ρ2 s2 => match e ρ2 s2 with
      | .ok o ρ3 s3 => match frz o with
        | .val x => if decide (acc.length < 16777216) then k (wipeF ρ3 vs) s3 (acc ++ [x]) else .bad
        | _ => .bad
      | _ => .bad
    | .ok false ρ2 s2 => k (wipeF ρ2 vs) s2 acc
    | _ => .bad
/-- one turn after another; acc: what is made so far -/
def lcL {S : Type} (vs : List Nat) (g : MG) (t : MT S) (e : ME S) : List D → Fr → S → List D → Rx S (List D)
  | [], ρ, s, acc => .ok acc ρ s
  | d :: r, ρ, s, acc => turnL vs g t e d ρ s acc fun ρ s acc => lcL vs g t e r ρ s acc
/-- the list in slot i, of n items, as it stands at each turn -/
def lcO {S : Type} (i n : Nat) (vs : List Nat) (g : MG) (t : MT S) (e : ME S) : Nat → Fr → S → List D → Rx S (List D)
  | 0, ρ, s, acc => match ρ[i]? with
    | some (.lst l) => if decide (l.length = n) then .ok acc ρ s else .bad
    | _ => .bad
  | m + 1, ρ, s, acc => match ρ[i]? with
    | some (.lst l) => match l[n - (m + 1)]? with
      | some d => turnL vs g t e d ρ s acc fun ρ s acc => lcO i n vs g t e m ρ s acc
      | none => .bad
    | _ => .bad
theorem turn_no_ex {S : Type} {vs : List Nat} {g : MG} {t : MT S} {m : ME S} {d : D} {ρ : Fr} {s : S} {acc : List D} {k : Fr → S → List D → Rx S (List D)} (h : ∀ ρ s acc e ρ' s', k ρ s acc ≠ .ex e ρ' s') {e : Exn} {ρ' : Fr} {s' : S} : turnL vs g t m d ρ s acc k ≠ .ex e ρ' s' := fun q => by
  unfold turnL at q
  split at q
  · cases q
  · split at q
    · split at q
      · split at q
        · split at q
          · exact h _ _ _ _ _ _ q
          · cases q
        · cases q
      · cases q
    · exact h _ _ _ _ _ _ q
    · cases q
theorem no_ex {S : Type} {vs : List Nat} {g : MG} {t : MT S} {m : ME S} : ∀ {l : List D} {ρ : Fr} {s : S} {acc : List D} {e : Exn} {ρ' : Fr} {s' : S}, lcL vs g t m l ρ s acc ≠ .ex e ρ' s'
  | [], _, _, _, _, _, _ => fun h => by cases h
  | d :: r, ρ, s, acc, e, ρ', s' => turn_no_ex fun _ _ _ _ _ _ => no_ex
def tYesM {S : Type} : MT S := fun ρ s => .ok true ρ s
def eLc {S : Type} (vs : List Nat) (g : MG) (mi : MI S) (t : MT S) (e : ME S) : ME S := fun ρ s => (mi ρ s).bind fun l ρ s => (lcL vs g t e l (wipeF ρ vs) s []).bind fun xs ρ' s => .ok (.newl xs) (backF ρ ρ' vs) s
def DTs (c : CC) (Y : Sy) (ifs : List Expr) (m : MT Y.S) : Prop := ∀ X W, InC c X → Takes X W → PTs X ifs (tT c Y W m)
theorem PTs.imp {X : Cx} {e : List Expr} {t t' : TT} (h : PTs X e t) (k : ∀ σ H Q, t' σ H Q → t σ H Q) : PTs X e t' := ⟨fun pins s σ H Q I q => h.run pins s σ H Q I (k σ H Q q)⟩
/-- the context of a comprehension's block -/
def CC.blk (c : CC) (scope : Scope) : CC := { c with sc := relS scope c.sc, fnn := fun x => scope.names.lookup x == some .cell, fn := false }
section
variable {c : CC} {Y : Sy} {e d tg iter elt : Expr} {ifs : List Expr} {me : ME Y.S} {mt : MT Y.S} {mi : MI Y.S} {pos p : Pos} {ix : List Nat} {g : MG} {scope : Scope} {own : List (Str × Nat)}
theorem dts_nil : DTs c Y [] tYesM := fun X W ic tk => PTs.imp pts_nil (by
  rintro σ H Q ⟨wi, G, fp, ρ, s, cfg, k⟩
  exact k G H fp true cfg (Sim.refl ρ) Tr.refl rfl)
theorem dts_one (h : DT c Y d mt) : DTs c Y [d] mt := fun X W ic tk => pts_one (h X W ic tk)
theorem InC.blk {X : Cx} (ic : InC c X) (s : Shared) (H : Hp) (C : Addr) (cl : List (Str × Addr)) (fp : List Addr) : InC (c.blk scope) (X.blk s H scope (compEnvC scope cl C X.env) fp) :=
  ⟨ic.prog, ic.w, ic.K, ic.mg, ic.base, ic.N, by show relS scope X.env.scope = relS scope c.sc; rw [ic.sc], rfl, ic.calm, ic.units, ic.room, (fun z => nomatch z), ic.nd, ic.gd⟩
theorem cont_ok {α β : Type} {rel : Rel α β} {W : WX} {wi : Y.W} {G H : Hp} {fp : Addr → Prop} {σ : L2.St} {ρ : Fr} {Q : β → Hp → Prop} {r : Rx Y.S α} (h : ∀ a ρ' s', r = .ok a ρ' s' → Cont c Y W rel wi G H fp σ ρ Q (.ok a ρ' s')) (hb : ∃ a ρ' s', r = .ok a ρ' s') : Cont c Y W rel wi G H fp σ ρ Q r := by
  obtain ⟨a, ρ', s', e⟩ := hb
  rw [e]
  exact h a ρ' s' e
abbrev W0 : WX := fun _ _ _ _ => False
/-- behind a loop that fills the list at D -/
def ContD (c : CC) (Y : Sy) (wi : Y.W) (D : Addr) (O : Addr → Prop) (G1 H1 : Hp) (fp1 : Addr → Prop) (σ : L2.St) (ρ0 : Fr) (Fin : Hp → Prop) : Rx Y.S (List Dy.D) → Prop
  | .ok acc ρ' s' => ∀ G H fp vacc, Cfg c.w c.K Y wi G H fp σ ρ' s' → Sim ρ0 ρ' → Tr G1 H1 fp1 O G H fp → H D = some (.lst vacc) → G D = none → ¬ fp D → RepA c.w c.K G acc vacc → Fin H
  | _ => False
/-- J at the data that the frame tells, turn by turn -/
def RunsB (w : World) (K : PySem.W.Frag) (Y : Sy) (wi : Y.W) (J : It) (at_ : Nat → Fr → Option D) (fin : Fr → Bool) (n : Nat) (σ : L2.St) (G0 : Hp) : Prop := ∀ G H fp ρ s, Same G0 G → Cfg w K Y wi G H fp σ ρ s →
  (∀ k d, k < n → at_ k ρ = some d → J.go k H ∧ ∀ x H', J.yld k H x H' → ∃ G', Cfg w K Y wi G' H' fp σ ρ s ∧ Same G G' ∧ Rep w K G' d x ∧ (∀ O : Addr → Prop, Tr G H fp O G' H' fp) ∧ (∀ p o, H p = some o → H' p = some o) ∧ (∀ p, G p = none → G' p = none ∨ H p = none)) ∧ (fin ρ = true → J.stop n H)
theorem Runs.b {w : World} {K : PySem.W.Frag} {Y : Sy} {wi : Y.W} {J : It} {l : List D} {σ : L2.St} {G0 : Hp} (R : Runs w K J l G0) : RunsB w K Y wi J (fun k _ => l[k]?) (fun _ => true) l.length σ G0 := fun G H fp ρ s sg cfg => by
  refine ⟨fun k d hk hd => ⟨R.go k H (sg.trans cfg.sub) hk, fun x H' y => ?_⟩, fun _ => R.stop H (sg.trans cfg.sub)⟩
  obtain ⟨d', G', hd', r⟩ := yield_ok R sg cfg hk y
  have hd : l[k]? = some d := hd
  rw [hd] at hd'
  cases hd'
  exact ⟨G', r⟩
theorem lcL_step {S : Type} {vs : List Nat} {g : MG} {t : MT S} {e : ME S} {l : List D} (k : Nat) (ρ : Fr) (s : S) (acc : List D) (h : k < l.length) : lcL vs g t e (l.drop k) ρ s acc = match l[k]? with
      | none => .bad
      | some d => turnL vs g t e d ρ s acc fun ρ s acc => lcL vs g t e (l.drop (k + 1)) ρ s acc := by
  rw [List.drop_eq_getElem_cons h, List.getElem?_eq_getElem h]
  rfl
theorem lcL_end {S : Type} {vs : List Nat} {g : MG} {t : MT S} {e : ME S} {l : List D} (ρ : Fr) (s : S) (acc : List D) : lcL vs g t e (l.drop l.length) ρ s acc = if true = true then .ok acc ρ s else .bad := by
  rw [List.drop_length, if_pos rfl]
  rfl
/-- the loop of a clause -/
theorem lc_loop {wi : Y.W} {D : Addr} {O : Addr → Prop} {Gr G1 H1 G0 H0 : Hp} {fp1 fp0 : Addr → Prop} {σ : L2.St} {ρx : Fr} {s0 : Y.S} {J : It} {acc0 : List Dy.D} {at_ : Nat → Fr → Option Dy.D} {fin : Fr → Bool} {n : Nat} {Rem : Nat → Fr → Y.S → List Dy.D → Rx Y.S (List Dy.D)} {vacc0 : List V} {vs : List Nat} {Fin : Hp → Prop}
    (hix : ∀ i ∈ ix, i ∈ vs) (hoff : ∀ d ρ ρ', g d ρ = some ρ' → OffF ix ρ ρ') (R : RunsB c.w c.K Y wi J at_ fin n (wipe σ vs) Gr) (sgr : Same Gr G0) (cfg0 : Cfg c.w c.K Y wi G0 H0 fp0 (wipe σ vs) (wipeF ρx vs) s0) (tr0 : Tr G1 H1 fp1 O G0 H0 fp0) (ow : ∀ p, Own (wipe σ vs) (wipeF ρx vs) p → O p)
    (hD : H1 D = none) (nO : ¬ O D) (hD0 : H0 D = some (.lst vacc0)) (gD0 : G0 D = none) (fD0 : ¬ fp0 D) (ra0 : RepA c.w c.K G0 acc0 vacc0) (hstep : ∀ k ρ s acc, k < n → Rem k ρ s acc = match at_ k ρ with
      | none => .bad
      | some d => turnL vs g mt me d ρ s acc (Rem (k + 1))) (hend : ∀ ρ s acc, Rem n ρ s acc = if fin ρ = true then .ok acc ρ s else .bad) (k : ContD c Y wi D O G1 H1 fp1 (wipe σ vs) (wipeF ρx vs) Fin (Rem 0 (wipeF ρx vs) s0 acc0)) :
    ∃ W : Nat → Nat → Hp → Prop, (∃ m, W 0 m H0) ∧ ∀ i m H, W i m H → (J.stop i H ∧ Fin H) ∨ (J.go i H ∧ ∃ Nx : Hp → Prop, (∀ H', Nx H' → ∃ m', m' < m ∧ W (i + 1) m' H') ∧ ∀ x H', J.yld i H x H' →
      tG c Y ix g x (wipe σ vs) H' fun σ2 H2 => wipe σ2 vs = wipe σ vs ∧ tT c Y W0 mt σ2 H2 fun b H3 => if b = true then tE c Y W0 me σ2 H3 fun y H4 => ∃ acc, H4 D = some (.lst acc) ∧ acc.length < sizeLine ∧ Nx (upd H4 D (.lst (acc ++ [y]))) else Nx H3) := by
  refine ⟨fun i m H2 => m = n - i ∧ i ≤ n ∧ ∃ G2 fp2 ρ2 s2 acc vacc, Cfg c.w c.K Y wi G2 H2 fp2 (wipe σ vs) ρ2 s2 ∧ Sim (wipeF ρx vs) ρ2 ∧ Same Gr G2 ∧ Tr G1 H1 fp1 O G2 H2 fp2 ∧
      H2 D = some (.lst vacc) ∧ G2 D = none ∧ ¬ fp2 D ∧ RepA c.w c.K G2 acc vacc ∧ ContD c Y wi D O G1 H1 fp1 (wipe σ vs) (wipeF ρx vs) Fin (Rem i ρ2 s2 acc),
    ⟨n, by simp, Nat.zero_le _, G0, fp0, wipeF ρx vs, s0, acc0, vacc0, cfg0, Sim.refl _, sgr, tr0, hD0, gD0, fD0, ra0, k⟩, ?_⟩
  rintro i m H2 ⟨rfl, hi, G2, fp2, ρ2, s2, acc, vacc, cfg2, sim2, sgr2, tr2, hD2, gD2, fD2, ra, k2⟩
  have nOwn : ∀ p, Own (wipe σ vs) ρ2 p → p ≠ D := fun p o e => nO (by rw [← e]; exact ow p (sim2.ownI o))
  obtain ⟨Rgo, Rst⟩ := R G2 H2 fp2 ρ2 s2 sgr2 cfg2
  by_cases hlt : i < n
  · rw [hstep i _ _ _ hlt] at k2
    cases ea : at_ i ρ2 with
    | none =>
      rw [ea] at k2
      exact k2.elim
    | some d =>
    rw [ea] at k2
    dsimp only at k2
    obtain ⟨hgo, hyld⟩ := Rgo i d hlt ea
    refine .inr ⟨hgo, _, fun H' hN => ⟨n - (i + 1), by omega, hN⟩, fun x H3 y => ?_⟩
    obtain ⟨G3, cfg3, sg3, r3, tr3, kp3, gn3⟩ := hyld x H3 y
    unfold turnL at k2
    cases eg : g d ρ2 with
    | none =>
      rw [eg] at k2
      exact k2.elim
    | some ρ3 =>
      rw [eg] at k2
      dsimp only at k2
      refine ⟨wi, G3, fp2, ρ2, s2, d, ρ3, cfg3, r3, eg, fun σ4 cfg4 ow4 of4 => ⟨wipe_off of4 hix, ?_⟩⟩
      have wσ : wipe σ4 vs = wipe σ vs := wipe_off of4 hix
      have tr3' : Tr G1 H1 fp1 O G3 H3 fp2 := tr2.trans (tr3 (Own (wipe σ vs) ρ2)) fun p o => .inl (ow p (sim2.ownI o))
      have hD3 : H3 D = some (.lst vacc) := kp3 D _ hD2
      have gD3 : G3 D = none := (gn3 D gD2).elim (fun z => z) fun z => by
        rw [hD2] at z
        cases z
      have nD4 : ∀ {ρ6 : Fr}, Sim ρ3 ρ6 → ∀ p, Own σ4 ρ6 p → p ≠ D := fun q p o => nOwn p (ow4 p (q.ownI o))
      have inO : ∀ {ρ6 : Fr}, Sim ρ3 ρ6 → ∀ p, Own σ4 ρ6 p → O p ∨ H1 p = none := fun q p o => .inl (ow p (sim2.ownI (ow4 p (q.ownI o))))
      refine ⟨wi, G3, fp2, ρ3, s2, cfg4, ?_⟩
      cases et : mt ρ3 s2 with
      | bad =>
        rw [et] at k2
        exact k2.elim
      | ex =>
        rw [et] at k2
        exact k2.elim
      | ok b ρ5 s5 =>
        rw [et] at k2
        intro G5 H5 fp5 b' cfg5 sim5 tr5 eb
        subst eb
        have tr5' : Tr G1 H1 fp1 O G5 H5 fp5 := tr3'.trans tr5 fun p o => inO (Sim.refl _) p o
        have hD5 : H5 D = some (.lst vacc) := tr5.oth D _ hD3 fD2 fun o => nD4 (Sim.refl _) D o rfl
        have gD5 : G5 D = none := tr5.stays gD3 hD3 (fun y => nD4 (Sim.refl _) D y rfl) not_isT_lst
        have fD5 : ¬ fp5 D := fun z => (tr5.fnew D z).elim fD2 fun y => by rw [hD3] at y; cases y
        have sg5 : Same G2 G5 := sg3.trans tr5.gg
        cases b with
        | false =>
          refine ite_ff ⟨rfl, by omega, G5, fp5, wipeF ρ5 vs, s5, acc, vacc, ?_, sim_turn sim2 (hoff _ _ _ eg) hix sim5, sgr2.trans sg5, tr5', hD5, gD5, fD5, ra.mono sg5, k2⟩
          rw [← wσ]
          exact cfg5.wipe vs
        | true =>
          refine ite_tt ⟨wi, G5, fp5, ρ5, s5, cfg5, ?_⟩
          dsimp only at k2
          cases ee : me ρ5 s5 with
          | bad =>
            rw [ee] at k2
            exact k2.elim
          | ex =>
            rw [ee] at k2
            exact k2.elim
          | ok o ρ6 s6 =>
            rw [ee] at k2
            intro G6 H6 fp6 v cfg6 sim6 tr6 r6
            obtain ⟨G7, cfg7, tr7, r7, sg7⟩ := frz_ok cfg6 tr6 r6
            dsimp only at k2
            cases ef : frz o with
            | val xx =>
              rw [ef] at k2 r7
              dsimp only at k2
              split at k2
              · rename_i hz
                have nD5 : ¬ Own σ4 ρ5 D := fun o => nD4 sim5 D o rfl
                have hD7 : H6 D = some (.lst vacc) := tr6.oth D _ hD5 fD5 nD5
                have gD7 : G7 D = none := tr7.stays gD5 hD5 nD5 not_isT_lst
                have fD7 : ¬ fp6 D := fun z => (tr6.fnew D z).elim fD5 fun y => by rw [hD5] at y; cases y
                have ra7 : RepA c.w c.K G7 acc vacc := ra.mono (sg5.trans tr7.gg)
                have tr7' : Tr G1 H1 fp1 O G7 H6 fp6 := tr5'.trans tr7 fun p o => inO sim5 p o
                refine ⟨vacc, hD7, by rw [← ra7.length, sizeLine_eq]; exact of_decide_eq_true hz, rfl, by omega, G7, fp6, wipeF ρ6 vs, s6, acc ++ [xx], vacc ++ [v], ?_, sim_turn sim2 (hoff _ _ _ eg) hix (sim5.trans sim6), sgr2.trans (sg5.trans tr7.gg), tr7'.apart hD, upd_same, gD7, fD7, ra7.append (.cons r7 .nil), k2⟩
                rw [← wσ]
                exact (cfg7.wipe vs).apart gD7 fD7 fun o => nD4 (sim5.trans sim6) D o.unwipe rfl
              · exact k2.elim
            | newl => rw [ef] at k2; exact k2.elim
            | newd => rw [ef] at k2; exact k2.elim
            | bor => rw [ef] at k2; exact k2.elim
            | hdl => rw [ef] at k2; exact k2.elim
  · have e : i = n := by omega
    subst e
    rw [hend] at k2
    cases ef : fin ρ2 with
    | false =>
      rw [ef, if_neg Bool.false_ne_true] at k2
      exact k2.elim
    | true =>
      rw [ef, if_pos rfl] at k2
      exact .inl ⟨Rst ef, k2 G2 H2 fp2 vacc cfg2 sim2 tr2 hD2 gD2 fD2 ra⟩
/-- the reading of a comprehension -/
theorem lc_imp {W : WX} {vs : List Nat} (hix : ∀ i ∈ ix, i ∈ vs) (hoff : ∀ d ρ ρ', g d ρ = some ρ' → OffF ix ρ ρ') {σ : L2.St} {H : Hp} {Q : VK} (h : tE c Y W (eLc vs g mi mt me) σ H Q) :
    tLc (tI c Y W mi) (tG (c.blk scope) Y ix g) (tT (c.blk scope) Y W0 mt) (tE (c.blk scope) Y W0 me) vs σ H Q := by
  obtain ⟨wi, G, fp, ρ, s, cfg, k⟩ := h
  refine ⟨wi, G, fp, ρ, s, cfg, (Cont.bindL k).mono fun J H1 ⟨G1, fp1, ρ1, s1, l, cfg1, sim1, tr1, r1, k1⟩ D hD => ?_⟩
  have k1 := Cont.shift early_O k1 tr1 sim1
  dsimp only at k1
  have fr := cfg1.free hD
  refine lc_loop (c := c.blk scope) (ρx := ρ1) (acc0 := []) (vacc0 := []) (G1 := G1) (H1 := H1) (fp1 := fp1) (O := Own (wipe σ vs) (wipeF ρ1 vs)) (Rem := fun k ρ s acc => lcL vs g mt me (l.drop k) ρ s acc) hix hoff r1.b (fun _ _ h => h) ((cfg1.wipe vs).laid hD) (Tr.refl.laid hD) (fun p o => o) hD (fun o => (own_there cfg1 o.unwipe).1 hD) upd_same fr.1 fr.2.1 .nil (fun k ρ s acc h => lcL_step k ρ s acc h) (fun ρ s acc => lcL_end ρ s acc) ?_
  rw [List.drop_zero]
  cases el : lcL vs g mt me l (wipeF ρ1 vs) s1 [] with
  | ok acc ρ' s' =>
    rw [el] at k1
    intro G2 H2 fp2 vacc cfg2 sim2 tr2 hD2 gD2 fD2 ra
    obtain ⟨cfg5, sim5⟩ := back_ok cfg1 tr2 cfg2 sim2
    refine k1 G2 H2 fp2 _ cfg5 sim5 (tr2.wide fun p o => o.unwipe) ⟨D, rfl, hD, gD2, fD2, fun o => ?_, vacc, hD2, ra⟩
    exact (own_there cfg1 (sim5.ownI o)).1 hD
  | ex =>
    rw [el] at k1
    exact (no_ex el).elim
  | bad =>
    rw [el] at k1
    exact k1.elim
/-! over a list of the frame's own -/
theorem lcO_no_ex {S : Type} {i n : Nat} {vs : List Nat} {g : MG} {t : MT S} {m : ME S} : ∀ {k : Nat} {ρ : Fr} {s : S} {acc : List D} {e : Exn} {ρ' : Fr} {s' : S}, lcO i n vs g t m k ρ s acc ≠ .ex e ρ' s'
  | 0, _, _, _, _, _, _ => fun h => by
    unfold lcO at h
    split at h
    · split at h <;> cases h
    · cases h
  | k + 1, ρ, s, acc, e, ρ', s' => fun h => by
    unfold lcO at h
    split at h
    · split at h
      · exact turn_no_ex (fun _ _ _ _ _ _ => lcO_no_ex) h
      · cases h
    · cases h
def eLcO {S : Type} (i : Nat) (vs : List Nat) (g : MG) (t : MT S) (e : ME S) : ME S := fun ρ s => match ρ[i]? with
  | some (.lst l) => if vs.contains i then .bad else (lcO i l.length vs g t e l.length (wipeF ρ vs) s []).bind fun xs ρ' s => .ok (.newl xs) (backF ρ ρ' vs) s
  | _ => .bad
def ownAt (i : Nat) (k : Nat) (ρ : Fr) : Option Dy.D := match ρ[i]? with
  | some (.lst l) => l[k]?
  | _ => none
def ownFin (i n : Nat) (ρ : Fr) : Bool := match ρ[i]? with
  | some (.lst l) => decide (l.length = n)
  | _ => false
theorem lcO_step {S : Type} {i n : Nat} {vs : List Nat} {g : MG} {t : MT S} {e : ME S} (k : Nat) (ρ : Fr) (s : S) (acc : List Dy.D) (h : k < n) : lcO i n vs g t e (n - k) ρ s acc = match ownAt i k ρ with
      | none => .bad
      | some d => turnL vs g t e d ρ s acc fun ρ s acc => lcO i n vs g t e (n - (k + 1)) ρ s acc := by
  obtain ⟨m, hm⟩ : ∃ m, n - k = m + 1 := ⟨n - k - 1, by omega⟩
  have hm2 : n - (k + 1) = m := by omega
  have hk : n - (m + 1) = k := by omega
  rw [hm, hm2]
  conv => lhs; unfold lcO
  unfold ownAt
  rw [hk]
  cases ρ[i]? with
  | none => rfl
  | some x =>
    cases x with
    | lst l =>
      dsimp only
      cases l[k]? with
      | none => rfl
      | some d => rfl
    | _ => rfl
theorem lcO_end {S : Type} {i n : Nat} {vs : List Nat} {g : MG} {t : MT S} {e : ME S} (ρ : Fr) (s : S) (acc : List Dy.D) : lcO i n vs g t e (n - n) ρ s acc = if ownFin i n ρ = true then .ok acc ρ s else .bad := by
  rw [Nat.sub_self]
  unfold lcO ownFin
  cases ρ[i]? with
  | none => rfl
  | some x =>
    cases x with
    | lst l =>
      rfl
    | _ => rfl
theorem lcO_imp {W : WX} {vs : List Nat} {i : Nat} (hix : ∀ i ∈ ix, i ∈ vs) (hoff : ∀ d ρ ρ', g d ρ = some ρ' → OffF ix ρ ρ') {σ : L2.St} {H : Hp} {Q : VK} (h : tE c Y W (eLcO i vs g mt me) σ H Q) :
    tLc (iList c.K (tVar i)) (tG (c.blk scope) Y ix g) (tT (c.blk scope) Y W0 mt) (tE (c.blk scope) Y W0 me) vs σ H Q := by
  obtain ⟨wi, G, fp, ρ, s, cfg, k⟩ := h
  unfold eLcO at k
  cases hx : ρ[i]? with
  | none =>
    rw [hx] at k
    exact k.elim
  | some x =>
  cases x with
  | lst l =>
    rw [hx] at k
    dsimp only at k
    split at k
    · exact k.elim
    · rename_i hvs
      have hvs : i ∉ vs := fun z => hvs (by simpa using z)
      obtain ⟨a, ea, h1, h2, vl, hv, rl⟩ := cfg.slot i _ hx
      refine ⟨.ref a, ea, a, rfl, ⟨vl, .inl (.inl hv)⟩, fun D hD => ?_⟩
      have fr := cfg.free hD
      refine lc_loop (c := c.blk scope) (J := Itl c.K a) (at_ := ownAt i) (fin := ownFin i l.length) (n := l.length) (Gr := G) (ρx := ρ) (acc0 := []) (vacc0 := []) (G1 := G) (H1 := H) (fp1 := fp) (O := Own (wipe σ vs) (wipeF ρ vs)) (Rem := fun k ρ s acc => lcO i l.length vs g mt me (l.length - k) ρ s acc)
        hix hoff (fun G2 H2 fp2 ρ2 s2 sg cfg2 => ⟨fun k d hk hd => ?_, fun hf => ?_⟩) (fun _ _ h => h) ((cfg.wipe vs).laid hD) (Tr.refl.laid hD) (fun p o => o) hD (fun o => (own_there cfg o.unwipe).1 hD) upd_same fr.1 fr.2.1 .nil (fun k ρ s acc h => lcO_step k ρ s acc h) (fun ρ s acc => lcO_end ρ s acc) ?_
      · unfold ownAt at hd
        cases hx2 : ρ2[i]? with
        | none =>
          rw [hx2] at hd
          cases hd
        | some x2 =>
        rw [hx2] at hd
        cases x2 with
        | lst l2 =>
          obtain ⟨a2, ea2, _, _, vl2, hv2, rl2⟩ := cfg2.slot i _ hx2
          rw [wipe_set hvs, ea] at ea2
          cases ea2
          obtain ⟨v, hv3, rv⟩ := rl2.get hd
          have sq : SqL c.K H2 a vl2 := .inl (.inl hv2)
          refine ⟨⟨vl2, v, sq, hv3⟩, fun x H' y => ?_⟩
          obtain ⟨rfl, y⟩ := y
          have := y _ sq
          rw [hv3] at this
          cases this
          exact ⟨G2, cfg2, fun _ _ h => h, rv, fun _ => Tr.refl, fun _ _ h => h, fun _ h => .inl h⟩
        | _ => cases hd
      · unfold ownFin at hf
        cases hx2 : ρ2[i]? with
        | none =>
          rw [hx2] at hf
          cases hf
        | some x2 =>
        rw [hx2] at hf
        cases x2 with
        | lst l2 =>
          obtain ⟨a2, ea2, _, _, vl2, hv2, rl2⟩ := cfg2.slot i _ hx2
          rw [wipe_set hvs, ea] at ea2
          cases ea2
          exact ⟨vl2, .inl (.inl hv2), by rw [← rl2.length]; exact Nat.le_of_eq (of_decide_eq_true hf)⟩
        | _ => cases hf
      · rw [Nat.sub_zero]
        cases el : lcO i l.length vs g mt me l.length (wipeF ρ vs) s [] with
        | ok acc ρ' s' =>
          rw [el] at k
          intro G2 H2 fp2 vacc cfg2 sim2 tr2 hD2 gD2 fD2 ra
          obtain ⟨cfg5, sim5⟩ := back_ok cfg tr2 cfg2 sim2
          refine k G2 H2 fp2 _ cfg5 sim5 (tr2.wide fun p o => o.unwipe) ⟨D, rfl, hD, gD2, fD2, fun o => ?_, vacc, hD2, ra⟩
          exact (own_there cfg (sim5.ownI o)).1 hD
        | ex =>
          rw [el] at k
          exact (lcO_no_ex el).elim
        | bad =>
          rw [el] at k
          exact k.elim
  | _ =>
    rw [hx] at k
    exact k.elim
theorem blkOk_c {X : Cx} (ic : InC c X) (hb : blkC c.N c.sc scope own = true) : BlkOk X.N X.env.scope scope own := by
  rw [ic.N, ic.sc]
  exact blkOk_by hb
theorem de_lc (hi : DI c Y tg iter mi) (hg : DG (c.blk scope) Y tg ix g) (ht : DTs (c.blk scope) Y ifs mt) (he : DE (c.blk scope) Y elt me) (hb : blkC c.N c.sc scope own = true := by decide +kernel) (hix : ∀ i ∈ ix, i ∈ own.map (·.2) := by decide) (hc : c.calm = true := by rfl)
    (hs : ∀ env x, foldedSetIterable iter env x = pure x := by intro _ _; rfl) : DE c Y (.ListComp elt [⟨tg, iter, ifs, 0⟩] scope pos) (eLc (own.map (·.2)) g mi mt me) := fun X W ic tk =>
  PE.imp (pe_lc (by rw [ic.calm]; exact hc) (by rw [ic.N]; exact ic.nd) (hi X W ic tk) (blkOk_c ic hb) (fun s H C cl fp => hg.run _ (ic.blk s H C cl fp)) (fun s H C cl fp => ht _ W0 (ic.blk s H C cl fp) takes0) (fun s H C cl fp => he _ W0 (ic.blk s H C cl fp) takes0) (hs _))
    fun σ H Q h => lc_imp hix hg.off h
/-- [.. for .. in x], x a list of the frame's own, slot i -/
theorem de_lcO (i : Nat) {x : Str} (hN : c.N[i]? = some x := by rfl) (hvx : Vis c.sc x := by first | exact Or.inl rfl | exact Or.inr (Or.inl rfl) | exact Or.inr (Or.inr rfl)) (hg : DG (c.blk scope) Y tg ix g) (ht : DTs (c.blk scope) Y ifs mt) (he : DE (c.blk scope) Y elt me) (hb : blkC c.N c.sc scope own = true := by decide +kernel)
    (hix : ∀ i ∈ ix, i ∈ own.map (·.2) := by decide) (hc : c.calm = true := by rfl) (hd : (x == ("__debug__" : Str)) = false := by decide) (hcd : (x == ("__classdict__" : Str)) = false := by decide) :
    DE c Y (.ListComp elt [⟨tg, .Name x p, ifs, 0⟩] scope pos) (eLcO i (own.map (·.2)) g mt me) := fun X W ic tk =>
  PE.imp (pe_lc (by rw [ic.calm]; exact hc) (by rw [ic.N]; exact ic.nd) (pi_list (pe_var (i := i) (by rw [ic.N]; exact hN) (by rw [ic.sc]; exact hvx) hd hcd)) (blkOk_c ic hb) (fun s H C cl fp => hg.run _ (ic.blk s H C cl fp)) (fun s H C cl fp => ht _ W0 (ic.blk s H C cl fp) takes0) (fun s H C cl fp => he _ W0 (ic.blk s H C cl fp) takes0))
    fun σ H Q h => by
      rw [ic.K]
      exact lcO_imp hix hg.off h
theorem ds_setLcO (i j : Nat) {x y : Str} {py spos : Pos} (hN : c.N[i]? = some x := by rfl) (hvx : Vis c.sc x := by first | exact Or.inl rfl | exact Or.inr (Or.inl rfl) | exact Or.inr (Or.inr rfl)) (hg : DG (c.blk scope) Y tg ix g) (ht : DTs (c.blk scope) Y ifs mt) (he : DE (c.blk scope) Y elt me)
    (hy : c.N[j]? = some y := by rfl) (hyl : c.sc.names.lookup y = some .local := by rfl) (hk : c.sc.kind = .function := by rfl) (hl : (py.line == pos.line) = true := by rfl)
    (ha : (scope.names.any fun (n, k) => n == y && (k == .local || k == .cell)) = false := by decide +kernel) (hb : blkC c.N c.sc scope own = true := by decide +kernel) (hix : ∀ i ∈ ix, i ∈ own.map (·.2) := by decide) (hc : c.calm = true := by rfl) (hd : (x == ("__debug__" : Str)) = false := by decide) (hcd : (x == ("__classdict__" : Str)) = false := by decide) :
    DS c Y (.Assign [.Name y py] (.ListComp elt [⟨tg, .Name x p, ifs, 0⟩] scope pos) spos) (sAsg j (eLcO i (own.map (·.2)) g mt me)) := fun X W ic tk =>
  PS.imp (ps_setLc (i := j) (by rw [ic.calm]; exact hc) (by rw [ic.N]; exact ic.nd) (by rw [ic.N]; exact hy) (by rw [ic.sc]; exact hyl) (sw_true (by rw [ic.sc]; exact hk) (by rw [ic.sc]; exact hyl) hl ha) (pi_list (pe_var (i := i) (by rw [ic.N]; exact hN) (by rw [ic.sc]; exact hvx) hd hcd)) (blkOk_c ic hb)
    (fun s H C cl fp => hg.run _ (ic.blk s H C cl fp)) (fun s H C cl fp => ht _ W0 (ic.blk s H C cl fp) takes0) (fun s H C cl fp => he _ W0 (ic.blk s H C cl fp) takes0)) fun D σ H h => by
    obtain ⟨wi, G, fp, ρ, s, cfg, k⟩ := h
    rw [ic.K]
    refine lcO_imp (c := c) (Y := Y) (W := W) hix hg.off ⟨wi, G, fp, ρ, s, cfg, (Cont.bindS k).mono fun x H1 ⟨G1, fp1, ρ1, s1, o1, cfg1, sim1, tr1, r1, k1⟩ => ?_⟩
    obtain ⟨ρ2, e2, k2⟩ := of_nx k1
    obtain ⟨cfg2, ow⟩ := put_ok cfg1 r1 e2
    exact k2 G1 H1 fp1 _ cfg2 tr1 fun p o => (ow p o).imp (fun z => sim1.ownI z) fun z => z
/-- name = [..], the name a local -/
theorem ds_setLc (i : Nat) {y : Str} {py spos : Pos} (hi : DI c Y tg iter mi) (hg : DG (c.blk scope) Y tg ix g) (ht : DTs (c.blk scope) Y ifs mt) (he : DE (c.blk scope) Y elt me) (hy : c.N[i]? = some y := by rfl) (hyl : c.sc.names.lookup y = some .local := by rfl) (hk : c.sc.kind = .function := by rfl) (hl : (py.line == pos.line) = true := by rfl)
    (ha : (scope.names.any fun (n, k) => n == y && (k == .local || k == .cell)) = false := by decide +kernel) (hb : blkC c.N c.sc scope own = true := by decide +kernel) (hix : ∀ i ∈ ix, i ∈ own.map (·.2) := by decide) (hc : c.calm = true := by rfl)
    (hs : ∀ env x, foldedSetIterable iter env x = pure x := by intro _ _; rfl) : DS c Y (.Assign [.Name y py] (.ListComp elt [⟨tg, iter, ifs, 0⟩] scope pos) spos) (sAsg i (eLc (own.map (·.2)) g mi mt me)) := fun X W ic tk =>
  PS.imp (ps_setLc (i := i) (by rw [ic.calm]; exact hc) (by rw [ic.N]; exact ic.nd) (by rw [ic.N]; exact hy) (by rw [ic.sc]; exact hyl) (sw_true (by rw [ic.sc]; exact hk) (by rw [ic.sc]; exact hyl) hl ha) (hi X W ic tk) (blkOk_c ic hb)
    (fun s H C cl fp => hg.run _ (ic.blk s H C cl fp)) (fun s H C cl fp => ht _ W0 (ic.blk s H C cl fp) takes0) (fun s H C cl fp => he _ W0 (ic.blk s H C cl fp) takes0) (hs _)) fun D σ H h => by
    obtain ⟨wi, G, fp, ρ, s, cfg, k⟩ := h
    refine lc_imp (c := c) (Y := Y) (W := W) hix hg.off ⟨wi, G, fp, ρ, s, cfg, (Cont.bindS k).mono fun x H1 ⟨G1, fp1, ρ1, s1, o1, cfg1, sim1, tr1, r1, k1⟩ => ?_⟩
    obtain ⟨ρ2, e2, k2⟩ := of_nx k1
    obtain ⟨cfg2, ow⟩ := put_ok cfg1 r1 e2
    exact k2 G1 H1 fp1 _ cfg2 tr1 fun p o => (ow p o).imp (fun z => sim1.ownI z) fun z => z

/-! two clauses -/
def lcL2 {S : Type} (vs : List Nat) (g : MG) (t : MT S) (vs1 : List Nat) (g1 : MG) (mi1 : MI S) (t1 : MT S) (e : ME S) : List D → Fr → S → List D → Rx S (List D)
  | [], ρ, s, acc => .ok acc ρ s
  | d :: r, ρ, s, acc => match g d ρ with
    | none => .bad
    | some ρ1 => match t ρ1 s with
      | .ok true ρ2 s2 => match mi1 ρ2 s2 with
        | .ok l1 ρ3 s3 => match lcL vs1 g1 t1 e l1 (wipeF ρ3 vs1) s3 acc with
          | .ok acc ρ4 s4 => lcL2 vs g t vs1 g1 mi1 t1 e r (wipeF ρ4 vs) s4 acc
          | _ => .bad
        | _ => .bad
      | .ok false ρ2 s2 => lcL2 vs g t vs1 g1 mi1 t1 e r (wipeF ρ2 vs) s2 acc
      | _ => .bad
def Rx.only {S α β : Type} : Rx S α → (α → Fr → S → Rx S β) → Rx S β
  | .ok a ρ s, k => k a ρ s
  | _, _ => .bad
def eLc2 {S : Type} (vs : List Nat) (g : MG) (mi : MI S) (t : MT S) (vs1 : List Nat) (g1 : MG) (mi1 : MI S) (t1 : MT S) (e : ME S) : ME S := fun ρ s =>
  (mi ρ s).bind fun l ρ s => (lcL2 vs g t vs1 g1 mi1 t1 e l (wipeF ρ vs) s []).only fun xs ρ' s => .ok (.newl xs) (backF ρ ρ' vs) s
theorem wipe_wipe {σ : L2.St} {vs vs1 : List Nat} (h : ∀ i ∈ vs1, i ∈ vs) : wipe (wipe σ vs1) vs = wipe σ vs := by
  refine List.ext_getElem? fun i => ?_
  by_cases hi : i ∈ vs
  · by_cases hj : i < σ.length
    · rw [wipe_in hi (by rw [wipe_length]; exact hj), wipe_in hi hj]
    · rw [List.getElem?_eq_none (by rw [wipe_length, wipe_length]; omega), List.getElem?_eq_none (by rw [wipe_length]; omega)]
  · rw [wipe_set hi, wipe_set hi, wipe_set fun z => hi (h i z)]
theorem sim_wipe {ρ1 ρ4 ρ3 : Fr} {vs vs1 : List Nat} (h : Sim (wipeF ρ1 vs) (wipeF ρ3 vs)) (h1 : ∀ i ∈ vs1, i ∈ vs) (h4 : Sim (wipeF ρ3 vs1) ρ4) : Sim (wipeF ρ1 vs) (wipeF ρ4 vs) := by
  refine ⟨?_, fun i x y hx hy => ?_⟩
  · have e1 := h.1
    have e2 := h4.1
    simp only [wipeF_length] at e1 e2 ⊢
    exact e1.trans e2
  · by_cases hi : i ∈ vs
    · rw [wipeF_in hi hx, wipeF_in hi hy]
      exact Kin.refl _
    · obtain ⟨z, hz, k⟩ := h.get hx
      rw [wipeF_set hi] at hz hy
      exact k.trans (h4.2 i z y (by rw [wipeF_set fun q => hi (h1 i q)]; exact hz) hy)
variable {tg1 iter1 : Expr} {ifs1 : List Expr} {mi1 : MI Y.S} {mt1 : MT Y.S} {g1 : MG} {ix1 vs1 : List Nat}
theorem lc2_imp {W : WX} {vs : List Nat} (hix : ∀ i ∈ ix, i ∈ vs) (hoff : ∀ d ρ ρ', g d ρ = some ρ' → OffF ix ρ ρ') (hix1 : ∀ i ∈ ix1, i ∈ vs1) (hoff1 : ∀ d ρ ρ', g1 d ρ = some ρ' → OffF ix1 ρ ρ') (hv : ∀ i ∈ vs1, i ∈ vs) {σ : L2.St} {H : Hp} {Q : VK}
    (h : tE c Y W (eLc2 vs g mi mt vs1 g1 mi1 mt1 me) σ H Q) :
    tLc2 (tI c Y W mi) (tG (c.blk scope) Y ix g) (tT (c.blk scope) Y W0 mt) (tI (c.blk scope) Y W0 mi1) (tG (c.blk scope) Y ix1 g1) (tT (c.blk scope) Y W0 mt1) (tE (c.blk scope) Y W0 me) vs vs1 σ H Q := by
  obtain ⟨wi, G, fp, ρ, s, cfg, k⟩ := h
  refine ⟨wi, G, fp, ρ, s, cfg, (Cont.bindL k).mono fun J H1 ⟨G1, fp1, ρ1, s1, l, cfg1, sim1, tr1, r1, k1⟩ D hD => ?_⟩
  have k1 := Cont.shift early_O k1 tr1 sim1
  dsimp only at k1
  have fr := cfg1.free hD
  have nO : ¬ Own (wipe σ vs) (wipeF ρ1 vs) D := fun o => (own_there cfg1 o.unwipe).1 hD
  refine ⟨fun i m H2 => m = l.length - i ∧ i ≤ l.length ∧ ∃ G2 fp2 ρ2 s2 acc vacc, Cfg c.w c.K Y wi G2 H2 fp2 (wipe σ vs) ρ2 s2 ∧ Sim (wipeF ρ1 vs) ρ2 ∧ Tr G1 H1 fp1 (Own (wipe σ vs) (wipeF ρ1 vs)) G2 H2 fp2 ∧
      H2 D = some (.lst vacc) ∧ G2 D = none ∧ ¬ fp2 D ∧ RepA c.w c.K G2 acc vacc ∧ Cont c Y W (relO c Y wi) wi G1 H1 fp1 σ ρ1 Q ((lcL2 vs g mt vs1 g1 mi1 mt1 me (l.drop i) ρ2 s2 acc).only fun xs ρ' s => .ok (.newl xs) (backF ρ1 ρ' vs) s),
    ⟨l.length, by simp, Nat.zero_le _, G1, fp1, wipeF ρ1 vs, s1, [], [], (cfg1.wipe vs).laid hD, Sim.refl _, Tr.refl.laid hD, upd_same, fr.1, fr.2.1, .nil, by rw [List.drop_zero]; exact k1⟩, ?_⟩
  rintro i m H2 ⟨rfl, hi, G2, fp2, ρ2, s2, acc, vacc, cfg2, sim2, tr2, hD2, gD2, fD2, ra, k2⟩
  have nOwn : ∀ p, Own (wipe σ vs) ρ2 p → p ≠ D := fun p o e => nO (by rw [← e]; exact sim2.ownI o)
  by_cases hlt : i < l.length
  · refine .inr ⟨r1.go i H2 (tr2.gg.trans cfg2.sub) hlt, _, fun H' hN => ⟨l.length - (i + 1), by omega, hN⟩, fun x H3 y => ?_⟩
    obtain ⟨d, G3, hd, cfg3, sg3, r3, tr3, kp3, gn3⟩ := yield_ok r1 tr2.gg cfg2 hlt y
    have ed : l.drop i = d :: l.drop (i + 1) := by
      rw [List.drop_eq_getElem_cons hlt]
      obtain ⟨_, hd'⟩ := List.getElem?_eq_some_iff.mp hd
      rw [hd']
    rw [ed] at k2
    unfold lcL2 at k2
    cases eg : g d ρ2 with
    | none =>
      rw [eg] at k2
      exact k2.elim
    | some ρ3 =>
      rw [eg] at k2
      dsimp only at k2
      refine ⟨wi, G3, fp2, ρ2, s2, d, ρ3, cfg3, r3, eg, fun σ4 cfg4 ow4 of4 => ⟨wipe_off of4 hix, ?_⟩⟩
      have wσ : wipe σ4 vs = wipe σ vs := wipe_off of4 hix
      have tr3' : Tr G1 H1 fp1 (Own (wipe σ vs) (wipeF ρ1 vs)) G3 H3 fp2 := tr2.trans (tr3 (Own (wipe σ vs) ρ2)) fun p o => .inl (sim2.ownI o)
      have hD3 : H3 D = some (.lst vacc) := kp3 D _ hD2
      have gD3 : G3 D = none := (gn3 D gD2).elim (fun z => z) fun z => by
        rw [hD2] at z
        cases z
      have nD4 : ∀ {ρ6 : Fr}, Sim ρ3 ρ6 → ∀ p, Own σ4 ρ6 p → p ≠ D := fun q p o => nOwn p (ow4 p (q.ownI o))
      have inO : ∀ {ρ6 : Fr}, Sim ρ3 ρ6 → ∀ p, Own σ4 ρ6 p → Own (wipe σ vs) (wipeF ρ1 vs) p := fun q p o => sim2.ownI (ow4 p (q.ownI o))
      refine ⟨wi, G3, fp2, ρ3, s2, cfg4, ?_⟩
      cases et : mt ρ3 s2 with
      | bad =>
        rw [et] at k2
        exact k2.elim
      | ex =>
        rw [et] at k2
        exact k2.elim
      | ok b ρ5 s5 =>
        rw [et] at k2
        intro G5 H5 fp5 b' cfg5 sim5 tr5 eb
        subst eb
        have tr5' : Tr G1 H1 fp1 (Own (wipe σ vs) (wipeF ρ1 vs)) G5 H5 fp5 := tr3'.trans tr5 fun p o => .inl (inO (Sim.refl _) p o)
        have hD5 : H5 D = some (.lst vacc) := tr5.oth D _ hD3 fD2 fun o => nD4 (Sim.refl _) D o rfl
        have gD5 : G5 D = none := tr5.stays gD3 hD3 (fun y => nD4 (Sim.refl _) D y rfl) not_isT_lst
        have fD5 : ¬ fp5 D := fun z => (tr5.fnew D z).elim fD2 fun y => by rw [hD3] at y; cases y
        have sg5 : Same G2 G5 := sg3.trans tr5.gg
        cases b with
        | false =>
          refine ite_ff ⟨rfl, by omega, G5, fp5, wipeF ρ5 vs, s5, acc, vacc, ?_, sim_turn sim2 (hoff _ _ _ eg) hix sim5, tr5', hD5, gD5, fD5, ra.mono sg5, k2⟩
          rw [← wσ]
          exact cfg5.wipe vs
        | true =>
          refine ite_tt ⟨wi, G5, fp5, ρ5, s5, cfg5, ?_⟩
          dsimp only at k2
          cases em : mi1 ρ5 s5 with
          | bad =>
            rw [em] at k2
            exact k2.elim
          | ex =>
            rw [em] at k2
            exact k2.elim
          | ok l1 ρ6 s6 =>
            rw [em] at k2
            intro G6 H6 fp6 J1 cfg6 sim6 tr6 r6
            have nD5 : ¬ Own σ4 ρ5 D := fun o => nD4 sim5 D o rfl
            have hD6 : H6 D = some (.lst vacc) := tr6.oth D _ hD5 fD5 nD5
            have gD6 : G6 D = none := tr6.stays gD5 hD5 nD5 not_isT_lst
            have fD6 : ¬ fp6 D := fun z => (tr6.fnew D z).elim fD5 fun y => by rw [hD5] at y; cases y
            have tr6' : Tr G1 H1 fp1 (Own (wipe σ vs) (wipeF ρ1 vs)) G6 H6 fp6 := tr5'.trans tr6 fun p o => .inl (inO sim5 p o)
            refine lc_loop (c := c.blk scope) (ρx := ρ6) (acc0 := acc) (vacc0 := vacc) (G1 := G1) (H1 := H1) (fp1 := fp1) (O := Own (wipe σ vs) (wipeF ρ1 vs)) (Rem := fun k ρ s acc => lcL vs1 g1 mt1 me (l1.drop k) ρ s acc) hix1 hoff1 r6.b (fun _ _ h => h) (cfg6.wipe vs1) tr6' (fun p o => inO (sim5.trans sim6) p o.unwipe) hD nO hD6 gD6 fD6 (ra.mono (sg5.trans tr6.gg)) (fun k ρ s acc h => lcL_step k ρ s acc h) (fun ρ s acc => lcL_end ρ s acc) ?_
            dsimp only at k2 ⊢
            rw [List.drop_zero]
            cases el : lcL vs1 g1 mt1 me l1 (wipeF ρ6 vs1) s6 acc with
            | ok acc7 ρ7 s7 =>
              rw [el] at k2
              intro G7 H7 fp7 vacc7 cfg7 sim7 tr7 hD7 gD7 fD7 ra7
              refine ⟨rfl, by omega, G7, fp7, wipeF ρ7 vs, s7, acc7, vacc7, ?_, sim_wipe (sim_turn sim2 (hoff _ _ _ eg) hix (sim5.trans sim6)) hv sim7, tr7, hD7, gD7, fD7, ra7, k2⟩
              rw [← wσ, ← wipe_wipe hv]
              exact cfg7.wipe vs
            | ex =>
              rw [el] at k2
              exact k2.elim
            | bad =>
              rw [el] at k2
              exact k2.elim
  · have e : i = l.length := by omega
    subst e
    rw [List.drop_length] at k2
    refine .inl ⟨r1.stop H2 (tr2.gg.trans cfg2.sub), ?_⟩
    obtain ⟨cfg5, sim5⟩ := back_ok cfg1 tr2 cfg2 sim2
    refine k2 G2 H2 fp2 _ cfg5 sim5 (tr2.wide fun p o => o.unwipe) ⟨D, rfl, hD, gD2, fD2, fun o => ?_, vacc, hD2, ra⟩
    exact (own_there cfg1 (sim5.ownI o)).1 hD
theorem de_lc2 (vs1 : List Nat) (hi : DI c Y tg iter mi) (hg : DG (c.blk scope) Y tg ix g) (ht : DTs (c.blk scope) Y ifs mt) (hi1 : DI (c.blk scope) Y tg1 iter1 mi1) (hg1 : DG (c.blk scope) Y tg1 ix1 g1) (ht1 : DTs (c.blk scope) Y ifs1 mt1) (he : DE (c.blk scope) Y elt me)
    (hb : blkC c.N c.sc scope own = true := by decide +kernel) (hix : ∀ i ∈ ix, i ∈ own.map (·.2) := by decide) (hix1 : ∀ i ∈ ix1, i ∈ vs1 := by decide) (hv : ∀ i ∈ vs1, i ∈ own.map (·.2) := by decide) (hc : c.calm = true := by rfl)
    (hs : ∀ env x, foldedSetIterable iter env x = pure x := by intro _ _; rfl) (hs1 : ∀ env x, foldedSetIterable iter1 env x = pure x := by intro _ _; rfl) :
    DE c Y (.ListComp elt [⟨tg, iter, ifs, 0⟩, ⟨tg1, iter1, ifs1, 0⟩] scope pos) (eLc2 (own.map (·.2)) g mi mt vs1 g1 mi1 mt1 me) := fun X W ic tk =>
  PE.imp (pe_lc2 (by rw [ic.calm]; exact hc) (by rw [ic.N]; exact ic.nd) (hi X W ic tk) (blkOk_c ic hb) hv (fun s H C cl fp => hg.run _ (ic.blk s H C cl fp)) (fun s H C cl fp => ht _ W0 (ic.blk s H C cl fp) takes0) (fun s H C cl fp => hi1 _ W0 (ic.blk s H C cl fp) takes0)
    (fun s H C cl fp => hg1.run _ (ic.blk s H C cl fp)) (fun s H C cl fp => ht1 _ W0 (ic.blk s H C cl fp) takes0) (fun s H C cl fp => he _ W0 (ic.blk s H C cl fp) takes0) (hs _) hs1)
    fun σ H Q h => lc2_imp hix hg.off hix1 hg1.off hv h
theorem ds_setLc2 (i : Nat) (vs1 : List Nat) {y : Str} {py spos : Pos} (hi : DI c Y tg iter mi) (hg : DG (c.blk scope) Y tg ix g) (ht : DTs (c.blk scope) Y ifs mt) (hi1 : DI (c.blk scope) Y tg1 iter1 mi1) (hg1 : DG (c.blk scope) Y tg1 ix1 g1) (ht1 : DTs (c.blk scope) Y ifs1 mt1) (he : DE (c.blk scope) Y elt me)
    (hy : c.N[i]? = some y := by rfl) (hyl : c.sc.names.lookup y = some .local := by rfl) (hk : c.sc.kind = .function := by rfl) (hl : (py.line == pos.line) = true := by rfl)
    (ha : (scope.names.any fun (n, k) => n == y && (k == .local || k == .cell)) = false := by decide +kernel) (hb : blkC c.N c.sc scope own = true := by decide +kernel) (hix : ∀ i ∈ ix, i ∈ own.map (·.2) := by decide) (hix1 : ∀ i ∈ ix1, i ∈ vs1 := by decide) (hv : ∀ i ∈ vs1, i ∈ own.map (·.2) := by decide) (hc : c.calm = true := by rfl)
    (hs : ∀ env x, foldedSetIterable iter env x = pure x := by intro _ _; rfl) (hs1 : ∀ env x, foldedSetIterable iter1 env x = pure x := by intro _ _; rfl) :
    DS c Y (.Assign [.Name y py] (.ListComp elt [⟨tg, iter, ifs, 0⟩, ⟨tg1, iter1, ifs1, 0⟩] scope pos) spos) (sAsg i (eLc2 (own.map (·.2)) g mi mt vs1 g1 mi1 mt1 me)) := fun X W ic tk =>
  PS.imp (ps_setLc2 (i := i) (by rw [ic.calm]; exact hc) (by rw [ic.N]; exact ic.nd) (by rw [ic.N]; exact hy) (by rw [ic.sc]; exact hyl) (sw_true (by rw [ic.sc]; exact hk) (by rw [ic.sc]; exact hyl) hl ha) (hi X W ic tk) (blkOk_c ic hb) hv
    (fun s H C cl fp => hg.run _ (ic.blk s H C cl fp)) (fun s H C cl fp => ht _ W0 (ic.blk s H C cl fp) takes0) (fun s H C cl fp => hi1 _ W0 (ic.blk s H C cl fp) takes0)
    (fun s H C cl fp => hg1.run _ (ic.blk s H C cl fp)) (fun s H C cl fp => ht1 _ W0 (ic.blk s H C cl fp) takes0) (fun s H C cl fp => he _ W0 (ic.blk s H C cl fp) takes0) (hs _) hs1) fun D σ H h => by
    obtain ⟨wi, G, fp, ρ, s, cfg, k⟩ := h
    refine lc2_imp (c := c) (Y := Y) (W := W) hix hg.off hix1 hg1.off hv ⟨wi, G, fp, ρ, s, cfg, (Cont.bindS k).mono fun x H1 ⟨G1, fp1, ρ1, s1, o1, cfg1, sim1, tr1, r1, k1⟩ => ?_⟩
    obtain ⟨ρ2, e2, k2⟩ := of_nx k1
    obtain ⟨cfg2, ow⟩ := put_ok cfg1 r1 e2
    exact k2 G1 H1 fp1 _ cfg2 tr1 fun p o => (ow p o).imp (fun z => sim1.ownI z) fun z => z
end
end Dy

set_option Elab.async false
set_option linter.all false
set_option maxRecDepth 100000
namespace Dy
open PySem PySem.Spec PyProof.Rows L2

/-! ### defs -/
/-- what a def gives -/
inductive Rf (S : Type) where
  | ok (o : Out) (s : S) | ex (e : Exn) (s : S) | bad
abbrev MF (S : Type) := List Sl → S → Rf S
def RepR (w : World) (K : PySem.W.Frag) (Y : Sy) (wi : Y.W) (H0 G H : Hp) (fp : Addr → Prop) : Out → V → Prop
  | .val d, v => Rep w K G d v
  | .newl l, v => ∃ p, v = .ref p ∧ H0 p = none ∧ G p = none ∧ ¬ fp p ∧ LstAt w K H G p l
  | .newd kvs, v => ∃ p, v = .ref p ∧ H0 p = none ∧ G p = none ∧ ¬ fp p ∧ DctAt w K H G p kvs
  | .bor _, _ => False
  | .hdl k, v => v = Y.hv wi k
/-- an argument -/
def ArgOk (w : World) (K : PySem.W.Frag) (Y : Sy) (wi : Y.W) (G : Hp) : Sl → V → Prop
  | .val d, v => Rep w K G d v
  | .hdl k, v => v = Y.hv wi k
  | _, _ => False
inductive ArgsOk (w : World) (K : PySem.W.Frag) (Y : Sy) (wi : Y.W) (G : Hp) : List Sl → List V → Prop
  | nil : ArgsOk w K Y wi G [] []
  | cons {x v xs vs} : ArgOk w K Y wi G x v → ArgsOk w K Y wi G xs vs → ArgsOk w K Y wi G (x :: xs) (v :: vs)
section
variable (w : World) (K : PySem.W.Frag) (mg : Str → Option Value) (Y : Sy)
def RepXm (G H : Hp) (e : Exn) (cls : Value) (dd : Option Addr) : Prop := ∃ C, mg e.cls = some (.ref C) ∧ cls = .ref C ∧
  match e.fld with
  | none => True
  | some (f, d) => ∃ a v, dd = some a ∧ H a = some (.xd [(f, v)]) ∧ Rep w K G d v
def ContF (wi : Y.W) (G H : Hp) (fp : Addr → Prop) (Q : VK) (E : XK) : Rf Y.S → Prop
  | .ok o s' => ∀ G' H' fp' v, Same G' H' → Y.R wi s' H' fp' → (∀ a, fp' a → G' a = none) → Tr G H fp (fun _ => False) G' H' fp' → RepR w K Y wi H G' H' fp' o v → Q v H'
  | .ex e s' => ∀ G' H' fp' cls dd, Same G' H' → Y.R wi s' H' fp' → (∀ a, fp' a → G' a = none) → Tr G H fp (fun _ => False) G' H' fp' → RepXm w K mg G' H' e cls dd → E cls dd H'
  | .bad => False
/-- the promise of a def whose mirror is m -/
def spD (n : Nat) (m : MF Y.S) : Sp := fun vs H Q E => vs.length = n ∧ ∃ wi G fp s as, Same G H ∧ Y.R wi s H fp ∧ (∀ a, fp a → G a = none) ∧ ArgsOk w K Y wi G as vs ∧ ContF w K mg Y wi G H fp Q E (m as s)
end
theorem ArgsOk.length {w : World} {K : PySem.W.Frag} {Y : Sy} {wi : Y.W} {G : Hp} : ∀ {as : List Sl} {vs : List V}, ArgsOk w K Y wi G as vs → as.length = vs.length
  | _, _, .nil => rfl
  | _, _, .cons _ t => congrArg Nat.succ (ArgsOk.length t)
theorem ArgsOk.get {w : World} {K : PySem.W.Frag} {Y : Sy} {wi : Y.W} {G : Hp} : ∀ {as : List Sl} {vs : List V} {i : Nat} {x : Sl}, ArgsOk w K Y wi G as vs → as[i]? = some x → ∃ v, vs[i]? = some v ∧ ArgOk w K Y wi G x v
  | _, _, _, _, .nil, e => by simp at e
  | _, _, 0, _, .cons h _, e => by
    rw [List.getElem?_cons_zero] at e
    cases e
    exact ⟨_, rfl, h⟩
  | _, _, i + 1, _, .cons _ t, e => by
    rw [List.getElem?_cons_succ] at e
    exact ArgsOk.get (i := i) t e
/-- a def that keeps its promise wherever no repr is under way -/
structure FnG (P : Program) (w : World) (K : PySem.W.Frag) (mg : Str → Option Value) (base : Heap) (CX : CXT) (k : Nat) (f : Addr) (fd : FuncData) (ps : List Str) (sp : Sp) : Prop where
  len : ∀ vs H Q E, sp vs H Q E → vs.length = ps.length
  run : ∀ (A : Around) (outer : List Env) (s : Shared) (H : Hp) (args : Args) (us : List Value) (vs : List V) (Q : VK) (E : XK), A.guards = some [] → Room k A → Env0 P w K mg base A outer s H → BindsTo s fd args (ps.zip us) → Vals vs us → sp vs H Q E →
    codeAny (model P w) A (.call (.ref f) args) (CR CX outer P w H s Q E) s
section
variable {P : Program} {w : World} {K : PySem.W.Frag} {mg : Str → Option Value} {base : Heap} {CX : CXT} {k j : Nat} {f : Addr} {fd : FuncData} {N ps : List Str} {sp : Sp}
theorem FnG.mono (F : FnG P w K mg base CX j f fd ps sp) (h : j ≤ k) : FnG P w K mg base CX k f fd ps sp :=
  ⟨F.len, fun A outer s H args us vs Q E hg hr => F.run A outer s H args us vs Q E hg (hr.mono h)⟩
theorem fn_ofG {name qual : Str} {params : Arguments} {body : List Stmt} {scope : Scope} {dV kV doc pm cdv ct oc : Value} {an od : Option Addr} {osl : Array (Option Value)}
    (lk : K.lookup f = some ⟨oc, od, .func (PySem.W.fnOf name qual params body scope dV kV doc pm an cdv ct), osl⟩) (hcd : PySem.W.codeIn K cdv qual = true) (S : FnScope N ps scope) (len : ∀ vs H Q E, sp vs H Q E → vs.length = ps.length)
    (hbody : ∀ (A : Around) (outer : List Env) (s : Shared) (H : Hp) (vs : List V) (Q : VK) (E : XK), A.guards = some [] → Room k (A.deeper (envOfC qual scope s.heap.objs.size f cdv)) → sp vs H Q E →
      ∃ t, PSs (cxOf CX P w K mg base N qual scope f cdv A outer s H E) body t ∧ t { nx := fun _ H' => Q .non H', rt := Q } (L2.start N vs) H) :
    FnG P w K mg base CX (k + 1) f (PySem.W.fnOf name qual params body scope dV kV doc pm an cdv ct) ps sp := by
  refine ⟨len, fun A outer s H args us vs Q E hgd hr e0 hb r hsp => ?_⟩
  have hl := len vs H Q E hsp
  have KX : K.In s.heap := PySem.W.Frag.In.keeps e0.mod.kin fun b o e => (e0.bs b o e).1
  have lim := Heap.NoLimit.keeps e0.mod.nolimit fun b o e => (e0.bs b o e).1
  refine codeAny_call_function hr.depth (KX f _ lk) rfl S.co S.gen rfl (PySem.W.codeRec_of KX hcd) (hb (model P w) A.in1 _ _ ?_)
  refine wpAny_newFunctionEnv_cells S.kind (fun y hy => ?_) fun env he s1 x => ?_
  · rcases S.par y.1 (List.of_mem_zip hy).1 with q | q
    · exact .inl q
    · exact .inr ⟨q, PySem.W.cellsFrom_some scope.names (s.heap.objs.size + 1) [] (.inl q)⟩
  · subst he
    refine ⟨lim.keeps x.toInCall.keep, codeAny_func ?_⟩
    obtain ⟨t, ht, hq⟩ := hbody A outer s H vs Q E hgd (Room.deeper hr (envOfC qual scope s.heap.objs.size f cdv)) hsp
    have I := inv_start (CX := CX) (E := E) S hr.hd e0 hl r x
    refine wpAny_mono (ht.run [] s1 (L2.start N vs) H { nx := fun _ H' => Q .non H', rt := Q } I hq) (fun fl s' hs => ?_) (fun e s' hs => hs)
    cases fl with
    | next =>
      obtain ⟨σ', H', J, q⟩ := hs
      exact ⟨.non, H', J.os, J.bare, J.base, J.hok, rfl, q⟩
    | ret u =>
      obtain ⟨v, σ', H', J, rv, q⟩ := hs
      exact ⟨v, H', J.os, J.bare, J.base, J.hok, rv, q⟩
    | _ =>
      obtain ⟨_, _, _, q⟩ := hs
      exact q.elim
theorem run_fnG {X : Cx} {E : L2.St → XK} {pins : List (Addr × Obj)} {σ : L2.St} {H : Hp} {s : Shared} {Q : VK} {us : List Value} {vs : List V} (F : FnG X.prog X.w X.K X.mg X.base CX k f fd ps sp) (hgd : X.A.guards = some []) (hr : Room k X.A) (hb : L2.Binds X.K fd ps []) (hx : PassesAt CX X σ (E σ))
    (I : L2.Inv X pins σ H s) (r : Vals vs us) (h : sp vs H Q (E σ)) : wpAny (model X.prog X.w) X.A (call (.ref f) us) (EP X pins σ Q) X.xe s := by
  have hl : us.length = ps.length := by
    rw [← r.length]
    exact F.len vs H Q (E σ) h
  have b := hb s us I.kIn (by rw [List.append_nil]; exact hl)
  rw [List.append_nil] at b
  refine wpAny_call (codeAny_mono (F.run X.A X.stack s H ⟨us, []⟩ us vs Q (E σ) hgd hr I.env0 b r h) fun r s' hq => ?_)
  cases r with
  | error e => exact hx pins H s e s' I hq
  | ok fl =>
    cases fl with
    | ret u => exact Inv.after I hq
    | _ => exact hq.elim
theorem pe_callG {X : Cx} {E : L2.St → XK} {x : Str} {p pos : Pos} {e : Expr} {es : List Expr} {t : TA} (F : FnG X.prog X.w X.K X.mg X.base CX k f fd ps sp) (hgd : X.A.guards = some []) (hr : Room k X.A) (hg : Gl X x) (hm : X.mg x = some (.ref f)) (hk : PySem.W.keepIn X.K (.ref f) = true) (hb : L2.Binds X.K fd ps []) (hx : ∀ σ, PassesAt CX X σ (E σ)) (ha : PA X (e :: es) t) (hdb : (x == ("__debug__" : Str)) = false)
    (he : starEach (e :: es) X.env = (false, eval e X.env) :: starEach es X.env) (hpl : (backTo pos (starEach es X.env)).any (·.1) = false) : PE X (.Call (.Name x p) (e :: es) [] pos) (tCallS sp E t) :=
  ⟨fun pins s σ H Q I h => wpAny_Call_Name_kw (ld_glob I hg hm (PySem.W.callWith_K I.ok.mod.kin hk (thn (ha.run pos pins s σ H (fun vs H1 => sp vs H1 Q (E σ)) I h) fun us s1 ⟨vs, H1, I1, r, q⟩ => ⟨I1.kIn, run_fnG F hgd hr hb (hx σ) I1 r q⟩) he hpl) hdb)⟩
end
/-- a def of the text with its mirror -/
structure FnD (P : Program) (w : World) (K : PySem.W.Frag) (mg : Str → Option Value) (base : Heap) (k : Nat) (x : Str) (n : Nat) (Y : Sy) (m : MF Y.S) : Prop where
  ex : ∃ f fd ps, mg x = some (.ref f) ∧ PySem.W.keepIn K (.ref f) = true ∧ Binds K fd ps [] ∧ FnG P w K mg base (L2.CX P w) k f fd ps (spD w K mg Y n m)
theorem FnD.mono {P : Program} {w : World} {K : PySem.W.Frag} {mg : Str → Option Value} {base : Heap} {j k : Nat} {x : Str} {n : Nat} {Y : Sy} {m : MF Y.S} (F : FnD P w K mg base j x n Y m) (h : j ≤ k) : FnD P w K mg base k x n Y m := by
  obtain ⟨f, fd, ps, h1, h2, h3, h4⟩ := F.ex
  exact ⟨f, fd, ps, h1, h2, h3, h4.mono h⟩

/-! the frame at the entry, what leaves it -/
def startF (n : Nat) (as : List Sl) : Fr := as ++ List.replicate (n - as.length) .non
def retO (ρ : Fr) : Out → Out
  | .bor i => match ρ[i]? with
    | some (.lst l) => .newl l
    | some (.dct kvs) => .newd kvs
    | _ => .bor i
  | o => o
def mDef {S : Type} (n : Nat) (mb : MS S) : MF S := fun as s => match mb (startF n as) s with
  | .nx _ s => .ok (.val .none) s
  | .rt o ρ s => .ok (retO ρ o) s
  | .ex e _ s => .ex e s
  | _ => .bad
/-- the context of a def's body -/
def ccOf (P : Program) (w : World) (K : PySem.W.Frag) (mg : Str → Option Value) (base : Heap) (N : List Str) (sc : Scope) (k : Nat) : CC := { P := P, w := w, K := K, mg := mg, base := base, N := N, sc := sc, fnn := fun _ => true, calm := true, k := k, fn := true }
section
variable {P : Program} {w : World} {K : PySem.W.Frag} {mg : Str → Option Value} {base : Heap} {Y : Sy}
theorem start_get {N : List Str} {vs : List V} {as : List Sl} (hl : as.length = vs.length) {i : Nat} {x : Sl} (h : (startF N.length as)[i]? = some x) : (as[i]? = some x ∧ (L2.start N vs)[i]? = some (vs[i]?)) ∨ x = .non := by
  unfold startF at h
  by_cases hi : i < as.length
  · rw [List.getElem?_append_left hi] at h
    refine .inl ⟨h, ?_⟩
    unfold L2.start
    rw [List.getElem?_append_left (by rw [List.length_map]; omega), List.getElem?_map, List.getElem?_eq_getElem (by omega)]
    rfl
  · rw [List.getElem?_append_right (by omega), List.getElem?_replicate] at h
    split at h
    · cases h
      exact .inr rfl
    · cases h
theorem inC_body {N ps : List Str} {sc : Scope} {qual : Str} {f : Addr} {cd : Value} {A : Around} {outer : List Env} {s : Shared} {H : Hp} {E : XK} {k : Nat} (S : FnScope N ps sc) (hgd : A.guards = some []) (hr : Room k (A.deeper (envOfC qual sc s.heap.objs.size f cd))) :
    InC (ccOf P w K mg base N sc k) (cxOf (L2.CX P w) P w K mg base N qual sc f cd A outer s H E) :=
  ⟨rfl, rfl, rfl, rfl, rfl, rfl, rfl, rfl, rfl, hr.un, fun _ => hr, fun _ => ⟨rfl, rfl, passes_of rfl⟩, S.nd, hgd⟩
/-- THE RULE for a def -/
theorem fn_ok {x qual : Str} {st : Stmt} {f : Addr} {fd : FuncData} {N ps : List Str} {k : Nat} {mb : MS Y.S} (F : Fun K x qual st f fd) (S : FnScope N ps (defScope st)) (hb : DSs (ccOf P w K mg base N (defScope st) k) Y (defBody st) mb) :
    FnG P w K mg base (L2.CX P w) (k + 1) f fd ps (spD w K mg Y ps.length (mDef N.length mb)) := by
  obtain ⟨⟨oc, od, kV, doc, pm, an, cdv, ct, osl, rfl, lk, hcd⟩, kp⟩ := F
  refine fn_ofG lk hcd S (fun vs H Q E h => h.1) fun A outer s H vs Q E hgd hr h => ?_
  obtain ⟨hl, wi, G, fp, s0, as, sub, rs, gfp, aok, k1⟩ := h
  have tk : Takes (cxOf (L2.CX P w) P w K mg base N qual (defScope st) f cdv A outer s H E) (fun c d _ H' => E c d H') := takes_of rfl rfl rfl rfl
  refine ⟨_, hb _ _ (inC_body S hgd hr) tk, wi, G, fp, startF N.length as, s0, ?_, ?_⟩
  · have hN : ps.length ≤ N.length := by
      have := congrArg List.length S.pre
      rw [List.length_take] at this
      omega
    have hal := aok.length
    refine ⟨sub, rs, gfp, ?_, fun i x hx => ?_, fun i j a x y hx hy ox oy ex ey => ?_⟩
    · unfold L2.start startF
      rw [List.length_append, List.length_append, List.length_map, List.length_replicate, List.length_replicate]
      omega
    · rcases start_get hal hx with ⟨h1, h2⟩ | rfl
      · obtain ⟨v, hv, av⟩ := aok.get h1
        rw [h2, hv]
        cases x with
        | non => trivial
        | val d => exact ⟨v, rfl, av⟩
        | hdl j => exact congrArg (fun z => some (some z)) av
        | lst l => exact av.elim
        | dct l => exact av.elim
      · trivial
    · rcases start_get hal hx with ⟨h1, h2⟩ | rfl
      · obtain ⟨v, hv, av⟩ := aok.get h1
        cases x with
        | lst l => exact av.elim
        | dct l => exact av.elim
        | _ => cases ox
      · cases ox
  · have noOwn : ∀ p, ¬ Own (L2.start N vs) (startF N.length as) p := fun p ⟨i, x, hx, ox, ex⟩ => by
      rcases start_get aok.length hx with ⟨h1, h2⟩ | rfl
      · obtain ⟨v, hv, av⟩ := aok.get h1
        cases x with
        | lst l => exact av.elim
        | dct l => exact av.elim
        | _ => cases ox
      · cases ox
    unfold mDef at k1
    cases em : mb (startF N.length as) s0 with
    | nx ρ' s' =>
      rw [em] at k1
      exact fun G' H' fp' σ' cfg tr ow => k1 G' H' fp' .non cfg.sub cfg.rs cfg.gfp (tr.wide fun p o => noOwn p o) .non
    | rt o ρ' s' =>
      rw [em] at k1
      intro G' H' fp' σ' v cfg tr ow r
      refine k1 G' H' fp' v cfg.sub cfg.rs cfg.gfp (tr.wide fun p o => noOwn p o) ?_
      cases o with
      | val d => exact r
      | newl l =>
        obtain ⟨p, e, h0, h1, h2, h3, h4⟩ := r
        exact ⟨p, e, h0, h1, h2, h4⟩
      | newd l =>
        obtain ⟨p, e, h0, h1, h2, h3, h4⟩ := r
        exact ⟨p, e, h0, h1, h2, h4⟩
      | hdl k => exact r
      | bor i =>
        obtain ⟨ev, x, hx, ox⟩ := r
        have sl := cfg.slot i x hx
        have hn : ∀ p, v = .ref p → H p = none := fun p e => (ow p ⟨i, x, hx, ox, by rw [ev, e]⟩).elim (fun z => (noOwn p z).elim) fun z => z
        unfold retO
        dsimp only
        rw [hx]
        cases x with
        | lst l =>
          obtain ⟨a, ea, h1, h2, h3⟩ := sl
          rw [ev] at ea
          cases ea
          exact ⟨a, rfl, hn a rfl, h1, h2, h3⟩
        | dct l =>
          obtain ⟨a, ea, h1, h2, h3⟩ := sl
          rw [ev] at ea
          cases ea
          exact ⟨a, rfl, hn a rfl, h1, h2, h3⟩
        | _ => cases ox
    | ex e ρ' s' =>
      rw [em] at k1
      exact fun G' H' fp' σ' cls dd cfg tr ow r => k1 G' H' fp' cls dd cfg.sub cfg.rs cfg.gfp (tr.wide fun p o => noOwn p o) r
    | bk => rw [em] at k1; exact k1.elim
    | ct => rw [em] at k1; exact k1.elim
    | bad => rw [em] at k1; exact k1.elim
theorem fnD_mk {x qual : Str} {st : Stmt} {f : Addr} {fd : FuncData} {N ps : List Str} {k : Nat} {mb : MS Y.S} (F : Fun K x qual st f fd) (hg : mg x = some (.ref f)) (b : Binds K fd ps []) (S : FnScope N ps (defScope st)) (hb : DSs (ccOf P w K mg base N (defScope st) k) Y (defBody st) mb) :
    FnD P w K mg base (k + 1) x ps.length Y (mDef N.length mb) := ⟨f, fd, ps, hg, F.kp, b, fn_ok F S hb⟩
end

/-! ### calls -/
def isBor : Out → Bool
  | .bor _ => true
  | _ => false
def argO (ρ : Fr) : Out → Option Sl
  | .val d => some (.val d)
  | .hdl k => some (.hdl k)
  | .bor i => match ρ[i]? with
    | some (.lst l) => some (.val (.list l))
    | some (.dct kvs) => some (.val (.dict kvs))
    | _ => none
  | _ => none
def argsO (ρ : Fr) : List Out → Option (List Sl)
  | [] => some []
  | o :: os => match argO ρ o, argsO ρ os with
    | some x, some xs => some (x :: xs)
    | _, _ => none
/-- nothing in it that may be the frame's own -/
def apartO : Out → Bool
  | .val d => noL d
  | .newl l => noLs l
  | .newd kvs => noLs (kvs.map (·.1)) && noLs (kvs.map (·.2))
  | .hdl _ => true
  | .bor _ => false
def eCall {S : Type} (n : Nat) (m : MF S) (a : MA S) : ME S := fun ρ s => (a ρ s).bind fun os ρ s => match argsO ρ os with
  | none => .bad
  | some as => if decide (as.length = n) then match m as s with
    | .ok o s' => if os.any isBor then (if apartO o then .ok o ρ s' else .bad) else (match o with
      | .bor _ => .bad
      | o => .ok o ρ s')
    | .ex e s' => if os.any isBor then .bad else .ex e ρ s'
    | .bad => .bad
    else .bad
section
variable {w : World} {K : PySem.W.Frag} {Y : Sy} {wi : Y.W} {G G' H H' G2 : Hp} {fp fp' : Addr → Prop} {σ : L2.St} {ρ : Fr} {s s' : Y.S}
mutual
theorem Rep.tups (e : ∀ a xs, SqT K G' a xs → SqT K G2 a xs) : ∀ {d : D} {v : V}, Rep w K G' d v → noL d = true → Rep w K G2 d v
  | _, _, .non, _ => .non
  | _, _, .bl b, _ => .bl b
  | _, _, .int i, _ => .int i
  | _, _, .str x, _ => .str x
  | _, _, .tup h t, n => .tup (e _ _ h) (RepA.tups e t (by simpa [noL] using n))
  | _, _, .lst h t, n => by simp [noL] at n
  | _, _, .dct h a b c d t u, n => by simp [noL] at n
theorem RepA.tups (e : ∀ a xs, SqT K G' a xs → SqT K G2 a xs) : ∀ {ds : List D} {vs : List V}, RepA w K G' ds vs → noLs ds = true → RepA w K G2 ds vs
  | _, _, .nil, _ => .nil
  | _, _, .cons h t, n => by
    simp only [noLs, Bool.and_eq_true] at n
    exact .cons (Rep.tups e h n.1) (RepA.tups e t n.2)
end
/-- the caller's frame behind a call -/
theorem Cfg.call (cfg : Cfg w K Y wi G H fp σ ρ s) (sub : Same G' H') (rs : Y.R wi s' H' fp') (gfp : ∀ a, fp' a → G' a = none) (tr : Tr G H fp (fun _ => False) G' H' fp') : Cfg w K Y wi G' H' fp' σ ρ s' := by
  refine ⟨sub, rs, gfp, cfg.len, fun i x hx => ?_, cfg.dis⟩
  have sl := cfg.slot i x hx
  have own : ∀ a, Own σ ρ a → H' a = H a ∧ G' a = none ∧ ¬ fp' a := fun a o => by
    obtain ⟨h1, h2, h3⟩ := own_there cfg o
    obtain ⟨u, hu⟩ := some_of_ne h1
    exact ⟨(tr.oth a u hu h3 fun z => z).trans hu.symm, tr.stays h2 hu (fun z => z) (hu ▸ own_noT cfg o), fun z => (tr.fnew a z).elim h3 h1⟩
  cases x with
  | non => trivial
  | val d =>
    obtain ⟨v, e, r⟩ := sl
    exact ⟨v, e, r.mono tr.gg⟩
  | lst l =>
    obtain ⟨a, e, h1, h2, h3⟩ := sl
    obtain ⟨z1, z2, z3⟩ := own a ⟨i, _, hx, rfl, e⟩
    exact ⟨a, e, z2, z3, h3.mono z1 tr.gg⟩
  | dct l =>
    obtain ⟨a, e, h1, h2, h3⟩ := sl
    obtain ⟨z1, z2, z3⟩ := own a ⟨i, _, hx, rfl, e⟩
    exact ⟨a, e, z2, z3, h3.mono z1 tr.gg⟩
  | hdl k => exact sl
theorem RepR.toO (cfg : Cfg w K Y wi G H fp σ ρ s) {o : Out} {v : V} (r : RepR w K Y wi H G' H' fp' o v) : RepO w K Y wi H G' H' fp' σ ρ o v := by
  cases o with
  | val d => exact r
  | newl l =>
    obtain ⟨p, e, h0, h1, h2, h3⟩ := r
    exact ⟨p, e, h0, h1, h2, fun o => (own_there cfg o).1 h0, h3⟩
  | newd l =>
    obtain ⟨p, e, h0, h1, h2, h3⟩ := r
    exact ⟨p, e, h0, h1, h2, fun o => (own_there cfg o).1 h0, h3⟩
  | bor i => exact r.elim
  | hdl k => exact r
theorem args_plain {c : CC} {H0 : Hp} {ρ : Fr} : ∀ {os : List Out} {vs : List V} {as : List Sl}, RepOs c Y wi H0 G H fp σ ρ os vs → argsO ρ os = some as → os.any isBor = false → ArgsOk c.w c.K Y wi G as vs
  | _, _, _, .nil, e, _ => by
    cases e
    exact .nil
  | o :: os, _, _, .cons r t, e, n => by
    rw [List.any_cons, Bool.or_eq_false_iff] at n
    unfold argsO at e
    cases ea : argO ρ o with
    | none =>
      rw [ea] at e
      cases e
    | some x =>
      cases es : argsO ρ os with
      | none =>
        rw [ea, es] at e
        cases e
      | some xs =>
        rw [ea, es] at e
        cases e
        refine .cons ?_ (args_plain t es n.2)
        cases o with
        | val d =>
          cases ea
          exact r
        | hdl k =>
          cases ea
          exact r
        | bor i => cases n.1
        | newl l => cases ea
        | newd l => cases ea
/-- all of the heap but the outer state's own -/
noncomputable def allBut (H : Hp) (fp : Addr → Prop) : Hp := fun a => open Classical in if fp a then none else H a
theorem args_bor {c : CC} {H0 : Hp} (cfg : Cfg c.w c.K Y wi G H fp σ ρ s) : ∀ {os : List Out} {vs : List V} {as : List Sl}, RepOs c Y wi H0 G H fp σ ρ os vs → argsO ρ os = some as → ArgsOk c.w c.K Y wi (allBut H fp) as vs
  | _, _, _, .nil, e => by
    cases e
    exact .nil
  | o :: os, v :: _, _, .cons r t, e => by
    have sg : Same G (allBut H fp) := fun a u h => by
      unfold allBut
      rw [if_neg fun z => by rw [cfg.gfp a z] at h; cases h]
      exact cfg.sub a u h
    unfold argsO at e
    cases ea : argO ρ o with
    | none =>
      rw [ea] at e
      cases e
    | some x =>
      cases es : argsO ρ os with
      | none =>
        rw [ea, es] at e
        cases e
      | some xs =>
        rw [ea, es] at e
        cases e
        refine .cons ?_ (args_bor cfg t es)
        cases o with
        | val d =>
          cases ea
          exact Rep.mono sg r
        | hdl k =>
          cases ea
          exact r
        | bor i =>
          obtain ⟨ev, y, hy, oy⟩ := r
          have sl := cfg.slot i y hy
          have ea : (match ρ[i]? with
            | some (.lst l) => some (Sl.val (.list l))
            | some (.dct kvs) => some (.val (.dict kvs))
            | _ => none) = some x := ea
          rw [hy] at ea
          cases y with
          | lst l =>
            cases ea
            obtain ⟨a, e1, h1, h2, us, h3, h4⟩ := sl
            rw [ev] at e1
            cases e1
            exact .lst (by unfold allBut; rw [if_neg h2]; exact h3) (h4.mono sg)
          | dct l =>
            cases ea
            obtain ⟨a, e1, h1, h2, es', ep, ks, us, q1, q2, q3, q4, q5, q6, q7⟩ := sl
            rw [ev] at e1
            cases e1
            exact .dct (by unfold allBut; rw [if_neg h2]; exact q1) q2 q3 q4 q5 (q6.mono sg) (q7.mono sg)
          | _ => cases oy
        | newl l => cases ea
        | newd l => cases ea
/-- of a grown heap what is the caller's: what it had, what is new, tuples -/
noncomputable def pick (G H G' : Hp) : Hp := fun a => open Classical in if G a = none ∧ H a ≠ none ∧ ¬ IsT (H a) then none else G' a
end
section
variable {c : CC} {Y : Sy} {e : Expr} {es : List Expr} {me : ME Y.S} {mr : MA Y.S} {pos p : Pos} {x : Str} {j n : Nat} {m : MF Y.S}
theorem of_pick {G H G' : Hp} {a : Addr} {u : HO} (h : pick G H G' a = some u) : G' a = some u := by
  unfold pick at h
  split at h
  · cases h
  · exact h
/-- the reading of a call -/
theorem call_imp {W : WX} {σ : L2.St} {H : Hp} {Q : VK} (h : tE c Y W (eCall n m mr) σ H Q) : tCallS (spD c.w c.K c.mg Y n m) (WE W) (tA c Y W mr) σ H Q := by
  obtain ⟨wi, G, fp, ρ, s, cfg, k⟩ := h
  refine ⟨wi, G, fp, ρ, s, cfg, (Cont.bindL k).mono fun vs H1 ⟨G1, fp1, ρ1, s1, os, cfg1, sim1, tr1, r1, k1⟩ => ?_⟩
  have k1 := Cont.shift early_O k1 tr1 sim1
  dsimp only at k1
  cases ea : argsO ρ1 os with
  | none =>
    rw [ea] at k1
    exact k1.elim
  | some as =>
    rw [ea] at k1
    dsimp only at k1
    by_cases hn : as.length = n
    case neg =>
      rw [if_neg (by simpa using hn)] at k1
      exact k1.elim
    rw [if_pos (decide_eq_true hn)] at k1
    have hl : ∀ G, ArgsOk c.w c.K Y wi G as vs → vs.length = n := fun G a => a.length.symm.trans hn
    by_cases hb : os.any isBor = true
    · -- something of the frame's own is handed on
      have aok := args_bor cfg1 r1 ea
      have sub0 : Same (allBut H1 fp1) H1 := fun a u h => by
        unfold allBut at h
        split at h
        · cases h
        · exact h
      refine ⟨hl _ aok, wi, allBut H1 fp1, fp1, s1, as, sub0, cfg1.rs, fun a h => by unfold allBut; rw [if_pos h], aok, ?_⟩
      have sg : Same G1 (allBut H1 fp1) := fun a u h => by
        unfold allBut
        rw [if_neg fun z => by rw [cfg1.gfp a z] at h; cases h]
        exact cfg1.sub a u h
      cases em : m as s1 with
      | bad =>
        rw [em] at k1
        exact k1.elim
      | ok o s2 =>
        rw [em] at k1
        dsimp only at k1
        rw [if_pos hb] at k1
        split at k1
        · rename_i hap
          intro G' H' fp' v sub rs gfp tr r
          have pk : Same G1 (pick G1 H1 G') := fun a u h => by
            unfold pick
            rw [if_neg fun z => by rw [h] at z; cases z.1]
            exact tr.gg a u (sg a u h)
          have tr' : Tr G1 H1 fp1 (fun _ => False) (pick G1 H1 G') H' fp' := ⟨pk, tr.oth, tr.dom, fun a ha => by
            by_cases z : G1 a = none ∧ H1 a ≠ none ∧ ¬ IsT (H1 a)
            · left
              unfold pick
              rw [if_pos z]
            · by_cases z1 : H1 a = none
              · exact .inr (.inl z1)
              · by_cases z2 : IsT (H1 a)
                · exact .inr (.inr (.inr z2))
                · exact (z ⟨ha, z1, z2⟩).elim, tr.fnew, tr.tfp⟩
          have cfg2 := cfg1.call (fun a u h => sub a u (of_pick h)) rs (fun a h => by
            have := gfp a h
            cases q : pick G1 H1 G' a with
            | none => rfl
            | some u =>
              rw [of_pick q] at this
              cases this) tr'
          -- tuples of G' are picked
          have tp : ∀ a xs, SqT c.K G' a xs → SqT c.K (pick G1 H1 G') a xs := fun a xs h => by
            have keep : ∀ u, G' a = some u → IsT (some u) → pick G1 H1 G' a = some u := fun u hu ht => by
              unfold pick
              rw [if_neg, hu]
              rintro ⟨z1, z2, z3⟩
              obtain ⟨o1, ho1⟩ := some_of_ne z2
              by_cases hf : fp1 a
              · rcases tr.tfp a (by rw [sub a u hu]; exact ht) hf with q | q | q
                · exact z3 q
                · exact q
                · exact z2 q
              · have := tr.oth a o1 ho1 hf fun z => z
                rw [sub a u hu] at this
                cases this
                exact z3 (by rw [ho1]; exact ht)
            rcases h with (h | ⟨ob, h⟩) | h
            · exact .inl (.inl (keep _ h ⟨xs, .inl rfl⟩))
            · exact .inl (.inr ⟨ob, keep _ h ⟨xs, .inr ⟨ob, rfl⟩⟩⟩)
            · exact .inr h
          have none_of : ∀ p, G' p = none → pick G1 H1 G' p = none := fun p hp => by
            cases q : pick G1 H1 G' p with
            | none => rfl
            | some u =>
              rw [of_pick q] at hp
              cases hp
          refine k1 (pick G1 H1 G') H' fp' v cfg2 (Sim.refl _) (tr'.wide fun _ z => z.elim) ?_
          cases o with
          | val d => exact Rep.tups tp r hap
          | newl l =>
            obtain ⟨p, e, h0, h1, h2, us, h3, h4⟩ := r
            exact ⟨p, e, h0, none_of p h1, h2, fun o => (own_there cfg1 o).1 h0, us, h3, h4.tups tp hap⟩
          | newd l =>
            obtain ⟨p, e, h0, h1, h2, es', ep, ks, us, q1, q2, q3, q4, q5, q6, q7⟩ := r
            have hap : (noLs (l.map (·.1)) && noLs (l.map (·.2))) = true := hap
            rw [Bool.and_eq_true] at hap
            exact ⟨p, e, h0, none_of p h1, h2, fun o => (own_there cfg1 o).1 h0, es', ep, ks, us, q1, q2, q3, q4, q5, q6.tups tp hap.1, q7.tups tp hap.2⟩
          | hdl k => exact r
          | bor i => exact r.elim
        · exact k1.elim
      | ex x2 s2 =>
        rw [em] at k1
        dsimp only at k1
        rw [if_pos hb] at k1
        exact k1.elim
    · have hb : os.any isBor = false := by simpa using hb
      have aok := args_plain r1 ea hb
      refine ⟨hl _ aok, wi, G1, fp1, s1, as, cfg1.sub, cfg1.rs, cfg1.gfp, aok, ?_⟩
      cases em : m as s1 with
      | bad =>
        rw [em] at k1
        exact k1.elim
      | ok o s2 =>
        rw [em] at k1
        dsimp only at k1
        rw [if_neg (by rw [hb]; exact Bool.false_ne_true)] at k1
        intro G' H' fp' v sub rs gfp tr r
        have cfg2 := cfg1.call sub rs gfp tr
        have r2 := r.toO cfg1
        cases o with
        | bor i => exact k1.elim
        | _ => exact k1 G' H' fp' v cfg2 (Sim.refl _) (tr.wide fun _ z => z.elim) r2
      | ex x2 s2 =>
        rw [em] at k1
        dsimp only at k1
        rw [if_neg (by rw [hb]; exact Bool.false_ne_true)] at k1
        intro G' H' fp' cls dd sub rs gfp tr r
        exact k1 G' H' fp' cls dd (cfg1.call sub rs gfp tr) (Sim.refl _) (tr.wide fun _ z => z.elim) r
theorem de_call (F : FnD c.P c.w c.K c.mg c.base j x n Y m) (hg : c.sc.names.lookup x = some .globalImplicit) (ha : DA c Y (e :: es) mr) (hj : j ≤ c.k := by decide) (hc : c.calm = true := by rfl) (hdb : (x == ("__debug__" : Str)) = false := by decide)
    (he : ∀ env, starEach (e :: es) env = (false, eval e env) :: starEach es env := by intro _; rfl) (hpl : ∀ env, (backTo pos (starEach es env)).any (·.1) = false := by intro _; rfl) : DE c Y (.Call (.Name x p) (e :: es) [] pos) (eCall n m mr) := fun X W ic tk => by
  obtain ⟨f, fd, ps, h1, h2, h3, h4⟩ := F.ex
  refine PE.imp (pe_callG (E := WE W) (sp := spD c.w c.K c.mg Y n m) (k := j) (CX := L2.CX c.P c.w) (f := f) (fd := fd) (ps := ps) ?_ ic.gd ((ic.room hc).mono hj) ?_ ?_ ?_ ?_ ?_ (ha X W ic tk) hdb (he _) (hpl _)) fun σ H Q h => call_imp h
  · rw [ic.prog, ic.w, ic.K, ic.mg, ic.base]
    exact h4
  · show X.env.scope.names.lookup x = _
    rw [ic.sc]
    exact hg
  · rw [ic.mg]
    exact h1
  · rw [ic.K]
    exact h2
  · rw [ic.K]
    exact h3
  · intro σ
    rw [← ic.prog, ← ic.w]
    exact passAt tk σ
theorem de_call0 (F : FnD c.P c.w c.K c.mg c.base j x 0 Y m) (hg : c.sc.names.lookup x = some .globalImplicit) (hj : j ≤ c.k := by decide) (hc : c.calm = true := by rfl) (hdb : (x == ("__debug__" : Str)) = false := by decide) : DE c Y (.Call (.Name x p) [] [] pos) (eCall 0 m aNil) := fun X W ic tk => by
  obtain ⟨f, fd, ps, h1, h2, h3, h4⟩ := F.ex
  refine PE.imp (t := tCallS (spD c.w c.K c.mg Y 0 m) (WE W) (tA c Y W aNil)) ⟨fun pins s σ H Q I h => ?_⟩ fun σ H Q h => call_imp h
  refine wpAny_Call_Name_kw (ld_glob I (show X.env.scope.names.lookup x = _ by rw [ic.sc]; exact hg) (by rw [ic.mg]; exact h1) ?_ hdb)
  refine PySem.W.callWith_K0 I.kIn (by rw [ic.K]; exact h2) ?_
  have hsp : spD c.w c.K c.mg Y 0 m [] H Q (WE W σ) := by
    obtain ⟨wi, G, fp, ρ, s0, cfg, k⟩ := h
    exact k G H fp [] cfg (Sim.refl ρ) Tr.refl .nil
  refine run_fnG (E := WE W) (CX := L2.CX X.prog X.w) (k := j) (f := f) (fd := fd) (ps := ps) (sp := spD c.w c.K c.mg Y 0 m) ?_ ic.gd ((ic.room hc).mono hj) (by rw [ic.K]; exact h3) (passAt tk σ) I .nil hsp
  rw [ic.prog, ic.w, ic.K, ic.mg, ic.base]
  exact h4
end
end Dy

set_option Elab.async false
set_option linter.all false
set_option maxRecDepth 100000
/-! dicts keyed by data of any kind (None, ints, texts, tuples of such): find, get, set, setdefault, pop, in -/
namespace Dy
open PySem PySem.Spec PyProof.Rows L2

theorem ite_wp {β : Type} {M : Model} {A : Around} {Q : β → Shared → Prop} {E : Value → Shared → Prop} {s : Shared} {c : Prop} [Decidable c] {a b : Sem β} (h : c → wpAny M A a Q E s) (k : ¬ c → wpAny M A b Q E s) : wpAny M A (if c then a else b) Q E s := by
  by_cases x : c
  · rw [if_pos x]
    exact h x
  · rw [if_neg x]
    exact k x
/-- the entries es are keyed by ks, in the heap h -/
structure Kyd (w : World) (h : Heap) (ks : List NestedKey) (es : List DictEntry) : Prop where
  len : es.length = ks.length
  ent : ∀ (i : Nat) (e : DictEntry) (k : NestedKey), es[i]? = some e → ks[i]? = some k → NestedIs h k e.key ∧ k.depth ≤ 8 ∧ e.hash = k.hash w
  nd : ks.Nodup
section
variable {prog : Program} {w : World} {A : Around} {E : Value → Shared → Prop} {s : Shared}
theorem Kyd.some_of {h : Heap} {ks : List NestedKey} {es : List DictEntry} (K : Kyd w h ks es) {i : Nat} {e : DictEntry} (he : es[i]? = some e) : ∃ k, ks[i]? = some k ∧ NestedIs h k e.key ∧ k.depth ≤ 8 ∧ e.hash = k.hash w := by
  have hi : i < ks.length := by
    rw [← K.len]
    exact (List.getElem?_eq_some_iff.mp he).1
  exact ⟨ks[i], List.getElem?_eq_getElem hi, K.ent i e _ he (List.getElem?_eq_getElem hi)⟩
theorem Kyd.of_key {h : Heap} {ks : List NestedKey} {es : List DictEntry} (K : Kyd w h ks es) {i : Nat} {k : NestedKey} (he : ks[i]? = some k) : ∃ e, es[i]? = some e ∧ NestedIs h k e.key ∧ k.depth ≤ 8 ∧ e.hash = k.hash w := by
  have hi : i < es.length := by
    rw [K.len]
    exact (List.getElem?_eq_some_iff.mp he).1
  exact ⟨es[i], List.getElem?_eq_getElem hi, K.ent i _ k (List.getElem?_eq_getElem hi) he⟩
theorem Kyd.uniq {h : Heap} {ks : List NestedKey} {es : List DictEntry} (K : Kyd w h ks es) {i j : Nat} {k : NestedKey} (hi : ks[i]? = some k) (hj : ks[j]? = some k) : i = j :=
  (List.getElem?_inj (List.getElem?_eq_some_iff.mp hi).1 K.nd).mp (hi.trans hj.symm)
theorem eq_key {x y : NestedKey} {a b : Value} {Q : Bool → Shared → Prop} (ha : NestedIs s.heap x a) (hb : NestedIs s.heap y b) (hx : x.depth ≤ 8) (hu : A.units + 8 < cLine) (h : Q (decide (x = y)) s) : wpAny (model prog w) A (eqBool a b) Q E s :=
  eqAt_key x y A s a b ha hb (by omega) prog w E Q (by rw [← NestedKey.decide_eq]; exact h)
/-- the walk along the entries of one hash; skip: an answer is given at once -/
theorem dfind0 {d : Addr} {v : Value} {o : Obj} {es : List DictEntry} {ep : Nat} {ks : List NestedKey} {k : NestedKey} {Q : Option Nat → Shared → Prop} (hu : A.units + 8 < cLine) (hkey : NestedIs s.heap k v) (hk8 : k.depth ≤ 8)
    (ho : s.heap.get? d = some o) (hd : o.data = .dict es.toArray ep) (K : Kyd w s.heap ks es)
    (hnone : (∀ j : Nat, ks[j]? ≠ some k) → Q none s) (hsome : ∀ j : Nat, ks[j]? = some k → Q (some j) s) :
    wpAny (model prog w) A (dictFind d v (k.hash w)) Q E s := by
  have hsz : es.toArray.size = ks.length := by rw [List.size_toArray, K.len]
  have at_ : ∀ i : Nat, es.toArray[i]? = es[i]? := fun i => List.getElem?_toArray
  have haskey : ∀ j : Nat, ks[j]? = some k → ((es.toArray[j]?.map (·.hash)) == some (k.hash w)) = true := by
    intro j hj
    obtain ⟨e, he, _, _, h3⟩ := K.of_key hj
    rw [at_, he]
    simp [h3]
  have hany : ¬ (es.toArray.any fun e => e.key == v && e.hash != k.hash w) = true := by
    rw [← Array.any_toList, List.any_eq_true]
    rintro ⟨e, hin, hc⟩
    obtain ⟨i, hi⟩ := List.mem_iff_getElem?.mp hin
    obtain ⟨k', hk', h1, h2, h3⟩ := K.some_of hi
    simp only [Bool.and_eq_true, beq_iff_eq, bne_iff_ne, ne_eq] at hc
    obtain ⟨e1, hne⟩ := hc
    rw [e1] at h1
    exact hne (by rw [h3, NestedIs.inj _ _ _ h1 hkey])
  have quietk : ∀ (A : Around) (E : Value → Shared → Prop) (Q : Bool → Shared → Prop), Q true s → wpAny (model prog w) A (eqIsQuiet 8 v) Q E s := quiet_key k v 8 s hkey hk8
  have hst : ∀ u ∈ (placesWithHash es.toArray.size (fun i => es.toArray[i]?.map (·.hash)) (k.hash w)).filterMap (fun i => es.toArray[i]?.map (·.key)), ∃ k', NestedIs s.heap k' u ∧ k'.depth ≤ 8 := by
    intro u hv
    obtain ⟨i, _, hi⟩ := List.mem_filterMap.mp hv
    rw [at_] at hi
    cases hei : es[i]? with
    | none => rw [hei] at hi; cases hi
    | some e =>
      rw [hei] at hi
      obtain rfl : e.key = u := by simpa using hi
      obtain ⟨k', _, h1, h2, _⟩ := K.some_of hei
      exact ⟨k', h1, h2⟩
  have mayTell : ∀ {Q : Bool → Shared → Prop} {stored : List Value}, (∀ u ∈ stored, ∃ k', NestedIs s.heap k' u ∧ k'.depth ≤ 8) → Q false s → wpAny (model prog w) A (tableMayTell v stored) Q E s := by
    intro Q stored hs h
    unfold tableMayTell
    split
    · exact wpAny_pure h
    · refine wpAny_bind (quietk _ _ _ ?_)
      simp only [Bool.not_true, Bool.false_eq_true, if_false]
      refine wpAny_bind ?_
      refine wpAny_forIn_list _ (fun rest r s' => s' = s ∧ r = (none, ()) ∧ ∀ u ∈ rest, ∃ k', NestedIs s.heap k' u ∧ k'.depth ≤ 8) _ ?_ ?_ _ _ ⟨rfl, rfl, hs⟩
      · rintro x rest r s' ⟨rfl, rfl, hr⟩
        obtain ⟨k', h1, h2⟩ := hr x List.mem_cons_self
        refine wpAny_bind (quiet_key k' x 8 _ h1 h2 _ _ _ ?_)
        simp only [Bool.not_true, Bool.false_eq_true, if_false]
        exact wpAny_pure ⟨rfl, rfl, fun u hu => hr u (List.mem_cons_of_mem _ hu)⟩
      · rintro r s' ⟨rfl, rfl, _⟩
        exact wpAny_pure h
  have hall : ∀ i : Nat, (∀ j, i ≤ j → j < es.toArray.size → ((es.toArray[j]?.map (·.hash)) == some (k.hash w)) = false) → ∀ j, i ≤ j → ks[j]? ≠ some k := by
    intro i hf j hij hj
    have hlt : j < es.toArray.size := by
      rw [hsz]
      exact (List.getElem?_eq_some_iff.mp hj).1
    have := hf j hij hlt
    rw [haskey j hj] at this
    exact absurd this (by decide)
  unfold dictFind
  try with_reducible refine wpAny_holding ?_
  refine wpAny_bind (wpAny_dictEntries ho hd ?_)
  -- texts alone
  have hfind : (es.toArray.all fun e => isExactStrKey e.key) = true → ∀ (x : Str) (i : Nat) (e : DictEntry), es[i]? = some e → (e.key.isStr x = true ↔ ks[i]? = some (.text x)) := by
    intro hall2 x i e he
    obtain ⟨k', hk', h1, h2, h3⟩ := K.some_of he
    rw [hk']
    have hs : isExactStrKey e.key = true := by
      rw [← Array.all_toList, List.all_eq_true] at hall2
      exact hall2 e (List.mem_of_getElem? he)
    cases hke : e.key with
    | str y t' =>
      rw [hke] at h1
      cases h1
      show (y == x) = true ↔ _
      rw [beq_iff_eq]
      constructor
      · rintro rfl
        rfl
      · intro h
        injection h with h
        injection h
    | _ => rw [hke] at hs; cases hs
  have texts : ∀ (x : Str) (t : Tok), v = .str x t → (es.toArray.all fun e => isExactStrKey e.key) = true → wpAny (model prog w) A (foundByValue d v es.toArray x) Q E s := by
    rintro x t rfl hall2
    cases hkey
    have hf := hfind hall2 x
    unfold foundByValue
    cases hix : es.toArray.findIdx? (fun e => e.key.isStr x) with
    | none =>
      refine wpAny_pure (hnone fun j hj => ?_)
      obtain ⟨e, he, _⟩ := K.of_key hj
      rw [Array.findIdx?_eq_none_iff] at hix
      have := hix e (by rw [List.mem_toArray]; exact List.mem_of_getElem? he)
      rw [(hf j e he).mpr hj] at this
      cases this
    | some i =>
      rw [Array.findIdx?_eq_some_iff_getElem] at hix
      obtain ⟨hlt, hi, _⟩ := hix
      have he : es[i]? = some es.toArray[i] := by rw [← at_]; exact Array.getElem?_eq_getElem hlt
      have hk := (hf i _ he).mp hi
      dsimp only
      rw [show es.toArray[i]? = some es.toArray[i] from Array.getElem?_eq_getElem hlt]
      dsimp only
      refine wpAny_bind (wpAny_dictEpoch ho hd (wpAny_bind (eq_key (x := .text x) (y := .text x) (K.ent i _ _ he hk).1 (.text x t) (Nat.zero_le 8) hu (wpAny_bind (wpAny_dictEpoch ho hd ?_)))))
      rw [if_neg (by simp)]
      rw [decide_eq_true rfl]
      first | rw [if_pos rfl] | skip
      exact wpAny_bind (wpAny_rule (wpAny_pure (hsome i hk)))
  have fin0 : ∀ i : Nat, (∀ j, i ≤ j → j < es.toArray.size → ((es.toArray[j]?.map (·.hash)) == some (k.hash w)) = false) → (∀ j, j < i → ks[j]? ≠ some k) → Q none s := fun i hf hno => hnone fun j hj => by
    rcases Nat.lt_or_ge j i with h | h
    · exact hno j h hj
    · exact hall i hf j h hj
  have empty : ∀ i : Nat, [] = (List.range' i (es.toArray.size - i)).filter (fun i => (es.toArray[i]?.map (·.hash)) == some (k.hash w)) → ∀ j, i ≤ j → j < es.toArray.size → ((es.toArray[j]?.map (·.hash)) == some (k.hash w)) = false := fun i hr j h1 h2 => by
    have := List.filter_eq_nil_iff.mp hr.symm j (List.mem_range'_1.mpr ⟨h1, by omega⟩)
    simpa using this
  by_cases hbad : ∃ x t, v = .str x t ∧ (es.toArray.all fun e => isExactStrKey e.key) = true
  · obtain ⟨x, t, rfl, hall2⟩ := hbad
    dsimp only
    rw [if_pos hall2]
    exact texts _ _ rfl hall2
  clear texts hfind
  cases v
  all_goals dsimp only
  all_goals first | (cases hkey; done) | skip
  all_goals try rw [if_neg fun h => hbad ⟨_, _, rfl, h⟩]
  all_goals (
    refine ite_wp (fun hval => ?_) fun hval => ?_
    · unfold dictWalkPlain
      refine wpAny_bind ?_
      refine wpAny_forIn_list _ (fun rest b s' => s' = s ∧ b = (none, ()) ∧ ∃ i, rest = (List.range' i (es.toArray.size - i)).filter (fun i => (es.toArray[i]?.map (·.hash)) == some (k.hash w)) ∧ i ≤ es.toArray.size ∧ ∀ j, j < i → ks[j]? ≠ some k) _ ?_ ?_ _ _
        ⟨rfl, rfl, 0, by rw [placesWithHash, List.range_eq_range', Nat.sub_zero], Nat.zero_le _, fun _ h => absurd h (Nat.not_lt_zero _)⟩
      · rintro x rest b s' ⟨rfl, rfl, i, hr, hi, hno⟩
        obtain ⟨hix, hxn, hpx, hskip, hrest⟩ := filter_range'_cons _ _ _ _ _ hr.symm
        have hlt : x < es.toArray.size := by omega
        have hrest' : rest = (List.range' (x + 1) (es.toArray.size - (x + 1))).filter (fun i => (es.toArray[i]?.map (·.hash)) == some (k.hash w)) := by rw [hrest]; congr 2; omega
        have he : es[x]? = some es.toArray[x] := by rw [← at_]; exact Array.getElem?_eq_getElem hlt
        obtain ⟨k', hk', h1, h2, h3⟩ := K.some_of he
        have hnox : ∀ j, j < x → ks[j]? ≠ some k := fun j hj hjk => by
          rcases Nat.lt_or_ge j i with h | h
          · exact hno j h hjk
          · have := hskip j h hj
            rw [haskey j hjk] at this
            exact absurd this (by decide)
        have hnox1 : k' ≠ k → ∀ j, j < x + 1 → ks[j]? ≠ some k := fun hne j hj hjk => by
          rcases Nat.lt_or_ge j x with h | h
          · exact hnox j h hjk
          · have : j = x := by omega
            subst this
            rw [hk'] at hjk
            injection hjk with hjk
            exact hne hjk
        rw [show es.toArray[x]? = some es.toArray[x] from Array.getElem?_eq_getElem hlt]
        dsimp only
        by_cases hh : (es.toArray[x].hash == k.hash w) = true
        · rw [if_pos hh]
          refine wpAny_bind (wpAny_dictEpoch ho hd (wpAny_bind (eq_key h1 hkey h2 hu (wpAny_bind (wpAny_dictEpoch ho hd ?_)))))
          show wpAny _ _ (if (ep != ep) = true then _ else _) _ E _
          rw [if_neg (by simp)]
          by_cases hkk : k' = k
          · rw [decide_eq_true hkk]
            show wpAny _ _ (rule _ >>= _) _ _ _
            exact wpAny_bind (wpAny_rule (wpAny_pure (wpAny_pure (hsome x (hkk ▸ hk')))))
          · rw [decide_eq_false hkk]
            show wpAny _ _ (rule _ >>= _) _ _ _
            exact wpAny_bind (wpAny_rule (wpAny_pure ⟨rfl, rfl, x + 1, hrest', hlt, hnox1 hkk⟩))
        · rw [if_neg hh]
          refine wpAny_pure ⟨rfl, rfl, x + 1, hrest', hlt, hnox1 fun hkk => ?_⟩
          rw [h3, hkk] at hh
          simp at hh
      · rintro b s' ⟨rfl, rfl, i, hr, hi, hno⟩
        exact wpAny_pure (fin0 i (empty i hr) hno)
    try rw [if_neg hany]
    refine ite_wp (fun hone => ?_) fun hone => ?_
    all_goals (first | refine wpAny_bind (wpAny_pure ?_)  | refine wpAny_bind (mayTell hst ?_)) <;> (
      rw [if_neg (by simp)]
      refine wpAny_bind ?_
      refine wpAny_forIn_list _
        (fun rest b s' => s' = s ∧ ∃ i hit, b = (none, hit) ∧ rest = (List.range' i (es.toArray.size - i)).filter (fun i => (es.toArray[i]?.map (·.hash)) == some (k.hash w)) ∧ i ≤ es.toArray.size ∧
          ((hit = none ∧ ∀ j, j < i → ks[j]? ≠ some k) ∨ ∃ j, hit = some j ∧ j < i ∧ ks[j]? = some k)) _ ?_ ?_ _ _
        ⟨rfl, 0, none, rfl, by rw [placesWithHash, List.range_eq_range', Nat.sub_zero], Nat.zero_le _, .inl ⟨rfl, fun _ h => absurd h (Nat.not_lt_zero _)⟩⟩
      · rintro x rest b s' ⟨rfl, i, hit, rfl, hr, hi, hH⟩
        obtain ⟨hix, hxn, hpx, hskip, hrest⟩ := filter_range'_cons _ _ _ _ _ hr.symm
        have hlt : x < es.toArray.size := by omega
        have hrest' : rest = (List.range' (x + 1) (es.toArray.size - (x + 1))).filter (fun i => (es.toArray[i]?.map (·.hash)) == some (k.hash w)) := by rw [hrest]; congr 2; omega
        have he : es[x]? = some es.toArray[x] := by rw [← at_]; exact Array.getElem?_eq_getElem hlt
        obtain ⟨k', hk', h1, h2, h3⟩ := K.some_of he
        have hHx : (hit = none ∧ ∀ j, j < x → ks[j]? ≠ some k) ∨ ∃ j, hit = some j ∧ j < x ∧ ks[j]? = some k := by
          rcases hH with ⟨h0, hno⟩ | ⟨j, h1, hji, hj⟩
          · refine .inl ⟨h0, fun j hjx hj => ?_⟩
            rcases Nat.lt_or_ge j i with h | h
            · exact hno j h hj
            · have := hskip j h hjx
              rw [haskey j hj] at this
              exact absurd this (by decide)
          · exact .inr ⟨j, h1, by omega, hj⟩
        have hstay : ¬ k' = k → ((hit = none ∧ ∀ j, j < x + 1 → ks[j]? ≠ some k) ∨ ∃ j, hit = some j ∧ j < x + 1 ∧ ks[j]? = some k) := by
          intro hne
          rcases hHx with ⟨h0, hno⟩ | ⟨j, h1, hjx, hj⟩
          · refine .inl ⟨h0, fun j hjx hj => ?_⟩
            rcases Nat.lt_or_ge j x with h | h
            · exact hno j h hj
            · have hjx' : j = x := by omega
              subst hjx'
              rw [hk'] at hj
              injection hj with hj
              exact hne hj
          · exact .inr ⟨j, h1, by omega, hj⟩
        rw [show es.toArray[x]? = some es.toArray[x] from Array.getElem?_eq_getElem hlt]
        dsimp only
        by_cases hh : (es.toArray[x].hash == k.hash w) = true
        · rw [if_pos hh]
          refine wpAny_bind (wpAny_dictEpoch ho hd (wpAny_bind (eq_key h1 hkey h2 hu (wpAny_bind (wpAny_dictEpoch ho hd ?_)))))
          show wpAny _ _ (if (ep != ep) = true then _ else _) _ E _
          rw [if_neg (by simp)]
          by_cases hkk : k' = k
          · rw [decide_eq_true hkk]
            subst hkk
            rcases hHx with ⟨rfl, _⟩ | ⟨j, _, hjx, hj⟩
            · first | rw [if_pos rfl] | skip
              simp only [Option.isSome_none, Bool.false_eq_true, if_false]
              first | refine wpAny_bind (wpAny_pure ?_) | skip
              refine wpAny_bind (wpAny_rule ?_)
              split
              · exact wpAny_pure (wpAny_pure (hsome x hk'))
              · exact wpAny_pure ⟨rfl, x + 1, some x, rfl, hrest', hlt, .inr ⟨x, rfl, Nat.lt_succ_self x, hk'⟩⟩
            · exact absurd (K.uniq hj hk') (by omega)
          · rw [decide_eq_false hkk]
            simp only [Bool.false_eq_true, if_false]
            refine wpAny_bind (wpAny_rule ?_)
            first | rw [if_neg (by simp)] | skip
            first
              | exact wpAny_pure ⟨rfl, x + 1, hit, rfl, hrest', hlt, hstay hkk⟩
              | exact wpAny_bind (wpAny_pure (wpAny_pure ⟨rfl, x + 1, hit, rfl, hrest', hlt, hstay hkk⟩))
        · rw [if_neg hh]
          refine wpAny_pure ⟨rfl, x + 1, hit, rfl, hrest', hlt, hstay ?_⟩
          intro hkk
          rw [h3, hkk] at hh
          simp at hh
      · rintro b s' ⟨rfl, i, hit, rfl, hr, hi, hH⟩
        rcases hH with ⟨rfl, hno⟩ | ⟨j, rfl, _, hj⟩
        · exact wpAny_pure (fin0 i (empty i hr) hno)
        · exact wpAny_pure (hsome j hj)))

/-- where k stands among ks -/
def IxK (ks : List NestedKey) (k : NestedKey) : Option Nat → Prop
  | some j => ks[j]? = some k
  | none => ∀ j : Nat, ks[j]? ≠ some k
theorem dfind {d : Addr} {v : Value} {es : List DictEntry} {ep : Nat} {ks : List NestedKey} {k : NestedKey} {r : Option Nat} {Q : Option Nat → Shared → Prop} (hu : A.units + 8 < cLine) (hkey : NestedIs s.heap k v) (hk8 : k.depth ≤ 8)
    (ho : s.heap.get? d = some (dObj es ep)) (K : Kyd w s.heap ks es) (hr : IxK ks k r) (h : Q r s) : wpAny (model prog w) A (dictFind d v (k.hash w)) Q E s := by
  refine dfind0 hu hkey hk8 ho rfl K (fun hn => ?_) fun j hj => ?_
  · cases r with
    | none => exact h
    | some i => exact absurd hr (hn i)
  · cases r with
    | none => exact absurd hj (hr j)
    | some i =>
      rw [K.uniq hj hr]
      exact h
theorem Kyd.toks {ks : List NestedKey} {es : List DictEntry} (K : Kyd w s.heap ks es) (t : Nat) : Kyd w ({ s with toks := t } : Shared).heap ks es := K
theorem dget {d : Addr} {v : Value} {es : List DictEntry} {ep : Nat} {ks : List NestedKey} {k : NestedKey} {r : Option Nat} {Q : Option Value → Shared → Prop} (hu : A.units + 8 < cLine) (hkey : NestedIs s.heap k v) (hk8 : k.depth ≤ 8)
    (ho : s.heap.get? d = some (dObj es ep)) (K : Kyd w s.heap ks es) (hr : IxK ks k r) (h : Q (r.bind fun j => es[j]?.map (·.val)) { s with toks := s.toks + k.draws }) : wpAny (model prog w) A (dictGet d v) Q E s := by
  unfold dictGet
  try with_reducible refine wpAny_holding ?_
  refine wpAny_bind (pyHash_key k v A s _ hkey (by omega) (wpAny_bind (dfind (s := { s with toks := s.toks + k.draws }) hu hkey hk8 ho K hr ?_)))
  cases r with
  | none => exact wpAny_pure h
  | some j =>
    refine wpAny_bind (wpAny_dictEntries (s := { s with toks := s.toks + k.draws }) ho rfl ?_)
    rw [List.getElem?_toArray]
    exact wpAny_pure h
theorem dTy {d : Addr} {es : List DictEntry} {ep : Nat} (ho : s.heap.get? d = some (dObj es ep)) : s.TypeIs (.ref d) "dict" := ⟨_, ho, rfl⟩
theorem dcontains {d : Addr} {v : Value} {es : List DictEntry} {ep : Nat} {ks : List NestedKey} {k : NestedKey} {r : Option Nat} {Q : Bool → Shared → Prop} (hu : A.units + 9 < cLine) (hd : (d == sysModules) = false) (hkey : NestedIs s.heap k v) (hk8 : k.depth ≤ 8)
    (ho : s.heap.get? d = some (dObj es ep)) (K : Kyd w s.heap ks es) (hr : IxK ks k r) (h : Q r.isSome { s with toks := s.toks + k.draws }) : wpAny (model prog w) A (contains (.ref d) v) Q E s := by
  refine wpAny_contains_slot (dTy ho) F.slot_dict_contains ?_
  refine call_meetsIn F.slot_dict_contains (dTy ho) F.entry_dict_contains (F.args_dict_contains_2 _ _) (S := fun A' R s' => A' = A ∧ s' = s ∧ R (.ok (.ret (.bool r.isSome))) { s with toks := s.toks + k.draws }) (fun A' R s' hS => ?_) ⟨rfl, rfl, wpAny_truthy_bool h⟩
  obtain ⟨rfl, rfl, hq⟩ := hS
  show wpAny _ _ (dictGet d v >>= _) _ _ _
  refine wpAny_bind (dget (by simp only [Around.in1_units]; omega) hkey hk8 ho K hr ?_)
  cases r with
  | none =>
    show wpAny _ _ (Builtin.Dict.pendingKey? d v >>= _) _ _ _
    exact wpAny_bind (wpAny_pendingKey_other hd (wpAny_pure hq))
  | some j =>
    obtain ⟨e, he, _⟩ := K.of_key hr
    rw [Option.bind_some, he]
    show wpAny _ _ (ret (.bool true)) _ _ _
    exact wpAny_pure hq
theorem dgetItem {d : Addr} {v : Value} {es : List DictEntry} {ep : Nat} {ks : List NestedKey} {k : NestedKey} {j : Nat} {e : DictEntry} {Q : Value → Shared → Prop} (hu : A.units + 9 < cLine) (hkey : NestedIs s.heap k v) (hk8 : k.depth ≤ 8)
    (ho : s.heap.get? d = some (dObj es ep)) (K : Kyd w s.heap ks es) (hr : ks[j]? = some k) (he : es[j]? = some e) (h : Q e.val { s with toks := s.toks + k.draws }) : wpAny (model prog w) A (getItem (.ref d) v) Q E s := by
  unfold getItem
  try with_reducible refine wpAny_holding ?_
  refine wpAny_bind (wpAny_sequenceKey (dTy ho) (by decide) ?_)
  refine wpAny_bind (wpAny_callSpecial?_slot (name := Str.ofString "__getitem__") (dTy ho) slot_dict_getitem
    (wpAny_call_entry slot_dict_getitem (dTy ho) entry_dict_getitem ?_ (args_dict_getitem _ _)))
  show wpAny _ _ (dictGet d v >>= _) _ _ s
  refine wpAny_bind (dget (r := some j) (by simp only [Around.in1_units]; omega) hkey hk8 ho K hr ?_)
  rw [Option.bind_some, he]
  exact wpAny_pure ⟨e.val, rfl, wpAny_pure h⟩
/-- the entries behind d[k] = v -/
def putE (es : List DictEntry) (ep : Nat) (w : World) (k : NestedKey) (key v : Value) : Option Nat → List DictEntry × Nat
  | some j => (es.modify j fun e => { e with val := v }, ep)
  | none => (es ++ [⟨k.hash w, key, v⟩], ep + 1)
theorem at_upd {h : Heap} {d : Addr} {es es' : List DictEntry} {ep : Nat} {f : Array DictEntry → Array DictEntry} (ho : h.get? d = some (dObj es ep)) (hf : f es.toArray = es'.toArray) : (h.update d (Obj.mapDict f)).get? d = some (dObj es' ep) := by
  rw [Heap.get?_update_self _ ho rfl]
  show some (Obj.mk _ _ (.dict (f es.toArray) ep) _) = _
  rw [hf]
  rfl
theorem at_updK {h : Heap} {d : Addr} {es es' : List DictEntry} {ep : Nat} {f : Array DictEntry → Array DictEntry} (ho : h.get? d = some (dObj es ep)) (hf : f es.toArray = es'.toArray) : (h.update d (Obj.mapDictKeys f)).get? d = some (dObj es' (ep + 1)) := by
  rw [Heap.get?_update_self _ ho rfl]
  show some (Obj.mk _ _ (.dict (f es.toArray) (ep + 1)) _) = _
  rw [hf]
  rfl
theorem dset {d : Addr} {key v : Value} {es : List DictEntry} {ep : Nat} {ks : List NestedKey} {k : NestedKey} {r : Option Nat} {Q : Unit → Shared → Prop} (hu : A.units + 8 < cLine) (hkey : NestedIs s.heap k key) (hk8 : k.depth ≤ 8)
    (ho : s.heap.get? d = some (dObj es ep)) (K : Kyd w s.heap ks es) (hr : IxK ks k r) (hz : es.length ≤ sizeLine)
    (h : ∀ h', h'.get? d = some (dObj (putE es ep w k key v r).1 (putE es ep w k key v r).2) → Heap.SameBut d s.heap h' → Q () { s with heap := h', toks := s.toks + k.draws }) : wpAny (model prog w) A (dictSet d key v) Q E s := by
  unfold dictSet
  try with_reducible refine wpAny_holding ?_
  refine wpAny_bind (pyHash_key k key A s _ hkey (by omega) ?_)
  unfold dictSetHashed
  try with_reducible refine wpAny_holding ?_
  refine wpAny_bind (dfind (s := { s with toks := s.toks + k.draws }) hu hkey hk8 ho K hr ?_)
  cases r with
  | none => exact wpAny_bind (wpAny_rule (wpAny_updateDictKeys (hz := by rw [List.size_toArray]; exact hz) (s := { s with toks := s.toks + k.draws }) ho rfl (h _ (at_updK ho (by simp [putE])) (Heap.SameBut.update ..))))
  | some j => exact wpAny_bind (wpAny_rule (wpAny_bind (wpAny_updateDict (s := { s with toks := s.toks + k.draws }) ho rfl (wpAny_point (h _ (at_upd ho (by simp [putE])) (Heap.SameBut.update ..))))))
theorem dsetItem {d : Addr} {key v : Value} {es : List DictEntry} {ep : Nat} {ks : List NestedKey} {k : NestedKey} {r : Option Nat} {Q : Unit → Shared → Prop} (hu : A.units + 9 < cLine) (hkey : NestedIs s.heap k key) (hk8 : k.depth ≤ 8)
    (ho : s.heap.get? d = some (dObj es ep)) (K : Kyd w s.heap ks es) (hr : IxK ks k r) (hz : es.length ≤ sizeLine)
    (h : ∀ h', h'.get? d = some (dObj (putE es ep w k key v r).1 (putE es ep w k key v r).2) → Heap.SameBut d s.heap h' → Q () { s with heap := h', toks := s.toks + k.draws }) : wpAny (model prog w) A (setItem (.ref d) key v) Q E s := by
  unfold setItem
  try with_reducible refine wpAny_holding ?_
  refine wpAny_bind (wpAny_sequenceKey (dTy ho) (by decide) ?_)
  refine wpAny_bind (wpAny_callSpecial?_slot (name := Str.ofString "__setitem__") (dTy ho) slot_dict_setitem
    (wpAny_call_entry slot_dict_setitem (dTy ho) entry_dict_setitem ?_ (args_dict_setitem _ _ _)))
  show wpAny _ _ (Builtin.Dict.notOrdered "__setitem__" ⟨[.ref d, key, v], []⟩ >>= _) _ _ s
  refine wpAny_bind (wpAny_notOrdered_dict (dTy ho) ?_)
  show wpAny _ _ (dictSet d key v >>= _) _ _ s
  exact wpAny_bind (dset (by simp only [Around.in1_units]; omega) hkey hk8 ho K hr hz fun h' ho' hs' => wpAny_pure ⟨.none, rfl, wpAny_pure (h h' ho' hs')⟩)
theorem dsetdefault {d : Addr} {key v : Value} {es : List DictEntry} {ep : Nat} {ks : List NestedKey} {k : NestedKey} {r : Option Nat} {Q : Value → Shared → Prop} (hu : A.units + 9 < cLine) (hd : (d == sysModules) = false) (hkey : NestedIs s.heap k key) (hk8 : k.depth ≤ 8)
    (ho : s.heap.get? d = some (dObj es ep)) (K : Kyd w s.heap ks es) (hr : IxK ks k r) (hz : es.length ≤ sizeLine)
    (h1 : ∀ j e, r = some j → es[j]? = some e → Q e.val { s with toks := s.toks + k.draws })
    (h2 : r = none → ∀ h', h'.get? d = some (dObj (es ++ [⟨k.hash w, key, v⟩]) (ep + 1)) → Heap.SameBut d s.heap h' → Q v { s with heap := h', toks := s.toks + k.draws }) : wpAny (model prog w) A (call (.builtin "dict.setdefault") [.ref d, key, v]) Q E s := by
  refine call_meetsIn F.slot_dict_setdefault (dTy ho) F.entry_dict_setdefault (F.args_dict_setdefault_3 _ _ _) (S := fun A' R s' => A' = A ∧ s' = s ∧ (∀ j e, r = some j → es[j]? = some e → R (.ok (.ret e.val)) { s with toks := s.toks + k.draws }) ∧
    (r = none → ∀ h', h'.get? d = some (dObj (es ++ [⟨k.hash w, key, v⟩]) (ep + 1)) → Heap.SameBut d s.heap h' → R (.ok (.ret v)) { s with heap := h', toks := s.toks + k.draws })) (.of_wp fun A' R s' hS => ?_) ⟨rfl, rfl, h1, h2⟩
  obtain ⟨rfl, rfl, q1, q2⟩ := hS
  unfold Builtin.«dict.setdefault»
  refine wpAny_bind ?_
  unfold Builtin.Dict.keyAndDefault
  refine wpAny_bind (wpAny_notOrdered_dict (dTy ho) ?_)
  show wpAny _ _ (pure (d, key, some v)) _ _ _
  refine wpAny_pure ?_
  show wpAny _ _ (if (d == sysModules) = true then _ else (dictSetDefault d key v >>= _)) _ _ _
  rw [if_neg (by rw [hd]; exact Bool.false_ne_true)]
  refine wpAny_bind ?_
  unfold dictSetDefault
  try with_reducible refine wpAny_holding ?_
  refine wpAny_bind (pyHash_key k key _ _ _ hkey (by simp only [Around.in1_units]; omega) ?_)
  refine wpAny_bind (dfind (s := { s' with toks := s'.toks + k.draws }) (by simp only [Around.in1_units]; omega) hkey hk8 ho K hr ?_)
  cases r with
  | none => exact wpAny_bind (wpAny_rule (wpAny_bind (wpAny_updateDictKeys (hz := by rw [List.size_toArray]; exact hz) (s := { s' with toks := s'.toks + k.draws }) ho rfl (wpAny_pure (wpAny_pure ⟨v, rfl, q2 rfl _ (at_updK ho (by simp)) (Heap.SameBut.update ..)⟩)))))
  | some j =>
    obtain ⟨e, he, _⟩ := K.of_key hr
    refine wpAny_bind (wpAny_dictEntries (s := { s' with toks := s'.toks + k.draws }) ho rfl ?_)
    rw [List.getElem?_toArray, he]
    exact wpAny_bind (wpAny_rule (wpAny_pure (wpAny_pure ⟨e.val, rfl, q1 j e rfl he⟩)))
theorem dtake {d : Addr} {key : Value} {es : List DictEntry} {ep : Nat} {ks : List NestedKey} {k : NestedKey} {r : Option Nat} {Q : Option DictEntry → Shared → Prop} (hu : A.units + 8 < cLine) (hkey : NestedIs s.heap k key) (hk8 : k.depth ≤ 8)
    (ho : s.heap.get? d = some (dObj es ep)) (K : Kyd w s.heap ks es) (hr : IxK ks k r) (hz : es.length ≤ sizeLine)
    (h1 : ∀ j e, r = some j → es[j]? = some e → ∀ h', h'.get? d = some (dObj (es.eraseIdx j) (ep + 1)) → Heap.SameBut d s.heap h' → Q (some e) { s with heap := h', toks := s.toks + k.draws })
    (h2 : r = none → Q none { s with toks := s.toks + k.draws }) : wpAny (model prog w) A (Builtin.Dict.takeOut d key) Q E s := by
  unfold Builtin.Dict.takeOut
  try with_reducible refine wpAny_holding ?_
  refine wpAny_bind (pyHash_key k key _ _ _ hkey (by omega) ?_)
  refine wpAny_bind (dfind (s := { s with toks := s.toks + k.draws }) hu hkey hk8 ho K hr ?_)
  cases r with
  | none => exact wpAny_pure (h2 rfl)
  | some j =>
    obtain ⟨e, he, _⟩ := K.of_key hr
    refine wpAny_bind (wpAny_dictEntries (s := { s with toks := s.toks + k.draws }) ho rfl ?_)
    rw [List.getElem?_toArray, he]
    exact wpAny_bind (wpAny_updateDictKeys (hz := by rw [List.size_toArray]; exact hz) (s := { s with toks := s.toks + k.draws }) ho rfl (wpAny_pure (h1 j e rfl he _ (at_updK ho (by simp)) (Heap.SameBut.update ..))))
/-- d.pop(k, x) -/
theorem dpop2 {d : Addr} {key v : Value} {es : List DictEntry} {ep : Nat} {ks : List NestedKey} {k : NestedKey} {r : Option Nat} {Q : Value → Shared → Prop} (hu : A.units + 9 < cLine) (hd : (d == sysModules) = false) (hkey : NestedIs s.heap k key) (hk8 : k.depth ≤ 8)
    (ho : s.heap.get? d = some (dObj es ep)) (K : Kyd w s.heap ks es) (hr : IxK ks k r) (hz : es.length ≤ sizeLine)
    (h1 : ∀ j e, r = some j → es[j]? = some e → ∀ h', h'.get? d = some (dObj (es.eraseIdx j) (ep + 1)) → Heap.SameBut d s.heap h' → Q e.val { s with heap := h', toks := s.toks + k.draws })
    (h2 : r = none → ∀ t, Q v { s with toks := t }) : wpAny (model prog w) A (call (.builtin "dict.pop") [.ref d, key, v]) Q E s := by
  refine call_meetsIn F.slot_dict_pop (dTy ho) F.entry_dict_pop (F.args_dict_pop_3 _ _ _) (S := fun A' R s' => A' = A ∧ s' = s ∧ (∀ j e, r = some j → es[j]? = some e → ∀ h', h'.get? d = some (dObj (es.eraseIdx j) (ep + 1)) → Heap.SameBut d s.heap h' → R (.ok (.ret e.val)) { s with heap := h', toks := s.toks + k.draws }) ∧
    (r = none → ∀ t, R (.ok (.ret v)) { s with toks := t })) (.of_wp fun A' R s' hS => ?_) ⟨rfl, rfl, h1, h2⟩
  obtain ⟨rfl, rfl, q1, q2⟩ := hS
  unfold Builtin.«dict.pop»
  refine wpAny_bind ?_
  unfold Builtin.Dict.keyAndDefault
  refine wpAny_bind (wpAny_notOrdered_dict (dTy ho) ?_)
  show wpAny _ _ (pure (d, key, some v)) _ _ _
  refine wpAny_pure ?_
  refine ite_wp (fun _ => ?_) fun _ => ?_
  · refine wpAny_bind (wpAny_pure ?_)
    dsimp only
    rw [if_neg Bool.false_ne_true]
    refine wpAny_bind (dtake (by simp only [Around.in1_units]; omega) hkey hk8 ho K hr hz (fun j e hj he h' ho' hs' => ?_) fun hn => ?_)
    · simp only [Option.isNone_some, Bool.false_eq_true, if_false]
      exact wpAny_bind (wpAny_letGo (wpAny_pure ⟨e.val, rfl, q1 j e hj he h' ho' hs'⟩))
    · simp only [Option.isNone_none, if_true]
      refine wpAny_bind (wpAny_missedRemoval_other hd ?_)
      exact wpAny_bind (wpAny_rule (wpAny_pure ⟨v, rfl, q2 hn _⟩))
  refine wpAny_bind (wpAny_dictEntries ho rfl (wpAny_bind (wpAny_pure ?_)))
  dsimp only
  by_cases hemp : es.toArray.isEmpty = true
  · have hx : es = [] := by simpa using hemp
    have hrn : r = none := by
      cases r with
      | none => rfl
      | some j =>
        obtain ⟨e, he, _⟩ := K.of_key hr
        rw [hx] at he
        cases he
    rw [if_pos hemp]
    refine wpAny_bind (wpAny_rule (wpAny_bind (wpAny_pure ?_)))
    simp only [Option.isNone_none, if_true]
    refine wpAny_bind (wpAny_missedRemoval_other hd ?_)
    exact wpAny_bind (wpAny_rule (wpAny_pure ⟨v, rfl, q2 hrn s'.toks⟩))
  · rw [if_neg hemp]
    refine wpAny_bind (dtake (by simp only [Around.in1_units]; omega) hkey hk8 ho K hr hz (fun j e hj he h' ho' hs' => ?_) fun hn => ?_)
    · simp only [Option.isNone_some, Bool.false_eq_true, if_false]
      exact wpAny_bind (wpAny_letGo (wpAny_pure ⟨e.val, rfl, q1 j e hj he h' ho' hs'⟩))
    · simp only [Option.isNone_none, if_true]
      refine wpAny_bind (wpAny_missedRemoval_other hd ?_)
      exact wpAny_bind (wpAny_rule (wpAny_pure ⟨v, rfl, q2 hn _⟩))
end
end Dy

set_option Elab.async false
set_option linter.all false
set_option maxRecDepth 100000
namespace Dy
open PySem PySem.Spec PyProof.Rows L2

/-! ### keys by data -/
section
variable {X : Cx} {pins : List (Addr × Obj)} {σ : L2.St} {H : Hp} {s : Shared} {w : World}
mutual
theorem rep_key (I : L2.Inv X pins σ H s) : ∀ {d : D} {v : V} {u : Value} {nk : NestedKey}, Rep w X.K H d v → RelV v u → keyOf d = some nk → NestedIs s.heap nk u
  | _, _, _, _, .non, r, e => by
    cases e
    rw [show _ = Value.none from r]
    exact .none
  | _, _, _, _, .bl b, r, e => by
    cases e
    rw [show _ = Value.bool b from r]
    exact .bool rfl
  | _, _, _, _, .int i, r, e => by
    cases e
    obtain ⟨t, rfl⟩ := r
    exact .int i t
  | _, _, _, _, .str x, r, e => by
    cases e
    obtain ⟨t, rfl⟩ := r
    exact .text x t
  | .tuple ds, _, _, _, .tup (a := a) h t, r, e => by
    rw [show _ = Value.ref a from r]
    have e : (keyOf.go ds).map NestedKey.tup = some _ := e
    cases eg : keyOf.go ds with
    | none =>
      rw [eg] at e
      cases e
    | some ks =>
      rw [eg] at e
      cases e
      obtain ⟨its, rv, ⟨o, ho, hc, n, hd⟩, _⟩ := I.tuple h
      exact .tup ho hc hd (by simpa using rep_keys I t rv eg)
  | _, _, _, _, .lst h t, r, e => by cases e
  | _, _, _, _, .dct h a b c d t u, r, e => by cases e
theorem rep_keys (I : L2.Inv X pins σ H s) : ∀ {ds : List D} {vs : List V} {us : List Value} {ks : List NestedKey}, RepA w X.K H ds vs → Vals vs us → keyOf.go ds = some ks → NestedAll s.heap ks us
  | _, _, _, _, .nil, r, e => by
    cases e
    cases r
    exact .nil
  | d :: ds, _, _, _, .cons h t, r, e => by
    cases r with
    | cons r1 r2 =>
      unfold keyOf.go at e
      cases e1 : keyOf d with
      | none =>
        rw [e1] at e
        cases e
      | some k =>
        cases e2 : keyOf.go ds with
        | none =>
          rw [e1, e2] at e
          cases e
        | some ks =>
          rw [e1, e2] at e
          cases e
          exact .cons (rep_key I h r1 e1) (rep_keys I t r2 e2)
end
theorem ents_keys (I : L2.Inv X pins σ H s) : ∀ {kvs : List DEnt} {ks vs : List V} {es : List DictEntry}, Ents w kvs ks vs es → RepA w X.K H (kvs.map (·.1)) ks → ∃ nks : List NestedKey, (kvs.map fun p => keyOf p.1) = nks.map some ∧ es.length = nks.length ∧
    ∀ (i : Nat) (e : DictEntry) (k : NestedKey), es[i]? = some e → nks[i]? = some k → NestedIs s.heap k e.key ∧ k.depth ≤ 8 ∧ e.hash = k.hash w
  | _, _, _, _, .nil, _ => ⟨[], rfl, rfl, fun i e k h => by simp at h⟩
  | _, _, _, _, .cons (k := k) (nk := nk) (kvs := kvs) hk h8 r1 r2 hh t, r => by
    cases r with
    | cons h hr =>
      obtain ⟨nks, e1, e2, e3⟩ := ents_keys I t hr
      refine ⟨nk :: nks, ?_, congrArg Nat.succ e2, fun i e k' he hk' => ?_⟩
      · show keyOf k :: (kvs.map fun p => keyOf p.1) = some nk :: nks.map some
        rw [hk, e1]
      · cases i with
        | zero =>
          cases he
          cases hk'
          exact ⟨rep_key I h r1 hk, h8, hh⟩
        | succ i => exact e3 i e k' he hk'
theorem ents_kyd (I : L2.Inv X pins σ H s) {kvs : List DEnt} {ks vs : List V} {es : List DictEntry} (h : Ents w kvs ks vs es) (r : RepA w X.K H (kvs.map (·.1)) ks) (nd : (kvs.map fun p => keyOf p.1).Nodup) :
    ∃ nks : List NestedKey, (kvs.map fun p => keyOf p.1) = nks.map some ∧ Kyd w s.heap nks es := by
  obtain ⟨nks, e1, e2, e3⟩ := ents_keys I h r
  refine ⟨nks, e1, e2, e3, ?_⟩
  rw [e1] at nd
  exact List.Pairwise.of_map some (fun a b hne e => hne (by rw [e])) nd
end

/-- the place of a key -/
def kix (kvs : List DEnt) (nk : NestedKey) : Option Nat := kvs.findIdx? fun p => decide (keyOf p.1 = some nk)
theorem kix_ok {kvs : List DEnt} {nks : List NestedKey} {nk : NestedKey} (e : (kvs.map fun p => keyOf p.1) = nks.map some) : IxK nks nk (kix kvs nk) := by
  have at_ : ∀ j : Nat, (nks[j]? = some nk ↔ ∃ p, kvs[j]? = some p ∧ keyOf p.1 = some nk) := fun j => by
    have h := congrArg (fun l => l[j]?) e
    simp only [List.getElem?_map] at h
    constructor
    · intro hj
      rw [hj] at h
      cases hk : kvs[j]? with
      | none =>
        rw [hk] at h
        cases h
      | some p =>
        rw [hk] at h
        exact ⟨p, rfl, by simpa using h⟩
    · rintro ⟨p, hp, hq⟩
      rw [hp] at h
      cases hn : nks[j]? with
      | none =>
        rw [hn] at h
        cases h
      | some k =>
        rw [hn] at h
        have h : some (keyOf p.1) = some (some k) := h
        rw [hq] at h
        simpa using h.symm
  unfold kix
  cases hf : kvs.findIdx? fun p => decide (keyOf p.1 = some nk) with
  | none =>
    intro j hj
    obtain ⟨p, hp, hq⟩ := (at_ j).mp hj
    rw [List.findIdx?_eq_none_iff] at hf
    have := hf p (List.mem_of_getElem? hp)
    rw [hq] at this
    simp at this
  | some j =>
    rw [List.findIdx?_eq_some_iff_getElem] at hf
    obtain ⟨hlt, hp, _⟩ := hf
    exact (at_ j).mpr ⟨_, List.getElem?_eq_getElem hlt, of_decide_eq_true hp⟩
/-- a key of a dict: what it is up to ==, to depth 8 -/
def key8 (d : D) : Option NestedKey := match keyOf d with
  | some nk => if decide (nk.depth ≤ 8) then some nk else none
  | none => none
theorem key8_ok {d : D} {nk : NestedKey} (h : key8 d = some nk) : keyOf d = some nk ∧ nk.depth ≤ 8 := by
  unfold key8 at h
  split at h
  · rename_i k hk
    split at h
    · rename_i h8
      cases h
      exact ⟨hk, of_decide_eq_true h8⟩
    · cases h
  · cases h
def lookD (kvs : List DEnt) (nk : NestedKey) : Option D := (kix kvs nk).bind fun j => kvs[j]?.map (·.2)
def putD (kvs : List DEnt) (k v : D) (nk : NestedKey) : List DEnt := match kix kvs nk with
  | some j => kvs.modify j fun p => (p.1, v)
  | none => kvs ++ [(k, v)]
def delD (kvs : List DEnt) (nk : NestedKey) : List DEnt := match kix kvs nk with
  | some j => kvs.eraseIdx j
  | none => kvs

section
variable {w : World} {K : PySem.W.Frag} {G H : Hp}
theorem Ents.len : ∀ {kvs : List DEnt} {ks vs : List V} {es : List DictEntry}, Ents w kvs ks vs es → es.length = kvs.length
  | _, _, _, _, .nil => rfl
  | _, _, _, _, .cons _ _ _ _ _ t => congrArg Nat.succ (Ents.len t)
theorem Ents.at_ : ∀ {kvs : List DEnt} {ks vs : List V} {es : List DictEntry} {j : Nat} {e : DictEntry}, Ents w kvs ks vs es → es[j]? = some e → RepA w K G (kvs.map (·.2)) vs → ∃ p v, kvs[j]? = some p ∧ RelV v e.val ∧ Rep w K G p.2 v
  | _, _, _, _, _, _, .nil, h, _ => by simp at h
  | _, _, _, _, 0, _, .cons _ _ _ r2 _ _, h, .cons r _ => by
    cases h
    exact ⟨_, _, rfl, r2, r⟩
  | _, _, _, _, j + 1, _, .cons _ _ _ _ _ t, h, .cons _ r => Ents.at_ (j := j) t h r
theorem Ents.key_at : ∀ {kvs : List DEnt} {ks vs : List V} {es : List DictEntry} {j : Nat} {e : DictEntry}, Ents w kvs ks vs es → es[j]? = some e → RepA w K G (kvs.map (·.1)) ks → ∃ p v, kvs[j]? = some p ∧ RelV v e.key ∧ Rep w K G p.1 v
  | _, _, _, _, _, _, .nil, h, _ => by simp at h
  | _, _, _, _, 0, _, .cons _ _ r2 _ _ _, h, .cons r _ => by
    cases h
    exact ⟨_, _, rfl, r2, r⟩
  | _, _, _, _, j + 1, _, .cons _ _ _ _ _ t, h, .cons _ r => Ents.key_at (j := j) t h r
theorem Ents.snoc {k d : D} {kv vv : V} {e : DictEntry} {nk : NestedKey} (h1 : keyOf k = some nk) (h2 : nk.depth ≤ 8) (h3 : RelV kv e.key) (h4 : RelV vv e.val) (h5 : e.hash = nk.hash w) :
    ∀ {kvs : List DEnt} {ks vs : List V} {es : List DictEntry}, Ents w kvs ks vs es → Ents w (kvs ++ [(k, d)]) (ks ++ [kv]) (vs ++ [vv]) (es ++ [e])
  | _, _, _, _, .nil => .cons h1 h2 h3 h4 h5 .nil
  | _, _, _, _, .cons a b c d e t => .cons a b c d e (Ents.snoc h1 h2 h3 h4 h5 t)
theorem Ents.modify {d : D} {vv : V} {u : Value} (h4 : RelV vv u) : ∀ {kvs : List DEnt} {ks vs : List V} {es : List DictEntry} (j : Nat), Ents w kvs ks vs es → Ents w (kvs.modify j fun p => (p.1, d)) ks (vs.set j vv) (es.modify j fun e => { e with val := u })
  | _, _, _, _, _, .nil => by simpa using Ents.nil
  | _, _, _, _, 0, .cons a b c _ e t => by
    simp only [List.modify_zero_cons, List.set_cons_zero]
    exact .cons a b c h4 e t
  | _, _, _, _, j + 1, .cons a b c d e t => by
    simp only [List.modify_succ_cons, List.set_cons_succ]
    exact .cons a b c d e (Ents.modify h4 j t)
theorem Ents.erase : ∀ {kvs : List DEnt} {ks vs : List V} {es : List DictEntry} (j : Nat), Ents w kvs ks vs es → Ents w (kvs.eraseIdx j) (ks.eraseIdx j) (vs.eraseIdx j) (es.eraseIdx j)
  | _, _, _, _, _, .nil => by simpa using Ents.nil
  | _, _, _, _, 0, .cons a b c _ e t => by
    simp only [List.eraseIdx_cons_zero]
    exact t
  | _, _, _, _, j + 1, .cons a b c d e t => by
    simp only [List.eraseIdx_cons_succ]
    exact .cons a b c d e (Ents.erase j t)
theorem RepA.erase : ∀ {ds : List D} {vs : List V} (j : Nat), RepA w K G ds vs → RepA w K G (ds.eraseIdx j) (vs.eraseIdx j)
  | _, _, _, .nil => by simpa using RepA.nil
  | _, _, 0, .cons _ t => by
    simp only [List.eraseIdx_cons_zero]
    exact t
  | _, _, j + 1, .cons h t => by
    simp only [List.eraseIdx_cons_succ]
    exact .cons h (RepA.erase j t)
theorem map_modify1 (kvs : List DEnt) (j : Nat) (d : D) {α : Type} (f : D → α) : ((kvs.modify j fun p => (p.1, d)).map fun p => f p.1) = kvs.map fun p => f p.1 := by
  induction kvs generalizing j with
  | nil => simp
  | cons p r ih =>
    cases j with
    | zero => simp
    | succ j =>
      simp only [List.modify_succ_cons, List.map_cons]
      rw [ih]
theorem map_modify2 (kvs : List DEnt) (j : Nat) (d : D) : ((kvs.modify j fun p => (p.1, d)).map (·.2)) = (kvs.map (·.2)).set j d := by
  induction kvs generalizing j with
  | nil => simp
  | cons p r ih =>
    cases j with
    | zero => simp
    | succ j =>
      simp only [List.modify_succ_cons, List.map_cons, List.set_cons_succ]
      rw [ih]
theorem map_erase {α β : Type} (f : α → β) : ∀ (xs : List α) (j : Nat), (xs.eraseIdx j).map f = (xs.map f).eraseIdx j
  | [], _ => by simp
  | _ :: _, 0 => rfl
  | x :: xs, j + 1 => by rw [List.eraseIdx_cons_succ, List.map_cons, List.map_cons, List.eraseIdx_cons_succ, map_erase f xs j]
end
end Dy

set_option Elab.async false
set_option linter.all false
set_option maxRecDepth 100000
namespace Dy
open PySem PySem.Spec PyProof.Rows L2

/-! ### dicts, by values -/
def DX (w : World) (K : PySem.W.Frag) (G : Hp) (kvs : List DEnt) (es : List DictEntry) : Prop := kvs.length ≤ sizeLine ∧ (kvs.map fun p => keyOf p.1).Nodup ∧ ∃ ks vs, Ents w kvs ks vs es ∧ RepA w K G (kvs.map (·.1)) ks ∧ RepA w K G (kvs.map (·.2)) vs
section
variable {w : World} {K : PySem.W.Frag} {G H : Hp}
theorem DctAt.dx {a : Addr} {kvs : List DEnt} (h : DctAt w K H G a kvs) : ∃ es ep, H a = some (.ext (IsO a (dObj es ep))) ∧ (a == sysModules) = false ∧ DX w K G kvs es := by
  obtain ⟨es, ep, ks, vs, h1, h2, h3, h4, h5, h6, h7⟩ := h
  exact ⟨es, ep, h1, h2, h3, h4, ks, vs, h5, h6, h7⟩
theorem DX.at_ {a : Addr} {kvs : List DEnt} {es : List DictEntry} {ep : Nat} (x : DX w K G kvs es) (h1 : H a = some (.ext (IsO a (dObj es ep)))) (h2 : (a == sysModules) = false) : DctAt w K H G a kvs := by
  obtain ⟨h3, h4, ks, vs, h5, h6, h7⟩ := x
  exact ⟨es, ep, ks, vs, h1, h2, h3, h4, h5, h6, h7⟩
theorem DX.put {kvs : List DEnt} {es : List DictEntry} {ep : Nat} {k d : D} {kv vv : V} {ku vu : Value} {nk : NestedKey} (x : DX w K G kvs es) (hk : keyOf k = some nk) (h8 : nk.depth ≤ 8) (rk : Rep w K G k kv) (ru : RelV kv ku) (rd : Rep w K G d vv) (rv : RelV vv vu) (hz : kvs.length < sizeLine) :
    DX w K G (putD kvs k d nk) (putE es ep w nk ku vu (kix kvs nk)).1 := by
  obtain ⟨h3, h4, ks, vs, h5, h6, h7⟩ := x
  unfold putD
  cases hx : kix kvs nk with
  | some j =>
    refine ⟨by rw [List.length_modify]; exact h3, by rw [map_modify1 kvs j d keyOf]; exact h4, ks, vs.set j vv, Ents.modify rv j h5, ?_, ?_⟩
    · rw [map_modify1 kvs j d fun x => x]
      exact h6
    · rw [map_modify2]
      exact RepA.set rd j h7
  | none =>
    refine ⟨by rw [List.length_append]; exact hz, ?_, ks ++ [kv], vs ++ [vv], Ents.snoc hk h8 ru rv rfl h5, ?_, ?_⟩
    · rw [List.map_append, List.nodup_append]
      refine ⟨h4, by simp, fun a ha b hb => ?_⟩
      simp only [List.map_cons, List.map_nil, List.mem_singleton] at hb
      subst hb
      rintro rfl
      obtain ⟨p, hp, hq⟩ := List.mem_map.mp ha
      unfold kix at hx
      rw [List.findIdx?_eq_none_iff] at hx
      have := hx p hp
      rw [hq, hk] at this
      simp at this
    · rw [List.map_append]
      exact h6.append (.cons rk .nil)
    · rw [List.map_append]
      exact h7.append (.cons rd .nil)
theorem DX.erase {kvs : List DEnt} {es : List DictEntry} (j : Nat) (x : DX w K G kvs es) : DX w K G (kvs.eraseIdx j) (es.eraseIdx j) := by
  obtain ⟨h3, h4, ks, vs, h5, h6, h7⟩ := x
  refine ⟨Nat.le_trans (List.length_eraseIdx_le _ _) h3, ?_, _, _, Ents.erase j h5, ?_, ?_⟩
  · rw [map_erase]
    exact h4.sublist (List.eraseIdx_sublist _ _)
  · rw [map_erase]
    exact h6.erase j
  · rw [map_erase]
    exact h7.erase j
theorem DX.len {kvs : List DEnt} {es : List DictEntry} (x : DX w K G kvs es) : es.length = kvs.length := by
  obtain ⟨h3, h4, ks, vs, h5, h6, h7⟩ := x
  exact h5.len
theorem DX.val {kvs : List DEnt} {es : List DictEntry} (x : DX w K G kvs es) {j : Nat} {e : DictEntry} (he : es[j]? = some e) : ∃ p v, kvs[j]? = some p ∧ RelV v e.val ∧ Rep w K G p.2 v := by
  obtain ⟨h3, h4, ks, vs, h5, h6, h7⟩ := x
  exact h5.at_ he h7
end
section
variable {X : Cx} {pins : List (Addr × Obj)} {σ : L2.St} {G H : Hp} {s : Shared} {a : Addr} {kvs : List DEnt} {es : List DictEntry} {ep : Nat}
theorem DX.kyd (x : DX X.w X.K G kvs es) (e : Same G H) (I : L2.Inv X pins σ H s) : ∃ nks : List NestedKey, (kvs.map fun p => keyOf p.1) = nks.map some ∧ Kyd X.w s.heap nks es := by
  obtain ⟨h3, h4, ks, vs, h5, h6, h7⟩ := x
  exact ents_kyd I h5 (h6.mono e) h4
theorem isO_at (I : L2.Inv X pins σ H s) (h : H a = some (.ext (IsO a (dObj es ep)))) : s.heap.get? a = some (dObj es ep) := (I.hok a _ h).1
theorem isO_write {es' : List DictEntry} {ep' t' : Nat} {h' : Heap} (I : L2.Inv X pins σ H s) (h : H a = some (.ext (IsO a (dObj es ep)))) (hs : Heap.SameBut a s.heap h') (he : h'.get? a = some (dObj es' ep')) :
    L2.Inv X pins σ (upd H a (.ext (IsO a (dObj es' ep')))) { s with heap := h', toks := t' } :=
  I.write (x := a) (e := a) (by rw [h]; exact True.intro) (.inl rfl) (fun b q hb z => (hs.2 b hb).trans z) ⟨_, he⟩ ⟨he, ⟨_, he⟩, fun h1 h2 p k => k _ p⟩

/-- d[k] = v -/
def rSetK (w : World) (K : PySem.W.Frag) : V → V → V → Hp → (Hp → Prop) → Prop := fun o i v H Q => ∃ a G kvs k d nk, o = .ref a ∧ Same G H ∧ DctAt w K H G a kvs ∧ Rep w K G k i ∧ key8 k = some nk ∧ Rep w K G d v ∧ kvs.length < sizeLine ∧
  ∀ es ep, DX w K G (putD kvs k d nk) es → Q (upd H a (.ext (IsO a (dObj es ep))))
theorem set_dK (hu : X.A.units + 9 < cLine) : PSet X (rSetK X.w X.K) := by
  intro pins s σ H o i v ov iv u Q I ro ri rv h
  obtain ⟨a, G, kvs, k, d, nk, rfl, sg, hd, rk, hk, rd, hz, q⟩ := h
  cases ro
  obtain ⟨es, ep, h1, h2, x⟩ := hd.dx
  obtain ⟨hk1, hk8⟩ := key8_ok hk
  obtain ⟨nks, en, Ky⟩ := x.kyd sg I
  have hg := isO_at I h1
  refine dsetItem hu (rep_key I (rk.mono sg) ri hk1) hk8 hg Ky (kix_ok en) (by rw [x.len]; omega) fun h' he hs => ?_
  exact ⟨_, isO_write I h1 hs he, q _ _ (x.put hk1 hk8 rk ri rd rv hz)⟩
/-- k in d -/
def rInK (w : World) (K : PySem.W.Frag) (neg : Bool) : R2 := fun x y H Q => ∃ a G kvs k nk, y = .ref a ∧ Same G H ∧ DctAt w K H G a kvs ∧ Rep w K H k x ∧ key8 k = some nk ∧ Q (.bl (neg.xor (kix kvs nk).isSome)) H
theorem op_inK (hu : X.A.units + 9 < cLine) : OpR X (compareOp .In) (rInK X.w X.K false) := by
  intro pins s σ H x y v u Q I rx ry h
  obtain ⟨a, G, kvs, k, nk, rfl, sg, hd, rk, hk, q⟩ := h
  cases ry
  obtain ⟨es, ep, h1, h2, x⟩ := hd.dx
  obtain ⟨hk1, hk8⟩ := key8_ok hk
  obtain ⟨nks, en, Ky⟩ := x.kyd sg I
  show wpAny _ _ (contains (.ref a) v >>= fun b => (pure (Value.bool b) : Sem Value)) _ _ _
  rw [Bool.false_xor] at q
  exact wpAny_bind (dcontains hu h2 (rep_key I rk rx hk1) hk8 (isO_at I h1) Ky (kix_ok en) (wpAny_pure ⟨.bl _, H, I.tok _, rfl, q⟩))
theorem op_notInK (hu : X.A.units + 9 < cLine) : OpR X (compareOp .NotIn) (rInK X.w X.K true) := by
  intro pins s σ H x y v u Q I rx ry h
  obtain ⟨a, G, kvs, k, nk, rfl, sg, hd, rk, hk, q⟩ := h
  cases ry
  obtain ⟨es, ep, h1, h2, x⟩ := hd.dx
  obtain ⟨hk1, hk8⟩ := key8_ok hk
  obtain ⟨nks, en, Ky⟩ := x.kyd sg I
  show wpAny _ _ (contains (.ref a) v >>= fun b => (pure (Value.bool (!b)) : Sem Value)) _ _ _
  rw [Bool.true_xor] at q
  exact wpAny_bind (dcontains hu h2 (rep_key I rk rx hk1) hk8 (isO_at I h1) Ky (kix_ok en) (wpAny_pure ⟨.bl _, H, I.tok _, rfl, q⟩))
/-- d[k] -/
def rIxK (w : World) (K : PySem.W.Frag) : R2 := fun x y H Q => ∃ a G kvs k nk d, x = .ref a ∧ Same G H ∧ DctAt w K H G a kvs ∧ Rep w K H k y ∧ key8 k = some nk ∧ lookD kvs nk = some d ∧ ∀ v, Rep w K G d v → Q v H
theorem look_at {kvs : List DEnt} {nk : NestedKey} {d : D} (h : lookD kvs nk = some d) : ∃ j p, kix kvs nk = some j ∧ kvs[j]? = some p ∧ p.2 = d := by
  unfold lookD at h
  cases e : kix kvs nk with
  | none =>
    rw [e] at h
    cases h
  | some j =>
    rw [e] at h
    have h : (kvs[j]?).map (·.2) = some d := h
    cases ej : kvs[j]? with
    | none =>
      rw [ej] at h
      cases h
    | some p =>
      rw [ej] at h
      cases h
      exact ⟨j, p, rfl, ej, rfl⟩
theorem ix_dK (hu : X.A.units + 9 < cLine) : IxR X (rIxK X.w X.K) := by
  intro value slice pins s σ H x y v u Q I rx ry h hs
  obtain ⟨a, G, kvs, k, nk, d, rfl, sg, hd, rk, hk, hl, q⟩ := h
  cases rx
  obtain ⟨es, ep, h1, h2, x⟩ := hd.dx
  obtain ⟨hk1, hk8⟩ := key8_ok hk
  obtain ⟨nks, en, Ky⟩ := x.kyd sg I
  obtain ⟨j, p, e1, e2, rfl⟩ := look_at hl
  have kx := kix_ok (nk := nk) en
  rw [e1] at kx
  obtain ⟨e, he, _⟩ := Ky.of_key kx
  obtain ⟨p', z, e3, rz, rp⟩ := x.val he
  rw [e2] at e3
  cases e3
  exact subscriptTail_builtinR (x := e.val) (dTy (isO_at I h1)) slot_dict_getitem.lookup
    (dgetItem (Q := fun r s' => r = e.val ∧ EP X pins σ Q r s') hu (rep_key I rk ry hk1) hk8 (isO_at I h1) Ky kx he ⟨rfl, ⟨z, H, I.tok _, rz, q z rp⟩⟩) hs
end
end Dy

set_option Elab.async false
set_option linter.all false
set_option maxRecDepth 100000
namespace Dy
open PySem PySem.Spec PyProof.Rows L2

/-! ### membership, items: lists, tuples, texts, dicts -/
def inK (neg : Bool) : D → D → Option Out := fun x y => match y with
  | .dict kvs => (key8 x).map fun nk => .val (.bool (neg.xor (kix kvs nk).isSome))
  | _ => none
def ixK : D → D → Option Out := fun x y => match x with
  | .dict kvs => ((key8 y).bind (lookD kvs)).map .val
  | _ => none
section
variable {c : CC}
theorem snd_inK {neg : Bool} : Snd2 c (rInK c.w c.K neg) (inK neg) := fun Y W wi G H fp σ ρ s x y v u o Q cfg vx vy e k => by
  unfold inK at e
  split at e
  · rename_i kvs
    cases ek : key8 x with
    | none =>
      rw [ek] at e
      cases e
    | some nk =>
      rw [ek] at e
      cases e
      obtain ⟨a, rfl, hd⟩ := vy
      exact ⟨a, G, kvs, x, nk, rfl, cfg.sub, hd, vx.rep cfg.sub, ek, fin_val cfg k (.bl _)⟩
  · cases e
theorem snd_ixK : Snd2 c (rIxK c.w c.K) ixK := fun Y W wi G H fp σ ρ s x y v u o Q cfg vx vy e k => by
  unfold ixK at e
  split at e
  · rename_i kvs
    cases ek : key8 y with
    | none =>
      rw [ek] at e
      cases e
    | some nk =>
      rw [ek] at e
      have e : (lookD kvs nk).map Out.val = some o := e
      cases el : lookD kvs nk with
      | none =>
        rw [el] at e
        cases e
      | some d =>
        rw [el] at e
        cases e
        obtain ⟨a, rfl, hd⟩ := vx
        exact ⟨a, G, kvs, y, nk, d, rfl, cfg.sub, hd, vy.rep cfg.sub, ek, el, fun v r => fin_val cfg k r⟩
  · cases e

def inAll : D → D → Option Out := fun x y => (inD x y).or ((inS x y).or (inK false x y))
def notInAll : D → D → Option Out := fun x y => (notO inD x y).or ((notO inS x y).or (inK true x y))
def ixAll : D → D → Option Out := fun x y => (ixD x y).or (ixK x y)
theorem InC.u9 {X : Cx} (ic : InC c X) : X.A.units + 9 < cLine := by have := ic.units; omega
theorem InC.u64' {X : Cx} (ic : InC c X) : X.A.units + 64 < cLine := by have := ic.units; omega
theorem InC.u0 {X : Cx} (ic : InC c X) : X.A.units < cLine := by have := ic.units; omega
section
variable {Y : Sy} {a b d e : Expr} {ma mb md me : ME Y.S} {pos p : Pos}
theorem ho_in (X : Cx) (ic : InC c X) : OpR X (compareOp .In) fun x y H Q => (rInD c.K x y H Q ∨ rInTD c.K false x y H Q) ∨ ((fun x y H Q => ∃ i j, x = .str i ∧ y = .str j ∧ Q (.bl (!(Builtin.Str.occurrences j i 0 j.length 1).isEmpty)) H) x y H Q ∨ rInK c.w c.K false x y H Q) := by
  rw [← ic.K, ← ic.w]
  exact OpR.or (OpR.or (op_inD ic.u64) (op_inTD ic.u64)) (OpR.or op_in_str (op_inK ic.u9))
theorem ho_notIn (X : Cx) (ic : InC c X) : OpR X (compareOp .NotIn) fun x y H Q => (rNotInD c.K x y H Q ∨ rInTD c.K true x y H Q) ∨ ((fun x y H Q => ∃ i j, x = .str i ∧ y = .str j ∧ Q (.bl (!(!(Builtin.Str.occurrences j i 0 j.length 1).isEmpty))) H) x y H Q ∨ rInK c.w c.K true x y H Q) := by
  rw [← ic.K, ← ic.w]
  exact OpR.or (OpR.or (op_notInD ic.u64) (op_notInTD ic.u64)) (OpR.or op_notin_str (op_notInK ic.u9))
theorem hs_in : Snd2 c (fun x y H Q => (rInD c.K x y H Q ∨ rInTD c.K false x y H Q) ∨ ((fun x y H Q => ∃ i j, x = .str i ∧ y = .str j ∧ Q (.bl (!(Builtin.Str.occurrences j i 0 j.length 1).isEmpty)) H) x y H Q ∨ rInK c.w c.K false x y H Q)) inAll := snd_inD.or (snd_inS.or snd_inK)
theorem hs_notIn : Snd2 c (fun x y H Q => (rNotInD c.K x y H Q ∨ rInTD c.K true x y H Q) ∨ ((fun x y H Q => ∃ i j, x = .str i ∧ y = .str j ∧ Q (.bl (!(!(Builtin.Str.occurrences j i 0 j.length 1).isEmpty))) H) x y H Q ∨ rInK c.w c.K true x y H Q)) notInAll := snd_notInD.or (snd_notInS.or snd_inK)
theorem de_in (ha : DE c Y a ma) (hb : DE c Y b mb) (hm : behindInMarks .In b = false := by rfl) : DE c Y (.Compare a [.In] [b] pos) (eBin inAll ma mb) := de_cmp ho_in hs_in ha hb hm
theorem dt_in (ha : DE c Y a ma) (hb : DE c Y b mb) (hm : behindInMarks .In b = false := by rfl) : DT c Y (.Compare a [.In] [b] pos) (tBin inAll ma mb) := dt_cmp ho_in hs_in ha hb hm
theorem de_notIn (ha : DE c Y a ma) (hb : DE c Y b mb) (hm : behindInMarks .NotIn b = false := by rfl) : DE c Y (.Compare a [.NotIn] [b] pos) (eBin notInAll ma mb) := de_cmp ho_notIn hs_notIn ha hb hm
theorem dt_notIn (ha : DE c Y a ma) (hb : DE c Y b mb) (hm : behindInMarks .NotIn b = false := by rfl) : DT c Y (.Compare a [.NotIn] [b] pos) (tBin notInAll ma mb) := dt_cmp ho_notIn hs_notIn ha hb hm
theorem ho_eq (X : Cx) (ic : InC c X) : OpR X (compareOp .Eq) (rEqD c.K) := by
  rw [← ic.K]
  exact op_eqD ic.u64'
theorem ho_ne (X : Cx) (ic : InC c X) : OpR X (compareOp .NotEq) (rNeD c.K) := by
  rw [← ic.K]
  exact op_neD ic.u64'
theorem de_eq (ha : DE c Y a ma) (hb : DE c Y b mb) (hm : behindInMarks .Eq b = false := by rfl) : DE c Y (.Compare a [.Eq] [b] pos) (eBin eqD ma mb) := de_cmp ho_eq snd_eqD ha hb hm
theorem dt_eq (ha : DE c Y a ma) (hb : DE c Y b mb) (hm : behindInMarks .Eq b = false := by rfl) : DT c Y (.Compare a [.Eq] [b] pos) (tBin eqD ma mb) := dt_cmp ho_eq snd_eqD ha hb hm
theorem de_ne (ha : DE c Y a ma) (hb : DE c Y b mb) (hm : behindInMarks .NotEq b = false := by rfl) : DE c Y (.Compare a [.NotEq] [b] pos) (eBin neD ma mb) := de_cmp ho_ne snd_neD ha hb hm
theorem dt_ne (ha : DE c Y a ma) (hb : DE c Y b mb) (hm : behindInMarks .NotEq b = false := by rfl) : DT c Y (.Compare a [.NotEq] [b] pos) (tBin neD ma mb) := dt_cmp ho_ne snd_neD ha hb hm
theorem de_is (ha : DE c Y a ma) (hb : DE c Y b mb) (hm : behindInMarks .Is b = false := by rfl) : DE c Y (.Compare a [.Is] [b] pos) (eBin isD ma mb) := de_cmp (fun X ic => OpR.or op_isN op_isBl) snd_isD ha hb hm
theorem dt_is (ha : DE c Y a ma) (hb : DE c Y b mb) (hm : behindInMarks .Is b = false := by rfl) : DT c Y (.Compare a [.Is] [b] pos) (tBin isD ma mb) := dt_cmp (fun X ic => OpR.or op_isN op_isBl) snd_isD ha hb hm
theorem de_isNot (ha : DE c Y a ma) (hb : DE c Y b mb) (hm : behindInMarks .IsNot b = false := by rfl) : DE c Y (.Compare a [.IsNot] [b] pos) (eBin isNotD ma mb) := de_cmp (fun X ic => OpR.or op_notN op_isnot_bl) snd_isNotD ha hb hm
theorem dt_isNot (ha : DE c Y a ma) (hb : DE c Y b mb) (hm : behindInMarks .IsNot b = false := by rfl) : DT c Y (.Compare a [.IsNot] [b] pos) (tBin isNotD ma mb) := dt_cmp (fun X ic => OpR.or op_notN op_isnot_bl) snd_isNotD ha hb hm
theorem s_lt : Snd2 c (rI0 fun i j => .bl (decide (i < j))) ltI := snd_I0 fun i j w K G => .bl _
theorem s_le : Snd2 c (rI0 fun i j => .bl (decide (i ≤ j))) leI := snd_I0 fun i j w K G => .bl _
theorem s_gt : Snd2 c (rI0 fun i j => .bl (decide (j < i))) gtI := snd_I0 fun i j w K G => .bl _
theorem s_ge : Snd2 c (rI0 fun i j => .bl (decide (j ≤ i))) geI := snd_I0 fun i j w K G => .bl _
theorem ho_le (X : Cx) (ic : InC c X) : OpR X (compareOp .LtE) fun x y H Q => rI0 (fun i j => .bl (decide (i ≤ j))) x y H Q ∨ rLeT c.K x y H Q := by
  rw [← ic.K]
  exact OpR.or op_le (op_leT ic.u0)
theorem s_leD : Snd2 c (fun x y H Q => rI0 (fun i j => .bl (decide (i ≤ j))) x y H Q ∨ rLeT c.K x y H Q) leD := s_le.or snd_leT
theorem de_lt (ha : DE c Y a ma) (hb : DE c Y b mb) (hm : behindInMarks .Lt b = false := by rfl) : DE c Y (.Compare a [.Lt] [b] pos) (eBin ltI ma mb) := de_cmp (fun _ _ => op_lt) s_lt ha hb hm
theorem dt_lt (ha : DE c Y a ma) (hb : DE c Y b mb) (hm : behindInMarks .Lt b = false := by rfl) : DT c Y (.Compare a [.Lt] [b] pos) (tBin ltI ma mb) := dt_cmp (fun _ _ => op_lt) s_lt ha hb hm
theorem de_le (ha : DE c Y a ma) (hb : DE c Y b mb) (hm : behindInMarks .LtE b = false := by rfl) : DE c Y (.Compare a [.LtE] [b] pos) (eBin leD ma mb) := de_cmp ho_le s_leD ha hb hm
theorem dt_le (ha : DE c Y a ma) (hb : DE c Y b mb) (hm : behindInMarks .LtE b = false := by rfl) : DT c Y (.Compare a [.LtE] [b] pos) (tBin leD ma mb) := dt_cmp ho_le s_leD ha hb hm
theorem de_gt (ha : DE c Y a ma) (hb : DE c Y b mb) (hm : behindInMarks .Gt b = false := by rfl) : DE c Y (.Compare a [.Gt] [b] pos) (eBin gtI ma mb) := de_cmp (fun _ _ => op_gt) s_gt ha hb hm
theorem dt_gt (ha : DE c Y a ma) (hb : DE c Y b mb) (hm : behindInMarks .Gt b = false := by rfl) : DT c Y (.Compare a [.Gt] [b] pos) (tBin gtI ma mb) := dt_cmp (fun _ _ => op_gt) s_gt ha hb hm
theorem de_ge (ha : DE c Y a ma) (hb : DE c Y b mb) (hm : behindInMarks .GtE b = false := by rfl) : DE c Y (.Compare a [.GtE] [b] pos) (eBin geI ma mb) := de_cmp (fun _ _ => op_ge) s_ge ha hb hm
theorem dt_ge (ha : DE c Y a ma) (hb : DE c Y b mb) (hm : behindInMarks .GtE b = false := by rfl) : DT c Y (.Compare a [.GtE] [b] pos) (tBin geI ma mb) := dt_cmp (fun _ _ => op_ge) s_ge ha hb hm
theorem ho_ix (X : Cx) (ic : InC c X) : IxR X fun x y H Q => rIx c.K x y H Q ∨ rIxK c.w c.K x y H Q := by
  rw [← ic.K, ← ic.w]
  exact IxR.or ix_seq (ix_dK ic.u9)
theorem de_ix (ha : DE c Y a ma) (hb : DE c Y b mb) (hp : PlainIx b := by exact fun _ _ => rfl) : DE c Y (.Subscript a b pos) (eBin ixAll ma mb) := de_ixR ho_ix (snd_ixD.or snd_ixK) ha hb hp
/-- a global constant -/
theorem de_glob {x : Str} {v : V} {u : Value} {d : D} (hg : c.sc.names.lookup x = some .globalImplicit) (hm : c.mg x = some u) (r : RelV v u) (rp : ∀ G, Rep c.w c.K G d v) (hd : (x == ("__debug__" : Str)) = false := by decide) : DE c Y (.Name x pos) (eC d) :=
  de_c (fun X ic => pe_glob (show X.env.scope.names.lookup x = _ by rw [ic.sc]; exact hg) (by rw [ic.mg]; exact hm) r hd) rp
end
end
end Dy

set_option Elab.async false
set_option linter.all false
set_option maxRecDepth 100000
namespace Dy
open PySem PySem.Spec PyProof.Rows L2

/-! ### the frame's own things are written -/
section
variable {w : World} {K : PySem.W.Frag} {Y : Sy} {wi : Y.W} {G H G0 H0 : Hp} {fp fp0 O : Addr → Prop} {σ : L2.St} {ρ : Fr} {s : Y.S}
theorem sim_set {i : Nat} {x y : Sl} (hx : ρ[i]? = some x) (k : Kin x y) : Sim ρ (ρ.set i y) := by
  refine ⟨by rw [List.length_set], fun j a b ha hb => ?_⟩
  by_cases hj : i = j
  · subst hj
    rw [List.getElem?_set, if_pos rfl] at hb
    split at hb
    · cases hb
      rw [hx] at ha
      cases ha
      exact k
    · cases hb
  · rw [List.getElem?_set_ne hj] at hb
    rw [ha] at hb
    cases hb
    exact Kin.refl _
/-- the thing in slot i is written -/
theorem Cfg.write (cfg : Cfg w K Y wi G H fp σ ρ s) {i : Nat} {x y : Sl} {a : Addr} {u : HO} (hx : ρ[i]? = some x) (ox : x.own = true) (ea : σ[i]? = some (some (.ref a))) (k : Kin x y) (ok : SlOk w K (Y.hv wi) G (upd H a u) fp y (some (some (.ref a)))) :
    Cfg w K Y wi G (upd H a u) fp σ (ρ.set i y) s ∧ Tr G H fp (Own σ ρ) G (upd H a u) fp ∧ Sim ρ (ρ.set i y) := by
  have own : Own σ ρ a := ⟨i, x, hx, ox, ea⟩
  obtain ⟨h1, h2, h3⟩ := own_there cfg own
  have hi : i < ρ.length := (List.getElem?_eq_some_iff.mp hx).1
  have oy : y.own = true := k.own ▸ ox
  have back : ∀ {j : Nat} {z : Sl}, (ρ.set i y)[j]? = some z → (j = i ∧ z = y) ∨ (j ≠ i ∧ ρ[j]? = some z) := fun {j z} h => by
    by_cases hj : i = j
    · subst hj
      rw [List.getElem?_set, if_pos rfl, if_pos hi] at h
      cases h
      exact .inl ⟨rfl, rfl⟩
    · rw [List.getElem?_set_ne hj] at h
      exact .inr ⟨fun e => hj e.symm, h⟩
  have far : ∀ {j : Nat} {z : Sl} {b : Addr}, j ≠ i → ρ[j]? = some z → z.own = true → σ[j]? = some (some (.ref b)) → upd H a u b = H b := fun {j z b} hj hz oz eb => upd_ne fun e => by
    subst e
    exact hj (cfg.dis j i b z x hz hx oz ox eb ea)
  refine ⟨⟨fun b o h => ?_, ?_, cfg.gfp, by rw [List.length_set]; exact cfg.len, fun j z hz => ?_, fun j l b z z' hz hz' oz oz' ez ez' => ?_⟩, ⟨fun _ _ h => h, fun b o h _ no => ?_, fun b h => ?_, fun b h => .inl h, fun b h => .inl h, fun b h hf => ?_⟩, sim_set hx k⟩
  · rw [upd_ne (ne_of_none h h2)]
    exact cfg.sub b o h
  · exact Y.stay cfg.rs fun b h => upd_ne fun e => h3 (by rw [← e]; exact h)
  · rcases back hz with ⟨rfl, rfl⟩ | ⟨hj, h⟩
    · rw [ea]
      exact ok
    · have sl := cfg.slot j z h
      cases z with
      | non => trivial
      | val d => exact sl
      | lst l =>
        obtain ⟨b, e, q1, q2, q3⟩ := sl
        exact ⟨b, e, q1, q2, q3.mono (far hj h rfl e) fun _ _ h => h⟩
      | dct l =>
        obtain ⟨b, e, q1, q2, q3⟩ := sl
        exact ⟨b, e, q1, q2, q3.mono (far hj h rfl e) fun _ _ h => h⟩
      | hdl k => exact sl
  · rcases back hz with ⟨rfl, rfl⟩ | ⟨hj, h⟩
    · rcases back hz' with ⟨rfl, rfl⟩ | ⟨hl, h'⟩
      · rfl
      · exact cfg.dis j l b x z' hx h' ox oz' ez ez'
    · rcases back hz' with ⟨rfl, rfl⟩ | ⟨hl, h'⟩
      · exact cfg.dis j l b z x h hx oz ox ez ez'
      · exact cfg.dis j l b z z' h h' oz oz' ez ez'
  · rw [upd_ne fun e => no (by rw [e]; exact own)]
    exact h
  · by_cases e : b = a
    · subst e
      rw [upd_same] at h
      cases h
    · rw [upd_ne e] at h
      exact h
  · by_cases e : b = a
    · subst e
      exact (h3 hf).elim
    · rw [upd_ne e] at h
      exact .inl h
end

/-! ### methods of the frame's own lists -/
abbrev LEff := List D → List D → Option (D × List D)
def SndL (c : CC) (r : V → List V → Hp → VK → Prop) (f : LEff) : Prop := ∀ (G H : Hp) (a : Addr) (l : List D) (xs : List V) (as : List D) (vs : List V) (o : D) (l' : List D) (Q : VK), Same G H → H a = some (.lst xs) → G a = none → RepA c.w c.K G l xs → RepA c.w c.K G as vs → f l as = some (o, l') →
  (∀ v ys, Rep c.w c.K G o v → RepA c.w c.K G l' ys → Q v (upd H a (.lst ys))) → r (.ref a) vs H Q
def lstAt (ρ : Fr) (i : Nat) : Option (List D) := match ρ[i]? with
  | some (.lst l) => some l
  | _ => none
def dctAt (ρ : Fr) (i : Nat) : Option (List DEnt) := match ρ[i]? with
  | some (.dct l) => some l
  | _ => none
theorem lstAt_eq {ρ : Fr} {i : Nat} {l : List D} (h : lstAt ρ i = some l) : ρ[i]? = some (.lst l) := by
  unfold lstAt at h
  split at h
  · rename_i l' e
    cases h
    exact e
  · cases h
theorem dctAt_eq {ρ : Fr} {i : Nat} {l : List DEnt} (h : dctAt ρ i = some l) : ρ[i]? = some (.dct l) := by
  unfold dctAt at h
  split at h
  · rename_i l' e
    cases h
    exact e
  · cases h
def eMutL {S : Type} (i : Nat) (f : LEff) (ma : MA S) : ME S := fun ρ s => match lstAt ρ i with
  | none => .bad
  | some _ => (ma ρ s).bind fun os ρ s => match (lstAt ρ i).bind fun l => (vals os).bind (f l) with
    | some (o, l') => .ok (.val o) (ρ.set i (.lst l')) s
    | none => .bad
section
variable {c : CC} {Y : Sy} {e : Expr} {es : List Expr} {ma : MA Y.S} {apos cpos p : Pos} {x name : Str} {id : String} {r : V → List V → Hp → VK → Prop} {f : LEff}
/-- the reading of a method of an own list -/
theorem mutL_imp {W : WX} {i : Nat} (hs : SndL c r f) {σ : L2.St} {H : Hp} {Q : VK} (h : tE c Y W (eMutL i f ma) σ H Q) : ∃ a xs, σ[i]? = some (some (.ref a)) ∧ SqL c.K H a xs ∧ tA c Y W ma σ H fun vs H2 => r (.ref a) vs H2 Q := by
  obtain ⟨wi, G, fp, ρ, s, cfg, k⟩ := h
  unfold eMutL at k
  cases el : lstAt ρ i with
  | none =>
    rw [el] at k
    exact k.elim
  | some l0 =>
    rw [el] at k
    obtain ⟨a, ea, g1, g2, xs0, hH, rl⟩ := cfg.slot i _ (lstAt_eq el)
    refine ⟨a, xs0, ea, .inl (.inl hH), wi, G, fp, ρ, s, cfg, (Cont.bindL k).mono fun vs H1 ⟨G1, fp1, ρ1, s1, os, cfg1, sim1, tr1, r1, k1⟩ => ?_⟩
    have k1 := k1.shift early_O tr1 sim1
    dsimp only at k1
    cases el1 : lstAt ρ1 i with
    | none =>
      rw [el1] at k1
      exact k1.elim
    | some l =>
      cases ev : vals os with
      | none =>
        rw [el1, ev] at k1
        exact k1.elim
      | some as =>
        rw [el1, ev] at k1
        dsimp only [Option.bind_some] at k1
        cases ef : f l as with
        | none =>
          rw [ef] at k1
          exact k1.elim
        | some z =>
          obtain ⟨o, l'⟩ := z
          rw [ef] at k1
          obtain ⟨a1, ea1, q1, q2, xs, hH1, rl1⟩ := cfg1.slot i _ (lstAt_eq el1)
          rw [ea] at ea1
          cases ea1
          refine hs G1 H1 a l xs as vs o l' Q cfg1.sub hH1 q1 rl1 (vals_rep r1 ev) ef fun v ys rv ry => ?_
          obtain ⟨cfg2, tr2, sim2⟩ := cfg1.write (lstAt_eq el1) rfl ea (y := .lst l') trivial (u := .lst ys) ⟨a, rfl, q1, q2, ys, upd_same, ry⟩
          exact k1 G1 _ fp1 v cfg2 sim2 tr2 rv
theorem de_mutL (i : Nat) (hm : ∀ X, InC c X → MtR X id r) (hs : SndL c r f) (ha : DA c Y (e :: es) ma) (hN : c.N[i]? = some x) (slot : Slot "list" name id) (hty : typeOf (.builtin id) = pure (.type "method_descriptor"))
    (hv : Vis c.sc x := by first | exact Or.inl rfl | exact Or.inr (Or.inl rfl) | exact Or.inr (Or.inr rfl)) (hd : (x == ("__debug__" : Str)) = false := by decide) (hcd : (x == ("__classdict__" : Str)) = false := by decide)
    (hbase : ∀ env, attributeBase (.Name x p) name env (eval (.Name x p) env) = eval (.Name x p) env := by intro _; rfl)
    (hfew : ∀ env, ((backTo cpos (starEach (e :: es) env)).all (fun x => !x.1) && (backToKw cpos (keywordEach [] env)).all (fun x => x.1.isSome)
      && decide ((e :: es).length + ([] : List Keyword).length + (if ([] : List Keyword).isEmpty then 0 else 1) < 30)) = true := by intro _; rfl)
    (hline : (apos.endLine == cpos.line) = true := by rfl) (hst : ∀ env, starEach (e :: es) env = (false, eval e env) :: starEach es env := by intro _; rfl) (hplain : ∀ env, (backTo cpos (starEach es env)).any (·.1) = false := by intro _; rfl) :
    DE c Y (.Call (.Attribute (.Name x p) name apos) (e :: es) [] cpos) (eMutL i f ma) := fun X W ic tk => by
  refine PE.imp (pe_bm F.plainAttrs_list slot hty (hm X ic) (pe_var (i := i) (by rw [ic.N]; exact hN) (by rw [ic.sc]; exact hv) hd hcd) (ha X W ic tk) (hbase _) (hfew _) hline (hst _) (hplain _)) fun σ H Q h => ?_
  obtain ⟨a, xs, ea, hq, t⟩ := mutL_imp hs h
  exact ⟨.ref a, ea, .inl ⟨rfl, xs, by rw [ic.K]; exact hq⟩, t⟩
theorem de_mutL0 (i : Nat) (hm : ∀ X, InC c X → MtR X id r) (hs : SndL c r f) (hN : c.N[i]? = some x) (slot : Slot "list" name id) (hty : typeOf (.builtin id) = pure (.type "method_descriptor"))
    (hv : Vis c.sc x := by first | exact Or.inl rfl | exact Or.inr (Or.inl rfl) | exact Or.inr (Or.inr rfl)) (hd : (x == ("__debug__" : Str)) = false := by decide) (hcd : (x == ("__classdict__" : Str)) = false := by decide)
    (hbase : ∀ env, attributeBase (.Name x p) name env (eval (.Name x p) env) = eval (.Name x p) env := by intro _; rfl)
    (hline : (apos.endLine == cpos.line) = true := by rfl) :
    DE c Y (.Call (.Attribute (.Name x p) name apos) [] [] cpos) (eMutL i f aNil) := fun X W ic tk => by
  refine PE.imp (pe_bm0 F.plainAttrs_list slot hty (hm X ic) (pe_var (i := i) (by rw [ic.N]; exact hN) (by rw [ic.sc]; exact hv) hd hcd) (hbase _) hline) fun σ H Q h => ?_
  obtain ⟨a, xs, ea, hq, t⟩ := mutL_imp hs h
  refine ⟨.ref a, ea, .inl ⟨rfl, xs, by rw [ic.K]; exact hq⟩, ?_⟩
  obtain ⟨wi, G, fp, ρ, s, cfg, k⟩ := t
  exact k G H fp [] cfg (Sim.refl ρ) Tr.refl .nil
/-- xs.append(y) -/
def fAppend : LEff := fun l as => match as with
  | [y] => if decide (l.length < 16777216) then some (.none, l ++ [y]) else none
  | _ => none
theorem lt_line {n : Nat} (h : decide (n < 16777216) = true) : n < sizeLine := by
  rw [sizeLine_eq]
  exact of_decide_eq_true h
theorem snd_append : SndL c rAppend fAppend := fun G H a l xs as vs o l' Q sg hH g rl ra e k => by
  unfold fAppend at e
  split at e
  · split at e
    · rename_i y hz
      cases e
      cases ra with
      | cons r1 r2 =>
        cases r2
        exact ⟨a, xs, _, rfl, rfl, hH, by rw [← rl.length]; exact lt_line hz, k _ _ .non (rl.append (.cons r1 .nil))⟩
    · cases e
  · cases e
theorem de_append (i : Nat) (ha : DA c Y (e :: es) ma) (hN : c.N[i]? = some x := by rfl) (hv : Vis c.sc x := by first | exact Or.inl rfl | exact Or.inr (Or.inl rfl) | exact Or.inr (Or.inr rfl)) (hd : (x == ("__debug__" : Str)) = false := by decide) (hcd : (x == ("__classdict__" : Str)) = false := by decide)
    (hbase : ∀ env, attributeBase (.Name x p) "append" env (eval (.Name x p) env) = eval (.Name x p) env := by intro _; rfl)
    (hfew : ∀ env, ((backTo cpos (starEach (e :: es) env)).all (fun x => !x.1) && (backToKw cpos (keywordEach [] env)).all (fun x => x.1.isSome)
      && decide ((e :: es).length + ([] : List Keyword).length + (if ([] : List Keyword).isEmpty then 0 else 1) < 30)) = true := by intro _; rfl)
    (hline : (apos.endLine == cpos.line) = true := by rfl) (hst : ∀ env, starEach (e :: es) env = (false, eval e env) :: starEach es env := by intro _; rfl) (hplain : ∀ env, (backTo cpos (starEach es env)).any (·.1) = false := by intro _; rfl) :
    DE c Y (.Call (.Attribute (.Name x p) "append" apos) (e :: es) [] cpos) (eMutL i fAppend ma) :=
  de_mutL i (fun _ _ => mt_append) snd_append ha hN F.slot_list_append F.type_list_append hv hd hcd hbase hfew hline hst hplain
end
end Dy

set_option Elab.async false
set_option linter.all false
set_option maxRecDepth 100000
namespace Dy
open PySem PySem.Spec PyProof.Rows L2

/-! ### list methods -/
section
variable {c : CC}
def fExtend : LEff := fun l as => match as with
  | [.list m] => if sizeOk (l.length + m.length) then some (.none, l ++ m) else none
  | _ => none
theorem snd_extend : SndL c rExtend fExtend := fun G H a l xs as vs o l' Q sg hH g rl ra e k => by
  unfold fExtend at e
  split at e
  · rename_i m
    split at e
    · rename_i hz
      cases e
      cases ra with
      | cons r1 r2 =>
        cases r2
        cases r1 with
        | lst hb rb => exact ⟨a, _, xs, _, rfl, rfl, hH, sg _ _ hb, by rw [← rl.length, ← rb.length]; exact sizeOk_le hz, k _ _ .non (rl.append rb)⟩
    · cases e
  · cases e
theorem RepA.dropLast {w : World} {K : PySem.W.Frag} {G : Hp} {ds : List D} {vs : List V} (r : RepA w K G ds vs) : RepA w K G ds.dropLast vs.dropLast := by
  rw [List.dropLast_eq_take, List.dropLast_eq_take, r.length]
  exact r.take _
def fPop : LEff := fun l as => match as with
  | [] => (l[l.length - 1]?).map fun d => (d, l.dropLast)
  | _ => none
theorem snd_pop : SndL c rPop fPop := fun G H a l xs as vs o l' Q sg hH g rl ra e k => by
  unfold fPop at e
  split at e
  · cases el : l[l.length - 1]? with
    | none =>
      rw [el] at e
      cases e
    | some d =>
      rw [el] at e
      cases e
      cases ra
      obtain ⟨v, hv, rv⟩ := rl.get el
      rw [rl.length] at hv
      exact ⟨a, xs, v, rfl, rfl, hH, hv, k _ _ rv rl.dropLast⟩
  · cases e
def fits63 (i : Int) : Bool := decide (-9223372036854775808 ≤ i) && decide (i < 9223372036854775808)
def fPopAt : LEff := fun l as => match as with
  | [.int i] => if fits63 i then (seqIndex? i l.length).bind fun j => (l[j]?).map fun d => (d, l.eraseIdx j) else none
  | _ => none
theorem fits63_ok {i : Int} (h : fits63 i = true) : -(2 ^ 63) ≤ i ∧ i < 2 ^ 63 := by
  unfold fits63 at h
  simp only [Bool.and_eq_true, decide_eq_true_eq] at h
  omega
theorem snd_popAt : SndL c rPopAt fPopAt := fun G H a l xs as vs o l' Q sg hH g rl ra e k => by
  unfold fPopAt at e
  split at e
  · rename_i i
    split at e
    · rename_i h63
      cases ej : seqIndex? i l.length with
      | none =>
        rw [ej] at e
        cases e
      | some j =>
        rw [ej] at e
        have e : (l[j]?).map (fun d => (d, l.eraseIdx j)) = some (o, l') := e
        cases el : l[j]? with
        | none =>
          rw [el] at e
          cases e
        | some d =>
          rw [el] at e
          cases e
          cases ra with
          | cons r1 r2 =>
            cases r2
            cases r1
            obtain ⟨v, hv, rv⟩ := rl.get el
            rw [rl.length] at ej
            exact ⟨a, xs, i, j, v, rfl, rfl, hH, (fits63_ok h63).1, (fits63_ok h63).2, ej, hv, k _ _ rv (rl.erase j)⟩
    · cases e
  · cases e
abbrev rInsert : V → List V → Hp → VK → Prop := fun x vs H Q => ∃ (l : Addr) (xs : List V) (i : Int) (y : V), x = .ref l ∧ vs = [.int i, y] ∧ H l = some (.lst xs) ∧ xs.length < sizeLine ∧ 0 ≤ i ∧ i < 2 ^ 63 ∧
    Q .non (upd H l (.lst (xs.take i.toNat ++ [y] ++ xs.drop i.toNat)))
def fInsert : LEff := fun l as => match as with
  | [.int i, d] => if decide (0 ≤ i) && (decide (i < 9223372036854775808) && decide (l.length < 16777216)) then some (.none, l.take i.toNat ++ [d] ++ l.drop i.toNat) else none
  | _ => none
theorem snd_insert : SndL c rInsert fInsert := fun G H a l xs as vs o l' Q sg hH g rl ra e k => by
  unfold fInsert at e
  split at e
  · rename_i i d
    split at e
    · rename_i hz
      simp only [Bool.and_eq_true] at hz
      cases e
      cases ra with
      | cons r1 r2 =>
        cases r2 with
        | cons r2 r3 =>
          cases r3
          cases r1
          exact ⟨a, xs, i, _, rfl, rfl, hH, by rw [← rl.length]; exact lt_line hz.2.2, of_decide_eq_true hz.1, of_decide_eq_true hz.2.1, k _ _ .non (((rl.take _).append (.cons r2 .nil)).append (rl.drop _))⟩
    · cases e
  · cases e
/-- xs.remove(y), y there -/
def rRemD (K : PySem.W.Frag) : V → List V → Hp → VK → Prop := fun x vs H Q => ∃ l xs ds y d j, x = .ref l ∧ vs = [y] ∧ H l = some (.lst xs) ∧ DpAll K H xs ds ∧ PyData.canLayAll0 ds = true ∧ Dp K H y d ∧ SeqAt.shaped d = true ∧ SeqAt.dataPlace ds d = some j ∧ Q .non (upd H l (.lst (xs.eraseIdx j)))
theorem mt_removeD {X : Cx} (hu : X.A.units + 65 < cLine) : MtR X "list.remove" (rRemD X.K) := by
  intro pins s σ H x vs v us Q I rx rv h
  obtain ⟨l, xs, ds, y, d, j, rfl, rfl, hH, hds, cds, hd, sd, hj, q⟩ := h
  cases rx
  obtain ⟨u, rfl, ru⟩ := rv.one
  obtain ⟨z, its, n, r, hl, e⟩ := I.lstM hH
  obtain ⟨as, ra⟩ := Dp.readsAll I ds xs its hds r
  obtain ⟨bs, rb⟩ := Dp.reads I d y u hd ru
  refine SeqAt.remove_list_data (s := s) ⟨_, e, rfl, n, rfl⟩ (by simpa using ra) rb (PyData.plainAll_of_canLay0 ds cds) (PyData.plain_of_canLay0 d (SeqAt.canLay_of_shaped sd)) (room_in_shaped sd hu) hj (by rw [List.size_toArray]; omega) ?_
  refine ⟨.non, _, I.lset (its' := its.eraseIdx j) hH e ?_ (r.eraseIdx j) ?_, rfl, q⟩
  · show its.toArray.eraseIdxIfInBounds j = (its.eraseIdx j).toArray
    rw [List.eraseIdxIfInBounds_toArray]
  · have := len_erase xs j
    omega
def fRemove : LEff := fun l as => match as with
  | [d] => if SeqAt.shaped d && PyData.canLayAll0 l then (SeqAt.dataPlace l d).map fun j => (.none, l.eraseIdx j) else none
  | _ => none
theorem snd_remove : SndL c (rRemD c.K) fRemove := fun G H a l xs as vs o l' Q sg hH g rl ra e k => by
  unfold fRemove at e
  split at e
  · rename_i d
    split at e
    · rename_i hs
      rw [Bool.and_eq_true] at hs
      cases ej : SeqAt.dataPlace l d with
      | none =>
        rw [ej] at e
        cases e
      | some j =>
        rw [ej] at e
        cases e
        cases ra with
        | cons r1 r2 =>
          cases r2
          exact ⟨a, xs, l, _, d, j, rfl, rfl, hH, (rl.mono sg).dp hs.2, hs.2, (r1.mono sg).dp (shaped_lay hs.1), hs.1, ej, k _ _ .non (rl.erase j)⟩
    · cases e
  · cases e
end

/-! ### x[i] = v -/
def storeEff : Sl → D → D → Option Sl
  | .lst l, .int i, d => (ixN l.length i).map fun j => .lst (l.set j d)
  | .dct kvs, k, d => (key8 k).bind fun nk => if decide (kvs.length < 16777216) then some (.dct (putD kvs k d nk)) else none
  | _, _, _ => none
/-- a settled datum alone -/
def asVal : Out → Option D
  | .val d => some d
  | _ => none
def slAt (ρ : Fr) (i : Nat) : Option Sl := match ρ[i]? with
  | some (.lst l) => some (.lst l)
  | some (.dct l) => some (.dct l)
  | _ => none
theorem slAt_eq {ρ : Fr} {i : Nat} {x : Sl} (h : slAt ρ i = some x) : ρ[i]? = some x ∧ x.own = true := by
  unfold slAt at h
  split at h
  · rename_i l' e
    cases h
    exact ⟨e, rfl⟩
  · rename_i l' e
    cases h
    exact ⟨e, rfl⟩
  · cases h
theorem own_ref {w : World} {K : PySem.W.Frag} {Y : Sy} {wi : Y.W} {G H : Hp} {fp : Addr → Prop} {σ : L2.St} {ρ : Fr} {s : Y.S} (cfg : Cfg w K Y wi G H fp σ ρ s) {i : Nat} {x : Sl} (h : ρ[i]? = some x) (o : x.own = true) : ∃ a, σ[i]? = some (some (.ref a)) := by
  have sl := cfg.slot i x h
  cases x with
  | lst l =>
    obtain ⟨a, e, _⟩ := sl
    exact ⟨a, e⟩
  | dct l =>
    obtain ⟨a, e, _⟩ := sl
    exact ⟨a, e⟩
  | _ => cases o
/-- x[k] = v, x in slot i -/
def sPut {S : Type} (i : Nat) (mv mk : ME S) : MS S := fun ρ s => (mv ρ s).fl fun o ρ s => match slAt ρ i with
  | none => .bad
  | some _ => (mk ρ s).fl fun k ρ s => match (slAt ρ i).bind fun x => (asVal k).bind fun k => (asVal (frz o)).bind fun d => storeEff x k d with
    | some y => .nx (ρ.set i y) s
    | none => .bad
/-- x[k] op= v -/
def sPutAug {S : Type} (i : Nat) (f : D → D → Option Out) (mk mv : ME S) : MS S := fun ρ s => match slAt ρ i with
  | none => .bad
  | some _ => (mk ρ s).fl fun k ρ s => match (slAt ρ i).bind fun x => (asVal k).bind fun k => (rd ρ (.bor i)).bind fun d => (ixAll d k).bind fun o => (asVal o) with
    | none => .bad
    | some old => (mv ρ s).fl fun v ρ s => match (slAt ρ i).bind fun x => (asVal k).bind fun k => (rd ρ v).bind fun d => (f old d).bind fun o => (asVal o).bind fun new => storeEff x k new with
      | some y => .nx (ρ.set i y) s
      | none => .bad
section
variable {c : CC} {Y : Sy} {e ke : Expr} {mv mk : ME Y.S} {p p2 pos : Pos} {x : Str}
theorem rep_asVal {wi : Y.W} {H0 G H : Hp} {fp : Addr → Prop} {σ : L2.St} {ρ : Fr} {o : Out} {v : V} {d : D} (r : RepO c.w c.K Y wi H0 G H fp σ ρ o v) (h : asVal o = some d) : o = .val d ∧ Rep c.w c.K G d v := by
  cases o with
  | val d' =>
    cases h
    exact ⟨rfl, r⟩
  | _ => cases h
/-- the store itself -/
theorem store_imp {W : WX} {wi : Y.W} {G H : Hp} {fp : Addr → Prop} {σ : L2.St} {ρ : Fr} {s : Y.S} {E : Ends} {i : Nat} {z y : Sl} {k d : D} {kv dv : V} {a : Addr} (cfg : Cfg c.w c.K Y wi G H fp σ ρ s) (hz : ρ[i]? = some z) (oz : z.own = true) (ea : σ[i]? = some (some (.ref a)))
    (rk : Rep c.w c.K G k kv) (rd : Rep c.w c.K G d dv) (e : storeEff z k d = some y) (q : ContS c Y W wi G H fp σ ρ E (.nx (ρ.set i y) s)) : rSetL (.ref a) kv dv H (fun H2 => E.nx σ H2) ∨ rSetK c.w c.K (.ref a) kv dv H (fun H2 => E.nx σ H2) := by
  have sl := cfg.slot i z hz
  have own : ∀ {u : HO} {y' : Sl}, Kin z y' → SlOk c.w c.K (Y.hv wi) G (upd H a u) fp y' (some (some (.ref a))) → ContS c Y W wi G H fp σ ρ E (.nx (ρ.set i y') s) → E.nx σ (upd H a u) := fun kin ok q => by
    obtain ⟨cfg2, tr2, sim2⟩ := cfg.write hz oz ea kin ok
    exact q G _ fp σ cfg2 tr2 fun p o => .inl (sim2.ownI o)
  cases z with
  | lst l =>
    obtain ⟨b, eb, h1, h2, xs, h3, h4⟩ := sl
    rw [ea] at eb
    cases eb
    cases k with
    | int n =>
      have e : (ixN l.length n).map (fun j => Sl.lst (l.set j d)) = some y := e
      cases ej : ixN l.length n with
      | none =>
        rw [ej] at e
        cases e
      | some j =>
        rw [ej] at e
        cases e
        cases rk
        rw [h4.length] at ej
        exact .inl ⟨a, xs, n, j, rfl, rfl, h3, ej, own (y' := .lst (l.set j d)) trivial ⟨a, rfl, h1, h2, _, upd_same, h4.set rd j⟩ q⟩
    | _ => cases e
  | dct kvs =>
    obtain ⟨b, eb, h1, h2, h3⟩ := sl
    rw [ea] at eb
    cases eb
    have e : ((key8 k).bind fun nk => if decide (kvs.length < 16777216) then some (Sl.dct (putD kvs k d nk)) else none) = some y := by
      cases k <;> exact e
    cases ek : key8 k with
    | none =>
      rw [ek] at e
      cases e
    | some nk =>
      rw [ek, Option.bind_some] at e
      split at e
      · rename_i hl
        cases e
        refine .inr ⟨a, G, kvs, k, d, nk, rfl, cfg.sub, h3, rk, ek, rd, lt_line hl, fun es ep hx => ?_⟩
        obtain ⟨_, _, _, hsys, _⟩ := h3.dx
        exact own (y' := .dct (putD kvs k d nk)) trivial ⟨a, rfl, h1, h2, hx.at_ upd_same hsys⟩ q
      · cases e
  | _ => cases oz
theorem put_imp {W : WX} {i : Nat} {E : Ends} {σ : L2.St} {H : Hp} (h : tS c Y W (sPut i mv mk) E σ H) :
    tE c Y W mv σ H fun v H1 => (∃ a, σ[i]? = some (some (.ref a)) ∧ tE c Y W mk σ H1 fun kv H2 => rSetL (.ref a) kv v H2 (fun H3 => E.nx σ H3) ∨ rSetK c.w c.K (.ref a) kv v H2 fun H3 => E.nx σ H3) := by
  obtain ⟨wi, G, fp, ρ, s, cfg, k⟩ := h
  refine ⟨wi, G, fp, ρ, s, cfg, (Cont.bindS k).mono fun v H1 ⟨G1, fp1, ρ1, s1, o1, cfg1, sim1, tr1, r1, k1⟩ => ?_⟩
  obtain ⟨G2, cfg2, tr2, r2, _⟩ := frz_ok cfg1 tr1 r1
  have k2 := ContS.shift k1 tr2 fun p o => .inl (sim1.ownI o)
  dsimp only at k2
  cases eo : slAt ρ1 i with
  | none =>
    rw [eo] at k2
    exact k2.elim
  | some z0 =>
    rw [eo] at k2
    obtain ⟨hz0, oz0⟩ := slAt_eq eo
    obtain ⟨a, ea⟩ := own_ref cfg2 hz0 oz0
    refine ⟨a, ea, wi, G2, fp1, ρ1, s1, cfg2, (Cont.bindS k2).mono fun kv H3 ⟨G3, fp3, ρ3, s3, ok, cfg3, sim3, tr3, r3, k3⟩ => ?_⟩
    have k3 := ContS.shift k3 tr3 fun p o => .inl (sim3.ownI o)
    dsimp only at k3
    have r2 := r2.keep tr3 sim3
    cases e1 : slAt ρ3 i with
    | none =>
      rw [e1] at k3
      exact k3.elim
    | some z =>
      cases e2 : asVal ok with
      | none =>
        rw [e1, e2] at k3
        exact k3.elim
      | some kd =>
        cases e3 : asVal (frz o1) with
        | none =>
          rw [e1, e2, e3] at k3
          exact k3.elim
        | some d =>
          rw [e1, e2, e3] at k3
          dsimp only [Option.bind_some] at k3
          cases e4 : storeEff z kd d with
          | none =>
            rw [e4] at k3
            exact k3.elim
          | some y =>
            rw [e4] at k3
            obtain ⟨hz, oz⟩ := slAt_eq e1
            exact store_imp cfg3 hz oz ea (rep_asVal r3 e2).2 (rep_asVal r2 e3).2 e4 k3
theorem set_all {X : Cx} (hu : X.A.units + 9 < cLine) : PSet X fun o i v H Q => rSetL o i v H Q ∨ rSetK X.w X.K o i v H Q := fun pins s σ H o i v ov iv u Q I ro ri rv h =>
  h.elim (set_list pins s σ H o i v ov iv u Q I ro ri rv) (set_dK hu pins s σ H o i v ov iv u Q I ro ri rv)
theorem ds_put (i : Nat) (he : DE c Y e mv) (hk : DE c Y ke mk) (hN : c.N[i]? = some x := by rfl) (hv : Vis c.sc x := by first | exact Or.inl rfl | exact Or.inr (Or.inl rfl) | exact Or.inr (Or.inr rfl)) (hd : (x == ("__debug__" : Str)) = false := by decide) (hcd : (x == ("__classdict__" : Str)) = false := by decide)
    (hs : ∀ env, env.scope = c.sc → swapsWithSole [.Subscript (.Name x p) ke p2] e pos.line env = pure false := by intro _ _; rfl) (hw : ∀ env, env.scope = c.sc → swappedStores [.Subscript (.Name x p) ke p2] e env = pure none := by intro _ _; rfl)
    (ha : ∀ env v, assign (.Subscript (.Name x p) ke p2) env v = (do
      let ov ← holding [v] (eval (.Name x p) env)
      let iv ← holding [v, ov] (eval ke env)
      standAt p2
      holding [v, ov, iv] (setItem ov iv v)
      release [v, ov, iv] []) := by intro _ _; rfl) (h1 : ∀ env, (assignEach [.Subscript (.Name x p) ke p2] env).map (·.2) = [assign (.Subscript (.Name x p) ke p2) env] := by intro _; rfl) : DS c Y (.Assign [.Subscript (.Name x p) ke p2] e pos) (sPut i mv mk) := fun X W ic tk => by
  refine PS.imp (ps_asg (he X W ic tk) (pg_sub (pe_var (i := i) (by rw [ic.N]; exact hN) (by rw [ic.sc]; exact hv) hd hcd) (hk X W ic tk) (set_all ic.u9) (ha _)) (hs _ ic.sc) (hw _ ic.sc) (h1 _)) fun E σ H h => ?_
  obtain ⟨wi, G, fp, ρ, s, cfg, k⟩ := put_imp h
  refine ⟨wi, G, fp, ρ, s, cfg, k.mono fun v H1 ⟨a, ea, t⟩ => ⟨.ref a, ea, ?_⟩⟩
  rw [ic.w, ic.K]
  exact t
end
end Dy

set_option Elab.async false
set_option linter.all false
set_option maxRecDepth 100000
namespace Dy
open PySem PySem.Spec PyProof.Rows L2

section
variable {prog : Program} {w : World} {A : Around} {E : Value → Shared → Prop} {s : Shared}
/-- d.get(k), d.get(k, x) -/
theorem dgetm1 {d : Addr} {key : Value} {es : List DictEntry} {ep : Nat} {ks : List NestedKey} {k : NestedKey} {r : Option Nat} {Q : Value → Shared → Prop} (hu : A.units + 9 < cLine) (hd : (d == sysModules) = false) (hkey : NestedIs s.heap k key) (hk8 : k.depth ≤ 8)
    (ho : s.heap.get? d = some (dObj es ep)) (K : Kyd w s.heap ks es) (hr : IxK ks k r) (h : Q ((r.bind fun j => es[j]?.map (·.val)).getD .none) { s with toks := s.toks + k.draws }) : wpAny (model prog w) A (call (.builtin "dict.get") [.ref d, key]) Q E s := by
  refine call_meetsIn F.slot_dict_get (dTy ho) F.entry_dict_get (F.args_dict_get_2 _ _) (S := fun A' R s' => A' = A ∧ s' = s ∧ R (.ok (.ret ((r.bind fun j => es[j]?.map (·.val)).getD .none))) { s with toks := s.toks + k.draws }) (.of_wp fun A' R s' hS => ?_) ⟨rfl, rfl, h⟩
  obtain ⟨rfl, rfl, q⟩ := hS
  show wpAny _ _ (dictGet d key >>= _) _ _ _
  refine wpAny_bind (dget (by simp only [Around.in1_units]; omega) hkey hk8 ho K hr ?_)
  cases hv : (r.bind fun j => es[j]?.map (·.val)) with
  | some v =>
    rw [hv] at q
    exact wpAny_pure ⟨v, rfl, q⟩
  | none =>
    rw [hv] at q
    show wpAny _ _ (Builtin.Dict.missed d key >>= _) _ _ _
    exact wpAny_bind (wpAny_missed_other hd (wpAny_pure ⟨.none, rfl, q⟩))
theorem dgetm2 {d : Addr} {key dflt : Value} {es : List DictEntry} {ep : Nat} {ks : List NestedKey} {k : NestedKey} {r : Option Nat} {Q : Value → Shared → Prop} (hu : A.units + 9 < cLine) (hd : (d == sysModules) = false) (hkey : NestedIs s.heap k key) (hk8 : k.depth ≤ 8)
    (ho : s.heap.get? d = some (dObj es ep)) (K : Kyd w s.heap ks es) (hr : IxK ks k r) (h : Q ((r.bind fun j => es[j]?.map (·.val)).getD dflt) { s with toks := s.toks + k.draws }) : wpAny (model prog w) A (call (.builtin "dict.get") [.ref d, key, dflt]) Q E s := by
  refine call_meetsIn F.slot_dict_get (dTy ho) F.entry_dict_get (F.args_dict_get_3 _ _ _) (S := fun A' R s' => A' = A ∧ s' = s ∧ R (.ok (.ret ((r.bind fun j => es[j]?.map (·.val)).getD dflt))) { s with toks := s.toks + k.draws }) (.of_wp fun A' R s' hS => ?_) ⟨rfl, rfl, h⟩
  obtain ⟨rfl, rfl, q⟩ := hS
  show wpAny _ _ (dictGet d key >>= _) _ _ _
  refine wpAny_bind (dget (by simp only [Around.in1_units]; omega) hkey hk8 ho K hr ?_)
  cases hv : (r.bind fun j => es[j]?.map (·.val)) with
  | some v =>
    rw [hv] at q
    exact wpAny_pure ⟨v, rfl, q⟩
  | none =>
    rw [hv] at q
    show wpAny _ _ (Builtin.Dict.missed d key >>= _) _ _ _
    exact wpAny_bind (wpAny_missed_other hd (wpAny_pure ⟨dflt, rfl, q⟩))
end

/-! ### dict methods -/
abbrev DEff := List DEnt → List D → Option (D × List DEnt)
/-- get, setdefault, pop with a default -/
def rDctM (w : World) (K : PySem.W.Frag) (f : DEff) : V → List V → Hp → VK → Prop := fun x vs H Q => ∃ a G kvs as o kvs', x = .ref a ∧ Same G H ∧ DctAt w K H G a kvs ∧ RepA w K G as vs ∧ f kvs as = some (o, kvs') ∧
  ∀ v H', Rep w K G o v → ((H' = H ∧ kvs' = kvs) ∨ ∃ es ep, H' = upd H a (.ext (IsO a (dObj es ep))) ∧ DX w K G kvs' es) → Q v H'
def fGet1 : DEff := fun kvs as => match as with
  | [k] => (key8 k).map fun nk => ((lookD kvs nk).getD .none, kvs)
  | _ => none
def fGet2 : DEff := fun kvs as => match as with
  | [k, d] => (key8 k).map fun nk => ((lookD kvs nk).getD d, kvs)
  | _ => none
def fSetd : DEff := fun kvs as => match as with
  | [k, d] => (key8 k).bind fun nk => if decide (kvs.length < 16777216) then some (match lookD kvs nk with
    | some v => (v, kvs)
    | none => (d, kvs ++ [(k, d)])) else none
  | _ => none
def fDPop : DEff := fun kvs as => match as with
  | [k, d] => (key8 k).map fun nk => match lookD kvs nk with
    | some v => (v, delD kvs nk)
    | none => (d, kvs)
  | _ => none
section
variable {X : Cx} {c : CC} {Y : Sy} {e : Expr} {es : List Expr} {ma : MA Y.S} {apos cpos p : Pos} {x name : Str} {id : String} {f : DEff}
theorem look_none {kvs : List DEnt} {nks : List NestedKey} {nk : NestedKey} (en : (kvs.map fun p => keyOf p.1) = nks.map some) (h : lookD kvs nk = none) : kix kvs nk = none := by
  unfold lookD at h
  cases e : kix kvs nk with
  | none => rfl
  | some j =>
    rw [e] at h
    have k := kix_ok (nk := nk) en
    rw [e] at k
    have h : (kvs[j]?).map (·.2) = none := h
    have hj : j < nks.length := (List.getElem?_eq_some_iff.mp k).1
    have hl : kvs.length = nks.length := by
      have := congrArg List.length en
      simpa using this
    rw [List.getElem?_eq_getElem (by omega)] at h
    cases h
/-- the reading of an entry's value -/
theorem look_val {w : World} {K : PySem.W.Frag} {G : Hp} {h : Heap} {kvs : List DEnt} {es : List DictEntry} {nks : List NestedKey} {nk : NestedKey} {z : D} {dv : V} {u : Value} (x : DX w K G kvs es) (en : (kvs.map fun p => keyOf p.1) = nks.map some) (Ky : Kyd w h nks es) (rz : Rep w K G z dv) (ru : RelV dv u) :
    ∃ v, RelV v (((kix kvs nk).bind fun j => es[j]?.map (·.val)).getD u) ∧ Rep w K G ((lookD kvs nk).getD z) v := by
  cases hl : lookD kvs nk with
  | none =>
    rw [look_none en hl]
    exact ⟨dv, ru, rz⟩
  | some d =>
    obtain ⟨j, p, e1, e2, rfl⟩ := look_at hl
    have kx := kix_ok (nk := nk) en
    rw [e1] at kx ⊢
    obtain ⟨e, he, _⟩ := Ky.of_key kx
    obtain ⟨p', y, e3, ry, rp⟩ := x.val he
    rw [e2] at e3
    cases e3
    rw [Option.bind_some, he]
    exact ⟨y, ry, rp⟩
theorem mt_dget1 (hu : X.A.units + 9 < cLine) : MtR X "dict.get" (rDctM X.w X.K fGet1) := by
  intro pins s σ H x vs v us Q I rx rv h
  obtain ⟨a, G, kvs, as, o, kvs', rfl, sg, hd, ra, ef, q⟩ := h
  cases rx
  unfold fGet1 at ef
  split at ef
  · rename_i k
    cases ek : key8 k with
    | none =>
      rw [ek] at ef
      cases ef
    | some nk =>
      rw [ek] at ef
      cases ef
      cases ra with
      | cons rk r2 =>
        cases r2
        obtain ⟨u, rfl, ru⟩ := rv.one
        obtain ⟨es, ep, h1, h2, x⟩ := hd.dx
        obtain ⟨hk1, hk8⟩ := key8_ok ek
        obtain ⟨nks, en, Ky⟩ := x.kyd sg I
        obtain ⟨y, ry, rp⟩ := look_val (nk := nk) x en Ky (.non (w := X.w) (K := X.K) (G := G)) (show RelV .non .none from rfl)
        exact dgetm1 hu h2 (rep_key I (rk.mono sg) ru hk1) hk8 (isO_at I h1) Ky (kix_ok en) ⟨y, H, I.tok _, ry, q y H rp (.inl ⟨rfl, rfl⟩)⟩
  · cases ef
theorem mt_dget2 (hu : X.A.units + 9 < cLine) : MtR X "dict.get" (rDctM X.w X.K fGet2) := by
  intro pins s σ H x vs v us Q I rx rv h
  obtain ⟨a, G, kvs, as, o, kvs', rfl, sg, hd, ra, ef, q⟩ := h
  cases rx
  unfold fGet2 at ef
  split at ef
  · rename_i k d
    cases ek : key8 k with
    | none =>
      rw [ek] at ef
      cases ef
    | some nk =>
      rw [ek] at ef
      cases ef
      cases ra with
      | cons rk r2 =>
        cases r2 with
        | cons rd r3 =>
          cases r3
          obtain ⟨u, u2, rfl, ru, ru2⟩ := rv.two
          obtain ⟨es, ep, h1, h2, x⟩ := hd.dx
          obtain ⟨hk1, hk8⟩ := key8_ok ek
          obtain ⟨nks, en, Ky⟩ := x.kyd sg I
          obtain ⟨y, ry, rp⟩ := look_val (nk := nk) x en Ky rd ru2
          exact dgetm2 hu h2 (rep_key I (rk.mono sg) ru hk1) hk8 (isO_at I h1) Ky (kix_ok en) ⟨y, H, I.tok _, ry, q y H rp (.inl ⟨rfl, rfl⟩)⟩
  · cases ef
theorem mt_dsetd (hu : X.A.units + 9 < cLine) : MtR X "dict.setdefault" (rDctM X.w X.K fSetd) := by
  intro pins s σ H x vs v us Q I rx rv h
  obtain ⟨a, G, kvs, as, o, kvs', rfl, sg, hd, ra, ef, q⟩ := h
  cases rx
  unfold fSetd at ef
  split at ef
  · rename_i k d
    cases ek : key8 k with
    | none =>
      rw [ek] at ef
      cases ef
    | some nk =>
      rw [ek, Option.bind_some] at ef
      split at ef
      · rename_i hz
        cases ra with
        | cons rk r2 =>
          cases r2 with
          | cons rd r3 =>
            cases r3
            obtain ⟨u, u2, rfl, ru, ru2⟩ := rv.two
            obtain ⟨es, ep, h1, h2, x⟩ := hd.dx
            obtain ⟨hk1, hk8⟩ := key8_ok ek
            obtain ⟨nks, en, Ky⟩ := x.kyd sg I
            refine dsetdefault hu h2 (rep_key I (rk.mono sg) ru hk1) hk8 (isO_at I h1) Ky (kix_ok en) (by have := lt_line hz; rw [x.len]; omega) (fun j e ej he => ?_) fun en2 h' ho' hs' => ?_
            · obtain ⟨p', y, e3, ry, rp⟩ := x.val he
              have el : lookD kvs nk = some p'.2 := by
                unfold lookD
                rw [ej, Option.bind_some, e3]
                rfl
              rw [el] at ef
              cases ef
              exact ⟨y, H, I.tok _, ry, q y H rp (.inl ⟨rfl, rfl⟩)⟩
            · have el : lookD kvs nk = none := by
                unfold lookD
                rw [en2]
                rfl
              rw [el] at ef
              cases ef
              have hx := x.put (ep := ep) hk1 hk8 rk ru rd ru2 (lt_line hz)
              unfold putD putE at hx
              rw [en2] at hx
              exact ⟨_, _, isO_write I h1 hs' ho', ru2, q _ _ rd (.inr ⟨_, _, rfl, hx⟩)⟩
      · cases ef
  · cases ef
theorem mt_dpop (hu : X.A.units + 9 < cLine) : MtR X "dict.pop" (rDctM X.w X.K fDPop) := by
  intro pins s σ H x vs v us Q I rx rv h
  obtain ⟨a, G, kvs, as, o, kvs', rfl, sg, hd, ra, ef, q⟩ := h
  cases rx
  unfold fDPop at ef
  split at ef
  · rename_i k d
    cases ek : key8 k with
    | none =>
      rw [ek] at ef
      cases ef
    | some nk =>
      rw [ek] at ef
      have ef : some (match lookD kvs nk with
        | some v => (v, delD kvs nk)
        | none => (d, kvs)) = some (o, kvs') := ef
      cases ra with
      | cons rk r2 =>
        cases r2 with
        | cons rd r3 =>
          cases r3
          obtain ⟨u, u2, rfl, ru, ru2⟩ := rv.two
          obtain ⟨es, ep, h1, h2, x⟩ := hd.dx
          obtain ⟨hk1, hk8⟩ := key8_ok ek
          obtain ⟨nks, en, Ky⟩ := x.kyd sg I
          refine dpop2 hu h2 (rep_key I (rk.mono sg) ru hk1) hk8 (isO_at I h1) Ky (kix_ok en) (by rw [x.len]; exact x.1) (fun j e ej he h' ho' hs' => ?_) fun en2 t => ?_
          · obtain ⟨p', y, e3, ry, rp⟩ := x.val he
            have el : lookD kvs nk = some p'.2 := by
              unfold lookD
              rw [ej, Option.bind_some, e3]
              rfl
            have ed : delD kvs nk = kvs.eraseIdx j := by
              unfold delD
              rw [ej]
            rw [el, ed] at ef
            cases ef
            exact ⟨y, _, isO_write I h1 hs' ho', ry, q _ _ rp (.inr ⟨_, _, rfl, x.erase j⟩)⟩
          · have el : lookD kvs nk = none := by
              unfold lookD
              rw [en2]
              rfl
            rw [el] at ef
            cases ef
            exact ⟨_, H, I.tok _, ru2, q _ H rd (.inl ⟨rfl, rfl⟩)⟩
  · cases ef
/-- a method of a dict, by values -/
theorem pe_dm {o : Expr} {to : TE} {t : TA} {r : V → List V → Hp → VK → Prop} (slot : Slot "dict" name id) (hty : typeOf (.builtin id) = pure (.type "method_descriptor")) (hm : MtR X id r) (ho : PE X o to) (ha : PA X (e :: es) t)
    (hbase : attributeBase o name X.env (eval o X.env) = eval o X.env)
    (hfew : ((backTo cpos (starEach (e :: es) X.env)).all (fun x => !x.1) && (backToKw cpos (keywordEach [] X.env)).all (fun x => x.1.isSome)
      && decide ((e :: es).length + ([] : List Keyword).length + (if ([] : List Keyword).isEmpty then 0 else 1) < 30)) = true)
    (hline : (apos.endLine == cpos.line) = true) (hs : starEach (e :: es) X.env = (false, eval e X.env) :: starEach es X.env) (hplain : (backTo cpos (starEach es X.env)).any (·.1) = false) :
    PE X (.Call (.Attribute o name apos) (e :: es) [] cpos) fun σ H Q => to σ H fun x H1 => (∃ a es ep, x = .ref a ∧ H1 a = some (.ext (IsO a (dObj es ep)))) ∧ t σ H1 fun xs H2 => r x xs H2 Q := by
  refine ⟨fun pins s σ H Q I h => ?_⟩
  refine wpAny_Call_method_late hbase hfew hline rfl (thn (ho.run pins s σ H _ I h) fun v s1 ⟨x, H1, I1, r1, ⟨a, es', ep, hx, ha1⟩, q1⟩ => ?_)
  subst hx
  cases r1
  have hg := isO_at I1 ha1
  refine ⟨"dict", id, F.plainAttrs_dict, slot, hty, dTy hg, fun b e => ?_, ?_⟩
  · cases e
    exact ⟨_, hg, rfl⟩
  have hA := ha.run cpos pins s1 σ H1 _ I1 q1
  rw [hs] at hA ⊢
  refine Calls.callWith_builtin (by show (false || (backTo cpos (starEach es X.env)).any (·.1)) = false; rw [hplain] <;> rfl) (Calls.evalArgs_plain ?_)
  exact thn hA fun us s2 ⟨vs, H2, I2, r2, q2⟩ => hm pins s2 σ H2 (.ref a) vs (.ref a) us Q I2 rfl r2 q2

def eMutD {S : Type} (i : Nat) (f : DEff) (ma : MA S) : ME S := fun ρ s => match dctAt ρ i with
  | none => .bad
  | some _ => (ma ρ s).bind fun os ρ s => match (dctAt ρ i).bind fun l => (vals os).bind (f l) with
    | some (o, l') => .ok (.val o) (ρ.set i (.dct l')) s
    | none => .bad
theorem mutD_imp {W : WX} {i : Nat} {σ : L2.St} {H : Hp} {Q : VK} (h : tE c Y W (eMutD i f ma) σ H Q) : ∃ a es ep, σ[i]? = some (some (.ref a)) ∧ H a = some (.ext (IsO a (dObj es ep))) ∧ tA c Y W ma σ H fun vs H2 => rDctM c.w c.K f (.ref a) vs H2 Q := by
  obtain ⟨wi, G, fp, ρ, s, cfg, k⟩ := h
  unfold eMutD at k
  cases el : dctAt ρ i with
  | none =>
    rw [el] at k
    exact k.elim
  | some l0 =>
    rw [el] at k
    obtain ⟨a, ea, g1, g2, hd⟩ := cfg.slot i _ (dctAt_eq el)
    obtain ⟨es, ep, hH, _⟩ := hd.dx
    refine ⟨a, es, ep, ea, hH, wi, G, fp, ρ, s, cfg, (Cont.bindL k).mono fun vs H1 ⟨G1, fp1, ρ1, s1, os, cfg1, sim1, tr1, r1, k1⟩ => ?_⟩
    have k1 := k1.shift early_O tr1 sim1
    dsimp only at k1
    cases el1 : dctAt ρ1 i with
    | none =>
      rw [el1] at k1
      exact k1.elim
    | some l =>
      cases ev : vals os with
      | none =>
        rw [el1, ev] at k1
        exact k1.elim
      | some as =>
        rw [el1, ev] at k1
        dsimp only [Option.bind_some] at k1
        cases ef : f l as with
        | none =>
          rw [ef] at k1
          exact k1.elim
        | some z =>
          obtain ⟨o, l'⟩ := z
          rw [ef] at k1
          obtain ⟨a1, ea1, q1, q2, hd1⟩ := cfg1.slot i _ (dctAt_eq el1)
          rw [ea] at ea1
          cases ea1
          obtain ⟨es1, ep1, hH1, hsys, _⟩ := hd1.dx
          refine ⟨a, G1, l, as, o, l', rfl, cfg1.sub, hd1, vals_rep r1 ev, ef, fun v H' rv hh => ?_⟩
          rcases hh with ⟨rfl, rfl⟩ | ⟨es', ep', rfl, hx⟩
          · have e0 : upd H' a (.ext (IsO a (dObj es1 ep1))) = H' := funext fun b => by
              by_cases eb : b = a
              · rw [eb, upd_same, hH1]
              · rw [upd_ne eb]
            obtain ⟨cfg2, tr2, sim2⟩ := cfg1.write (dctAt_eq el1) rfl ea (y := .dct l') trivial (u := .ext (IsO a (dObj es1 ep1))) ⟨a, rfl, q1, q2, by rw [e0]; exact hd1⟩
            rw [e0] at cfg2 tr2
            exact k1 G1 _ fp1 v cfg2 sim2 tr2 rv
          · obtain ⟨cfg2, tr2, sim2⟩ := cfg1.write (dctAt_eq el1) rfl ea (y := .dct l') trivial (u := .ext (IsO a (dObj es' ep'))) ⟨a, rfl, q1, q2, hx.at_ upd_same hsys⟩
            exact k1 G1 _ fp1 v cfg2 sim2 tr2 rv
theorem de_mutD (i : Nat) (hm : ∀ X, InC c X → MtR X id (rDctM c.w c.K f)) (ha : DA c Y (e :: es) ma) (hN : c.N[i]? = some x) (slot : Slot "dict" name id) (hty : typeOf (.builtin id) = pure (.type "method_descriptor"))
    (hv : Vis c.sc x := by first | exact Or.inl rfl | exact Or.inr (Or.inl rfl) | exact Or.inr (Or.inr rfl)) (hd : (x == ("__debug__" : Str)) = false := by decide) (hcd : (x == ("__classdict__" : Str)) = false := by decide)
    (hbase : ∀ env, attributeBase (.Name x p) name env (eval (.Name x p) env) = eval (.Name x p) env := by intro _; rfl)
    (hfew : ∀ env, ((backTo cpos (starEach (e :: es) env)).all (fun x => !x.1) && (backToKw cpos (keywordEach [] env)).all (fun x => x.1.isSome)
      && decide ((e :: es).length + ([] : List Keyword).length + (if ([] : List Keyword).isEmpty then 0 else 1) < 30)) = true := by intro _; rfl)
    (hline : (apos.endLine == cpos.line) = true := by rfl) (hst : ∀ env, starEach (e :: es) env = (false, eval e env) :: starEach es env := by intro _; rfl) (hplain : ∀ env, (backTo cpos (starEach es env)).any (·.1) = false := by intro _; rfl) :
    DE c Y (.Call (.Attribute (.Name x p) name apos) (e :: es) [] cpos) (eMutD i f ma) := fun X W ic tk => by
  refine PE.imp (pe_dm slot hty (hm X ic) (pe_var (i := i) (by rw [ic.N]; exact hN) (by rw [ic.sc]; exact hv) hd hcd) (ha X W ic tk) (hbase _) (hfew _) hline (hst _) (hplain _)) fun σ H Q h => ?_
  obtain ⟨a, es', ep, ea, hq, t⟩ := mutD_imp h
  exact ⟨.ref a, ea, ⟨a, es', ep, rfl, hq⟩, t⟩
theorem hm_get1 (X : Cx) (ic : InC c X) : MtR X "dict.get" (rDctM c.w c.K fGet1) := by
  rw [← ic.w, ← ic.K]
  exact mt_dget1 ic.u9
theorem hm_get2 (X : Cx) (ic : InC c X) : MtR X "dict.get" (rDctM c.w c.K fGet2) := by
  rw [← ic.w, ← ic.K]
  exact mt_dget2 ic.u9
theorem hm_setd (X : Cx) (ic : InC c X) : MtR X "dict.setdefault" (rDctM c.w c.K fSetd) := by
  rw [← ic.w, ← ic.K]
  exact mt_dsetd ic.u9
theorem hm_dpop (X : Cx) (ic : InC c X) : MtR X "dict.pop" (rDctM c.w c.K fDPop) := by
  rw [← ic.w, ← ic.K]
  exact mt_dpop ic.u9
end
end Dy

set_option Elab.async false
set_option linter.all false
set_option maxRecDepth 100000
namespace Dy
open PySem PySem.Spec PyProof.Rows L2

/-! ### displays of dicts -/
def eNewD {S : Type} : ME S := fun ρ s => .ok (.newd []) ρ s
def eDct1 {S : Type} (mk mv : ME S) : ME S := fun ρ s => (aCons mk (aCons mv aNil) ρ s).bind fun os ρ s => .of ((vals os).bind fun l => match l with
  | [k, v] => (key8 k).map fun nk => Out.newd (putD [] k v nk)
  | _ => none) ρ s
theorem dx_nil {w : World} {K : PySem.W.Frag} {G : Hp} : DX w K G [] [] := ⟨Nat.zero_le _, List.nodup_nil, [], [], .nil, .nil, .nil⟩
section
variable {c : CC} {Y : Sy} {e ke : Expr} {me mv mk : ME Y.S} {p p2 pos : Pos} {x : Str} {W : WX} {wi : Y.W} {G H H0 : Hp} {fp : Addr → Prop} {σ : L2.St} {ρ : Fr} {s : Y.S}
theorem new_isO {X : Cx} {pins : List (Addr × Obj)} {s : Shared} (I : L2.Inv X pins σ H s) : L2.Inv X pins σ (upd H s.heap.objs.size (.ext (IsO s.heap.objs.size (dObj [] 0)))) { s with heap := s.heap.push { cls := .type "dict", data := .dict #[] } } :=
  I.laid (a := s.heap.objs.size) (t' := s.toks) (fun _ _ q => Heap.get?_push_of_some _ q) (Nat.le_refl _) (have q := Heap.get?_push_size s.heap (o := dObj [] 0) rfl; ⟨q, ⟨_, q⟩, fun h1 h2 p k => k _ p⟩)
theorem sys_ne {X : Cx} {pins : List (Addr × Obj)} {s : Shared} (I : L2.Inv X pins σ H s) : (s.heap.objs.size == sysModules) = false := beq_eq_false_iff_ne.mpr (Ne.symm (Nat.ne_of_lt I.big))
theorem de_dict0 : DE c Y (.Dict [] [] pos) (eNewD : ME Y.S) := fun X W ic tk => ⟨fun pins s σ H Q I h => by
  obtain ⟨wi, G, fp, ρ, s0, cfg, k⟩ := h
  have hp := I.hok.fresh (Nat.le_refl s.heap.objs.size)
  have f := cfg.free hp
  refine wpAny_Dict_empty ⟨.ref s.heap.objs.size, _, new_isO I, rfl, ?_⟩
  exact k G _ fp _ (cfg.laid hp) (Sim.refl ρ) (Tr.refl.laid hp) ⟨_, rfl, hp, f.1, f.2.1, f.2.2, dx_nil.at_ upd_same (sys_ne I)⟩⟩
/-- {k: v}, by values -/
def tDOne (w : World) (K : PySem.W.Frag) (tk tv : TE) : TE := fun σ H Q => ∀ p, H p = none → (p == sysModules) = false → tk σ (upd H p (.ext (IsO p (dObj [] 0)))) fun x H1 => tv σ H1 fun y H2 => H2 p = some (.ext (IsO p (dObj [] 0))) ∧
  ∃ G k d nk, Same G H2 ∧ Rep w K G k x ∧ key8 k = some nk ∧ Rep w K G d y ∧ ∀ es ep, DX w K G (putD [] k d nk) es → Q (.ref p) (upd H2 p (.ext (IsO p (dObj es ep))))
theorem pe_dOne {X : Cx} {k v : Expr} {tk tv : TE} (hu : X.A.units + 9 < cLine) (hk : PE X k tk) (hv : PE X v tv) : PE X (.Dict [some k] [v] pos) (tDOne X.w X.K tk tv) := by
  refine ⟨fun pins s σ H Q I h => ?_⟩
  have hp := I.hok.fresh (Nat.le_refl s.heap.objs.size)
  rw [arm_eval_Dict, zip_pairTrees [some k] [v] X.env pos rfl rfl, dictDisplay_pairs (pairTrees [some k] [v] X.env pos) (fun e => by cases e) (show 1 < 17 by decide)]
  refine wpAny_bind (wpAny_standAt (wpAny_bind ?_))
  unfold subDict
  refine wpAny_bind (wpAny_alloc ?_)
  refine wpAny_bind (wpAny_holding ?_)
  rw [if_pos (by rw [pairTrees_length [some k] [v] X.env pos rfl rfl]; exact Nat.le_of_ble_eq_true rfl)]
  refine wpAny_bind (pairTrees_cons_walk (thn (hk.run pins _ σ _ _ (new_isO I) (h _ hp (sys_ne I))) fun u s1 ⟨x, H1, I1, rx, q1⟩ => thn (hv.run pins s1 σ H1 _ I1 q1) fun w2 s2 ⟨y, H2, I2, ry, hpp, G, kd, d, nk, sg, rk, ek, rd, q2⟩ => pairTrees_nil_walk ?_))
  refine wpAny_holding ?_
  show wpAny _ _ (forIn [(u, w2)] PUnit.unit _ >>= _) _ _ _
  obtain ⟨hk1, hk8⟩ := key8_ok ek
  refine wpAny_bind ?_
  rw [List.forIn_cons]
  refine wpAny_bind (wpAny_bind (dset (w := X.w) (ks := []) (r := none) (by omega) (rep_key I2 (rk.mono sg) rx hk1) hk8 (isO_at I2 hpp) ⟨rfl, fun i e k h => (by simp at h), List.nodup_nil⟩ (fun j h => by simp at h) (Nat.zero_le _) fun h' ho' hs' => ?_))
  refine wpAny_pure ?_
  dsimp only
  rw [List.forIn_nil]
  refine wpAny_pure (wpAny_pure (wpAny_pure (wpAny_pure ?_)))
  have hx := (dx_nil (w := X.w) (K := X.K) (G := G)).put (ep := 0) hk1 hk8 rk rx rd ry (by rw [sizeLine_eq]; decide)
  exact ⟨.ref s.heap.objs.size, _, isO_write I2 hpp hs' ho', rfl, q2 _ _ hx⟩
theorem acons_imp {ma : ME Y.S} {mr : MA Y.S} {Q : List V → Hp → Prop} (h : tA c Y W (aCons ma mr) σ H Q) : tE c Y W ma σ H fun x H1 => tA c Y W mr σ H1 fun xs H2 => Q (x :: xs) H2 := by
  obtain ⟨wi, G, fp, ρ, s, cfg, k⟩ := h
  refine ⟨wi, G, fp, ρ, s, cfg, (Cont.bindL k).mono fun x H1 ⟨G1, fp1, ρ1, s1, o1, cfg1, sim1, tr1, r1, k1⟩ => ?_⟩
  obtain ⟨G2, cfg2, tr2, r2, gg⟩ := frz_ok cfg1 tr1 r1
  refine ⟨wi, G2, fp1, ρ1, s1, cfg2, (Cont.bindL (k1.shift early_A tr2 sim1)).mono fun xs H3 ⟨G3, fp3, ρ3, s3, os, cfg3, sim3, tr3, r3, k3⟩ => ?_⟩
  exact k3 G3 H3 fp3 _ cfg3 sim3 tr3 (.cons ((frz_any r2).keep tr3 sim3) r3)
theorem anil_imp {Q : List V → Hp → Prop} (h : tA c Y W aNil σ H Q) : Q [] H := by
  obtain ⟨wi, G, fp, ρ, s, cfg, k⟩ := h
  exact k G H fp [] cfg (Sim.refl ρ) Tr.refl .nil
theorem de_dict1 (hk : DE c Y ke mk) (hv : DE c Y e mv) : DE c Y (.Dict [some ke] [e] pos) (eDct1 mk mv) := fun X W ic tk => by
  refine PE.imp (pe_dOne ic.u9 (hk X W ic tk) (hv X W ic tk)) fun σ H Q h p hp hsys => ?_
  obtain ⟨wi, G, fp, ρ, s, cfg, k⟩ := h
  have f := cfg.free hp
  have cfg0 : Cfg c.w c.K Y wi G (upd H p (.ext (IsO p (dObj [] 0)))) fp σ ρ s := cfg.laid hp
  have tr0 : Tr G H fp (Own σ ρ) G (upd H p (.ext (IsO p (dObj [] 0)))) fp := Tr.refl.laid hp
  have r0 : RepO c.w c.K Y wi H G (upd H p (.ext (IsO p (dObj [] 0)))) fp σ ρ (.newd []) (.ref p) := ⟨p, rfl, hp, f.1, f.2.1, f.2.2, dx_nil.at_ upd_same hsys⟩
  -- the whole from the start, behind the arguments
  have k1 : Cont c Y W (relA c Y wi) wi G (upd H p (.ext (IsO p (dObj [] 0)))) fp σ ρ (fun vs H2 => ∃ x y, vs = [x, y] ∧ H2 p = some (.ext (IsO p (dObj [] 0))) ∧ ∃ G k d nk, Same G H2 ∧ Rep X.w X.K G k x ∧ key8 k = some nk ∧ Rep X.w X.K G d y ∧ ∀ es ep, DX X.w X.K G (putD [] k d nk) es → Q (.ref p) (upd H2 p (.ext (IsO p (dObj es ep))))) (aCons mk (aCons mv aNil) ρ s) := by
    rw [ic.w, ic.K]
    unfold eDct1 at k
    cases hr : aCons mk (aCons mv aNil) ρ s with
    | bad =>
      rw [hr] at k
      exact k.elim
    | ex ee ρ' s' =>
      rw [hr] at k
      exact fun G' H' fp' cls dd h1 h2 h3 h4 => k G' H' fp' cls dd h1 h2 (tr0.trans h3 fun p o => .inl o) h4
    | ok os ρ3 s3 =>
      rw [hr] at k
      intro G4 H4 fp4 vs cfg4 sim4 tr4 r4
      obtain ⟨o, eo, k6⟩ := of_some k
      obtain ⟨q0, eq0, _, h1, h2, h3, h4⟩ := r0.keep tr4 sim4
      cases eq0
      cases ev : vals os with
      | none =>
        rw [ev] at eo
        cases eo
      | some l =>
        rw [ev, Option.bind_some] at eo
        have ra := vals_rep r4 ev
        split at eo
        · rename_i kd d
          cases e3 : key8 kd with
          | none =>
            rw [e3] at eo
            cases eo
          | some nk =>
            rw [e3] at eo
            cases eo
            cases ra with
            | cons ra1 ra2 =>
              cases ra2 with
              | cons ra2 ra3 =>
                cases ra3
                refine ⟨_, _, rfl, tr4.oth p _ upd_same f.2.1 f.2.2, G4, kd, d, nk, cfg4.sub, ra1, e3, ra2, fun es ep hx => ?_⟩
                exact k6 G4 _ fp4 _ (cfg4.apart h1 h2 h3) sim4 ((tr0.trans tr4 fun p o => .inl o).apart hp) ⟨p, rfl, hp, h1, h2, h3, hx.at_ upd_same hsys⟩
        · cases eo
  have h2 := acons_imp (⟨wi, G, fp, ρ, s, cfg0, k1⟩ : tA c Y W (aCons mk (aCons mv aNil)) σ _ _)
  obtain ⟨wi, G, fp, ρ, s, cfg, k⟩ := h2
  refine ⟨wi, G, fp, ρ, s, cfg, k.mono fun x H1 h3 => ?_⟩
  have h3 := acons_imp h3
  obtain ⟨wi, G, fp, ρ, s, cfg, k⟩ := h3
  refine ⟨wi, G, fp, ρ, s, cfg, k.mono fun y H2 h4 => ?_⟩
  obtain ⟨x', y', e1, q⟩ := anil_imp h4
  cases e1
  exact q

/-! ### a thing of the frame's own is settled -/
def settle (i : Nat) (ρ : Fr) : Fr := match ρ[i]? with
  | some (.lst l) => ρ.set i (.val (.list l))
  | some (.dct l) => ρ.set i (.val (.dict l))
  | _ => ρ
def sFrz {S : Type} (i : Nat) (m : MS S) : MS S := fun ρ s => m (settle i ρ) s
theorem settle_ok (cfg : Cfg c.w c.K Y wi G H fp σ ρ s) (i : Nat) : ∃ G1, Cfg c.w c.K Y wi G1 H fp σ (settle i ρ) s ∧ Tr G H fp (Own σ ρ) G1 H fp ∧ ∀ p, Own σ (settle i ρ) p → Own σ ρ p := by
  have go : ∀ (x : Sl) (a : Addr) (u : HO) (d : D), ρ[i]? = some x → x.own = true → σ[i]? = some (some (.ref a)) → G a = none → ¬ fp a → H a = some u → Rep c.w c.K (upd G a u) d (.ref a) →
      ∃ G1, Cfg c.w c.K Y wi G1 H fp σ (ρ.set i (.val d)) s ∧ Tr G H fp (Own σ ρ) G1 H fp ∧ ∀ p, Own σ (ρ.set i (.val d)) p → Own σ ρ p := by
    intro x a u d hx ox ea hg hf hu rp
    have no : ¬ Own σ (ρ.set i .non) a := fun ⟨j, y, hy, oy, ey⟩ => by
      by_cases hj : i = j
      · subst hj
        rw [List.getElem?_set, if_pos rfl] at hy
        split at hy
        · cases hy
          cases oy
        · cases hy
      · rw [List.getElem?_set_ne hj] at hy
        exact hj (cfg.dis i j a x y hx hy ox oy ea ey)
    have c1 := (cfg.drop i).grow hu hg hf no
    have c2 := c1.put i (x := .val d) (v := .ref a) ⟨_, rfl, rp⟩ (fun z => by cases z)
    have e1 : (ρ.set i .non).set i (.val d) = ρ.set i (.val d) := by rw [List.set_set]
    have e2 : σ.set i (some (.ref a)) = σ := by
      refine List.ext_getElem? fun k => ?_
      by_cases hk : i = k
      · subst hk
        rw [List.getElem?_set, if_pos rfl, ea]
        split
        · rfl
        · rename_i hl
          rw [List.getElem?_eq_none (by omega)] at ea
          cases ea
      · rw [List.getElem?_set_ne hk]
    rw [e1, e2] at c2
    refine ⟨_, c2, ⟨same_upd hg, fun b o h _ _ => h, fun b h => h, fun b h => ?_, fun b h => .inl h, fun b h _ => .inl h⟩, fun p o => ?_⟩
    · by_cases e : b = a
      · subst e
        exact .inr (.inr (.inl ⟨i, x, hx, ox, ea⟩))
      · exact .inl (by rw [upd_ne e]; exact h)
    · obtain ⟨j, y, hy, oy, ey⟩ := o
      by_cases hj : i = j
      · subst hj
        rw [List.getElem?_set, if_pos rfl] at hy
        split at hy
        · cases hy
          cases oy
        · cases hy
      · rw [List.getElem?_set_ne hj] at hy
        exact ⟨j, y, hy, oy, ey⟩
  unfold settle
  split
  · rename_i l hx
    obtain ⟨a, ea, h1, h2, vs, h3, h4⟩ := cfg.slot i _ hx
    exact go _ a _ (.list l) hx rfl ea h1 h2 h3 (.lst upd_same (h4.mono (same_upd h1)))
  · rename_i l hx
    obtain ⟨a, ea, h1, h2, h3⟩ := cfg.slot i _ hx
    obtain ⟨es, ep, q1, q2, q3, q4, ks, vs, q5, q6, q7⟩ := h3.dx
    exact go _ a _ (.dict l) hx rfl ea h1 h2 q1 (.dct upd_same q2 q3 q4 q5 (q6.mono (same_upd h1)) (q7.mono (same_upd h1)))
  · exact ⟨G, cfg, Tr.refl, fun p o => o⟩
theorem dss_frz (i : Nat) {sts : List Stmt} {m : MS Y.S} (h : DSs c Y sts m) : DSs c Y sts (sFrz i m) := fun X W ic tk => by
  refine PSs.imp (h X W ic tk) ?_
  rintro E σ H ⟨wi, G, fp, ρ, s, cfg, k⟩
  obtain ⟨G1, cfg1, tr1, ow1⟩ := settle_ok cfg i
  exact ⟨wi, G1, fp, settle i ρ, s, cfg1, ContS.shift k tr1 fun p o => .inl (ow1 p o)⟩
theorem ds_frz (i : Nat) {st : Stmt} {m : MS Y.S} (h : DS c Y st m) : DS c Y st (sFrz i m) := fun X W ic tk => by
  refine PS.imp (h X W ic tk) ?_
  rintro E σ H ⟨wi, G, fp, ρ, s, cfg, k⟩
  obtain ⟨G1, cfg1, tr1, ow1⟩ := settle_ok cfg i
  exact ⟨wi, G1, fp, settle i ρ, s, cfg1, ContS.shift k tr1 fun p o => .inl (ow1 p o)⟩

/-! ### a, b = v -/
def sAsgG {S : Type} (g : MG) (m : ME S) : MS S := fun ρ s => (m ρ s).fl fun o ρ s => .of ((asVal (frz o)).bind fun d => g d ρ) s
theorem ds_asgG {tg : Expr} {ix : List Nat} {g : MG} (he : DE c Y e me) (hg : DG c Y tg ix g) (hs : ∀ env, env.scope = c.sc → swapsWithSole [tg] e pos.line env = pure false := by intro _ _; rfl) (hw : ∀ env, env.scope = c.sc → swappedStores [tg] e env = pure none := by intro _ _; rfl)
    (h1 : ∀ env, (assignEach [tg] env).map (·.2) = [assign tg env] := by intro _; rfl) : DS c Y (.Assign [tg] e pos) (sAsgG g me) := fun X W ic tk => by
  refine PS.imp (ps_asg (he X W ic tk) (hg.run X ic) (hs _ ic.sc) (hw _ ic.sc) (h1 _)) ?_
  rintro E σ H ⟨wi, G, fp, ρ, s, cfg, k⟩
  refine ⟨wi, G, fp, ρ, s, cfg, (Cont.bindS k).mono fun x H1 ⟨G1, fp1, ρ1, s1, o1, cfg1, sim1, tr1, r1, k1⟩ => ?_⟩
  obtain ⟨G2, cfg2, tr2, r2, _⟩ := frz_ok cfg1 tr1 r1
  obtain ⟨ρ3, e3, k3⟩ := of_nx k1
  cases e1 : asVal (frz o1) with
  | none =>
    rw [e1] at e3
    cases e3
  | some d =>
    rw [e1] at e3
    refine ⟨wi, G2, fp1, ρ1, s1, d, ρ3, cfg2, (rep_asVal r2 e1).2, e3, fun σ' cfg' ow' _ => ?_⟩
    exact k3 G2 H1 fp1 σ' cfg' tr2 fun p o => .inl (sim1.ownI (ow' p o))

/-! ### x += v -/
def augF (f : D → D → Option Out) : Sl → D → Option Sl
  | .val d, e => match f d e with
    | some (.val r) => some (.val r)
    | _ => none
  | .lst l, .list m => if sizeOk (l.length + m.length) then some (.lst (l ++ m)) else none
  | _, _ => none
def addI := onI fun i j => some (.int (i + j))
def sAug {S : Type} (i : Nat) (m : ME S) : MS S := fun ρ s => match ρ[i]? with
  | some (.val _) => (m ρ s).fl fun o ρ s => match ρ[i]? with
    | some (.val (.int a)) => (match rd ρ o with
      | some (.int b) => .nx (ρ.set i (.val (.int (a + b)))) s
      | _ => .bad)
    | _ => .bad
  | some (.lst _) => (m ρ s).fl fun o ρ s => match ρ[i]? with
    | some (.lst l) => (match rd ρ o with
      | some (.list r) => if sizeOk (l.length + r.length) then .nx (ρ.set i (.lst (l ++ r))) s else .bad
      | _ => .bad)
    | _ => .bad
  | _ => .bad
end
end Dy

set_option Elab.async false
set_option linter.all false
set_option maxRecDepth 100000
namespace Dy
open PySem PySem.Spec PyProof.Rows L2

section
variable {α β γ δ : Type} {c : CC} {Y : Sy} {W : WX} {wi : Y.W} {G H G1 H1 : Hp} {fp fp1 : Addr → Prop} {σ : L2.St} {ρ ρ1 : Fr} {s s1 : Y.S} {rel : Rel α β} {rel' : Rel γ δ} {r : Rx Y.S α}
/-- a part that starts later; what follows it is told from the earlier start -/
def MidL (c : CC) (Y : Sy) (W : WX) (rel : Rel α β) (rel' : Rel γ δ) (wi : Y.W) (G H : Hp) (fp : Addr → Prop) (ρ : Fr) (G1 H1 : Hp) (fp1 : Addr → Prop) (σ : L2.St) (ρ1 : Fr) (Q : δ → Hp → Prop) (k : α → Fr → Y.S → Rx Y.S γ) (x : β) (H2 : Hp) : Prop :=
  ∃ G2 fp2 ρ2 s2 a, Cfg c.w c.K Y wi G2 H2 fp2 σ ρ2 s2 ∧ Sim ρ1 ρ2 ∧ Tr G1 H1 fp1 (Own σ ρ1) G2 H2 fp2 ∧ rel H1 G2 H2 fp2 σ ρ2 a x ∧ Cont c Y W rel' wi G H fp σ ρ Q (k a ρ2 s2)
theorem Cont.bindLL {k : α → Fr → Y.S → Rx Y.S γ} {Q : δ → Hp → Prop} (h : Cont c Y W rel' wi G H fp σ ρ Q (r.bind k)) (tr : Tr G H fp (Own σ ρ) G1 H1 fp1) (sim : Sim ρ ρ1) : Cont c Y W rel wi G1 H1 fp1 σ ρ1 (MidL c Y W rel rel' wi G H fp ρ G1 H1 fp1 σ ρ1 Q k) r := by
  cases r with
  | ok a ρ' s' => exact fun G' H' fp' v h1 h2 h3 h4 => ⟨G', fp', ρ', s', a, h1, h2, h3, h4, h⟩
  | ex e ρ' s' => exact fun G' H' fp' cls dd h1 h2 h3 h4 => h G' H' fp' cls dd h1 (sim.trans h2) (tr.trans h3 fun p o => .inl (sim.ownI o)) h4
  | bad => exact h
end

/-! ### several values at once, as they are -/
def isNew : Out → Bool
  | .newl _ => true
  | .newd _ => true
  | _ => false
section
variable (c : CC) (Y : Sy)
inductive RepRs (wi : Y.W) (H0 G H : Hp) (fp : Addr → Prop) (σ : L2.St) (ρ : Fr) : List Out → List V → Prop
  | nil : RepRs wi H0 G H fp σ ρ [] []
  | cons {o v os vs} : RepO c.w c.K Y wi H0 G H fp σ ρ o v → (isNew o = true → ∀ (i : Nat) (o' : Out), os[i]? = some o' → isNew o' = true → vs[i]? ≠ some v) → RepRs wi H0 G H fp σ ρ os vs → RepRs wi H0 G H fp σ ρ (o :: os) (v :: vs)
abbrev relR (wi : Y.W) : Rel (List Out) (List V) := RepRs c Y wi
def tR (W : WX) (m : MA Y.S) : TA := fun σ H Q => ∃ wi G fp ρ s, Cfg c.w c.K Y wi G H fp σ ρ s ∧ Cont c Y W (relR c Y wi) wi G H fp σ ρ Q (m ρ s)
end
def aConsR {S : Type} (a : ME S) (r : MA S) : MA S := fun ρ s => (a ρ s).bind fun x ρ s => (r ρ s).bind fun xs ρ s => .ok (x :: xs) ρ s
section
variable {c : CC} {Y : Sy} {e ke : Expr} {me mv mk : ME Y.S} {p p2 pos : Pos} {x : Str} {W : WX} {wi : Y.W} {G H H0 H1 G' H' : Hp} {fp fp' : Addr → Prop} {σ : L2.St} {ρ ρ' : Fr} {s : Y.S}
theorem RepRs.back (d : ∀ p, H1 p = none → H0 p = none) : ∀ {os : List Out} {vs : List V}, RepRs c Y wi H1 G H fp σ ρ os vs → RepRs c Y wi H0 G H fp σ ρ os vs
  | _, _, .nil => .nil
  | _, _, .cons h n t => .cons (h.back d) n (RepRs.back d t)
theorem RepRs.new : ∀ {os : List Out} {vs : List V} {i : Nat} {o : Out} {v : V}, RepRs c Y wi H0 G H fp σ ρ os vs → os[i]? = some o → isNew o = true → vs[i]? = some v → ∃ p, v = .ref p ∧ H0 p = none
  | _, _, 0, o, v, .cons h n t, ho, hn, hv => by
    cases ho
    cases hv
    cases o with
    | newl l =>
      obtain ⟨p, e, h0, _⟩ := h
      exact ⟨p, e, h0⟩
    | newd l =>
      obtain ⟨p, e, h0, _⟩ := h
      exact ⟨p, e, h0⟩
    | _ => cases hn
  | _, _, i + 1, o, v, .cons h n t, ho, hn, hv => RepRs.new (i := i) t ho hn hv
  | _, _, 0, _, _, .nil, ho, _, _ => by cases ho
  | _, _, _ + 1, _, _, .nil, ho, _, _ => by cases ho
theorem aconsR_imp {ma : ME Y.S} {mr : MA Y.S} {Q : List V → Hp → Prop} (h : tR c Y W (aConsR ma mr) σ H Q) : tE c Y W ma σ H fun x H1 => tR c Y W mr σ H1 fun xs H2 => Q (x :: xs) H2 := by
  obtain ⟨wi, G, fp, ρ, s, cfg, k⟩ := h
  refine ⟨wi, G, fp, ρ, s, cfg, (Cont.bindL k).mono fun x H1 ⟨G1, fp1, ρ1, s1, o1, cfg1, sim1, tr1, r1, k1⟩ => ?_⟩
  refine ⟨wi, G1, fp1, ρ1, s1, cfg1, (Cont.bindLL k1 tr1 sim1).mono fun xs H3 ⟨G3, fp3, ρ3, s3, os, cfg3, sim3, tr3, r3, k3⟩ => ?_⟩
  refine k3 G3 H3 fp3 _ cfg3 (sim1.trans sim3) (tr1.trans tr3 fun p o => .inl (sim1.ownI o)) (.cons (r1.keep tr3 sim3) (fun hn i o' ho' hn' hv' => ?_) (r3.back tr1.dom))
  obtain ⟨p, ep, hp⟩ := r3.new ho' hn' hv'
  subst ep
  cases o1 with
  | newl l =>
    obtain ⟨q, e, _, _, _, _, h4⟩ := r1
    cases e
    exact h4.there hp
  | newd l =>
    obtain ⟨q, e, _, _, _, _, h4⟩ := r1
    cases e
    exact h4.there hp
  | _ => cases hn
theorem anilR_imp {Q : List V → Hp → Prop} (h : tR c Y W aNil σ H Q) : Q [] H := by
  obtain ⟨wi, G, fp, ρ, s, cfg, k⟩ := h
  exact k G H fp [] cfg (Sim.refl ρ) Tr.refl .nil
/-- what was given stands while another answer is stored -/
theorem RepO.put {o o2 : Out} {v v2 : V} {i : Nat} (cfg : Cfg c.w c.K Y wi G H fp σ ρ s) (r : RepO c.w c.K Y wi H0 G H fp σ ρ o v) (nb : isBor o = false) (e : putO i o ρ = some ρ') (r2 : RepO c.w c.K Y wi H1 G H fp σ ρ o2 v2) (nb2 : isBor o2 = false) (ne : isNew o = true → isNew o2 = true → v ≠ v2) :
    RepO c.w c.K Y wi H1 G H fp (σ.set i (some v)) ρ' o2 v2 := by
  have own : ∀ p, Own (σ.set i (some v)) ρ' p → Own σ ρ p ∨ (isNew o = true ∧ v = .ref p) := fun p ow => by
    cases o with
    | val d =>
      cases e
      exact ow.put.elim .inl fun z => by cases z.1
    | newl l =>
      cases e
      exact ow.put.elim .inl fun z => .inr ⟨rfl, z.2⟩
    | newd l =>
      cases e
      exact ow.put.elim .inl fun z => .inr ⟨rfl, z.2⟩
    | hdl k =>
      cases e
      exact ow.put.elim .inl fun z => by cases z.1
    | bor j => cases nb
  cases o2 with
  | val d => exact r2
  | hdl k => exact r2
  | bor j => cases nb2
  | newl l =>
    obtain ⟨p, rfl, h0, h1, h2, h3, h4⟩ := r2
    exact ⟨p, rfl, h0, h1, h2, fun ow => (own p ow).elim h3 fun z => ne z.1 rfl z.2, h4⟩
  | newd l =>
    obtain ⟨p, rfl, h0, h1, h2, h3, h4⟩ := r2
    exact ⟨p, rfl, h0, h1, h2, fun ow => (own p ow).elim h3 fun z => ne z.1 rfl z.2, h4⟩
theorem put_own (cfg : Cfg c.w c.K Y wi G H fp σ ρ s) {o : Out} {v : V} {i : Nat} (r : RepO c.w c.K Y wi H0 G H fp σ ρ o v) (e : putO i o ρ = some ρ') : ∀ p, Own (σ.set i (some v)) ρ' p → Own σ ρ p ∨ H0 p = none := (put_ok cfg r e).2
/-- a, b = x, y -/
def sPar2 {S : Type} (i j : Nat) (ma mb : ME S) : MS S := fun ρ s => (aConsR ma (aConsR mb aNil) ρ s).fl fun os ρ s => .of (match os with
  | [a, b] => if isBor a || isBor b then none else (putO i a ρ).bind (putO j b)
  | _ => none) s
def sPar3 {S : Type} (i j l : Nat) (ma mb mc : ME S) : MS S := fun ρ s => (aConsR ma (aConsR mb (aConsR mc aNil)) ρ s).fl fun os ρ s => .of (match os with
  | [a, b, c] => if isBor a || (isBor b || isBor c) then none else (putO i a ρ).bind fun ρ => (putO j b ρ).bind (putO l c)
  | _ => none) s
theorem bind_some_eq {α β : Type} {o : Option α} {f : α → Option β} {b : β} (h : o.bind f = some b) : ∃ a, o = some a ∧ f a = some b := by
  cases o with
  | none => cases h
  | some a => exact ⟨a, rfl, h⟩
theorem par2_imp {i j : Nat} {ma mb : ME Y.S} {E : Ends} (h : tS c Y W (sPar2 i j ma mb) E σ H) : tR c Y W (aConsR ma (aConsR mb aNil)) σ H fun vs H1 => ∃ v w, vs = [v, w] ∧ E.nx ((σ.set i (some v)).set j (some w)) H1 := by
  obtain ⟨wi, G, fp, ρ, s, cfg, k⟩ := h
  refine ⟨wi, G, fp, ρ, s, cfg, (Cont.bindS k).mono fun vs H1 ⟨G1, fp1, ρ1, s1, os, cfg1, sim1, tr1, r1, k1⟩ => ?_⟩
  obtain ⟨ρ2, e2, k2⟩ := of_nx k1
  split at e2
  · rename_i a b
    split at e2
    · cases e2
    · rename_i nb
      have nb : (isBor a || isBor b) = false := by simpa using nb
      rw [Bool.or_eq_false_iff] at nb
      obtain ⟨ρ3, e3, e4⟩ := bind_some_eq e2
      cases r1 with
      | @cons _ v1 _ vs1 ra na rb =>
        cases rb with
        | @cons _ v2 _ vs2 rb _ rc =>
          cases rc
          obtain ⟨cfg3, ow3⟩ := put_ok cfg1 ra e3
          have rb3 := RepO.put cfg1 ra nb.1 e3 rb nb.2 fun h1 h2 e => na h1 0 b rfl h2 (by rw [e]; rfl)
          obtain ⟨cfg4, ow4⟩ := put_ok cfg3 rb3 e4
          refine ⟨v1, v2, rfl, k2 G1 H1 fp1 _ cfg4 tr1 fun p o => ?_⟩
          rcases ow4 p o with z | z
          · exact (ow3 p z).imp (fun y => sim1.ownI y) fun y => y
          · exact .inr z
  · cases e2
theorem par3_imp {i j l : Nat} {ma mb mc : ME Y.S} {E : Ends} (h : tS c Y W (sPar3 i j l ma mb mc) E σ H) : tR c Y W (aConsR ma (aConsR mb (aConsR mc aNil))) σ H fun vs H1 => ∃ u v w, vs = [u, v, w] ∧ E.nx (((σ.set i (some u)).set j (some v)).set l (some w)) H1 := by
  obtain ⟨wi, G, fp, ρ, s, cfg, k⟩ := h
  refine ⟨wi, G, fp, ρ, s, cfg, (Cont.bindS k).mono fun vs H1 ⟨G1, fp1, ρ1, s1, os, cfg1, sim1, tr1, r1, k1⟩ => ?_⟩
  obtain ⟨ρ2, e2, k2⟩ := of_nx k1
  split at e2
  · rename_i a b d
    split at e2
    · cases e2
    · rename_i nb
      have nb : (isBor a || (isBor b || isBor d)) = false := by simpa using nb
      rw [Bool.or_eq_false_iff, Bool.or_eq_false_iff] at nb
      obtain ⟨ρ3, e3, e4⟩ := bind_some_eq e2
      obtain ⟨ρ4, e4, e5⟩ := bind_some_eq e4
      cases r1 with
      | @cons _ v1 _ vs1 ra na rb =>
        cases rb with
        | @cons _ v2 _ vs2 rb nb2 rc =>
          cases rc with
          | @cons _ v3 _ vs3 rc _ rd =>
            cases rd
            obtain ⟨cfg3, ow3⟩ := put_ok cfg1 ra e3
            have rb3 := RepO.put cfg1 ra nb.1 e3 rb nb.2.1 fun h1 h2 e => na h1 0 b rfl h2 (by rw [e]; rfl)
            have rc3 := RepO.put cfg1 ra nb.1 e3 rc nb.2.2 fun h1 h2 e => na h1 1 d rfl h2 (by rw [e]; rfl)
            obtain ⟨cfg4, ow4⟩ := put_ok cfg3 rb3 e4
            have rc4 := RepO.put cfg3 rb3 nb.2.1 e4 rc3 nb.2.2 fun h1 h2 e => nb2 h1 0 d rfl h2 (by rw [e]; rfl)
            obtain ⟨cfg5, ow5⟩ := put_ok cfg4 rc4 e5
            refine ⟨v1, v2, v3, rfl, k2 G1 H1 fp1 _ cfg5 tr1 fun p o => ?_⟩
            rcases ow5 p o with z | z
            · rcases ow4 p z with y | y
              · exact (ow3 p y).imp (fun y => sim1.ownI y) fun y => y
              · exact .inr y
            · exact .inr z
  · cases e2
theorem ds_par2 (i j : Nat) {xa xb : Str} {ea eb : Expr} {ma mb : ME Y.S} {px py pt pt2 : Pos} {kt k2} (ha : DE c Y ea ma) (hb : DE c Y eb mb) (hi : c.N[i]? = some xa := by rfl) (hj : c.N[j]? = some xb := by rfl) (hij : i ≠ j := by decide)
    (hx : c.sc.names.lookup xa = some .local := by rfl) (hy : c.sc.names.lookup xb = some .local := by rfl) (hc : c.calm = true := by rfl)
    (hw : ∀ env, env.scope = c.sc → swappedStores [.Tuple [.Name xa px, .Name xb py] kt pt] (.Tuple [ea, eb] k2 pt2) env = pure (some [xa, xb]))
    (hs : ∀ env, env.scope = c.sc → swapsWithSole [.Tuple [.Name xa px, .Name xb py] kt pt] (.Tuple [ea, eb] k2 pt2) pos.line env = pure false := by intro _ _; rfl)
    (h1 : ∀ env, starEach [ea, eb] env = (false, eval ea env) :: starEach [eb] env := by intro _; rfl) (h2 : ∀ env, starEach [eb] env = (false, eval eb env) :: starEach [] env := by intro _; rfl) :
    DS c Y (.Assign [.Tuple [.Name xa px, .Name xb py] kt pt] (.Tuple [ea, eb] k2 pt2) pos) (sPar2 i j ma mb) := fun X W ic tk => by
  refine PS.imp (ps_par (i := i) (j := j) (ic.calm.trans hc) (by rw [ic.N]; exact ic.nd) (by rw [ic.N]; exact hi) (by rw [ic.N]; exact hj) hij (by rw [ic.sc]; exact hx) (by rw [ic.sc]; exact hy) (pa_cons (ha X W ic tk) (pa_cons (hb X W ic tk) pa_nil (h2 _)) (h1 _)) (hw _ ic.sc) (hs _ ic.sc)) fun E σ H h => ?_
  obtain ⟨wi, G, fp, ρ, s, cfg, k⟩ := aconsR_imp (par2_imp h)
  refine ⟨wi, G, fp, ρ, s, cfg, k.mono fun x H1 h1 => ?_⟩
  obtain ⟨wi, G, fp, ρ, s, cfg, k⟩ := aconsR_imp h1
  exact ⟨wi, G, fp, ρ, s, cfg, k.mono fun y H2 h2 => anilR_imp h2⟩
theorem ds_par3 (i j l : Nat) {xa xb xc : Str} {ea eb ec : Expr} {ma mb mc : ME Y.S} {px py pz pt pt2 : Pos} {kt k2} (ha : DE c Y ea ma) (hb : DE c Y eb mb) (hcc : DE c Y ec mc) (hi : c.N[i]? = some xa := by rfl) (hj : c.N[j]? = some xb := by rfl) (hl : c.N[l]? = some xc := by rfl) (hij : i ≠ j := by decide) (hil : i ≠ l := by decide) (hjl : j ≠ l := by decide)
    (hx : c.sc.names.lookup xa = some .local := by rfl) (hy : c.sc.names.lookup xb = some .local := by rfl) (hz : c.sc.names.lookup xc = some .local := by rfl) (hc : c.calm = true := by rfl)
    (hw : ∀ env, env.scope = c.sc → swappedStores [.Tuple [.Name xa px, .Name xb py, .Name xc pz] kt pt] (.Tuple [ea, eb, ec] k2 pt2) env = pure (some [xa, xb, xc]))
    (hs : ∀ env, env.scope = c.sc → swapsWithSole [.Tuple [.Name xa px, .Name xb py, .Name xc pz] kt pt] (.Tuple [ea, eb, ec] k2 pt2) pos.line env = pure false := by intro _ _; rfl)
    (h1 : ∀ env, starEach [ea, eb, ec] env = (false, eval ea env) :: starEach [eb, ec] env := by intro _; rfl) (h2 : ∀ env, starEach [eb, ec] env = (false, eval eb env) :: starEach [ec] env := by intro _; rfl) (h3 : ∀ env, starEach [ec] env = (false, eval ec env) :: starEach [] env := by intro _; rfl) :
    DS c Y (.Assign [.Tuple [.Name xa px, .Name xb py, .Name xc pz] kt pt] (.Tuple [ea, eb, ec] k2 pt2) pos) (sPar3 i j l ma mb mc) := fun X W ic tk => by
  refine PS.imp (ps_par3 (i := i) (j := j) (l := l) (ic.calm.trans hc) (by rw [ic.N]; exact ic.nd) (by rw [ic.N]; exact hi) (by rw [ic.N]; exact hj) (by rw [ic.N]; exact hl) hij hil hjl (by rw [ic.sc]; exact hx) (by rw [ic.sc]; exact hy) (by rw [ic.sc]; exact hz) (pa_cons (ha X W ic tk) (pa_cons (hb X W ic tk) (pa_cons (hcc X W ic tk) pa_nil (h3 _)) (h2 _)) (h1 _)) (hw _ ic.sc) (hs _ ic.sc)) fun E σ H h => ?_
  obtain ⟨wi, G, fp, ρ, s, cfg, k⟩ := aconsR_imp (par3_imp h)
  refine ⟨wi, G, fp, ρ, s, cfg, k.mono fun x H1 h1 => ?_⟩
  obtain ⟨wi, G, fp, ρ, s, cfg, k⟩ := aconsR_imp h1
  refine ⟨wi, G, fp, ρ, s, cfg, k.mono fun y H2 h2 => ?_⟩
  obtain ⟨wi, G, fp, ρ, s, cfg, k⟩ := aconsR_imp h2
  exact ⟨wi, G, fp, ρ, s, cfg, k.mono fun y H2 h2 => anilR_imp h2⟩

/-! ### x += v -/
theorem ds_aug (i : Nat) (he : DE c Y e me) (hi : c.N[i]? = some x := by rfl) (hx : Loc c.sc x := by first | exact .inl rfl | exact .inr rfl) (hf : c.fnn x = true ∨ c.sc.names.lookup x = some .local := by first | exact .inl rfl | exact .inr rfl) : DS c Y (.AugAssign (.Name x p) .Add e pos) (sAug i me) := fun X W ic tk => by
  refine PS.imp (ps_aug (i := i) (ti := fun x y H Q => ipI (fun i j => i + j) x y H Q ∨ rExt2 x y H Q) (by rw [ic.N]; exact ic.nd) (by rw [ic.N]; exact hi) (by rw [ic.sc]; exact hx) (he X W ic tk) (fun pins s σ H x y v u Q I r1 r2 h => h.elim (ip_add pins s σ H x y v u Q I r1 r2) (iop_ext pins s σ H x y v u Q I r1 r2)) (by rw [ic.fnn, ic.sc]; exact hf)) fun E σ H h => ?_
  obtain ⟨wi, G, fp, ρ, s, cfg, k⟩ := h
  unfold sAug at k
  cases eρ : ρ[i]? with
  | none =>
    rw [eρ] at k
    exact k.elim
  | some z =>
    rw [eρ] at k
    cases z with
    | val d0 =>
      obtain ⟨v0, ev0, _⟩ := cfg.slot i _ eρ
      refine ⟨v0, ev0, wi, G, fp, ρ, s, cfg, (Cont.bindS k).mono fun y H1 ⟨G1, fp1, ρ1, s1, o1, cfg1, sim1, tr1, r1, k1⟩ => ?_⟩
      dsimp only at k1
      cases e1 : ρ1[i]? with
      | none =>
        rw [e1] at k1
        exact k1.elim
      | some z1 =>
        rw [e1] at k1
        cases z1 with
        | val d1 =>
          cases d1 with
          | int a =>
            dsimp only at k1
            split at k1
            · rename_i b hb
              obtain ⟨v1, ev1, rv1⟩ := cfg1.slot i _ e1
              rw [ev0] at ev1
              cases ev1
              cases rv1
              have hy := vw_int (cfg1.vw r1 hb)
              subst hy
              have cfg2 := cfg1.put i (x := .val (.int (a + b))) (v := .int (a + b)) ⟨_, rfl, .int _⟩ (fun z => by cases z)
              exact .inl ⟨a, b, rfl, rfl, k1 G1 H1 fp1 _ cfg2 tr1 fun p o => .inl (o.put.elim (fun z => sim1.ownI z) fun z => by cases z.1)⟩
            · exact k1.elim
          | _ => exact k1.elim
        | _ => exact k1.elim
    | lst l0 =>
      obtain ⟨a0, ea0, _⟩ := cfg.slot i _ eρ
      refine ⟨.ref a0, ea0, wi, G, fp, ρ, s, cfg, (Cont.bindS k).mono fun y H1 ⟨G1, fp1, ρ1, s1, o1, cfg1, sim1, tr1, r1, k1⟩ => ?_⟩
      dsimp only at k1
      cases e1 : ρ1[i]? with
      | none =>
        rw [e1] at k1
        exact k1.elim
      | some z1 =>
        rw [e1] at k1
        cases z1 with
        | lst l =>
          dsimp only at k1
          split at k1
          · rename_i m hm
            split at k1
            · rename_i hz
              obtain ⟨a1, ea1, q1, q2, xs, hH, rl⟩ := cfg1.slot i _ e1
              rw [ea0] at ea1
              cases ea1
              obtain ⟨b, zs, rfl, hb, rb⟩ := cfg1.vw r1 hm
              refine .inr ⟨a0, b, xs, zs, rfl, rfl, hH, hb, by rw [← rl.length, ← rb.length]; exact sizeOk_le hz, ?_⟩
              obtain ⟨cfg2, tr2, sim2⟩ := cfg1.write e1 rfl ea0 (y := .lst (l ++ m)) trivial (u := .lst (xs ++ zs)) ⟨a0, rfl, q1, q2, _, upd_same, rl.append rb⟩
              have es : σ.set i (some (.ref a0)) = σ := by
                refine List.ext_getElem? fun k => ?_
                by_cases hk : i = k
                · subst hk
                  rw [List.getElem?_set, if_pos rfl, ea0]
                  split
                  · rfl
                  · rename_i hl
                    rw [List.getElem?_eq_none (by omega)] at ea0
                    cases ea0
                · rw [List.getElem?_set_ne hk]
              rw [es]
              exact k1 G1 _ fp1 σ cfg2 (tr1.trans tr2 fun p o => .inl (sim1.ownI o)) fun p o => .inl (sim1.ownI (sim2.ownI o))
            · exact k1.elim
          · exact k1.elim
        | _ => exact k1.elim
    | _ => exact k.elim
end
end Dy

set_option Elab.async false
set_option linter.all false
set_option maxRecDepth 100000
namespace Dy
open PySem PySem.Spec PyProof.Rows L2

/-! ### what is walked: a list, a tuple, a text -/
section
variable {X : Cx} {tg : Expr}
/-- a sequence, as an iterator -/
def iSeqA (K : PySem.W.Frag) (te : TE) : TI := fun σ H R => te σ H fun x H1 => (∃ a xs, x = .ref a ∧ SqL K H1 a xs ∧ R (Itl K a) H1) ∨ (∃ a xs, x = .ref a ∧ SqT K H1 a xs ∧ R (Itt K a) H1) ∨ ∃ z, x = .str z ∧ R (Its z) H1
theorem pi_seqA {e : Expr} {te : TE} (he : PE X e te) : PI X tg e (iSeqA X.K te) := by
  refine ⟨fun pins s σ H R I h => ?_⟩
  refine thn (he.run pins s σ H _ I h) fun v s1 ⟨x, H1, I1, r1, q1⟩ => ?_
  rcases q1 with ⟨a, xs, rfl, hq, q⟩ | ⟨a, xs, rfl, hq, q⟩ | ⟨z, rfl, q⟩
  · cases r1
    obtain ⟨its, rv, p, hz⟩ := I1.list hq
    refine wpAny_pyIter_list p.isList ?_
    refine ⟨s1.heap.objs.size, [s1.heap.objs.size], _, _, H1, rfl, I1.kept (t' := s1.toks) fun b o e => Heap.get?_push_of_some _ e, turn_list a _, ⟨_, Heap.get?_push_size _ rfl, rfl, rfl⟩, fun b hb => ?_, q⟩
    have e : b = s1.heap.objs.size := by simpa using hb
    subst e
    exact I1.fpOk (Nat.le_refl _) (I1.hok.fresh (Nat.le_refl _))
  · cases r1
    obtain ⟨its, rv, p, hz⟩ := I1.tuple hq
    refine wpAny_pyIter_tuple (show s1.heap.IsTuple a its.toArray from p) ?_
    refine ⟨s1.heap.objs.size, [s1.heap.objs.size], _, _, H1, rfl, I1.kept (t' := s1.toks) fun b o e => Heap.get?_push_of_some _ e, turn_tuple a _, ⟨_, Heap.get?_push_size _ rfl, rfl, rfl⟩, fun b hb => ?_, q⟩
    have e : b = s1.heap.objs.size := by simpa using hb
    subst e
    exact I1.fpOk (Nat.le_refl _) (I1.hok.fresh (Nat.le_refl _))
  · obtain ⟨t, rfl⟩ := r1
    cases ha : z.cps.all (· < 128)
    · exact wpAny_pyIter_wide ha (pi_one (tk := s1.toks) I1 _ (turn_str _ z t "str_iterator" (.inr rfl)) ⟨_, Heap.get?_push_size _ rfl, rfl, rfl⟩ q)
    · exact wpAny_pyIter_ascii ha (pi_one (tk := s1.toks) I1 _ (turn_str _ z t "str_ascii_iterator" (.inl rfl)) ⟨_, Heap.get?_push_size _ rfl, rfl, rfl⟩ q)
end
/-- the data that a walk hands out -/
def walkD : D → Option (List D)
  | .list l => some l
  | .tuple l => some l
  | .str x => some (x.cps.toList.map fun k => .str ⟨#[k]⟩)
  | _ => none
/-- a settled list, tuple or text is walked -/
def iSeq {S : Type} (m : ME S) : MI S := fun ρ s => (m ρ s).bind fun o ρ s => .of ((asVal (frz o)).bind walkD) ρ s
section
variable {c : CC} {Y : Sy} {e e2 tg : Expr} {me m2 : ME Y.S} {w : World} {K : PySem.W.Frag} {G : Hp}
theorem rd_uniqL {H : Hp} {a : Addr} {vs us : List V} (h : H a = some (.lst vs)) (h2 : SqL K H a us) (nk : ∀ o, K.lookup a = some o → False) : us = vs := by
  rcases h2 with (z | ⟨o, z⟩) | ⟨o, its, n, hk, _⟩
  · rw [h] at z
    cases z
    rfl
  · rw [h] at z
    cases z
  · exact (nk o hk).elim
theorem runs_list {a : Addr} {l : List D} {vs : List V} (h : G a = some (.lst vs)) (r : RepA w K G l vs) (un : ∀ H us, Same G H → SqL K H a us → us = vs) : Runs w K (Itl K a) l G where
  go := fun i H sg hi => ⟨vs, vs[i]'(by rw [← r.length]; exact hi), .inl (.inl (sg _ _ h)), List.getElem?_eq_getElem _⟩
  stop := fun H sg => ⟨vs, .inl (.inl (sg _ _ h)), by rw [r.length]; exact Nat.le_refl _⟩
  yld := fun i H x H' sg hi y => by
    obtain ⟨rfl, hx⟩ := y
    have hx := hx vs (.inl (.inl (sg _ _ h)))
    obtain ⟨d, hd, rd⟩ := r.getV hx
    exact ⟨d, hd, .inl ⟨rfl, rd⟩⟩
theorem runs_tup {a : Addr} {l : List D} {vs : List V} (h : SqT K G a vs) (r : RepA w K G l vs) : Runs w K (Itt K a) l G where
  go := fun i H sg hi => ⟨vs, vs[i]'(by rw [← r.length]; exact hi), sqT_same sg h, List.getElem?_eq_getElem _⟩
  stop := fun H sg => ⟨vs, sqT_same sg h, by rw [r.length]; exact Nat.le_refl _⟩
  yld := fun i H x H' sg hi y => by
    obtain ⟨rfl, hx⟩ := y
    have hx := hx vs (sqT_same sg h)
    obtain ⟨d, hd, rd⟩ := r.getV hx
    exact ⟨d, hd, .inl ⟨rfl, rd⟩⟩
theorem runs_str (z : Str) : Runs w K (Its z) (z.cps.toList.map fun k => .str ⟨#[k]⟩) G where
  go := fun i H sg hi => by
    have hi : i < (z.cps.toList.map fun k => PyData.str ⟨#[k]⟩).length := hi
    rw [List.length_map, Array.length_toList] at hi
    exact hi
  stop := fun H sg => by
    show z.cps.size ≤ (z.cps.toList.map fun k => PyData.str ⟨#[k]⟩).length
    rw [List.length_map, Array.length_toList]
    exact Nat.le_refl _
  yld := fun i H x H' sg hi y => by
    obtain ⟨rfl, k, hk, rfl⟩ := y
    refine ⟨.str ⟨#[k]⟩, ?_, .inl ⟨rfl, .str _⟩⟩
    rw [List.getElem?_map, Array.getElem?_toList, hk]
    rfl
theorem seq_imp {W : WX} {σ : L2.St} {H : Hp} {R : It → Hp → Prop} (h : tI c Y W (iSeq me) σ H R) : iSeqA c.K (tE c Y W me) σ H R := by
  obtain ⟨wi, G, fp, ρ, s, cfg, k⟩ := h
  refine ⟨wi, G, fp, ρ, s, cfg, (Cont.bindL k).mono fun x H1 ⟨G1, fp1, ρ1, s1, o1, cfg1, sim1, tr1, r1, k1⟩ => ?_⟩
  obtain ⟨G2, cfg2, tr2, r2, _⟩ := frz_ok cfg1 tr1 r1
  obtain ⟨l, el, k2⟩ := of_some k1
  obtain ⟨d, ed, ew⟩ := bind_some_eq el
  obtain ⟨_, rv⟩ := rep_asVal r2 ed
  have fin : ∀ {J : It}, Runs c.w c.K J l G2 → R J H1 := fun {J} ru => k2 G2 H1 fp1 J cfg2 sim1 tr2 ru
  cases d with
  | list m =>
    cases ew
    cases rv with
    | lst h1 t => exact .inl ⟨_, _, rfl, .inl (.inl (cfg2.sub _ _ h1)), fin ⟨fun i H sg hi => ⟨_, _, .inl (.inl (sg _ _ h1)), List.getElem?_eq_getElem (by rw [← t.length]; exact hi)⟩, fun H sg => ⟨_, .inl (.inl (sg _ _ h1)), by rw [t.length]; exact Nat.le_refl _⟩, fun i H x H' sg hi y => by
      obtain ⟨rfl, hx⟩ := y
      obtain ⟨d, hd, rd⟩ := t.getV (hx _ (.inl (.inl (sg _ _ h1))))
      exact ⟨d, hd, .inl ⟨rfl, rd⟩⟩⟩⟩
  | tuple m =>
    cases ew
    cases rv with
    | tup h1 t => exact .inr (.inl ⟨_, _, rfl, sqT_same cfg2.sub h1, fin (runs_tup h1 t)⟩)
  | str z =>
    cases ew
    cases rv
    exact .inr (.inr ⟨z, rfl, fin (runs_str z)⟩)
  | _ => cases ew
theorem di_seq (he : DE c Y e me) : DI c Y tg e (iSeq me) := fun X W ic tk => PI.imp (pi_seqA (he X W ic tk)) fun σ H R h => by
  rw [ic.K]
  exact seq_imp h

/-! ### ranges -/
def rngL (lo : Int) (n : Nat) : List D := (List.range n).map fun (i : Nat) => PyData.int (lo + (i : Int))
def in62 (i : Int) : Bool := decide (-4611686018427387904 ≤ i) && decide (i < 4611686018427387904)
theorem in62_ok {i : Int} (h : in62 i = true) : -(2 ^ 62) ≤ i ∧ i < 2 ^ 62 := by
  unfold in62 at h
  simp only [Bool.and_eq_true, decide_eq_true_eq] at h
  omega
def rngD : List D → Option (List D)
  | [.int j] => if in62 j then some (rngL 0 j.toNat) else none
  | [.int i, .int j] => if in62 i && in62 j then some (rngL i (j - i).toNat) else none
  | _ => none
def iRng {S : Type} (ma : MA S) : MI S := fun ρ s => (ma ρ s).bind fun os ρ s => .of ((vals os).bind rngD) ρ s
theorem runs_rng (lo : Int) (n : Nat) : Runs w K (Itr lo n) (rngL lo n) G where
  go := fun i H sg hi => by
    have hi : i < (rngL lo n).length := hi
    unfold rngL at hi
    rw [List.length_map, List.length_range] at hi
    exact hi
  stop := fun H sg => by
    show n ≤ (rngL lo n).length
    unfold rngL
    rw [List.length_map, List.length_range]
    exact Nat.le_refl _
  yld := fun i H x H' sg hi y => by
    obtain ⟨rfl, rfl⟩ := y
    refine ⟨.int (lo + (i : Int)), ?_, .inl ⟨rfl, .int _⟩⟩
    unfold rngL at hi ⊢
    rw [List.length_map, List.length_range] at hi
    rw [List.getElem?_map, List.getElem?_range hi]
    rfl
theorem rng_imp {W : WX} {σ : L2.St} {H : Hp} {R : It → Hp → Prop} {ma : MA Y.S} (h : tI c Y W (iRng ma) σ H R) : tA c Y W ma σ H fun vs H1 => (∃ j : Int, vs = [.int j] ∧ -(2 ^ 62) ≤ j ∧ j < 2 ^ 62 ∧ R (Itr 0 j.toNat) H1) ∨ ∃ i j : Int, vs = [.int i, .int j] ∧ (-(2 ^ 62) ≤ i ∧ i < 2 ^ 62 ∧ -(2 ^ 62) ≤ j ∧ j < 2 ^ 62) ∧ R (Itr i (j - i).toNat) H1 := by
  obtain ⟨wi, G, fp, ρ, s, cfg, k⟩ := h
  refine ⟨wi, G, fp, ρ, s, cfg, (Cont.bindL k).mono fun vs H1 ⟨G1, fp1, ρ1, s1, os, cfg1, sim1, tr1, r1, k1⟩ => ?_⟩
  obtain ⟨l, el, k2⟩ := of_some k1
  obtain ⟨ds, ed, ew⟩ := bind_some_eq el
  have ra := vals_rep r1 ed
  have fin : ∀ {J : It}, Runs c.w c.K J l G1 → R J H1 := fun {J} ru => k2 G1 H1 fp1 J cfg1 sim1 tr1 ru
  unfold rngD at ew
  split at ew
  · rename_i j
    split at ew
    · rename_i hj
      cases ew
      cases ra with
      | cons z1 z2 =>
        cases z2
        cases z1
        exact .inl ⟨j, rfl, (in62_ok hj).1, (in62_ok hj).2, fin (runs_rng _ _)⟩
    · cases ew
  · rename_i i j
    split at ew
    · rename_i hj
      rw [Bool.and_eq_true] at hj
      cases ew
      cases ra with
      | cons z1 z2 =>
        cases z2 with
        | cons z2 z3 =>
          cases z3
          cases z1
          cases z2
          exact .inr ⟨i, j, rfl, ⟨(in62_ok hj.1).1, (in62_ok hj.1).2, (in62_ok hj.2).1, (in62_ok hj.2).2⟩, fin (runs_rng _ _)⟩
    · cases ew
  · cases ew

theorem di_range1 {a : Expr} {ma : ME Y.S} {p pos : Pos} (ha : DE c Y a ma) (hg : c.sc.names.lookup ("range" : Str) = some .globalImplicit := by rfl) (hm : c.mg "range" = none := by rfl) (h1 : ∀ env, starEach [a] env = [(false, eval a env)] := by intro _; rfl) : DI c Y tg (.Call (.Name "range" p) [a] [] pos) (iRng (aCons ma aNil)) := fun X W ic tk => by
  refine PI.imp (pi_range1 (show X.env.scope.names.lookup _ = _ by rw [ic.sc]; exact hg) (by rw [ic.mg]; exact hm) (pa_cons (ha X W ic tk) pa_nil (h1 _)) (h1 _)) fun σ H R h => ?_
  obtain ⟨wi, G, fp, ρ, s, cfg, k⟩ := acons_imp (rng_imp h)
  refine ⟨wi, G, fp, ρ, s, cfg, k.mono fun x H1 h1 => ?_⟩
  rcases anil_imp h1 with ⟨j, e, q⟩ | ⟨i, j, e, q⟩
  · exact ⟨j, e, q⟩
  · cases e
theorem di_range2 {a b : Expr} {ma mb : ME Y.S} {p pos : Pos} (ha : DE c Y a ma) (hb : DE c Y b mb) (hg : c.sc.names.lookup ("range" : Str) = some .globalImplicit := by rfl) (hm : c.mg "range" = none := by rfl) (h1 : ∀ env, starEach [a, b] env = [(false, eval a env), (false, eval b env)] := by intro _; rfl) (h2 : ∀ env, starEach [b] env = [(false, eval b env)] := by intro _; rfl) : DI c Y tg (.Call (.Name "range" p) [a, b] [] pos) (iRng (aCons ma (aCons mb aNil))) := fun X W ic tk => by
  refine PI.imp (pi_range2 (show X.env.scope.names.lookup _ = _ by rw [ic.sc]; exact hg) (by rw [ic.mg]; exact hm) (pa_cons (ha X W ic tk) (pa_cons (hb X W ic tk) pa_nil (h2 _)) (by rw [h1, h2])) (h1 _) (h2 _)) fun σ H R h => ?_
  obtain ⟨wi, G, fp, ρ, s, cfg, k⟩ := acons_imp (rng_imp h)
  refine ⟨wi, G, fp, ρ, s, cfg, k.mono fun x H1 h1 => ?_⟩
  obtain ⟨wi, G, fp, ρ, s, cfg, k⟩ := acons_imp h1
  refine ⟨wi, G, fp, ρ, s, cfg, k.mono fun y H2 h2 => ?_⟩
  rcases anil_imp h2 with ⟨j, e, q⟩ | ⟨i, j, e, q⟩
  · cases e
  · exact ⟨i, j, e, q⟩
end
end Dy

set_option Elab.async false
set_option linter.all false
set_option maxRecDepth 100000
namespace Dy
open PySem PySem.Spec PyProof.Rows L2
open AutoSeq1 (wpAny_loadPart')

/-! ### enumerate of a tuple -/
theorem meets_enumT (l : Addr) (items : Array Value) (n : Nat) (dct : Option Addr) (sl : Array (Option Value)) :
    Meets (Builtin.«enumerate.__new__» ⟨[.type "enumerate", .ref l], []⟩) (fun _ R s => s.heap.get? l = some { cls := .type "tuple", dict := dct, data := .seq items n, slots := sl } ∧
      R (.ok (.ret (.ref (s.heap.push { cls := .type "tuple_iterator", data := .fields #[.ref l, .int 0 0] }).objs.size)))
        { s with heap := (s.heap.push { cls := .type "tuple_iterator", data := .fields #[.ref l, .int 0 0] }).push { cls := .type "enumerate", data := .fields #[.none, .bool false, .ref s.heap.objs.size, rawInt 0, .none, .none] } }) :=
  .of_wp fun prog w A R s h => by
    obtain ⟨hp, g, d, tk, os⟩ := s; obtain ⟨hl, h⟩ := h
    have hsub := sub_enumerate
    have hL : Heap.IsTuple (Shared.heap ⟨hp, g, d, tk, os⟩) l items := ⟨_, hl, rfl, n, rfl⟩
    wp_walk using wpAny_loadPart' hl
    refine wpAny_stack_any fun st => wpAny_pure ?_
    split
    · rename_i c _ _ _ _ _
      cases (c == Value.type "enumerate")
      · wp_walk using wpAny_loadPart' hl, wpAny_pyIter_tuple hL
        exact ⟨_, rfl, h⟩
      · wp_walk using wpAny_loadPart' hl, wpAny_pyIter_tuple hL
        exact ⟨_, rfl, h⟩
    · wp_walk using wpAny_loadPart' hl, wpAny_pyIter_tuple hL
      exact ⟨_, rfl, h⟩
theorem call_enumT {prog : Program} {w : World} {A : Around} {E : Value → Shared → Prop} {s : Shared} {l : Addr} {items : Array Value} {Q : Value → Shared → Prop} (hL : s.heap.IsTuple l items)
    (h : ∀ h', IsEnum h' (s.heap.objs.size + 1) s.heap.objs.size 0 .none → h'.IsTupleIter s.heap.objs.size l 0 → h'.objs.size = s.heap.objs.size + 2 →
      (∀ b o, s.heap.get? b = some o → h'.get? b = some o) → Q (.ref (s.heap.objs.size + 1)) { s with heap := h' }) :
    wpAny (model prog w) A (call (.type "enumerate") [.ref l]) Q E s := by
  obtain ⟨⟨c, dct, dt, sl⟩, hl, hc, n, hd⟩ := hL
  replace hc : c = .type "tuple" := hc
  replace hd : dt = .seq items n := hd
  subst hc hd
  refine callType_new F.called_enumerate (by decide) (F.typeCall_enumerate_1 _) (F.newCall_enumerate_1 _) (fun obj => F.args_object_init_2 obj _) F.entry_enumerate_new
    (meets_enumT l items n dct sl) ⟨hl, ?_⟩
  have hz : (s.heap.push { cls := .type "tuple_iterator", data := .fields #[.ref l, .int 0 0] }).objs.size = s.heap.objs.size + 1 := Heap.size_push ..
  show _ ∧ _
  rw [hz]
  have he : IsEnum ((s.heap.push { cls := .type "tuple_iterator", data := .fields #[.ref l, .int 0 0] }).push
      { cls := .type "enumerate", data := .fields #[.none, .bool false, .ref s.heap.objs.size, rawInt 0, .none, .none] }) (s.heap.objs.size + 1) s.heap.objs.size 0 .none := by
    have := Heap.get?_push_size (s.heap.push { cls := .type "tuple_iterator", data := .fields #[.ref l, .int 0 0] })
      (o := { cls := .type "enumerate", data := .fields #[.none, .bool false, .ref s.heap.objs.size, rawInt 0, .none, .none] }) rfl
    rw [hz] at this; exact this
  refine ⟨⟨_, he, rfl⟩, h _ he ⟨_, Heap.get?_push_of_some _ (Heap.get?_push_size _ rfl), rfl, rfl⟩ (by rw [Heap.size_push, hz]) fun b o x => Heap.get?_push_of_some _ (Heap.get?_push_of_some _ x)⟩
/-- the tuple at a, each item in a new pair -/
def IteT (K : PySem.W.Frag) (a : Addr) : It :=
  ⟨fun i H => ∃ (xs : List V) (x : V), SqT K H a xs ∧ xs[i]? = some x, fun i H v H' => ∃ T x, v = .ref T ∧ H T = none ∧ H' = upd H T (.tup [.int (i : Nat), x]) ∧ ∀ xs, SqT K H a xs → xs[i]? = some x, fun i H => ∃ xs : List V, SqT K H a xs ∧ xs.length ≤ i⟩
theorem turn_enumT {P : Program} {w : World} {K : PySem.W.Frag} {elts : List Expr} {kk : Nat} {tpos : Pos} (a e it : Addr) (hta : a ≠ it) :
    Turn P w K (.Tuple elts kk tpos) (IteT K a) [e, it] e (fun i h => (∃ old, IsEnum h e it ((i : Nat) : Int) old) ∧ h.IsTupleIter it a i ∧ e ≠ it) where
  mem := by simp
  obj := fun i h st b hb => by
    obtain ⟨⟨old, he⟩, ⟨o, ho, hc, hd⟩, _⟩ := st
    have e' : b = e ∨ b = it := by simpa using hb
    rcases e' with z | z
    · rw [z]; exact ⟨_, he, fun v q => nomatch q⟩
    · rw [z]; exact ⟨o, ho, fun v q => by rw [hd] at q; cases q⟩
  keep := fun i h h' st k => let ⟨⟨old, he⟩, hi, hne⟩ := st; ⟨⟨old, k e (by simp) _ he⟩, hi.at fun o q => k it (by simp) o q, hne⟩
  item := by
    intro X hP hw hK hc i pins s σ H E I hf st hg
    subst hP hw hK
    obtain ⟨⟨old, he⟩, hit, hne⟩ := st
    obtain ⟨xs, x, hq, hx⟩ := hg
    obtain ⟨its, rv, p, hz⟩ := I.tuple hq
    obtain ⟨u, hu, ru⟩ := rv.get hx
    have hel : e < s.heap.objs.size := Heap.lt_size he
    have hil : it < s.heap.objs.size := by obtain ⟨_, q, _⟩ := hit; exact Heap.lt_size q
    have hlt : i < its.toArray.size := by simpa using (List.getElem?_eq_some_iff.mp hu).1
    have hea : e ∉ [it, a] := by
      intro hm
      have e' : e = it ∨ e = a := by simpa using hm
      rcases e' with z | z
      · exact hne z
      · obtain ⟨o1, ho1, hc1, _⟩ := p
        rw [← z, he] at ho1
        cases ho1
        exact absurd (show Value.type "enumerate" = Value.type "tuple" from hc1) (by decide)
    refine wpAny_pyNext_enum_itemD (Draws.tuple (A := X.A.in1) (I.ok.hd hc) it a hta its.toArray) he ⟨hit, p⟩ hlt hne hea fun x' h' tk hP ho hs' hT hsz hk => ?_
    have ex' : x' = u := by
      have hP : its.toArray[i]? = some x' := hP
      rw [List.getElem?_toArray] at hP
      rw [hP] at hu
      cases hu
      rfl
    subst ex'
    refine ⟨_, rfl, wpAny_letOwnedTupleGo_enum (s := { s with heap := h', toks := tk + 1 }) ho fun h'' he' sb => ?_⟩
    have hT2 : h''.get? s.heap.objs.size = some { cls := .type "tuple", data := .seq #[.int i tk, x'] } := (sb.2 _ (Nat.ne_of_gt hel)).trans hT
    have new : ObjOk X.prog X.w (upd H s.heap.objs.size (.tup [.int (i : Nat), x])) h'' s.heap.objs.size (.tup [.int (i : Nat), x]) :=
      ⟨by show 2 ≤ sizeLine; decide, [.int i tk, x'], .cons ⟨_, rfl⟩ (.cons ru .nil), ⟨_, hT2, rfl, _, rfl⟩⟩
    have I1 : L2.Inv X pins σ (upd H s.heap.objs.size (.tup [.int (i : Nat), x])) { s with heap := h'', toks := tk + 1 } :=
      I.turnedNew (ch := [e, it]) (fun b ob hb q => (sb.2 b (fun z => hb (by simp [z]))).trans (hk b ob (fun z => hb (by simp [z])) (fun z => hb (by simp [z])) q)) hf (Nat.le_refl _) new
    refine ⟨.ref s.heap.objs.size, _, I1, rfl, ⟨_, x, rfl, I.hok.fresh (Nat.le_refl _), rfl, fun ys hy => by rw [I.tuple_inj hy hq]; exact hx⟩, ⟨⟨x', ?_⟩, hs'.1.at fun o q => (sb.2 it (Ne.symm hne)).trans q, hne⟩, fun b hb => ?_⟩
    · have e1 : ((i + 1 : Nat) : Int) = (i : Int) + 1 := by omega
      rw [e1]; exact he'
    · have hb' : b < s.heap.objs.size := by
        have e' : b = e ∨ b = it := by simpa using hb
        rcases e' with z | z
        · rw [z]; exact hel
        · rw [z]; exact hil
      rw [upd_ne (Nat.ne_of_lt hb')]
      exact (hf b hb).1
  done := by
    intro X hP hw hK hc i pins s σ H E I hf st hg
    subst hP hw hK
    obtain ⟨⟨old, he⟩, hit, hne⟩ := st
    obtain ⟨xs, hq, hx⟩ := hg
    obtain ⟨its, rv, p, hz⟩ := I.tuple hq
    obtain ⟨f0, f1, f2, f3, f4, f5⟩ := hf it (by simp)
    have hl := rv.length
    have hT : s.TypeIs (.ref e) "enumerate" := ⟨_, he, rfl⟩
    unfold pyNext
    refine wpAny_bind (wpAny_attempt (wpAny_callSpecial?_slot (name := Str.ofString "__next__") hT F.slot_enumerate_next
      (wpAny_call_entry F.slot_enumerate_next hT F.entry_enumerate_next ?_ (F.args_enumerate_next_1 _))))
    show wpAny _ _ (field (.ref e) 2 >>= _) _ _ _
    refine wpAny_bind (wpAny_field he rfl (x := .ref it) rfl ?_)
    refine wpAny_bind (wpAny_nextOf_tuple_end (I.ok.hd hc) hit p (by simp; omega) fun h' x he' hx' => ?_)
    obtain ⟨o, ho, hc'⟩ := hx'
    refine wpAny_bind (wpAny_isInstance (T := "StopIteration") (b := true) ⟨o, ho, hc'⟩ isSubtype_stop ?_)
    exact wpAny_pure ⟨rfl, I.turned (t' := s.toks) (fun b o hb q => he' b o hb q) f0 f1 f3 f4 f5⟩
  self := fun A i s Q E st h => let ⟨⟨_, he⟩, _⟩ := st; wpAny_pyIter_enum he h

/-- enumerate(l), a list or a tuple -/
def iEnumA (K : PySem.W.Frag) (ta : TA) : TI := fun σ H R => ta σ H fun vs H1 => (∃ a xs, vs = [.ref a] ∧ SqL K H1 a xs ∧ R (Ite K a) H1) ∨ ∃ a xs, vs = [.ref a] ∧ SqT K H1 a xs ∧ R (IteT K a) H1
theorem pi_enumA {X : Cx} {e : Expr} {ta : TA} {p pos tpos : Pos} {elts : List Expr} {kk : Nat} (hg : Gl X "enumerate") (hm : X.mg "enumerate" = none) (ha : PA X [e] ta) (hs : starEach [e] X.env = [(false, eval e X.env)]) :
    PI X (.Tuple elts kk tpos) (.Call (.Name "enumerate" p) [e] [] pos) (iEnumA X.K ta) := by
  refine ⟨fun pins s σ H R I h => ?_⟩
  refine Call_ (ld_blt I hg hm boot_enumerate (PyProof.Rows.callWith_type1 (thn (ha.run pos pins s σ H _ I h) fun us s1 ⟨vs, H1, I1, r1, q1⟩ => ?_) hs rfl))
  have old : ∀ b, b ∈ [s1.heap.objs.size + 1, s1.heap.objs.size] → FpOk X pins H1 b := fun b hb => by
    have e' : b = s1.heap.objs.size + 1 ∨ b = s1.heap.objs.size := by simpa using hb
    have hle : s1.heap.objs.size ≤ b := by
      rcases e' with z | z
      · rw [z]; exact Nat.le_add_right _ _
      · rw [z]; exact Nat.le_refl _
    exact I1.fpOk hle (I1.hok.fresh hle)
  rcases q1 with ⟨a, xs, rfl, hq, q⟩ | ⟨a, xs, rfl, hq, q⟩
  · cases r1 with
    | cons r rr =>
      cases rr
      cases r
      obtain ⟨its, rv, p', hz⟩ := I1.list hq
      refine call_enumerate_list p'.isList fun h' he hit hsz hk => wpAny_pyIter_enum he ?_
      have I2 : L2.Inv X pins σ H1 { s1 with heap := h' } := I1.kept (t' := s1.toks) hk
      exact ⟨s1.heap.objs.size + 1, [s1.heap.objs.size + 1, s1.heap.objs.size], _, _, H1, rfl, I2, turn_enum a (s1.heap.objs.size + 1) s1.heap.objs.size, ⟨⟨.none, he⟩, hit, Nat.succ_ne_self _⟩, old, q⟩
  · cases r1 with
    | cons r rr =>
      cases rr
      cases r
      obtain ⟨its, rv, p', hz⟩ := I1.tuple hq
      refine call_enumT p' fun h' he hit hsz hk => wpAny_pyIter_enum he ?_
      have I2 : L2.Inv X pins σ H1 { s1 with heap := h' } := I1.kept (t' := s1.toks) hk
      exact ⟨s1.heap.objs.size + 1, [s1.heap.objs.size + 1, s1.heap.objs.size], _, _, H1, rfl, I2, turn_enumT a (s1.heap.objs.size + 1) s1.heap.objs.size (Nat.ne_of_lt p'.lt), ⟨⟨.none, he⟩, hit, Nat.succ_ne_self _⟩, old, q⟩

/-- the pairs of a walk with numbers -/
def enumL (l : List D) : List D := (List.range l.length).zipWith (fun (i : Nat) d => PyData.tuple [.int (i : Int), d]) l
theorem enumL_length (l : List D) : (enumL l).length = l.length := by
  unfold enumL
  rw [List.length_zipWith, List.length_range, Nat.min_self]
theorem enumL_get {l : List D} {i : Nat} {d : D} (h : l[i]? = some d) : (enumL l)[i]? = some (.tuple [.int (i : Int), d]) := by
  unfold enumL
  have hi := (List.getElem?_eq_some_iff.mp h).1
  rw [List.getElem?_zipWith, List.getElem?_range hi, h]
def seqD : D → Option (List D)
  | .list l => some l
  | .tuple l => some l
  | _ => none
def iEnumM {S : Type} (ma : MA S) : MI S := fun ρ s => (ma ρ s).bind fun os ρ s => .of ((vals os).bind fun l => match l with
  | [d] => (seqD d).map enumL
  | _ => none) ρ s
section
variable {c : CC} {Y : Sy} {e : Expr} {me : ME Y.S} {w : World} {K : PySem.W.Frag} {G : Hp}
theorem runs_enumT {a : Addr} {l : List D} {vs : List V} (h : SqT K G a vs) (r : RepA w K G l vs) : Runs w K (IteT K a) (enumL l) G where
  go := fun i H sg hi => by
    have hi : i < (enumL l).length := hi
    rw [enumL_length] at hi
    exact ⟨vs, vs[i]'(by rw [← r.length]; exact hi), sqT_same sg h, List.getElem?_eq_getElem _⟩
  stop := fun H sg => ⟨vs, sqT_same sg h, by rw [enumL_length, r.length]; exact Nat.le_refl _⟩
  yld := fun i H x H' sg hi y => by
    obtain ⟨T, u, rfl, hT, rfl, hx⟩ := y
    obtain ⟨d, hd, rd⟩ := r.getV (hx vs (sqT_same sg h))
    exact ⟨_, enumL_get hd, .inr ⟨T, [.int (i : Int), d], _, hT, rfl, rfl, rfl, .cons (.int _) (.cons rd .nil)⟩⟩
theorem runs_enumL {a : Addr} {l : List D} {vs : List V} (h : G a = some (.lst vs)) (r : RepA w K G l vs) : Runs w K (Ite K a) (enumL l) G where
  go := fun i H sg hi => by
    have hi : i < (enumL l).length := hi
    rw [enumL_length] at hi
    exact ⟨vs, vs[i]'(by rw [← r.length]; exact hi), .inl (.inl (sg _ _ h)), List.getElem?_eq_getElem _⟩
  stop := fun H sg => ⟨vs, .inl (.inl (sg _ _ h)), by rw [enumL_length, r.length]; exact Nat.le_refl _⟩
  yld := fun i H x H' sg hi y => by
    obtain ⟨T, u, rfl, hT, rfl, hx⟩ := y
    obtain ⟨d, hd, rd⟩ := r.getV (hx vs (.inl (.inl (sg _ _ h))))
    exact ⟨_, enumL_get hd, .inr ⟨T, [.int (i : Int), d], _, hT, rfl, rfl, rfl, .cons (.int _) (.cons rd .nil)⟩⟩
theorem enum_imp {W : WX} {σ : L2.St} {H : Hp} {R : It → Hp → Prop} {ma : MA Y.S} (h : tI c Y W (iEnumM ma) σ H R) : iEnumA c.K (tA c Y W ma) σ H R := by
  obtain ⟨wi, G, fp, ρ, s, cfg, k⟩ := h
  refine ⟨wi, G, fp, ρ, s, cfg, (Cont.bindL k).mono fun vs H1 ⟨G1, fp1, ρ1, s1, os, cfg1, sim1, tr1, r1, k1⟩ => ?_⟩
  obtain ⟨l, el, k2⟩ := of_some k1
  obtain ⟨ds, ed, ew⟩ := bind_some_eq el
  have ra := vals_rep r1 ed
  have fin : ∀ {J : It}, Runs c.w c.K J l G1 → R J H1 := fun {J} ru => k2 G1 H1 fp1 J cfg1 sim1 tr1 ru
  split at ew
  · rename_i d
    cases ra with
    | cons z1 z2 =>
      cases z2
      cases d with
      | list m =>
        cases ew
        cases z1 with
        | lst h1 t => exact .inl ⟨_, _, rfl, .inl (.inl (cfg1.sub _ _ h1)), fin (runs_enumL h1 t)⟩
      | tuple m =>
        cases ew
        cases z1 with
        | tup h1 t => exact .inr ⟨_, _, rfl, sqT_same cfg1.sub h1, fin (runs_enumT h1 t)⟩
      | _ => cases ew
  · cases ew
theorem di_enum {p pos tpos : Pos} {elts : List Expr} {kk : Nat} (he : DE c Y e me) (hg : c.sc.names.lookup ("enumerate" : Str) = some .globalImplicit := by rfl) (hm : c.mg "enumerate" = none := by rfl) (h1 : ∀ env, starEach [e] env = [(false, eval e env)] := by intro _; rfl) :
    DI c Y (.Tuple elts kk tpos) (.Call (.Name "enumerate" p) [e] [] pos) (iEnumM (aCons me aNil)) := fun X W ic tk => by
  refine PI.imp (pi_enumA (show X.env.scope.names.lookup _ = _ by rw [ic.sc]; exact hg) (by rw [ic.mg]; exact hm) (pa_cons (he X W ic tk) pa_nil (h1 _)) (h1 _)) fun σ H R h => ?_
  rw [ic.K]
  have q := enum_imp h
  obtain ⟨wi, G, fp, ρ, s, cfg, k⟩ := acons_imp q
  exact ⟨wi, G, fp, ρ, s, cfg, k.mono fun x H1 h1 => anil_imp h1⟩
end
end Dy

set_option Elab.async false
set_option linter.all false
set_option maxRecDepth 100000
namespace Dy
open PySem PySem.Spec PyProof.Rows L2

/-! ### calls of builtins -/
inductive VwA (w : World) (K : PySem.W.Frag) (G H : Hp) : List D → List V → Prop
  | nil : VwA w K G H [] []
  | cons {d v ds vs} : Vw w K G H d v → VwA w K G H ds vs → VwA w K G H (d :: ds) (v :: vs)
def rds (ρ : Fr) : List Out → Option (List D)
  | [] => some []
  | o :: os => match rd ρ o, rds ρ os with
    | some d, some ds => some (d :: ds)
    | _, _ => none
/-- a call by values keeps to f -/
def SndC (c : CC) (r : List V → Hp → VK → Prop) (f : List D → Option Out) : Prop := ∀ (Y : Sy) (W : WX) (wi : Y.W) (G H : Hp) (fp : Addr → Prop) (σ : L2.St) (ρ : Fr) (s : Y.S) (ds : List D) (vs : List V) (o : Out) (Q : VK), Cfg c.w c.K Y wi G H fp σ ρ s → VwA c.w c.K G H ds vs → f ds = some o →
  Cont c Y W (relO c Y wi) wi G H fp σ ρ Q (.ok o ρ s) → r vs H Q
def eBi {S : Type} (f : List D → Option Out) (ma : MA S) : ME S := fun ρ s => (ma ρ s).bind fun os ρ s => .of ((rds ρ os).bind f) ρ s
section
variable {c : CC} {Y : Sy} {e : Expr} {es : List Expr} {ma : MA Y.S} {p pos : Pos} {x : Str} {id T : String} {r : List V → Hp → VK → Prop} {f : List D → Option Out}
theorem rds_vw {wi : Y.W} {G H H0 : Hp} {fp : Addr → Prop} {σ : L2.St} {ρ : Fr} {s : Y.S} (cfg : Cfg c.w c.K Y wi G H fp σ ρ s) : ∀ {os : List Out} {vs : List V} {ds : List D}, RepOs c Y wi H0 G H fp σ ρ os vs → rds ρ os = some ds → VwA c.w c.K G H ds vs
  | _, _, _, .nil, e => by
    cases e
    exact .nil
  | o :: os, _, _, .cons h t, e => by
    unfold rds at e
    cases e1 : rd ρ o with
    | none =>
      rw [e1] at e
      cases e
    | some d =>
      cases e2 : rds ρ os with
      | none =>
        rw [e1, e2] at e
        cases e
      | some ds =>
        rw [e1, e2] at e
        cases e
        exact .cons (cfg.vw h e1) (rds_vw cfg t e2)
theorem bi_imp {W : WX} {σ : L2.St} {H : Hp} {Q : VK} (hs : SndC c r f) (h : tE c Y W (eBi f ma) σ H Q) : tCB r (tA c Y W ma) σ H Q := by
  obtain ⟨wi, G, fp, ρ, s, cfg, k⟩ := h
  refine ⟨wi, G, fp, ρ, s, cfg, (Cont.bindL k).mono fun vs H1 ⟨G1, fp1, ρ1, s1, os, cfg1, sim1, tr1, r1, k1⟩ => ?_⟩
  obtain ⟨o, eo, k2⟩ := of_some (k1.shift early_O tr1 sim1)
  obtain ⟨ds, ed, ef⟩ := bind_some_eq eo
  exact hs Y W wi G1 H1 fp1 σ ρ1 s1 ds vs o Q cfg1 (rds_vw cfg1 r1 ed) ef k2
theorem de_bi (hc : ∀ X, InC c X → CallR X (.builtin id) r) (hs : SndC c r f) (ha : DA c Y (e :: es) ma) (hv : bootBuiltins x = some (.builtin id)) (hg : c.sc.names.lookup x = some .globalImplicit := by rfl) (hm : c.mg x = none := by rfl) (hn : x ≠ "__name__" := by decide) (hdb : (x == ("__debug__" : Str)) = false := by decide)
    (he : ∀ env, starEach (e :: es) env = (false, eval e env) :: starEach es env := by intro _; rfl) (hpl : ∀ env, (backTo pos (starEach es env)).any (·.1) = false := by intro _; rfl) : DE c Y (.Call (.Name x p) (e :: es) [] pos) (eBi f ma) := fun X W ic tk =>
  PE.imp (pe_callB (hc X ic) (show X.env.scope.names.lookup _ = _ by rw [ic.sc]; exact hg) (by rw [ic.mg]; exact hm) hv (ha X W ic tk) hn hdb (he _) (hpl _)) fun σ H Q h => bi_imp hs h
theorem de_ty (hc : ∀ X, InC c X → CallR X (.type T) r) (hs : SndC c r f) (ha : DA c Y (e :: es) ma) (hv : bootBuiltins x = some (.type T)) (hg : c.sc.names.lookup x = some .globalImplicit := by rfl) (hm : c.mg x = none := by rfl) (hn : x ≠ "__name__" := by decide) (hdb : (x == ("__debug__" : Str)) = false := by decide)
    (he : ∀ env, starEach (e :: es) env = (false, eval e env) :: starEach es env := by intro _; rfl) (hpl : ∀ env, (backTo pos (starEach es env)).any (·.1) = false := by intro _; rfl) : DE c Y (.Call (.Name x p) (e :: es) [] pos) (eBi f ma) := fun X W ic tk =>
  PE.imp (pe_callTy (hc X ic) (show X.env.scope.names.lookup _ = _ by rw [ic.sc]; exact hg) (by rw [ic.mg]; exact hm) hv (ha X W ic tk) hn hdb (he _) (hpl _)) fun σ H Q h => bi_imp hs h
theorem CallR.or {X : Cx} {f : Value} {r r' : List V → Hp → VK → Prop} (h : CallR X f r) (h' : CallR X f r') : CallR X f fun xs H Q => r xs H Q ∨ r' xs H Q := fun pins s σ H xs us Q I rv q => q.elim (h pins s σ H xs us Q I rv) (h' pins s σ H xs us Q I rv)
theorem SndC.or {r' : List V → Hp → VK → Prop} {f' : List D → Option Out} (h : SndC c r f) (h' : SndC c r' f') : SndC c (fun xs H Q => r xs H Q ∨ r' xs H Q) fun ds => (f ds).or (f' ds) := fun Y W wi G H fp σ ρ s ds vs o Q cfg va e k => by
  have e : (f ds).or (f' ds) = some o := e
  cases ef : f ds with
  | some o' =>
    rw [ef] at e
    cases e
    exact .inl (h Y W wi G H fp σ ρ s ds vs o Q cfg va ef k)
  | none =>
    rw [ef] at e
    exact .inr (h' Y W wi G H fp σ ρ s ds vs o Q cfg va e k)

/-! len -/
def lenD : List D → Option Out
  | [.list l] => some (.val (.int (l.length : Int)))
  | [.tuple l] => some (.val (.int (l.length : Int)))
  | [.str z] => if sizeOk z.length then some (.val (.int (z.length : Int))) else none
  | [.dict l] => some (.val (.int (l.length : Int)))
  | _ => none
def rLen (w : World) (K : PySem.W.Frag) : List V → Hp → VK → Prop := fun xs H Q => (∃ p ys, xs = [.ref p] ∧ (SqL K H p ys ∨ SqT K H p ys) ∧ Q (.int ys.length) H) ∨ (∃ z, xs = [.str z] ∧ z.length ≤ sizeLine ∧ Q (.int z.length) H) ∨ ∃ a es ep, xs = [.ref a] ∧ H a = some (.ext (IsO a (dObj es ep))) ∧ (a == sysModules) = false ∧ es.length ≤ sizeLine ∧ Q (.int es.length) H
theorem cr_len (X : Cx) (ic : InC c X) : CallR X (.builtin "len") (rLen c.w c.K) := by
  rw [← ic.K]
  intro pins s σ H xs us Q I rv h
  rcases h with h | h | ⟨a, es, ep, rfl, ha, hsys, hz, q⟩
  · exact call_len_seq pins s σ H xs us Q I rv h
  · exact call_len_str pins s σ H xs us Q I rv h
  · cases rv with
    | cons r1 r2 =>
      cases r2
      cases r1
      have hg := isO_at I ha
      have e1 : es.toArray.size = es.length := List.size_toArray
      have hl := line63
      have hr : s.heap.DictRaw a es.toArray ep := ⟨_, hg, ⟨rfl, rfl, rfl⟩, rfl⟩
      refine Calls.call_function_entry kind_len plain_len entry_len (args_len1 _) ?_
      unfold Builtin.«len»
      refine wpAny_bind (m := oneArg "len" _) (wpAny_pure ?_)
      refine wpAny_bind (m := callSpecial? (.ref a) (Str.ofString "__len__")) (wpAny_callSpecial?_slot (name := Str.ofString "__len__") (dTy hg) F.slot_dict_len (call_len_raw hsys hr ?_))
      rw [e1]
      show wpAny _ _ _ _ _ { s with toks := s.toks + 1 }
      refine wpAny_bind (wpAny_holding (wpAny_pure ?_))
      refine wpAny_bind (wpAny_letGo ?_)
      show wpAny _ _ (if ((es.length : Nat) : Int) < 0 then _ else _) _ _ _
      rw [if_neg (by omega)]
      show wpAny _ _ (if ((es.length : Nat) : Int) ≥ 2 ^ 63 then _ else _) _ _ _
      rw [if_neg (by omega)]
      exact wpAny_bind (wpAny_mkInt (wpAny_pure ⟨_, rfl, .int (es.length : Nat), H, I.tok _, ⟨_, rfl⟩, q⟩))
theorem vw1 {G H : Hp} {w : World} {K : PySem.W.Frag} {d : D} {vs : List V} (h : VwA w K G H [d] vs) : ∃ v, vs = [v] ∧ Vw w K G H d v := by
  cases h with
  | cons h t =>
    cases t
    exact ⟨_, rfl, h⟩
theorem vw2 {G H : Hp} {w : World} {K : PySem.W.Frag} {d e : D} {vs : List V} (h : VwA w K G H [d, e] vs) : ∃ v u, vs = [v, u] ∧ Vw w K G H d v ∧ Vw w K G H e u := by
  cases h with
  | cons h t =>
    cases t with
    | cons h2 t =>
      cases t
      exact ⟨_, _, rfl, h, h2⟩
theorem sn_len : SndC c (rLen c.w c.K) lenD := fun Y W wi G H fp σ ρ s ds vs o Q cfg va e k => by
  unfold lenD at e
  split at e
  · cases e
    obtain ⟨v, rfl, a, xs, rfl, h, r⟩ := vw1 va
    exact .inl ⟨a, xs, rfl, .inl (.inl (.inl h)), by rw [← r.length]; exact fin_val cfg k (.int _)⟩
  · cases e
    obtain ⟨v, rfl, hv⟩ := vw1 va
    obtain ⟨a, xs, rfl, h, r⟩ := vw_tup hv
    exact .inl ⟨a, xs, rfl, .inr (sqT_same cfg.sub h), by rw [← r.length]; exact fin_val cfg k (.int _)⟩
  · split at e
    · rename_i hz
      cases e
      obtain ⟨v, rfl, hv⟩ := vw1 va
      rw [vw_str hv]
      exact .inr (.inl ⟨_, rfl, sizeOk_le hz, fin_val cfg k (.int _)⟩)
    · cases e
  · cases e
    obtain ⟨v, rfl, a, rfl, h⟩ := vw1 va
    obtain ⟨es, ep, h1, h2, x⟩ := h.dx
    exact .inr (.inr ⟨a, es, ep, rfl, h1, h2, by rw [x.len]; exact x.1, by rw [x.len]; exact fin_val cfg k (.int _)⟩)
  · cases e
theorem de_len (ha : DA c Y (e :: es) ma) (hg : c.sc.names.lookup ("len" : Str) = some .globalImplicit := by rfl) (hm : c.mg "len" = none := by rfl)
    (he : ∀ env, starEach (e :: es) env = (false, eval e env) :: starEach es env := by intro _; rfl) (hpl : ∀ env, (backTo pos (starEach es env)).any (·.1) = false := by intro _; rfl) : DE c Y (.Call (.Name "len" p) (e :: es) [] pos) (eBi lenD ma) :=
  de_bi cr_len sn_len ha (by decide +kernel) hg hm (by decide) (by decide) he hpl

/-! list, tuple, int, abs, max, min of two -/
def listD : List D → Option Out
  | [.list l] => some (.newl l)
  | [.tuple l] => some (.newl l)
  | _ => none
theorem sn_list : SndC c (fun xs H Q => ∃ p ys, xs = [.ref p] ∧ (SqL c.K H p ys ∨ SqT c.K H p ys) ∧ ∀ l, H l = none → Q (.ref l) (upd H l (.lst ys))) listD := fun Y W wi G H fp σ ρ s ds vs o Q cfg va e k => by
  unfold listD at e
  split at e
  · cases e
    obtain ⟨v, rfl, a, xs, rfl, h, r⟩ := vw1 va
    exact ⟨a, xs, rfl, .inl (.inl (.inl h)), fun l hl => fin_lst cfg k r hl⟩
  · cases e
    obtain ⟨v, rfl, hv⟩ := vw1 va
    obtain ⟨a, xs, rfl, h, r⟩ := vw_tup hv
    exact ⟨a, xs, rfl, .inr (sqT_same cfg.sub h), fun l hl => fin_lst cfg k r hl⟩
  · cases e
theorem cr_list (X : Cx) (ic : InC c X) : CallR X (.type "list") (fun xs H Q => ∃ p ys, xs = [.ref p] ∧ (SqL c.K H p ys ∨ SqT c.K H p ys) ∧ ∀ l, H l = none → Q (.ref l) (upd H l (.lst ys))) := by
  rw [← ic.K]
  exact call_list_of
def tupD : List D → Option Out
  | [.list l] => some (.val (.tuple l))
  | [.tuple l] => some (.val (.tuple l))
  | _ => none
theorem sn_tup : SndC c (fun xs H Q => ∃ p ys, xs = [.ref p] ∧ ((SqL c.K H p ys ∧ ∀ l, H l = none → Q (.ref l) (upd H l (.tup ys))) ∨ (SqT c.K H p ys ∧ Q (.ref p) H))) tupD := fun Y W wi G H fp σ ρ s ds vs o Q cfg va e k => by
  unfold tupD at e
  split at e
  · cases e
    obtain ⟨v, rfl, a, xs, rfl, h, r⟩ := vw1 va
    exact ⟨a, xs, rfl, .inl ⟨.inl (.inl h), fun l hl => fin_tup cfg k r hl⟩⟩
  · cases e
    obtain ⟨v, rfl, hv⟩ := vw1 va
    obtain ⟨a, xs, rfl, h, r⟩ := vw_tup hv
    exact ⟨a, xs, rfl, .inr ⟨sqT_same cfg.sub h, fin_val cfg k (.tup h r)⟩⟩
  · cases e
theorem cr_tup (X : Cx) (ic : InC c X) : CallR X (.type "tuple") (fun xs H Q => ∃ p ys, xs = [.ref p] ∧ ((SqL c.K H p ys ∧ ∀ l, H l = none → Q (.ref l) (upd H l (.tup ys))) ∨ (SqT c.K H p ys ∧ Q (.ref p) H))) := by
  rw [← ic.K]
  exact call_tuple_of
def intD : List D → Option Out
  | [.int i] => some (.val (.int i))
  | [.bool b] => some (.val (.int (if b then 1 else 0)))
  | _ => none
theorem sn_int : SndC c (fun xs H Q => (∃ i, xs = [.int i] ∧ Q (.int i) H) ∨ ∃ k, xs = [.bl k] ∧ Q (.int (if k then 1 else 0)) H) intD := fun Y W wi G H fp σ ρ s ds vs o Q cfg va e k => by
  unfold intD at e
  split at e
  · cases e
    obtain ⟨v, rfl, hv⟩ := vw1 va
    rw [vw_int hv]
    exact .inl ⟨_, rfl, fin_val cfg k (.int _)⟩
  · cases e
    obtain ⟨v, rfl, hv⟩ := vw1 va
    rw [vw_bl hv]
    exact .inr ⟨_, rfl, fin_val cfg k (.int _)⟩
  · cases e
def absD : List D → Option Out
  | [.int i] => some (.val (.int (if i < 0 then -i else i)))
  | _ => none
theorem sn_abs : SndC c (fun xs H Q => ∃ i, xs = [.int i] ∧ Q (.int (if i < 0 then -i else i)) H) absD := fun Y W wi G H fp σ ρ s ds vs o Q cfg va e k => by
  unfold absD at e
  split at e
  · cases e
    obtain ⟨v, rfl, hv⟩ := vw1 va
    rw [vw_int hv]
    exact ⟨_, rfl, fin_val cfg k (.int _)⟩
  · cases e
def max2D : List D → Option Out
  | [.int i, .int j] => some (.val (.int (if j > i then j else i)))
  | _ => none
theorem sn_max2 : SndC c (fun xs H Q => ∃ i j, xs = [.int i, .int j] ∧ Q (.int (if j > i then j else i)) H) max2D := fun Y W wi G H fp σ ρ s ds vs o Q cfg va e k => by
  unfold max2D at e
  split at e
  · cases e
    obtain ⟨v, u, rfl, hv, hu⟩ := vw2 va
    rw [vw_int hv, vw_int hu]
    exact ⟨_, _, rfl, fin_val cfg k (.int _)⟩
  · cases e
def min2D : List D → Option Out
  | [.int i, .int j] => some (.val (.int (if j < i then j else i)))
  | _ => none
theorem sn_min2 : SndC c (fun xs H Q => ∃ i j, xs = [.int i, .int j] ∧ Q (.int (if j < i then j else i)) H) min2D := fun Y W wi G H fp σ ρ s ds vs o Q cfg va e k => by
  unfold min2D at e
  split at e
  · cases e
    obtain ⟨v, u, rfl, hv, hu⟩ := vw2 va
    rw [vw_int hv, vw_int hu]
    exact ⟨_, _, rfl, fin_val cfg k (.int _)⟩
  · cases e
theorem de_list (ha : DA c Y (e :: es) ma) (hg : c.sc.names.lookup ("list" : Str) = some .globalImplicit := by rfl) (hm : c.mg "list" = none := by rfl)
    (he : ∀ env, starEach (e :: es) env = (false, eval e env) :: starEach es env := by intro _; rfl) (hpl : ∀ env, (backTo pos (starEach es env)).any (·.1) = false := by intro _; rfl) : DE c Y (.Call (.Name "list" p) (e :: es) [] pos) (eBi listD ma) :=
  de_ty cr_list sn_list ha (by decide +kernel) hg hm (by decide) (by decide) he hpl
theorem de_tuple (ha : DA c Y (e :: es) ma) (hg : c.sc.names.lookup ("tuple" : Str) = some .globalImplicit := by rfl) (hm : c.mg "tuple" = none := by rfl)
    (he : ∀ env, starEach (e :: es) env = (false, eval e env) :: starEach es env := by intro _; rfl) (hpl : ∀ env, (backTo pos (starEach es env)).any (·.1) = false := by intro _; rfl) : DE c Y (.Call (.Name "tuple" p) (e :: es) [] pos) (eBi tupD ma) :=
  de_ty cr_tup sn_tup ha (by decide +kernel) hg hm (by decide) (by decide) he hpl
theorem de_intC (ha : DA c Y (e :: es) ma) (hg : c.sc.names.lookup ("int" : Str) = some .globalImplicit := by rfl) (hm : c.mg "int" = none := by rfl)
    (he : ∀ env, starEach (e :: es) env = (false, eval e env) :: starEach es env := by intro _; rfl) (hpl : ∀ env, (backTo pos (starEach es env)).any (·.1) = false := by intro _; rfl) : DE c Y (.Call (.Name "int" p) (e :: es) [] pos) (eBi intD ma) :=
  de_ty (fun _ _ => call_int1) sn_int ha (by decide +kernel) hg hm (by decide) (by decide) he hpl
theorem de_abs (ha : DA c Y (e :: es) ma) (hg : c.sc.names.lookup ("abs" : Str) = some .globalImplicit := by rfl) (hm : c.mg "abs" = none := by rfl)
    (he : ∀ env, starEach (e :: es) env = (false, eval e env) :: starEach es env := by intro _; rfl) (hpl : ∀ env, (backTo pos (starEach es env)).any (·.1) = false := by intro _; rfl) : DE c Y (.Call (.Name "abs" p) (e :: es) [] pos) (eBi absD ma) :=
  de_bi (fun _ _ => call_abs) sn_abs ha (by decide +kernel) hg hm (by decide) (by decide) he hpl
theorem de_max2 (ha : DA c Y (e :: es) ma) (hc : c.calm = true := by rfl) (hg : c.sc.names.lookup ("max" : Str) = some .globalImplicit := by rfl) (hm : c.mg "max" = none := by rfl)
    (he : ∀ env, starEach (e :: es) env = (false, eval e env) :: starEach es env := by intro _; rfl) (hpl : ∀ env, (backTo pos (starEach es env)).any (·.1) = false := by intro _; rfl) : DE c Y (.Call (.Name "max" p) (e :: es) [] pos) (eBi max2D ma) :=
  de_bi (fun X ic => call_max2 (ic.calm.trans hc)) sn_max2 ha (by decide +kernel) hg hm (by decide) (by decide) he hpl
theorem de_min2 (ha : DA c Y (e :: es) ma) (hc : c.calm = true := by rfl) (hg : c.sc.names.lookup ("min" : Str) = some .globalImplicit := by rfl) (hm : c.mg "min" = none := by rfl)
    (he : ∀ env, starEach (e :: es) env = (false, eval e env) :: starEach es env := by intro _; rfl) (hpl : ∀ env, (backTo pos (starEach es env)).any (·.1) = false := by intro _; rfl) : DE c Y (.Call (.Name "min" p) (e :: es) [] pos) (eBi min2D ma) :=
  de_bi (fun X ic => call_min2 (ic.calm.trans hc)) sn_min2 ha (by decide +kernel) hg hm (by decide) (by decide) he hpl

/-! all, any of bools -/
def boolsOf : List D → Option (List Bool)
  | [] => some []
  | .bool b :: r => (boolsOf r).map (b :: ·)
  | _ => none
theorem boolsOf_map : ∀ {l : List D} {bs : List Bool}, boolsOf l = some bs → l = bs.map .bool
  | [], _, h => by
    cases h
    rfl
  | .bool i :: r, ns, h => by
    unfold boolsOf at h
    cases e : boolsOf r with
    | none =>
      rw [e] at h
      cases h
    | some ms =>
      rw [e] at h
      cases h
      rw [boolsOf_map e]
      rfl
  | .none :: r, ns, h => by cases h
  | .int _ :: r, ns, h => by cases h
  | .str _ :: r, ns, h => by cases h
  | .list _ :: r, ns, h => by cases h
  | .tuple _ :: r, ns, h => by cases h
  | .dict _ :: r, ns, h => by cases h
theorem repA_bls {w : World} {K : PySem.W.Frag} {G : Hp} : ∀ {ns : List Bool} {vs : List V}, RepA w K G (ns.map .bool) vs → vs = ns.map V.bl
  | [], _, h => by
    cases h
    rfl
  | n :: ns, _, h => by
    cases h with
    | cons h t =>
      cases h
      rw [repA_bls t]
      rfl
def allD : List D → Option Out
  | [.list l] => (boolsOf l).map fun bs => .val (.bool (bs.all fun b => b))
  | _ => none
def anyD : List D → Option Out
  | [.list l] => (boolsOf l).map fun bs => .val (.bool (bs.any fun b => b))
  | _ => none
theorem sn_all : SndC c (rAll c.K) allD := fun Y W wi G H fp σ ρ s ds vs o Q cfg va e k => by
  unfold allD at e
  split at e
  · rename_i l
    cases eb : boolsOf l with
    | none =>
      rw [eb] at e
      cases e
    | some bs =>
      rw [eb] at e
      cases e
      obtain ⟨v, rfl, a, xs, rfl, h, r⟩ := vw1 va
      rw [boolsOf_map eb] at r
      have ex := repA_bls r
      subst ex
      exact ⟨a, bs, rfl, .inl (.inl h), fin_val cfg k (.bl _)⟩
  · cases e
theorem sn_any : SndC c (rAny c.K) anyD := fun Y W wi G H fp σ ρ s ds vs o Q cfg va e k => by
  unfold anyD at e
  split at e
  · rename_i l
    cases eb : boolsOf l with
    | none =>
      rw [eb] at e
      cases e
    | some bs =>
      rw [eb] at e
      cases e
      obtain ⟨v, rfl, a, xs, rfl, h, r⟩ := vw1 va
      rw [boolsOf_map eb] at r
      have ex := repA_bls r
      subst ex
      exact ⟨a, bs, rfl, .inl (.inl h), fin_val cfg k (.bl _)⟩
  · cases e
theorem de_all (ha : DA c Y (e :: es) ma) (hc : c.calm = true := by rfl) (hg : c.sc.names.lookup ("all" : Str) = some .globalImplicit := by rfl) (hm : c.mg "all" = none := by rfl)
    (he : ∀ env, starEach (e :: es) env = (false, eval e env) :: starEach es env := by intro _; rfl) (hpl : ∀ env, (backTo pos (starEach es env)).any (·.1) = false := by intro _; rfl) : DE c Y (.Call (.Name "all" p) (e :: es) [] pos) (eBi allD ma) :=
  de_bi (fun X ic => by rw [← ic.K]; exact cr_all (ic.calm.trans hc)) sn_all ha (by decide +kernel) hg hm (by decide) (by decide) he hpl
theorem de_any (ha : DA c Y (e :: es) ma) (hc : c.calm = true := by rfl) (hg : c.sc.names.lookup ("any" : Str) = some .globalImplicit := by rfl) (hm : c.mg "any" = none := by rfl)
    (he : ∀ env, starEach (e :: es) env = (false, eval e env) :: starEach es env := by intro _; rfl) (hpl : ∀ env, (backTo pos (starEach es env)).any (·.1) = false := by intro _; rfl) : DE c Y (.Call (.Name "any" p) (e :: es) [] pos) (eBi anyD ma) :=
  de_bi (fun X ic => by rw [← ic.K]; exact cr_any (ic.calm.trans hc)) sn_any ha (by decide +kernel) hg hm (by decide) (by decide) he hpl
end
end Dy

set_option Elab.async false
set_option linter.all false
set_option maxRecDepth 100000
/-! set(t), t a tuple of ints: as a table that can be walked -/
namespace Dy
open PySem PySem.Spec PyProof.Rows L2

section
variable {prog : Program} {w : World} {A : Around} {R : Result → Shared → Prop} {I : Addr} {fp wr : List Addr} {g : Array GenState → Array GenState → Prop} {n : Nat} {P : Nat → Value → Prop} {St : Nat → Shared → Prop}
theorem SetR.to {h : Heap} {a : Addr} {S S' : Int → Bool} {n n' : Nat} (x : SetR w h a S n) (e : ∀ k, S k = S' k) (en : n = n') : SetR w h a S' n' := by
  have : S = S' := funext e
  subst this en
  exact x
theorem set_loop (W : WalksS prog w A.in1 I fp wr g n P St) (z : Addr) (hz : z ∉ fp) (val : Nat → Int) (hval : ∀ i v, P i v → ∃ t, v = .int (val i) t) (hb : n + 1 < scanBound) :
    ∀ (k i : Nat) (s : Shared), n - i = k → i ≤ n → St i s → SetR w s.heap z (fun j => (firstMet val i).any (· == j)) (firstMet val i).length →
      (∀ s', Moved (z :: wr) g s s' → SetR w s'.heap z (fun j => (firstMet val n).any (· == j)) (firstMet val n).length → R (.ok (.ret .none)) s') →
      codeAny (model prog w) A (.builtin "set.update.loop" ⟨[.ref z, .ref I], []⟩) R s := by
  have zw : z ∉ wr := fun h => hz (W.sub _ h)
  have sub : ∀ b ∈ wr, b ∈ z :: wr := fun b hb => List.mem_cons_of_mem _ hb
  intro k
  induction k with
  | zero =>
    intro i s hk hi hst hS hR
    obtain rfl : i = n := by omega
    refine codeAny_builtin PyProof.Rows.F.entry_set_update_loop ?_
    rw [Around.under_plainId PyProof.Rows.F.plain_set_update_loop _]
    show wpAny _ A.in1 (pyNext (.ref I) >>= _) _ _ s
    refine wpAny_bind (W.done s _ _ hst fun s' hm => ?_)
    show wpAny _ A.in1 (ret Value.none) _ _ s'
    exact wpAny_pure (hR s' (hm.mono sub) (hS.at fun o => hm.heap z o zw))
  | succ k ih =>
    intro i s hk hi hst hS hR
    have hlt : i < n := by omega
    refine codeAny_builtin PyProof.Rows.F.entry_set_update_loop ?_
    rw [Around.under_plainId PyProof.Rows.F.plain_set_update_loop _]
    show wpAny _ A.in1 (pyNext (.ref I) >>= _) _ _ s
    refine wpAny_bind (W.item i s _ _ hlt hst fun v s' hP hst' hm => ?_)
    obtain ⟨t, rfl⟩ := hval i v hP
    have hS' : SetR w s'.heap z (fun j => (firstMet val i).any (· == j)) (firstMet val i).length := hS.at fun o => hm.heap z o zw
    show wpAny _ A.in1 (holding [Value.int (val i) t] (setAdd z (.int (val i) t)) >>= _) _ _ s'
    refine wpAny_bind (wpAny_holding ?_)
    unfold setAdd
    refine wpAny_holding ?_
    refine wpAny_bind ((intKind prog w).pyHash (k := val i) (intKind_is _ _ _ _) ?_)
    have room : (firstMet val i).length + 1 < scanBound := by have := firstMet_length_le val i; omega
    refine setR_add_hashed (s := { s' with toks := s'.toks + 1 }) hS' room fun h' sb h2 => ?_
    have next : SetR w h' z (fun j => (firstMet val (i + 1)).any (· == j)) (firstMet val (i + 1)).length :=
      SetR.to h2 (fun j => by rw [firstMet_succ, step_any]) (by rw [firstMet_succ, step_length])
    refine wpAny_pure ⟨plainId_quiet PyProof.Rows.F.plain_set_update_loop _, ih (i + 1) _ (by omega) hlt (W.frame _ s' _ _ hst' (Nat.le_succ _) fun b hb o e => ?_) next fun s'' hm'' hS'' => ?_⟩
    · rw [sb.2 b (fun h : b = z => hz (by rw [← h]; exact hb))]
      exact e
    · refine hR s'' (Moved.trans W.gtrans ((hm.mono sub).then_heap (Nat.le_succ _) fun b o hb e => ?_) hm'') hS''
      rw [sb.2 b (fun h : b = z => hb (by rw [h]; exact List.mem_cons_self))]
      exact e
end
section
variable {prog : Program} {w : World} {A : Around} {E : Value → Shared → Prop} {s : Shared}
theorem set_new1 (a : Value) {Q : Value → Shared → Prop}
    (h : Q (.ref s.heap.objs.size) { s with heap := s.heap.push { cls := .type "set", dict := none, data := .set #[] 0 (.fresh 0 0 (!w.params.followText "set-order")) } }) :
    codeAny (model prog w) A (.call (.builtin "set.__new__") ⟨[.type "set", a], []⟩) (wants Q E) s := by
  refine codeAny_of_tree ?_
  show wpAny _ A.in1 (do checkBuiltinCall "set.__new__" ⟨[.type "set", a], []⟩; again (.builtin "set.__new__" ⟨[.type "set", a], []⟩)) _ _ s
  refine wpAny_bind (wpAny_of_eq (PySem.F.newCall_set_1 a) (wpAny_pure ⟨plainId_quiet PySem.F.plain_set_new _, codeAny_builtin PySem.F.entry_set_new ?_⟩))
  rw [Around.under_plainId PySem.F.plain_set_new _]
  unfold Builtin.«set.__new__» Builtin.Frozenset.newClass
  have hsub := sub_set_self
  obtain ⟨hp, g, d, tk, os⟩ := s
  dsimp only
  wp_walk
  refine wpAny_askSetting (wpAny_pure ?_)
  dsimp only
  simp only [newObj]
  refine wpAny_bind (wpAny_alloc (wpAny_pure ?_))
  exact wpAny_pure h
set_option maxHeartbeats 3200000 in
theorem call_setT {l : Addr} {items : Array Value} {ns : List Int} {Q : Value → Shared → Prop} (hh : A.handled = none) (hl : s.heap.IsTuple l items) (hi : PyProof.Rows.IntsAre items.toList ns) (hb : items.size + 1 < scanBound)
    (h : ∀ (h' : Heap) (tk : Nat), SetR w h' s.heap.objs.size (fun j => (firstMet (fun i => ns.getD i 0) items.size).any (· == j)) (firstMet (fun i => ns.getD i 0) items.size).length →
      (∀ b o, b < s.heap.objs.size → s.heap.get? b = some o → h'.get? b = some o) → Q (.ref s.heap.objs.size) { s with heap := h', toks := tk }) :
    wpAny (model prog w) A (call (.type "set") [.ref l]) Q E s := by
  obtain ⟨c, tl, hmro⟩ := PySem.F.called_set.mro
  have hmade := PySem.F.called_set.made
  have hsub := PySem.F.called_set.sub
  refine wpAny_call (codeAny_of_tree ?_)
  show wpAny _ _ (callAny (.type "set") _) _ _ _
  refine wpAny_pure ⟨Code.quiet_builtin _ (by decide +kernel), codeAny_builtin PySem.F.entry_type_call ?_⟩
  rw [Around.under_plain (weight_type_call_type "set" [.ref l] []) rfl]
  have h1 := PySem.F.called_set.notType
  have h2 := PySem.F.called_set.canCreate
  have hct := PySem.F.typeCall_set_1 (.ref l)
  repeat (any_goals (first | assumption | wp_step))
  refine codeAny_mono (set_new1 (.ref l) (E := E) (Q := fun obj s₁ => obj = .ref s.heap.objs.size ∧ s₁ = { s with heap := s.heap.push { cls := .type "set", dict := none, data := .set #[] 0 (.fresh 0 0 (!w.params.followText "set-order")) } }) ⟨rfl, rfl⟩) fun r s₁ hr => ?_
  cases r with
  | error e => exact hr
  | ok fl =>
    cases fl with
    | ret obj =>
      obtain ⟨rfl, rfl⟩ := hr
      have hS := Heap.get?_push_size s.heap (o := { cls := .type "set", dict := none, data := .set #[] 0 (.fresh 0 0 (!w.params.followText "set-order")) }) rfl
      have hT : Shared.TypeIs { s with heap := s.heap.push { cls := .type "set", dict := none, data := .set #[] 0 (.fresh 0 0 (!w.params.followText "set-order")) } } (.ref s.heap.objs.size) "set" := ⟨_, hS, rfl⟩
      have hli := PySem.F.called_set.init.lookup
      have hbi := PySem.F.called_set.init.bind (.ref s.heap.objs.size)
      repeat (any_goals (first | assumption | wp_step))
      refine codeAny_mono (codeAny_call_builtin (R := wants (fun r s₂ => r = .none ∧ ∃ h' tk, s₂ = { s with heap := h', toks := tk } ∧
          SetR w h' s.heap.objs.size (fun j => (firstMet (fun i => ns.getD i 0) items.size).any (· == j)) (firstMet (fun i => ns.getD i 0) items.size).length ∧
          (∀ b o, b < s.heap.objs.size → s.heap.get? b = some o → h'.get? b = some o)) E) PySem.F.called_set.init.plain PySem.F.entry_set_init (check_set_init_1 hT ?_)) fun r₂ s₂ hr₂ => ?_
      · obtain ⟨ol, hol, hcl, nl, hdl⟩ := hl
        obtain ⟨ocls, odict, odata, oslots⟩ := ol
        simp only at hcl hdl
        subst hcl; subst hdl
        have hol' : (s.heap.push { cls := .type "set", dict := none, data := .set #[] 0 (.fresh 0 0 (!w.params.followText "set-order")) }).get? l = some { cls := .type "tuple", dict := odict, data := .seq items nl, slots := oslots } := Heap.get?_push_of_some _ hol
        have hsls := PySem.F.sub_tuple_set
        have hslf := PySem.F.sub_tuple_frozenset
        have hne : (Value.type "tuple" == Value.type "dict") = false := by decide
        have hl1 : (s.heap.push { cls := .type "set", dict := none, data := .set #[] 0 (.fresh 0 0 (!w.params.followText "set-order")) }).IsTuple l items := ⟨_, hol', rfl, nl, rfl⟩
        unfold Builtin.«set.__init__» noKeywords Builtin.Frozenset.updateFrom
        generalize hPI : pyIter = PI
        wp_walk
        subst hPI
        refine wpAny_pyIter_tuple hl1 ?_
        refine wpAny_bind (wpAny_runValue ?_)
        have hlS : l < s.heap.objs.size := Heap.lt_size hol
        have hh3 : A.in1.in1.in1.handled = none := by simp [hh]
        have hneI : l ≠ (s.heap.push { cls := .type "set", dict := none, data := .set #[] 0 (.fresh 0 0 (!w.params.followText "set-order")) }).objs.size := by
          rw [Heap.size_push]
          exact Nat.ne_of_lt (Nat.lt_succ_of_lt hlS)
        have hSf : s.heap.objs.size ∉ [(s.heap.push { cls := .type "set", dict := none, data := .set #[] 0 (.fresh 0 0 (!w.params.followText "set-order")) }).objs.size, l] := by
          rw [Heap.size_push]
          simp only [List.mem_cons, List.mem_singleton, List.not_mem_nil, or_false, not_or]
          exact ⟨Nat.ne_of_lt (Nat.lt_succ_self _), Nat.ne_of_gt hlS⟩
        have hval : ∀ (i : Nat) (v : Value), items[i]? = some v → ∃ t, v = .int ((fun i => ns.getD i 0) i) t := fun i v hv => IntsAre.int_at hi i v (by rw [Array.getElem?_toList]; exact hv)
        refine set_loop ((Walks.tuple hh3 _ l hneI items).toS) s.heap.objs.size hSf (fun i => ns.getD i 0) hval hb (items.size - 0) 0 _ (by omega) (Nat.zero_le _)
          ⟨⟨_, Heap.get?_push_size _ rfl, rfl, rfl⟩, hl1.push _⟩ ?hS0 ?hR
        case hS0 => exact SetR.to ((setR_fresh (h := s.heap) w).at fun o => Heap.get?_push_of_some _) (fun _ => rfl) rfl
        case hR =>
          intro s' hm hS'
          obtain ⟨h', g', d', tk', os'⟩ := s'
          have eg : g' = s.gens := hm.gens
          have ed : d' = s.drawn := hm.drawn
          have eo : os' = s.os := hm.os
          subst eg ed eo
          show wpAny _ _ _ _ _ _
          refine wpAny_pure ?_
          show wpAny _ _ (ret Value.none) _ _ _
          refine wpAny_pure ⟨rfl, h', tk', rfl, hS', fun b o hb e => ?_⟩
          have hb1 : b ≠ s.heap.objs.size := Nat.ne_of_lt hb
          have hb2 : b ≠ (s.heap.push { cls := .type "set", dict := none, data := .set #[] 0 (.fresh 0 0 (!w.params.followText "set-order")) }).objs.size := by
            rw [Heap.size_push]
            exact Nat.ne_of_lt (Nat.lt_succ_of_lt hb)
          exact hm.heap b o (by simp only [List.mem_cons, List.mem_singleton, List.not_mem_nil, or_false, not_or]; exact ⟨hb1, hb2⟩) (Heap.get?_push_of_some _ (Heap.get?_push_of_some _ e))
      · cases r₂ with
        | error e => exact hr₂
        | ok fl₂ =>
          cases fl₂ with
          | ret r =>
            obtain ⟨rfl, h', tk, rfl, hS', hk'⟩ := hr₂
            repeat (any_goals (first | assumption | wp_step))
            exact h _ _ hS' hk'
          | _ => exact hr₂.elim
    | _ => exact hr.elim
end
end Dy

set_option Elab.async false
set_option linter.all false
set_option maxRecDepth 100000
namespace Dy
open PySem PySem.Spec PyProof.Rows L2

/-! ### len(set(t)), sorted(set(t)) -/
def uniqI (ns : List Int) : List Int := firstMet (fun i => ns.getD i 0) ns.length
def rSetT (w : World) (K : PySem.W.Frag) : List V → Hp → VK → Prop := fun xs H Q => ∃ a ns, xs = [.ref a] ∧ SqT K H a (ns.map V.int) ∧ ns.length < 2000 ∧ ∀ p, H p = none → Q (.ref p) (upd H p (SetO w p (fun j => (uniqI ns).any (· == j)) (uniqI ns).length))
theorem cr_setT {X : Cx} (hc : X.calm = true) : CallR X (.type "set") (rSetT X.w X.K) := by
  intro pins s σ H xs us Q I rv h
  obtain ⟨a, ns, rfl, hq, hz, q⟩ := h
  cases rv with
  | cons r1 r2 =>
    cases r2
    cases r1
    obtain ⟨its, r, pl, _⟩ := I.tuple hq
    have hl : its.toArray.size = ns.length := by rw [List.size_toArray, ← r.length, List.length_map]
    refine call_setT (I.ok.hd hc) pl (ns := ns) (by simpa using r.ints) (by rw [hl]; unfold scanBound; omega) fun h' tk R hk => ?_
    rw [hl] at R
    exact ⟨.ref s.heap.objs.size, _, I.laid (a := s.heap.objs.size) (t' := tk) (fun b o e => hk b o (Heap.lt_size e) e) (Nat.le_refl _) (setO_new R), rfl, q _ (I.hok.fresh (Nat.le_refl _))⟩
def rLenS (w : World) : List V → Hp → VK → Prop := fun xs H Q => ∃ a S n, xs = [V.ref a] ∧ H a = some (SetO w a S n) ∧ n < 2000 ∧ Q (.int (n : Int)) H
theorem cr_lenS {X : Cx} : CallR X (.builtin "len") (rLenS X.w) := by
  intro pins s σ H xs us Q I rv h
  obtain ⟨a, S, n, rfl, ha, hz, q⟩ := h
  cases rv with
  | cons r1 r2 =>
    cases r2
    cases r1
    obtain ⟨o, es, ep, t, ho, hex, hd, _, _, _, hb, hf, hn, _⟩ := setO_get I ha
    refine PySem.call_len_set ho hex hd hf (by rw [hn]; omega) ⟨.int (n : Int), H, I.tok _, ⟨_, by rw [hn]⟩, q⟩
theorem uniq_le (ns : List Int) : (uniqI ns).length ≤ ns.length := firstMet_length_le _ _
def intsD : D → Option (List Int)
  | .tuple l => intsOf l
  | _ => none
/-- len(set(a)) -/
def eLenSet {S : Type} (m : ME S) : ME S := fun ρ s => (m ρ s).bind fun o ρ s => .of (((rd ρ o).bind intsD).bind fun ns => if decide (ns.length < 2000) then some (.val (.int ((uniqI ns).length : Int))) else none) ρ s
/-- the members in their order -/
def insI (x : Int) : List Int → List Int
  | [] => [x]
  | y :: r => if x < y then x :: y :: r else if x = y then y :: r else y :: insI x r
def setI : List Int → List Int
  | [] => []
  | x :: r => insI x (setI r)
def eSortSet {S : Type} (m : ME S) : ME S := fun ρ s => (m ρ s).bind fun o ρ s => .of (((rd ρ o).bind intsD).bind fun ns => if decide (ns.length < 64) then some (.newl ((setI ns).map .int)) else none) ρ s
theorem insI_mem (x k : Int) : ∀ l : List Int, k ∈ insI x l ↔ k = x ∨ k ∈ l
  | [] => by simp [insI]
  | y :: r => by
    unfold insI
    split
    · simp
    · split
      · rename_i h
        subst h
        simp
      · rw [List.mem_cons, insI_mem x k r, List.mem_cons]
        constructor
        · rintro (h | h | h)
          · exact .inr (.inl h)
          · exact .inl h
          · exact .inr (.inr h)
        · rintro (h | h | h)
          · exact .inr (.inl h)
          · exact .inl h
          · exact .inr (.inr h)
theorem insI_sorted (x : Int) : ∀ l : List Int, l.Pairwise (· < ·) → (insI x l).Pairwise (· < ·)
  | [], _ => by simp [insI]
  | y :: r, h => by
    rw [List.pairwise_cons] at h
    unfold insI
    split
    · rename_i hxy
      rw [List.pairwise_cons, List.pairwise_cons]
      refine ⟨fun k hk => ?_, h⟩
      rcases List.mem_cons.mp hk with rfl | hk
      · exact hxy
      · exact Int.lt_trans hxy (h.1 k hk)
    · split
      · rw [List.pairwise_cons]
        exact h
      · rename_i h1 h2
        rw [List.pairwise_cons]
        refine ⟨fun k hk => ?_, insI_sorted x r h.2⟩
        rcases (insI_mem x k r).mp hk with rfl | hk
        · omega
        · exact h.1 k hk
theorem setI_mem (k : Int) : ∀ l : List Int, k ∈ setI l ↔ k ∈ l
  | [] => by simp [setI]
  | x :: r => by
    unfold setI
    rw [insI_mem, setI_mem k r, List.mem_cons]
theorem setI_sorted : ∀ l : List Int, (setI l).Pairwise (· < ·)
  | [] => List.Pairwise.nil
  | x :: r => insI_sorted x _ (setI_sorted r)
theorem sorted_uniq : ∀ a b : List Int, a.Pairwise (· < ·) → b.Pairwise (· < ·) → (∀ k, k ∈ a ↔ k ∈ b) → a = b
  | [], [], _, _, _ => rfl
  | [], y :: t, _, _, h => by
    have := (h y).mpr List.mem_cons_self
    cases this
  | x :: r, [], _, _, h => by
    have := (h x).mp List.mem_cons_self
    cases this
  | x :: r, y :: t, ha, hb, h => by
    rw [List.pairwise_cons] at ha hb
    have exy : x = y := by
      rcases List.mem_cons.mp ((h x).mp List.mem_cons_self) with e | e
      · exact e
      · rcases List.mem_cons.mp ((h y).mpr List.mem_cons_self) with e' | e'
        · exact e'.symm
        · have h1 := hb.1 x e
          have h2 := ha.1 y e'
          omega
    subst exy
    rw [sorted_uniq r t ha.2 hb.2 fun k => ?_]
    constructor
    · intro hk
      rcases List.mem_cons.mp ((h k).mp (List.mem_cons_of_mem _ hk)) with e | e
      · have := ha.1 k hk
        omega
      · exact e
    · intro hk
      rcases List.mem_cons.mp ((h k).mpr (List.mem_cons_of_mem _ hk)) with e | e
      · have := hb.1 k hk
        omega
      · exact e
theorem uniq_mem (ns : List Int) (k : Int) : (uniqI ns).any (· == k) = true ↔ k ∈ ns := by
  unfold uniqI
  rw [firstMet_any, List.any_eq_true]
  constructor
  · rintro ⟨x, hx, e⟩
    obtain ⟨i, hi, rfl⟩ := List.mem_map.mp hx
    rw [List.mem_range] at hi
    have e : ns.getD i 0 = k := by simpa using e
    rw [List.getD_eq_getElem?_getD, List.getElem?_eq_getElem hi] at e
    have e : ns[i] = k := e
    rw [← e]
    exact List.getElem_mem hi
  · intro hk
    obtain ⟨i, hi⟩ := List.mem_iff_getElem?.mp hk
    have hl := (List.getElem?_eq_some_iff.mp hi).1
    refine ⟨k, List.mem_map.mpr ⟨i, List.mem_range.mpr hl, ?_⟩, by simp⟩
    rw [List.getD_eq_getElem?_getD, hi]
    rfl
section
variable {c : CC} {Y : Sy} {e : Expr} {me : ME Y.S} {p p2 pos pos2 : Pos}
theorem rep_ints {w : World} {K : PySem.W.Frag} {G : Hp} : ∀ ns : List Int, RepA w K G (ns.map .int) (ns.map V.int)
  | [] => .nil
  | n :: r => .cons (.int n) (rep_ints r)
theorem intsD_vw {G H : Hp} {d : D} {v : V} {ns : List Int} (sg : Same G H) (h : Vw c.w c.K G H d v) (e : intsD d = some ns) : ∃ a, v = .ref a ∧ SqT c.K H a (ns.map V.int) := by
  cases d with
  | tuple l =>
    obtain ⟨a, vs, rfl, h1, r⟩ := vw_tup h
    have e : intsOf l = some ns := e
    rw [intsOf_map e] at r
    rw [repA_ints r] at h1
    exact ⟨a, rfl, sqT_same sg h1⟩
  | _ => cases e
theorem de_lenSet (he : DE c Y e me) (hc : c.calm = true := by rfl) (hg : c.sc.names.lookup ("len" : Str) = some .globalImplicit := by rfl) (hm : c.mg "len" = none := by rfl) (hg2 : c.sc.names.lookup ("set" : Str) = some .globalImplicit := by rfl) (hm2 : c.mg "set" = none := by rfl)
    (h1 : ∀ env, starEach [e] env = (false, eval e env) :: starEach [] env := by intro _; rfl) (h2 : ∀ env, starEach [.Call (.Name "set" p2) [e] [] pos2] env = (false, eval (.Call (.Name "set" p2) [e] [] pos2) env) :: starEach [] env := by intro _; rfl) :
    DE c Y (.Call (.Name "len" p) [.Call (.Name "set" p2) [e] [] pos2] [] pos) (eLenSet me) := fun X W ic tk => by
  refine PE.imp (pe_callB (cr_lenS (X := X)) (show X.env.scope.names.lookup _ = _ by rw [ic.sc]; exact hg) (by rw [ic.mg]; exact hm) (by decide +kernel)
    (pa_cons (pe_callTy (cr_setT (ic.calm.trans hc)) (show X.env.scope.names.lookup _ = _ by rw [ic.sc]; exact hg2) (by rw [ic.mg]; exact hm2) (by decide +kernel) (pa_cons (he X W ic tk) pa_nil (h1 _)) (by decide) (by decide) (h1 _) rfl) pa_nil (h2 _)) (by decide) (by decide) (h2 _) rfl) ?_
  rintro σ H Q ⟨wi, G, fp, ρ, s, cfg, k⟩
  refine ⟨wi, G, fp, ρ, s, cfg, (Cont.bindL k).mono fun v H1 ⟨G1, fp1, ρ1, s1, o1, cfg1, sim1, tr1, r1, k1⟩ => ?_⟩
  obtain ⟨o, eo, k2⟩ := of_some (k1.shift early_O tr1 sim1)
  obtain ⟨ns, en, ef⟩ := bind_some_eq eo
  obtain ⟨d, ed, ei⟩ := bind_some_eq en
  obtain ⟨a, rfl, hq⟩ := intsD_vw cfg1.sub (cfg1.vw r1 ed) ei
  split at ef
  · rename_i hz
    cases ef
    have hz := of_decide_eq_true hz
    refine ⟨a, ns, rfl, by rw [ic.K]; exact hq, hz, fun q hp => ⟨q, _, _, rfl, by rw [upd_same], by have := uniq_le ns; omega, ?_⟩⟩
    exact k2 G1 _ fp1 _ (cfg1.laid hp) (Sim.refl _) (Tr.refl.laid hp) (.int _)
  · cases ef
theorem de_sortSet (he : DE c Y e me) (hc : c.calm = true := by rfl) (hg : c.sc.names.lookup ("sorted" : Str) = some .globalImplicit := by rfl) (hm : c.mg "sorted" = none := by rfl) (hg2 : c.sc.names.lookup ("set" : Str) = some .globalImplicit := by rfl) (hm2 : c.mg "set" = none := by rfl)
    (h1 : ∀ env, starEach [e] env = (false, eval e env) :: starEach [] env := by intro _; rfl) (h2 : ∀ env, starEach [.Call (.Name "set" p2) [e] [] pos2] env = (false, eval (.Call (.Name "set" p2) [e] [] pos2) env) :: starEach [] env := by intro _; rfl) :
    DE c Y (.Call (.Name "sorted" p) [.Call (.Name "set" p2) [e] [] pos2] [] pos) (eSortSet me) := fun X W ic tk => by
  refine PE.imp (pe_callB (cr_sortedSet (ic.calm.trans hc)) (show X.env.scope.names.lookup _ = _ by rw [ic.sc]; exact hg) (by rw [ic.mg]; exact hm) (by decide +kernel)
    (pa_cons (pe_callTy (cr_setT (ic.calm.trans hc)) (show X.env.scope.names.lookup _ = _ by rw [ic.sc]; exact hg2) (by rw [ic.mg]; exact hm2) (by decide +kernel) (pa_cons (he X W ic tk) pa_nil (h1 _)) (by decide) (by decide) (h1 _) rfl) pa_nil (h2 _)) (by decide) (by decide) (h2 _) rfl) ?_
  rintro σ H Q ⟨wi, G, fp, ρ, s, cfg, k⟩
  refine ⟨wi, G, fp, ρ, s, cfg, (Cont.bindL k).mono fun v H1 ⟨G1, fp1, ρ1, s1, o1, cfg1, sim1, tr1, r1, k1⟩ => ?_⟩
  obtain ⟨o, eo, k2⟩ := of_some (k1.shift early_O tr1 sim1)
  obtain ⟨ns, en, ef⟩ := bind_some_eq eo
  obtain ⟨d, ed, ei⟩ := bind_some_eq en
  obtain ⟨a, rfl, hq⟩ := intsD_vw cfg1.sub (cfg1.vw r1 ed) ei
  split at ef
  · rename_i hz
    cases ef
    have hz := of_decide_eq_true hz
    refine ⟨a, ns, rfl, by rw [ic.K]; exact hq, by omega, fun q hp => ⟨q, _, _, rfl, by rw [upd_same], by have := uniq_le ns; omega, fun ms r hs hm hl hr => ?_⟩⟩
    have em : ms = setI ns := sorted_uniq _ _ hs (setI_sorted ns) fun k => by rw [hm, uniq_mem, setI_mem]
    subst em
    have cfg2 : Cfg c.w c.K Y wi G1 _ fp1 σ ρ1 s1 := cfg1.laid (u := SetO X.w q (fun j => (uniqI ns).any (· == j)) (uniqI ns).length) hp
    have f2 := cfg2.free hr
    have hr1 : H1 r = none := by
      have e : r ≠ q := fun e => by
        rw [e, upd_same] at hr
        cases hr
      rw [upd_ne e] at hr
      exact hr
    exact k2 G1 _ fp1 _ (cfg2.laid hr) (Sim.refl _) ((Tr.refl.laid hp).laid hr) ⟨r, rfl, hr1, f2.1, f2.2.1, f2.2.2, _, upd_same, rep_ints _⟩
  · cases ef
end
end Dy

set_option Elab.async false
set_option linter.all false
set_option maxRecDepth 100000
namespace Dy
open PySem PySem.Spec PyProof.Rows L2 PySem.W

/-! ### sorted(xs), xs a list or a tuple of data that can be compared -/
section
variable {prog : Program} {w : World} {A : Around} {E : Value → Shared → Prop} {s : Shared}
/-- the call of tuple's own __lt__ -/
theorem call_tupLt {Q : Value → Shared → Prop} {l b : Addr} {items items2 : Array Value} {e r : Nat → Bool} (hl : s.heap.IsTuple l items) (hb : s.heap.IsTuple b items2)
    (he : ∀ j (h1 : j < items.size) (h2 : j < items2.size), SeqAt.EqAt A.in1 s items[j] items2[j] (e j)) (hr : ∀ j (h1 : j < items.size) (h2 : j < items2.size), e j = false → SeqAt.RcLt A.in1 s items[j] items2[j] (r j))
    (h : Q (.bool (SeqAt.firstLt e r (decide (items.size < items2.size)) (List.range (min items.size items2.size)))) s) : wpAny (model prog w) A (call (.builtin "tuple.__lt__") [.ref l, .ref b]) Q E s := by
  obtain ⟨⟨cls, dd, data, sl⟩, ho, hc, n, hd⟩ := id hl
  obtain ⟨⟨cls2, dd2, data2, sl2⟩, ho2, hc2, n2, hd2⟩ := id hb
  simp only at hc hd hc2 hd2
  subst hc hd hc2 hd2
  exact call_meets F.slot_tuple_lt ⟨_, ho, rfl⟩ F.entry_tuple_lt (F.args_tuple_lt_2 _ _) (SeqAt.tuple_ltAt l b items items2 n n2 dd dd2 sl sl2 e r) ⟨ho, ho2, he, hr, h⟩
end
section
variable {prog : Program} {w : World} {A : Around} {E : Value → Shared → Prop} {s : Shared}
theorem tup_oneLt {xs ys : List PyData} {a b : Value} {as bs : List Addr} {Q : Bool → Shared → Prop} (ra : Reads s.heap a (.tuple xs) as) (rb : Reads s.heap b (.tuple ys) bs) (hal : alikeAll xs ys = true) (hu : A.units + 70 < cLine) (hd : PyData.depth (.tuple xs) ≤ 64) (hq : Q (dataLt (.tuple xs) (.tuple ys)) s) :
    wpAny (model prog w) A (oneLt' true a b) Q E s := by
  have hdx : PyData.depthAll xs ≤ 64 := by
    simp only [PyData.depth] at hd
    omega
  cases ra with
  | @tuple l o vs n _ as₁ h1 h2 h3 h4 =>
    cases rb with
    | @tuple l' o' vs' n' _ bs₁ k1 k2 k3 k4 =>
      have n1 : vs.size = xs.length := by simpa using SeqAt.ReadsAll.length _ _ _ h4
      have n2 : vs'.size = ys.length := by simpa using SeqAt.ReadsAll.length _ _ _ k4
      rw [dataLt_tuple, ← firstLt_toks xs ys hal, ← n1, ← n2] at hq
      rw [oneLt'_eq]
      simp only [if_true]
      refine wpAny_bind (wpAny_cRoomFor (by omega) ?_)
      refine wpAny_bind (wpAny_callSpecialIfBound?_slot (T := "tuple") ⟨_, h1, h2⟩ F.slot_tuple_lt (call_tupLt (e := SeqAt.pairEq xs ys) (r := fun j => dataLt (xs.getD j .none) (ys.getD j .none)) ⟨_, h1, h2, _, h3⟩ ⟨_, k1, k2, _, k3⟩ (fun j j1 j2 => ?_) (fun j j1 j2 hj => ?_) ?_))
      · have := eqAt_alikeAll xs ys A.in1 s vs.toList vs'.toList _ _ h4 k4 hal (by simp only [Around.in1_units]; omega) j (by simpa using j1) (by simpa using j2)
        simpa using this
      · have := rcLt_alikeAll xs ys A.in1 s vs.toList vs'.toList _ _ h4 k4 hal (by simp only [Around.in1_units]; omega) j (by simpa using j1) (by simpa using j2) hj
        simpa using this
      · exact wpAny_truthy_bool hq
theorem tup_firsts : ∀ {vs : List Value} {ds : List PyData} {Q : List (Option Value) → Shared → Prop}, EachIs (fun v d => ∃ as, Reads s.heap v d as) vs ds → (∀ d ∈ ds, ∃ xs, d = .tuple xs) →
    (∀ fs : List (Option Value), EachIs (fun f d => d = PyData.tuple [] → f = none) fs ds → Q fs s) → wpAny (model prog w) A (vs.mapM firstOfTuple') Q E s
  | _, _, Q, .nil, _, h => by
    rw [List.mapM_nil]
    exact wpAny_pure (h [] .nil)
  | v :: vs, d :: ds, Q, .cons ⟨as, r⟩ t, ht, h => by
    rw [List.mapM_cons, kas_first_eq]
    obtain ⟨xs, rfl⟩ := ht d List.mem_cons_self
    cases r with
    | @tuple l o its n _ as₁ h1 h2 h3 h4 =>
      refine wpAny_bind (wpAny_bind (wpAny_typeOf (T := "tuple") ⟨_, h1, h2⟩ ?_))
      rw [if_neg (by decide)]
      refine wpAny_bind (PyProof.Rows.listItems_at h1 h3 (wpAny_pure ?_))
      refine wpAny_bind (tup_firsts t (fun d hd => ht d (List.mem_cons_of_mem _ hd)) fun fs hf => wpAny_pure (h _ (.cons (fun e => ?_) hf)))
      cases e
      have hz : its.toList.length = 0 := by
        have := SeqAt.ReadsAll.length _ _ _ h4
        simpa using this
      rw [Array.length_toList] at hz
      exact Array.getElem?_eq_none (by omega)
theorem each_mem_of {α β : Type} {R : α → β → Prop} : ∀ {as : List α} {bs : List β}, EachIs R as bs → ∀ b ∈ bs, ∃ a ∈ as, R a b
  | _, _, .nil, b, h => by cases h
  | _, _, .cons (a := a) r t, b, h => by
    rcases List.mem_cons.mp h with rfl | h
    · exact ⟨a, List.mem_cons_self, r⟩
    · obtain ⟨a', h1, h2⟩ := each_mem_of t b h
      exact ⟨a', List.mem_cons_of_mem _ h1, h2⟩
/-- tuples, the first one empty -/
theorem sorts_tup {vs : List Value} {ds : List PyData} (e : EachIs (fun v d => ∃ as, Reads s.heap v d as) vs (.tuple [] :: ds)) (hal : AllAlike (.tuple [] :: ds)) (ht : ∀ d ∈ (PyData.tuple [] :: ds), ∃ xs, d = .tuple xs) (hd : ∀ d ∈ (PyData.tuple [] :: ds), d.depth ≤ 64) (hu : A.units + 70 < cLine) :
    SortsAt prog w A s (dataKind s.heap (.tuple [] :: ds)) vs := by
  refine ⟨fun v hv => ?_, oneType', ?_, fun h2 E Q hq => ?_⟩
  · obtain ⟨d, hd, as, r⟩ := e.left v hv
    exact ⟨_, dataKind_some hal hd r⟩
  · intro E x y a b Q ha hb hq
    obtain ⟨d, as, hd1, ra, rfl⟩ := dataKind_inv ha
    obtain ⟨d', as', hd2, rb, rfl⟩ := dataKind_inv hb
    rw [keyLt'_oneType]
    obtain ⟨xs, rfl⟩ := ht d hd1
    obtain ⟨ys, rfl⟩ := ht d' hd2
    exact tup_oneLt ra rb (by simpa [alike] using hal _ hd1 _ hd2) hu (hd _ hd1) hq
  · rw [keyKind'_eq, List.mapM_toArray, map_eq_pure_bind]
    refine wpAny_bind (wpAny_bind (tup_firsts e ht fun fs hf => wpAny_pure ?_))
    cases hf with
    | cons h0 hf =>
      have h0 := h0 rfl
      subst h0
      rw [if_neg (by simp), if_neg (by simp)]
      rw [oneTypeOnly'_eq, List.mapM_toArray, map_eq_pure_bind]
      have hT : ∀ v ∈ vs, ∀ (Q' : Value → Shared → Prop), Q' (Value.type "tuple") s → wpAny (model prog w) A (typeOf v) Q' E s := fun v hv Q' hq' => by
        obtain ⟨d, hd, as, r⟩ := e.left v hv
        obtain ⟨xs, rfl⟩ := ht d hd
        cases r with
        | @tuple l o its n _ as₁ h1 h2 h3 h4 => exact wpAny_typeOf (T := "tuple") ⟨_, h1, h2⟩ hq'
      refine wpAny_bind (wpAny_bind (wpAny_bind (kas_mapM (r := Value.type "tuple") _ hT (wpAny_pure ?_))))
      obtain ⟨v₁, v₂, rest, rfl⟩ : ∃ v₁ v₂ rest, vs = v₁ :: v₂ :: rest := by
        match vs, h2 with
        | [], h2 => simp at h2
        | [_], h2 => simp at h2
        | v₁ :: v₂ :: rest, _ => exact ⟨v₁, v₂, rest, rfl⟩
      have hall : ((List.map (fun _ => Value.type "tuple") (v₁ :: v₂ :: rest)).toArray.all fun x => x == Value.type "tuple") = true := by
        simp only [List.all_toArray, List.all_map, List.all_eq_true]
        intro _ _
        rfl
      have h0 : (List.map (fun _ => Value.type "tuple") (v₁ :: v₂ :: rest)).toArray[0]? = some (Value.type "tuple") := by simp
      rw [h0]
      simp only [hall, if_true]
      exact wpAny_pure (wpAny_pure hq)
/-- one thing at most -/
theorem sorts_one {vs : List Value} {ds : List PyData} (e : EachIs (fun v d => ∃ as, Reads s.heap v d as) vs ds) (hal : AllAlike ds) (h1 : ds.length ≤ 1) (hn : ∀ d ∈ ds, d ≠ .none) (hd : ∀ d ∈ ds, d.depth ≤ 64) (hu : A.units + 70 < cLine) : SortsAt prog w A s (dataKind s.heap ds) vs := by
  refine ⟨fun v hv => ?_, general', ?_, fun h2 => ?_⟩
  · obtain ⟨d, hd, as, r⟩ := e.left v hv
    exact ⟨_, dataKind_some hal hd r⟩
  · intro E x y a b Q ha hb hq
    obtain ⟨d, as, hd1, ra, rfl⟩ := dataKind_inv ha
    obtain ⟨d', as', hd2, rb, rfl⟩ := dataKind_inv hb
    show wpAny _ _ (oneLt' false x y) _ _ _
    exact oneLt_alike (fun h => nomatch h) ra rb (hal d hd1 d' hd2) (hn d hd1) (by have := hd d hd1; omega) hq
  · rw [e.length] at h2
    omega
theorem call_sort {T : String} {l : Addr} {o : Obj} {items : Array Value} {n : Nat} {Q : Value → Shared → Prop} (hT : T = "list" ∨ T = "tuple") (ho : s.heap.get? l = some o) (hc : o.cls = .type T) (hd : o.data = .seq items n) (hz : items.size ≤ sizeLine)
    (S : ∀ h1 h' : Heap, (∀ b u, s.heap.get? b = some u → h1.get? b = some u) → (∀ b u, s.heap.get? b = some u → h'.get? b = some u) → ∃ κ, SortsAt prog w A.in1.in1 { s with heap := h' } κ items.toList ∧
      ∀ (p : Addr) (h'' : Heap) (c : Nat), (∀ b u, h1.get? b = some u → h''.get? b = some u) → h1.objs.size ≤ p → h''.get? p = some (seqObj "list" (sortVals κ false items.toList items.toList).toArray c) → Q (.ref p) { s with heap := h'' }) :
    wpAny (model prog w) A (call (.builtin "sorted") [.ref l]) Q E s := by
  refine Calls.call_function_entry kind_sorted plain_sorted entry_sorted (args_sorted1 _) ?_
  unfold Builtin.«sorted»
  refine wpAny_bind (m := checkCount "sorted" 1 1 _) (wpAny_pure ?_)
  refine wpAny_bind (wpAny_collect_seq l hT ho hc hd (fun h1 k1 => ?_) hz)
  have hz' : items.toList.length ≤ sizeLine := by
    rw [Array.length_toList]
    exact hz
  refine wpAny_bind (wpAny_newList ?_ hz')
  have hg : (h1.push (seqObj "list" items.toList.toArray 0)).get? h1.objs.size = some (seqObj "list" items.toList.toArray 0) := Heap.get?_push_size _ rfl
  have k2 : ∀ b u, h1.get? b = some u → (h1.push (seqObj "list" items.toList.toArray 0)).get? b = some u := fun b u e => Heap.get?_push_of_some _ e
  have ne : ∀ b u, h1.get? b = some u → b ≠ h1.objs.size := fun b u e z => Nat.lt_irrefl _ (z ▸ Heap.lt_size e)
  refine wpAny_bind (wpAny_holding (wpAny_call_entry_kw slot_list_sort ⟨_, hg, rfl⟩ entry_list_sort ?_ (args_list_sort _)))
  show wpAny (model prog w) A.in1.in1 (Builtin.«list.sort» ⟨[.ref h1.objs.size], []⟩) _ _ _
  obtain ⟨κ, S1, q⟩ := S h1 (sortingHeap (h1.push (seqObj "list" items.toList.toArray 0)) h1.objs.size items.toList) k1 fun b u e => sortingHeap_old (ne b u (k1 b u e)) (k2 b u (k1 b u e))
  refine list_sort_vals (s := { s with heap := h1.push (seqObj "list" items.toList.toArray 0) }) hg S1 hz' ?_
  obtain ⟨c, hc2⟩ := PyProof.Rows.sortedHeap_at (out := (sortVals κ false items.toList items.toList).toArray) hg
  exact ⟨.none, rfl, wpAny_pure ⟨_, rfl, q _ _ c (fun b u e => by rw [PyProof.Rows.sortedHeap_old (ne b u e) (Heap.lt_size (k2 b u e))]; exact k2 b u e) (Nat.le_refl _) hc2⟩⟩
end

/-! ### a sort that the kernel computes -/
section
variable {α : Type} (le : α → α → Bool)
def insA (x : α) : List α → List α
  | [] => [x]
  | y :: r => if le x y then x :: y :: r else y :: insA x r
def isortA : List α → List α
  | [] => []
  | x :: r => insA le x (isortA r)
variable {le}
theorem insA_perm (x : α) : ∀ l, (insA le x l).Perm (x :: l)
  | [] => .refl _
  | y :: r => by
    unfold insA
    split
    · exact .refl _
    · exact (List.Perm.cons y (insA_perm x r)).trans (.swap x y r)
theorem insA_sorted (T : PySem.W.TotalLe le) {x : α} : ∀ {l : List α}, l.Pairwise (fun a b => le a b = true) → (insA le x l).Pairwise (fun a b => le a b = true)
  | [], _ => List.pairwise_singleton _ _
  | y :: r, h => by
    have h' := List.pairwise_cons.mp h
    unfold insA
    split
    · rename_i hx
      refine List.pairwise_cons.mpr ⟨fun z hz => ?_, h⟩
      rcases List.mem_cons.mp hz with rfl | hz
      · exact hx
      · exact T.trans _ _ _ hx (h'.1 z hz)
    · rename_i hx
      refine List.pairwise_cons.mpr ⟨fun z hz => ?_, insA_sorted T h'.2⟩
      rcases List.mem_cons.mp ((insA_perm x r).mem_iff.mp hz) with rfl | hz
      · exact (T.total z y).elim (fun q => absurd q hx) fun q => q
      · exact h'.1 z hz
theorem isortA_sorted (T : PySem.W.TotalLe le) : ∀ l, (isortA le l).Pairwise (fun a b => le a b = true)
  | [] => .nil
  | x :: r => insA_sorted T (isortA_sorted T r)
theorem insA_filter (T : PySem.W.TotalLe le) (c x : α) : ∀ l, (insA le x l).filter (PySem.W.sameRank le c) = (x :: l).filter (PySem.W.sameRank le c)
  | [] => rfl
  | y :: r => by
    unfold insA
    split
    · rfl
    · rename_i hx
      rw [List.filter_cons, insA_filter T c x r, List.filter_cons, List.filter_cons, List.filter_cons]
      by_cases h1 : PySem.W.sameRank le c x = true
      · by_cases h2 : PySem.W.sameRank le c y = true
        · unfold PySem.W.sameRank at h1 h2
          rw [Bool.and_eq_true] at h1 h2
          exact absurd (T.trans _ _ _ h1.2 h2.1) hx
        · rw [if_neg h2, if_neg h2]
      · rw [if_neg h1, if_neg h1]
theorem isortA_eq (T : PySem.W.TotalLe le) (l : List α) : isortA le l = l.mergeSort le := by
  refine PySem.W.sort_unique T (isortA_sorted T l) fun c => ?_
  induction l with
  | nil => rfl
  | cons x r ih =>
    show (insA le x (isortA le r)).filter _ = _
    rw [insA_filter T, List.filter_cons, List.filter_cons, ih]
end
theorem isortD_eq (l : List D) : isortA (PySem.W.dataLe false id) l = l.mergeSort (PySem.W.dataLe false id) := isortA_eq (PySem.W.sortLe_total _ _ _) l
/-! the data that can be sorted -/
def isTupI : D → Bool
  | .tuple l => (intsOf l).isSome
  | _ => false
def isTup1 : D → Bool
  | .tuple (_ :: _) => true
  | _ => false
def isTupB : D → Bool
  | .tuple _ => true
  | _ => false
def isInt : D → Bool
  | .int _ => true
  | _ => false
def isStr : D → Bool
  | .str _ => true
  | _ => false
/-- any two can be compared -/
def alikeB (l : List D) : Bool := l.all isInt || (l.all isStr || (l.all isTupI || l.all fun d => l.all fun e => alike d e))
theorem alike_ints : ∀ {a b : List D} {ns ms : List Int}, intsOf a = some ns → intsOf b = some ms → alikeAll a b = true
  | [], _, _, _, _, _ => by simp [alikeAll]
  | x :: a, [], _, _, _, _ => by simp [alikeAll]
  | x :: a, y :: b, _, _, h1, h2 => by
    have e1 := intsOf_map h1
    have e2 := intsOf_map h2
    rename_i ns ms
    cases ns with
    | nil => cases e1
    | cons n ns =>
      cases ms with
      | nil => cases e2
      | cons m ms =>
        rw [List.map_cons] at e1 e2
        injection e1 with e11 e12
        injection e2 with e21 e22
        subst e11 e21
        have r1 : intsOf a = some ns := by
          unfold intsOf at h1
          cases e : intsOf a with
          | none =>
            rw [e] at h1
            cases h1
          | some z =>
            rw [e] at h1
            cases h1
            rfl
        have r2 : intsOf b = some ms := by
          unfold intsOf at h2
          cases e : intsOf b with
          | none =>
            rw [e] at h2
            cases h2
          | some z =>
            rw [e] at h2
            cases h2
            rfl
        rw [alikeAll, alike_ints r1 r2]
        rfl
theorem alikeB_ok {l : List D} (h : alikeB l = true) : AllAlike l := by
  intro d hd e he
  unfold alikeB at h
  simp only [Bool.or_eq_true] at h
  rcases h with h | h | h | h
  · have h1 := List.all_eq_true.mp h d hd
    have h2 := List.all_eq_true.mp h e he
    cases d with
    | int a =>
      cases e with
      | int b => rfl
      | _ => cases h2
    | _ => cases h1
  · have h1 := List.all_eq_true.mp h d hd
    have h2 := List.all_eq_true.mp h e he
    cases d with
    | str a =>
      cases e with
      | str b => rfl
      | _ => cases h2
    | _ => cases h1
  · have h1 := List.all_eq_true.mp h d hd
    have h2 := List.all_eq_true.mp h e he
    cases d with
    | tuple a =>
      cases e with
      | tuple b =>
        obtain ⟨ns, hn⟩ := Option.isSome_iff_exists.mp (show (intsOf a).isSome = true from h1)
        obtain ⟨ms, hm⟩ := Option.isSome_iff_exists.mp (show (intsOf b).isSome = true from h2)
        show alike (.tuple a) (.tuple b) = true
        simp only [alike]
        exact alike_ints hn hm
      | _ => cases h2
    | _ => cases h1
  · exact List.all_eq_true.mp (List.all_eq_true.mp h d hd) e he
def notNT : D → Bool
  | .none => false
  | .tuple _ => false
  | _ => true
def notN : D → Bool
  | .none => false
  | _ => true
def sortable (l : List D) : Bool := l.all isTup1 || (l.all notNT || (match l with
  | [] => true
  | [d] => notN d
  | .tuple [] :: r => r.all isTupB
  | _ => false))
def sortOk (l : List D) : Bool := alikeB l && (sortable l && (PyData.canLayAll0 l && l.all fun d => decide (d.depth ≤ 64)))
def sortL (l : List D) : List D := isortA (dataLe false id) l
theorem sortL_eq (l : List D) : sortL l = l.mergeSort (dataLe false id) := isortD_eq l
theorem sorts_all {prog : Program} {w : World} {A : Around} {s : Shared} {vs : List Value} {ds : List D} (e : EachIs (fun v d => ∃ as, Reads s.heap v d as) vs ds) (ok : sortOk ds = true) (hu : A.units + 70 < cLine) : SortsAt prog w A s (dataKind s.heap ds) vs := by
  unfold sortOk sortable at ok
  simp only [Bool.and_eq_true] at ok
  obtain ⟨o1, o2, _, o4⟩ := ok
  have hal := alikeB_ok o1
  have hd : ∀ d ∈ ds, d.depth ≤ 64 := fun d h => of_decide_eq_true (List.all_eq_true.mp o4 d h)
  have room : ∀ d, d ∈ ds → A.units + d.depth < cLine := fun d h => by have := hd d h; omega
  simp only [Bool.or_eq_true] at o2
  rcases o2 with h | h | h
  · refine SortsAt.data e hal (.inl fun d hm => ?_) room
    have := List.all_eq_true.mp h d hm
    unfold isTup1 at this
    split at this
    · exact ⟨_, _, rfl⟩
    · cases this
  · refine SortsAt.data e hal (.inr fun d hm => ?_) room
    have := List.all_eq_true.mp h d hm
    cases d with
    | none => cases this
    | tuple l => cases this
    | _ => exact ⟨(fun z => nomatch z), fun xs z => nomatch z⟩
  · split at h
    · exact sorts_one e hal (Nat.zero_le _) (fun d h => by cases h) hd hu
    · refine sorts_one e hal (Nat.le_refl _) (fun d hm => ?_) hd hu
      rw [List.mem_singleton] at hm
      subst hm
      rintro rfl
      cases h
    · refine sorts_tup e hal (fun d hm => ?_) hd hu
      rcases List.mem_cons.mp hm with rfl | hm
      · exact ⟨[], rfl⟩
      · have := List.all_eq_true.mp h d hm
        unfold isTupB at this
        split at this
        · exact ⟨_, rfl⟩
        · cases this
    · cases h
def sortD : List D → Option Out
  | [.list l] => if sortOk l then some (.newl (sortL l)) else none
  | [.tuple l] => if sortOk l then some (.newl (sortL l)) else none
  | _ => none
def rSortD (w : World) (K : PySem.W.Frag) : List V → Hp → VK → Prop := fun vs H Q => ∃ G a xs ds, vs = [.ref a] ∧ (SqL K H a xs ∨ SqT K H a xs) ∧ Same G H ∧ RepA w K G ds xs ∧ sortOk ds = true ∧ ∀ p ys, H p = none → RepA w K G (sortL ds) ys → Q (.ref p) (upd H p (.lst ys))
theorem each_vals {w : World} {K : PySem.W.Frag} {G : Hp} : ∀ {ds : List D} {xs : List V} {us : List Value}, RepA w K G ds xs → Vals xs us → EachIs (fun u d => ∃ x, RelV x u ∧ Rep w K G d x) us ds
  | _, _, _, .nil, .nil => .nil
  | _, _, _, .cons h t, .cons r q => .cons ⟨_, r, h⟩ (each_vals t q)
theorem vals_each {w : World} {K : PySem.W.Frag} {G : Hp} : ∀ {ds : List D} {us : List Value}, EachIs (fun u d => ∃ x, RelV x u ∧ Rep w K G d x) us ds → ∃ xs, RepA w K G ds xs ∧ Vals xs us
  | _, _, .nil => ⟨[], .nil, .nil⟩
  | _, _, .cons ⟨x, r, h⟩ t => by
    obtain ⟨xs, h1, h2⟩ := vals_each t
    exact ⟨x :: xs, .cons h h1, .cons r h2⟩
theorem each_reads {X : Cx} {pins : List (Addr × Obj)} {σ : L2.St} {H : Hp} {s : Shared} (I : L2.Inv X pins σ H s) {h' : Heap} (k : ∀ b u, s.heap.get? b = some u → h'.get? b = some u) : ∀ {ds : List D} {xs : List V} {us : List Value}, DpAll X.K H xs ds → Vals xs us → EachIs (fun v d => ∃ as, Reads h' v (id d) as) us ds
  | _, _, _, .nil, .nil => .nil
  | d :: ds, _, _, .cons h t, .cons r q => by
    obtain ⟨as, ra⟩ := Dp.reads I d _ _ h r
    exact .cons ⟨as, PyProof.Rows.Reads.keeps k ra⟩ (each_reads I k t q)
theorem cr_sortD {X : Cx} (hu : X.A.units + 90 < cLine) : CallR X (.builtin "sorted") (rSortD X.w X.K) := by
  intro pins s σ H xs us Q I rv h
  obtain ⟨G, a, vs, ds, rfl, hq, sg, ra, ok, q⟩ := h
  cases rv with
  | cons r1 r2 =>
    cases r2
    cases r1
    have hlay : PyData.canLayAll0 ds = true := by
      unfold sortOk at ok
      simp only [Bool.and_eq_true] at ok
      exact ok.2.2.1
    have hal : AllAlike ds := by
      unfold sortOk at ok
      simp only [Bool.and_eq_true] at ok
      exact alikeB_ok ok.1
    have hdp := (ra.mono sg).dp hlay
    have go : ∀ {T : String} {its : List Value} {o : Obj} {n : Nat}, T = "list" ∨ T = "tuple" → s.heap.get? a = some o → o.cls = .type T → o.data = .seq its.toArray n → vs.length ≤ sizeLine → Vals vs its → wpAny (model X.prog X.w) X.A (call (.builtin "sorted") [.ref a]) (EP X pins σ Q) X.xe s := by
      intro T its o n hT ho hc hd hz r
      refine call_sort hT ho hc hd (by rw [List.size_toArray, ← r.length]; exact hz) fun h1 h' k1 k' => ?_
      have er : EachIs (fun v d => ∃ as, Reads h' v d as) its ds := each_reads I k' hdp r
      refine ⟨_, sorts_all (s := { s with heap := h' }) er ok (by simp only [Around.in1_units]; omega), fun p h'' c k2 hp hg => ?_⟩
      have es : EachIs (fun u d => ∃ x, RelV x u ∧ Rep X.w X.K G d x) (sortVals (dataKind h' (ds.map id)) false its its) (ds.mergeSort (dataLe false id)) :=
        sortVals_data (h' := h') (enc := id) false (each_vals ra r) er (by rw [List.map_id]; exact hal)
      rw [List.map_id] at es
      obtain ⟨ys, rys, vys⟩ := vals_each es
      have hlen : ys.length ≤ sizeLine := by
        have e1 := rys.length
        rw [← e1, List.length_mergeSort, ra.length]
        exact hz
      have I1 : L2.Inv X pins σ H { s with heap := h1 } := I.kept (t' := s.toks) k1
      have I2 : L2.Inv X pins σ (upd H p (.lst ys)) { s with heap := h'' } := I1.laid (t' := s.toks) k2 hp ⟨hlen, _, c, vys, by simpa [seqObj] using hg⟩
      exact ⟨.ref p, _, I2, rfl, q p ys (I1.hok.fresh hp) (by rw [sortL_eq]; exact rys)⟩
    rcases hq with hq | hq
    · obtain ⟨its, r, ⟨o, n, ho, hc, _, hd⟩, hz⟩ := I.list hq
      exact go (.inl rfl) ho hc hd hz r
    · obtain ⟨its, r, ⟨o, ho, hc, n, hd⟩, hz⟩ := I.tuple hq
      exact go (.inr rfl) ho hc hd hz r
section
variable {c : CC} {Y : Sy} {e : Expr} {es : List Expr} {ma : MA Y.S} {p pos : Pos}
theorem sn_sort : SndC c (rSortD c.w c.K) sortD := fun Y W wi G H fp σ ρ s ds vs o Q cfg va e k => by
  unfold sortD at e
  split at e
  · split at e
    · rename_i ok
      cases e
      obtain ⟨v, rfl, a, xs, rfl, h, r⟩ := vw1 va
      exact ⟨G, a, xs, _, rfl, .inl (.inl (.inl h)), cfg.sub, r, ok, fun p ys hp ry => fin_lst cfg k ry hp⟩
    · cases e
  · split at e
    · rename_i ok
      cases e
      obtain ⟨v, rfl, hv⟩ := vw1 va
      obtain ⟨a, xs, rfl, h, r⟩ := vw_tup hv
      exact ⟨G, a, xs, _, rfl, .inr (sqT_same cfg.sub h), cfg.sub, r, ok, fun p ys hp ry => fin_lst cfg k ry hp⟩
    · cases e
  · cases e
theorem InC.u90 {X : Cx} (ic : InC c X) : X.A.units + 90 < cLine := by have := ic.units; omega
theorem de_sorted (ha : DA c Y (e :: es) ma) (hg : c.sc.names.lookup ("sorted" : Str) = some .globalImplicit := by rfl) (hm : c.mg "sorted" = none := by rfl)
    (he : ∀ env, starEach (e :: es) env = (false, eval e env) :: starEach es env := by intro _; rfl) (hpl : ∀ env, (backTo pos (starEach es env)).any (·.1) = false := by intro _; rfl) : DE c Y (.Call (.Name "sorted" p) (e :: es) [] pos) (eBi sortD ma) :=
  de_bi (fun X ic => by rw [← ic.K, ← ic.w]; exact cr_sortD ic.u90) sn_sort ha (by decide +kernel) hg hm (by decide) (by decide) he hpl
end
end Dy

set_option Elab.async false
set_option linter.all false
set_option maxRecDepth 100000
namespace Dy
open PySem PySem.Spec PyProof.Rows L2

/-! ### isinstance(x, T) -/
def isiD (f : D → Bool) : D → Option Out := fun d => if d.canLay0 then some (.val (.bool (f d))) else none
def rIsiD (K : PySem.W.Frag) (T : String) (f : D → Bool) : List V → Hp → VK → Prop := fun vs H Q => ∃ x d, vs = [x, .ty T] ∧ Dp K H x d ∧ d.canLay0 = true ∧ Q (.bl (f d)) H
/-- what the library says of isinstance(.., T) -/
def IsiOk (T : String) (f : D → Bool) : Prop := ∀ (prog : Program) (w : World) (A : Around) (E : Value → Shared → Prop) (s : Shared) (v : Value) (d : D) (as : List Addr) (Q : Value → Shared → Prop), Reads s.heap v d as → (∀ tk, s.toks ≤ tk → Q (.bool (f d)) { s with toks := tk }) → wpAny (model prog w) A (call (.builtin "isinstance") [v, .type T]) Q E s
theorem cr_isi {X : Cx} {T : String} {f : D → Bool} (h : IsiOk T f) : CallR X (.builtin "isinstance") (rIsiD X.K T f) := by
  intro pins s σ H xs us Q I rv q
  obtain ⟨x, d, rfl, hd, hl, q⟩ := q
  cases rv with
  | cons r1 r2 =>
    cases r2 with
    | cons r2 r3 =>
      cases r3
      cases r2
      obtain ⟨as, ra⟩ := Dp.reads I d x _ hd r1
      exact h _ _ _ _ _ _ _ _ _ ra fun tk _ => ⟨.bl (f d), H, I.tok tk, rfl, q⟩
theorem isi_int : IsiOk "int" PyData.isInt := fun _ _ _ _ _ _ _ _ _ r h => PySem.W.isinstance_int_data r h
theorem isi_bool : IsiOk "bool" PyData.isBool := fun _ _ _ _ _ _ _ _ _ r h => PySem.W.isinstance_bool_data r h
theorem isi_str : IsiOk "str" PyData.isStr := fun _ _ _ _ _ _ _ _ _ r h => PySem.W.isinstance_str_data r h
theorem isi_tuple : IsiOk "tuple" PyData.isTuple := fun _ _ _ _ _ _ _ _ _ r h => PySem.W.isinstance_tuple_data r h
theorem isi_list : IsiOk "list" PyData.isList := fun _ _ _ _ _ _ _ _ _ r h => PySem.W.isinstance_list_data r h
section
variable {c : CC} {Y : Sy} {e e2 : Expr} {es : List Expr} {me m2 : ME Y.S} {ma : MA Y.S} {p p2 pos pos2 : Pos} {x : Str} {T : String} {f : D → Bool}
theorem de_isi (hf : IsiOk T f) (he : DE c Y e me) (hv : bootBuiltins x = some (.type T)) (hg2 : c.sc.names.lookup x = some .globalImplicit := by rfl) (hm2 : c.mg x = none := by rfl) (hn : x ≠ "__name__" := by decide) (hdb : (x == ("__debug__" : Str)) = false := by decide)
    (hg : c.sc.names.lookup ("isinstance" : Str) = some .globalImplicit := by rfl) (hm : c.mg "isinstance" = none := by rfl)
    (h1 : ∀ env, starEach [e, .Name x p2] env = (false, eval e env) :: starEach [.Name x p2] env := by intro _; rfl) (h2 : ∀ env, starEach [.Name x p2] env = (false, eval (.Name x p2) env) :: starEach [] env := by intro _; rfl)
    (hpl : ∀ env, (backTo pos (starEach [.Name x p2] env)).any (·.1) = false := by intro _; rfl) : DE c Y (.Call (.Name "isinstance" p) [e, .Name x p2] [] pos) (eUn (isiD f) me) := fun X W ic tk => by
  refine PE.imp (pe_callB (cr_isi (X := X) hf) (show X.env.scope.names.lookup _ = _ by rw [ic.sc]; exact hg) (by rw [ic.mg]; exact hm) (by decide +kernel)
    (pa_cons (he X W ic tk) (pa_cons (pe_bltn (v := .ty T) (show X.env.scope.names.lookup _ = _ by rw [ic.sc]; exact hg2) (by rw [ic.mg]; exact hm2) hv rfl hn hdb) pa_nil (h2 _)) (h1 _)) (by decide) (by decide) (h1 _) (hpl _)) ?_
  rintro σ H Q ⟨wi, G, fp, ρ, s, cfg, k⟩
  refine ⟨wi, G, fp, ρ, s, cfg, (Cont.bindL k).mono fun v H1 ⟨G1, fp1, ρ1, s1, o1, cfg1, sim1, tr1, r1, k1⟩ => ?_⟩
  obtain ⟨o, eo, k2⟩ := of_some (k1.shift early_O tr1 sim1)
  obtain ⟨d, ed, ei⟩ := bind_some_eq eo
  unfold isiD at ei
  split at ei
  · rename_i hl
    cases ei
    have vw := cfg1.vw r1 ed
    show rIsiD X.K T f [v, .ty T] H1 Q
    rw [ic.K]
    exact ⟨v, d, rfl, (vw.rep cfg1.sub).dp hl, hl, fin_val cfg1 k2 (.bl _)⟩
  · cases ei

/-! ### list(range(..)), tuple(range(..)) -/
def rngB : List D → Option (List D)
  | [.int j] => if in62 j && decide (j ≤ 16777216) then some (rngL 0 j.toNat) else none
  | _ => none
def eLstRg {S : Type} (ma : MA S) : ME S := fun ρ s => (ma ρ s).bind fun os ρ s => .of (((vals os).bind rngB).map .newl) ρ s
theorem rg_rep {w : World} {K : PySem.W.Frag} {G : Hp} (lo hi : Int) : RepA w K G (rngL lo (hi - lo).toNat) (rgV lo hi) := by
  unfold rngL rgV
  have go : ∀ l : List Nat, RepA w K G (l.map fun (i : Nat) => PyData.int (lo + (i : Int))) (l.map fun i => V.int (lo + (i : Nat))) := fun l => by
    induction l with
    | nil => exact .nil
    | cons a r ih => exact .cons (.int _) ih
  exact go _
theorem de_listRg1 (he : DE c Y e me) (hc : c.calm = true := by rfl) (hg : c.sc.names.lookup ("list" : Str) = some .globalImplicit := by rfl) (hm : c.mg "list" = none := by rfl) (hg2 : c.sc.names.lookup ("range" : Str) = some .globalImplicit := by rfl) (hm2 : c.mg "range" = none := by rfl)
    (h1 : ∀ env, starEach [e] env = (false, eval e env) :: starEach [] env := by intro _; rfl) (h2 : ∀ env, starEach [.Call (.Name "range" p2) [e] [] pos2] env = (false, eval (.Call (.Name "range" p2) [e] [] pos2) env) :: starEach [] env := by intro _; rfl) :
    DE c Y (.Call (.Name "list" p) [.Call (.Name "range" p2) [e] [] pos2] [] pos) (eLstRg (aCons me aNil)) := fun X W ic tk => by
  refine PE.imp (pe_listRg (ic.calm.trans hc) (show X.env.scope.names.lookup _ = _ by rw [ic.sc]; exact hg) (by rw [ic.mg]; exact hm) (prg_1 (show X.env.scope.names.lookup _ = _ by rw [ic.sc]; exact hg2) (by rw [ic.mg]; exact hm2) (he X W ic tk) (h1 _)) (h2 _)) ?_
  rintro σ H Q ⟨wi, G, fp, ρ, s, cfg, k⟩
  have h : tA c Y W (aCons me aNil) σ H fun vs H1 => ∃ n : Int, vs = [.int n] ∧ RgOk 0 n ∧ ∀ q, H1 q = none → Q (.ref q) (upd H1 q (.lst (rgV 0 n))) := by
    refine ⟨wi, G, fp, ρ, s, cfg, (Cont.bindL k).mono fun vs H1 ⟨G1, fp1, ρ1, s1, os, cfg1, sim1, tr1, r1, k1⟩ => ?_⟩
    obtain ⟨o, eo, k2⟩ := of_some (k1.shift early_O tr1 sim1)
    cases ev : (vals os).bind rngB with
    | none =>
      rw [ev] at eo
      cases eo
    | some l =>
      rw [ev] at eo
      cases eo
      obtain ⟨ds, ed, ew⟩ := bind_some_eq ev
      have ra := vals_rep r1 ed
      unfold rngB at ew
      split at ew
      · rename_i j
        split at ew
        · rename_i hj
          rw [Bool.and_eq_true] at hj
          have h62 := in62_ok hj.1
          have hb := of_decide_eq_true hj.2
          cases ew
          cases ra with
          | cons z1 z2 =>
            cases z2
            cases z1
            refine ⟨j, rfl, ⟨by omega, by omega, h62.1, h62.2, by omega⟩, fun q hq => fin_lst cfg1 k2 ?_ hq⟩
            have := rg_rep (w := c.w) (K := c.K) (G := G1) 0 j
            rw [Int.sub_zero] at this
            exact this
        · cases ew
      · cases ew
  obtain ⟨wi, G, fp, ρ, s, cfg, k⟩ := acons_imp h
  refine ⟨wi, G, fp, ρ, s, cfg, k.mono fun x H1 h1 => ?_⟩
  obtain ⟨n, e1, e2⟩ := anil_imp h1
  cases e1
  exact ⟨n, rfl, e2⟩

/-! ### max(xs), xs ints -/
def maxL : List Int → Int → Int
  | [], m => m
  | n :: r, m => maxL r (if m < n then n else m)
def maxD1 : List D → Option Out
  | [.list l] => match intsOf l with
    | some (n :: r) => some (.val (.int (maxL r n)))
    | _ => none
  | [.tuple l] => match intsOf l with
    | some (n :: r) => some (.val (.int (maxL r n)))
    | _ => none
  | _ => none
theorem maxL_mem : ∀ (l : List Int) (m : Int), (maxL l m = m ∨ maxL l m ∈ l) ∧ m ≤ maxL l m ∧ ∀ y ∈ l, y ≤ maxL l m
  | [], m => ⟨.inl rfl, Int.le_refl _, fun y h => by cases h⟩
  | n :: r, m => by
    unfold maxL
    by_cases h : m < n
    · rw [if_pos h]
      obtain ⟨h1, h2, h3⟩ := maxL_mem r n
      refine ⟨.inr ?_, by omega, fun y hy => ?_⟩
      · rcases h1 with e | e
        · rw [e]
          exact List.mem_cons_self
        · exact List.mem_cons_of_mem _ e
      · rcases List.mem_cons.mp hy with rfl | hy
        · exact h2
        · exact h3 y hy
    · rw [if_neg h]
      obtain ⟨h1, h2, h3⟩ := maxL_mem r m
      refine ⟨h1.imp (fun e => e) fun e => List.mem_cons_of_mem _ e, h2, fun y hy => ?_⟩
      rcases List.mem_cons.mp hy with rfl | hy
      · omega
      · exact h3 y hy
theorem maxL_fold : ∀ (l : List Int) (m : Int), l.foldl max m = maxL l m
  | [], m => rfl
  | n :: r, m => by
    rw [List.foldl_cons, maxL_fold r]
    have e : max m n = if m < n then n else m := by
      rw [Int.max_def]
      by_cases h : m < n
      · rw [if_pos h, if_pos (by omega)]
      · rw [if_neg h]
        by_cases h2 : m ≤ n
        · rw [if_pos h2]
          omega
        · rw [if_neg h2]
    rw [e]
    rfl
def rMaxT (K : PySem.W.Frag) : List V → Hp → VK → Prop := fun vs H Q => ∃ (a : Addr) (n : Int) (ns : List Int), vs = [V.ref a] ∧ SqT K H a ((n :: ns).map V.int) ∧ Q (.int (maxL ns n)) H
theorem alike_intsM (n : Int) (ns : List Int) : PySem.W.AlikeAll ((n :: ns).map PyData.int) := by
  refine ⟨fun x hx y hy => ?_, fun x hx => ?_⟩
  · obtain ⟨a, _, rfl⟩ := List.mem_map.mp hx
    obtain ⟨b, _, rfl⟩ := List.mem_map.mp hy
    rfl
  · obtain ⟨a, _, rfl⟩ := List.mem_map.mp hx
    exact fun z => nomatch z
theorem depth_intsM : ∀ ns : List Int, PyData.depthAll (ns.map PyData.int) = 0
  | [] => rfl
  | n :: r => by
    rw [List.map_cons, PyData.depthAll, depth_intsM r]
    rfl
theorem reads_ints {h : Heap} : ∀ {ns : List Int} {us : List Value}, Vals (ns.map V.int) us → ReadsAll h us (ns.map PyData.int) []
  | [], _, .nil => .nil
  | n :: r, _, .cons ⟨t, e⟩ q => by
    subst e
    have := reads_ints (h := h) q
    simpa using ReadsAll.cons (Reads.int n t) this
theorem cr_maxT {X : Cx} (hc : X.calm = true) (hu : X.A.units + 2 < cLine) : CallR X (.builtin "max") (rMaxT X.K) := by
  intro pins s σ H vs us Q I rv h
  obtain ⟨a, n, ns, rfl, hs, q⟩ := h
  cases rv with
  | cons r1 r2 =>
    cases r2
    cases r1
    obtain ⟨its, r, pl, _⟩ := I.tuple hs
    have rd := reads_ints (h := s.heap) r
    rw [List.map_cons] at rd
    refine PySem.W.max_tuple_data (I.ok.hd hc) pl (x := .int n) (xs := ns.map .int) rd (by have := alike_intsM n ns; rwa [List.map_cons] at this) (by have := depth_intsM (n :: ns); rw [List.map_cons] at this; rw [this]; omega) fun i v h' tk bs hv rv' k => ?_
    rw [PySem.W.maxD_ints, maxL_fold] at rv'
    cases rv'
    exact ⟨.int (maxL ns n), H, I.kept k, ⟨_, rfl⟩, q⟩
theorem sn_max1 : SndC c (fun vs H Q => rMax c.K vs H Q ∨ rMaxT c.K vs H Q) maxD1 := fun Y W wi G H fp σ ρ s ds vs o Q cfg va e k => by
  unfold maxD1 at e
  split at e
  · split at e
    · rename_i l n r hn
      cases e
      obtain ⟨v, rfl, a, xs, rfl, h, rr⟩ := vw1 va
      rw [intsOf_map hn] at rr
      have ex := repA_ints rr
      subst ex
      refine .inl ⟨a, n :: r, rfl, .inl (.inl h), by simp, fun m hm hb => ?_⟩
      obtain ⟨h1, h2, h3⟩ := maxL_mem r n
      have e1 : m = maxL r n := by
        have b1 : m ≤ maxL r n := by
          rcases List.mem_cons.mp hm with rfl | hm
          · exact h2
          · exact h3 m hm
        have b2 : maxL r n ≤ m := by
          rcases h1 with e | e
          · rw [e]
            exact hb n List.mem_cons_self
          · exact hb _ (List.mem_cons_of_mem _ e)
        omega
      rw [e1]
      exact fin_val cfg k (.int _)
    · cases e
  · split at e
    · rename_i l n r hn
      cases e
      obtain ⟨v, rfl, hv⟩ := vw1 va
      obtain ⟨a, xs, rfl, h, rr⟩ := vw_tup hv
      rw [intsOf_map hn] at rr
      have ex := repA_ints rr
      subst ex
      exact .inr ⟨a, n, r, rfl, sqT_same cfg.sub h, fin_val cfg k (.int _)⟩
    · cases e
  · cases e
theorem de_max1 (ha : DA c Y (e :: es) ma) (hc : c.calm = true := by rfl) (hg : c.sc.names.lookup ("max" : Str) = some .globalImplicit := by rfl) (hm : c.mg "max" = none := by rfl)
    (he : ∀ env, starEach (e :: es) env = (false, eval e env) :: starEach es env := by intro _; rfl) (hpl : ∀ env, (backTo pos (starEach es env)).any (·.1) = false := by intro _; rfl) : DE c Y (.Call (.Name "max" p) (e :: es) [] pos) (eBi maxD1 ma) :=
  de_bi (fun X ic => by rw [← ic.K]; exact CallR.or (cr_max (ic.calm.trans hc)) (cr_maxT (ic.calm.trans hc) (by have := ic.units; omega))) sn_max1 ha (by decide +kernel) hg hm (by decide) (by decide) he hpl
end
end Dy

set_option Elab.async false
set_option linter.all false
set_option maxRecDepth 100000
namespace Dy
open PySem PySem.Spec PyProof.Rows L2

/-! ### x[::-1] -/
section
variable {prog : Program} {w : World} {A : Around} {E : Value → Shared → Prop} {s : Shared}
theorem fm_congr {α β : Type} {f g : α → Option β} : ∀ {l : List α}, (∀ a ∈ l, f a = g a) → l.filterMap f = l.filterMap g
  | [], _ => rfl
  | a :: l, h => by
    rw [List.filterMap_cons, List.filterMap_cons, h a List.mem_cons_self, fm_congr fun b hb => h b (List.mem_cons_of_mem _ hb)]
theorem back_pick (xs : Array Value) : ((List.range xs.size).filterMap fun (k : Nat) => xs[(((xs.size : Int) - 1) + (k : Int) * (-1)).toNat]?).toArray = xs.toList.reverse.toArray := by
  congr 1
  have h : ∀ k ∈ List.range xs.size, xs[(((xs.size : Int) - 1) + (k : Int) * (-1)).toNat]? = xs.toList.reverse[k]? := fun k hk => by
    rw [List.mem_range] at hk
    rw [List.getElem?_reverse (by rw [Array.length_toList]; exact hk), Array.getElem?_toList, Array.length_toList]
    congr 1
    omega
  rw [fm_congr h]
  have e : ∀ (l : List Value), (List.range l.length).filterMap (fun k => l[k]?) = l := fun l => by
    induction l with
    | nil => rfl
    | cons x r ih =>
      rw [List.length_cons, List.range_succ_eq_map, List.filterMap_cons]
      show x :: (List.map Nat.succ (List.range r.length)).filterMap (fun k => (x :: r)[k]?) = _
      rw [List.filterMap_map]
      congr 1
  have := e xs.toList.reverse
  rw [List.length_reverse, Array.length_toList] at this
  exact this
theorem getItem_tupRev {t sl : Addr} {items : Array Value} {u : Tok} {Q : Value → Shared → Prop} (ht : IsTup s.heap t items) (hs : s.heap.IsSliceOf sl .none .none (.int (-1) u)) (hz : items.size ≤ sizeLine)
    (h : Q (.ref s.heap.objs.size) { s with heap := s.heap.push { cls := .type "tuple", data := .seq items.toList.reverse.toArray } }) : wpAny (model prog w) A (getItem (.ref t) (.ref sl)) Q E s := by
  obtain ⟨os, hos, hcs, hds⟩ := id hs
  have hTs : s.TypeIs (.ref sl) "slice" := ⟨os, hos, hcs⟩
  unfold getItem
  try with_reducible refine wpAny_holding ?_
  first | refine wpAny_bind (wpAny_pure ?_) | skip
  refine wpAny_bind (wpAny_sequenceKey ht.typeIs (by decide) ?_)
  refine wpAny_bind (wpAny_callSpecial?_slot (name := Str.ofString "__getitem__") ht.typeIs PyProof.Rows.slot_tuple_getitem
    (wpAny_call_entry PyProof.Rows.slot_tuple_getitem ht.typeIs entry_tuple_getitem ?_ (args_tuple_getitem _ _)))
  show wpAny _ _ (Builtin.Tuple.tupleItemsOf (.ref t) >>= _) _ _ s
  refine wpAny_bind (tupleItemsOf_ ht ?_)
  refine wpAny_bind (wpAny_typeOf hTs ?_)
  rw [if_pos (by decide)]
  refine wpAny_bind ?_
  unfold Builtin.Slice.sliceApplied Builtin.Slice.sliceFields
  refine wpAny_bind (wpAny_bind (wpAny_field hos hds (x := .none) rfl (wpAny_bind (wpAny_field hos hds (x := .none) rfl (wpAny_bind (wpAny_field hos hds (x := .int (-1) u) rfl (wpAny_pure ?_)))))))
  refine wpAny_bind (slicePart_int ?_)
  show wpAny _ _ (if ((-1 : Int) == 0) = true then _ else _) _ _ s
  rw [if_neg (by decide)]
  refine wpAny_bind (slicePart_none (wpAny_bind (slicePart_none (wpAny_bind (wpAny_pure ?_)))))
  show wpAny _ _ (match Builtin.Slice.sliceAdjust none none (-1) (items.size : Int) with | (lo, hi) => pure (lo, (-1 : Int), Builtin.Slice.slicePlaces lo hi (-1))) _ _ s
  have e1 : Builtin.Slice.sliceAdjust none none (-1) (items.size : Int) = ((items.size : Int) - 1, -1) := rfl
  rw [e1]
  have e2 : Builtin.Slice.slicePlaces ((items.size : Int) - 1) (-1) (-1) = items.size := by
    unfold Builtin.Slice.slicePlaces
    rw [if_neg (by decide)]
    by_cases hz : (items.size : Int) - 1 > -1
    · rw [if_pos hz]
      have : ((items.size : Int) - 1 - -1 - 1) / (- -1) = (items.size : Int) - 1 := by
        rw [Int.neg_neg, Int.ediv_one]
        omega
      rw [this]
      omega
    · rw [if_neg hz]
      have : items.size = 0 := by omega
      rw [this]
      rfl
  show wpAny _ _ (pure ((items.size : Int) - 1, (-1 : Int), Builtin.Slice.slicePlaces ((items.size : Int) - 1) (-1) (-1))) _ _ s
  rw [e2]
  refine wpAny_pure ?_
  show wpAny _ _ (if ((items.size : Int) - 1 == 0 && (-1 : Int) == 1 && items.size == items.size) = true then _ else _) _ _ s
  rw [if_neg (by simp)]
  rw [back_pick]
  unfold Builtin.Tuple.tupleExact
  have hl : items.toList.reverse.toArray.size ≤ sizeLine := by
    rw [List.size_toArray, List.length_reverse, Array.length_toList]
    exact hz
  refine wpAny_bind (wpAny_newObj_type ?_ hl)
  exact wpAny_pure ⟨_, rfl, wpAny_pure h⟩
end
section
variable {X : Cx} {e : Expr} {te : TE} {k : Nat} {p1 p2 p3 pos : Pos}
/-- x[::-1], a list or a tuple -/
def tRevA (K : PySem.W.Frag) (te : TE) : TE := fun σ H Q => te σ H fun x H1 => (∃ a xs, x = .ref a ∧ SqL K H1 a xs ∧ ∀ p, H1 p = none → Q (.ref p) (upd H1 p (.lst xs.reverse))) ∨ ∃ a xs, x = .ref a ∧ SqT K H1 a xs ∧ ∀ p, H1 p = none → Q (.ref p) (upd H1 p (.tup xs.reverse))
theorem pe_revA (he : PE X e te) : PE X (.Subscript e (.Slice none none (some (.UnaryOp .USub (.Constant (.int 1) k p1) p2)) p3) pos) (tRevA X.K te) := by
  refine ⟨fun pins s σ H Q I h => ?_⟩
  refine Subscript_ (thn (he.run pins s σ H _ I h) fun v s1 ⟨x, H1, I1, r1, q1⟩ => ?_)
  have hst : PO X (some (.UnaryOp .USub (.Constant (.int 1) k p1) p2)) (tPart (tUn (rU fun i => .int (-i)) (tC (.int 1)))) := po_some (pe_un un_neg pe_int)
  refine wpAny_Slice (thn (po_none.run pins s1 σ H1 (fun o H2 => o = none ∧ H2 = H1) I1 ⟨rfl, rfl⟩) fun vl s2 ⟨l, H2, I2, pl, el, e2⟩ => ?_)
  subst el e2
  refine thn (po_none.run pins s2 σ H2 (fun o H3 => o = none ∧ H3 = H2) I2 ⟨rfl, rfl⟩) fun vu s3 ⟨u, H3, I3, pu, eu, e3⟩ => ?_
  subst eu e3
  refine thn (hst.run pins s3 σ H3 (fun o H4 => o = some (-1) ∧ H4 = H3) I3 ⟨1, rfl, -1, rfl, rfl, rfl⟩) fun vs s4 ⟨o, H4, I4, ps, eo, e4⟩ => ?_
  subst eo e4
  have I5 : L2.Inv X pins σ H4 { s4 with heap := s4.heap.push { cls := .type "slice", data := .fields #[vl, vu, vs] } } := I4.kept (t' := s4.toks) fun b ob q => Heap.get?_push_of_some _ q
  rcases q1 with ⟨a, xs, ex, hx, q⟩ | ⟨a, xs, ex, hx, q⟩
  · subst ex
    cases r1
    obtain ⟨its, r, ht, hz⟩ := I5.list hx
    have hlen := r.length
    show wpAny (model X.prog X.w) X.A (subscriptTail e (.Slice none none (some (.UnaryOp .USub (.Constant (.int 1) k p1) p2)) p3) (.ref a) (.ref s4.heap.objs.size)) (EP X pins σ Q) X.xe { s4 with heap := s4.heap.push { cls := .type "slice", data := .fields #[vl, vu, vs] } }
    refine tail_any (ops := [.ref a, .ref s4.heap.objs.size]) ht.isList.typeIs (PySem.slot_list_getitem.lookup) ?_ (by with_unfolding_all rfl)
    refine wpAny_getItem_list_slice ht.isList (Heap.IsSliceOf.new _ vl vu vs) pl pu ps (by decide) ?_ (by rw [List.size_toArray]; omega)
    rw [PySem.W.krv_pick]
    refine ⟨.ref _, _, I5.laid (t' := s4.toks) (o := .lst xs.reverse) (fun b ob q => Heap.get?_push_of_some _ q) (Nat.le_refl _) ?_, rfl, q _ (I5.hok.fresh (Nat.le_refl _))⟩
    exact ⟨by rw [List.length_reverse]; exact hz, _, 0, r.reverse, Heap.get?_push_size _ rfl⟩
  · subst ex
    cases r1
    obtain ⟨its, r, ht, hz⟩ := I5.tuple hx
    have hlen := r.length
    show wpAny (model X.prog X.w) X.A (subscriptTail e (.Slice none none (some (.UnaryOp .USub (.Constant (.int 1) k p1) p2)) p3) (.ref a) (.ref s4.heap.objs.size)) (EP X pins σ Q) X.xe { s4 with heap := s4.heap.push { cls := .type "slice", data := .fields #[vl, vu, vs] } }
    refine tail_any (ops := [.ref a, .ref s4.heap.objs.size]) ht.typeIs (PyProof.Rows.slot_tuple_getitem.lookup) ?_ (by with_unfolding_all rfl)
    cases pl
    cases pu
    cases ps
    refine getItem_tupRev ht (Heap.IsSliceOf.new _ _ _ _) (by rw [List.size_toArray, ← hlen]; exact hz) ?_
    refine ⟨.ref _, _, I5.laid (t' := s4.toks) (o := .tup xs.reverse) (fun b ob q => Heap.get?_push_of_some _ q) (Nat.le_refl _) ?_, rfl, q _ (I5.hok.fresh (Nat.le_refl _))⟩
    exact ⟨by rw [List.length_reverse]; exact hz, _, r.reverse, IsTup.new _ _⟩
end
def revD : D → Option Out
  | .list l => some (.newl l.reverse)
  | .tuple l => some (.val (.tuple l.reverse))
  | _ => none
section
variable {c : CC} {Y : Sy} {a b d e : Expr} {ma mb md me : ME Y.S} {k : Nat} {p1 p2 p3 pos : Pos}
theorem de_rev (he : DE c Y e me) : DE c Y (.Subscript e (.Slice none none (some (.UnaryOp .USub (.Constant (.int 1) k p1) p2)) p3) pos) (eUn revD me) := fun X W ic tk => by
  refine PE.imp (pe_revA (he X W ic tk)) ?_
  rintro σ H Q ⟨wi, G, fp, ρ, s, cfg, k⟩
  refine ⟨wi, G, fp, ρ, s, cfg, (Cont.bindL k).mono fun v H1 ⟨G1, fp1, ρ1, s1, o1, cfg1, sim1, tr1, r1, k1⟩ => ?_⟩
  obtain ⟨o, eo, k2⟩ := of_some (k1.shift early_O tr1 sim1)
  obtain ⟨d, ed, ei⟩ := bind_some_eq eo
  have vw := cfg1.vw r1 ed
  cases d with
  | list l =>
    cases ei
    obtain ⟨a, vs, rfl, h, r⟩ := vw
    exact .inl ⟨a, vs, rfl, .inl (.inl h), fun p hp => fin_lst cfg1 k2 r.reverse hp⟩
  | tuple l =>
    cases ei
    obtain ⟨a, vs, rfl, h, r⟩ := vw_tup vw
    exact .inr ⟨a, vs, rfl, by rw [ic.K]; exact sqT_same cfg1.sub h, fun p hp => fin_tup cfg1 k2 r.reverse hp⟩
  | _ => cases ei

/-! ### a < b < d -/
/-- a op b op' d: d is looked at where the first holds -/
def eChain {S : Type} (f g : D → D → Option Out) (ma mb md : ME S) : ME S := fun ρ s => (ma ρ s).bind fun x ρ s => (mb ρ s).bind fun y ρ s => match (rd ρ x).bind fun u => (rd ρ y).bind fun v => f u v with
  | some (.val (.bool true)) => (md ρ s).bind fun z ρ s => .of ((rd ρ y).bind fun u => (rd ρ z).bind fun v => g u v) ρ s
  | some (.val (.bool false)) => .ok (.val (.bool false)) ρ s
  | _ => .bad
theorem chain_imp {W : WX} {r r' : R2} {f g : D → D → Option Out} (hs : Snd2 c r f) (hs' : Snd2 c r' g) {σ : L2.St} {H : Hp} {Q : VK} (h : tE c Y W (eChain f g ma mb md) σ H Q) : tChain r r' (tE c Y W ma) (tE c Y W mb) (tE c Y W md) σ H Q := by
  obtain ⟨wi, G, fp, ρ, s, cfg, k⟩ := h
  refine ⟨wi, G, fp, ρ, s, cfg, (Cont.bindL k).mono fun x H1 ⟨G1, fp1, ρ1, s1, o1, cfg1, sim1, tr1, r1, k1⟩ => ?_⟩
  refine ⟨wi, G1, fp1, ρ1, s1, cfg1, (Cont.bindL (k1.shift early_O tr1 sim1)).mono fun y H2 ⟨G2, fp2, ρ2, s2, o2, cfg2, sim2, tr2, r2, k2⟩ => ?_⟩
  have k3 := k2.shift early_O tr2 sim2
  have r1' := r1.keep tr2 sim2
  dsimp only at k3
  cases e1 : rd ρ2 o1 with
  | none =>
    rw [e1] at k3
    exact k3.elim
  | some d1 =>
    cases e2 : rd ρ2 o2 with
    | none =>
      rw [e1, e2] at k3
      exact k3.elim
    | some d2 =>
      rw [e1, e2] at k3
      dsimp only [Option.bind_some] at k3
      have put : ∀ b : Bool, f d1 d2 = some (.val (.bool b)) → (∀ G' H' fp', Cfg c.w c.K Y wi G' H' fp' σ ρ2 s2 → Tr G2 H2 fp2 (Own σ ρ2) G' H' fp' → if b = true then tE c Y W md σ H' (fun w' H4 => r' y w' H4 Q) else Q (V.bl false) H') → r x y H2 fun z H3 => ∃ k, z = V.bl k ∧ if k = true then tE c Y W md σ H3 (fun w' H4 => r' y w' H4 Q) else Q (V.bl false) H3 := fun b ef q =>
        hs Y W wi G2 H2 fp2 σ ρ2 s2 d1 d2 x y (.val (.bool b)) _ cfg2 (cfg2.vw r1' e1) (cfg2.vw r2 e2) ef fun G' H' fp' v h1 h2 h3 h4 => by
          cases (show Rep c.w c.K G' (.bool b) v from h4)
          exact ⟨b, rfl, q G' H' fp' h1 h3⟩
      split at k3
      · rename_i ef
        refine put true ef fun G' H' fp' c3 t3 => ?_
        rw [if_pos rfl]
        refine ⟨wi, G', fp', ρ2, s2, c3, (Cont.bindL (k3.shift early_O t3 (Sim.refl _))).mono fun w' H4 ⟨G4, fp4, ρ4, s4, o4, cfg4, sim4, tr4, r4, k4⟩ => ?_⟩
        obtain ⟨o, eo, k5⟩ := of_some (k4.shift early_O tr4 sim4)
        obtain ⟨u, eu, eo⟩ := bind_some_eq eo
        obtain ⟨z, ez, eg⟩ := bind_some_eq eo
        exact hs' Y W wi G4 H4 fp4 σ ρ4 s4 u z y w' o Q cfg4 (cfg4.vw ((r2.keep t3 (Sim.refl _)).keep tr4 sim4) eu) (cfg4.vw r4 ez) eg k5
      · rename_i ef
        refine put false ef fun G' H' fp' c3 t3 => ?_
        rw [if_neg Bool.false_ne_true]
        exact k3 G' H' fp' _ c3 (Sim.refl _) t3 (.bl false)
      · exact k3.elim
theorem de_chain {op op' : CmpOp} {r r' : R2} {f g : D → D → Option Out} (ho : ∀ X, InC c X → OpR X (compareOp op) r) (ho' : ∀ X, InC c X → OpR X (compareOp op') r') (hs : Snd2 c r f) (hs' : Snd2 c r' g) (ha : DE c Y a ma) (hb : DE c Y b mb) (hd : DE c Y d md) (hm : lastMarks [op, op'] [b, d] = false := by with_unfolding_all rfl) :
    DE c Y (.Compare a [op, op'] [b, d] pos) (eChain f g ma mb md) := fun X W ic tk =>
  PE.imp (pe_chain (ho X ic) (ho' X ic) (ha X W ic tk) (hb X W ic tk) (hd X W ic tk) hm) fun _ _ _ h => chain_imp hs hs' h
theorem dt_chain {op op' : CmpOp} {r r' : R2} {f g : D → D → Option Out} (ho : ∀ X, InC c X → OpR X (compareOp op) r) (ho' : ∀ X, InC c X → OpR X (compareOp op') r') (hs : Snd2 c r f) (hs' : Snd2 c r' g) (ha : DE c Y a ma) (hb : DE c Y b mb) (hd : DE c Y d md) (hm : lastMarks [op, op'] [b, d] = false := by with_unfolding_all rfl) :
    DT c Y (.Compare a [op, op'] [b, d] pos) (tOf (eChain f g ma mb md)) := fun X W ic tk =>
  PT.imp (pt_chain (ho X ic) (ho' X ic) (ha X W ic tk) (hb X W ic tk) (hd X W ic tk) hm) fun _ _ _ h => chain_imp hs hs' (test_of h)
end
end Dy

set_option Elab.async false
set_option linter.all false
set_option maxRecDepth 100000
namespace Dy
open PySem PySem.Spec PyProof.Rows L2

/-! ### the law's source of choices: a dict of the cells left, a number, two states -/
structure Src where
  cells : List Int
  left : Int
  mixed : Int
  turn : Int
def srcK (cl : Addr) (s : Src) : List (Key × V) := [(.inr "cells", .ref cl), (.inr "left", .int s.left), (.inr "mixed", .int s.mixed), (.inr "turn", .int s.turn)]
def SrcR (wi : Addr × Addr) (s : Src) (H : Hp) (fp : Addr → Prop) : Prop := H wi.1 = some (.dK (srcK wi.2 s)) ∧ H wi.2 = some (.lst (s.cells.map V.int)) ∧ wi.1 ≠ wi.2 ∧ ∀ a, fp a ↔ (a = wi.1 ∨ a = wi.2)
abbrev srcY : Sy where
  S := Src
  W := Addr × Addr
  R := SrcR
  hv := fun wi _ => .ref wi.1
  at_ := fun {wi s H fp} r a h => by
    obtain ⟨h1, h2, _, h4⟩ := r
    rcases (h4 a).mp h with e | e
    · exact ⟨_, by rw [e]; exact h1⟩
    · exact ⟨_, by rw [e]; exact h2⟩
  stay := fun {wi s H H' fp} r k => by
    obtain ⟨h1, h2, h3, h4⟩ := r
    exact ⟨(k _ ((h4 _).mpr (.inl rfl))).trans h1, (k _ ((h4 _).mpr (.inr rfl))).trans h2, h3, h4⟩
/-- the outer state moves -/
theorem Cfg.out {w : World} {K : PySem.W.Frag} {Y : Sy} {wi : Y.W} {G H H' : Hp} {fp O : Addr → Prop} {σ : L2.St} {ρ : Fr} {s s' : Y.S} (cfg : Cfg w K Y wi G H fp σ ρ s) (k : ∀ a, ¬ fp a → H' a = H a) (R : Y.R wi s' H' fp) (nt : ∀ a, fp a → ¬ IsT (H' a)) :
    Cfg w K Y wi G H' fp σ ρ s' ∧ Tr G H fp O G H' fp := by
  have ng : ∀ a o, G a = some o → ¬ fp a := fun a o e z => by
    rw [cfg.gfp a z] at e
    cases e
  refine ⟨⟨fun a o e => (k a (ng a o e)).trans (cfg.sub a o e), R, cfg.gfp, cfg.len, fun i x hx => ?_, cfg.dis⟩, fun _ _ e => e, fun a o e nf _ => (k a nf).trans e, fun a e => ?_, fun a e => .inl e, fun a e => .inl e, fun a e f => (nt a f e).elim⟩
  · have sl := cfg.slot i x hx
    cases x with
    | non => trivial
    | val d => exact sl
    | lst l =>
      obtain ⟨a, e, h1, h2, h3⟩ := sl
      exact ⟨a, e, h1, h2, h3.mono (k a h2) fun _ _ h => h⟩
    | dct l =>
      obtain ⟨a, e, h1, h2, h3⟩ := sl
      exact ⟨a, e, h1, h2, h3.mono (k a h2) fun _ _ h => h⟩
    | hdl j => exact sl
  · by_cases f : fp a
    · obtain ⟨o, z⟩ := Y.at_ R a f
      rw [e] at z
      cases z
    · rw [← k a f]
      exact e
theorem not_isT_dK {kvs : List (Key × V)} : ¬ IsT (some (.dK kvs)) := fun ⟨ys, h⟩ => by
  rcases h with h | ⟨ob, h⟩ <;> cases h
/-- the source's dict is written -/
theorem src_put {w : World} {K : PySem.W.Frag} {wi : Addr × Addr} {G H : Hp} {fp O : Addr → Prop} {σ : L2.St} {ρ : Fr} {s s' : Src} (cfg : Cfg w K srcY wi G H fp σ ρ s) (hc : s'.cells = s.cells) :
    Cfg w K srcY wi G (upd H wi.1 (.dK (srcK wi.2 s'))) fp σ ρ s' ∧ Tr G H fp O G (upd H wi.1 (.dK (srcK wi.2 s'))) fp := by
  obtain ⟨h1, h2, h3, h4⟩ := (show SrcR wi s H fp from cfg.rs)
  refine cfg.out (fun a nf => upd_ne fun e => nf ((h4 a).mpr (.inl e))) ⟨upd_same, ?_, h3, h4⟩ fun a f => ?_
  · rw [upd_ne (Ne.symm h3), hc]
    exact h2
  · rcases (h4 a).mp f with e | e
    · rw [e, upd_same]
      exact not_isT_dK
    · rw [e, upd_ne (Ne.symm h3), h2]
      exact not_isT_lst
theorem src_pop {w : World} {K : PySem.W.Frag} {wi : Addr × Addr} {G H : Hp} {fp O : Addr → Prop} {σ : L2.St} {ρ : Fr} {s : Src} (cfg : Cfg w K srcY wi G H fp σ ρ s) (l : List Int) :
    Cfg w K srcY wi G (upd H wi.2 (.lst (l.map V.int))) fp σ ρ { s with cells := l } ∧ Tr G H fp O G (upd H wi.2 (.lst (l.map V.int))) fp := by
  obtain ⟨h1, h2, h3, h4⟩ := (show SrcR wi s H fp from cfg.rs)
  refine cfg.out (fun a nf => upd_ne fun e => nf ((h4 a).mpr (.inr e))) ⟨?_, upd_same, h3, h4⟩ fun a f => ?_
  · rw [upd_ne h3]
    exact h1
  · rcases (h4 a).mp f with e | e
    · rw [e, upd_ne h3, h1]
      exact not_isT_dK
    · rw [e, upd_same]
      exact not_isT_lst

def isSrc (ρ : Fr) (i : Nat) : Bool := match ρ[i]? with
  | some (.hdl 0) => true
  | _ => false
theorem isSrc_eq {ρ : Fr} {i : Nat} (h : isSrc ρ i = true) : ρ[i]? = some (.hdl 0) := by
  unfold isSrc at h
  split at h
  · assumption
  · cases h
/-- source[name], a number -/
def eSrc (i : Nat) (f : Src → Int) : ME Src := fun ρ s => if isSrc ρ i then .ok (.val (.int (f s))) ρ s else .bad
def eSrcLen (i : Nat) : ME Src := fun ρ s => if isSrc ρ i then .ok (.val (.int (s.cells.length : Int))) ρ s else .bad
def eSrcPop (i : Nat) : ME Src := fun ρ s => if isSrc ρ i then match s.cells[s.cells.length - 1]? with
  | some n => .ok (.val (.int n)) ρ { s with cells := s.cells.dropLast }
  | none => .bad else .bad
def sSrc (i : Nat) (f : Src → Int → Src) (me : ME Src) : MS Src := fun ρ s => (me ρ s).fl fun o ρ s => match asVal o with
  | some (.int n) => if isSrc ρ i then .nx ρ (f s n) else .bad
  | _ => .bad
section
variable {c : CC} {e : Expr} {me : ME Src} {x key : Str} {p p2 p3 pos pos2 : Pos} {j : Nat}
theorem de_src (i : Nat) (f : Src → Int) (hf : ∀ cl s, valV (srcK cl s) (.inr key) = some (.int (f s))) (hN : c.N[i]? = some x := by rfl) (hv : Vis c.sc x := by first | exact Or.inl rfl | exact Or.inr (Or.inl rfl) | exact Or.inr (Or.inr rfl)) (hd : (x == ("__debug__" : Str)) = false := by decide) (hcd : (x == ("__classdict__" : Str)) = false := by decide)
    (hs : NoSl (.Constant (.str key) j p2) := by exact fun _ _ => rfl) : DE c srcY (.Subscript (.Name x p) (.Constant (.str key) j p2) pos) (eSrc i f) := fun X W ic tk => by
  refine PE.imp (pe_dget (by have := ic.units; omega) (pe_var (i := i) (by rw [ic.N]; exact hN) (by rw [ic.sc]; exact hv) hd hcd) pe_str hs) ?_
  rintro σ H Q ⟨wi, G, fp, ρ, s, cfg, k⟩
  unfold eSrc at k
  split at k
  · rename_i hi
    have sl := cfg.slot i _ (isSrc_eq hi)
    obtain ⟨h1, _⟩ := (show SrcR wi s H fp from cfg.rs)
    exact ⟨_, sl, wi.1, _, rfl, .inl ⟨_, .inr key, .inl h1, rfl, (hf _ _).symm⟩, fin_val cfg k (.int _)⟩
  · exact k.elim
theorem de_srcLen (i : Nat) (hN : c.N[i]? = some x := by rfl) (hv : Vis c.sc x := by first | exact Or.inl rfl | exact Or.inr (Or.inl rfl) | exact Or.inr (Or.inr rfl)) (hd : (x == ("__debug__" : Str)) = false := by decide) (hcd : (x == ("__classdict__" : Str)) = false := by decide)
    (hs : NoSl (.Constant (.str "cells") j p2) := by exact fun _ _ => rfl) (hg : c.sc.names.lookup ("len" : Str) = some .globalImplicit := by rfl) (hm : c.mg "len" = none := by rfl)
    (he : ∀ env, starEach [.Subscript (.Name x p) (.Constant (.str "cells") j p2) pos] env = (false, eval (.Subscript (.Name x p) (.Constant (.str "cells") j p2) pos) env) :: starEach [] env := by intro _; rfl) :
    DE c srcY (.Call (.Name "len" p3) [.Subscript (.Name x p) (.Constant (.str "cells") j p2) pos] [] pos2) (eSrcLen i) := fun X W ic tk => by
  refine PE.imp (pe_callB call_len_seq (show X.env.scope.names.lookup _ = _ by rw [ic.sc]; exact hg) (by rw [ic.mg]; exact hm) (by decide +kernel) (pa_cons (pe_dget (by have := ic.units; omega) (pe_var (i := i) (by rw [ic.N]; exact hN) (by rw [ic.sc]; exact hv) hd hcd) pe_str hs) pa_nil (he _)) (by decide) (by decide) (he _) rfl) ?_
  rintro σ H Q ⟨wi, G, fp, ρ, s, cfg, k⟩
  unfold eSrcLen at k
  split at k
  · rename_i hi
    have sl := cfg.slot i _ (isSrc_eq hi)
    obtain ⟨h1, h2, _⟩ := (show SrcR wi s H fp from cfg.rs)
    refine ⟨_, sl, wi.1, .ref wi.2, rfl, .inl ⟨_, .inr "cells", .inl h1, rfl, rfl⟩, wi.2, _, rfl, .inl (.inl (.inl h2)), ?_⟩
    rw [List.length_map]
    exact fin_val cfg k (.int _)
  · exact k.elim
theorem de_srcPop (i : Nat) (hN : c.N[i]? = some x := by rfl) (hv : Vis c.sc x := by first | exact Or.inl rfl | exact Or.inr (Or.inl rfl) | exact Or.inr (Or.inr rfl)) (hd : (x == ("__debug__" : Str)) = false := by decide) (hcd : (x == ("__classdict__" : Str)) = false := by decide)
    (hs : NoSl (.Constant (.str "cells") j p2) := by exact fun _ _ => rfl) (hbase : ∀ env, attributeBase (.Subscript (.Name x p) (.Constant (.str "cells") j p2) pos) "pop" env (eval (.Subscript (.Name x p) (.Constant (.str "cells") j p2) pos) env) = eval (.Subscript (.Name x p) (.Constant (.str "cells") j p2) pos) env := by intro _; rfl)
    (hline : (p3.endLine == pos2.line) = true := by rfl) : DE c srcY (.Call (.Attribute (.Subscript (.Name x p) (.Constant (.str "cells") j p2) pos) "pop" p3) [] [] pos2) (eSrcPop i) := fun X W ic tk => by
  refine PE.imp (pe_bm0 F.plainAttrs_list F.slot_list_pop F.type_list_pop mt_pop (pe_dget (by have := ic.units; omega) (pe_var (i := i) (by rw [ic.N]; exact hN) (by rw [ic.sc]; exact hv) hd hcd) pe_str hs) (hbase _) hline) ?_
  rintro σ H Q ⟨wi, G, fp, ρ, s, cfg, k⟩
  unfold eSrcPop at k
  split at k
  · rename_i hi
    split at k
    · rename_i n hn
      have sl := cfg.slot i _ (isSrc_eq hi)
      obtain ⟨h1, h2, _⟩ := (show SrcR wi s H fp from cfg.rs)
      refine ⟨_, sl, wi.1, .ref wi.2, rfl, .inl ⟨_, .inr "cells", .inl h1, rfl, rfl⟩, .inl ⟨rfl, _, .inl (.inl h2)⟩, wi.2, _, .int n, rfl, rfl, h2, ?_, ?_⟩
      · rw [List.length_map, List.getElem?_map, hn]
        rfl
      · rw [← List.map_dropLast]
        obtain ⟨c2, t2⟩ := src_pop (O := Own σ ρ) cfg s.cells.dropLast
        exact k G _ fp (.int n) c2 (Sim.refl ρ) t2 (.int n)
    · exact k.elim
  · exact k.elim
theorem ds_src (i : Nat) (f : Src → Int → Src) (hf : ∀ cl s n, putK (srcK cl s) (.inr key) (.int n) = srcK cl (f s n)) (hcells : ∀ s n, (f s n).cells = s.cells) (he : DE c srcY e me) (hN : c.N[i]? = some x := by rfl) (hv : Vis c.sc x := by first | exact Or.inl rfl | exact Or.inr (Or.inl rfl) | exact Or.inr (Or.inr rfl)) (hd : (x == ("__debug__" : Str)) = false := by decide) (hcd : (x == ("__classdict__" : Str)) = false := by decide)
    (hs : ∀ env, env.scope = c.sc → swapsWith e (some (.Subscript (.Name x p) (.Constant (.str key) j p2) p3)) pos.line env = pure false := by intro _ _; rfl) : DS c srcY (.Assign [.Subscript (.Name x p) (.Constant (.str key) j p2) p3] e pos) (sSrc i f me) := fun X W ic tk => by
  refine PS.imp (ps_dput (by have := ic.units; omega) (pe_var (i := i) (by rw [ic.N]; exact hN) (by rw [ic.sc]; exact hv) hd hcd) pe_str (he X W ic tk) (hs _ ic.sc)) ?_
  rintro E σ H ⟨wi, G, fp, ρ, s, cfg, k⟩
  refine ⟨wi, G, fp, ρ, s, cfg, (Cont.bindS k).mono fun v H1 ⟨G1, fp1, ρ1, s1, o1, cfg1, sim1, tr1, r1, k1⟩ => ?_⟩
  dsimp only at k1
  split at k1
  · rename_i n hn
    obtain ⟨rfl, rv⟩ := rep_asVal r1 hn
    cases rv
    split at k1
    · rename_i hi
      have sl := cfg1.slot i _ (isSrc_eq hi)
      obtain ⟨h1, h2, _⟩ := (show SrcR wi s1 H1 fp1 from cfg1.rs)
      refine ⟨_, sl, wi.1, _, rfl, .inl ⟨_, .inr key, h1, rfl, by show 4 < sizeLine; rw [sizeLine_eq]; decide, rfl⟩, ?_⟩
      rw [hf]
      obtain ⟨c2, t2⟩ := src_put (O := Own σ ρ1) cfg1 (hcells s1 n)
      exact k1 G1 _ fp1 σ c2 (tr1.trans t2 fun p o => .inl (sim1.ownI o)) fun p o => .inl (sim1.ownI o)
    · exact k1.elim
  · exact k1.elim
end
def setLeft (s : Src) (n : Int) : Src := { s with left := n }
def setMixed (s : Src) (n : Int) : Src := { s with mixed := n }
def setTurn (s : Src) (n : Int) : Src := { s with turn := n }
end Dy

set_option Elab.async false
set_option linter.all false
set_option maxRecDepth 100000
namespace Dy
open PySem PySem.Spec PyProof.Rows L2

/-! ### a >= b, two tuples of ints -/
abbrev geAt (ns ms : List Int) : Bool := Ob.lexAt (fun j => decide (ns.getD j 0 = ms.getD j 0)) (fun j => decide (ns.getD j 0 ≥ ms.getD j 0)) (decide (ns.length ≥ ms.length)) 0 (min ns.length ms.length)
def rGeT (K : PySem.W.Frag) : R2 := fun x y H Q => ∃ a b ns ms, x = .ref a ∧ y = .ref b ∧ SqT K H a (ns.map V.int) ∧ SqT K H b (ms.map V.int) ∧ Q (.bl (geAt ns ms)) H
theorem op_geT {X : Cx} (hu : X.A.units < cLine) : OpR X (compareOp .GtE) (rGeT X.K) := by
  intro pins s σ H x y v u Q I rx ry h
  obtain ⟨a, b, ns, ms, rfl, rfl, ha, hb, q⟩ := h
  cases rx
  cases ry
  obtain ⟨its, r1, p1, _⟩ := I.tuple ha
  obtain ⟨its2, r2, p2, _⟩ := I.tuple hb
  have i1 := Vals.ints r1
  have i2 := Vals.ints r2
  have e1 : its.toArray.size = ns.length := by
    rw [List.size_toArray]
    exact IntsAre.length i1
  have e2 : its2.toArray.size = ms.length := by
    rw [List.size_toArray]
    exact IntsAre.length i2
  have at1 : ∀ (j : Nat) (h1 : j < its.toArray.size), ∃ t, its.toArray[j] = .int (ns.getD j 0) t := fun j h1 => IntsAre.int_at i1 j _ (by simp)
  have at2 : ∀ (j : Nat) (h1 : j < its2.toArray.size), ∃ t, its2.toArray[j] = .int (ms.getD j 0) t := fun j h1 => IntsAre.int_at i2 j _ (by simp)
  have R := Ob.RcOp.tuples_ge (e := fun j => decide (ns.getD j 0 = ms.getD j 0)) (r := fun j => decide (ns.getD j 0 ≥ ms.getD j 0)) p1 p2 hu (fun j h1 h2 => by
    obtain ⟨t, et⟩ := at1 j h1
    obtain ⟨t', et'⟩ := at2 j h2
    rw [et, et']
    exact SeqAt.EqAt.int_int _ _ _ _) (fun j h1 h2 _ => by
    obtain ⟨t, et⟩ := at1 j h1
    obtain ⟨t', et'⟩ := at2 j h2
    rw [et, et']
    exact Ob.RcOp.ge_int _ _ _ _)
  rw [e1, e2] at R
  exact R X.prog X.w X.xe (EP X pins σ Q) ⟨.bl (geAt ns ms), H, I, rfl, q⟩
section
variable {c : CC} {Y : Sy} {a b d e : Expr} {es : List Expr} {ma mb me : ME Y.S} {mr : MA Y.S} {pos p p2 tpos : Pos}
theorem snd_geT : Snd2 c (rGeT c.K) (onT geAt) := fun Y W wi G H fp σ ρ s x y v u o Q cfg vx vy e k => by
  obtain ⟨b, e2, rfl⟩ := onB_some e
  replace e := e2
  split at e
  · rename_i a1 b1
    split at e
    · rename_i ns ms h1 h2
      cases e
      obtain rfl := intsOf_map h1
      obtain rfl := intsOf_map h2
      obtain ⟨p, vs, rfl, q1, r1⟩ := vw_tup vx
      obtain ⟨q, us, rfl, q2, r2⟩ := vw_tup vy
      have e3 := repA_ints r1
      have e4 := repA_ints r2
      subst e3 e4
      exact ⟨p, q, ns, ms, rfl, rfl, sqT_same cfg.sub q1, sqT_same cfg.sub q2, fin_val cfg k (.bl _)⟩
    · cases e
  · cases e
def geD : D → D → Option Out := fun x y => (geI x y).or (onT geAt x y)
theorem ho_ge (X : Cx) (ic : InC c X) : OpR X (compareOp .GtE) fun x y H Q => rI0 (fun i j => .bl (decide (j ≤ i))) x y H Q ∨ rGeT c.K x y H Q := by
  rw [← ic.K]
  exact OpR.or op_ge (op_geT ic.u0)
theorem s_geD : Snd2 c (fun x y H Q => rI0 (fun i j => .bl (decide (j ≤ i))) x y H Q ∨ rGeT c.K x y H Q) geD := s_ge.or snd_geT
theorem de_geT (ha : DE c Y a ma) (hb : DE c Y b mb) (hm : behindInMarks .GtE b = false := by rfl) : DE c Y (.Compare a [.GtE] [b] pos) (eBin geD ma mb) := de_cmp ho_ge s_geD ha hb hm
theorem dt_geT (ha : DE c Y a ma) (hb : DE c Y b mb) (hm : behindInMarks .GtE b = false := by rfl) : DT c Y (.Compare a [.GtE] [b] pos) (tBin geD ma mb) := dt_cmp ho_ge s_geD ha hb hm

/-! ### a < b, two tuples of ints -/
theorem snd_ltT : Snd2 c (rLtT c.K) (onT HT.lexLt) := fun Y W wi G H fp σ ρ s x y v u o Q cfg vx vy e k => by
  obtain ⟨b, e2, rfl⟩ := onB_some e
  replace e := e2
  split at e
  · rename_i a1 b1
    split at e
    · rename_i ns ms h1 h2
      cases e
      obtain rfl := intsOf_map h1
      obtain rfl := intsOf_map h2
      obtain ⟨p, vs, rfl, q1, r1⟩ := vw_tup vx
      obtain ⟨q, us, rfl, q2, r2⟩ := vw_tup vy
      have e3 := repA_ints r1
      have e4 := repA_ints r2
      subst e3 e4
      exact ⟨p, q, ns, ms, rfl, rfl, sqT_same cfg.sub q1, sqT_same cfg.sub q2, fin_val cfg k (.bl _)⟩
    · cases e
  · cases e
def ltD : D → D → Option Out := fun x y => (ltI x y).or (onT HT.lexLt x y)
theorem ho_lt (X : Cx) (ic : InC c X) : OpR X (compareOp .Lt) fun x y H Q => rI0 (fun i j => .bl (decide (i < j))) x y H Q ∨ rLtT c.K x y H Q := by
  rw [← ic.K]
  exact OpR.or op_lt (op_ltT ic.u0)
theorem s_ltD : Snd2 c (fun x y H Q => rI0 (fun i j => .bl (decide (i < j))) x y H Q ∨ rLtT c.K x y H Q) ltD := s_lt.or snd_ltT
theorem de_ltT (ha : DE c Y a ma) (hb : DE c Y b mb) (hm : behindInMarks .Lt b = false := by rfl) : DE c Y (.Compare a [.Lt] [b] pos) (eBin ltD ma mb) := de_cmp ho_lt s_ltD ha hb hm
theorem dt_ltT (ha : DE c Y a ma) (hb : DE c Y b mb) (hm : behindInMarks .Lt b = false := by rfl) : DT c Y (.Compare a [.Lt] [b] pos) (tBin ltD ma mb) := dt_cmp ho_lt s_ltD ha hb hm

/-! ### repr -/
def reprOk (d : D) : Bool := d.canLay0 && d.showable && !d.hasDict && decide (d.depth ≤ 64) && sizeOk d.shown.length
def reprD : List D → Option Out
  | [.int i] => if decide (i.natAbs.log2 < 1920) then some (.val (.str (Str.ofString (toString i)))) else none
  | [.tuple l] => if reprOk (.tuple l) then some (.val (.str (PyData.tuple l).shown)) else none
  | [.list l] => if reprOk (.list l) then some (.val (.str (PyData.list l).shown)) else none
  | _ => none
def rRepr (K : PySem.W.Frag) : List V → Hp → VK → Prop := fun xs H Q => (∃ i : Int, xs = [.int i] ∧ i.natAbs.log2 < 1920 ∧ Q (.str (Str.ofString (toString i))) H) ∨ ∃ a d, xs = [V.ref a] ∧ Dp K H (.ref a) d ∧ d.showable = true ∧ d.hasDict = false ∧ d.depth ≤ 64 ∧ d.shown.length ≤ sizeLine ∧ Q (.str d.shown) H
theorem cr_repr (X : Cx) (ic : InC c X) : CallR X (.builtin "repr") (rRepr c.K) := by
  intro pins s σ H xs us Q I r h
  rcases h with ⟨i, rfl, hz, q⟩ | ⟨a, d, rfl, hd, h1, h2, h3, h4, q⟩
  · cases r with
    | cons r rr =>
      cases rr
      obtain ⟨t, rfl⟩ := r
      exact P.repr_of_int hz ⟨V.str (Str.ofString (toString i)), H, I.tok (s.toks + 1), ⟨s.toks, rfl⟩, q⟩
  · cases r with
    | cons r rr =>
      cases rr
      cases r
      rw [← ic.K] at hd
      obtain ⟨as, ra⟩ := Dp.reads I d _ _ hd rfl
      refine repr_of_reads' ra h1 (fun e => by rw [h2] at e; cases e) ic.gd (by have := ic.units; omega) (fun _ _ e => e) (fun h' u tk hk => ⟨.str d.shown, H, I.kept hk, ⟨u, rfl⟩, q⟩) h4
theorem sn_repr : SndC c (rRepr c.K) reprD := by
  intro Y W wi G H fp σ ρ s ds vs o Q cfg vw e k
  have big : ∀ (d : D) (v : V), Vw c.w c.K G H d v → (∃ a, v = V.ref a) → reprOk d = true → Cont c Y W (relO c Y wi) wi G H fp σ ρ Q (.ok (.val (.str d.shown)) ρ s) → rRepr c.K [v] H Q := fun d v vw hv ok k => by
    obtain ⟨a, rfl⟩ := hv
    unfold reprOk at ok
    simp only [Bool.and_eq_true, Bool.not_eq_true', decide_eq_true_eq] at ok
    obtain ⟨⟨⟨⟨o1, o2⟩, o3⟩, o4⟩, o5⟩ := ok
    exact .inr ⟨a, d, rfl, (vw.rep cfg.sub).dp o1, o2, o3, o4, sizeOk_le o5, fin_val cfg k (.str _)⟩
  unfold reprD at e
  split at e
  · rename_i i
    cases vw with
    | cons h1 t =>
      cases t
      split at e
      · rename_i hz
        cases e
        rw [vw_int h1]
        exact .inl ⟨i, rfl, of_decide_eq_true hz, fin_val cfg k (.str _)⟩
      · cases e
  · rename_i l
    cases vw with
    | cons h1 t =>
      cases t
      split at e
      · rename_i hz
        cases e
        obtain ⟨p, vs, rfl, _⟩ := vw_tup h1
        exact big _ _ h1 ⟨_, rfl⟩ hz k
      · cases e
  · rename_i l
    cases vw with
    | cons h1 t =>
      cases t
      split at e
      · rename_i hz
        cases e
        exact big _ _ h1 (by obtain ⟨p, vs, e, _⟩ := h1; exact ⟨p, e⟩) hz k
      · cases e
  · cases e
theorem de_repr (ha : DA c Y (e :: es) mr) (hg : c.sc.names.lookup ("repr" : Str) = some .globalImplicit := by rfl) (hm : c.mg "repr" = none := by rfl)
    (he : ∀ env, starEach (e :: es) env = (false, eval e env) :: starEach es env := by intro _; rfl) (hpl : ∀ env, (backTo pos (starEach es env)).any (·.1) = false := by intro _; rfl) : DE c Y (.Call (.Name "repr" p) (e :: es) [] pos) (eBi reprD mr) :=
  de_bi cr_repr sn_repr ha (by decide +kernel) hg hm (by decide) (by decide) he hpl

/-! ### zip of two lists or two tuples -/
def zipL (l m : List D) : List D := List.zipWith (fun x y => PyData.tuple [x, y]) l m
theorem zipL_length (l m : List D) : (zipL l m).length = min l.length m.length := List.length_zipWith
theorem zipL_get {l m : List D} {i : Nat} {x y : D} (h : l[i]? = some x) (k : m[i]? = some y) : (zipL l m)[i]? = some (.tuple [x, y]) := by
  unfold zipL
  rw [List.getElem?_zipWith, h, k]
def iZip {S : Type} (ma : MA S) : MI S := fun ρ s => (ma ρ s).bind fun os ρ s => .of ((vals os).bind fun l => match l with
  | [.list a, .list b] => some (zipL a b)
  | [.tuple a, .tuple b] => some (zipL a b)
  | _ => none) ρ s
variable {w : World} {K : PySem.W.Frag} {G : Hp}
theorem runs_zipT {a b : Addr} {l m : List D} {vs us : List V} (h : SqT K G a vs) (h2 : SqT K G b us) (r : RepA w K G l vs) (r2 : RepA w K G m us) : Runs w K (RZ.ItzT K a b) (zipL l m) G where
  go := fun i H sg hi => by
    have hi : i < (zipL l m).length := hi
    rw [zipL_length] at hi
    exact ⟨vs, us, vs[i]'(by rw [← r.length]; omega), us[i]'(by rw [← r2.length]; omega), sqT_same sg h, sqT_same sg h2, List.getElem?_eq_getElem _, List.getElem?_eq_getElem _⟩
  stop := fun H sg => ⟨vs, us, sqT_same sg h, sqT_same sg h2, by rw [zipL_length, r.length, r2.length]; omega⟩
  yld := fun i H x H' sg hi y => by
    obtain ⟨T, x1, x2, rfl, hT, rfl, hx, hy⟩ := y
    obtain ⟨d, hd, rd⟩ := r.getV (hx vs (sqT_same sg h))
    obtain ⟨d2, hd2, rd2⟩ := r2.getV (hy us (sqT_same sg h2))
    exact ⟨_, zipL_get hd hd2, .inr ⟨T, [d, d2], _, hT, rfl, rfl, rfl, .cons rd (.cons rd2 .nil)⟩⟩
theorem runs_zipL {a b : Addr} {l m : List D} {vs us : List V} (h : G a = some (.lst vs)) (h2 : G b = some (.lst us)) (r : RepA w K G l vs) (r2 : RepA w K G m us) : Runs w K (Itz K a b) (zipL l m) G where
  go := fun i H sg hi => by
    have hi : i < (zipL l m).length := hi
    rw [zipL_length] at hi
    exact ⟨vs, us, vs[i]'(by rw [← r.length]; omega), us[i]'(by rw [← r2.length]; omega), .inl (.inl (sg _ _ h)), .inl (.inl (sg _ _ h2)), List.getElem?_eq_getElem _, List.getElem?_eq_getElem _⟩
  stop := fun H sg => ⟨vs, us, .inl (.inl (sg _ _ h)), .inl (.inl (sg _ _ h2)), by rw [zipL_length, r.length, r2.length]; omega⟩
  yld := fun i H x H' sg hi y => by
    obtain ⟨T, x1, x2, rfl, hT, rfl, hx, hy⟩ := y
    obtain ⟨d, hd, rd⟩ := r.getV (hx vs (.inl (.inl (sg _ _ h))))
    obtain ⟨d2, hd2, rd2⟩ := r2.getV (hy us (.inl (.inl (sg _ _ h2))))
    exact ⟨_, zipL_get hd hd2, .inr ⟨T, [d, d2], _, hT, rfl, rfl, rfl, .cons rd (.cons rd2 .nil)⟩⟩
theorem zip_imp {W : WX} {σ : L2.St} {H : Hp} {R : It → Hp → Prop} {ma : MA Y.S} (h : tI c Y W (iZip ma) σ H R) : RZ.iZipA c.K (tA c Y W ma) σ H R := by
  obtain ⟨wi, G, fp, ρ, s, cfg, k⟩ := h
  refine ⟨wi, G, fp, ρ, s, cfg, (Cont.bindL k).mono fun vs H1 ⟨G1, fp1, ρ1, s1, os, cfg1, sim1, tr1, r1, k1⟩ => ?_⟩
  obtain ⟨l, el, k2⟩ := of_some k1
  obtain ⟨ds, ed, ew⟩ := bind_some_eq el
  have ra := vals_rep r1 ed
  have fin : ∀ {J : It}, Runs c.w c.K J l G1 → R J H1 := fun {J} ru => k2 G1 H1 fp1 J cfg1 sim1 tr1 ru
  split at ew
  · rename_i l1 l2
    cases ew
    cases ra with
    | cons z1 z2 =>
      cases z2 with
      | cons z2 z3 =>
        cases z3
        cases z1 with
        | lst h1 t =>
          cases z2 with
          | lst h2 t2 => exact ⟨_, _, _, _, rfl, .inl ⟨.inl (.inl (cfg1.sub _ _ h1)), .inl (.inl (cfg1.sub _ _ h2)), fin (runs_zipL h1 h2 t t2)⟩⟩
  · rename_i l1 l2
    cases ew
    cases ra with
    | cons z1 z2 =>
      cases z2 with
      | cons z2 z3 =>
        cases z3
        cases z1 with
        | tup h1 t =>
          cases z2 with
          | tup h2 t2 => exact ⟨_, _, _, _, rfl, .inr ⟨sqT_same cfg1.sub h1, sqT_same cfg1.sub h2, fin (runs_zipT h1 h2 t t2)⟩⟩
  · cases ew
theorem di_zip {elts : List Expr} {kk : Nat} (ha : DE c Y a ma) (hb : DE c Y b mb) (hg : c.sc.names.lookup ("zip" : Str) = some .globalImplicit := by rfl) (hm : c.mg "zip" = none := by rfl) (h1 : ∀ env, starEach [a, b] env = (false, eval a env) :: starEach [b] env := by intro _; rfl) (h2 : ∀ env, starEach [b] env = (false, eval b env) :: starEach [] env := by intro _; rfl)
    (hpl : ∀ env, (backTo pos (starEach [b] env)).any (·.1) = false := by intro _; rfl) :
    DI c Y (.Tuple elts kk tpos) (.Call (.Name "zip" p) [a, b] [] pos) (iZip (aCons ma (aCons mb aNil))) := fun X W ic tk => by
  refine PI.imp (RZ.pi_zipA (show X.env.scope.names.lookup _ = _ by rw [ic.sc]; exact hg) (by rw [ic.mg]; exact hm) (pa_cons (ha X W ic tk) (pa_cons (hb X W ic tk) pa_nil (h2 _)) (h1 _)) (h1 _) (hpl _)) fun σ H R h => ?_
  rw [ic.K]
  have q := zip_imp h
  obtain ⟨wi, G, fp, ρ, s, cfg, k⟩ := acons_imp q
  refine ⟨wi, G, fp, ρ, s, cfg, k.mono fun x H1 h1 => ?_⟩
  obtain ⟨wi, G, fp, ρ, s, cfg, k⟩ := acons_imp h1
  exact ⟨wi, G, fp, ρ, s, cfg, k.mono fun x H1 h1 => anil_imp h1⟩
end
end Dy

set_option Elab.async false
set_option linter.all false
set_option maxRecDepth 100000
namespace Dy
open PySem PySem.Spec PyProof.Rows L2

/-! ### the law itself: source = _law_source(script), then its rest -/
/-- the frame behind the first statement -/
def lawF (n : Nat) : Fr := .non :: .hdl 0 :: List.replicate (n - 2) .non
/-- what is asked of the law: its rest gives True at each source -/
def spLawD (K : PySem.W.Frag) (srcOf : List Int → Src) (n : Nat) (mb : MS Src) : Sp := fun vs H Q _ => ∃ (a : Addr) (ns : List Int), vs = [.ref a] ∧ SqL K H a (ns.map V.int) ∧ ns.length ≤ 63 ∧ (∃ ρ s, mb (lawF n) (srcOf ns) = .rt (.val (.bool true)) ρ s) ∧ ∀ H', Q (.bl true) H'
def spSrcD (K : PySem.W.Frag) (srcOf : List Int → Src) : Sp := fun vs H Q _ => ∃ (a : Addr) (ns : List Int), vs = [.ref a] ∧ SqL K H a (ns.map V.int) ∧ ns.length ≤ 63 ∧
  ∀ (H' : Hp) (p q : Addr), Same H H' → H p = none → H q = none → p ≠ q → H' p = some (.dK (srcK q (srcOf ns))) → H' q = some (.lst ((srcOf ns).cells.map V.int)) → Q (.ref p) H'
theorem lawF_get {n i : Nat} {x : Sl} (h : (lawF n)[i]? = some x) : x = .non ∨ (i = 1 ∧ x = .hdl 0) := by
  unfold lawF at h
  match i, h with
  | 0, h => 
    cases h
    exact .inl rfl
  | 1, h =>
    cases h
    exact .inr ⟨rfl, rfl⟩
  | i + 2, h =>
    rw [List.getElem?_cons_succ, List.getElem?_cons_succ, List.getElem?_replicate] at h
    split at h
    · cases h
      exact .inl rfl
    · cases h
section
variable {P : Program} {w : World} {K : PySem.W.Frag} {mg : Str → Option Value} {base : Heap}
theorem law_ok {st : Stmt} {f fS : Addr} {fd fdS : FuncData} {N : List Str} {k j : Nat} {mb : MS Src} {srcOf : List Int → Src} {p1 p2 p3 p4 p5 : Pos} {rest : List Stmt}
    (F : Fun K "law" "law" st f fd) (S : FnScope N ["script"] (defScope st)) (eb : defBody st = .Assign [.Name "source" p1] (.Call (.Name "_law_source" p2) [.Name "script" p3] [] p4) p5 :: rest)
    (h1 : N[1]? = some ("source" : Str)) (hl : 2 ≤ N.length) (l1 : (defScope st).names.lookup ("source" : Str) = some .local) (l0 : Vis (defScope st) ("script" : Str)) (lg : (defScope st).names.lookup ("_law_source" : Str) = some .globalImplicit) (h0 : N[0]? = some ("script" : Str))
    (Fs : FnG P w K mg base (L2.CX P w) j fS fdS ["script"] (spSrcD K srcOf)) (gS : mg "_law_source" = some (.ref fS)) (kS : PySem.W.keepIn K (.ref fS) = true) (bS : Binds K fdS ["script"] []) (hj : j ≤ k)
    (hb : DSs (ccOf P w K mg base N (defScope st) k) srcY rest mb) : FnG P w K mg base (L2.CX P w) (k + 1) f fd ["script"] (spLawD K srcOf N.length mb) := by
  obtain ⟨⟨oc, od, kV, doc, pm, an, cdv, ct, osl, rfl, lk, hcd⟩, kp⟩ := F
  refine fn_ofG lk hcd S (fun vs H Q E h => ?_) fun A outer s H vs Q E hgd hr h => ?_
  · obtain ⟨a, ns, rfl, _⟩ := h
    rfl
  obtain ⟨a, ns, rfl, hS, hlen, ⟨ρ, s1, em⟩, q⟩ := h
  have tk : Takes (cxOf (L2.CX P w) P w K mg base N "law" (defScope st) f cdv A outer s H E) (fun c d _ H' => E c d H') := takes_of rfl rfl rfl rfl
  have ic : InC (ccOf P w K mg base N (defScope st) k) (cxOf (L2.CX P w) P w K mg base N "law" (defScope st) f cdv A outer s H E) := inC_body S hgd hr
  rw [eb]
  refine ⟨_, pss_cons (ps_set (i := 1) S.nd h1 (.inl l1) (pe_callG Fs hgd (hr.mono hj) (show (defScope st).names.lookup _ = _ from lg) gS kS bS (fun σ => passAt tk σ) (pa_cons (pe_var (i := 0) h0 l0 (by decide) (by decide)) pa_nil rfl) (by decide) rfl rfl) rfl (.inr l1)) (hb _ _ ic tk), ?_⟩
  -- the reading
  have e0 : (L2.start N [V.ref a])[0]? = some (some (.ref a)) := rfl
  refine ⟨.ref a, e0, a, ns, rfl, hS, hlen, fun H' p q' sg hp hq npq h1' h2' => ?_⟩
  refine ⟨(p, q'), H, (fun b => b = p ∨ b = q'), lawF N.length, srcOf ns, ⟨sg, ⟨h1', h2', npq, fun b => Iff.rfl⟩, fun b hb' => ?_, ?_, fun i x hx => ?_, fun i j' b x y hx hy ox oy => ?_⟩, ?_⟩
  · rcases hb' with e | e
    · rw [e]; exact hp
    · rw [e]; exact hq
  · unfold lawF L2.start
    simp only [List.length_set, List.length_append, List.length_map, List.length_replicate, List.length_cons, List.length_nil]
    omega
  · rcases lawF_get hx with rfl | ⟨rfl, rfl⟩
    · trivial
    · show ((L2.start N [V.ref a]).set 1 (some (.ref p)))[1]? = some (some (.ref p))
      rw [List.getElem?_set_self]
      unfold L2.start
      rw [List.length_append, List.length_map, List.length_replicate]
      show 1 < 1 + (N.length - 1)
      omega
  · rcases lawF_get hx with rfl | ⟨rfl, rfl⟩
    · cases ox
    · cases ox
  · rw [em]
    intro G' H2 fp' σ' v cfg tr ow r
    cases (show Rep w K G' (.bool true) v from r)
    exact q H2
end
end Dy

set_option Elab.async false
set_option linter.all false
set_option maxRecDepth 100000
namespace Dy
open PySem PySem.Spec PyProof.Rows L2

/-! ### the call of the law, from outside -/
section
variable {P : Program} {w : World} {K : PySem.W.Frag} {mg mb : Str → Option Value} {k : Nat} {fa a : Addr} {fd : FuncData} {x : Str} {sp : Sp} {s₁ : Shared} {vs : List Value} {ns : List Int}
theorem core_G (KX : K.In s₁.heap) (hns : s₁.heap.Ns mainGlobals mg) (hb : s₁.heap.Ns builtinsNs mb) (hbb : ∀ x, x ≠ Str.ofString "__name__" → mb x = bootBuiltins x) (hlim : s₁.heap.NoLimit) (hg : s₁.gens = #[])
    (ha : s₁.heap.get? a = some { cls := .type "list", data := .seq vs.toArray }) (hr : Room k callerA)
    (F : ∀ base : Heap, K.In base → base.Ns mainGlobals mg → FnG P w K mg base (L2.CX P w) k fa fd [x] sp) (hbind : ∀ (s : Shared) (u : Value), BindsTo s fd ⟨[u], []⟩ [(x, u)])
    (hsp : ∀ H : Hp, Only H → SqL K H a (ns.map V.int) → sp [.ref a] H (fun v _ => v = .bl true) fun _ _ _ => False)
    (H : Hp) (hO : Only H) (hS : SqL K H a (ns.map V.int)) (hok : HOk P w H s₁.heap) (hA : ∀ b, H b ≠ none → b = a) (hK : H a ≠ none → K.lookup a = none) :
    codeAny (model P w) callerA (.call (.ref fa) ⟨[.ref a], []⟩) (fun r s' => r = .ok (.ret (.bool true)) ∧ OldK s₁.heap s'.heap ∧ s'.os = s₁.os ∧ AllBare s'.gens) s₁ := by
  have noA : ∀ {b : Addr} {o : Obj} {es : Array DictEntry} {ep : Nat}, s₁.heap.get? b = some o → o.data = .dict es ep → H b = none := fun {b o es ep} e d => by
    cases q : H b with
    | none => rfl
    | some u =>
      have e' := hA b (by rw [q]; exact fun z => nomatch z)
      subst e'
      rw [ha] at e
      cases e
      cases d
  have nsK : ∀ {b : Addr} {m : Str → Option Value}, s₁.heap.Ns b m → (hidT s₁.heap H).Ns b m := fun {b m} ⟨o, es, ep, e, d, r⟩ => ⟨o, es, ep, hidT_get e (noA e d), d, r⟩
  have hKb : K.In (hidT s₁.heap H) := fun b o e => hidT_get (KX b o e) (by
    cases q : H b with
    | none => rfl
    | some u =>
      have e' := hA b (by rw [q]; exact fun z => nomatch z)
      subst e'
      rw [hK (by rw [q]; exact fun z => nomatch z)] at e
      cases e)
  have hM : L2.Mod K mg (hidT s₁.heap H) := ⟨hKb, nsK hns, ⟨mb, nsK hb, hbb⟩, by
    obtain ⟨mc, h1, h2⟩ := hlim
    exact ⟨mc, nsK h1, h2⟩⟩
  have e0 : Env0 P w K mg (hidT s₁.heap H) callerA [] s₁ H := ⟨rfl, hM, fun b o e => of_hidT e, Nat.le_of_eq (hidT_size s₁.heap H), trivial, fun b hb => (by cases hb), hok, AllBare.of_eq hg⟩
  refine codeAny_mono ((F _ hKb (nsK hns)).run callerA [] s₁ H ⟨[.ref a], []⟩ [.ref a] [.ref a] (fun v _ => v = .bl true) (fun _ _ _ => False) rfl hr e0 (hbind s₁ (.ref a)) (Paired.cons rfl Paired.nil) (hsp H hO hS)) fun r s' h => ?_
  cases r with
  | error e =>
    obtain ⟨_, _, _, _, _, _, _, _, _, _, _, _, z⟩ := h
    exact z.elim
  | ok fl =>
    cases fl with
    | ret u =>
      obtain ⟨v, H', os, bare, un, hok', r', q⟩ := h
      have q' : v = .bl true := q
      subst q'
      obtain rfl : u = Value.bool true := r'
      refine ⟨rfl, OldK.of_keep fun b o e => ?_, os, bare⟩
      cases q : H b with
      | none => exact un.keep b o e q (fun z => by cases z) (fun z => by cases z)
      | some u =>
        rcases hO b with z | ⟨ob, xs, z⟩
        · rw [q] at z
          cases z
        · have z2 := un.frzs b ob (.lst xs) z
          obtain ⟨e1, _⟩ := hok b _ z
          obtain ⟨e2, _⟩ := hok' b _ z2
          rw [e] at e1
          cases e1
          exact e2
    | _ => exact h.elim
theorem law_callG (KX : K.In s₁.heap) (hns : s₁.heap.Ns mainGlobals mg) (hb : s₁.heap.Ns builtinsNs mb) (hbb : ∀ x, x ≠ Str.ofString "__name__" → mb x = bootBuiltins x) (hlim : s₁.heap.NoLimit) (hg : s₁.gens = #[])
    (ha : s₁.heap.get? a = some { cls := .type "list", data := .seq vs.toArray }) (hi : IntsAre vs ns) (hl : ns.length ≤ sizeLine) (hr : Room k callerA)
    (F : ∀ base : Heap, K.In base → base.Ns mainGlobals mg → FnG P w K mg base (L2.CX P w) k fa fd [x] sp) (hbind : ∀ (s : Shared) (u : Value), BindsTo s fd ⟨[u], []⟩ [(x, u)])
    (hsp : ∀ H : Hp, Only H → SqL K H a (ns.map V.int) → sp [.ref a] H (fun v _ => v = .bl true) fun _ _ _ => False) :
    codeAny (model P w) callerA (.call (.ref fa) ⟨[.ref a], []⟩) (fun r s' => r = .ok (.ret (.bool true)) ∧ OldK s₁.heap s'.heap ∧ s'.os = s₁.os ∧ AllBare s'.gens) s₁ := by
  have rv := vals_ints hi
  have lenV := IntsAre.length hi
  cases hk : K.lookup a with
  | some o =>
    have e := KX a o hk
    rw [ha] at e
    cases e
    refine core_G KX hns hb hbb hlim hg ha hr F hbind hsp (fun _ => none) (fun _ => .inl rfl) (.inr ⟨_, vs.toArray, 0, hk, rfl, rfl, rfl, ?_, rv⟩) (fun b u z => by cases z) (fun b z => absurd rfl z) fun z => absurd rfl z
    rw [List.size_toArray, lenV]
    exact hl
  | none =>
    refine core_G KX hns hb hbb hlim hg ha hr F hbind hsp (fun b => if b = a then some (.frz { cls := .type "list", data := .seq vs.toArray } (.lst (ns.map V.int))) else none) (fun b => ?_) (.inl (.inr ⟨_, if_pos rfl⟩)) (fun b u z => ?_) (fun b z => ?_) fun _ => hk
    · by_cases hb : b = a
      · exact .inr ⟨_, _, if_pos hb⟩
      · exact .inl (if_neg hb)
    · by_cases hb : b = a
      · have z' := (if_pos hb).symm.trans z
        cases z'
        subst hb
        refine ⟨ha, ?_, vs, 0, rv, ha⟩
        rw [List.length_map]
        exact hl
      · have z' := (if_neg hb).symm.trans z
        cases z'
    · by_cases hb : b = a
      · exact hb
      · exact absurd (if_neg hb) z
end
theorem walk_G {l : PySem.W.OpenLaw} {n k : Nat} {q : Program} {loose : List Str} {XP : (Str → Option Value) → Heap → Prop} {YP : World → Heap → Prop} {d : DefRec} {x : Str} (hn : l.most = some n) (hn2 : n ≤ sizeLine) (hdf : d.params.defaults = []) (hr : Room k callerA)
    (F : ∀ (w : World) (mg : Str → Option Value) (fa : Addr) (h : Heap), YP w h → h.Ns mainGlobals mg → mg d.name = some (.ref fa) → ∃ K fd sp, K.In h ∧ (∀ (s : Shared) (u : Value), BindsTo s fd ⟨[u], []⟩ [(x, u)]) ∧
      (∀ (H : Hp) (a : Addr) (ns : List Int), ns.length ≤ n → Only H → SqL K H a (ns.map V.int) → sp [.ref a] H (fun v _ => v = .bl true) fun _ _ _ => False) ∧ ∀ base : Heap, K.In base → base.Ns mainGlobals mg → FnG l.prog w K mg base (L2.CX l.prog w) k fa fd [x] sp) :
    PySem.W.WalkO q loose XP YP l.row.toRowW d [] fun f vs => call f vs :=
  Att.attach_call hn hdf fun w s₀ s₁ mg mb fa o pm cd doc a vs ns G Y ho hd hcd hmg hobj hints hlen hg => by
    obtain ⟨K, fd, sp, KX, hb, hsp, hF⟩ := F w mg fa s₁.heap Y G.T.g hmg
    exact law_callG KX G.T.g G.T.b G.T.builtins G.T.nolimit hg hobj hints (Nat.le_trans hlen hn2) hr hF hb (fun H hO hS => hsp H a ns hlen hO hS)
end Dy

set_option Elab.async false
set_option linter.all false
set_option maxRecDepth 100000
/-! Dt: a def's mirror (over frames of data) is matched with a function over plain Lean types. -/
namespace Dt
open PySem PySem.Spec PyProof.Rows L2 Dy

inductive R (S α : Type) where
  | ok (a : α) (s : S) | ex (e : Exn) (s : S) | bad
abbrev M (S α : Type) : Type := S → R S α
section
variable {S α β γ δ : Type}
def tp (a : α) : M S α := fun s => .ok a s
def tx : M S α := fun _ => .bad
def tb (t : M S α) (k : α → M S β) : M S β := fun s => match t s with
  | .ok a s => k a s
  | .ex e s => .ex e s
  | .bad => .bad
/-- an exception is not allowed here -/
def tq (t : M S α) : M S α := fun s => match t s with
  | .ok a s => .ok a s
  | _ => .bad
def to (o : Option α) : M S α := match o with
  | some a => tp a
  | none => tx
@[irreducible] def tg (c : Bool) (a : α) : M S α := if c then tp a else tx
def tr (e : Exn) : M S α := fun s => .ex e s
theorem tb_tp (a : α) (k : α → M S β) : tb (tp a) k = k a := funext fun _ => rfl
theorem tb_tx (k : α → M S β) : tb tx k = tx := funext fun _ => rfl
theorem tb_tr (e : Exn) (k : α → M S β) : tb (tr e) k = tr e := funext fun _ => rfl
theorem tq_tp (a : α) : tq (tp a : M S α) = tp a := funext fun _ => rfl
theorem tb_ite {c : Prop} [Decidable c] (a b : M S α) (k : α → M S β) : tb (if c then a else b) k = if c then tb a k else tb b k := by
  split <;> rfl
theorem tb_assoc (t : M S α) (k : α → M S β) (l : β → M S γ) : tb (tb t k) l = tb t fun x => tb (k x) l := by
  funext s
  unfold tb
  cases t s <;> rfl
theorem to_some (a : α) : (to (some a) : M S α) = tp a := funext fun _ => rfl
theorem tg_true (a : α) : (tg true a : M S α) = tp a := by
  unfold tg
  rfl
theorem tg_false (a : α) : (tg false a : M S α) = tx := by
  unfold tg
  rfl

/-! ### how data lie -/
abbrev eI : Int → D := .int
abbrev eB : Bool → D := .bool
abbrev eS : Str → D := .str
abbrev eD : D → D := fun d => d
def eN : Unit → D := fun _ => .none
def eT (e : α → D) (l : List α) : D := .tuple (l.map e)
def eL (e : α → D) (l : List α) : D := .list (l.map e)
def eP (e1 : α → D) (e2 : β → D) (p : α × β) : D := .tuple [e1 p.1, e2 p.2]
def e3 (e1 : α → D) (e2 : β → D) (e3 : γ → D) (p : α × β × γ) : D := .tuple [e1 p.1, e2 p.2.1, e3 p.2.2]
def eO (e : α → D) : Option α → D
  | none => .none
  | some x => e x
def oV (e : α → D) : α → Out := fun x => .val (e x)
def oL (e : α → D) : List α → Out := fun l => .newl (l.map e)
def kv (e1 : α → D) (e2 : β → D) (l : List (α × β)) : List DEnt := l.map fun p => (e1 p.1, e2 p.2)
def oM (e1 : α → D) (e2 : β → D) : List (α × β) → Out := fun l => .newd (kv e1 e2 l)
def eM (e1 : α → D) (e2 : β → D) (l : List (α × β)) : D := .dict (kv e1 e2 l)

/-! ### judgements -/
def JJ (ρ : Fr) (m : Fr → S → Rx S β) (t : M S α) (P : α → β → Prop) : Prop := ∀ s, match t s with
  | .ok x s' => ∃ b, m ρ s = .ok b ρ s' ∧ P x b
  | .ex e s' => ∃ ρ', m ρ s = .ex e ρ' s'
  | .bad => True
def JO (o : Option β) (t : M S α) (P : α → β → Prop) : Prop := ∀ s, match t s with
  | .ok x s' => s' = s ∧ ∃ b, o = some b ∧ P x b
  | .ex _ _ => False
  | .bad => True
abbrev JX (ρ : Fr) (m : ME S) (t : M S α) (f : α → Out) : Prop := JJ ρ m t fun x o => o = f x
abbrev JR (ρ : Fr) (m : ME S) (t : M S α) (e : α → D) : Prop := JJ ρ m t fun x o => rd ρ o = some (e x)
abbrev JV (ρ : Fr) (m : ME S) (t : M S α) (e : α → D) : Prop := JJ ρ m t fun x o => frz o = .val (e x)
abbrev JT (ρ : Fr) (m : MT S) (t : M S Bool) : Prop := JJ ρ m t fun x b => b = x
abbrev JI (ρ : Fr) (m : MI S) (t : M S (List α)) (e : α → D) : Prop := JJ ρ m t fun x b => b = x.map e
abbrev JQ (ρ : Fr) (m : MO S) (t : M S (Option Int)) : Prop := JJ ρ m t fun x b => b = x
abbrev JA (ρ : Fr) (m : MA S) (t : M S (List α)) (e : α → D) : Prop := JJ ρ m t fun x os => vals os = some (x.map e)
/-- an argument of a call -/
abbrev JS (ρ : Fr) (m : ME S) (t : M S α) (f : α → Sl) (b : Bool) : Prop := JJ ρ m t fun x o => argO ρ (frz o) = some (f x) ∧ isBor (frz o) = b
def JF (m : MF S) (as : List Sl) (t : M S α) (f : α → Out) : Prop := ∀ s, match t s with
  | .ok x s' => m as s = .ok (f x) s'
  | .ex e s' => m as s = .ex e s'
  | .bad => True
def JG (ρ : Fr) (A : MS S) (t : M S α) (I : α → S → Fl S → Prop) : Prop := ∀ s, match t s with
  | .ok x s' => I x s' (A ρ s)
  | .ex e s' => ∃ ρ', A ρ s = .ex e ρ' s'
  | .bad => True
inductive Fw (σ r : Type) where
  | nx (st : σ) | rt (x : r)
def IP (J : α → Fr → Prop) : α → S → Fl S → Prop := fun st s f => ∃ ρ', f = .nx ρ' s ∧ J st ρ'
def IB (f : α → Out) : α → S → Fl S → Prop := fun x s fl => ∃ ρ' o, fl = .rt o ρ' s ∧ retO ρ' o = f x
def IX (J : α → Fr → Prop) (f : β → Out) : Fw α β → S → Fl S → Prop := fun w s fl => match w with
  | .nx st => IP J st s fl
  | .rt x => IB f x s fl
end

section
variable {S α β γ δ α' β' ε : Type} {ρ ρ2 : Fr} {t : M S α} {k : α → M S β}
theorem JJ.bind {m : Fr → S → Rx S γ} {m2 : γ → Fr → S → Rx S δ} {P : α → γ → Prop} {Q : β → δ → Prop} (h : JJ ρ m t P) (h2 : ∀ x b, P x b → JJ ρ (m2 b) (k x) Q) : JJ ρ (fun ρ s => (m ρ s).bind m2) (tb t k) Q := by
  intro s
  have h := h s
  unfold tb
  cases e : t s with
  | ok x s1 =>
    rw [e] at h
    obtain ⟨b, hb, hp⟩ := h
    have h2 := h2 x b hp s1
    dsimp only
    rw [hb]
    exact h2
  | ex x s1 =>
    rw [e] at h
    obtain ⟨ρ', hb⟩ := h
    dsimp only
    rw [hb]
    exact ⟨ρ', rfl⟩
  | bad => trivial
theorem JJ.pure {P : α → γ → Prop} {x : α} {b : γ} (h : P x b) : JJ ρ (fun ρ s => .ok b ρ s : Fr → S → Rx S γ) (tp x) P := fun s => ⟨b, rfl, h⟩
theorem JJ.mono {m : Fr → S → Rx S γ} {P Q : α → γ → Prop} (h : JJ ρ m t P) (hq : ∀ x b, P x b → Q x b) : JJ ρ m t Q := by
  intro s
  have h := h s
  cases e : t s with
  | ok x s1 =>
    rw [e] at h
    obtain ⟨b, hb, hp⟩ := h
    exact ⟨b, hb, hq x b hp⟩
  | ex x s1 =>
    rw [e] at h
    exact h
  | bad => trivial
theorem JJ.map {m : Fr → S → Rx S γ} {P : α → γ → Prop} {Q : β → γ → Prop} {f : α → β} (h : JJ ρ m t P) (hq : ∀ x b, P x b → Q (f x) b) : JJ ρ m (tb t fun x => tp (f x)) Q := by
  intro s
  have h := h s
  unfold tb
  cases e : t s with
  | ok x s1 =>
    rw [e] at h
    obtain ⟨b, hb, hp⟩ := h
    exact ⟨b, hb, hq x b hp⟩
  | ex x s1 =>
    rw [e] at h
    exact h
  | bad => trivial
theorem JJ.congr {m m' : Fr → S → Rx S γ} {P : α → γ → Prop} (h : JJ ρ m' t P) (e : ∀ s, m ρ s = m' ρ s) : JJ ρ m t P := by
  intro s
  have h := h s
  rw [← e s] at h
  cases ee : t s with
  | ok x s1 =>
    rw [ee] at h
    exact h
  | ex x s1 =>
    rw [ee] at h
    exact h
  | bad => trivial
theorem JJ.of {o : Fr → Option γ} {P : α → γ → Prop} (h : JO (o ρ) t P) : JJ ρ (fun ρ s => Rx.of (o ρ) ρ s : Fr → S → Rx S γ) t P := by
  intro s
  have h := h s
  cases e : t s with
  | ok x s1 =>
    rw [e] at h
    obtain ⟨rfl, b, hb, hp⟩ := h
    refine ⟨b, ?_, hp⟩
    dsimp only
    rw [hb]
    rfl
  | ex x s1 =>
    rw [e] at h
    exact h.elim
  | bad => trivial
theorem jo_tp {P : α → γ → Prop} {x : α} {b : γ} {o : Option γ} (h : o = some b) (hp : P x b) : JO (S := S) o (tp x) P := fun s => ⟨rfl, b, h, hp⟩
theorem jo_tx {P : α → γ → Prop} {o : Option γ} : JO (S := S) o tx P := fun s => trivial
theorem jo_tg {P : α → γ → Prop} {x : α} {c : Bool} {o : Option γ} (h : c = true → ∃ b, o = some b ∧ P x b) : JO (S := S) o (tg c x) P := by
  intro s
  unfold tg
  cases c with
  | true =>
    obtain ⟨b, h1, h2⟩ := h rfl
    exact ⟨rfl, b, h1, h2⟩
  | false => trivial
theorem jo_if {P : α → γ → Prop} {x : α} {c : Bool} {b : γ} {o : Option γ} (h : o = if c = true then some b else none) (hp : P x b) : JO (S := S) o (tg c x) P := jo_tg fun hc => ⟨b, by rw [h, hc]; rfl, hp⟩
theorem jo_to {P : α → γ → Prop} {a : Option α} {o : Option γ} (h : ∀ x, a = some x → ∃ b, o = some b ∧ P x b) : JO (S := S) o (to a) P := by
  intro s
  cases a with
  | none => trivial
  | some x =>
    obtain ⟨b, h1, h2⟩ := h x rfl
    exact ⟨rfl, b, h1, h2⟩
theorem JO.map {o : Option γ} {P : α → γ → Prop} {Q : β → γ → Prop} {f : α → β} (h : JO o t P) (hq : ∀ x b, P x b → Q (f x) b) : JO o (tb t fun x => tp (f x)) Q := by
  intro s
  have h := h s
  unfold tb
  cases e : t s with
  | ok x s1 =>
    rw [e] at h
    obtain ⟨rfl, b, hb, hp⟩ := h
    exact ⟨rfl, b, hb, hq x b hp⟩
  | ex x s1 =>
    rw [e] at h
    exact h.elim
  | bad => trivial

/-! ### reading -/
variable {m a b c : ME S} {e : α → D}
theorem JJ.r (h : JX ρ m t (oV e)) : JR ρ m t e := JJ.mono h fun x o z => by
  rw [z]
  rfl
theorem JJ.v (h : JX ρ m t (oV e)) : JV ρ m t e := JJ.mono h fun x o z => by
  rw [z]
  rfl
theorem JJ.rl {t : M S (List α)} (h : JX ρ m t (oL e)) : JR ρ m t (eL e) := JJ.mono h fun x o z => by
  rw [z]
  rfl
theorem JJ.vl {t : M S (List α)} (h : JX ρ m t (oL e)) : JV ρ m t (eL e) := JJ.mono h fun x o z => by
  rw [z]
  rfl
theorem JJ.rm {e1 : α → D} {e2 : β → D} {t : M S (List (α × β))} (h : JX ρ m t (oM e1 e2)) : JR ρ m t (eM e1 e2) := JJ.mono h fun x o z => by
  rw [z]
  rfl
theorem JJ.vm {e1 : α → D} {e2 : β → D} {t : M S (List (α × β))} (h : JX ρ m t (oM e1 e2)) : JV ρ m t (eM e1 e2) := JJ.mono h fun x o z => by
  rw [z]
  rfl
theorem JJ.s (h : JV ρ m t e) : JS ρ m t (fun x => .val (e x)) false := JJ.mono h fun x o z => by
  rw [z]
  exact ⟨rfl, rfl⟩
theorem js_hdl {i k : Nat} (h : ρ[i]? = some (.hdl k)) : JS (S := S) ρ (eVar i) (tp ()) (fun _ => .hdl k) false := fun s => ⟨.hdl k, by
  unfold eVar
  rw [h], rfl, rfl⟩
theorem js_own {i : Nat} {l : List α} (h : ρ[i]? = some (.lst (l.map e))) : JS (S := S) ρ (eVar i) (tp l) (fun l => .val (eL e l)) true := fun s => ⟨.bor i, by
  unfold eVar
  rw [h], by
  show argO ρ (.bor i) = _
  unfold argO
  dsimp only
  rw [h]
  rfl, rfl⟩
theorem js_ownD {e1 : α → D} {e2 : β → D} {i : Nat} {l : List (α × β)} (h : ρ[i]? = some (.dct (kv e1 e2 l))) : JS (S := S) ρ (eVar i) (tp l) (fun l => .val (eM e1 e2 l)) true := fun s => ⟨.bor i, by
  unfold eVar
  rw [h], by
  show argO ρ (.bor i) = _
  unfold argO
  dsimp only
  rw [h]
  rfl, rfl⟩
theorem jr_own {i : Nat} {l : List α} (h : ρ[i]? = some (.lst (l.map e))) : JR (S := S) ρ (eVar i) (tp l) (eL e) := fun s => ⟨.bor i, by
  unfold eVar
  rw [h], by
  show rd ρ (.bor i) = some _
  unfold rd
  dsimp only
  rw [h]
  rfl⟩
theorem jr_ownD {e1 : α → D} {e2 : β → D} {i : Nat} {l : List (α × β)} (h : ρ[i]? = some (.dct (kv e1 e2 l))) : JR (S := S) ρ (eVar i) (tp l) (eM e1 e2) := fun s => ⟨.bor i, by
  unfold eVar
  rw [h], by
  show rd ρ (.bor i) = some _
  unfold rd
  dsimp only
  rw [h]
  rfl⟩
theorem jx_var {i : Nat} {x : α} (h : ρ[i]? = some (.val (e x))) : JX (S := S) ρ (eVar i) (tp x) (oV e) := fun s => ⟨_, by
  unfold eVar
  rw [h]
  rfl, rfl⟩
theorem jx_c {d : D} {x : α} (h : d = e x) : JX (S := S) ρ (eC d) (tp x) (oV e) := fun s => ⟨_, by
  rw [h]
  rfl, rfl⟩
/-- the same data, otherwise typed -/
theorem JJ.as {e' : β → D} {f : α → β} (h : JX ρ m t (oV e)) (hf : ∀ x, e x = e' (f x)) : JX ρ m (tb t fun x => tp (f x)) (oV e') := JJ.map h fun x o z => by
  rw [z]
  exact congrArg Out.val (hf x)
theorem JJ.asL {e' : β → D} {f : α → β} {t : M S (List α)} (h : JX ρ m t (oL e)) (hf : ∀ x, e x = e' (f x)) : JX ρ m (tb t fun x => tp (x.map f)) (oL e') := JJ.map h fun x o z => by
  rw [z]
  show Out.newl (x.map e) = Out.newl ((x.map f).map e')
  rw [List.map_map, show e = e' ∘ f from funext hf]
theorem JJ.asR {e' : β → D} {f : α → β} (h : JR ρ m t e) (hf : ∀ x, e x = e' (f x)) : JR ρ m (tb t fun x => tp (f x)) e' := JJ.map h fun x o z => by
  rw [z, hf x]
theorem JJ.asV {e' : β → D} {f : α → β} (h : JV ρ m t e) (hf : ∀ x, e x = e' (f x)) : JV ρ m (tb t fun x => tp (f x)) e' := JJ.map h fun x o z => by
  rw [z, hf x]
/-- the same, where it fits -/
theorem JJ.toP {m : Fr → S → Rx S γ} {P : α → γ → Prop} {Q : β → γ → Prop} {f : α → Option β} (h : JJ ρ m t P) (hq : ∀ x y b, f x = some y → P x b → Q y b) : JJ ρ m (tb t fun x => to (f x)) Q := by
  intro s
  have h := h s
  unfold tb
  cases e : t s with
  | ok x s1 =>
    rw [e] at h
    obtain ⟨b, hb, hp⟩ := h
    dsimp only
    cases ef : f x with
    | none => trivial
    | some y => exact ⟨b, hb, hq x y b ef hp⟩
  | ex x s1 =>
    rw [e] at h
    exact h
  | bad => trivial
def pairOf : List α → Option (α × α)
  | [x, y] => some (x, y)
  | _ => none
theorem pairOf_e {x : List α} {y : α × α} (h : pairOf x = some y) : eT e x = eP e e y := by
  unfold pairOf at h
  split at h
  · cases h
    rfl
  · cases h
theorem JJ.asPair {t : M S (List α)} (h : JX ρ m t (oV (eT e))) : JX ρ m (tb t fun x => to (pairOf x)) (oV (eP e e)) := JJ.toP h fun x y b h1 h2 => by
  rw [h2]
  exact congrArg Out.val (pairOf_e h1)
theorem JJ.unO {t : M S (Option α)} (h : JX ρ m t (oV (eO e))) : JX ρ m (tb t fun x => to x) (oV e) := JJ.toP h fun x y b h1 h2 => by
  rw [h2, h1]
  rfl
theorem JJ.unOR {t : M S (Option α)} (h : JR ρ m t (eO e)) : JR ρ m (tb t fun x => to x) e := JJ.toP h fun x y b h1 h2 => by
  rw [h2, h1]
  rfl

/-! ### operators -/
theorem je_bin {F : D → D → Option Out} {e1 : α → D} {e2 : β → D} {tb' : M S β} {op : α → β → M S γ} {P : γ → Out → Prop} (ha : JR ρ a t e1) (hb : JR ρ b tb' e2) (ho : ∀ x y, JO (F (e1 x) (e2 y)) (op x y) P) : JJ ρ (eBin F a b) (tb t fun x => tb tb' fun y => op x y) P := by
  unfold eBin
  refine ha.bind fun x o hx => hb.bind fun y o2 hy => ?_
  refine JJ.of ?_
  rw [hx, hy]
  exact ho x y
theorem je_un {F : D → Option Out} {op : α → M S γ} {P : γ → Out → Prop} (ha : JR ρ a t e) (ho : ∀ x, JO (F (e x)) (op x) P) : JJ ρ (eUn F a) (tb t op) P := by
  unfold eUn
  refine ha.bind fun x o hx => ?_
  refine JJ.of ?_
  rw [hx]
  exact ho x
theorem rds_cons {o : Out} {os : List Out} {d : D} {ds : List D} (h : rd ρ o = some d) (h2 : rds ρ os = some ds) : rds ρ (o :: os) = some (d :: ds) := by
  unfold rds
  rw [h, h2]
theorem jr_frz (h : JR ρ a t e) : JJ ρ a t fun x o => rd ρ (frz o) = some (e x) := JJ.mono h fun x o z => by
  cases o <;> exact z
theorem je_bi1 {F : List D → Option Out} {op : α → M S γ} {P : γ → Out → Prop} (ha : JR ρ a t e) (ho : ∀ x, JO (F [e x]) (op x) P) : JJ ρ (eBi F (aCons a aNil)) (tb t op) P := by
  unfold eBi
  have h2 : JJ ρ (aCons a aNil) t fun x os => rds ρ os = some [e x] := by
    intro s
    have h := jr_frz ha s
    cases ee : t s with
    | ok x s1 =>
      rw [ee] at h
      obtain ⟨b, hb, hp⟩ := h
      refine ⟨[frz b], ?_, rds_cons hp rfl⟩
      unfold aCons
      rw [hb]
      rfl
    | ex x s1 =>
      rw [ee] at h
      obtain ⟨ρ', hb⟩ := h
      refine ⟨ρ', ?_⟩
      unfold aCons
      rw [hb]
      rfl
    | bad => trivial
  refine h2.bind fun x os hx => ?_
  refine JJ.of ?_
  rw [hx]
  exact ho x
theorem je_bi2 {F : List D → Option Out} {e1 : α → D} {e2 : β → D} {tb' : M S β} {op : α → β → M S γ} {P : γ → Out → Prop} (ha : JR ρ a t e1) (hb : JR ρ b tb' e2) (ho : ∀ x y, JO (F [e1 x, e2 y]) (op x y) P) : JJ ρ (eBi F (aCons a (aCons b aNil))) (tb t fun x => tb tb' fun y => op x y) P := by
  have key : JJ ρ (fun ρ s => (a ρ s).bind fun x ρ s => (b ρ s).bind fun y ρ s => Rx.of ((rds ρ [frz x, frz y]).bind F) ρ s) (tb t fun x => tb tb' fun y => op x y) P := by
    refine (jr_frz ha).bind fun x o hx => (jr_frz hb).bind fun y o2 hy => ?_
    refine JJ.of ?_
    rw [rds_cons hx (rds_cons hy rfl)]
    exact ho x y
  intro s
  have k := key s
  have e : eBi F (aCons a (aCons b aNil)) ρ s = (a ρ s).bind fun x ρ s => (b ρ s).bind fun y ρ s => Rx.of ((rds ρ [frz x, frz y]).bind F) ρ s := by
    unfold eBi aCons
    cases a ρ s with
    | ok x ρ1 s1 =>
      show ((b ρ1 s1).bind _ |>.bind _).bind _ = (b ρ1 s1).bind _
      cases b ρ1 s1 <;> rfl
    | ex x ρ1 s1 => rfl
    | bad => rfl
  rw [e]
  exact k
end
end Dt

set_option Elab.async false
set_option linter.all false
set_option maxRecDepth 100000
namespace Dt
open PySem PySem.Spec PyProof.Rows L2 Dy PySem.W
/-! ### equality of data -/
class EqOk {α : Type} (e : α → D) (n : outParam Nat) : Prop where
  inj : ∀ x y, PyData.eqv (e x) (e y) = true ↔ x = y
  lay : ∀ x, (e x).canLay0 = true
  dep : ∀ x, (e x).depth ≤ n
/-- never None -/
class NN {α : Type} (e : α → D) : Prop where
  l : ∀ x, PyData.eqv .none (e x) = false
  r : ∀ x, PyData.eqv (e x) .none = false
section
variable {α β γ : Type}
instance : EqOk eI 0 := ⟨fun x y => by simp [PyData.eqv], fun _ => rfl, fun _ => Nat.le_refl 0⟩
instance : EqOk eB 0 := ⟨fun x y => by simp [PyData.eqv], fun _ => rfl, fun _ => Nat.le_refl 0⟩
instance : EqOk eN 0 := ⟨fun x y => by simp [eN, PyData.eqv], fun _ => rfl, fun _ => Nat.le_refl 0⟩
instance : NN eI := ⟨fun _ => rfl, fun _ => rfl⟩
instance : NN eB := ⟨fun _ => rfl, fun _ => rfl⟩
instance : NN eS := ⟨fun _ => rfl, fun _ => rfl⟩
instance {e : α → D} : NN (eT e) := ⟨fun _ => rfl, fun _ => rfl⟩
instance {e : α → D} : NN (eL e) := ⟨fun _ => rfl, fun _ => rfl⟩
instance {e1 : α → D} {e2 : β → D} : NN (eP e1 e2) := ⟨fun _ => rfl, fun _ => rfl⟩
instance {e1 : α → D} {e2 : β → D} {e4 : γ → D} : NN (e3 e1 e2 e4) := ⟨fun _ => rfl, fun _ => rfl⟩
theorem eqvAll_map {e : α → D} {n : Nat} [EqOk e n] : ∀ x y : List α, PyData.eqvAll (x.map e) (y.map e) = true ↔ x = y
  | [], [] => by simp [PyData.eqvAll]
  | [], _ :: _ => by simp [PyData.eqvAll]
  | _ :: _, [] => by simp [PyData.eqvAll]
  | a :: x, b :: y => by
    show (PyData.eqv (e a) (e b) && PyData.eqvAll (x.map e) (y.map e)) = true ↔ _
    rw [Bool.and_eq_true, eqvAll_map x y, EqOk.inj]
    simp
theorem layAll_map {e : α → D} {n : Nat} [EqOk e n] : ∀ x : List α, PyData.canLayAll0 (x.map e) = true
  | [] => rfl
  | a :: x => by
    show ((e a).canLay0 && PyData.canLayAll0 (x.map e)) = true
    rw [EqOk.lay, layAll_map x]
    rfl
theorem depAll_map {e : α → D} {n : Nat} [EqOk e n] : ∀ x : List α, PyData.depthAll (x.map e) ≤ n
  | [] => Nat.zero_le _
  | a :: x => by
    show max (e a).depth (PyData.depthAll (x.map e)) ≤ n
    exact Nat.max_le.mpr ⟨EqOk.dep a, depAll_map x⟩
instance {e : α → D} {n : Nat} [EqOk e n] : EqOk (eT e) (n + 1) := ⟨fun x y => eqvAll_map x y, fun x => layAll_map x, fun x => Nat.succ_le_succ (depAll_map x)⟩
instance {e : α → D} {n : Nat} [EqOk e n] : EqOk (eL e) (n + 1) := ⟨fun x y => eqvAll_map x y, fun x => layAll_map x, fun x => Nat.succ_le_succ (depAll_map x)⟩
instance {e1 : α → D} {e2 : β → D} {n m : Nat} [EqOk e1 n] [EqOk e2 m] : EqOk (eP e1 e2) (max n m + 1) := ⟨fun x y => by
  show (PyData.eqv (e1 x.1) (e1 y.1) && (PyData.eqv (e2 x.2) (e2 y.2) && true)) = true ↔ _
  rw [Bool.and_true, Bool.and_eq_true, EqOk.inj, EqOk.inj, Prod.ext_iff], fun x => by
  show ((e1 x.1).canLay0 && ((e2 x.2).canLay0 && true)) = true
  rw [EqOk.lay, EqOk.lay]
  rfl, fun x => by
  show max (e1 x.1).depth (max (e2 x.2).depth 0) + 1 ≤ _
  have h1 := EqOk.dep (e := e1) x.1
  have h2 := EqOk.dep (e := e2) x.2
  omega⟩
instance {e1 : α → D} {e2 : β → D} {e4 : γ → D} {n m k : Nat} [EqOk e1 n] [EqOk e2 m] [EqOk e4 k] : EqOk (e3 e1 e2 e4) (max n (max m k) + 1) := ⟨fun x y => by
  show (PyData.eqv (e1 x.1) (e1 y.1) && (PyData.eqv (e2 x.2.1) (e2 y.2.1) && (PyData.eqv (e4 x.2.2) (e4 y.2.2) && true))) = true ↔ _
  rw [Bool.and_true, Bool.and_eq_true, Bool.and_eq_true, EqOk.inj, EqOk.inj, EqOk.inj, Prod.ext_iff, Prod.ext_iff], fun x => by
  show ((e1 x.1).canLay0 && ((e2 x.2.1).canLay0 && ((e4 x.2.2).canLay0 && true))) = true
  rw [EqOk.lay, EqOk.lay, EqOk.lay]
  rfl, fun x => by
  show max (e1 x.1).depth (max (e2 x.2.1).depth (max (e4 x.2.2).depth 0)) + 1 ≤ _
  have h1 := EqOk.dep (e := e1) x.1
  have h2 := EqOk.dep (e := e2) x.2.1
  have h3 := EqOk.dep (e := e4) x.2.2
  omega⟩
instance {e : α → D} {n : Nat} [EqOk e n] [NN e] : EqOk (eO e) n := ⟨fun x y => by
  cases x with
  | none =>
    cases y with
    | none => simp [eO, PyData.eqv]
    | some y =>
      show PyData.eqv .none (e y) = true ↔ _
      rw [NN.l]
      simp
  | some x =>
    cases y with
    | none =>
      show PyData.eqv (e x) .none = true ↔ _
      rw [NN.r]
      simp
    | some y =>
      show PyData.eqv (e x) (e y) = true ↔ _
      rw [EqOk.inj]
      simp, fun x => by
  cases x with
  | none => rfl
  | some x => exact EqOk.lay x, fun x => by
  cases x with
  | none => exact Nat.zero_le _
  | some x => exact EqOk.dep x⟩
theorem eqv_dec {e : α → D} {n : Nat} [DecidableEq α] [EqOk e n] (x y : α) : PyData.eqv (e x) (e y) = decide (x = y) := by
  rw [Bool.eq_iff_iff, EqOk.inj, decide_eq_true_iff]
theorem shaped_e {e : α → D} {n : Nat} [EqOk e n] (hn : n ≤ 64) (x : α) : SeqAt.shaped (e x) = true := by
  unfold SeqAt.shaped
  rw [EqOk.lay, Bool.true_and]
  exact decide_eq_true (Nat.le_trans (EqOk.dep x) hn)
variable {S : Type}
theorem op_eq {e : α → D} {n : Nat} [DecidableEq α] [EqOk e n] (hn : n ≤ 64 := by decide) (x y : α) : JO (S := S) (eqD (e x) (e y)) (tp (decide (x = y))) (fun z o => o = oV eB z) := by
  refine jo_tp (b := .val (.bool (decide (x = y)))) ?_ rfl
  unfold eqD onB
  dsimp only
  rw [shaped_e hn, shaped_e hn, eqv_dec]
  rfl
theorem op_ne {e : α → D} {n : Nat} [DecidableEq α] [EqOk e n] (hn : n ≤ 64 := by decide) (x y : α) : JO (S := S) (neD (e x) (e y)) (tp (!decide (x = y))) (fun z o => o = oV eB z) := by
  refine jo_tp (b := .val (.bool (!decide (x = y)))) ?_ rfl
  unfold neD onB
  dsimp only
  rw [shaped_e hn, shaped_e hn, eqv_dec]
  rfl
/-- x in l -/
def hasT [DecidableEq α] (l : List α) (x : α) : Bool := l.any fun y => decide (y = x)
theorem hasT_iff [DecidableEq α] {l : List α} {x : α} : hasT l x = true ↔ x ∈ l := by
  unfold hasT
  rw [List.any_eq_true]
  constructor
  · rintro ⟨y, hy, e⟩
    rw [decide_eq_true_iff] at e
    exact e ▸ hy
  · exact fun h => ⟨x, h, decide_eq_true rfl⟩
theorem any_eqv {e : α → D} {n : Nat} [DecidableEq α] [EqOk e n] (x : α) : ∀ l : List α, ((l.map e).any fun z => PyData.eqv z (e x)) = hasT l x
  | [] => rfl
  | y :: l => by
    rw [List.map_cons, List.any_cons, any_eqv x l, eqv_dec]
    rfl
theorem op_inT {e : α → D} {n : Nat} [DecidableEq α] [EqOk e n] (hn : n ≤ 63 := by decide) (x : α) (l : List α) : JO (S := S) (inAll (e x) (eT e l)) (tp (hasT l x)) (fun z o => o = oV eB z) := by
  refine jo_tp (b := .val (.bool (hasT l x))) ?_ rfl
  have h : inD (e x) (eT e l) = some (.val (.bool (hasT l x))) := by
    show (if SeqAt.shaped (e x) && SeqAt.shaped (eT e l) then some ((l.map e).any fun z => PyData.eqv z (e x)) else none).map _ = _
    rw [shaped_e (Nat.le_succ_of_le hn), shaped_e (e := eT e) (Nat.succ_le_succ hn), any_eqv]
    rfl
  unfold inAll
  rw [h]
  rfl
theorem op_inL {e : α → D} {n : Nat} [DecidableEq α] [EqOk e n] (hn : n ≤ 63 := by decide) (x : α) (l : List α) : JO (S := S) (inAll (e x) (eL e l)) (tp (hasT l x)) (fun z o => o = oV eB z) := by
  refine jo_tp (b := .val (.bool (hasT l x))) ?_ rfl
  have h : inD (e x) (eL e l) = some (.val (.bool (hasT l x))) := by
    show (if SeqAt.shaped (e x) && SeqAt.shaped (eL e l) then some ((l.map e).any fun z => PyData.eqv z (e x)) else none).map _ = _
    rw [shaped_e (Nat.le_succ_of_le hn), shaped_e (e := eL e) (Nat.succ_le_succ hn), any_eqv]
    rfl
  unfold inAll
  rw [h]
  rfl
theorem op_ninT {e : α → D} {n : Nat} [DecidableEq α] [EqOk e n] (hn : n ≤ 63 := by decide) (x : α) (l : List α) : JO (S := S) (notInAll (e x) (eT e l)) (tp (!hasT l x)) (fun z o => o = oV eB z) := by
  refine jo_tp (b := .val (.bool (!hasT l x))) ?_ rfl
  have h : inD (e x) (eT e l) = some (.val (.bool (hasT l x))) := by
    show (if SeqAt.shaped (e x) && SeqAt.shaped (eT e l) then some ((l.map e).any fun z => PyData.eqv z (e x)) else none).map _ = _
    rw [shaped_e (Nat.le_succ_of_le hn), shaped_e (e := eT e) (Nat.succ_le_succ hn), any_eqv]
    rfl
  unfold notInAll notO
  rw [h]
  rfl
theorem op_ninL {e : α → D} {n : Nat} [DecidableEq α] [EqOk e n] (hn : n ≤ 63 := by decide) (x : α) (l : List α) : JO (S := S) (notInAll (e x) (eL e l)) (tp (!hasT l x)) (fun z o => o = oV eB z) := by
  refine jo_tp (b := .val (.bool (!hasT l x))) ?_ rfl
  have h : inD (e x) (eL e l) = some (.val (.bool (hasT l x))) := by
    show (if SeqAt.shaped (e x) && SeqAt.shaped (eL e l) then some ((l.map e).any fun z => PyData.eqv z (e x)) else none).map _ = _
    rw [shaped_e (Nat.le_succ_of_le hn), shaped_e (e := eL e) (Nat.succ_le_succ hn), any_eqv]
    rfl
  unfold notInAll notO
  rw [h]
  rfl
/-! a pair as a tuple of two: x in (a, b) -/
theorem op_eqS (x y : Str) : JO (S := S) (eqD (eS x) (eS y)) (tg (PyData.strOk x && PyData.strOk y) (x == y)) (fun z o => o = oV eB z) := by
  refine jo_if (b := .val (.bool (x == y))) ?_ rfl
  unfold eqD onB
  dsimp only
  have e : ∀ z : Str, SeqAt.shaped (eS z) = PyData.strOk z := fun z => by
    show (PyData.strOk z && decide (0 ≤ 64)) = _
    simp
  rw [e, e]
  cases PyData.strOk x && PyData.strOk y <;> rfl
theorem op_neS (x y : Str) : JO (S := S) (neD (eS x) (eS y)) (tg (PyData.strOk x && PyData.strOk y) (!(x == y))) (fun z o => o = oV eB z) := by
  refine jo_if (b := .val (.bool (!(x == y)))) ?_ rfl
  unfold neD onB
  dsimp only
  have e : ∀ z : Str, SeqAt.shaped (eS z) = PyData.strOk z := fun z => by
    show (PyData.strOk z && decide (0 ≤ 64)) = _
    simp
  rw [e, e]
  cases PyData.strOk x && PyData.strOk y <;> rfl
theorem op_inP {e : α → D} {n : Nat} [DecidableEq α] [EqOk e n] (hn : n ≤ 63 := by decide) (x : α) (l : α × α) : JO (S := S) (inAll (e x) (eP e e l)) (tp (hasT [l.1, l.2] x)) (fun z o => o = oV eB z) := op_inT hn x [l.1, l.2]
theorem op_isNone {e : α → D} [NN e] (x : Option α) (y : Unit) : JO (S := S) (isD (eO e x) (eN y)) (tp x.isNone) (fun z o => o = oV eB z) := by
  refine jo_tp (b := .val (.bool x.isNone)) ?_ rfl
  cases x with
  | none => rfl
  | some x =>
    show onB _ (e x) .none = _
    have := NN.r (e := e) x
    unfold onB
    dsimp only
    cases h : e x with
    | none =>
      rw [h] at this
      cases this
    | _ => rfl
theorem op_isNotNone {e : α → D} [NN e] (x : Option α) (y : Unit) : JO (S := S) (isNotD (eO e x) (eN y)) (tp x.isSome) (fun z o => o = oV eB z) := by
  refine jo_tp (b := .val (.bool x.isSome)) ?_ rfl
  have h : isD (eO e x) (eN y) = some (.val (.bool x.isNone)) := by
    obtain ⟨_, b, h1, h2⟩ := op_isNone (S := Unit) (e := e) x y ()
    rw [h1, h2]
    rfl
  unfold isNotD notO
  rw [h]
  cases x <;> rfl
theorem op_isTrue (x y : Bool) : JO (S := S) (isD (eB x) (eB y)) (tp (decide (x = y))) (fun z o => o = oV eB z) := jo_tp rfl rfl
theorem op_isNotTrue (x y : Bool) : JO (S := S) (isNotD (eB x) (eB y)) (tp (!decide (x = y))) (fun z o => o = oV eB z) := jo_tp rfl rfl

/-! ### numbers -/
theorem op_addI (x y : Int) : JO (S := S) (addD (eI x) (eI y)) (tp (x + y)) (fun z o => o = oV eI z) := jo_tp rfl rfl
theorem op_subI (x y : Int) : JO (S := S) (subD (eI x) (eI y)) (tp (x - y)) (fun z o => o = oV eI z) := jo_tp rfl rfl
theorem ite_tg {c : Bool} {a : α} : (if c = true then some a else none) = none ∨ c = true := by
  cases c <;> simp
theorem op_mulI (x y : Int) : JO (S := S) (mulD (eI x) (eI y)) (tg (within64 x || within64 y) (x * y)) (fun z o => o = oV eI z) := jo_if (b := .val (.int (x * y))) (by
  show ((if within64 x || within64 y then some (PyData.int (x * y)) else none).map Out.val).or _ = _
  cases within64 x || within64 y <;> rfl) rfl
theorem op_fdiv (x y : Int) : JO (S := S) (fdivD (eI x) (eI y)) (tg (decide (0 < y) && decide (y < 1073741824)) (x / y)) (fun z o => o = oV eI z) := jo_if (b := .val (.int (x / y))) (by
  show ((if decide (0 < y) && decide (y < 1073741824) then some (PyData.int (x / y)) else none).map Out.val) = _
  cases decide (0 < y) && decide (y < 1073741824) <;> rfl) rfl
theorem op_mod (x y : Int) : JO (S := S) (modD (eI x) (eI y)) (tg (decide (0 < y)) (x % y)) (fun z o => o = oV eI z) := jo_if (b := .val (.int (x % y))) (by
  show ((if decide (0 < y) then some (PyData.int (x % y)) else none).map Out.val) = _
  cases decide (0 < y) <;> rfl) rfl
theorem op_pow (x y : Int) : JO (S := S) (powD (eI x) (eI y)) (tg (powOk x y) (x ^ y.toNat)) (fun z o => o = oV eI z) := jo_if (b := .val (.int (x ^ y.toNat))) (by
  show ((if powOk x y then some (PyData.int (x ^ y.toNat)) else none).map Out.val) = _
  cases powOk x y <;> rfl) rfl
theorem op_neg (x : Int) : JO (S := S) (negD (eI x)) (tp (-x)) (fun z o => o = oV eI z) := jo_tp rfl rfl
theorem op_ltI (x y : Int) : JO (S := S) (ltI (eI x) (eI y)) (tp (decide (x < y))) (fun z o => o = oV eB z) := jo_tp rfl rfl
theorem op_gtI (x y : Int) : JO (S := S) (gtI (eI x) (eI y)) (tp (decide (y < x))) (fun z o => o = oV eB z) := jo_tp rfl rfl
theorem op_leI (x y : Int) : JO (S := S) (leD (eI x) (eI y)) (tp (decide (x ≤ y))) (fun z o => o = oV eB z) := jo_tp rfl rfl
theorem op_geI (x y : Int) : JO (S := S) (geD (eI x) (eI y)) (tp (decide (y ≤ x))) (fun z o => o = oV eB z) := jo_tp rfl rfl
theorem op_ltI' (x y : Int) : JO (S := S) (ltD (eI x) (eI y)) (tp (decide (x < y))) (fun z o => o = oV eB z) := jo_tp rfl rfl
theorem intsOf_ints : ∀ l : List Int, intsOf (l.map eI) = some l
  | [] => rfl
  | x :: l => by
    show (intsOf (l.map eI)).map _ = _
    rw [intsOf_ints l]
    rfl
theorem onT_ints (f : List Int → List Int → Bool) (x y : List Int) : onT f (eT eI x) (eT eI y) = some (.val (.bool (f x y))) := by
  show ((match intsOf (x.map eI), intsOf (y.map eI) with
    | some ns, some ms => some (f ns ms)
    | _, _ => none).map _) = _
  rw [intsOf_ints, intsOf_ints]
  rfl
theorem op_leT (x y : List Int) : JO (S := S) (leD (eT eI x) (eT eI y)) (tp (leAt x y)) (fun z o => o = oV eB z) := jo_tp (by
  unfold leD
  rw [onT_ints]
  rfl) rfl
theorem op_geT (x y : List Int) : JO (S := S) (geD (eT eI x) (eT eI y)) (tp (geAt x y)) (fun z o => o = oV eB z) := jo_tp (by
  unfold geD
  rw [onT_ints]
  rfl) rfl
theorem op_ltT (x y : List Int) : JO (S := S) (ltD (eT eI x) (eT eI y)) (tp (HT.lexLt x y)) (fun z o => o = oV eB z) := jo_tp (by
  unfold ltD
  rw [onT_ints]
  rfl) rfl
/-! pairs of ints as tuples of ints -/
abbrev pl (p : Int × Int) : List Int := [p.1, p.2]
theorem eP_T (p : Int × Int) : eP eI eI p = eT eI (pl p) := rfl
theorem op_leP (x y : Int × Int) : JO (S := S) (leD (eP eI eI x) (eP eI eI y)) (tp (leAt (pl x) (pl y))) (fun z o => o = oV eB z) := op_leT (pl x) (pl y)
theorem op_geP (x y : Int × Int) : JO (S := S) (geD (eP eI eI x) (eP eI eI y)) (tp (geAt (pl x) (pl y))) (fun z o => o = oV eB z) := op_geT (pl x) (pl y)
/-! ### joining -/
theorem op_catT {e : α → D} (x y : List α) : JO (S := S) (addD (eT e x) (eT e y)) (tg (sizeOk (x.length + y.length)) (x ++ y)) (fun z o => o = oV (eT e) z) := jo_if (b := .val (eT e (x ++ y))) (by
  show (if sizeOk ((x.map e).length + (y.map e).length) then some (Out.val (.tuple (x.map e ++ y.map e))) else none).or _ = _
  rw [List.length_map, List.length_map, ← List.map_append]
  cases sizeOk (x.length + y.length) <;> rfl) rfl
theorem op_catL {e : α → D} (x y : List α) : JO (S := S) (addD (eL e x) (eL e y)) (tg (sizeOk (x.length + y.length)) (x ++ y)) (fun z o => o = oL e z) := jo_if (b := .newl ((x ++ y).map e)) (by
  show (if sizeOk ((x.map e).length + (y.map e).length) then some (Out.newl (x.map e ++ y.map e)) else none).or _ = _
  rw [List.length_map, List.length_map, ← List.map_append]
  cases sizeOk (x.length + y.length) <;> rfl) rfl
theorem op_catS (x y : Str) : JO (S := S) (addD (eS x) (eS y)) (tg (sizeOk (x.length + y.length)) (x ++ y)) (fun z o => o = oV eS z) := jo_if (b := .val (.str (x ++ y))) rfl rfl
def repC (n : Nat) (k : Int) : Bool := decide (-9223372036854775808 ≤ k) && decide (k < 9223372036854775808) && sizeOk (n * k.toNat)
theorem op_repL {e : α → D} (x : List α) (k : Int) : JO (S := S) (mulD (eL e x) (eI k)) (tg (repC x.length k) (List.replicate k.toNat x).flatten) (fun z o => o = oL e z) := jo_if (b := .newl ((List.replicate k.toNat x).flatten.map e)) (by
  have : mulD (eL e x) (eI k) = if repC (x.map e).length k then some (.newl (List.replicate k.toNat (x.map e)).flatten) else none := rfl
  rw [this, List.length_map, List.map_flatten, List.map_replicate]) rfl
/-! ### items -/
theorem atI_map {e : α → D} (l : List α) (i : Int) : atI (l.map e) i = (atI l i).map e := by
  unfold atI
  rw [List.length_map]
  cases ixN l.length i with
  | none => rfl
  | some j =>
    show (l.map e)[j]? = _
    rw [List.getElem?_map]
    rfl
theorem op_ixT {e : α → D} (l : List α) (i : Int) : JO (S := S) (ixAll (eT e l) (eI i)) (to (atI l i)) (fun z o => o = oV e z) := jo_to fun x hx => ⟨.val (e x), by
  show ((atI (l.map e) i).map Out.val).or _ = _
  rw [atI_map, hx]
  rfl, rfl⟩
theorem op_ixL {e : α → D} (l : List α) (i : Int) : JO (S := S) (ixAll (eL e l) (eI i)) (to (atI l i)) (fun z o => o = oV e z) := jo_to fun x hx => ⟨.val (e x), by
  show ((atI (l.map e) i).map Out.val).or _ = _
  rw [atI_map, hx]
  rfl, rfl⟩
theorem op_ixP0 {e1 : α → D} {e2 : β → D} (p : α × β) : JO (S := S) (ixAll (eP e1 e2 p) (eI 0)) (tp p.1) (fun z o => o = oV e1 z) := jo_tp rfl rfl
theorem op_ixP1 {e1 : α → D} {e2 : β → D} (p : α × β) : JO (S := S) (ixAll (eP e1 e2 p) (eI 1)) (tp p.2) (fun z o => o = oV e2 z) := jo_tp rfl rfl
theorem op_ix30 {e1 : α → D} {e2 : β → D} {e4 : γ → D} (p : α × β × γ) : JO (S := S) (ixAll (e3 e1 e2 e4 p) (eI 0)) (tp p.1) (fun z o => o = oV e1 z) := jo_tp rfl rfl
theorem op_ix31 {e1 : α → D} {e2 : β → D} {e4 : γ → D} (p : α × β × γ) : JO (S := S) (ixAll (e3 e1 e2 e4 p) (eI 1)) (tp p.2.1) (fun z o => o = oV e2 z) := jo_tp rfl rfl
theorem op_ix32 {e1 : α → D} {e2 : β → D} {e4 : γ → D} (p : α × β × γ) : JO (S := S) (ixAll (e3 e1 e2 e4 p) (eI 2)) (tp p.2.2) (fun z o => o = oV e4 z) := jo_tp rfl rfl
/-- an item at a written place -/
theorem je_ixc {m : ME S} {ρ : Fr} {t : M S α} {e : α → D} {n : Int} {op : α → M S β} {P : β → Out → Prop} (ha : JR ρ m t e) (ho : ∀ x, JO (ixAll (e x) (eI n)) (op x) P) : JJ ρ (eBin ixAll m (eC (.int n))) (tb t op) P := by
  unfold eBin
  refine ha.bind fun x o hx => ?_
  refine JJ.congr (m' := fun ρ s => Rx.of ((rd ρ o).bind fun d => ixAll d (.int n)) ρ s) (JJ.of ?_) (fun s => rfl)
  rw [hx]
  exact ho x
/-! ### built-in calls -/
def ilen (l : List α) : Int := (l.length : Int)
theorem op_lenL {e : α → D} (l : List α) : JO (S := S) (lenD [eL e l]) (tp (ilen l)) (fun z o => o = oV eI z) := jo_tp (b := .val (.int (l.length : Int))) (by
  show some (Out.val (.int ((l.map e).length : Int))) = _
  rw [List.length_map]) rfl
theorem op_lenT {e : α → D} (l : List α) : JO (S := S) (lenD [eT e l]) (tp (ilen l)) (fun z o => o = oV eI z) := jo_tp (b := .val (.int (l.length : Int))) (by
  show some (Out.val (.int ((l.map e).length : Int))) = _
  rw [List.length_map]) rfl
theorem op_lenM {e1 : α → D} {e2 : β → D} (l : List (α × β)) : JO (S := S) (lenD [eM e1 e2 l]) (tp (ilen l)) (fun z o => o = oV eI z) := jo_tp (b := .val (.int (l.length : Int))) (by
  show some (Out.val (.int ((kv e1 e2 l).length : Int))) = _
  unfold kv
  rw [List.length_map]) rfl
theorem op_listL {e : α → D} (l : List α) : JO (S := S) (listD [eL e l]) (tp l) (fun z o => o = oL e z) := jo_tp rfl rfl
theorem op_listT {e : α → D} (l : List α) : JO (S := S) (listD [eT e l]) (tp l) (fun z o => o = oL e z) := jo_tp rfl rfl
theorem op_tupL {e : α → D} (l : List α) : JO (S := S) (tupD [eL e l]) (tp l) (fun z o => o = oV (eT e) z) := jo_tp rfl rfl
theorem op_tupT {e : α → D} (l : List α) : JO (S := S) (tupD [eT e l]) (tp l) (fun z o => o = oV (eT e) z) := jo_tp rfl rfl
theorem op_intI (i : Int) : JO (S := S) (intD [eI i]) (tp i) (fun z o => o = oV eI z) := jo_tp rfl rfl
def b2i (b : Bool) : Int := if b then 1 else 0
theorem op_intB (b : Bool) : JO (S := S) (intD [eB b]) (tp (b2i b)) (fun z o => o = oV eI z) := jo_tp rfl rfl
theorem op_abs (i : Int) : JO (S := S) (absD [eI i]) (tp (if i < 0 then -i else i)) (fun z o => o = oV eI z) := jo_tp rfl rfl
theorem op_max2 (i j : Int) : JO (S := S) (max2D [eI i, eI j]) (tp (if j > i then j else i)) (fun z o => o = oV eI z) := jo_tp rfl rfl
theorem op_min2 (i j : Int) : JO (S := S) (min2D [eI i, eI j]) (tp (if j < i then j else i)) (fun z o => o = oV eI z) := jo_tp rfl rfl
theorem boolsOf_e : ∀ l : List Bool, boolsOf (l.map eB) = some l
  | [] => rfl
  | x :: l => by
    show (boolsOf (l.map eB)).map _ = _
    rw [boolsOf_e l]
    rfl
theorem op_all (l : List Bool) : JO (S := S) (allD [eL eB l]) (tp (l.all fun b => b)) (fun z o => o = oV eB z) := jo_tp (by
  show (boolsOf (l.map eB)).map _ = _
  rw [boolsOf_e]
  rfl) rfl
theorem op_any (l : List Bool) : JO (S := S) (anyD [eL eB l]) (tp (l.any fun b => b)) (fun z o => o = oV eB z) := jo_tp (by
  show (boolsOf (l.map eB)).map _ = _
  rw [boolsOf_e]
  rfl) rfl
def maxO : List Int → Option Int
  | [] => none
  | n :: r => some (maxL r n)
theorem op_maxL (l : List Int) : JO (S := S) (maxD1 [eL eI l]) (to (maxO l)) (fun z o => o = oV eI z) := jo_to fun x hx => ⟨.val (.int x), by
  show (match intsOf (l.map eI) with
    | some (n :: r) => some (Out.val (.int (maxL r n)))
    | _ => none) = _
  rw [intsOf_ints]
  cases l with
  | nil => cases hx
  | cons n r =>
    cases hx
    rfl, rfl⟩
theorem op_maxT (l : List Int) : JO (S := S) (maxD1 [eT eI l]) (to (maxO l)) (fun z o => o = oV eI z) := jo_to fun x hx => ⟨.val (.int x), by
  show (match intsOf (l.map eI) with
    | some (n :: r) => some (Out.val (.int (maxL r n)))
    | _ => none) = _
  rw [intsOf_ints]
  cases l with
  | nil => cases hx
  | cons n r =>
    cases hx
    rfl, rfl⟩
theorem op_revT {e : α → D} (l : List α) : JO (S := S) (revD (eT e l)) (tp l.reverse) (fun z o => o = oV (eT e) z) := jo_tp (b := .val (eT e l.reverse)) (by
  show some (Out.val (.tuple (l.map e).reverse)) = _
  rw [← List.map_reverse]
  rfl) rfl
theorem op_revL {e : α → D} (l : List α) : JO (S := S) (revD (eL e l)) (tp l.reverse) (fun z o => o = oL e z) := jo_tp (b := .newl (l.reverse.map e)) (by
  show some (Out.newl (l.map e).reverse) = _
  rw [← List.map_reverse]) rfl
theorem op_revP {e : α → D} (p : α × α) : JO (S := S) (revD (eP e e p)) (tp (p.2, p.1)) (fun z o => o = oV (eP e e) z) := jo_tp rfl rfl
/-- repr -/
def reprT (d : D) : Option Str := match reprD [d] with
  | some (.val (.str x)) => some x
  | _ => none
theorem op_repr {e : α → D} (x : α) : JO (S := S) (reprD [e x]) (to (reprT (e x))) (fun z o => o = oV eS z) := jo_to fun y hy => by
  unfold reprT at hy
  split at hy
  · rename_i z h
    cases hy
    exact ⟨_, h, rfl⟩
  · cases hy
/-- isinstance: of anything -/
theorem op_isi {f : D → Bool} {e : α → D} (x : α) : JO (S := S) (isiD f (e x)) (tg (e x).canLay0 (f (e x))) (fun z o => o = oV eB z) := jo_if (b := .val (.bool (f (e x)))) rfl rfl
/-! ### sorted -/
/-- typed sorting -/
def sortT (e : α → D) (l : List α) : List α := isortA (fun x y => dataLe false id (e x) (e y)) l
theorem insA_map {e : α → D} (x : α) : ∀ l : List α, insA (dataLe false id) (e x) (l.map e) = (insA (fun x y => dataLe false id (e x) (e y)) x l).map e
  | [] => rfl
  | y :: l => by
    rw [List.map_cons]
    unfold insA
    cases h : dataLe false id (e x) (e y) with
    | true => rfl
    | false =>
      show e y :: insA (dataLe false id) (e x) (l.map e) = _
      rw [insA_map x l]
      rfl
theorem sortL_map {e : α → D} : ∀ l : List α, sortL (l.map e) = (sortT e l).map e
  | [] => rfl
  | x :: l => by
    show insA (dataLe false id) (e x) (sortL (l.map e)) = _
    rw [sortL_map l, insA_map]
    rfl
theorem op_sortL {e : α → D} (l : List α) : JO (S := S) (sortD [eL e l]) (tg (sortOk (l.map e)) (sortT e l)) (fun z o => o = oL e z) := jo_if (b := .newl ((sortT e l).map e)) (by
  rw [← sortL_map]
  rfl) rfl
theorem op_sortT {e : α → D} (l : List α) : JO (S := S) (sortD [eT e l]) (tg (sortOk (l.map e)) (sortT e l)) (fun z o => o = oL e z) := jo_if (b := .newl ((sortT e l).map e)) (by
  rw [← sortL_map]
  rfl) rfl
theorem je_lenSet {m : ME S} {ρ : Fr} {t : M S (List Int)} (ha : JR ρ m t (eT eI)) : JX ρ (eLenSet m) (tb t fun l => tg (decide (l.length < 2000)) (ilen (uniqI l))) (oV eI) := by
  unfold eLenSet
  refine ha.bind fun x o hx => ?_
  refine JJ.of (jo_if (b := .val (.int ((uniqI x).length : Int))) ?_ rfl)
  rw [hx]
  show (intsOf (x.map eI)).bind _ = _
  rw [intsOf_ints]
  rfl
theorem je_sortSet {m : ME S} {ρ : Fr} {t : M S (List Int)} (ha : JR ρ m t (eT eI)) : JX ρ (eSortSet m) (tb t fun l => tg (decide (l.length < 64)) (setI l)) (oL eI) := by
  unfold eSortSet
  refine ha.bind fun x o hx => ?_
  refine JJ.of (jo_if (b := .newl ((setI x).map eI)) ?_ rfl)
  rw [hx]
  show (intsOf (x.map eI)).bind _ = _
  rw [intsOf_ints]
  rfl
/-! ### truth -/
class TrO (e : α → D) (f : outParam (α → Bool)) : Prop where
  tr : ∀ x, truD (e x) = some (f x)
instance : TrO eB fun b => b := ⟨fun _ => rfl⟩
instance : TrO eI fun i => i != 0 := ⟨fun _ => rfl⟩
instance {e : α → D} : TrO (eT e) fun l => !l.isEmpty := ⟨fun l => by
  cases l <;> rfl⟩
instance {e : α → D} : TrO (eL e) fun l => !l.isEmpty := ⟨fun l => by
  cases l <;> rfl⟩
end
end Dt

set_option Elab.async false
set_option linter.all false
set_option maxRecDepth 100000
namespace Dt
open PySem PySem.Spec PyProof.Rows L2 Dy
section
variable {S α β γ δ : Type} {ρ ρ2 : Fr} {t : M S α} {m a b c : ME S} {e : α → D}
/-! ### tests -/
theorem jt_e {t : M S Bool} (h : JX ρ m t (oV eB)) : JT ρ (tOf m) t := by
  intro s
  have h := h s
  unfold tOf
  cases ee : t s with
  | ok x s1 =>
    rw [ee] at h
    obtain ⟨o, ho, hb⟩ := h
    refine ⟨x, ?_, rfl⟩
    rw [ho, hb]
    rfl
  | ex x s1 =>
    rw [ee] at h
    obtain ⟨ρ', ho⟩ := h
    refine ⟨ρ', ?_⟩
    rw [ho]
    rfl
  | bad => trivial
theorem jt_tru {f : α → Bool} [TrO e f] (h : JR ρ m t e) : JT ρ (tTru m) (tb t fun x => tp (f x)) := by
  unfold tTru
  refine h.bind fun x o hx => JJ.of (jo_tp (b := f x) ?_ rfl)
  unfold tru
  rw [hx]
  exact TrO.tr x
theorem jt_not {t1 : MT S} {t : M S Bool} (h : JT ρ t1 t) : JT ρ (Dy.tNot t1) (tb t fun x => tp (!x)) := by
  unfold Dy.tNot
  refine h.bind fun x o hx => ?_
  rw [hx]
  exact JJ.pure rfl
theorem jt_and {t1 t2 : MT S} {ta tb' : M S Bool} (h : JT ρ t1 ta) (h2 : JT ρ t2 tb') : JT ρ (Dy.tAnd t1 t2) (tb ta fun x => if x then tb' else tp false) := by
  unfold Dy.tAnd
  refine h.bind fun x o hx => ?_
  rw [hx]
  cases x with
  | true => exact h2
  | false => exact JJ.pure rfl
theorem jt_or {t1 t2 : MT S} {ta tb' : M S Bool} (h : JT ρ t1 ta) (h2 : JT ρ t2 tb') : JT ρ (Dy.tOr t1 t2) (tb ta fun x => if x then tp true else tb') := by
  unfold Dy.tOr
  refine h.bind fun x o hx => ?_
  rw [hx]
  cases x with
  | true => exact JJ.pure rfl
  | false => exact h2
theorem jt_yes : JT (S := S) ρ tYesM (tp true) := JJ.pure rfl
/-! bools as values -/
theorem je_and {ta tb' : M S Bool} (h : JX ρ a ta (oV eB)) (h2 : JX ρ b tb' (oV eB)) : JX ρ (eAnd a b) (tb ta fun x => if x then tb' else tp false) (oV eB) := by
  unfold eAnd
  refine h.bind fun x o hx => ?_
  rw [hx]
  cases x with
  | true => exact h2
  | false => exact JJ.pure rfl
theorem je_or {ta tb' : M S Bool} (h : JX ρ a ta (oV eB)) (h2 : JX ρ b tb' (oV eB)) : JX ρ (eOr a b) (tb ta fun x => if x then tp true else tb') (oV eB) := by
  unfold eOr
  refine h.bind fun x o hx => ?_
  rw [hx]
  cases x with
  | true => exact JJ.pure rfl
  | false => exact h2
theorem je_not {f : α → Bool} [TrO e f] (h : JR ρ m t e) : JX ρ (eNot m) (tb t fun x => tp (!f x)) (oV eB) := by
  unfold eNot
  refine h.bind fun x o hx => JJ.of (jo_tp (b := .val (.bool (!f x))) ?_ rfl)
  unfold tru
  rw [hx]
  show (truD (e x)).map _ = _
  rw [TrO.tr x]
  rfl
theorem je_if {t1 : MT S} {tc : M S Bool} {ta tb' : M S α} {P : α → Out → Prop} (h : JT ρ t1 tc) (ha : JJ ρ a ta P) (hb : JJ ρ b tb' P) : JJ ρ (eIf t1 a b) (tb tc fun x => if x then ta else tb') P := by
  unfold eIf
  refine h.bind fun x o hx => ?_
  rw [hx]
  cases x with
  | true => exact ha
  | false => exact hb
/-! chains a < b < c of ints -/
theorem je_chain {F G : D → D → Option Out} {f g : Int → Int → Bool} {ta tb' tc : M S Int} (ha : JR ρ a ta eI) (hb : JR ρ b tb' eI) (hc : JR ρ c tc eI) (hf : ∀ x y, F (eI x) (eI y) = some (oV eB (f x y))) (hg : ∀ x y, G (eI x) (eI y) = some (oV eB (g x y))) :
    JX ρ (eChain F G a b c) (tb ta fun x => tb tb' fun y => if f x y then tb tc fun z => tp (g y z) else tp false) (oV eB) := by
  unfold eChain
  refine ha.bind fun x o hx => hb.bind fun y o2 hy => ?_
  have key : ((rd ρ o).bind fun u => (rd ρ o2).bind fun v => F u v) = some (oV eB (f x y)) := by
    rw [hx, hy]
    exact hf x y
  cases h : f x y with
  | true =>
    rw [h] at key
    refine JJ.congr (m' := fun ρ s => (c ρ s).bind fun z ρ s => .of ((rd ρ o2).bind fun u => (rd ρ z).bind fun v => G u v) ρ s) ?_ (fun s => by
      rw [key]
      rfl)
    refine hc.bind fun z o3 hz => ?_
    refine JJ.of ?_
    rw [hy, hz]
    exact jo_tp (hg y z) rfl
  | false =>
    rw [h] at key
    exact JJ.congr (m' := fun ρ s => .ok (.val (.bool false)) ρ s) (show JJ ρ _ (tp false) _ from JJ.pure (x := false) (b := Out.val (.bool false)) (P := fun x o => o = oV eB x) rfl) (fun s => by
      rw [key]
      rfl)
/-! ### displays -/
theorem vals_cons {o : Out} {d : D} {os : List Out} {l : List D} (h : o = .val d) (h2 : vals os = some l) : vals (o :: os) = some (d :: l) := by
  rw [h]
  show (vals os).map _ = _
  rw [h2]
  rfl
theorem ja_nil : JA (S := S) ρ aNil (tp []) e := JJ.pure rfl
theorem ja_cons {A : MA S} {tl : M S (List α)} (h : JV ρ a t e) (h2 : JA ρ A tl e) : JA ρ (aCons a A) (tb t fun x => tb tl fun l => tp (x :: l)) e := by
  unfold aCons
  exact h.bind fun x o hx => h2.bind fun l os hl => JJ.pure (vals_cons hx hl)
theorem vals_app {a b : List D} {os : List Out} (h : vals os = some b) : vals (a.map .val ++ os) = some (a ++ b) := by
  induction a with
  | nil => exact h
  | cons x a ih => exact vals_cons rfl ih
theorem ja_starT {A : MA S} {tk tl : M S (List α)} (h : JR ρ a tk (eT e)) (h2 : JA ρ A tl e) : JA ρ (aStar a A) (tb tk fun k => tb tl fun l => tp (k ++ l)) e := by
  unfold aStar
  refine h.bind fun k o hk => ?_
  refine JJ.congr (m' := fun ρ s => (A ρ s).bind fun xs ρ s => .ok ((k.map e).map .val ++ xs) ρ s) ?_ (fun s => by
    rw [hk]
    rfl)
  exact h2.bind fun l os hl => JJ.pure (by rw [List.map_append]; exact vals_app hl)
theorem ja_starL {A : MA S} {tk tl : M S (List α)} (h : JR ρ a tk (eL e)) (h2 : JA ρ A tl e) : JA ρ (aStar a A) (tb tk fun k => tb tl fun l => tp (k ++ l)) e := by
  unfold aStar
  refine h.bind fun k o hk => ?_
  refine JJ.congr (m' := fun ρ s => (A ρ s).bind fun xs ρ s => .ok ((k.map e).map .val ++ xs) ρ s) ?_ (fun s => by
    rw [hk]
    rfl)
  exact h2.bind fun l os hl => JJ.pure (by rw [List.map_append]; exact vals_app hl)
theorem je_tup {A : MA S} {tl : M S (List α)} (h : JA ρ A tl e) : JX ρ (eTup A) (tb tl fun l => tg (sizeOk l.length) l) (oV (eT e)) := by
  unfold eTup
  refine h.bind fun l os hl => JJ.of (jo_if (b := .val (eT e l)) ?_ rfl)
  rw [hl]
  show (if sizeOk (l.map e).length then _ else _) = _
  rw [List.length_map]
  rfl
theorem je_lst {A : MA S} {tl : M S (List α)} (h : JA ρ A tl e) : JX ρ (eLst A) (tb tl fun l => tg (sizeOk l.length) l) (oL e) := by
  unfold eLst
  refine h.bind fun l os hl => JJ.of (jo_if (b := .newl (l.map e)) ?_ rfl)
  rw [hl]
  show (if sizeOk (l.map e).length then _ else _) = _
  rw [List.length_map]
theorem je_pair {e2 : β → D} {tb' : M S β} (ha : JV ρ a t e) (hb : JV ρ b tb' e2) : JX ρ (eTup (aCons a (aCons b aNil))) (tb t fun x => tb tb' fun y => tp (x, y)) (oV (eP e e2)) := by
  have h1 : JJ ρ (aCons a (aCons b aNil)) (tb t fun x => tb tb' fun y => tp (x, y)) fun p os => vals os = some [e p.1, e2 p.2] := by
    unfold aCons
    refine ha.bind fun x o hx => ?_
    have h2 : JJ ρ (fun ρ s => (b ρ s).bind fun y ρ s => (aNil ρ s).bind fun xs ρ s => .ok (frz y :: xs) ρ s) (tb tb' fun y => tp y) fun y os => vals os = some [e2 y] := hb.bind fun y o2 hy => JJ.pure (vals_cons hy rfl)
    have h3 := h2.bind (m2 := fun xs ρ s => .ok (frz o :: xs) ρ s) (k := fun y => tp (x, y)) (Q := fun p os => vals os = some [e p.1, e2 p.2]) fun y os hy => JJ.pure (vals_cons hx hy)
    rw [tb_assoc] at h3
    exact h3
  unfold eTup
  have h4 := h1.bind (m2 := fun xs ρ s => Rx.of ((vals xs).bind fun l => if sizeOk l.length then some (Out.val (.tuple l)) else none) ρ s) (k := tp) (Q := fun p o => o = oV (eP e e2) p) fun p os hp => by
    rw [hp]
    exact JJ.of (jo_tp rfl rfl)
  have h5 : (tb (tb t fun x => tb tb' fun y => tp (x, y)) tp) = tb t fun x => tb tb' fun y => tp (x, y) := by
    rw [tb_assoc]
    congr 1
    funext x
    rw [tb_assoc]
    rfl
  rw [h5] at h4
  exact h4
theorem je_trip {e2 : β → D} {e4 : γ → D} {tb' : M S β} {tc : M S γ} (ha : JV ρ a t e) (hb : JV ρ b tb' e2) (hc : JV ρ c tc e4) : JX ρ (eTup (aCons a (aCons b (aCons c aNil)))) (tb t fun x => tb tb' fun y => tb tc fun z => tp (x, y, z)) (oV (e3 e e2 e4)) := by
  have h1 : JJ ρ (fun ρ s => (a ρ s).bind fun x ρ s => (b ρ s).bind fun y ρ s => (c ρ s).bind fun z ρ s => Rx.of ((vals [frz x, frz y, frz z]).bind fun l => if sizeOk l.length then some (Out.val (.tuple l)) else none) ρ s) (tb t fun x => tb tb' fun y => tb tc fun z => tp (x, y, z)) (fun p o => o = oV (e3 e e2 e4) p) :=
    ha.bind fun x o hx => hb.bind fun y o2 hy => hc.bind fun z o3 hz => by
      rw [vals_cons hx (vals_cons hy (vals_cons hz rfl))]
      exact JJ.of (jo_tp rfl rfl)
  intro s
  have k := h1 s
  have e : eTup (aCons a (aCons b (aCons c aNil))) ρ s = (a ρ s).bind fun x ρ s => (b ρ s).bind fun y ρ s => (c ρ s).bind fun z ρ s => Rx.of ((vals [frz x, frz y, frz z]).bind fun l => if sizeOk l.length then some (Out.val (.tuple l)) else none) ρ s := by
    unfold eTup aCons
    cases a ρ s with
    | ok x ρ1 s1 =>
      show ((b ρ1 s1).bind _ |>.bind _).bind _ = (b ρ1 s1).bind _
      cases b ρ1 s1 with
      | ok y ρ2 s2 =>
        show (((c ρ2 s2).bind _ |>.bind _).bind _).bind _ = (c ρ2 s2).bind _
        cases c ρ2 s2 <;> rfl
      | ex y ρ2 s2 => rfl
      | bad => rfl
    | ex x ρ1 s1 => rfl
    | bad => rfl
  rw [e]
  exact k
/-! ### slices -/
def cutT (l : List α) (lo hi : Option Int) : List α := (l.drop (HT.sIx l.length 0 lo)).take (HT.sIx l.length l.length hi - HT.sIx l.length 0 lo)
theorem cut_map {e : α → D} (l : List α) (lo hi : Option Int) : Dy.cutD (l.map e) lo hi = (cutT l lo hi).map e := by
  unfold Dy.cutD cutT
  rw [List.length_map, List.map_take, List.map_drop]
theorem jq_no : JQ (S := S) ρ oNo (tp none) := JJ.pure rfl
theorem jq_part {t : M S Int} (h : JX ρ m t (oV eI)) : JQ ρ (oPart m) (tb t fun i => tp (some i)) := by
  unfold oPart
  refine h.bind fun x o hx => ?_
  rw [hx]
  exact JJ.pure rfl
theorem je_slT {t : M S (List α)} {l u : MO S} {tl tu : M S (Option Int)} (h : JR ρ m t (eT e)) (h1 : JQ ρ l tl) (h2 : JQ ρ u tu) : JX ρ (eSl m l u) (tb t fun x => tb tl fun lo => tb tu fun hi => tp (cutT x lo hi)) (oV (eT e)) := by
  unfold eSl
  refine h.bind fun x o hx => h1.bind fun lo o2 h1 => h2.bind fun hi o3 h2 => ?_
  subst h1 h2
  refine JJ.of (jo_tp (b := .val (eT e (cutT x o2 o3))) ?_ rfl)
  rw [hx]
  show some (Out.val (.tuple (Dy.cutD (x.map e) o2 o3))) = _
  rw [cut_map]
  rfl
theorem je_slL {t : M S (List α)} {l u : MO S} {tl tu : M S (Option Int)} (h : JR ρ m t (eL e)) (h1 : JQ ρ l tl) (h2 : JQ ρ u tu) : JX ρ (eSl m l u) (tb t fun x => tb tl fun lo => tb tu fun hi => tp (cutT x lo hi)) (oL e) := by
  unfold eSl
  refine h.bind fun x o hx => h1.bind fun lo o2 h1 => h2.bind fun hi o3 h2 => ?_
  subst h1 h2
  refine JJ.of (jo_tp (b := .newl ((cutT x o2 o3).map e)) ?_ rfl)
  rw [hx]
  show some (Out.newl (Dy.cutD (x.map e) o2 o3)) = _
  rw [cut_map]
/-! ### what is walked -/
theorem ji_T {t : M S (List α)} (h : JV ρ a t (eT e)) : JI ρ (iSeq a) t e := by
  intro s
  have h := h s
  unfold iSeq
  cases ee : t s with
  | ok x s1 =>
    rw [ee] at h
    obtain ⟨o, ho, hb⟩ := h
    refine ⟨x.map e, ?_, rfl⟩
    rw [ho]
    show Rx.of ((asVal (frz o)).bind walkD) ρ s1 = _
    rw [hb]
    rfl
  | ex x s1 =>
    rw [ee] at h
    obtain ⟨ρ', ho⟩ := h
    refine ⟨ρ', ?_⟩
    rw [ho]
    rfl
  | bad => trivial
theorem ji_L {t : M S (List α)} (h : JV ρ a t (eL e)) : JI ρ (iSeq a) t e := by
  intro s
  have h := h s
  unfold iSeq
  cases ee : t s with
  | ok x s1 =>
    rw [ee] at h
    obtain ⟨o, ho, hb⟩ := h
    refine ⟨x.map e, ?_, rfl⟩
    rw [ho]
    show Rx.of ((asVal (frz o)).bind walkD) ρ s1 = _
    rw [hb]
    rfl
  | ex x s1 =>
    rw [ee] at h
    obtain ⟨ρ', ho⟩ := h
    refine ⟨ρ', ?_⟩
    rw [ho]
    rfl
  | bad => trivial
def ivl (lo : Int) (n : Nat) : List Int := (List.range n).map fun (i : Nat) => lo + (i : Int)
theorem rngL_ivl (lo : Int) (n : Nat) : rngL lo n = (ivl lo n).map .int := by
  unfold rngL ivl
  rw [List.map_map]
  rfl
theorem ji_rng1 {t : M S Int} (h : JX ρ a t (oV eI)) : JI ρ (iRng (aCons a aNil)) (tb t fun n => tg (in62 n) (ivl 0 n.toNat)) eI := by
  have h2 : JJ ρ (aCons a aNil) t fun x os => os = [.val (.int x)] := by
    intro s
    have h := h s
    unfold aCons
    cases ee : t s with
    | ok x s1 =>
      rw [ee] at h
      obtain ⟨b, hb, hp⟩ := h
      refine ⟨[.val (.int x)], ?_, rfl⟩
      rw [hb, hp]
      rfl
    | ex x s1 =>
      rw [ee] at h
      obtain ⟨ρ', hb⟩ := h
      refine ⟨ρ', ?_⟩
      rw [hb]
      rfl
    | bad => trivial
  unfold iRng
  refine h2.bind fun x os hx => ?_
  rw [hx]
  refine JJ.of (jo_if (b := (ivl 0 x.toNat).map .int) ?_ rfl)
  show (if in62 x then some (rngL 0 x.toNat) else none) = _
  rw [rngL_ivl]
theorem ji_rng2 {t t2 : M S Int} (h : JX ρ a t (oV eI)) (h2 : JX ρ b t2 (oV eI)) : JI ρ (iRng (aCons a (aCons b aNil))) (tb t fun i => tb t2 fun n => tg (in62 i && in62 n) (ivl i (n - i).toNat)) eI := by
  have key : JI ρ (fun ρ s => (a ρ s).bind fun x ρ s => (b ρ s).bind fun y ρ s => Rx.of ((vals [frz x, frz y]).bind rngD) ρ s) (tb t fun i => tb t2 fun n => tg (in62 i && in62 n) (ivl i (n - i).toNat)) eI := by
    refine h.bind fun x o hx => h2.bind fun y o2 hy => ?_
    rw [hx, hy]
    refine JJ.of (jo_if (b := (ivl x (y - x).toNat).map .int) ?_ rfl)
    rw [← rngL_ivl]
    rfl
  intro s
  have k := key s
  have e : iRng (aCons a (aCons b aNil)) ρ s = (a ρ s).bind fun x ρ s => (b ρ s).bind fun y ρ s => Rx.of ((vals [frz x, frz y]).bind rngD) ρ s := by
    unfold iRng aCons
    cases a ρ s with
    | ok x ρ1 s1 =>
      show ((b ρ1 s1).bind _ |>.bind _).bind _ = (b ρ1 s1).bind _
      cases b ρ1 s1 with
      | ok y ρ2 s2 => rfl
      | ex y ρ2 s2 => rfl
      | bad => rfl
    | ex x ρ1 s1 => rfl
    | bad => rfl
  rw [e]
  exact k
end
end Dt

set_option Elab.async false
set_option linter.all false
set_option maxRecDepth 100000
namespace Dt
open PySem PySem.Spec PyProof.Rows L2 Dy
section
variable {S α β γ δ : Type}
/-! ### comprehensions -/
def tLcA (f : α → M S (Option β)) : List α → List β → M S (List β)
  | [], acc => tp acc
  | x :: r, acc => tb (tq (f x)) fun o => match o with
    | none => tLcA f r acc
    | some y => if decide (acc.length < 16777216) then tLcA f r (acc ++ [y]) else tx
/-- [e(x) for x in l] -/
def tMap (f : α → M S β) (l : List α) : M S (List β) := tLcA (fun x => tb (f x) fun y => tp (some y)) l []
/-- [e(x) for x in l if c(x)] -/
def tFm (c : α → M S Bool) (f : α → M S β) (l : List α) : M S (List β) := tLcA (fun x => tb (c x) fun b => if b then tb (f x) fun y => tp (some y) else tp none) l []
theorem tb_app (t : M S α) (k : α → M S β) (s : S) : tb t k s = match t s with
  | .ok a s => k a s
  | .ex e s => .ex e s
  | .bad => .bad := rfl
theorem tq_app (t : M S α) (s : S) : tq t s = match t s with
  | .ok a s => .ok a s
  | _ => .bad := rfl
theorem tLcA_pure {f : α → M S (Option β)} {g : α → Option β} : ∀ (l : List α) (acc : List β), (∀ x ∈ l, f x = tp (g x)) → acc.length + l.length ≤ 16777216 → tLcA f l acc = tp (acc ++ l.filterMap g)
  | [], acc, _, _ => by
    rw [List.filterMap_nil, List.append_nil]
    rfl
  | x :: r, acc, h, hl => by
    rw [List.length_cons] at hl
    unfold tLcA
    rw [h x List.mem_cons_self, tq_tp, tb_tp, List.filterMap_cons]
    cases g x with
    | none =>
      dsimp only
      rw [tLcA_pure r acc (fun y hy => h y (List.mem_cons_of_mem _ hy)) (by omega)]
    | some y =>
      dsimp only
      rw [if_pos (decide_eq_true (by omega)), tLcA_pure r _ (fun y hy => h y (List.mem_cons_of_mem _ hy)) (by rw [List.length_append, List.length_singleton]; omega), List.append_assoc]
      rfl
theorem tMap_pure {f : α → M S β} {l : List α} (g : α → β) (h : ∀ x ∈ l, f x = tp (g x)) (hl : l.length ≤ 16777216) : tMap f l = tp (l.map g) := by
  unfold tMap
  rw [tLcA_pure (g := fun x => some (g x)) l [] (fun x hx => by rw [h x hx, tb_tp]) (by rw [List.length_nil]; omega), List.filterMap_eq_map']
  rfl
theorem fm_eq (p : α → Bool) (g : α → β) : ∀ l : List α, (l.filterMap fun x => if p x then some (g x) else none) = (l.filter p).map g
  | [] => rfl
  | x :: r => by
    rw [List.filterMap_cons, List.filter_cons, fm_eq p g r]
    cases p x <;> rfl
theorem tFm_pure {c : α → M S Bool} {f : α → M S β} {l : List α} (p : α → Bool) (g : α → β) (hc : ∀ x ∈ l, c x = tp (p x)) (h : ∀ x ∈ l, p x = true → f x = tp (g x)) (hl : l.length ≤ 16777216) : tFm c f l = tp ((l.filter p).map g) := by
  unfold tFm
  rw [tLcA_pure (g := fun x => if p x then some (g x) else none) l [] (fun x hx => by
    rw [hc x hx, tb_tp]
    cases hp : p x with
    | true => rw [if_pos rfl, if_pos rfl, h x hx hp, tb_tp]
    | false => rw [if_neg Bool.false_ne_true, if_neg Bool.false_ne_true]) (by rw [List.length_nil]; omega), fm_eq]
  rfl
variable {ρ : Fr} {vs : List Nat} {g : MG} {mi : MI S} {t1 : MT S} {m : ME S} {e : α → D} {e2 : β → D} {tl : M S (List α)}
theorem lcL_ok {f : α → M S (Option β)} {ρ0 : Fr} {ρ1 : α → Fr} {tc : α → M S Bool} {te : α → M S β} (hg : ∀ x, g (e x) ρ0 = some (ρ1 x)) (hw : ∀ x, wipeF (ρ1 x) vs = ρ0) (hc : ∀ x, JT (ρ1 x) t1 (tc x)) (he : ∀ x, JV (ρ1 x) m (te x) e2)
    (hf : ∀ x, f x = tb (tc x) fun b => if b then tb (te x) fun y => tp (some y) else tp none) : ∀ (l : List α) (acc : List β) (s : S), (match tLcA f l acc s with
  | .ok r s' => lcL vs g t1 m (l.map e) ρ0 s (acc.map e2) = .ok (r.map e2) ρ0 s'
  | .ex _ _ => False
  | .bad => True)
  | [], acc, s => rfl
  | x :: r, acc, s => by
    have hcs := hc x s
    show match (tb (tq (f x)) fun o => match o with
      | none => tLcA f r acc
      | some y => if decide (acc.length < 16777216) then tLcA f r (acc ++ [y]) else tx) s with
      | .ok r' s' => turnL vs g t1 m (e x) ρ0 s (acc.map e2) (fun ρ s acc => lcL vs g t1 m (r.map e) ρ s acc) = .ok (r'.map e2) ρ0 s'
      | .ex _ _ => False
      | .bad => True
    have ef : (tq (f x)) s = match tc x s with
      | .ok true s1 => (match te x s1 with
        | .ok y s2 => .ok (some y) s2
        | _ => .bad)
      | .ok false s1 => .ok none s1
      | _ => .bad := by
      rw [tq_app, hf, tb_app]
      cases tc x s with
      | ok b s1 =>
        cases b with
        | true =>
          dsimp only
          rw [if_pos rfl, tb_app]
          cases te x s1 <;> rfl
        | false => rfl
      | ex _ _ => rfl
      | bad => rfl
    unfold turnL
    rw [hg]
    rw [tb_app]
    rw [ef]
    cases ec : tc x s with
    | ok b s1 =>
      rw [ec] at hcs
      obtain ⟨b', hb, rfl⟩ := hcs
      cases b' with
      | true =>
        have hes := he x s1
        dsimp only
        rw [hb]
        dsimp only
        cases ee : te x s1 with
        | ok y s2 =>
          rw [ee] at hes
          obtain ⟨o, ho, hfz⟩ := hes
          dsimp only
          rw [ho]
          dsimp only
          rw [hfz]
          dsimp only
          rw [List.length_map]
          by_cases hl : acc.length < 16777216
          · rw [decide_eq_true hl, if_pos rfl, if_pos rfl, hw]
            have ih := lcL_ok hg hw hc he hf r (acc ++ [y]) s2
            rw [List.map_append] at ih
            exact ih
          · rw [decide_eq_false hl, if_neg Bool.false_ne_true]
            trivial
        | ex _ _ => trivial
        | bad => trivial
      | false =>
        dsimp only
        rw [hb]
        dsimp only
        rw [hw]
        exact lcL_ok hg hw hc he hf r acc s1
    | ex _ _ => trivial
    | bad => trivial
theorem je_lc {f : α → M S (Option β)} {ρ1 : α → Fr} {tc : α → M S Bool} {te : α → M S β} (hi : JI ρ mi tl e) (hg : ∀ x, g (e x) (wipeF ρ vs) = some (ρ1 x)) (hw : ∀ x, wipeF (ρ1 x) vs = wipeF ρ vs) (hb : backF ρ (wipeF ρ vs) vs = ρ) (hc : ∀ x, JT (ρ1 x) t1 (tc x)) (he : ∀ x, JV (ρ1 x) m (te x) e2)
    (hf : ∀ x, f x = tb (tc x) fun b => if b then tb (te x) fun y => tp (some y) else tp none) : JX ρ (eLc vs g mi t1 m) (tb tl fun l => tLcA f l []) (oL e2) := by
  unfold eLc
  refine hi.bind fun l b hl => ?_
  rw [hl]
  intro s
  have h := lcL_ok (ρ0 := wipeF ρ vs) hg hw hc he hf l [] s
  cases el : tLcA f l [] s with
  | ok r s1 =>
    rw [el] at h
    refine ⟨_, ?_, rfl⟩
    show ((lcL vs g t1 m (l.map e) (wipeF ρ vs) s (([] : List β).map e2)).bind fun xs ρ' s => Rx.ok (Out.newl xs) (backF ρ ρ' vs) s) = _
    rw [h]
    show Rx.ok (Out.newl (r.map e2)) (backF ρ (wipeF ρ vs) vs) s1 = _
    rw [hb]
    rfl
  | ex _ _ =>
    rw [el] at h
    exact h.elim
  | bad => trivial
theorem je_map {ρ1 : α → Fr} {te : α → M S β} (hi : JI ρ mi tl e) (hg : ∀ x, g (e x) (wipeF ρ vs) = some (ρ1 x)) (hw : ∀ x, wipeF (ρ1 x) vs = wipeF ρ vs) (hb : backF ρ (wipeF ρ vs) vs = ρ) (he : ∀ x, JV (ρ1 x) m (te x) e2) : JX ρ (eLc vs g mi tYesM m) (tb tl fun l => tMap te l) (oL e2) :=
  je_lc hi hg hw hb (fun x => jt_yes) he fun x => rfl
theorem je_fm {ρ1 : α → Fr} {tc : α → M S Bool} {te : α → M S β} (hi : JI ρ mi tl e) (hg : ∀ x, g (e x) (wipeF ρ vs) = some (ρ1 x)) (hw : ∀ x, wipeF (ρ1 x) vs = wipeF ρ vs) (hb : backF ρ (wipeF ρ vs) vs = ρ) (hc : ∀ x, JT (ρ1 x) t1 (tc x)) (he : ∀ x, JV (ρ1 x) m (te x) e2) : JX ρ (eLc vs g mi t1 m) (tb tl fun l => tFm tc te l) (oL e2) :=
  je_lc hi hg hw hb hc he fun x => rfl
end
end Dt

set_option Elab.async false
set_option linter.all false
set_option maxRecDepth 100000
namespace Dt
open PySem PySem.Spec PyProof.Rows L2 Dy
section
variable {S α β γ δ ε : Type} {ρ : Fr} {vs vs1 : List Nat} {g g1 : MG} {mi mi1 : MI S} {t1 : MT S} {m : ME S} {e : α → D} {e1 : β → D} {e2 : γ → D} {tl : M S (List α)}
/-! ### comprehensions with two fors -/
def tLc2A (li : α → M S (List β)) (f : α → β → M S (Option γ)) : List α → List γ → M S (List γ)
  | [], acc => tp acc
  | x :: r, acc => tb (tq (li x)) fun l => tb (tLcA (f x) l acc) fun acc => tLc2A li f r acc
def tMap2 (li : α → M S (List β)) (f : α → β → M S γ) (l : List α) : M S (List γ) := tLc2A li (fun x y => tb (f x y) fun z => tp (some z)) l []
def tFm2 (li : α → M S (List β)) (c : α → β → M S Bool) (f : α → β → M S γ) (l : List α) : M S (List γ) := tLc2A li (fun x y => tb (c x y) fun b => if b then tb (f x y) fun z => tp (some z) else tp none) l []
theorem tLc2A_pure {li : α → M S (List β)} {f : α → β → M S (Option γ)} (i : α → List β) (g : α → β → Option γ) (B : Nat) : ∀ (l : List α) (acc : List γ), (∀ x ∈ l, li x = tp (i x)) → (∀ x ∈ l, ∀ y ∈ i x, f x y = tp (g x y)) → (∀ x ∈ l, (i x).length ≤ B) → acc.length + l.length * B ≤ 16777216 → tLc2A li f l acc = tp (acc ++ l.flatMap fun x => (i x).filterMap (g x))
  | [], acc, _, _, _, _ => by
    rw [List.flatMap_nil, List.append_nil]
    rfl
  | x :: r, acc, h1, h2, h3, hl => by
    have hb := h3 x List.mem_cons_self
    rw [List.length_cons, Nat.succ_mul] at hl
    have hlen : ((i x).filterMap (g x)).length ≤ B := Nat.le_trans (List.length_filterMap_le _ _) hb
    unfold tLc2A
    rw [h1 x List.mem_cons_self, tq_tp, tb_tp, tLcA_pure (g := g x) (i x) acc (h2 x List.mem_cons_self) (by omega), tb_tp, tLc2A_pure i g B r _ (fun y hy => h1 y (List.mem_cons_of_mem _ hy)) (fun y hy => h2 y (List.mem_cons_of_mem _ hy)) (fun y hy => h3 y (List.mem_cons_of_mem _ hy)) (by rw [List.length_append]; omega), List.flatMap_cons, List.append_assoc]
theorem tFm2_pure {li : α → M S (List β)} {c : α → β → M S Bool} {f : α → β → M S γ} {l : List α} (i : α → List β) (p : α → β → Bool) (g : α → β → γ) (B : Nat) (h1 : ∀ x ∈ l, li x = tp (i x)) (hc : ∀ x ∈ l, ∀ y ∈ i x, c x y = tp (p x y)) (hf : ∀ x ∈ l, ∀ y ∈ i x, p x y = true → f x y = tp (g x y)) (h3 : ∀ x ∈ l, (i x).length ≤ B) (hl : l.length * B ≤ 16777216) : tFm2 li c f l = tp (l.flatMap fun x => ((i x).filter (p x)).map (g x)) := by
  unfold tFm2
  rw [tLc2A_pure i (fun x y => if p x y then some (g x y) else none) B l [] h1 (fun x hx y hy => by
    rw [hc x hx y hy, tb_tp]
    cases hp : p x y with
    | true => rw [if_pos rfl, if_pos rfl, hf x hx y hy hp, tb_tp]
    | false => rw [if_neg Bool.false_ne_true, if_neg Bool.false_ne_true]) h3 (by rw [List.length_nil]; omega)]
  congr 1
  rw [List.nil_append]
  congr 1
  funext x
  exact fm_eq (p x) (g x) (i x)
theorem tMap2_pure {li : α → M S (List β)} {f : α → β → M S γ} {l : List α} (i : α → List β) (g : α → β → γ) (B : Nat) (h1 : ∀ x ∈ l, li x = tp (i x)) (hf : ∀ x ∈ l, ∀ y ∈ i x, f x y = tp (g x y)) (h3 : ∀ x ∈ l, (i x).length ≤ B) (hl : l.length * B ≤ 16777216) : tMap2 li f l = tp (l.flatMap fun x => (i x).map (g x)) := by
  unfold tMap2
  rw [tLc2A_pure i (fun x y => some (g x y)) B l [] h1 (fun x hx y hy => by rw [hf x hx y hy, tb_tp]) h3 (by rw [List.length_nil]; omega)]
  congr 1
  rw [List.nil_append]
  congr 1
  funext x
  rw [List.filterMap_eq_map']
theorem lcL2_ok {li : α → M S (List β)} {f : α → β → M S (Option γ)} {ρ0 : Fr} {ρ1 : α → Fr} {ρ2 : α → β → Fr} {tc : α → β → M S Bool} {te : α → β → M S γ} (hg : ∀ x, g (e x) ρ0 = some (ρ1 x)) (hli : ∀ x, JI (ρ1 x) mi1 (li x) e1) (hg1 : ∀ x y, g1 (e1 y) (wipeF (ρ1 x) vs1) = some (ρ2 x y)) (hw1 : ∀ x y, wipeF (ρ2 x y) vs1 = wipeF (ρ1 x) vs1) (hw : ∀ x, wipeF (wipeF (ρ1 x) vs1) vs = ρ0)
    (hc : ∀ x y, JT (ρ2 x y) t1 (tc x y)) (he : ∀ x y, JV (ρ2 x y) m (te x y) e2) (hf : ∀ x y, f x y = tb (tc x y) fun b => if b then tb (te x y) fun z => tp (some z) else tp none) : ∀ (l : List α) (acc : List γ) (s : S), (match tLc2A li f l acc s with
  | .ok r s' => lcL2 vs g tYesM vs1 g1 mi1 t1 m (l.map e) ρ0 s (acc.map e2) = .ok (r.map e2) ρ0 s'
  | .ex _ _ => False
  | .bad => True)
  | [], acc, s => rfl
  | x :: r, acc, s => by
    have h1 := hli x s
    unfold tLc2A
    rw [tb_app, tq_app, List.map_cons, lcL2, hg]
    dsimp only
    rw [show (tYesM (ρ1 x) s : Rx S Bool) = .ok true (ρ1 x) s from rfl]
    dsimp only
    cases el : li x s with
    | ok l s1 =>
      rw [el] at h1
      obtain ⟨b, hb, rfl⟩ := h1
      dsimp only
      rw [hb, tb_app]
      dsimp only
      have h2 := lcL_ok (vs := vs1) (ρ0 := wipeF (ρ1 x) vs1) (hg1 x) (hw1 x) (hc x) (he x) (hf x) l acc s1
      cases ea : tLcA (f x) l acc s1 with
      | ok acc2 s2 =>
        rw [ea] at h2
        dsimp only at h2 ⊢
        rw [h2]
        dsimp only
        rw [hw]
        exact lcL2_ok hg hli hg1 hw1 hw hc he hf r acc2 s2
      | ex _ _ =>
        rw [ea] at h2
        exact h2.elim
      | bad => trivial
    | ex _ _ => trivial
    | bad => trivial
theorem je_lc2 {li : α → M S (List β)} {f : α → β → M S (Option γ)} {ρ1 : α → Fr} {ρ2 : α → β → Fr} {tc : α → β → M S Bool} {te : α → β → M S γ} (hi : JI ρ mi tl e) (hg : ∀ x, g (e x) (wipeF ρ vs) = some (ρ1 x)) (hli : ∀ x, JI (ρ1 x) mi1 (li x) e1) (hg1 : ∀ x y, g1 (e1 y) (wipeF (ρ1 x) vs1) = some (ρ2 x y)) (hw1 : ∀ x y, wipeF (ρ2 x y) vs1 = wipeF (ρ1 x) vs1) (hw : ∀ x, wipeF (wipeF (ρ1 x) vs1) vs = wipeF ρ vs) (hb : backF ρ (wipeF ρ vs) vs = ρ)
    (hc : ∀ x y, JT (ρ2 x y) t1 (tc x y)) (he : ∀ x y, JV (ρ2 x y) m (te x y) e2) (hf : ∀ x y, f x y = tb (tc x y) fun b => if b then tb (te x y) fun z => tp (some z) else tp none) : JX ρ (eLc2 vs g mi tYesM vs1 g1 mi1 t1 m) (tb tl fun l => tLc2A li f l []) (oL e2) := by
  unfold eLc2
  refine hi.bind fun l b hl => ?_
  rw [hl]
  intro s
  have h := lcL2_ok (ρ0 := wipeF ρ vs) hg hli hg1 hw1 hw hc he hf l [] s
  cases el : tLc2A li f l [] s with
  | ok r s1 =>
    rw [el] at h
    refine ⟨_, ?_, rfl⟩
    show ((lcL2 vs g tYesM vs1 g1 mi1 t1 m (l.map e) (wipeF ρ vs) s (([] : List γ).map e2)).only fun xs ρ' s => Rx.ok (Out.newl xs) (backF ρ ρ' vs) s) = _
    rw [h]
    show Rx.ok (Out.newl (r.map e2)) (backF ρ (wipeF ρ vs) vs) s1 = _
    rw [hb]
    rfl
  | ex _ _ =>
    rw [el] at h
    exact h.elim
  | bad => trivial
theorem je_map2 {li : α → M S (List β)} {ρ1 : α → Fr} {ρ2 : α → β → Fr} {te : α → β → M S γ} (hi : JI ρ mi tl e) (hg : ∀ x, g (e x) (wipeF ρ vs) = some (ρ1 x)) (hli : ∀ x, JI (ρ1 x) mi1 (li x) e1) (hg1 : ∀ x y, g1 (e1 y) (wipeF (ρ1 x) vs1) = some (ρ2 x y)) (hw1 : ∀ x y, wipeF (ρ2 x y) vs1 = wipeF (ρ1 x) vs1) (hw : ∀ x, wipeF (wipeF (ρ1 x) vs1) vs = wipeF ρ vs) (hb : backF ρ (wipeF ρ vs) vs = ρ)
    (he : ∀ x y, JV (ρ2 x y) m (te x y) e2) : JX ρ (eLc2 vs g mi tYesM vs1 g1 mi1 tYesM m) (tb tl fun l => tMap2 li te l) (oL e2) := je_lc2 hi hg hli hg1 hw1 hw hb (fun _ _ => jt_yes) he fun _ _ => rfl
theorem je_fm2 {li : α → M S (List β)} {ρ1 : α → Fr} {ρ2 : α → β → Fr} {tc : α → β → M S Bool} {te : α → β → M S γ} (hi : JI ρ mi tl e) (hg : ∀ x, g (e x) (wipeF ρ vs) = some (ρ1 x)) (hli : ∀ x, JI (ρ1 x) mi1 (li x) e1) (hg1 : ∀ x y, g1 (e1 y) (wipeF (ρ1 x) vs1) = some (ρ2 x y)) (hw1 : ∀ x y, wipeF (ρ2 x y) vs1 = wipeF (ρ1 x) vs1) (hw : ∀ x, wipeF (wipeF (ρ1 x) vs1) vs = wipeF ρ vs) (hb : backF ρ (wipeF ρ vs) vs = ρ)
    (hc : ∀ x y, JT (ρ2 x y) t1 (tc x y)) (he : ∀ x y, JV (ρ2 x y) m (te x y) e2) : JX ρ (eLc2 vs g mi tYesM vs1 g1 mi1 t1 m) (tb tl fun l => tFm2 li tc te l) (oL e2) := je_lc2 hi hg hli hg1 hw1 hw hb hc he fun _ _ => rfl
end
section
variable {S α β γ δ ε ζ : Type} {ρ : Fr}
/-! ### calls -/
abbrev JG' (ρ : Fr) (A : MA S) (t : M S α) (as : α → List Sl) (b : Bool) : Prop := JJ ρ A t fun x os => argsO ρ os = some (as x) ∧ os.any isBor = b
theorem jg_nilA : JG' (S := S) ρ aNil (tp ()) (fun _ => []) false := JJ.pure ⟨rfl, rfl⟩
theorem jg_consA {a : ME S} {A : MA S} {ta : M S α} {tA : M S β} {f : α → Sl} {as : β → List Sl} {b1 b2 : Bool} (h : JS ρ a ta f b1) (h2 : JG' ρ A tA as b2) : JG' ρ (aCons a A) (tb ta fun x => tb tA fun y => tp (x, y)) (fun p => f p.1 :: as p.2) (b1 || b2) := by
  unfold aCons
  refine h.bind fun x o ho => h2.bind fun y os hos => JJ.pure ⟨?_, ?_⟩
  · unfold argsO
    rw [ho.1, hos.1]
  · rw [List.any_cons, ho.2, hos.2]
theorem je_callA {n : Nat} {mf : MF S} {A : MA S} {t : M S α} {as : α → List Sl} {k : α → M S β} {f : β → Out} (h : JG' ρ A t as false) (hn : ∀ x, (as x).length = n) (hm : ∀ x, JF mf (as x) (k x) f) (hb : ∀ y, isBor (f y) = false) : JX ρ (eCall n mf A) (tb t k) f := by
  unfold eCall
  refine h.bind fun x os hx => ?_
  intro s
  have hm := hm x s
  dsimp only
  rw [hx.1, hx.2]
  dsimp only
  rw [decide_eq_true (hn x), if_pos rfl]
  cases e : k x s with
  | ok y s1 =>
    rw [e] at hm
    dsimp only at hm ⊢
    rw [hm]
    dsimp only
    rw [if_neg Bool.false_ne_true]
    have := hb y
    refine ⟨f y, ?_, rfl⟩
    cases ef : f y with
    | bor i =>
      rw [ef] at this
      cases this
    | _ => rfl
  | ex ex s1 =>
    rw [e] at hm
    dsimp only at hm ⊢
    rw [hm]
    exact ⟨ρ, rfl⟩
  | bad => trivial
/-- something of the frame's own is handed on -/
theorem je_callAB {n : Nat} {mf : MF S} {A : MA S} {t : M S α} {as : α → List Sl} {k : α → M S β} {f : β → Out} (h : JG' ρ A t as true) (hn : ∀ x, (as x).length = n) (hm : ∀ x, JF mf (as x) (k x) f) (hb : ∀ y, apartO (f y) = true) : JX ρ (eCall n mf A) (tb t fun x => tq (k x)) f := by
  unfold eCall
  refine h.bind fun x os hx => ?_
  intro s
  have hm := hm x s
  rw [tq_app]
  dsimp only
  rw [hx.1, hx.2]
  dsimp only
  rw [decide_eq_true (hn x), if_pos rfl]
  cases e : k x s with
  | ok y s1 =>
    rw [e] at hm
    dsimp only at hm ⊢
    rw [hm]
    dsimp only
    rw [if_pos rfl, hb, if_pos rfl]
    exact ⟨f y, rfl, rfl⟩
  | ex ex s1 => trivial
  | bad => trivial
section
variable {mf : MF S} {a b c d : ME S} {ta : M S α} {tb' : M S β} {tc : M S γ} {td : M S δ} {fa : α → Sl} {fb : β → Sl} {fc : γ → Sl} {fd : δ → Sl} {i : Nat} {f : ε → Out} {h0 : Nat}
theorem je_call0 {k : M S ε} (hm : JF mf [] k f) (hr : ∀ y, isBor (f y) = false) : JX ρ (eCall 0 mf aNil) k f := by
  have := je_callA (ρ := ρ) (n := 0) jg_nilA (fun _ => rfl) (fun _ => hm) hr
  exact this
theorem je_call1 {k : α → M S ε} (ha : JS ρ a ta fa false) (hm : ∀ x, JF mf [fa x] (k x) f) (hr : ∀ y, isBor (f y) = false) : JX ρ (eCall 1 mf (aCons a aNil)) (tb ta k) f := by
  have := je_callA (n := 1) (jg_consA ha jg_nilA) (fun _ => rfl) (fun p => hm p.1) hr
  simp only [tb_assoc, tb_tp] at this
  exact this
theorem je_call2 {k : α → β → M S ε} (ha : JS ρ a ta fa false) (hb : JS ρ b tb' fb false) (hm : ∀ x y, JF mf [fa x, fb y] (k x y) f) (hr : ∀ y, isBor (f y) = false) : JX ρ (eCall 2 mf (aCons a (aCons b aNil))) (tb ta fun x => tb tb' fun y => k x y) f := by
  have := je_callA (n := 2) (jg_consA ha (jg_consA hb jg_nilA)) (fun _ => rfl) (fun p => hm p.1 p.2.1) hr
  simp only [tb_assoc, tb_tp] at this
  exact this
theorem je_call3 {k : α → β → γ → M S ε} (ha : JS ρ a ta fa false) (hb : JS ρ b tb' fb false) (hc : JS ρ c tc fc false) (hm : ∀ x y z, JF mf [fa x, fb y, fc z] (k x y z) f) (hr : ∀ y, isBor (f y) = false) : JX ρ (eCall 3 mf (aCons a (aCons b (aCons c aNil)))) (tb ta fun x => tb tb' fun y => tb tc fun z => k x y z) f := by
  have := je_callA (n := 3) (jg_consA ha (jg_consA hb (jg_consA hc jg_nilA))) (fun _ => rfl) (fun p => hm p.1 p.2.1 p.2.2.1) hr
  simp only [tb_assoc, tb_tp] at this
  exact this
theorem je_call4 {k : α → β → γ → δ → M S ε} (ha : JS ρ a ta fa false) (hb : JS ρ b tb' fb false) (hc : JS ρ c tc fc false) (hd : JS ρ d td fd false) (hm : ∀ x y z u, JF mf [fa x, fb y, fc z, fd u] (k x y z u) f) (hr : ∀ y, isBor (f y) = false) : JX ρ (eCall 4 mf (aCons a (aCons b (aCons c (aCons d aNil))))) (tb ta fun x => tb tb' fun y => tb tc fun z => tb td fun u => k x y z u) f := by
  have := je_callA (n := 4) (jg_consA ha (jg_consA hb (jg_consA hc (jg_consA hd jg_nilA)))) (fun _ => rfl) (fun p => hm p.1 p.2.1 p.2.2.1 p.2.2.2.1) hr
  simp only [tb_assoc, tb_tp] at this
  exact this
/-! the source is the first argument -/
theorem je_callS1 {k : M S ε} (h : ρ[i]? = some (.hdl h0)) (hm : JF mf [.hdl h0] k f) (hr : ∀ y, isBor (f y) = false) : JX ρ (eCall 1 mf (aCons (eVar i) aNil)) k f := by
  have := je_call1 (k := fun _ => k) (js_hdl h) (fun _ => hm) hr
  exact this
theorem je_callS2 {k : α → M S ε} (h : ρ[i]? = some (.hdl h0)) (ha : JS ρ a ta fa false) (hm : ∀ x, JF mf [.hdl h0, fa x] (k x) f) (hr : ∀ y, isBor (f y) = false) : JX ρ (eCall 2 mf (aCons (eVar i) (aCons a aNil))) (tb ta k) f := by
  have := je_call2 (k := fun _ x => k x) (js_hdl h) ha (fun _ x => hm x) hr
  exact this
theorem je_callS3 {k : α → β → M S ε} (h : ρ[i]? = some (.hdl h0)) (ha : JS ρ a ta fa false) (hb : JS ρ b tb' fb false) (hm : ∀ x y, JF mf [.hdl h0, fa x, fb y] (k x y) f) (hr : ∀ y, isBor (f y) = false) : JX ρ (eCall 3 mf (aCons (eVar i) (aCons a (aCons b aNil)))) (tb ta fun x => tb tb' fun y => k x y) f := by
  have := je_call3 (k := fun _ x y => k x y) (js_hdl h) ha hb (fun _ x y => hm x y) hr
  exact this
theorem je_callS4 {k : α → β → γ → M S ε} (h : ρ[i]? = some (.hdl h0)) (ha : JS ρ a ta fa false) (hb : JS ρ b tb' fb false) (hc : JS ρ c tc fc false) (hm : ∀ x y z, JF mf [.hdl h0, fa x, fb y, fc z] (k x y z) f) (hr : ∀ y, isBor (f y) = false) : JX ρ (eCall 4 mf (aCons (eVar i) (aCons a (aCons b (aCons c aNil))))) (tb ta fun x => tb tb' fun y => tb tc fun z => k x y z) f := by
  have := je_call4 (k := fun _ x y z => k x y z) (js_hdl h) ha hb hc (fun _ x y z => hm x y z) hr
  exact this
/-! the frame's own among the arguments -/
theorem je_callB1 {k : α → M S ε} (ha : JS ρ a ta fa true) (hm : ∀ x, JF mf [fa x] (k x) f) (hr : ∀ y, apartO (f y) = true) : JX ρ (eCall 1 mf (aCons a aNil)) (tb ta fun x => tq (k x)) f := by
  have := je_callAB (n := 1) (jg_consA ha jg_nilA) (fun _ => rfl) (fun p => hm p.1) hr
  simp only [tb_assoc, tb_tp] at this
  exact this
theorem je_callB2 {k : α → β → M S ε} {b1 b2 : Bool} (ha : JS ρ a ta fa b1) (hb : JS ρ b tb' fb b2) (hbb : (b1 || (b2 || false)) = true) (hm : ∀ x y, JF mf [fa x, fb y] (k x y) f) (hr : ∀ y, apartO (f y) = true) : JX ρ (eCall 2 mf (aCons a (aCons b aNil))) (tb ta fun x => tb tb' fun y => tq (k x y)) f := by
  have := jg_consA ha (jg_consA hb jg_nilA)
  rw [hbb] at this
  have := je_callAB (n := 2) this (fun _ => rfl) (fun p => hm p.1 p.2.1) hr
  simp only [tb_assoc, tb_tp] at this
  exact this
theorem je_callB3 {k : α → β → γ → M S ε} {b1 b2 b3 : Bool} (ha : JS ρ a ta fa b1) (hb : JS ρ b tb' fb b2) (hc : JS ρ c tc fc b3) (hbb : (b1 || (b2 || (b3 || false))) = true) (hm : ∀ x y z, JF mf [fa x, fb y, fc z] (k x y z) f) (hr : ∀ y, apartO (f y) = true) : JX ρ (eCall 3 mf (aCons a (aCons b (aCons c aNil)))) (tb ta fun x => tb tb' fun y => tb tc fun z => tq (k x y z)) f := by
  have := jg_consA ha (jg_consA hb (jg_consA hc jg_nilA))
  rw [hbb] at this
  have := je_callAB (n := 3) this (fun _ => rfl) (fun p => hm p.1 p.2.1 p.2.2.1) hr
  simp only [tb_assoc, tb_tp] at this
  exact this
end
end
end Dt

set_option Elab.async false
set_option linter.all false
set_option maxRecDepth 100000
namespace Dt
open PySem PySem.Spec PyProof.Rows L2 Dy
section
variable {S α β γ δ σ : Type} {ρ : Fr} {A A' B : MS S} {t : M S α} {tb' : M S β} {m a b : ME S} {e : α → D} {e1 : β → D} {i j : Nat} {f : α → Out}
/-- a statement that falls through -/
def JN (ρ : Fr) (A : MS S) (t : M S α) (ρ2 : α → Fr) : Prop := ∀ s, match t s with
  | .ok x s' => A ρ s = .nx (ρ2 x) s'
  | .ex e s' => ∃ ρ', A ρ s = .ex e ρ' s'
  | .bad => True
theorem jn_fl {K : γ → Fr → S → Fl S} {m : Fr → S → Rx S γ} {P : α → γ → Prop} {ρ2 : α → Fr} (h : JJ ρ m t P) (hk : ∀ x b s, P x b → K b ρ s = .nx (ρ2 x) s) : JN ρ (fun ρ s => (m ρ s).fl K) t ρ2 := by
  intro s
  have h := h s
  cases ee : t s with
  | ok x s1 =>
    rw [ee] at h
    obtain ⟨b, hb, hp⟩ := h
    dsimp only
    rw [hb]
    exact hk x b s1 hp
  | ex x s1 =>
    rw [ee] at h
    obtain ⟨ρ', hb⟩ := h
    refine ⟨ρ', ?_⟩
    try dsimp only
    rw [hb]
    rfl
  | bad => trivial
/-- the same, where more is asked -/
theorem jn_flO {K : γ → Fr → S → Fl S} {m : Fr → S → Rx S γ} {P : α → γ → Prop} {op : α → Option β} {ρ2 : β → Fr} (h : JJ ρ m t P) (hk : ∀ x b s y, P x b → op x = some y → K b ρ s = .nx (ρ2 y) s) : JN ρ (fun ρ s => (m ρ s).fl K) (tb t fun x => to (op x)) ρ2 := by
  intro s
  have h := h s
  rw [tb_app]
  cases ee : t s with
  | ok x s1 =>
    rw [ee] at h
    obtain ⟨b, hb, hp⟩ := h
    dsimp only
    cases eo : op x with
    | none => trivial
    | some y =>
      show _ = _
      rw [hb]
      exact hk x b s1 y hp eo
  | ex x s1 =>
    rw [ee] at h
    obtain ⟨ρ', hb⟩ := h
    refine ⟨ρ', ?_⟩
    try dsimp only
    rw [hb]
    rfl
  | bad => trivial
theorem jn_asg {ρ2 : α → Fr} (h : JX ρ m t f) (hp : ∀ x, putO i (f x) ρ = some (ρ2 x)) : JN ρ (sAsg i m) t ρ2 := jn_fl h fun x b s hb => by
  rw [hb, hp]
  rfl
theorem jn_asgG {g : MG} {ρ2 : α → Fr} (h : JV ρ m t e) (hg : ∀ x, g (e x) ρ = some (ρ2 x)) : JN ρ (sAsgG g m) t ρ2 := jn_fl h fun x b s hb => by
  rw [hb]
  show Fl.of (g (e x) ρ) s = _
  rw [hg]
  rfl
/-- where the target may not fit -/
theorem jn_asgGo {g : MG} {op : α → Option β} {ρ2 : β → Fr} (h : JV ρ m t e) (hg : ∀ x y, op x = some y → g (e x) ρ = some (ρ2 y)) : JN ρ (sAsgG g m) (tb t fun x => to (op x)) ρ2 := jn_flO h fun x b s y hb hy => by
  rw [hb]
  show Fl.of (g (e x) ρ) s = _
  rw [hg x y hy]
  rfl
theorem jn_drop (h : JX ρ m t f) : JN ρ (sDrop m) t (fun _ => ρ) := jn_fl h fun x b s hb => rfl
theorem jn_par2 {f2 : β → Out} {ρ2 : α → β → Fr} (h : JX ρ a t f) (h2 : JX ρ b tb' f2) (n1 : ∀ x, isBor (f x) = false) (n2 : ∀ x, isBor (f2 x) = false) (hp : ∀ x y, (putO i (f x) ρ).bind (putO j (f2 y)) = some (ρ2 x y)) : JN ρ (sPar2 i j a b) (tb t fun x => tb tb' fun y => tp (x, y)) (fun p => ρ2 p.1 p.2) := by
  have h1 : JJ ρ (aConsR a (aConsR b aNil)) (tb t fun x => tb tb' fun y => tp (x, y)) fun p os => os = [f p.1, f2 p.2] := by
    unfold aConsR
    refine h.bind fun x o hx => ?_
    have h3 : JJ ρ (fun ρ s => (b ρ s).bind fun y ρ s => (aNil ρ s).bind fun xs ρ s => .ok (y :: xs) ρ s) (tb tb' fun y => tp y) fun y os => os = [f2 y] := h2.bind fun y o2 hy => JJ.pure (by rw [hy])
    have h4 := h3.bind (m2 := fun xs ρ s => .ok (o :: xs) ρ s) (k := fun y => tp (x, y)) (Q := fun p os => os = [f p.1, f2 p.2]) fun y os hy => JJ.pure (by rw [hx, hy])
    rw [tb_assoc] at h4
    exact h4
  exact jn_fl h1 fun p os s hb => by
    rw [hb]
    dsimp only
    rw [n1, n2]
    show Fl.of ((putO i (f p.1) ρ).bind (putO j (f2 p.2))) s = _
    rw [hp]
    rfl
theorem jn_par3 {c : ME S} {l : Nat} {tc : M S γ} {f2 : β → Out} {f3 : γ → Out} {ρ2 : α → β → γ → Fr} (h : JX ρ a t f) (h2 : JX ρ b tb' f2) (h3 : JX ρ c tc f3) (n1 : ∀ x, isBor (f x) = false) (n2 : ∀ x, isBor (f2 x) = false) (n3 : ∀ x, isBor (f3 x) = false) (hp : ∀ x y z, ((putO i (f x) ρ).bind fun ρ => (putO j (f2 y) ρ).bind (putO l (f3 z))) = some (ρ2 x y z)) : JN ρ (sPar3 i j l a b c) (tb t fun x => tb tb' fun y => tb tc fun z => tp (x, y, z)) (fun p => ρ2 p.1 p.2.1 p.2.2) := by
  have h1 : JJ ρ (aConsR a (aConsR b (aConsR c aNil))) (tb t fun x => tb tb' fun y => tb tc fun z => tp (x, y, z)) fun p os => os = [f p.1, f2 p.2.1, f3 p.2.2] := by
    unfold aConsR
    refine h.bind fun x o hx => ?_
    have h5 : JJ ρ (fun ρ s => (b ρ s).bind fun y ρ s => ((c ρ s).bind fun z ρ s => (aNil ρ s).bind fun xs ρ s => .ok (z :: xs) ρ s).bind fun xs ρ s => .ok (y :: xs) ρ s) (tb tb' fun y => tb tc fun z => tp (y, z)) fun p os => os = [f2 p.1, f3 p.2] := h2.bind fun y o2 hy => by
      have h3 : JJ ρ (fun ρ s => (c ρ s).bind fun y ρ s => (aNil ρ s).bind fun xs ρ s => .ok (y :: xs) ρ s) (tb tc fun y => tp y) fun y os => os = [f3 y] := h3.bind fun y o2 hy => JJ.pure (by rw [hy])
      have h4 := h3.bind (m2 := fun xs ρ s => .ok (o2 :: xs) ρ s) (k := fun z => tp (y, z)) (Q := fun p os => os = [f2 p.1, f3 p.2]) fun z os hz => JJ.pure (by rw [hy, hz])
      rw [tb_assoc] at h4
      exact h4
    have h4 := h5.bind (m2 := fun xs ρ s => .ok (o :: xs) ρ s) (k := fun y => tp (x, y)) (Q := fun p os => os = [f p.1, f2 p.2.1, f3 p.2.2]) fun y os hy => JJ.pure (by rw [hx, hy])
    simp only [tb_assoc, tb_tp] at h4
    exact h4
  exact jn_fl h1 fun p os s hb => by
    rw [hb]
    dsimp only
    rw [n1, n2, n3]
    show Fl.of ((putO i (f p.1) ρ).bind fun ρ => (putO j (f2 p.2.1) ρ).bind (putO l (f3 p.2.2))) s = _
    rw [hp]
    rfl
/-! methods of own lists -/
def tApp (l : List α) (x : α) : M S (List α) := tg (decide (l.length < 16777216)) (l ++ [x])
def tExt (l m : List α) : M S (List α) := tg (sizeOk (l.length + m.length)) (l ++ m)
theorem ev_lstAt {l : List α} (h : ρ[i]? = some (.lst (l.map e))) : lstAt ρ i = some (l.map e) := by
  unfold lstAt
  rw [h]
/-- an expression that gives a value and changes the frame -/
def JW (ρ : Fr) (m : ME S) (t : M S α) (out : α → D) (ρ2 : α → Fr) : Prop := ∀ s, match t s with
  | .ok x s' => m ρ s = .ok (.val (out x)) (ρ2 x) s'
  | .ex e s' => ∃ ρ', m ρ s = .ex e ρ' s'
  | .bad => True
theorem jn_dropW {out : α → D} {ρ2 : α → Fr} (h : JW ρ m t out ρ2) : JN ρ (sDrop m) t ρ2 := by
  intro s
  have h := h s
  unfold sDrop
  cases ee : t s with
  | ok x s1 =>
    rw [ee] at h
    dsimp only at h ⊢
    rw [h]
    rfl
  | ex x s1 =>
    rw [ee] at h
    obtain ⟨ρ', h⟩ := h
    refine ⟨ρ', ?_⟩
    try dsimp only
    rw [h]
    rfl
  | bad => trivial
theorem jn_asgW {out : α → D} {ρ2 ρ3 : α → Fr} (h : JW ρ m t out ρ2) (hp : ∀ x, putO i (.val (out x)) (ρ2 x) = some (ρ3 x)) : JN ρ (sAsg i m) t ρ3 := by
  intro s
  have h := h s
  unfold sAsg
  cases ee : t s with
  | ok x s1 =>
    rw [ee] at h
    dsimp only at h ⊢
    rw [h]
    show Fl.of (putO i (.val (out x)) (ρ2 x)) s1 = _
    rw [hp]
    rfl
  | ex x s1 =>
    rw [ee] at h
    obtain ⟨ρ', h⟩ := h
    refine ⟨ρ', ?_⟩
    try dsimp only
    rw [h]
    rfl
  | bad => trivial
theorem jw_mutL {F : LEff} {l : List α} {ma : MA S} {tx' : M S γ} {ds : γ → List D} {op : γ → M S δ} {out : δ → D} {lst : δ → List α} {ρ2 : δ → Fr} (h : ρ[i]? = some (.lst (l.map e))) (ha : JJ ρ ma tx' fun x os => vals os = some (ds x)) (ho : ∀ x, JO (F (l.map e) (ds x)) (op x) fun w r => r = (out w, (lst w).map e)) (h2 : ∀ w, ρ.set i (.lst ((lst w).map e)) = ρ2 w) : JW ρ (eMutL i F ma) (tb tx' op) out ρ2 := by
  intro s
  have ha := ha s
  rw [tb_app]
  unfold eMutL
  rw [ev_lstAt h]
  cases ee : tx' s with
  | ok x s1 =>
    rw [ee] at ha
    obtain ⟨os, hos, hv⟩ := ha
    have hw := ho x s1
    dsimp only
    cases eo : op x s1 with
    | ok w s2 =>
      rw [eo] at hw
      obtain ⟨rfl, r, hr, rfl⟩ := hw
      dsimp only
      rw [hos]
      show (match (lstAt ρ i).bind fun l => (vals os).bind (F l) with
        | some (o, l') => Rx.ok (Out.val o) (ρ.set i (Sl.lst l')) s2
        | none => .bad) = _
      rw [ev_lstAt h, hv]
      show (match F (l.map e) (ds x) with
        | some (o, l') => Rx.ok (Out.val o) (ρ.set i (Sl.lst l')) s2
        | none => .bad) = _
      rw [hr]
      show Rx.ok _ _ _ = _
      rw [h2]
    | ex x s2 =>
      rw [eo] at hw
      exact hw.elim
    | bad => trivial
  | ex x s1 =>
    rw [ee] at ha
    obtain ⟨ρ', hos⟩ := ha
    refine ⟨ρ', ?_⟩
    try dsimp only
    rw [hos]
    rfl
  | bad => trivial
theorem vals1 (h : JV ρ m t e) : JJ ρ (aCons m aNil) t fun x os => vals os = some [e x] := by
  intro s
  have h := h s
  unfold aCons
  cases ee : t s with
  | ok x s1 =>
    rw [ee] at h
    obtain ⟨o, ho, hb⟩ := h
    refine ⟨[frz o], ?_, vals_cons hb rfl⟩
    rw [ho]
    rfl
  | ex x s1 =>
    rw [ee] at h
    obtain ⟨ρ', ho⟩ := h
    refine ⟨ρ', ?_⟩
    rw [ho]
    rfl
  | bad => trivial
theorem jw_app {l : List α} {ρ2 : List α → Fr} (h : ρ[i]? = some (.lst (l.map e))) (ha : JV ρ m t e) (h2 : ∀ l' : List α, ρ.set i (.lst (l'.map e)) = ρ2 l') : JW ρ (eMutL i fAppend (aCons m aNil)) (tb t fun x => tApp l x) (fun _ => .none) ρ2 :=
  jw_mutL (out := fun _ => .none) (lst := fun l => l) h (vals1 ha) (fun x => jo_if (b := (.none, (l ++ [x]).map e)) (by
    unfold fAppend
    dsimp only
    rw [List.length_map, List.map_append]
    rfl) rfl) h2
theorem jw_ext {l : List α} {t : M S (List α)} {ρ2 : List α → Fr} (h : ρ[i]? = some (.lst (l.map e))) (ha : JV ρ m t (eL e)) (h2 : ∀ l' : List α, ρ.set i (.lst (l'.map e)) = ρ2 l') : JW ρ (eMutL i fExtend (aCons m aNil)) (tb t fun x => tExt l x) (fun _ => .none) ρ2 :=
  jw_mutL (out := fun _ => .none) (lst := fun l => l) h (vals1 ha) (fun x => jo_if (b := (.none, (l ++ x).map e)) (by
    show (if sizeOk ((l.map e).length + (x.map e).length) then some (PyData.none, l.map e ++ x.map e) else none) = _
    rw [List.length_map, List.length_map, List.map_append]) rfl) h2
def tPop (l : List α) : M S (α × List α) := match l.getLast? with
  | some x => tp (x, l.dropLast)
  | none => tx
theorem jw_pop {l : List α} {ρ2 : α × List α → Fr} (h : ρ[i]? = some (.lst (l.map e))) (h2 : ∀ w : α × List α, ρ.set i (.lst (w.2.map e)) = ρ2 w) : JW (S := S) ρ (eMutL i fPop aNil) (tPop l) (fun w => e w.1) ρ2 := by
  have := jw_mutL (S := S) (F := fPop) (ma := aNil) (tx' := tp ()) (ds := fun _ => []) (op := fun _ => tPop l) (out := fun w => e w.1) (lst := fun w => w.2) h (JJ.pure rfl) (fun x => by
    unfold tPop fPop
    dsimp only
    rw [List.length_map, List.getElem?_map, List.getLast?_eq_getElem?]
    cases l[l.length - 1]? with
    | none => exact jo_tx
    | some y => exact jo_tp rfl (by rw [List.map_dropLast])) h2
  exact this
theorem map_erase {e : α → D} : ∀ (l : List α) (j : Nat), (l.eraseIdx j).map e = (l.map e).eraseIdx j
  | [], _ => rfl
  | x :: l, 0 => rfl
  | x :: l, j + 1 => congrArg (e x :: ·) (map_erase l j)
def tPopAt (l : List α) (i : Int) : M S (α × List α) := match (if fits63 i then seqIndex? i l.length else none) with
  | some j => (match l[j]? with
    | some x => tp (x, l.eraseIdx j)
    | none => tx)
  | none => tx
theorem jw_popAt {l : List α} {t : M S Int} {ρ2 : α × List α → Fr} (h : ρ[i]? = some (.lst (l.map e))) (ha : JV ρ m t eI) (h2 : ∀ w : α × List α, ρ.set i (.lst (w.2.map e)) = ρ2 w) : JW ρ (eMutL i fPopAt (aCons m aNil)) (tb t fun k => tPopAt l k) (fun w => e w.1) ρ2 :=
  jw_mutL (δ := α × List α) (out := fun w => e w.1) (lst := fun w => w.2) h (vals1 ha) (fun x => by
    unfold tPopAt fPopAt
    dsimp only
    rw [List.length_map]
    cases fits63 x with
    | false => exact jo_tx
    | true =>
      rw [if_pos rfl, if_pos rfl]
      cases seqIndex? x l.length with
      | none => exact jo_tx
      | some j =>
        show JO (((l.map e)[j]?).map _) _ _
        rw [List.getElem?_map]
        dsimp only
        cases l[j]? with
        | none => exact jo_tx
        | some y => exact jo_tp rfl (by
          show (e y, (l.map e).eraseIdx j) = (e y, (l.eraseIdx j).map e)
          rw [map_erase])) h2
/-! stores -/
def tSet (l : List α) (k : Int) (v : α) : M S (List α) := to ((ixN l.length k).map fun j => l.set j v)
theorem jn_put {l : List α} {tk : M S Int} {ρ2 : List α → Fr} {mk : ME S} (h : ρ[i]? = some (.lst (l.map e))) (hv : JV ρ m t e) (hk : JX ρ mk tk (oV eI)) (h2 : ∀ l' : List α, ρ.set i (.lst (l'.map e)) = ρ2 l') : JN ρ (sPut i m mk) (tb t fun v => tb tk fun k => tSet l k v) ρ2 := by
  intro s
  have hv := hv s
  have hs : slAt ρ i = some (.lst (l.map e)) := by
    unfold slAt
    rw [h]
  unfold sPut
  rw [tb_app]
  cases ee : t s with
  | ok x s1 =>
    rw [ee] at hv
    obtain ⟨o, ho, hb⟩ := hv
    have hk := hk s1
    dsimp only
    rw [ho]
    simp only [Rx.fl]
    rw [hs, tb_app]
    dsimp only
    cases ek : tk s1 with
    | ok k s2 =>
      rw [ek] at hk
      obtain ⟨o2, ho2, rfl⟩ := hk
      dsimp only
      rw [ho2]
      dsimp only
      unfold tSet
      cases ej : ixN l.length k with
      | none => trivial
      | some j =>
        rw [hs, hb]
        show (match (ixN (l.map e).length k).map fun j => Sl.lst ((l.map e).set j (e x)) with
          | some y => Fl.nx (ρ.set i y) s2
          | none => Fl.bad) = Fl.nx (ρ2 (l.set j x)) s2
        rw [List.length_map, ej]
        show Fl.nx (ρ.set i (Sl.lst ((l.map e).set j (e x)))) s2 = _
        rw [← List.map_set, h2]
    | ex x2 s2 =>
      rw [ek] at hk
      obtain ⟨ρ', hk⟩ := hk
      refine ⟨ρ', ?_⟩
      rw [hk]
    | bad => trivial
  | ex x s1 =>
    rw [ee] at hv
    obtain ⟨ρ', ho⟩ := hv
    refine ⟨ρ', ?_⟩
    try dsimp only
    rw [ho]
    rfl
  | bad => trivial
/-! x += v -/
theorem jn_augI {a : Int} {t : M S Int} {ρ2 : Int → Fr} (h : ρ[i]? = some (.val (.int a))) (hm : JR ρ m t eI) (h2 : ∀ z, ρ.set i (.val (.int z)) = ρ2 z) : JN ρ (sAug i m) (tb t fun b => tp (a + b)) ρ2 := by
  intro s
  have hm := hm s
  unfold sAug
  rw [h, tb_app]
  dsimp only
  cases ee : t s with
  | ok x s1 =>
    rw [ee] at hm
    obtain ⟨o, ho, hb⟩ := hm
    dsimp only
    rw [ho]
    simp only [Rx.fl]
    rw [h, hb]
    dsimp only
    rw [h2]
    rfl
  | ex x s1 =>
    rw [ee] at hm
    obtain ⟨ρ', ho⟩ := hm
    refine ⟨ρ', ?_⟩
    try dsimp only
    rw [ho]
    rfl
  | bad => trivial
theorem jn_augL {a : List α} {t : M S (List α)} {ρ2 : List α → Fr} (h : ρ[i]? = some (.lst (a.map e))) (hm : JR ρ m t (eL e)) (h2 : ∀ z : List α, ρ.set i (.lst (z.map e)) = ρ2 z) : JN ρ (sAug i m) (tb t fun b => tExt a b) ρ2 := by
  intro s
  have hm := hm s
  unfold sAug
  rw [h, tb_app]
  dsimp only
  cases ee : t s with
  | ok x s1 =>
    rw [ee] at hm
    obtain ⟨o, ho, hb⟩ := hm
    dsimp only
    rw [ho]
    unfold tExt tg
    by_cases hc : sizeOk (a.length + x.length) = true
    · rw [if_pos hc]
      simp only [Rx.fl]
      show _ = _
      rw [h, hb]
      simp only [eL]
      rw [List.length_map, List.length_map, if_pos hc, ← List.map_append, h2]
    · rw [if_neg hc]
      trivial
  | ex x s1 =>
    rw [ee] at hm
    obtain ⟨ρ', ho⟩ := hm
    refine ⟨ρ', ?_⟩
    try dsimp only
    rw [ho]
    rfl
  | bad => trivial
end
end Dt

set_option Elab.async false
set_option linter.all false
set_option maxRecDepth 100000
namespace Dt
open PySem PySem.Spec PyProof.Rows L2 Dy
section
variable {S α β γ δ σ σ1 r : Type} {ρ : Fr} {A A' B : MS S} {t : M S α} {m a b : ME S} {e : α → D} {i : Nat} {f : α → Out} {fr : r → Out} {J : σ → Fr → Prop} {J1 : σ1 → Fr → Prop}
/-! ### blocks -/
theorem jg_nx {ρ2 : α → Fr} {k : α → M S β} {I : β → S → Fl S → Prop} (h : JN ρ A t ρ2) (hB : ∀ x, JG (ρ2 x) B (k x) I) : JG ρ (sSeq A B) (tb t k) I := by
  intro s
  have h := h s
  rw [tb_app]
  unfold sSeq
  cases ee : t s with
  | ok x s1 =>
    rw [ee] at h
    dsimp only at h ⊢
    rw [h]
    exact hB x s1
  | ex x s1 =>
    rw [ee] at h
    obtain ⟨ρ', h⟩ := h
    refine ⟨ρ', ?_⟩
    try dsimp only
    rw [h]
    rfl
  | bad => trivial
/-- a statement of which nothing is told but where it leads -/
theorem jg_nx0 {ρ2 : Fr} {k : M S β} {I : β → S → Fl S → Prop} (h : ∀ s, A ρ s = .nx ρ2 s) (hB : JG ρ2 B k I) : JG ρ (sSeq A B) k I := by
  intro s
  have hB := hB s
  unfold sSeq
  rw [h]
  exact hB
theorem jg_frz {ρ2 : Fr} {k : M S β} {I : β → S → Fl S → Prop} (h : settle i ρ = ρ2) (hB : JG ρ2 (sSeq A B) k I) : JG ρ (sSeq (sFrz i A) B) k I := by
  subst h
  exact hB
theorem jg_nil {st : σ} (h : J st ρ) : JG (S := S) ρ sNil (tp st) (IP J) := fun s => ⟨ρ, rfl, h⟩
theorem jg_nilX {st : σ} (h : J st ρ) : JG (S := S) ρ sNil (tp (.nx st)) (IX J fr) := fun s => ⟨ρ, rfl, h⟩
theorem jg_ret (h : JX ρ m t f) (hb : ∀ x, isBor (f x) = false) : JG ρ (sSeq (sRet m) B) t (IB f) := by
  intro s
  have h := h s
  unfold sSeq sRet
  cases ee : t s with
  | ok x s1 =>
    rw [ee] at h
    obtain ⟨o, ho, rfl⟩ := h
    refine ⟨ρ, f x, ?_, ?_⟩
    · try dsimp only
      rw [ho]
      rfl
    · have := hb x
      cases ef : f x with
      | bor i =>
        rw [ef] at this
        cases this
      | _ => rfl
  | ex x s1 =>
    rw [ee] at h
    obtain ⟨ρ', h⟩ := h
    refine ⟨ρ', ?_⟩
    try dsimp only
    rw [h]
    rfl
  | bad => trivial
/-- a list of the frame's own is handed back -/
theorem jg_retO {l : List α} (h : ρ[i]? = some (.lst (l.map e))) : JG (S := S) ρ (sSeq (sRet (eVar i)) B) (tp l) (IB (oL e)) := fun s => by
  refine ⟨ρ, .bor i, ?_, ?_⟩
  · unfold sSeq sRet eVar
    rw [h]
    rfl
  · unfold retO
    dsimp only
    rw [h]
    rfl
theorem jg_retOM {e1 : α → D} {e2 : β → D} {l : List (α × β)} (h : ρ[i]? = some (.dct (kv e1 e2 l))) : JG (S := S) ρ (sSeq (sRet (eVar i)) B) (tp l) (IB (oM e1 e2)) := fun s => by
  refine ⟨ρ, .bor i, ?_, ?_⟩
  · unfold sSeq sRet eVar
    rw [h]
    rfl
  · unfold retO
    dsimp only
    rw [h]
    rfl
theorem jg_retN : JG (S := S) ρ (sSeq sRetN B) (tp ()) (IB (oV eN)) := fun s => ⟨ρ, .val .none, rfl, rfl⟩
/-- what always returns, within what may fall through -/
theorem jg_BX {t : M S r} (h : JG ρ A t (IB fr)) : JG ρ A (tb t fun x => tp (.rt x)) (IX J fr) := by
  intro s
  have h := h s
  rw [tb_app]
  cases ee : t s with
  | ok x s1 =>
    rw [ee] at h
    exact h
  | ex x s1 =>
    rw [ee] at h
    exact h
  | bad => trivial
/-- what always falls through, within what may return -/
theorem jg_PX {t : M S σ} (h : JG ρ A t (IP J)) : JG ρ A (tb t fun x => tp (.nx x)) (IX J fr) := by
  intro s
  have h := h s
  rw [tb_app]
  cases ee : t s with
  | ok x s1 =>
    rw [ee] at h
    exact h
  | ex x s1 =>
    rw [ee] at h
    exact h
  | bad => trivial
/-! ### if -/
theorem if_app {c : MT S} {tc : M S Bool} (hc : JT ρ c tc) (s : S) : match tc s with
  | .ok b s' => ∀ A A' B, sSeq (sIf c A A') B ρ s = sSeq (if b then A else A') B ρ s'
  | .ex e s' => ∀ A A' B, ∃ ρ', sSeq (sIf c A A') B ρ s = .ex e ρ' s'
  | .bad => True := by
  have hc := hc s
  cases ee : tc s with
  | ok x s1 =>
    rw [ee] at hc
    obtain ⟨o, ho, rfl⟩ := hc
    intro A A' B
    unfold sSeq sIf
    rw [ho]
    cases o <;> rfl
  | ex x s1 =>
    rw [ee] at hc
    obtain ⟨ρ', h⟩ := hc
    intro A A' B
    refine ⟨ρ', ?_⟩
    unfold sSeq sIf
    rw [h]
    rfl
  | bad => trivial
theorem seq_rets {s s' : S} {x : r} (h : IB fr x s' (A ρ s)) : IB fr x s' (sSeq A B ρ s) := by
  obtain ⟨ρ', o, h1, h2⟩ := h
  refine ⟨ρ', o, ?_, h2⟩
  unfold sSeq
  rw [h1]
  rfl
theorem jg_seqB {t : M S r} (h : JG ρ A t (IB fr)) : JG ρ (sSeq A B) t (IB fr) := by
  intro s
  have h := h s
  cases ee : t s with
  | ok x s1 =>
    rw [ee] at h
    exact seq_rets h
  | ex x s1 =>
    rw [ee] at h
    obtain ⟨ρ', h⟩ := h
    refine ⟨ρ', ?_⟩
    unfold sSeq
    rw [h]
    rfl
  | bad => trivial
theorem jg_seqP {t : M S σ1} {k : σ1 → M S β} {I : β → S → Fl S → Prop} (h : JG ρ A t (IP J1)) (hB : ∀ st ρ', J1 st ρ' → JG ρ' B (k st) I) : JG ρ (sSeq A B) (tb t k) I := by
  intro s
  have h := h s
  rw [tb_app]
  unfold sSeq
  cases ee : t s with
  | ok x s1 =>
    rw [ee] at h
    obtain ⟨ρ', h1, h2⟩ := h
    dsimp only
    rw [h1]
    exact hB x ρ' h2 s1
  | ex x s1 =>
    rw [ee] at h
    obtain ⟨ρ', h⟩ := h
    refine ⟨ρ', ?_⟩
    try dsimp only
    rw [h]
    rfl
  | bad => trivial
def tbB (t : M S (Fw σ1 r)) (k : σ1 → M S r) : M S r := tb t fun w => match w with
  | .nx st => k st
  | .rt x => tp x
def tbX (t : M S (Fw σ1 r)) (k : σ1 → M S (Fw σ r)) : M S (Fw σ r) := tb t fun w => match w with
  | .nx st => k st
  | .rt x => tp (.rt x)
theorem jg_seqXB {t : M S (Fw σ1 r)} {k : σ1 → M S r} (h : JG ρ A t (IX J1 fr)) (hB : ∀ st ρ', J1 st ρ' → JG ρ' B (k st) (IB fr)) : JG ρ (sSeq A B) (tbB t k) (IB fr) := by
  intro s
  have h := h s
  unfold tbB
  rw [tb_app]
  cases ee : t s with
  | ok w s1 =>
    rw [ee] at h
    cases w with
    | nx x =>
      obtain ⟨ρ', h1, h2⟩ := h
      dsimp only
      unfold sSeq
      rw [h1]
      exact hB x ρ' h2 s1
    | rt x => exact seq_rets h
  | ex x s1 =>
    rw [ee] at h
    obtain ⟨ρ', h⟩ := h
    refine ⟨ρ', ?_⟩
    unfold sSeq
    rw [h]
    rfl
  | bad => trivial
theorem jg_seqXX {t : M S (Fw σ1 r)} {k : σ1 → M S (Fw σ r)} (h : JG ρ A t (IX J1 fr)) (hB : ∀ st ρ', J1 st ρ' → JG ρ' B (k st) (IX J fr)) : JG ρ (sSeq A B) (tbX t k) (IX J fr) := by
  intro s
  have h := h s
  unfold tbX
  rw [tb_app]
  cases ee : t s with
  | ok w s1 =>
    rw [ee] at h
    cases w with
    | nx x =>
      obtain ⟨ρ', h1, h2⟩ := h
      dsimp only
      unfold sSeq
      rw [h1]
      exact hB x ρ' h2 s1
    | rt x =>
      obtain ⟨ρ', o, h1, h2⟩ := h
      refine ⟨ρ', o, ?_, h2⟩
      unfold sSeq
      rw [h1]
      rfl
  | ex x s1 =>
    rw [ee] at h
    obtain ⟨ρ', h⟩ := h
    refine ⟨ρ', ?_⟩
    unfold sSeq
    rw [h]
    rfl
  | bad => trivial
theorem jg_if {c : MT S} {tc : M S Bool} {tA tA' : M S β} {I : β → S → Fl S → Prop} (hc : JT ρ c tc) (hA : JG ρ (sSeq A B) tA I) (hA' : JG ρ (sSeq A' B) tA' I) : JG ρ (sSeq (sIf c A A') B) (tb tc fun b => if b then tA else tA') I := by
  intro s
  have hc := if_app hc s
  rw [tb_app]
  cases ee : tc s with
  | ok x s1 =>
    rw [ee] at hc
    dsimp only at hc ⊢
    rw [hc]
    cases x with
    | true => exact hA s1
    | false => exact hA' s1
  | ex x s1 =>
    rw [ee] at hc
    exact hc A A' B
  | bad => trivial
/-- one way returns, the other one goes on -/
theorem jg_ifR {c : MT S} {tc : M S Bool} {tA tB : M S r} (hc : JT ρ c tc) (hA : JG ρ A tA (IB fr)) (hB : JG ρ B tB (IB fr)) : JG ρ (sSeq (sIf c A sNil) B) (tb tc fun b => if b then tA else tB) (IB fr) := jg_if hc (jg_seqB hA) hB
theorem jg_ifRX {c : MT S} {tc : M S Bool} {tA : M S r} {tB : M S (Fw σ r)} (hc : JT ρ c tc) (hA : JG ρ A tA (IB fr)) (hB : JG ρ B tB (IX J fr)) : JG ρ (sSeq (sIf c A sNil) B) (tb tc fun b => if b then tb tA fun x => tp (.rt x) else tB) (IX J fr) := jg_if hc (jg_BX (jg_seqB hA)) hB
/-- both ways return -/
theorem jg_if2 {c : MT S} {tc : M S Bool} {tA tA' : M S r} (hc : JT ρ c tc) (hA : JG ρ A tA (IB fr)) (hA' : JG ρ A' tA' (IB fr)) : JG ρ (sSeq (sIf c A A') B) (tb tc fun b => if b then tA else tA') (IB fr) := jg_if hc (jg_seqB hA) (jg_seqB hA')
theorem jg_if1 {c : MT S} {tc : M S Bool} {tA tA' : M S β} {I : β → S → Fl S → Prop} (hc : JT ρ c tc) (hA : JG ρ A tA I) (hA' : JG ρ A' tA' I) : JG ρ (sIf c A A') (tb tc fun b => if b then tA else tA') I := by
  intro s
  have hc := hc s
  rw [tb_app]
  cases ee : tc s with
  | ok x s1 =>
    rw [ee] at hc
    obtain ⟨o, ho, rfl⟩ := hc
    have e : sIf c A A' ρ s = if o then A ρ s1 else A' ρ s1 := by
      unfold sIf
      rw [ho]
      rfl
    dsimp only
    rw [e]
    cases o with
    | true => exact hA s1
    | false => exact hA' s1
  | ex x s1 =>
    rw [ee] at hc
    obtain ⟨ρ', h⟩ := hc
    refine ⟨ρ', ?_⟩
    unfold sIf
    rw [h]
    rfl
  | bad => trivial
/-- both ways fall through -/
theorem jg_ifP {c : MT S} {tc : M S Bool} {tA tA' : M S σ1} {k : σ1 → M S β} {I : β → S → Fl S → Prop} (J1 : σ1 → Fr → Prop) (hc : JT ρ c tc) (hA : JG ρ A tA (IP J1)) (hA' : JG ρ A' tA' (IP J1)) (hB : ∀ st ρ', J1 st ρ' → JG ρ' B (k st) I) : JG ρ (sSeq (sIf c A A') B) (tb (tb tc fun b => if b then tA else tA') k) I := jg_seqP (jg_if1 hc hA hA') hB
/-- ways that may return -/
theorem jg_ifXB {c : MT S} {tc : M S Bool} {tA tA' : M S (Fw σ1 r)} {k : σ1 → M S r} (J1 : σ1 → Fr → Prop) (hc : JT ρ c tc) (hA : JG ρ A tA (IX J1 fr)) (hA' : JG ρ A' tA' (IX J1 fr)) (hB : ∀ st ρ', J1 st ρ' → JG ρ' B (k st) (IB fr)) : JG ρ (sSeq (sIf c A A') B) (tbB (tb tc fun b => if b then tA else tA') k) (IB fr) := jg_seqXB (jg_if1 hc hA hA') hB
theorem jg_ifXX {c : MT S} {tc : M S Bool} {tA tA' : M S (Fw σ1 r)} {k : σ1 → M S (Fw σ r)} (J1 : σ1 → Fr → Prop) (hc : JT ρ c tc) (hA : JG ρ A tA (IX J1 fr)) (hA' : JG ρ A' tA' (IX J1 fr)) (hB : ∀ st ρ', J1 st ρ' → JG ρ' B (k st) (IX J fr)) : JG ρ (sSeq (sIf c A A') B) (tbX (tb tc fun b => if b then tA else tA') k) (IX J fr) := jg_seqXX (jg_if1 hc hA hA') hB
/-! ### for -/
def tFor (f : α → σ → M S σ) : List α → σ → M S σ
  | [], st => tp st
  | x :: l, st => tb (f x st) fun st => tFor f l st
def tForX (f : α → σ → M S (Fw σ r)) : List α → σ → M S (Fw σ r)
  | [], st => tp (.nx st)
  | x :: l, st => tbX (f x st) fun st => tForX f l st
theorem forL_P {g : MG} {f : α → σ → M S σ} (hb : ∀ x st ρ', J st ρ' → ∃ ρ1, g (e x) ρ' = some ρ1 ∧ JG ρ1 A (f x st) (IP J)) : ∀ (l : List α) (st : σ) (ρ : Fr), J st ρ → JG ρ (forL g A (l.map e)) (tFor f l st) (IP J)
  | [], st, ρ, h => fun s => ⟨ρ, rfl, h⟩
  | x :: l, st, ρ, h => by
    obtain ⟨ρ1, h1, h2⟩ := hb x st ρ h
    intro s
    have h2 := h2 s
    unfold tFor
    rw [tb_app, List.map_cons, forL, h1]
    dsimp only
    cases ee : f x st s with
    | ok y s1 =>
      rw [ee] at h2
      obtain ⟨ρ2, h3, h4⟩ := h2
      dsimp only
      rw [h3]
      exact forL_P hb l y ρ2 h4 s1
    | ex y s1 =>
      rw [ee] at h2
      obtain ⟨ρ', h3⟩ := h2
      refine ⟨ρ', ?_⟩
      try dsimp only
      rw [h3]
    | bad => trivial
theorem forL_X {g : MG} {f : α → σ → M S (Fw σ r)} (hb : ∀ x st ρ', J st ρ' → ∃ ρ1, g (e x) ρ' = some ρ1 ∧ JG ρ1 A (f x st) (IX J fr)) : ∀ (l : List α) (st : σ) (ρ : Fr), J st ρ → JG ρ (forL g A (l.map e)) (tForX f l st) (IX J fr)
  | [], st, ρ, h => fun s => ⟨ρ, rfl, h⟩
  | x :: l, st, ρ, h => by
    obtain ⟨ρ1, h1, h2⟩ := hb x st ρ h
    intro s
    have h2 := h2 s
    unfold tForX tbX
    rw [tb_app, List.map_cons, forL, h1]
    dsimp only
    cases ee : f x st s with
    | ok w s1 =>
      rw [ee] at h2
      cases w with
      | nx y =>
        obtain ⟨ρ2, h3, h4⟩ := h2
        dsimp only
        rw [h3]
        exact forL_X hb l y ρ2 h4 s1
      | rt y =>
        obtain ⟨ρ2, o, h3, h4⟩ := h2
        refine ⟨ρ2, o, ?_, h4⟩
        rw [h3]
    | ex y s1 =>
      rw [ee] at h2
      obtain ⟨ρ', h3⟩ := h2
      refine ⟨ρ', ?_⟩
      try dsimp only
      rw [h3]
    | bad => trivial
theorem jg_for1 {g : MG} {mi : MI S} {tl : M S (List α)} {k : List α → M S β} {I : β → S → Fl S → Prop} (hi : JI ρ mi tl e) (h : ∀ l, JG ρ (forL g A (l.map e)) (k l) I) : JG ρ (sFor g mi A) (tb tl k) I := by
  intro s
  have hi := hi s
  rw [tb_app]
  unfold sFor
  cases ee : tl s with
  | ok l s1 =>
    rw [ee] at hi
    obtain ⟨b, hb, rfl⟩ := hi
    dsimp only
    rw [hb]
    exact h l s1
  | ex y s1 =>
    rw [ee] at hi
    obtain ⟨ρ', hi⟩ := hi
    refine ⟨ρ', ?_⟩
    try dsimp only
    rw [hi]
    rfl
  | bad => trivial
theorem jg_forP {g : MG} {mi : MI S} {tl : M S (List α)} {f : α → σ1 → M S σ1} {st : σ1} {k : σ1 → M S β} {I : β → S → Fl S → Prop} (J1 : σ1 → Fr → Prop) (hi : JI ρ mi tl e) (h0 : J1 st ρ) (hb : ∀ x st ρ', J1 st ρ' → ∃ ρ1, g (e x) ρ' = some ρ1 ∧ JG ρ1 A (f x st) (IP J1)) (hB : ∀ st ρ', J1 st ρ' → JG ρ' B (k st) I) : JG ρ (sSeq (sFor g mi A) B) (tb (tb tl fun l => tFor f l st) k) I :=
  jg_seqP (jg_for1 hi fun l => forL_P hb l st ρ h0) hB
theorem jg_forXB {g : MG} {mi : MI S} {tl : M S (List α)} {f : α → σ1 → M S (Fw σ1 r)} {st : σ1} {k : σ1 → M S r} (J1 : σ1 → Fr → Prop) (hi : JI ρ mi tl e) (h0 : J1 st ρ) (hb : ∀ x st ρ', J1 st ρ' → ∃ ρ1, g (e x) ρ' = some ρ1 ∧ JG ρ1 A (f x st) (IX J1 fr)) (hB : ∀ st ρ', J1 st ρ' → JG ρ' B (k st) (IB fr)) : JG ρ (sSeq (sFor g mi A) B) (tbB (tb tl fun l => tForX f l st) k) (IB fr) :=
  jg_seqXB (jg_for1 hi fun l => forL_X hb l st ρ h0) hB
theorem jg_forXX {g : MG} {mi : MI S} {tl : M S (List α)} {f : α → σ1 → M S (Fw σ1 r)} {st : σ1} {k : σ1 → M S (Fw σ r)} (J1 : σ1 → Fr → Prop) (hi : JI ρ mi tl e) (h0 : J1 st ρ) (hb : ∀ x st ρ', J1 st ρ' → ∃ ρ1, g (e x) ρ' = some ρ1 ∧ JG ρ1 A (f x st) (IX J1 fr)) (hB : ∀ st ρ', J1 st ρ' → JG ρ' B (k st) (IX J fr)) : JG ρ (sSeq (sFor g mi A) B) (tbX (tb tl fun l => tForX f l st) k) (IX J fr) :=
  jg_seqXX (jg_for1 hi fun l => forL_X hb l st ρ h0) hB
/-! ### while -/
def tWhile (c : σ → M S Bool) (f : σ → M S σ) : Nat → σ → M S σ
  | 0, _ => tx
  | n + 1, st => tb (c st) fun b => if b then tb (f st) fun st => tWhile c f n st else tp st
def tWhileX (c : σ → M S Bool) (f : σ → M S (Fw σ r)) : Nat → σ → M S (Fw σ r)
  | 0, _ => tx
  | n + 1, st => tb (c st) fun b => if b then tbX (f st) fun st => tWhileX c f n st else tp (.nx st)
theorem whileL_P {c : MT S} {tc : σ → M S Bool} {f : σ → M S σ} (hc : ∀ st ρ', J st ρ' → JT ρ' c (tc st)) (hb : ∀ st ρ', J st ρ' → JG ρ' A (f st) (IP J)) : ∀ (n : Nat) (st : σ) (ρ : Fr), J st ρ → JG ρ (whileL c A n) (tWhile tc f n st) (IP J)
  | 0, st, ρ, h => fun s => trivial
  | n + 1, st, ρ, h => by
    intro s
    have h1 := hc st ρ h s
    unfold tWhile
    rw [tb_app, whileL]
    cases ee : tc st s with
    | ok b s1 =>
      rw [ee] at h1
      obtain ⟨b', hb', rfl⟩ := h1
      dsimp only
      rw [hb']
      cases b' with
      | false => exact ⟨ρ, rfl, h⟩
      | true =>
        have h2 := hb st ρ h s1
        rw [if_pos rfl, tb_app]
        simp only [Rx.fl, if_true]
        cases ef : f st s1 with
        | ok y s2 =>
          rw [ef] at h2
          obtain ⟨ρ2, h3, h4⟩ := h2
          dsimp only
          rw [h3]
          exact whileL_P hc hb n y ρ2 h4 s2
        | ex y s2 =>
          rw [ef] at h2
          obtain ⟨ρ', h3⟩ := h2
          refine ⟨ρ', ?_⟩
          try dsimp only
          rw [h3]
        | bad => trivial
    | ex y s1 =>
      rw [ee] at h1
      obtain ⟨ρ', h1⟩ := h1
      refine ⟨ρ', ?_⟩
      try dsimp only
      rw [h1]
      rfl
    | bad => trivial
theorem jg_whileP {c : MT S} {tc : σ1 → M S Bool} {f : σ1 → M S σ1} {n : Nat} {st : σ1} {k : σ1 → M S β} {I : β → S → Fl S → Prop} (J1 : σ1 → Fr → Prop) (h0 : J1 st ρ) (hc : ∀ st ρ', J1 st ρ' → JT ρ' c (tc st)) (hb : ∀ st ρ', J1 st ρ' → JG ρ' A (f st) (IP J1)) (hB : ∀ st ρ', J1 st ρ' → JG ρ' B (k st) I) : JG ρ (sSeq (sWhile n c A) B) (tb (tWhile tc f n st) k) I :=
  jg_seqP (show JG ρ (sWhile n c A) _ _ from whileL_P hc hb n st ρ h0) hB
/-! ### defs -/
theorem jf_def {n : Nat} {as : List Sl} {ρ0 : Fr} {t : M S r} (h0 : startF n as = ρ0) (h : JG ρ0 A t (IB fr)) : JF (mDef n A) as t fr := by
  intro s
  have h := h s
  unfold mDef
  rw [h0]
  cases ee : t s with
  | ok x s1 =>
    rw [ee] at h
    obtain ⟨ρ', o, h1, h2⟩ := h
    dsimp only
    rw [h1, ← h2]
  | ex x s1 =>
    rw [ee] at h
    obtain ⟨ρ', h1⟩ := h
    dsimp only
    rw [h1]
  | bad => trivial
/-- a def that only falls through -/
theorem jf_defP {n : Nat} {as : List Sl} {ρ0 : Fr} {t : M S σ} (h0 : startF n as = ρ0) (h : JG ρ0 A t (IP J)) : JF (mDef n A) as (tb t fun _ => tp ()) (oV eN) := by
  intro s
  have h := h s
  unfold mDef
  rw [h0, tb_app]
  cases ee : t s with
  | ok x s1 =>
    rw [ee] at h
    obtain ⟨ρ', h1, h2⟩ := h
    dsimp only
    rw [h1]
    rfl
  | ex x s1 =>
    rw [ee] at h
    obtain ⟨ρ', h1⟩ := h
    dsimp only
    rw [h1]
  | bad => trivial
end
end Dt

set_option Elab.async false
set_option linter.all false
set_option maxRecDepth 100000
namespace Dt
open PySem PySem.Spec PyProof.Rows L2 Dy
section
variable {S α β γ : Type} {ρ : Fr} {m a b : ME S} {e : α → D} {e1 : β → D}
theorem je_lstRg {t : M S Int} (h : JX ρ a t (oV eI)) : JX ρ (eLstRg (aCons a aNil)) (tb t fun n => tg (in62 n && decide (n ≤ 16777216)) (ivl 0 n.toNat)) (oL eI) := by
  unfold eLstRg
  refine (vals1 (JJ.v h)).bind fun x os hx => JJ.of ?_
  rw [hx]
  refine jo_if (b := .newl ((ivl 0 x.toNat).map eI)) ?_ rfl
  show (if in62 x && decide (x ≤ 16777216) then some (rngL 0 x.toNat) else none).map Out.newl = _
  rw [rngL_ivl]
  cases in62 x && decide (x ≤ 16777216) <;> rfl
def enumT (l : List α) : List (Int × α) := (List.range l.length).zipWith (fun (i : Nat) x => ((i : Int), x)) l
theorem enumL_map (l : List α) : enumL (l.map e) = (enumT l).map (eP eI e) := by
  unfold enumL enumT
  rw [List.length_map, List.map_zipWith, List.zipWith_map_right]
  rfl
theorem ji_enumT {t : M S (List α)} (h : JV ρ a t (eT e)) : JI ρ (iEnumM (aCons a aNil)) (tb t fun l => tp (enumT l)) (eP eI e) := by
  unfold iEnumM
  refine (vals1 h).bind fun x os hx => JJ.of ?_
  rw [hx]
  exact jo_tp (b := enumL (x.map e)) rfl (enumL_map x)
theorem ji_enumL {t : M S (List α)} (h : JV ρ a t (eL e)) : JI ρ (iEnumM (aCons a aNil)) (tb t fun l => tp (enumT l)) (eP eI e) := by
  unfold iEnumM
  refine (vals1 h).bind fun x os hx => JJ.of ?_
  rw [hx]
  exact jo_tp (b := enumL (x.map e)) rfl (enumL_map x)
theorem vals2 {t : M S α} {t2 : M S β} (h : JV ρ a t e) (h2 : JV ρ b t2 e1) : JJ ρ (aCons a (aCons b aNil)) (tb t fun x => tb t2 fun y => tp (x, y)) fun p os => vals os = some [e p.1, e1 p.2] := by
  unfold aCons
  refine h.bind fun x o hx => ?_
  have h3 : JJ ρ (fun ρ s => (b ρ s).bind fun y ρ s => (aNil ρ s).bind fun xs ρ s => .ok (frz y :: xs) ρ s) (tb t2 fun y => tp y) fun y os => vals os = some [e1 y] := h2.bind fun y o2 hy => JJ.pure (vals_cons hy rfl)
  have h4 := h3.bind (m2 := fun xs ρ s => .ok (frz o :: xs) ρ s) (k := fun y => tp (x, y)) (Q := fun p os => vals os = some [e p.1, e1 p.2]) fun y os hy => JJ.pure (vals_cons hx hy)
  rw [tb_assoc] at h4
  exact h4
theorem zipL_map (x : List α) (y : List β) : zipL (x.map e) (y.map e1) = (List.zip x y).map (eP e e1) := by
  unfold zipL
  rw [List.zip, List.map_zipWith, List.zipWith_map]
  rfl
theorem ji_zipL {t : M S (List α)} {t2 : M S (List β)} (h : JV ρ a t (eL e)) (h2 : JV ρ b t2 (eL e1)) : JI ρ (Dy.iZip (aCons a (aCons b aNil))) (tb t fun x => tb t2 fun y => tp (List.zip x y)) (eP e e1) := by
  unfold Dy.iZip
  have := (vals2 h h2).bind (m2 := fun os ρ s => Rx.of ((vals os).bind fun l => match l with
  | [.list a, .list b] => some (zipL a b)
  | [.tuple a, .tuple b] => some (zipL a b)
  | _ => none) ρ s) (k := fun p => tp (List.zip p.1 p.2)) (Q := fun x b => b = x.map (eP e e1)) fun p os hp => JJ.of (by
    rw [hp]
    exact jo_tp rfl (zipL_map p.1 p.2))
  simp only [tb_assoc, tb_tp] at this
  exact this
theorem ji_zipT {t : M S (List α)} {t2 : M S (List β)} (h : JV ρ a t (eT e)) (h2 : JV ρ b t2 (eT e1)) : JI ρ (Dy.iZip (aCons a (aCons b aNil))) (tb t fun x => tb t2 fun y => tp (List.zip x y)) (eP e e1) := by
  unfold Dy.iZip
  have := (vals2 h h2).bind (m2 := fun os ρ s => Rx.of ((vals os).bind fun l => match l with
  | [.list a, .list b] => some (zipL a b)
  | [.tuple a, .tuple b] => some (zipL a b)
  | _ => none) ρ s) (k := fun p => tp (List.zip p.1 p.2)) (Q := fun x b => b = x.map (eP e e1)) fun p os hp => JJ.of (by
    rw [hp]
    exact jo_tp rfl (zipL_map p.1 p.2))
  simp only [tb_assoc, tb_tp] at this
  exact this
theorem op_lenP (p : α × β) : JO (S := S) (lenD [eP e e1 p]) (tp (2 : Int)) (fun z o => o = oV eI z) := jo_tp rfl rfl
/-! ### results of calls that were handed the frame's own -/
theorem noLs_map {e : α → D} (h : ∀ x, noL (e x) = true) : ∀ l : List α, noLs (l.map e) = true
  | [] => rfl
  | x :: l => by
    show (noL (e x) && noLs (l.map e)) = true
    rw [h, noLs_map h l]
    rfl
class NoL (e : α → D) : Prop where
  no : ∀ x, noL (e x) = true
instance : NoL eI := ⟨fun _ => rfl⟩
instance : NoL eB := ⟨fun _ => rfl⟩
instance : NoL eS := ⟨fun _ => rfl⟩
instance : NoL eN := ⟨fun _ => rfl⟩
instance [NoL e] : NoL (eT e) := ⟨fun x => noLs_map NoL.no x⟩
instance [NoL e] [NoL e1] : NoL (eP e e1) := ⟨fun x => by
  show (noL (e x.1) && (noL (e1 x.2) && true)) = true
  rw [NoL.no, NoL.no]
  rfl⟩
instance {e2 : γ → D} [NoL e] [NoL e1] [NoL e2] : NoL (e3 e e1 e2) := ⟨fun x => by
  show (noL (e x.1) && (noL (e1 x.2.1) && (noL (e2 x.2.2) && true))) = true
  rw [NoL.no, NoL.no, NoL.no]
  rfl⟩
instance [NoL e] : NoL (eO e) := ⟨fun x => by
  cases x with
  | none => rfl
  | some x => exact NoL.no (e := e) x⟩
theorem apV [NoL e] (y : α) : apartO (oV e y) = true := NoL.no y
theorem apL [NoL e] (y : List α) : apartO (oL e y) = true := noLs_map NoL.no y
end
end Dt

set_option Elab.async false
set_option linter.all false
set_option maxRecDepth 100000
namespace Dt
open PySem PySem.Spec PyProof.Rows L2 Dy
section
variable {α β γ : Type} {ρ : Fr} {m a b : ME Src} {e : α → D} {i : Nat}
/-! ### the source -/
def sGet (f : Src → Int) : M Src Int := fun s => .ok (f s) s
def sLenS : M Src Int := fun s => .ok (s.cells.length : Int) s
def sPopS : M Src Int := fun s => match s.cells[s.cells.length - 1]? with
  | some n => .ok n { s with cells := s.cells.dropLast }
  | none => .bad
def sSet (f : Src → Int → Src) (n : Int) : M Src Unit := fun s => .ok () (f s n)
theorem isSrc_of (h : ρ[i]? = some (.hdl 0)) : isSrc ρ i = true := by
  unfold isSrc
  rw [h]
  rfl
theorem jx_src {f : Src → Int} (h : ρ[i]? = some (.hdl 0)) : JX ρ (eSrc i f) (sGet f) (oV eI) := fun s => ⟨_, by
  unfold eSrc
  rw [isSrc_of h, if_pos rfl]
  rfl, rfl⟩
theorem jx_srcLen (h : ρ[i]? = some (.hdl 0)) : JX ρ (eSrcLen i) sLenS (oV eI) := fun s => ⟨_, by
  unfold eSrcLen
  rw [isSrc_of h, if_pos rfl]
  rfl, rfl⟩
theorem jx_srcPop (h : ρ[i]? = some (.hdl 0)) : JX ρ (eSrcPop i) sPopS (oV eI) := fun s => by
  unfold eSrcPop sPopS
  rw [isSrc_of h, if_pos rfl]
  cases s.cells[s.cells.length - 1]? with
  | none => trivial
  | some n => exact ⟨_, rfl, rfl⟩
theorem jn_src {f : Src → Int → Src} {t : M Src Int} (h : ρ[i]? = some (.hdl 0)) (hm : JX ρ m t (oV eI)) : JN ρ (sSrc i f m) (tb t fun n => sSet f n) (fun _ => ρ) := by
  intro s
  have hm := hm s
  rw [tb_app]
  unfold sSrc
  cases ee : t s with
  | ok x s1 =>
    rw [ee] at hm
    obtain ⟨o, ho, rfl⟩ := hm
    dsimp only
    rw [ho]
    show (if isSrc ρ i then Fl.nx ρ (f s1 x) else .bad) = _
    rw [isSrc_of h, if_pos rfl]
  | ex x s1 =>
    rw [ee] at hm
    obtain ⟨ρ', ho⟩ := hm
    refine ⟨ρ', ?_⟩
    try dsimp only
    rw [ho]
    rfl
  | bad => trivial
/-- a mixed list: things taken out at picked places -/
def mixT (pk : Int → M Src Int) : Nat → List α → List α → M Src (List α)
  | 0, _, acc => tp acc
  | n + 1, rest, acc => tb (tq (tb (pk (ilen rest)) fun k => tPopAt rest k)) fun w => if decide (acc.length < 16777216) then mixT pk n w.2 (acc ++ [w.1]) else tx
theorem lcL_cons {S : Type} {vs : List Nat} {g : MG} {t : MT S} {m : ME S} {d : D} {r : List D} {ρ : Fr} {s : S} {acc : List D} : lcL vs g t m (d :: r) ρ s acc = turnL vs g t m d ρ s acc fun ρ s acc => lcL vs g t m r ρ s acc := rfl
theorem mix_ok {m : ME Src} {pk : Int → M Src Int} {v : Sl} (hp : ∀ (rest : List α) (d : D), JV [.hdl 0, v, .lst (rest.map e), .val d] m (tb (tb (tp rest) fun x => tp (ilen x)) pk) eI) : ∀ (ds : List D) (rest acc : List α) (s : Src), (match mixT pk ds.length rest acc s with
  | .ok r s' => ∃ rest' : List α, lcL [3] (gN 3) tYesM (eMutL 2 fPopAt (aCons m aNil)) ds [.hdl 0, v, .lst (rest.map e), .non] s (acc.map e) = .ok (r.map e) [.hdl 0, v, .lst (rest'.map e), .non] s'
  | .ex _ _ => False
  | .bad => True)
  | [], rest, acc, s => ⟨rest, rfl⟩
  | d :: ds, rest, acc, s => by
    have hp1 : JV [.hdl 0, v, .lst (rest.map e), .val d] m (pk (ilen rest)) eI := hp rest d
    have h := jw_popAt (i := 2) (ρ2 := fun w => [.hdl 0, v, .lst (w.2.map e), .val d]) (h := rfl) hp1 (fun w => rfl) s
    show (match mixT pk (ds.length + 1) rest acc s with
      | .ok r s' => ∃ rest' : List α, lcL [3] (gN 3) tYesM (eMutL 2 fPopAt (aCons m aNil)) (d :: ds) [.hdl 0, v, .lst (rest.map e), .non] s (acc.map e) = .ok (r.map e) [.hdl 0, v, .lst (rest'.map e), .non] s'
      | .ex _ _ => False
      | .bad => True)
    unfold mixT
    rw [tb_app, tq_app]
    cases ee : (tb (pk (ilen rest)) fun k => tPopAt rest k) s with
    | ok w s1 =>
      rw [ee] at h
      dsimp only at h ⊢
      by_cases hl : acc.length < 16777216
      · rw [decide_eq_true hl, if_pos rfl]
        have ih := mix_ok hp ds w.2 (acc ++ [w.1]) s1
        have step : lcL [3] (gN 3) tYesM (eMutL 2 fPopAt (aCons m aNil)) (d :: ds) [.hdl 0, v, .lst (rest.map e), .non] s (acc.map e) = lcL [3] (gN 3) tYesM (eMutL 2 fPopAt (aCons m aNil)) ds [.hdl 0, v, .lst (w.2.map e), .non] s1 ((acc ++ [w.1]).map e) := by
          rw [lcL_cons]
          unfold turnL
          rw [show gN 3 d [.hdl 0, v, .lst (rest.map e), .non] = some [.hdl 0, v, .lst (rest.map e), .val d] from rfl]
          dsimp only
          rw [show (tYesM [.hdl 0, v, .lst (rest.map e), .val d] s : Rx Src Bool) = .ok true [.hdl 0, v, .lst (rest.map e), .val d] s from rfl]
          dsimp only
          rw [h]
          dsimp only [frz]
          rw [List.length_map, decide_eq_true hl, if_pos rfl, List.map_append]
          rfl
        rw [step]
        exact ih
      · rw [decide_eq_false hl, if_neg Bool.false_ne_true]
        trivial
    | ex _ _ => trivial
    | bad => trivial
theorem seqret_ok {m : ME Src} {B : MS Src} {r r' : Fr} {s s' : Src} {o : Out} (h : m r s = .ok o r' s') : sSeq (sRet m) B r s = .rt o r' s' := by
  unfold sSeq sRet
  rw [h]
  rfl
theorem seqret_ex {m : ME Src} {B : MS Src} {r r' : Fr} {s s' : Src} {o : Exn} (h : m r s = .ex o r' s') : sSeq (sRet m) B r s = .ex o r' s' := by
  unfold sSeq sRet
  rw [h]
  rfl
theorem jg_mixed {things : List α} {B : MS Src} {mi : MI Src} {tl : M Src (List Int)} {m : ME Src} {pk : Int → M Src Int} {v : Sl} (hi : JI [.hdl 0, v, .lst (things.map e), .non] mi tl eI)
    (hp : ∀ (rest : List α) (d : D), JV [.hdl 0, v, .lst (rest.map e), .val d] m (tb (tb (tp rest) fun x => tp (ilen x)) pk) eI) :
    JG [.hdl 0, v, .lst (things.map e), .non] (sSeq (sRet (eLc [3] (gN 3) mi tYesM (eMutL 2 fPopAt (aCons m aNil)))) B) (tb tl fun l => mixT pk l.length things []) (IB (oL e)) := by
  intro s
  have hi := hi s
  rw [tb_app]
  cases ee : tl s with
  | ok l s1 =>
    rw [ee] at hi
    obtain ⟨b, hb, rfl⟩ := hi
    dsimp only
    have h := mix_ok (v := v) hp (l.map eI) things [] s1
    rw [List.length_map] at h
    cases em : mixT pk l.length things [] s1 with
    | ok r s2 =>
      rw [em] at h
      obtain ⟨rest', h⟩ := h
      refine ⟨[.hdl 0, v, .lst (rest'.map e), .non], .newl (r.map e), seqret_ok ?_, rfl⟩
      unfold eLc
      rw [hb]
      dsimp only [Rx.bind]
      rw [show wipeF [.hdl 0, v, .lst (things.map e), .non] [3] = [.hdl 0, v, .lst (things.map e), .non] from rfl]
      rw [show ([] : List α).map e = [] from rfl] at h
      rw [h]
      rfl
    | ex _ _ =>
      rw [em] at h
      exact h.elim
    | bad => trivial
  | ex y s1 =>
    rw [ee] at hi
    obtain ⟨ρ', hi⟩ := hi
    refine ⟨ρ', seqret_ex ?_⟩
    unfold eLc
    rw [hi]
    rfl
  | bad => trivial
/-- what a drawing may give -/
def Gd (s : Src) : Prop := s.cells.length ≤ 63
def Yl (t : M Src α) (Q : α → Prop) : Prop := ∀ s, Gd s → ∃ x s', t s = .ok x s' ∧ Gd s' ∧ Q x
theorem yl_tp {x : α} {Q : α → Prop} (h : Q x) : Yl (tp x) Q := fun s g => ⟨x, s, rfl, g, h⟩
theorem yl_tb {t : M Src α} {k : α → M Src β} {Q : α → Prop} {P : β → Prop} (h : Yl t Q) (h2 : ∀ x, Q x → Yl (k x) P) : Yl (tb t k) P := fun s g => by
  obtain ⟨x, s1, e1, g1, q⟩ := h s g
  obtain ⟨y, s2, e2, g2, p⟩ := h2 x q s1 g1
  refine ⟨y, s2, ?_, g2, p⟩
  rw [tb_app, e1]
  exact e2
theorem yl_tq {t : M Src α} {Q : α → Prop} (h : Yl t Q) : Yl (tq t) Q := fun s g => by
  obtain ⟨x, s1, e1, g1, q⟩ := h s g
  refine ⟨x, s1, ?_, g1, q⟩
  rw [tq_app, e1]
theorem Yl.mono {t : M Src α} {Q P : α → Prop} (h : Yl t Q) (hq : ∀ x, Q x → P x) : Yl t P := fun s g => by
  obtain ⟨x, s1, e1, g1, q⟩ := h s g
  exact ⟨x, s1, e1, g1, hq x q⟩
theorem yl_tg {c : Bool} {x : α} {Q : α → Prop} (hc : c = true) (h : Q x) : Yl (tg c x) Q := by
  rw [hc, tg_true]
  exact yl_tp h
theorem yl_to {o : Option α} {x : α} {Q : α → Prop} (hc : o = some x) (h : Q x) : Yl (to o) Q := by
  rw [hc]
  exact yl_tp h
/-- a comprehension over drawings -/
theorem yl_map {f : α → M Src β} {Q : β → Prop} : ∀ (l : List α) (acc : List β), (∀ x ∈ l, Yl (f x) Q) → (∀ y ∈ acc, Q y) → acc.length + l.length ≤ 16777216 → Yl (tLcA (fun x => tb (f x) fun y => tp (some y)) l acc) (fun r => (∀ y ∈ r, Q y) ∧ r.length = acc.length + l.length)
  | [], acc, _, ha, _ => yl_tp ⟨ha, rfl⟩
  | x :: l, acc, h, ha, hl => by
    rw [List.length_cons] at hl
    unfold tLcA
    refine yl_tb (yl_tq (yl_tb (h x List.mem_cons_self) fun y hy => yl_tp (Q := fun o => ∃ y, o = some y ∧ Q y) ⟨y, rfl, hy⟩)) ?_
    rintro o ⟨y, rfl, hy⟩
    dsimp only
    rw [if_pos (decide_eq_true (by omega))]
    refine (yl_map l (acc ++ [y]) (fun z hz => h z (List.mem_cons_of_mem _ hz)) (fun z hz => ?_) (by rw [List.length_append, List.length_singleton]; omega)).mono fun r hr => ⟨hr.1, ?_⟩
    · rcases List.mem_append.mp hz with h1 | h1
      · exact ha z h1
      · rw [List.mem_singleton] at h1
        exact h1 ▸ hy
    · rw [hr.2, List.length_append, List.length_singleton, List.length_cons]
      omega
theorem yl_tMap {f : α → M Src β} {Q : β → Prop} {l : List α} (h : ∀ x ∈ l, Yl (f x) Q) (hl : l.length ≤ 16777216) : Yl (tMap f l) (fun r => (∀ y ∈ r, Q y) ∧ r.length = l.length) :=
  (yl_map l [] h (fun _ h => nomatch h) (by rw [List.length_nil]; omega)).mono fun r hr => ⟨hr.1, by rw [hr.2, List.length_nil, Nat.zero_add]⟩
/-- a filter whose test is drawn -/
theorem yl_fm {c : α → M Src Bool} {f : α → M Src β} {Q : β → Prop} : ∀ (l : List α) (acc : List β), (∀ x ∈ l, Yl (c x) fun _ => True) → (∀ x ∈ l, Yl (f x) Q) → (∀ y ∈ acc, Q y) → acc.length + l.length ≤ 16777216 → Yl (tLcA (fun x => tb (c x) fun b => if b then tb (f x) fun y => tp (some y) else tp none) l acc) (fun r => (∀ y ∈ r, Q y) ∧ r.length ≤ acc.length + l.length)
  | [], acc, _, _, ha, _ => yl_tp ⟨ha, Nat.le_refl _⟩
  | x :: l, acc, hc, h, ha, hl => by
    rw [List.length_cons] at hl
    unfold tLcA
    refine yl_tb (yl_tq (yl_tb (hc x List.mem_cons_self) fun b _ => (show Yl _ (fun o => o = none ∨ ∃ y, o = some y ∧ Q y) from ?_))) ?_
    · cases b with
      | true => exact yl_tb (h x List.mem_cons_self) fun y hy => yl_tp (.inr ⟨y, rfl, hy⟩)
      | false => exact yl_tp (.inl rfl)
    · rintro o (rfl | ⟨y, rfl, hy⟩)
      · dsimp only
        exact (yl_fm l acc (fun z hz => hc z (List.mem_cons_of_mem _ hz)) (fun z hz => h z (List.mem_cons_of_mem _ hz)) ha (by omega)).mono fun r hr => ⟨hr.1, by rw [List.length_cons]; have := hr.2; omega⟩
      · dsimp only
        rw [if_pos (decide_eq_true (by omega))]
        refine (yl_fm l (acc ++ [y]) (fun z hz => hc z (List.mem_cons_of_mem _ hz)) (fun z hz => h z (List.mem_cons_of_mem _ hz)) (fun z hz => ?_) (by rw [List.length_append, List.length_singleton]; omega)).mono fun r hr => ⟨hr.1, ?_⟩
        · rcases List.mem_append.mp hz with h1 | h1
          · exact ha z h1
          · rw [List.mem_singleton] at h1
            exact h1 ▸ hy
        · have := hr.2
          rw [List.length_append, List.length_singleton] at this
          rw [List.length_cons]
          omega
theorem yl_tFm {c : α → M Src Bool} {f : α → M Src β} {Q : β → Prop} {l : List α} (hc : ∀ x ∈ l, Yl (c x) fun _ => True) (h : ∀ x ∈ l, Yl (f x) Q) (hl : l.length ≤ 16777216) : Yl (tFm c f l) (fun r => (∀ y ∈ r, Q y) ∧ r.length ≤ l.length) :=
  (yl_fm l [] hc h (fun _ h => nomatch h) (by rw [List.length_nil]; omega)).mono fun r hr => ⟨hr.1, by have := hr.2; rw [List.length_nil, Nat.zero_add] at this; exact this⟩
/-- a loop of drawings -/
theorem yl_for {σ : Type} {f : α → σ → M Src σ} (I : Nat → σ → Prop) : ∀ (l : List α) (n : Nat) (st : σ), (∀ x ∈ l, ∀ i st, i < n + l.length → I i st → Yl (f x st) (I (i + 1))) → I n st → Yl (tFor f l st) (I (n + l.length))
  | [], n, st, _, h => yl_tp h
  | x :: l, n, st, hf, h => by
    unfold tFor
    rw [List.length_cons] at hf
    refine yl_tb (hf x List.mem_cons_self n st (by omega) h) fun st2 h2 => ?_
    have := yl_for I l (n + 1) st2 (fun y hy i st hi => hf y (List.mem_cons_of_mem _ hy) i st (by omega)) h2
    rw [List.length_cons, show n + (l.length + 1) = n + 1 + l.length by omega]
    exact this
theorem yl_of_eq {t : M Src α} {x : α} {Q : α → Prop} (h : t = tp x) (hq : Q x) : Yl t Q := by
  rw [h]
  exact yl_tp hq
end
end Dt

set_option Elab.async false
set_option linter.all false
set_option maxRecDepth 100000
/-! plain words for typed functions -/
namespace Dt
open PySem PySem.Spec PyProof.Rows L2 Dy
section
variable {S α β γ σ r : Type}
theorem in62_ok {n : Int} (h0 : 0 ≤ n) (h1 : n ≤ 16777216) : in62 n = true := by
  unfold in62
  simp only [Bool.and_eq_true, decide_eq_true_eq]
  omega
theorem tg_of {c : Bool} {x : α} (h : c = true) : (tg c x : M S α) = tp x := by
  rw [h, tg_true]
theorem tg_sz {n : Nat} {x : α} (h : n ≤ 16777216) : (tg (sizeOk n) x : M S α) = tp x := tg_of (decide_eq_true h)
theorem tg_62 {n : Int} {x : α} (h0 : 0 ≤ n) (h1 : n ≤ 16777216) : (tg (in62 n) x : M S α) = tp x := tg_of (in62_ok h0 h1)
theorem tg_622 {i n : Int} {x : α} (h0 : 0 ≤ i) (h1 : i ≤ 16777216) (h2 : 0 ≤ n) (h3 : n ≤ 16777216) : (tg (in62 i && in62 n) x : M S α) = tp x := tg_of (by rw [in62_ok h0 h1, in62_ok h2 h3]; rfl)
theorem tg_62l {n : Int} {x : α} (h0 : 0 ≤ n) (h1 : n ≤ 16777216) : (tg (in62 n && decide (n ≤ 16777216)) x : M S α) = tp x := tg_of (by rw [in62_ok h0 h1, decide_eq_true h1]; rfl)
theorem tg_lt {a b : Nat} {x : α} (h : a < b) : (tg (decide (a < b)) x : M S α) = tp x := tg_of (decide_eq_true h)
theorem tg_lay {e : β → D} {n : Nat} [EqOk e n] {y : β} {x : α} : (tg (e y).canLay0 x : M S α) = tp x := tg_of (EqOk.lay y)
theorem tg_fdiv {y : Int} {x : α} (h : 0 < y) (h2 : y < 1073741824) : (tg (decide (0 < y) && decide (y < 1073741824)) x : M S α) = tp x := tg_of (by rw [decide_eq_true h, decide_eq_true h2]; rfl)
theorem tg_mod {y : Int} {x : α} (h : 0 < y) : (tg (decide (0 < y)) x : M S α) = tp x := tg_of (decide_eq_true h)
/-- an item of a list of numbers -/
def gd (l : List Int) (i : Int) : Int := l.getD i.toNat 0
theorem atI_some {l : List α} {i : Int} (h0 : 0 ≤ i) (h1 : i < l.length) : atI l i = l[i.toNat]? := by
  unfold atI ixN
  rw [if_pos h0, if_pos h1]
  rfl
theorem to_gd {l : List Int} {i : Int} (h0 : 0 ≤ i) (h1 : i < l.length) : (to (atI l i) : M S Int) = tp (gd l i) := by
  rw [atI_some h0 h1, List.getElem?_eq_getElem (by omega)]
  unfold gd
  rw [List.getD_eq_getElem?_getD, List.getElem?_eq_getElem (by omega), to_some]
  rfl
theorem tApp_ok {l : List α} {x : α} (h : l.length < 16777216) : (tApp l x : M S (List α)) = tp (l ++ [x]) := tg_of (decide_eq_true h)
theorem tExt_ok {l m : List α} (h : l.length + m.length ≤ 16777216) : (tExt l m : M S (List α)) = tp (l ++ m) := tg_of (decide_eq_true h)
theorem tFor_pure {f : α → σ → M S σ} {g : α → σ → σ} (I : Nat → σ → Prop) : ∀ (l : List α) (n : Nat) (st : σ), (∀ x ∈ l, ∀ i st, i < n + l.length → I i st → f x st = tp (g x st) ∧ I (i + 1) (g x st)) → I n st → tFor f l st = tp (l.foldl (fun s x => g x s) st) ∧ I (n + l.length) (l.foldl (fun s x => g x s) st)
  | [], n, st, _, h => ⟨rfl, h⟩
  | x :: l, n, st, hf, h => by
    rw [List.length_cons] at hf
    obtain ⟨h1, h2⟩ := hf x List.mem_cons_self n st (by omega) h
    obtain ⟨h3, h4⟩ := tFor_pure I l (n + 1) (g x st) (fun y hy i st hi => hf y (List.mem_cons_of_mem _ hy) i st (by omega)) h2
    refine ⟨?_, ?_⟩
    · unfold tFor
      rw [h1, tb_tp, h3]
      rfl
    · rw [List.length_cons, show n + (l.length + 1) = n + 1 + l.length by omega]
      exact h4
theorem tForX_first {f : α → Unit → M S (Fw Unit r)} {k : Unit → M S r} {q : α → Option r} {d : r} (hk : k () = tp d) : ∀ (l : List α), (∀ x ∈ l, f x () = tp (match q x with
    | some y => Fw.rt y
    | none => Fw.nx ())) → tbB (tForX f l ()) k = tp ((l.findSome? q).getD d)
  | [], _ => by
    unfold tForX tbB
    rw [tb_tp]
    exact hk
  | x :: l, h => by
    have ih := tForX_first hk l (fun y hy => h y (List.mem_cons_of_mem _ hy))
    unfold tForX tbX tbB
    rw [h x List.mem_cons_self, List.findSome?_cons]
    cases q x with
    | some y =>
      simp only [tb_tp]
      rfl
    | none =>
      simp only [tb_tp]
      exact ih
theorem ivl_length (lo : Int) (n : Nat) : (ivl lo n).length = n := by
  unfold ivl
  rw [List.length_map, List.length_range]
theorem mem_ivl {lo x : Int} {n : Nat} : x ∈ ivl lo n ↔ lo ≤ x ∧ x < lo + n := by
  unfold ivl
  rw [List.mem_map]
  constructor
  · rintro ⟨i, hi, rfl⟩
    rw [List.mem_range] at hi
    omega
  · intro h
    exact ⟨(x - lo).toNat, by rw [List.mem_range]; omega, by omega⟩
theorem filter_nil {p : α → Bool} {l : List α} : decide ((l.filter p).map (fun _ => (1 : Int)) = []) = !l.any p := by
  rw [Bool.eq_iff_iff, decide_eq_true_iff, Bool.not_eq_true', List.map_eq_nil_iff, List.filter_eq_nil_iff, List.any_eq_false]
theorem filter_nil' [DecidableEq α] {p : α → Bool} {l : List α} : decide (l.filter p = []) = !l.any p := by
  rw [Bool.eq_iff_iff, decide_eq_true_iff, Bool.not_eq_true', List.filter_eq_nil_iff, List.any_eq_false]
end
/-! ### a pick -/
section
theorem yl_get {f : Src → Int} {Q : Int → Prop} (h : ∀ s, Q (f s)) : Yl (sGet f) Q := fun s g => ⟨_, s, rfl, g, h s⟩
theorem yl_set {f : Src → Int → Src} {n : Int} (h : ∀ s, (f s n).cells = s.cells) : Yl (sSet f n) (fun _ => True) := fun s g => ⟨(), _, rfl, by unfold Gd; rw [h]; exact g, trivial⟩
theorem yl_while {c : Unit → M Src Bool} {f : Unit → M Src Unit} (hc : ∀ s, ∃ b, c () s = .ok b s ∧ (b = true → 0 < s.cells.length)) (hf : ∀ s, 0 < s.cells.length → ∃ s', f () s = .ok () s' ∧ s'.cells.length < s.cells.length) : ∀ (n k : Nat) (s : Src), s.cells.length ≤ k → k < n → ∃ s', tWhile c f n () s = .ok () s' ∧ s'.cells.length ≤ s.cells.length
  | 0, k, s, _, h => by omega
  | n + 1, k, s, hk, hn => by
    obtain ⟨b, hb, h1⟩ := hc s
    unfold tWhile
    rw [tb_app, hb]
    cases b with
    | false => exact ⟨s, rfl, Nat.le_refl _⟩
    | true =>
      obtain ⟨s1, e1, l1⟩ := hf s (h1 rfl)
      have := h1 rfl
      obtain ⟨s2, e2, l2⟩ := yl_while hc hf n (k - 1) s1 (by omega) (by omega)
      refine ⟨s2, ?_, by omega⟩
      dsimp only
      rw [if_pos rfl, tb_app, e1]
      exact e2
end
end Dt

set_option Elab.async false
set_option linter.all false
set_option maxRecDepth 100000
/-! sorting, in plain words -/
namespace Dt
open PySem PySem.Spec PyProof.Rows L2 Dy
section
variable {α β : Type} {e : α → D}
theorem insA_perm' (le : α → α → Bool) (x : α) : ∀ l : List α, (insA le x l).Perm (x :: l)
  | [] => .refl _
  | y :: r => by
    unfold insA
    split
    · exact .refl _
    · exact (List.Perm.cons y (insA_perm' le x r)).trans (.swap x y r)
theorem isortA_perm' (le : α → α → Bool) : ∀ l : List α, (isortA le l).Perm l
  | [] => .refl _
  | x :: r => (insA_perm' le x (isortA le r)).trans (.cons x (isortA_perm' le r))
theorem sortT_perm (l : List α) : (sortT e l).Perm l := isortA_perm' _ l
theorem mem_sortT {l : List α} {x : α} : x ∈ sortT e l ↔ x ∈ l := (sortT_perm l).mem_iff
theorem length_sortT {l : List α} : (sortT e l).length = l.length := (sortT_perm l).length_eq
theorem le_tupI (x y : List Int) : PySem.W.dataLe false id (eT eI x) (eT eI y) = decide (x ≤ y) := by
  show (!PySem.W.dataLt (.tuple (y.map PyData.int)) (.tuple (x.map PyData.int))) = _
  rw [PySem.W.dataLt_tuple, ← PySem.W.rowLt, PySem.W.dataLt_ints]
  by_cases h : y < x
  · rw [decide_eq_true h, decide_eq_false (fun r => List.not_lt.mpr r h)]
    rfl
  · rw [decide_eq_false h, decide_eq_true (List.not_lt.mp h)]
    rfl
theorem le_int (x y : Int) : PySem.W.dataLe false id (eI x) (eI y) = decide (x ≤ y) := by
  show (!PySem.W.dataLt (.int y) (.int x)) = _
  rw [PySem.W.dataLt_int]
  by_cases h : y < x
  · rw [decide_eq_true h, decide_eq_false (by omega)]
    rfl
  · rw [decide_eq_false h, decide_eq_true (by omega)]
    rfl
theorem sort_two (a b : Int) : sortT eI [a, b] = if a ≤ b then [a, b] else [b, a] := by
  show insA (fun x y => PySem.W.dataLe false id (eI x) (eI y)) a [b] = _
  unfold insA
  rw [le_int]
  by_cases h : a ≤ b
  · rw [decide_eq_true h, if_pos rfl, if_pos h]
  · rw [decide_eq_false h, if_neg Bool.false_ne_true, if_neg h]
    rfl
theorem insA_pw {le : α → α → Bool} (tr : ∀ a b c, le a b = true → le b c = true → le a c = true) (to : ∀ a b, le a b = true ∨ le b a = true) {x : α} : ∀ {l : List α}, l.Pairwise (fun a b => le a b = true) → (insA le x l).Pairwise (fun a b => le a b = true)
  | [], _ => List.pairwise_singleton _ _
  | y :: r, h => by
    have h' := List.pairwise_cons.mp h
    unfold insA
    split
    · rename_i hx
      refine List.pairwise_cons.mpr ⟨fun z hz => ?_, h⟩
      rcases List.mem_cons.mp hz with rfl | hz
      · exact hx
      · exact tr _ _ _ hx (h'.1 z hz)
    · rename_i hx
      refine List.pairwise_cons.mpr ⟨fun z hz => ?_, insA_pw tr to h'.2⟩
      rcases List.mem_cons.mp ((insA_perm' le x r).mem_iff.mp hz) with rfl | hz
      · exact (to z y).resolve_left hx
      · exact h'.1 z hz
theorem isortA_pw {le : α → α → Bool} (tr : ∀ a b c, le a b = true → le b c = true → le a c = true) (to : ∀ a b, le a b = true ∨ le b a = true) : ∀ l : List α, (isortA le l).Pairwise (fun a b => le a b = true)
  | [] => .nil
  | x :: r => insA_pw tr to (isortA_pw tr to r)
theorem sortT_ints (l : List Int) : (sortT eI l).Pairwise (· ≤ ·) := by
  have := isortA_pw (le := fun x y : Int => PySem.W.dataLe false id (eI x) (eI y)) (fun a b c h1 h2 => by
    rw [le_int] at *
    have := of_decide_eq_true h1
    have := of_decide_eq_true h2
    exact decide_eq_true (by omega)) (fun a b => by
    rw [le_int, le_int]
    simp only [decide_eq_true_eq]
    omega) l
  refine this.imp fun {a b} h => ?_
  rw [le_int] at h
  exact of_decide_eq_true h
theorem sortT_tups (l : List (List Int)) : (sortT (eT eI) l).Pairwise (· ≤ ·) := by
  have := isortA_pw (le := fun x y : List Int => PySem.W.dataLe false id (eT eI x) (eT eI y)) (fun a b c h1 h2 => by
    rw [le_tupI] at *
    exact decide_eq_true (List.le_trans (of_decide_eq_true h1) (of_decide_eq_true h2))) (fun a b => by
    rw [le_tupI, le_tupI]
    simp only [decide_eq_true_eq]
    exact List.le_total a b) l
  refine this.imp fun {a b} h => ?_
  rw [le_tupI] at h
  exact of_decide_eq_true h
theorem sort_pairs (l : List (Int × Int)) : (sortT (eP eI eI) l).map pl = sortT (eT eI) (l.map pl) := by
  induction l with
  | nil => rfl
  | cons x l ih =>
    show (insA (fun x y => PySem.W.dataLe false id (eP eI eI x) (eP eI eI y)) x (sortT (eP eI eI) l)).map pl = insA (fun x y => PySem.W.dataLe false id (eT eI x) (eT eI y)) (pl x) (sortT (eT eI) (l.map pl))
    rw [← ih]
    generalize sortT (eP eI eI) l = m
    induction m with
    | nil => rfl
    | cons y m ih2 =>
      rw [List.map_cons]
      unfold insA
      rw [show PySem.W.dataLe false id (eT eI (pl x)) (eT eI (pl y)) = PySem.W.dataLe false id (eP eI eI x) (eP eI eI y) from rfl]
      cases PySem.W.dataLe false id (eP eI eI x) (eP eI eI y) with
      | true => rfl
      | false =>
        rw [if_neg Bool.false_ne_true, if_neg Bool.false_ne_true, List.map_cons, ih2]
theorem all_map_of {p : D → Bool} (h : ∀ x, p (e x) = true) (l : List α) : (l.map e).all p = true := by
  rw [List.all_eq_true]
  intro d hd
  obtain ⟨x, _, rfl⟩ := List.mem_map.mp hd
  exact h x
theorem sortOk_of {n : Nat} [EqOk e n] (hn : n ≤ 64) (l : List α) (h1 : alikeB (l.map e) = true) (h2 : sortable (l.map e) = true) : sortOk (l.map e) = true := by
  unfold sortOk
  rw [h1, h2, layAll_map, all_map_of (p := fun d => decide (d.depth ≤ 64)) (fun x => decide_eq_true (Nat.le_trans (EqOk.dep x) hn))]
  rfl
theorem sortOk_I (l : List Int) : sortOk (l.map eI) = true := sortOk_of (by decide) l (by
  unfold alikeB
  rw [all_map_of (p := isInt) (fun _ => rfl)]
  rfl) (by
  unfold sortable
  rw [all_map_of (p := notNT) (fun _ => rfl), Bool.true_or, Bool.or_true])
theorem sortOk_P (l : List (Int × Int)) : sortOk (l.map (eP eI eI)) = true := sortOk_of (by decide) l (by
  unfold alikeB
  rw [all_map_of (p := isTupI) (fun _ => rfl), Bool.true_or, Bool.or_true, Bool.or_true]) (by
  unfold sortable
  rw [all_map_of (p := isTup1) (fun _ => rfl), Bool.true_or])
theorem sortOk_T (l : List (List Int)) (n : Nat) (h : ∀ o ∈ l, o.length = n) : sortOk (l.map (eT eI)) = true := sortOk_of (by decide) l (by
  unfold alikeB
  rw [all_map_of (p := isTupI) (fun x => by
    show (intsOf (x.map eI)).isSome = true
    rw [intsOf_ints]
    rfl), Bool.true_or, Bool.or_true, Bool.or_true]) (by
  cases l with
  | nil => rfl
  | cons o r =>
    cases n with
    | zero =>
      have : o = [] := List.length_eq_zero_iff.mp (h o List.mem_cons_self)
      subst this
      unfold sortable
      show (_ || (_ || (match (eT eI [] :: r.map (eT eI)) with
        | [] => true
        | [d] => notN d
        | .tuple [] :: r => r.all isTupB
        | _ => false))) = true
      cases r with
      | nil =>
        show (_ || (_ || notN (eT eI []))) = true
        rw [show notN (eT eI []) = true from rfl, Bool.or_true, Bool.or_true]
      | cons p q =>
        show (_ || (_ || ((p :: q).map (eT eI)).all isTupB)) = true
        rw [all_map_of (p := isTupB) (fun _ => rfl), Bool.or_true, Bool.or_true]
    | succ n =>
      have : ((o :: r).map (eT eI)).all isTup1 = true := by
        rw [List.all_eq_true]
        intro d hd
        obtain ⟨x, hx, rfl⟩ := List.mem_map.mp hd
        have := h x hx
        cases x with
        | nil => cases this
        | cons a b => rfl
      unfold sortable
      rw [this, Bool.true_or])
end
end Dt

set_option Elab.async false
set_option linter.all false
set_option maxRecDepth 100000
/-! what repr gives -/
namespace Dt
open PySem PySem.Spec PyProof.Rows L2 Dy
mutual
def okD : D → Bool
  | .none => true
  | .bool _ => true
  | .int i => decide (-999999999999 ≤ i) && decide (i ≤ 999999999999)
  | .tuple l => okDs l
  | .list l => okDs l
  | _ => false
def okDs : List D → Bool
  | [] => true
  | x :: l => okD x && okDs l
end
mutual
def szD : D → Nat
  | .tuple l => szDs l + 3
  | .list l => szDs l + 3
  | _ => 13
def szDs : List D → Nat
  | [] => 0
  | x :: l => szD x + 2 + szDs l
end
theorem strOk_app (a b : Str) : PyData.strOk (a ++ b) = (PyData.strOk a && PyData.strOk b) := by
  unfold PyData.strOk
  show (a.cps ++ b.cps).all _ = _
  rw [Array.all_append]
theorem strOk_join : ∀ ts : List Str, (∀ t ∈ ts, PyData.strOk t = true) → PyData.strOk (Str.join ", " ts) = true
  | [], _ => by kernel_rfl
  | [x], h => h x List.mem_cons_self
  | x :: y :: r, h => by
    show PyData.strOk (x ++ ", " ++ Str.join ", " (y :: r)) = true
    rw [strOk_app, strOk_app, h x List.mem_cons_self, strOk_join (y :: r) fun t ht => h t (List.mem_cons_of_mem _ ht)]
    kernel_rfl
theorem join_len (ts : List Str) : (Str.join ", " ts).length ≤ piled ts := by
  by_cases h : ts = []
  · subst h
    exact Nat.le_refl _
  · have := join_length_add ts h
    omega
theorem strOk_num (i : Int) : PyData.strOk (Str.ofString (toString i)) = true := by
  have h := PySem.W.KSb.asc_num i
  unfold PyData.strOk
  rw [Array.all_eq_true_iff_forall_mem]
  intro x hx
  have := h x (by simpa using hx)
  exact decide_eq_true (by omega)
theorem strOk_tuple {ts : List Str} (h : ∀ t ∈ ts, PyData.strOk t = true) : PyData.strOk (tupleText ts) = true := by
  unfold tupleText
  rw [strOk_app, strOk_app, strOk_join ts h]
  split <;> kernel_rfl
theorem tuple_len (ts : List Str) : (tupleText ts).length ≤ piled ts + 3 := by
  unfold tupleText
  rw [strLen_append, strLen_append]
  have h := join_len ts
  have h1 : ("(" : Str).length = 1 := by kernel_rfl
  have h2 : ((if (ts.length == 1) = true then ",)" else ")" : String) : Str).length ≤ 2 := by
    split
    · exact Nat.le_of_eq (by kernel_rfl)
    · exact Nat.le_trans (Nat.le_of_eq (show ((")" : String) : Str).length = 1 by kernel_rfl)) (by decide)
  omega
theorem sep_ok (k : Nat) : (((if k > 0 then ", " else "" : String)) : Str).length ≤ 2 ∧ PyData.strOk (((if k > 0 then ", " else "" : String)) : Str) = true := by
  split
  · exact ⟨Nat.le_of_eq (by kernel_rfl), by kernel_rfl⟩
  · exact ⟨Nat.le_trans (Nat.le_of_eq (show (("" : String) : Str).length = 0 by kernel_rfl)) (by decide), by kernel_rfl⟩
theorem textFrom_ok : ∀ (ts : List Str) (k : Nat) (acc : Str), (textFrom k acc ts).length ≤ acc.length + piled ts ∧ (PyData.strOk acc = true → (∀ t ∈ ts, PyData.strOk t = true) → PyData.strOk (textFrom k acc ts) = true)
  | [], k, acc => ⟨by rw [piled_nil]; exact Nat.le_refl _, fun h _ => h⟩
  | t :: r, k, acc => by
    obtain ⟨s1, s2⟩ := sep_ok k
    obtain ⟨h1, h2⟩ := textFrom_ok r (k + 1) (acc ++ (if k > 0 then ", " else "" : String) ++ t)
    rw [strLen_append, strLen_append] at h1
    rw [piled_cons]
    refine ⟨by show (textFrom (k + 1) (acc ++ (if k > 0 then ", " else "" : String) ++ t) r).length ≤ _; omega, fun ha ht => ?_⟩
    refine h2 ?_ fun x hx => ht x (List.mem_cons_of_mem _ hx)
    rw [strOk_app, strOk_app, ha, s2, ht t List.mem_cons_self]
    rfl
theorem list_ok {ts : List Str} : (listText ts).length ≤ piled ts + 3 ∧ ((∀ t ∈ ts, PyData.strOk t = true) → PyData.strOk (listText ts) = true) := by
  have h := textFrom_ok ts 0 "["
  have h1 : ("[" : Str).length = 1 := by kernel_rfl
  have h2 : ("]" : Str).length = 1 := by kernel_rfl
  unfold listText
  rw [strLen_append]
  refine ⟨by have := h.1; omega, fun ht => ?_⟩
  rw [strOk_app, h.2 (by kernel_rfl) ht]
  kernel_rfl
theorem log2_small {n : Nat} (h : n ≤ 999999999999) : n.log2 < 1920 := by
  by_cases hz : n = 0
  · rw [hz]
    decide
  · exact Nat.lt_trans ((Nat.log2_lt hz).mpr (show n < 2 ^ 40 by omega)) (by decide)
mutual
theorem shown_ok : ∀ d : D, okD d = true → PyData.strOk d.shown = true ∧ d.shown.length ≤ szD d ∧ d.showable = true ∧ d.hasDict = false ∧ d.canLay0 = true
  | .none, _ => ⟨by kernel_rfl, Nat.le_of_ble_eq_true (by kernel_rfl), rfl, rfl, rfl⟩
  | .bool true, _ => ⟨by kernel_rfl, Nat.le_of_ble_eq_true (by kernel_rfl), rfl, rfl, rfl⟩
  | .bool false, _ => ⟨by kernel_rfl, Nat.le_of_ble_eq_true (by kernel_rfl), rfl, rfl, rfl⟩
  | .int i, h => by
    have h : (decide (-999999999999 ≤ i) && decide (i ≤ 999999999999)) = true := h
    rw [Bool.and_eq_true, decide_eq_true_eq, decide_eq_true_eq] at h
    refine ⟨strOk_num i, PyData.shown_int_le2 h.1 h.2, ?_, rfl, rfl⟩
    show decide (i.natAbs.log2 < 1920) = true
    exact decide_eq_true (log2_small (by omega))
  | .tuple l, h => by
    have ih := shown_oks l h
    refine ⟨?_, ?_, ih.2.2.1, ih.2.2.2.1, ih.2.2.2.2⟩
    · simp only [PyData.shown]
      exact strOk_tuple ih.1
    · simp only [PyData.shown]
      have := tuple_len (PyData.shownAll l)
      show _ ≤ szDs l + 3
      have := ih.2.1
      omega
  | .list l, h => by
    have ih := shown_oks l h
    refine ⟨?_, ?_, ih.2.2.1, ih.2.2.2.1, ih.2.2.2.2⟩
    · simp only [PyData.shown]
      exact list_ok.2 ih.1
    · simp only [PyData.shown]
      have := (list_ok (ts := PyData.shownAll l)).1
      show _ ≤ szDs l + 3
      have := ih.2.1
      omega
  | .str _, h => by cases h
  | .dict _, h => by cases h
theorem shown_oks : ∀ l : List D, okDs l = true → (∀ t ∈ PyData.shownAll l, PyData.strOk t = true) ∧ piled (PyData.shownAll l) ≤ szDs l ∧ PyData.showableAll l = true ∧ PyData.hasDictAll l = false ∧ PyData.canLayAll0 l = true
  | [], _ => ⟨fun _ h => by simp [PyData.shownAll] at h, by simp [PyData.shownAll, piled, szDs], rfl, rfl, rfl⟩
  | x :: l, h => by
    have h : (okD x && okDs l) = true := h
    rw [Bool.and_eq_true] at h
    obtain ⟨a1, a2, a3, a4, a5⟩ := shown_ok x h.1
    obtain ⟨b1, b2, b3, b4, b5⟩ := shown_oks l h.2
    refine ⟨fun t ht => ?_, ?_, ?_, ?_, ?_⟩
    · simp only [PyData.shownAll, List.mem_cons] at ht
      rcases ht with rfl | ht
      · exact a1
      · exact b1 t ht
    · simp only [PyData.shownAll, piled_cons]
      show _ ≤ szD x + 2 + szDs l
      omega
    · show (x.showable && PyData.showableAll l) = true
      rw [a3, b3]
      rfl
    · show (x.hasDict || PyData.hasDictAll l) = false
      rw [a4, b4]
      rfl
    · show (x.canLay0 && PyData.canLayAll0 l) = true
      rw [a5, b5]
      rfl
end
/-- what can be shown -/
def Pr (d : D) : Prop := ∃ x, reprT d = some x ∧ PyData.strOk x = true
theorem pr_int {i : Int} (h : -999999999999 ≤ i ∧ i ≤ 999999999999) : Pr (eI i) := by
  refine ⟨Str.ofString (toString i), ?_, strOk_num i⟩
  unfold reprT reprD
  dsimp only
  rw [if_pos (decide_eq_true (log2_small (by omega)))]
theorem pr_seq {d : D} (h : okD d = true) (hs : szD d ≤ 16777216) (hd : d.depth ≤ 64) (ht : (∃ l, d = .tuple l) ∨ ∃ l, d = .list l) : Pr d := by
  obtain ⟨h1, h2, h3, h4, h5⟩ := shown_ok d h
  have e : Dy.reprOk d = true := by
    unfold Dy.reprOk
    rw [h3, h4, h5, decide_eq_true hd, show Dy.sizeOk d.shown.length = true from decide_eq_true (by omega)]
    rfl
  refine ⟨d.shown, ?_, h1⟩
  rcases ht with ⟨l, rfl⟩ | ⟨l, rfl⟩
  · unfold reprT reprD
    dsimp only
    rw [if_pos e]
  · unfold reprT reprD
    dsimp only
    rw [if_pos e]
/-! the sizes of typed data -/
theorem okDs_map {α : Type} {e : α → D} : ∀ {l : List α}, (∀ x ∈ l, okD (e x) = true) → okDs (l.map e) = true
  | [], _ => rfl
  | x :: l, h => by
    show (okD (e x) && okDs (l.map e)) = true
    rw [h x List.mem_cons_self, okDs_map fun y hy => h y (List.mem_cons_of_mem _ hy)]
    rfl
theorem szDs_map {α : Type} {e : α → D} {B : Nat} : ∀ {l : List α}, (∀ x ∈ l, szD (e x) ≤ B) → szDs (l.map e) ≤ l.length * (B + 2)
  | [], _ => Nat.zero_le _
  | x :: l, h => by
    have h1 := h x List.mem_cons_self
    have h2 := szDs_map fun y hy => h y (List.mem_cons_of_mem _ hy)
    show szD (e x) + 2 + szDs (l.map e) ≤ _
    rw [List.length_cons, Nat.succ_mul]
    omega
theorem prT {α : Type} {e : α → D} {n B : Nat} [EqOk e n] (hn : n ≤ 63) {l : List α} (h : ∀ x ∈ l, okD (e x) = true) (hB : ∀ x ∈ l, szD (e x) ≤ B) (hs : l.length * (B + 2) + 3 ≤ 16777216) : Pr (eT e l) :=
  pr_seq (okDs_map h) (by
    show szDs (l.map e) + 3 ≤ _
    have := szDs_map hB
    omega) (Nat.le_trans (EqOk.dep (e := eT e) l) (Nat.succ_le_succ hn)) (.inl ⟨_, rfl⟩)
/-- two shown things, compared: they are the same -/
theorem repr_ne {S : Type} {d : D} (h : Pr d) : (tb (to (reprT d)) fun x => tb (to (reprT d)) fun y => tg (PyData.strOk x && PyData.strOk y) (!(x == y)) : M S Bool) = tp false := by
  obtain ⟨x, e, h1⟩ := h
  rw [e, to_some, tb_tp, tb_tp, h1, Bool.and_true, tg_true]
  simp
end Dt

set_option Elab.async false
set_option linter.all false
set_option maxRecDepth 100000
set_option maxHeartbeats 0
namespace Dz
open PySem PySem.Spec PyProof.Rows L2 Dy
def top (i : Nat) : Stmt := PySem.Challenge.pw_soonerornot_k64_whole_books_of_sets.main.body.getD i (.Pass ⟨0, 0, 0, 0⟩)
theorem ds_bad {c : CC} {Y : Sy} {st : Stmt} : DS c Y st (fun _ _ => .bad) := fun X W ic tk => ⟨fun pins s σ H D I h => by
  obtain ⟨wi, G, fp, ρ, s, cfg, k⟩ := h
  exact k.elim⟩

structure Zs (mg : Str → Option Value) : Prop where
  z_any : mg "any" = none
  z_enumerate : mg "enumerate" = none
  z_sorted : mg "sorted" = none
  z_range : mg "range" = none
  z_int : mg "int" = none
  z_tuple : mg "tuple" = none
  z_len : mg "len" = none
  z_set : mg "set" = none
  z_all : mg "all" = none
  z_max : mg "max" = none
  z_list : mg "list" = none
  z_zip : mg "zip" = none
  z_isinstance : mg "isinstance" = none
  z_bool : mg "bool" = none
  z_repr : mg "repr" = none
  z_abs : mg "abs" = none
theorem funOf {K : PySem.W.Frag} {x : Str} {st : Stmt} {f : Addr} {fd : FuncData} (F : FunD K x x (defArgs st) (defBody st) (defScope st) [] [] f fd) : Fun K x x st f fd := by
  obtain ⟨⟨oc, od, dV, kV, doc, pm, an, cdv, ct, osl, h1, h2, h3, h4, h5⟩, kp⟩ := F
  have e : dV = Value.none := h4.elim (fun z => z.2) fun z => absurd rfl z.1
  subst e
  exact ⟨⟨oc, od, kV, doc, pm, an, cdv, ct, osl, h1, h2, h3⟩, kp⟩
def b_keeps : MS Src :=
 (sSeq (sAsgG (gT (gsCons (gN 2) (gsCons (gN 3) gsNil))) (eVar 0))
 (sSeq (sIf (tTru (eBi anyD (aCons (eLc [4, 5] (gT (gsCons (gN 4) (gsCons (gN 5) gsNil))) (iSeq (eVar 2)) tYesM (eBin neD (eBin ixAll (eVar 1) (eVar 4)) (eBin ixAll (eVar 1) (eVar 5)))) aNil))) (sSeq (sRet (eC (.bool true)))
 sNil) sNil)
 (sSeq (sRet (eAnd (eBin isNotD (eVar 3) (eC .none)) (eBin leD (eBin ixAll (eVar 1) (eBin ixAll (eVar 3) (eC (.int 0)))) (eBin ixAll (eVar 1) (eBin ixAll (eVar 3) (eC (.int 1)))))))
 sNil)))
def m_keeps : MF Src := mDef 6 b_keeps

def b_first_broken : MS Src :=
 (sSeq (sFor (gT (gsCons (gN 2) (gsCons (gN 3) gsNil))) (iEnumM (aCons (eBin ixAll (eVar 0) (eC (.int 1))) aNil)) (sSeq (sIf (tNot (tTru (eCall 2 m_keeps (aCons (eVar 3) (aCons (eVar 1) aNil))))) (sSeq (sRet (eVar 2))
 sNil) sNil)
 sNil))
 (sSeq (sRet (eC .none))
 sNil))
def m_first_broken : MF Src := mDef 4 b_first_broken

def b_spreads : MS Src :=
 (sSeq (sPar2 3 4 (eLenSet (eVar 0)) (eLst aNil))
 (sSeq (sFor (gN 1) (iRng (aCons (eVar 3) aNil)) (sSeq (sDrop (eMutL 4 fAppend (aCons (eBin addD (eVar 0) (eTup (aCons (eVar 1) aNil))) aNil)))
 sNil))
 (sSeq (sFor (gN 2) (iRng (aCons (eBin addD (eVar 3) (eC (.int 1))) aNil)) (sSeq (sDrop (eMutL 4 fAppend (aCons (eBin addD (eBi tupD (aCons (eLc [1] (gN 1) (iSeq (eVar 0)) tYesM (eBin addD (eVar 1) (eBi intD (aCons (eBin geD (eVar 1) (eVar 2)) aNil)))) aNil)) (eTup (aCons (eVar 2) aNil))) aNil)))
 sNil))
 (sSeq (sRet (eBi sortD (aCons (eVar 4) aNil)))
 sNil))))
def m_spreads : MF Src := mDef 5 b_spreads

def b_orders : MS Src :=
 (sSeq (sAsg 1 (eLst (aCons (eTup aNil) aNil)))
 (sSeq (sFrz 1 (sFor (gN 2) (iRng (aCons (eVar 0) aNil)) (sSeq (sAsg 3 (eLst aNil))
 (sSeq (sFrz 1 (sFor (gN 4) (iSeq (eVar 1)) (sSeq (sDrop (eMutL 3 fExtend (aCons (eCall 1 m_spreads (aCons (eVar 4) aNil)) aNil)))
 sNil)))
 (sSeq (sFrz 3 (sAsg 1 (eVar 3)))
 sNil)))))
 (sSeq (sRet (eBi sortD (aCons (eVar 1) aNil)))
 sNil)))
def m_orders : MF Src := mDef 5 b_orders

def b_ties_of : MS Src :=
 (sSeq (sAsg 1 (eBi lenD (aCons (eVar 0) aNil)))
 (sSeq (sRet (eBi tupD (aCons (eLc2 [2, 3] (gN 2) (iRng (aCons (eVar 1) aNil)) tYesM [3] (gN 3) (iRng (aCons (eBin addD (eVar 2) (eC (.int 1))) (aCons (eVar 1) aNil))) (tBin eqD (eBin ixAll (eVar 0) (eVar 2)) (eBin ixAll (eVar 0) (eVar 3))) (eTup (aCons (eVar 2) (aCons (eVar 3) aNil)))) aNil)))
 sNil))
def m_ties_of : MF Src := mDef 4 b_ties_of

def b_tied_ones : MS Src :=
 (sSeq (sRet (eLc [2] (gN 2) (iSeq (eVar 0)) (tTru (eBi allD (aCons (eLc [3, 4] (gT (gsCons (gN 3) (gsCons (gN 4) gsNil))) (iSeq (eVar 1)) tYesM (eBin eqD (eBin ixAll (eVar 2) (eVar 3)) (eBin ixAll (eVar 2) (eVar 4)))) aNil))) (eVar 2)))
 sNil)
def m_tied_ones : MF Src := mDef 5 b_tied_ones

def b_wanted : MS Src :=
 (sSeq (sAsg 1 (eBi lenD (aCons (eVar 0) aNil)))
 (sSeq (sRet (eLc2 [2, 3] (gN 2) (iRng (aCons (eVar 1) aNil)) tYesM [3] (gN 3) (iRng (aCons (eVar 1) aNil)) (tBin ltI (eBin ixAll (eVar 0) (eVar 3)) (eBin ixAll (eVar 0) (eVar 2))) (eTup (aCons (eVar 2) (aCons (eVar 3) aNil)))))
 sNil))
def m_wanted : MF Src := mDef 4 b_wanted

def b_check_size : MS Src :=
 (sSeq (sIf (tBin gtI (eVar 0) (eVar 1)) (sSeq (fun _ _ => .bad)
 sNil) sNil)
 sNil)
def m_check_size : MF Src := mDef 2 b_check_size

def b_refusing : MS Src :=
 (sSeq (sDrop (eCall 2 m_check_size (aCons (eVar 0) (aCons (eC (.int 5)) aNil))))
 (sSeq (sAsg 3 (eCall 1 m_ties_of (aCons (eVar 2) aNil)))
 (sSeq (sAsg 4 (eCall 2 m_tied_ones (aCons (eVar 1) (aCons (eVar 3) aNil))))
 (sSeq (sFrz 4 (sIf (tNot (tTru (eVar 4))) (sSeq (sRet (eTup (aCons (eVar 3) (aCons (eC .none) aNil))))
 sNil) sNil))
 (sSeq (sFor (gT (gsCons (gN 5) (gsCons (gN 6) gsNil))) (iSeq (eCall 1 m_wanted (aCons (eVar 2) aNil))) (sSeq (sIf (tNot (tTru (eBi anyD (aCons (eLc [7] (gN 7) (iSeq (eVar 4)) tYesM (eBin ltI (eBin ixAll (eVar 7) (eVar 6)) (eBin ixAll (eVar 7) (eVar 5)))) aNil)))) (sSeq (sRet (eTup (aCons (eVar 3) (aCons (eTup (aCons (eVar 5) (aCons (eVar 6) aNil))) aNil))))
 sNil) sNil)
 sNil))
 (sSeq (sRet (eC .none))
 sNil))))))
def m_refusing : MF Src := mDef 8 b_refusing

def b_hull : MS Src :=
 (sSeq (sDrop (eCall 2 m_check_size (aCons (eVar 0) (aCons (eC (.int 4)) aNil))))
 (sSeq (sRet (eBi tupD (aCons (eLc [2] (gN 2) (iSeq (eCall 1 m_orders (aCons (eVar 0) aNil))) (tBin isD (eCall 3 m_refusing (aCons (eVar 0) (aCons (eVar 1) (aCons (eVar 2) aNil)))) (eC .none)) (eVar 2)) aNil)))
 sNil))
def m_hull : MF Src := mDef 3 b_hull

def b_passes : MS Src :=
 (sSeq (sRet (eBin eqD (eCall 2 m_hull (aCons (eVar 0) (aCons (eVar 1) aNil))) (eBi tupD (aCons (eVar 1) aNil))))
 sNil)
def m_passes : MF Src := mDef 2 b_passes

def b_book_of : MS Src :=
 (sSeq (sDrop (eCall 2 m_check_size (aCons (eVar 0) (aCons (eC (.int 4)) aNil))))
 (sSeq (sAsg 2 (eLst aNil))
 (sSeq (sFor (gN 3) (iSeq (eCall 1 m_orders (aCons (eVar 0) aNil))) (sSeq (sAsg 4 (eCall 3 m_refusing (aCons (eVar 0) (aCons (eVar 1) (aCons (eVar 3) aNil)))))
 (sSeq (sIf (tAnd (tBin isNotD (eVar 4) (eC .none)) (tBin notInAll (eVar 4) (eVar 2))) (sSeq (sDrop (eMutL 2 fAppend (aCons (eVar 4) aNil)))
 sNil) sNil)
 sNil)))
 (sSeq (sRet (eTup (aCons (eVar 0) (aCons (eBi tupD (aCons (eVar 2) aNil)) aNil))))
 sNil))))
def m_book_of : MF Src := mDef 5 b_book_of

def b_said : MS Src :=
 (sSeq (sDrop (eCall 2 m_check_size (aCons (eBin ixAll (eVar 0) (eC (.int 0))) (aCons (eC (.int 4)) aNil))))
 (sSeq (sRet (eBi tupD (aCons (eLc [1] (gN 1) (iSeq (eCall 1 m_orders (aCons (eBin ixAll (eVar 0) (eC (.int 0))) aNil))) (tBin isD (eCall 2 m_first_broken (aCons (eVar 0) (aCons (eVar 1) aNil))) (eC .none)) (eVar 1)) aNil)))
 sNil))
def m_said : MF Src := mDef 2 b_said

def b__law_pick : MS Src :=
 (sSeq (sWhile 100 (tAnd (tBin gtI (eVar 1) (eC (.int 1))) (tAnd (tBin ltI (eSrc 0 Src.left) (eC (.int 2))) (tBin gtI (eSrcLen 0) (eC (.int 0))))) (sSeq (sSrc 0 setLeft (eSrcPop 0))
 sNil))
 (sSeq (sAsg 2 (eSrc 0 Src.left))
 (sSeq (sIf (tOr (tBin ltI (eVar 1) (eC (.int 2))) (tBin gtI (eVar 2) (eC (.int 1)))) (sSeq (sSrc 0 setLeft (eBin fdivD (eVar 2) (eBi max2D (aCons (eC (.int 1)) (aCons (eVar 1) aNil)))))
 (sSeq (sRet (eBin modD (eBi intD (aCons (eVar 2) aNil)) (eBi max2D (aCons (eC (.int 1)) (aCons (eVar 1) aNil)))))
 sNil)) sNil)
 (sSeq (sSrc 0 setTurn (eBin addD (eSrc 0 Src.turn) (eC (.int 1))))
 (sSeq (sAsg 3 (eBin modD (eBi intD (aCons (eBin addD (eSrc 0 Src.mixed) (eBin mulD (eSrc 0 Src.turn) (eC (.int 104729)))) aNil)) (eC (.int 998244353))))
 (sSeq (sAsg 3 (eBin modD (eBi intD (aCons (eBin addD (eBin mulD (eVar 3) (eVar 3)) (eBin mulD (eSrc 0 Src.turn) (eC (.int 17)))) aNil)) (eC (.int 2147483647))))
 (sSeq (sSrc 0 setMixed (eVar 3))
 (sSeq (sRet (eBin modD (eBi intD (aCons (eBin fdivD (eVar 3) (eC (.int 16))) aNil)) (eVar 1)))
 sNil))))))))
def m__law_pick : MF Src := mDef 4 b__law_pick

def b__law_orders : MS Src :=
 (sSeq (sAsg 1 (eLst (aCons (eTup aNil) aNil)))
 (sSeq (sFrz 1 (sFor (gN 2) (iRng (aCons (eVar 0) aNil)) (sSeq (sAsg 3 (eLst aNil))
 (sSeq (sFrz 1 (sFor (gN 4) (iSeq (eVar 1)) (sSeq (sAsg 5 (eBin addD (eC (.int 1)) (eBi maxD1 (aCons (eBin addD (eLst (aCons (eUn negD (eC (.int 1))) aNil)) (eBi listD (aCons (eVar 4) aNil))) aNil))))
 (sSeq (sAsg 3 (eBin addD (eVar 3) (eLc [7] (gN 7) (iRng (aCons (eVar 5) aNil)) tYesM (eBin addD (eVar 4) (eTup (aCons (eVar 7) aNil))))))
 (sSeq (sFor (gN 6) (iRng (aCons (eBin addD (eVar 5) (eC (.int 1))) aNil)) (sSeq (sDrop (eMutL 3 fAppend (aCons (eBin addD (eBi tupD (aCons (eLc [8] (gN 8) (iSeq (eVar 4)) tYesM (eBin addD (eVar 8) (eBi intD (aCons (eBin geD (eVar 8) (eVar 6)) aNil)))) aNil)) (eTup (aCons (eVar 6) aNil))) aNil)))
 sNil))
 sNil)))))
 (sSeq (sFrz 3 (sAsg 1 (eVar 3)))
 sNil)))))
 (sSeq (sRet (eBi sortD (aCons (eVar 1) aNil)))
 sNil)))
def m__law_orders : MF Src := mDef 9 b__law_orders

def b__law_mixed : MS Src :=
 (sSeq (sAsg 2 (eBi listD (aCons (eVar 1) aNil)))
 (sSeq (sRet (eLc [3] (gN 3) (iRng (aCons (eBi lenD (aCons (eVar 2) aNil)) aNil)) tYesM (eMutL 2 fPopAt (aCons (eCall 2 m__law_pick (aCons (eVar 0) (aCons (eBi lenD (aCons (eVar 2) aNil)) aNil))) aNil))))
 sNil))
def m__law_mixed : MF Src := mDef 4 b__law_mixed

def b__law_of : MS Src :=
 (sSeq (sRet (eBin ixAll (eVar 1) (eCall 2 m__law_pick (aCons (eVar 0) (aCons (eBi lenD (aCons (eVar 1) aNil)) aNil)))))
 sNil)
def m__law_of : MF Src := mDef 2 b__law_of

def b__law_draw_placing : MS Src :=
 (sSeq (sAsg 2 (eCall 2 m__law_of (aCons (eVar 0) (aCons (eLst (aCons (eC (.int 2)) (aCons (eC (.int 3)) (aCons (eBin addD (eVar 1) (eC (.int 1))) (aCons (eBin powD (eC (.int 10)) (eC (.int 8))) aNil))))) aNil))))
 (sSeq (sRet (eBi tupD (aCons (eLc [3] (gN 3) (iRng (aCons (eVar 1) aNil)) tYesM (eBin subD (eCall 2 m__law_pick (aCons (eVar 0) (aCons (eVar 2) aNil))) (eBin fdivD (eVar 2) (eC (.int 3))))) aNil)))
 sNil))
def m__law_draw_placing : MF Src := mDef 4 b__law_draw_placing

def b__law_draw_saying : MS Src :=
 (sSeq (sPar2 4 5 (eLst aNil) (eSl (eCall 2 m__law_mixed (aCons (eVar 0) (aCons (eLstRg (aCons (eVar 1) aNil)) aNil))) oNo (oPart (eC (.int 2)))))
 (sSeq (sFor (gN 3) (iRng (aCons (eCall 2 m__law_of (aCons (eVar 0) (aCons (eLst (aCons (eC (.int 0)) (aCons (eC (.int 0)) (aCons (eC (.int 1)) (aCons (eCall 2 m__law_pick (aCons (eVar 0) (aCons (eBin addD (eVar 2) (eC (.int 1))) aNil))) aNil))))) aNil))) aNil)) (sSeq (sAsg 6 (eBi tupD (aCons (eBi sortD (aCons (eSl (eCall 2 m__law_mixed (aCons (eVar 0) (aCons (eLstRg (aCons (eVar 1) aNil)) aNil))) oNo (oPart (eC (.int 2)))) aNil)) aNil)))
 (sSeq (sAsg 4 (eBin addD (eVar 4) (eBin mulD (eLst (aCons (eVar 6) aNil)) (eBi intD (aCons (eBin notInAll (eVar 6) (eVar 4)) aNil)))))
 sNil)))
 (sSeq (sRet (eTup (aCons (eBi tupD (aCons (eBi sortD (aCons (eVar 4) aNil)) aNil)) (aCons (eIf (tBin gtI (eCall 2 m__law_pick (aCons (eVar 0) (aCons (eC (.int 6)) aNil))) (eC (.int 0))) (eBi tupD (aCons (eVar 5) aNil)) (eC .none)) aNil))))
 sNil)))
def m__law_draw_saying : MF Src := mDef 7 b__law_draw_saying

def b__law_keeps : MS Src :=
 (sSeq (sAsgG (gT (gsCons (gN 2) (gsCons (gN 3) gsNil))) (eVar 0))
 (sSeq (sIf (tBin neD (eLc [4, 5] (gT (gsCons (gN 4) (gsCons (gN 5) gsNil))) (iSeq (eVar 2)) (tBin neD (eBin ixAll (eVar 1) (eVar 4)) (eBin ixAll (eVar 1) (eVar 5))) (eC (.int 1))) (eLst aNil)) (sSeq (sRet (eC (.bool true)))
 sNil) sNil)
 (sSeq (sRet (eAnd (eBin isNotD (eVar 3) (eC .none)) (eBin leD (eBin ixAll (eVar 1) (eBin ixAll (eVar 3) (eC (.int 0)))) (eBin ixAll (eVar 1) (eBin ixAll (eVar 3) (eC (.int 1)))))))
 sNil)))
def m__law_keeps : MF Src := mDef 6 b__law_keeps

def b__law_draw_book : MS Src :=
 (sSeq (sPar3 4 5 6 (eCall 2 m__law_draw_placing (aCons (eVar 0) (aCons (eVar 1) aNil))) (eLst aNil) (eCall 2 m__law_pick (aCons (eVar 0) (aCons (eC (.int 4)) aNil))))
 (sSeq (sFor (gN 3) (iRng (aCons (eCall 2 m__law_pick (aCons (eVar 0) (aCons (eBin addD (eVar 2) (eC (.int 1))) aNil))) aNil)) (sSeq (sAsg 7 (eCall 3 m__law_draw_saying (aCons (eVar 0) (aCons (eVar 1) (aCons (eC (.int 2)) aNil)))))
 (sSeq (sIf (tAnd (tBin ltI (eVar 6) (eC (.int 2))) (tNot (tTru (eCall 2 m__law_keeps (aCons (eVar 7) (aCons (eVar 4) aNil)))))) (sSeq (sAsgG (gT (gsCons (gN 11) (gsCons (gN 12) gsNil))) (eVar 7))
 (sSeq (sAsg 10 (eIf (tBin leD (eBin ixAll (eVar 4) (eC (.int 0))) (eBin ixAll (eVar 4) (eC (.int 1)))) (eTup (aCons (eC (.int 0)) (aCons (eC (.int 1)) aNil))) (eTup (aCons (eC (.int 1)) (aCons (eC (.int 0)) aNil)))))
 (sSeq (sAsg 7 (eTup (aCons (eVar 11) (aCons (eIf (tBin isNotD (eVar 12) (eC .none)) (eUn revD (eVar 12)) (eVar 10)) aNil))))
 sNil))) sNil)
 (sSeq (sDrop (eMutL 5 fAppend (aCons (eVar 7) aNil)))
 sNil))))
 (sSeq (sIf (tBin eqD (eVar 6) (eC (.int 3))) (sSeq (sAsg 8 (eSl (eCall 2 m__law_mixed (aCons (eVar 0) (aCons (eLstRg (aCons (eVar 1) aNil)) aNil))) oNo (oPart (eBin addD (eC (.int 2)) (eCall 2 m__law_pick (aCons (eVar 0) (aCons (eBin subD (eVar 1) (eC (.int 1))) aNil)))))))
 (sSeq (sFrz 8 (sAsg 9 (eBin addD (eLc [13, 14] (gT (gsCons (gN 13) (gsCons (gN 14) gsNil))) (iZip (aCons (eVar 8) (aCons (eBin addD (eSl (eVar 8) (oPart (eC (.int 1))) oNo) (eSl (eVar 8) oNo (oPart (eC (.int 1))))) aNil))) tYesM (eTup (aCons (eTup aNil) (aCons (eTup (aCons (eVar 13) (aCons (eVar 14) aNil))) aNil)))) (eLst (aCons (eTup (aCons (eTup (aCons (eBi tupD (aCons (eBi sortD (aCons (eSl (eVar 8) oNo (oPart (eC (.int 2)))) aNil)) aNil)) aNil)) (aCons (eC .none) aNil))) aNil)))))
 (sSeq (sAsg 5 (eCall 2 m__law_mixed (aCons (eVar 0) (aCons (eBin addD (eSl (eVar 5) oNo (oPart (eBi max2D (aCons (eC (.int 0)) (aCons (eBin subD (eVar 2) (eBi lenD (aCons (eVar 9) aNil))) aNil))))) (eVar 9)) aNil))))
 sNil))) sNil)
 (sSeq (sRet (eTup (aCons (eVar 1) (aCons (eBi tupD (aCons (eVar 5) aNil)) aNil))))
 sNil))))
def m__law_draw_book : MF Src := mDef 15 b__law_draw_book

def b__law_keeps_all : MS Src :=
 (sSeq (sRet (eBin eqD (eLc [2] (gN 2) (iSeq (eVar 0)) (tNot (tTru (eCall 2 m__law_keeps (aCons (eVar 2) (aCons (eVar 1) aNil))))) (eVar 2)) (eLst aNil)))
 sNil)
def m__law_keeps_all : MF Src := mDef 3 b__law_keeps_all

def b__law_draw_set : MS Src :=
 (sSeq (sPar2 5 6 (eCall 2 m__law_pick (aCons (eVar 0) (aCons (eC (.int 4)) aNil))) (eCall 1 m__law_orders (aCons (eVar 1) aNil)))
 (sSeq (sFrz 6 (sIf (tBin eqD (eVar 5) (eC (.int 0))) (sSeq (sRet (eBi tupD (aCons (eBi sortD (aCons (eSl (eCall 2 m__law_mixed (aCons (eVar 0) (aCons (eVar 6) aNil))) oNo (oPart (eCall 2 m__law_pick (aCons (eVar 0) (aCons (eC (.int 6)) aNil))))) aNil)) aNil)))
 sNil) sNil))
 (sSeq (sIf (tOr (tBin eqD (eVar 5) (eC (.int 1))) (tBin ltI (eVar 1) (eC (.int 2)))) (sSeq (sRet (eBi tupD (aCons (eLc [7] (gN 7) (iSeq (eVar 6)) (tBin gtI (eCall 2 m__law_pick (aCons (eVar 0) (aCons (eC (.int 3)) aNil))) (eC (.int 0))) (eVar 7)) aNil)))
 sNil) sNil)
 (sSeq (sAsg 2 (eCall 3 m__law_draw_book (aCons (eVar 0) (aCons (eVar 1) (aCons (eC (.int 5)) aNil)))))
 (sSeq (sAsg 3 (eLc [7] (gN 7) (iSeq (eVar 6)) (tTru (eCall 2 m__law_keeps_all (aCons (eBin ixAll (eVar 2) (eC (.int 1))) (aCons (eVar 7) aNil)))) (eVar 7)))
 (sSeq (sFrz 3 (sAsg 4 (eIf (tAnd (tBin eqD (eVar 5) (eC (.int 3))) (tBin neD (eVar 3) (eLst aNil))) (eCall 2 m__law_of (aCons (eVar 0) (aCons (eVar 3) aNil))) (eC .none))))
 (sSeq (sRet (eBi tupD (aCons (eLc [7] (gN 7) (iSeq (eVar 3)) (tBin neD (eVar 7) (eVar 4)) (eVar 7)) aNil)))
 sNil)))))))
def m__law_draw_set : MF Src := mDef 8 b__law_draw_set

def b__law_is_integers : MS Src :=
 (sSeq (sIf (tOr (tNot (tTru (eUn (isiD PyData.isTuple) (eVar 0)))) (tBin neD (eBi lenD (aCons (eVar 0) aNil)) (eVar 1))) (sSeq (sRet (eC (.bool false)))
 sNil) sNil)
 (sSeq (sRet (eBin eqD (eLc [2] (gN 2) (iSeq (eVar 0)) (tOr (tTru (eUn (isiD PyData.isBool) (eVar 2))) (tNot (tTru (eUn (isiD PyData.isInt) (eVar 2))))) (eVar 2)) (eLst aNil)))
 sNil))
def m__law_is_integers : MF Src := mDef 3 b__law_is_integers

def b__law_row_numbers : MS Src :=
 (sSeq (sRet (eAnd (eCall 2 m__law_is_integers (aCons (eVar 0) (aCons (eVar 1) aNil))) (eBin eqD (eLc [2] (gN 2) (iSeq (eVar 0)) (tBin ltI (eVar 2) (eC (.int 0))) (eVar 2)) (eLst aNil))))
 sNil)
def m__law_row_numbers : MF Src := mDef 3 b__law_row_numbers

def b__law_is_saying : MS Src :=
 (sSeq (sIf (tOr (tNot (tTru (eUn (isiD PyData.isTuple) (eVar 1)))) (tOr (tBin neD (eBi lenD (aCons (eVar 1) aNil)) (eC (.int 2))) (tNot (tTru (eUn (isiD PyData.isTuple) (eBin ixAll (eVar 1) (eC (.int 0)))))))) (sSeq (sRet (eC (.bool false)))
 sNil) sNil)
 (sSeq (sFor (gN 2) (iSeq (eBin ixAll (eVar 1) (eC (.int 0)))) (sSeq (sIf (tOr (tNot (tTru (eCall 2 m__law_row_numbers (aCons (eVar 2) (aCons (eC (.int 2)) aNil))))) (tNot (tOf (eChain ltI ltI (eBin ixAll (eVar 2) (eC (.int 0))) (eBin ixAll (eVar 2) (eC (.int 1))) (eVar 0))))) (sSeq (sRet (eC (.bool false)))
 sNil) sNil)
 sNil))
 (sSeq (sIf (tBin neD (eLc [4] (gN 4) (iRng (aCons (eC (.int 1)) (aCons (eBi lenD (aCons (eBin ixAll (eVar 1) (eC (.int 0))) aNil)) aNil))) (tBin geD (eBin ixAll (eBin ixAll (eVar 1) (eC (.int 0))) (eBin subD (eVar 4) (eC (.int 1)))) (eBin ixAll (eBin ixAll (eVar 1) (eC (.int 0))) (eVar 4))) (eVar 4)) (eLst aNil)) (sSeq (sRet (eC (.bool false)))
 sNil) sNil)
 (sSeq (sAsg 3 (eBin ixAll (eVar 1) (eC (.int 1))))
 (sSeq (sRet (eOr (eBin isD (eVar 3) (eC .none)) (eAnd (eCall 2 m__law_row_numbers (aCons (eVar 3) (aCons (eC (.int 2)) aNil))) (eAnd (eBin neD (eBin ixAll (eVar 3) (eC (.int 0))) (eBin ixAll (eVar 3) (eC (.int 1)))) (eBin ltI (eBi maxD1 (aCons (eVar 3) aNil)) (eVar 0))))))
 sNil)))))
def m__law_is_saying : MF Src := mDef 5 b__law_is_saying

def b__law_ties_of : MS Src :=
 (sSeq (sAsg 1 (eLst aNil))
 (sSeq (sFor (gN 2) (iRng (aCons (eBi lenD (aCons (eVar 0) aNil)) aNil)) (sSeq (sAsg 1 (eBin addD (eVar 1) (eLc [3] (gN 3) (iRng (aCons (eBin addD (eVar 2) (eC (.int 1))) (aCons (eBi lenD (aCons (eVar 0) aNil)) aNil))) (tBin eqD (eBin ixAll (eVar 0) (eVar 2)) (eBin ixAll (eVar 0) (eVar 3))) (eTup (aCons (eVar 2) (aCons (eVar 3) aNil))))))
 sNil))
 (sSeq (sRet (eBi tupD (aCons (eVar 1) aNil)))
 sNil)))
def m__law_ties_of : MF Src := mDef 4 b__law_ties_of

def b__law_near : MS Src :=
 (sSeq (sAsg 2 (eCall 1 m__law_ties_of (aCons (eVar 1) aNil)))
 (sSeq (sRet (eLc [3] (gN 3) (iSeq (eVar 0)) (tBin eqD (eLc [4, 5] (gT (gsCons (gN 4) (gsCons (gN 5) gsNil))) (iSeq (eVar 2)) (tBin neD (eBin ixAll (eVar 3) (eVar 4)) (eBin ixAll (eVar 3) (eVar 5))) (eC (.int 1))) (eLst aNil)) (eVar 3)))
 sNil))
def m__law_near : MF Src := mDef 6 b__law_near

def b__law_earlier : MS Src :=
 (sSeq (sAsg 1 (eLst aNil))
 (sSeq (sFor (gN 2) (iRng (aCons (eBi lenD (aCons (eVar 0) aNil)) aNil)) (sSeq (sAsg 1 (eBin addD (eVar 1) (eLc [3] (gN 3) (iRng (aCons (eBi lenD (aCons (eVar 0) aNil)) aNil)) (tBin ltI (eBin ixAll (eVar 0) (eVar 3)) (eBin ixAll (eVar 0) (eVar 2))) (eTup (aCons (eVar 2) (aCons (eVar 3) aNil))))))
 sNil))
 (sSeq (sRet (eVar 1))
 sNil)))
def m__law_earlier : MF Src := mDef 4 b__law_earlier

def b__law_is_refused : MS Src :=
 (sSeq (sAsg 2 (eCall 2 m__law_near (aCons (eVar 0) (aCons (eVar 1) aNil))))
 (sSeq (sFrz 2 (sIf (tBin eqD (eVar 2) (eLst aNil)) (sSeq (sRet (eC (.bool true)))
 sNil) sNil))
 (sSeq (sFor (gT (gsCons (gN 3) (gsCons (gN 4) gsNil))) (iSeq (eCall 1 m__law_earlier (aCons (eVar 1) aNil))) (sSeq (sIf (tBin eqD (eLc [5] (gN 5) (iSeq (eVar 2)) (tBin ltI (eBin ixAll (eVar 5) (eVar 4)) (eBin ixAll (eVar 5) (eVar 3))) (eVar 5)) (eLst aNil)) (sSeq (sRet (eC (.bool true)))
 sNil) sNil)
 sNil))
 (sSeq (sRet (eC (.bool false)))
 sNil))))
def m__law_is_refused : MF Src := mDef 6 b__law_is_refused

def b__law_hull : MS Src :=
 (sSeq (sRet (eBi tupD (aCons (eLc [2] (gN 2) (iSeq (eCall 1 m__law_orders (aCons (eVar 0) aNil))) (tNot (tTru (eCall 2 m__law_is_refused (aCons (eVar 1) (aCons (eVar 2) aNil))))) (eVar 2)) aNil)))
 sNil)
def m__law_hull : MF Src := mDef 3 b__law_hull

def b_law : MS Src :=
 (sSeq (sFor (gN 2) (iRng (aCons (eC (.int 7)) aNil)) (sSeq (sAsg 3 (eBin ixAll (eLst (aCons (eC (.int 0)) (aCons (eC (.int 1)) (aCons (eC (.int 2)) (aCons (eC (.int 3)) (aCons (eC (.int 3)) (aCons (eC (.int 4)) (aCons (eC (.int 4)) aNil)))))))) (eVar 2)))
 (sSeq (sAsg 4 (eCall 2 m__law_draw_set (aCons (eVar 1) (aCons (eVar 3) aNil))))
 (sSeq (sAsgG (gT (gsCons (gN 7) (gsCons (gN 8) gsNil))) (eTup (aCons (eCall 2 m_book_of (aCons (eVar 3) (aCons (eVar 4) aNil))) (aCons (eBi reprD (aCons (eVar 4) aNil)) aNil))))
 (sSeq (sIf (tOr (tNot (tTru (eUn (isiD PyData.isTuple) (eVar 7)))) (tOr (tBin neD (eBi lenD (aCons (eVar 7) aNil)) (eC (.int 2))) (tOr (tBin neD (eBi reprD (aCons (eBin ixAll (eVar 7) (eC (.int 0))) aNil)) (eBi reprD (aCons (eVar 3) aNil))) (tNot (tTru (eUn (isiD PyData.isTuple) (eBin ixAll (eVar 7) (eC (.int 1))))))))) (sSeq (sRet (eC (.bool false)))
 sNil) sNil)
 (sSeq (sIf (tOr (tBin neD (eLc [10] (gN 10) (iSeq (eBin ixAll (eVar 7) (eC (.int 1)))) (tNot (tTru (eCall 2 m__law_is_saying (aCons (eVar 3) (aCons (eVar 10) aNil))))) (eVar 10)) (eLst aNil)) (tBin neD (eBi reprD (aCons (eVar 4) aNil)) (eVar 8))) (sSeq (sRet (eC (.bool false)))
 sNil) sNil)
 (sSeq (sAsg 5 (eCall 2 m__law_hull (aCons (eVar 3) (aCons (eVar 4) aNil))))
 (sSeq (sIf (tBin neD (eBi tupD (aCons (eLc [9] (gN 9) (iSeq (eCall 1 m__law_orders (aCons (eVar 3) aNil))) (tTru (eCall 2 m__law_keeps_all (aCons (eBin ixAll (eVar 7) (eC (.int 1))) (aCons (eVar 9) aNil)))) (eVar 9)) aNil)) (eVar 5)) (sSeq (sRet (eC (.bool false)))
 sNil) sNil)
 (sSeq (sIf (tOr (tBin neD (eBi reprD (aCons (eCall 1 m_said (aCons (eVar 7) aNil)) aNil)) (eBi reprD (aCons (eVar 5) aNil))) (tBin neD (eBi reprD (aCons (eCall 2 m_book_of (aCons (eVar 3) (aCons (eVar 4) aNil))) aNil)) (eBi reprD (aCons (eVar 7) aNil)))) (sSeq (sRet (eC (.bool false)))
 sNil) sNil)
 (sSeq (sAsg 6 (eCall 3 m__law_draw_book (aCons (eVar 1) (aCons (eBi max2D (aCons (eC (.int 2)) (aCons (eVar 3) aNil))) (aCons (eC (.int 6)) aNil)))))
 (sSeq (sAsg 6 (eTup (aCons (eBin ixAll (eVar 6) (eC (.int 0))) (aCons (eBin addD (eBin ixAll (eVar 6) (eC (.int 1))) (eTup (aCons (eCall 3 m__law_draw_saying (aCons (eVar 1) (aCons (eBin ixAll (eVar 6) (eC (.int 0))) (aCons (eC (.int 4)) aNil)))) aNil))) aNil))))
 (sSeq (sAsg 5 (eBi tupD (aCons (eLc [9] (gN 9) (iSeq (eCall 1 m__law_orders (aCons (eBin ixAll (eVar 6) (eC (.int 0))) aNil))) (tTru (eCall 2 m__law_keeps_all (aCons (eBin ixAll (eVar 6) (eC (.int 1))) (aCons (eVar 9) aNil)))) (eVar 9)) aNil)))
 (sSeq (sIf (tOr (tBin neD (eBi reprD (aCons (eCall 1 m_said (aCons (eVar 6) aNil)) aNil)) (eBi reprD (aCons (eVar 5) aNil))) (tBin isNotD (eCall 2 m_passes (aCons (eBin ixAll (eVar 6) (eC (.int 0))) (aCons (eVar 5) aNil))) (eC (.bool true)))) (sSeq (sRet (eC (.bool false)))
 sNil) sNil)
 sNil)))))))))))))
 (sSeq (sRet (eAnd (eBin eqD (eCall 1 m_said (aCons (eTup (aCons (eC (.int 0)) (aCons (eTup aNil) aNil))) aNil)) (eTup (aCons (eTup aNil) aNil))) (eAnd (eBin eqD (eCall 1 m_said (aCons (eTup (aCons (eC (.int 1)) (aCons (eTup (aCons (eTup (aCons (eTup aNil) (aCons (eC .none) aNil))) aNil)) aNil))) aNil)) (eTup aNil)) (eBin eqD (eCall 1 m_said (aCons (eTup (aCons (eC (.int 2)) (aCons (eTup (aCons (eTup (aCons (eTup aNil) (aCons (eTup (aCons (eC (.int 0)) (aCons (eC (.int 1)) aNil))) aNil))) aNil)) aNil))) aNil)) (eTup (aCons (eTup (aCons (eC (.int 0)) (aCons (eC (.int 0)) aNil))) (aCons (eTup (aCons (eC (.int 0)) (aCons (eC (.int 1)) aNil))) aNil)))))))
 sNil))

section
variable {P : Program} {w : World} {K : PySem.W.Frag} {mg : Str → Option Value} {base : Heap}
abbrev s_keeps : Stmt := top 4
theorem d_keeps (z : Zs mg) {f : Addr} {fd : FuncData} (F : FunD K "keeps" "keeps" (defArgs s_keeps) (defBody s_keeps) (defScope s_keeps) [] [] f fd) (hg : mg "keeps" = some (.ref f)) : FnD P w K mg base 1 "keeps" 2 srcY m_keeps :=
  fnD_mk (N := ["saying", "placing", "ties", "head", "a", "b"]) (k := 0) (st := s_keeps) (funOf F) hg (F.bindsN (ps := ["saying", "placing"]) fun _ _ _ _ _ _ us hl => match us, hl with | [_, _], _ => rfl) ⟨rfl, rfl, rfl, by decide +kernel, rfl, by decide +kernel, by decide +kernel⟩ (show DSs _ srcY _ b_keeps from
 (dss_cons (ds_asgG (de_var 0) (dg_t (dgs_cons (dg_n 2) (dgs_cons (dg_n 3) dgs_nil))))
 (dss_cons (ds_if (dt_tru (de_any (da_cons (de_lc (own := [("a", 4), ("b", 5)]) (hb := by first | rfl | kernel_rfl) (di_seq (de_var 2)) (dg_t (dgs_cons (dg_n 4) (dgs_cons (dg_n 5) dgs_nil))) dts_nil (de_ne (de_ix (de_var 1) (de_var 4)) (de_ix (de_var 1) (de_var 5)))) da_nil) (hm := z.z_any))) (dss_cons (ds_ret de_bl)
 dss_nil) dss_nil)
 (dss_cons (ds_ret (de_and (de_isNot (de_var 3) de_non) (de_one (de_le (de_ix (de_var 1) (de_ix (de_var 3) de_int)) (de_ix (de_var 1) (de_ix (de_var 3) de_int))))))
 dss_nil))))

abbrev s_first_broken : Stmt := top 5
theorem d_first_broken (z : Zs mg) {f : Addr} {fd : FuncData} (F : FunD K "first_broken" "first_broken" (defArgs s_first_broken) (defBody s_first_broken) (defScope s_first_broken) [] [] f fd) (hg : mg "first_broken" = some (.ref f)) (F_keeps : FnD P w K mg base 1 "keeps" 2 srcY m_keeps) : FnD P w K mg base 2 "first_broken" 2 srcY m_first_broken :=
  fnD_mk (N := ["book", "placing", "number", "saying"]) (k := 1) (st := s_first_broken) (funOf F) hg (F.bindsN (ps := ["book", "placing"]) fun _ _ _ _ _ _ us hl => match us, hl with | [_, _], _ => rfl) ⟨rfl, rfl, rfl, by decide +kernel, rfl, by decide +kernel, by decide +kernel⟩ (show DSs _ srcY _ b_first_broken from
 (dss_cons (ds_for (di_enum (de_ix (de_var 0) de_int) (hm := z.z_enumerate)) (dg_t (dgs_cons (dg_n 2) (dgs_cons (dg_n 3) dgs_nil))) (dss_cons (ds_if (dt_not (dt_tru (de_call F_keeps rfl (da_cons (de_var 3) (da_cons (de_var 1) da_nil)) (hj := (by decide : 1 ≤ 1))))) (dss_cons (ds_ret (de_var 2))
 dss_nil) dss_nil)
 dss_nil))
 (dss_cons (ds_ret de_non)
 dss_nil)))

abbrev s_spreads : Stmt := top 7
theorem d_spreads (z : Zs mg) {f : Addr} {fd : FuncData} (F : FunD K "spreads" "spreads" (defArgs s_spreads) (defBody s_spreads) (defScope s_spreads) [] [] f fd) (hg : mg "spreads" = some (.ref f)) : FnD P w K mg base 1 "spreads" 1 srcY m_spreads :=
  fnD_mk (N := ["order", "level", "gap", "levels", "found"]) (k := 0) (st := s_spreads) (funOf F) hg (F.bindsN (ps := ["order"]) fun _ _ _ _ _ _ us hl => match us, hl with | [_], _ => rfl) ⟨rfl, rfl, rfl, by decide +kernel, rfl, by decide +kernel, by decide +kernel⟩ (show DSs _ srcY _ b_spreads from
 (dss_cons (ds_par2 3 4 (de_lenSet (de_var 0) (hm := z.z_len) (hm2 := z.z_set)) (de_lst da_nil) (hw := by intro env h; cases env; cases h; rfl))
 (dss_cons (ds_for (di_range1 (de_var 3) (hm := z.z_range)) (dg_n 1) (dss_cons (ds_expr (de_append 4 (da_cons (de_add (de_var 0) (de_tup (da_cons (de_var 1) da_nil))) da_nil)))
 dss_nil))
 (dss_cons (ds_for (di_range1 (de_add (de_var 3) de_int) (hm := z.z_range)) (dg_n 2) (dss_cons (ds_expr (de_append 4 (da_cons (de_add (de_tuple (da_cons (de_lc (own := [("level", 1)]) (hb := by first | rfl | kernel_rfl) (di_seq (de_var 0)) (dg_n 1) dts_nil (de_add (de_var 1) (de_intC (da_cons (de_geT (de_var 1) (de_var 2)) da_nil) (hm := z.z_int)))) da_nil) (hm := z.z_tuple)) (de_tup (da_cons (de_var 2) da_nil))) da_nil)))
 dss_nil))
 (dss_cons (ds_ret (de_sorted (da_cons (de_var 4) da_nil) (hm := z.z_sorted)))
 dss_nil)))))

abbrev s_orders : Stmt := top 8
theorem d_orders (z : Zs mg) {f : Addr} {fd : FuncData} (F : FunD K "orders" "orders" (defArgs s_orders) (defBody s_orders) (defScope s_orders) [] [] f fd) (hg : mg "orders" = some (.ref f)) (F_spreads : FnD P w K mg base 1 "spreads" 1 srcY m_spreads) : FnD P w K mg base 2 "orders" 1 srcY m_orders :=
  fnD_mk (N := ["n", "found", "moment", "later", "order"]) (k := 1) (st := s_orders) (funOf F) hg (F.bindsN (ps := ["n"]) fun _ _ _ _ _ _ us hl => match us, hl with | [_], _ => rfl) ⟨rfl, rfl, rfl, by decide +kernel, rfl, by decide +kernel, by decide +kernel⟩ (show DSs _ srcY _ b_orders from
 (dss_cons (ds_set 1 (de_lst (da_cons (de_tup da_nil) da_nil)))
 (dss_cons (ds_frz 1 (ds_for (di_range1 (de_var 0) (hm := z.z_range)) (dg_n 2) (dss_cons (ds_set 3 (de_lst da_nil))
 (dss_cons (ds_frz 1 (ds_for (di_seq (de_var 1)) (dg_n 4) (dss_cons (ds_expr (de_mutL 3 (fun _ _ => mt_extend) snd_extend (da_cons (de_call F_spreads rfl (da_cons (de_var 4) da_nil) (hj := (by decide : 1 ≤ 1))) da_nil) rfl PySem.F.slot_list_extend PySem.F.type_list_extend))
 dss_nil)))
 (dss_cons (ds_frz 3 (ds_set 1 (de_var 3)))
 dss_nil)))))
 (dss_cons (ds_ret (de_sorted (da_cons (de_var 1) da_nil) (hm := z.z_sorted)))
 dss_nil))))

abbrev s_ties_of : Stmt := top 11
theorem d_ties_of (z : Zs mg) {f : Addr} {fd : FuncData} (F : FunD K "ties_of" "ties_of" (defArgs s_ties_of) (defBody s_ties_of) (defScope s_ties_of) [] [] f fd) (hg : mg "ties_of" = some (.ref f)) : FnD P w K mg base 1 "ties_of" 1 srcY m_ties_of :=
  fnD_mk (N := ["order", "n", "a", "b"]) (k := 0) (st := s_ties_of) (funOf F) hg (F.bindsN (ps := ["order"]) fun _ _ _ _ _ _ us hl => match us, hl with | [_], _ => rfl) ⟨rfl, rfl, rfl, by decide +kernel, rfl, by decide +kernel, by decide +kernel⟩ (show DSs _ srcY _ b_ties_of from
 (dss_cons (ds_set 1 (de_len (da_cons (de_var 0) da_nil) (hm := z.z_len)))
 (dss_cons (ds_ret (de_tuple (da_cons (de_lc2 [3] (own := [("a", 2), ("b", 3)]) (hb := by first | rfl | kernel_rfl) (di_range1 (de_var 1) (hm := z.z_range)) (dg_n 2) dts_nil (di_range2 (de_add (de_var 2) de_int) (de_var 1) (hm := z.z_range)) (dg_n 3) (dts_one (dt_eq (de_ix (de_var 0) (de_var 2)) (de_ix (de_var 0) (de_var 3)))) (de_tup (da_cons (de_var 2) (da_cons (de_var 3) da_nil)))) da_nil) (hm := z.z_tuple)))
 dss_nil)))

abbrev s_tied_ones : Stmt := top 12
theorem d_tied_ones (z : Zs mg) {f : Addr} {fd : FuncData} (F : FunD K "tied_ones" "tied_ones" (defArgs s_tied_ones) (defBody s_tied_ones) (defScope s_tied_ones) [] [] f fd) (hg : mg "tied_ones" = some (.ref f)) : FnD P w K mg base 1 "tied_ones" 2 srcY m_tied_ones :=
  fnD_mk (N := ["some", "ties", "one", "a", "b"]) (k := 0) (st := s_tied_ones) (funOf F) hg (F.bindsN (ps := ["some", "ties"]) fun _ _ _ _ _ _ us hl => match us, hl with | [_, _], _ => rfl) ⟨rfl, rfl, rfl, by decide +kernel, rfl, by decide +kernel, by decide +kernel⟩ (show DSs _ srcY _ b_tied_ones from
 (dss_cons (ds_ret (de_lc (own := [("one", 2)]) (hb := by first | rfl | kernel_rfl) (di_seq (de_var 0)) (dg_n 2) (dts_one (dt_tru (de_all (da_cons (de_lc (own := [("a", 3), ("b", 4)]) (hb := by first | rfl | kernel_rfl) (di_seq (de_var 1)) (dg_t (dgs_cons (dg_n 3) (dgs_cons (dg_n 4) dgs_nil))) dts_nil (de_eq (de_ix (de_var 2) (de_var 3)) (de_ix (de_var 2) (de_var 4)))) da_nil) (hm := z.z_all)))) (de_var 2)))
 dss_nil))

abbrev s_wanted : Stmt := top 13
theorem d_wanted (z : Zs mg) {f : Addr} {fd : FuncData} (F : FunD K "wanted" "wanted" (defArgs s_wanted) (defBody s_wanted) (defScope s_wanted) [] [] f fd) (hg : mg "wanted" = some (.ref f)) : FnD P w K mg base 1 "wanted" 1 srcY m_wanted :=
  fnD_mk (N := ["order", "n", "u", "v"]) (k := 0) (st := s_wanted) (funOf F) hg (F.bindsN (ps := ["order"]) fun _ _ _ _ _ _ us hl => match us, hl with | [_], _ => rfl) ⟨rfl, rfl, rfl, by decide +kernel, rfl, by decide +kernel, by decide +kernel⟩ (show DSs _ srcY _ b_wanted from
 (dss_cons (ds_set 1 (de_len (da_cons (de_var 0) da_nil) (hm := z.z_len)))
 (dss_cons (ds_ret (de_lc2 [3] (own := [("u", 2), ("v", 3)]) (hb := by first | rfl | kernel_rfl) (di_range1 (de_var 1) (hm := z.z_range)) (dg_n 2) dts_nil (di_range1 (de_var 1) (hm := z.z_range)) (dg_n 3) (dts_one (dt_lt (de_ix (de_var 0) (de_var 3)) (de_ix (de_var 0) (de_var 2)))) (de_tup (da_cons (de_var 2) (da_cons (de_var 3) da_nil)))))
 dss_nil)))

abbrev s_check_size : Stmt := top 10
theorem d_check_size (z : Zs mg) {f : Addr} {fd : FuncData} (F : FunD K "check_size" "check_size" (defArgs s_check_size) (defBody s_check_size) (defScope s_check_size) [] [] f fd) (hg : mg "check_size" = some (.ref f)) : FnD P w K mg base 1 "check_size" 2 srcY m_check_size :=
  fnD_mk (N := ["n", "most"]) (k := 0) (st := s_check_size) (funOf F) hg (F.bindsN (ps := ["n", "most"]) fun _ _ _ _ _ _ us hl => match us, hl with | [_, _], _ => rfl) ⟨rfl, rfl, rfl, by decide +kernel, rfl, by decide +kernel, by decide +kernel⟩ (show DSs _ srcY _ b_check_size from
 (dss_cons (ds_if (dt_gt (de_var 0) (de_var 1)) (dss_cons (ds_bad)
 dss_nil) dss_nil)
 dss_nil))

abbrev s_refusing : Stmt := top 14
theorem d_refusing (z : Zs mg) {f : Addr} {fd : FuncData} (F : FunD K "refusing" "refusing" (defArgs s_refusing) (defBody s_refusing) (defScope s_refusing) [] [] f fd) (hg : mg "refusing" = some (.ref f)) (F_wanted : FnD P w K mg base 1 "wanted" 1 srcY m_wanted) (F_tied_ones : FnD P w K mg base 1 "tied_ones" 2 srcY m_tied_ones) (F_ties_of : FnD P w K mg base 1 "ties_of" 1 srcY m_ties_of) (F_check_size : FnD P w K mg base 1 "check_size" 2 srcY m_check_size) : FnD P w K mg base 2 "refusing" 3 srcY m_refusing :=
  fnD_mk (N := ["n", "some", "order", "ties", "near", "u", "v", "one"]) (k := 1) (st := s_refusing) (funOf F) hg (F.bindsN (ps := ["n", "some", "order"]) fun _ _ _ _ _ _ us hl => match us, hl with | [_, _, _], _ => rfl) ⟨rfl, rfl, rfl, by decide +kernel, rfl, by decide +kernel, by decide +kernel⟩ (show DSs _ srcY _ b_refusing from
 (dss_cons (ds_expr (de_call F_check_size rfl (da_cons (de_var 0) (da_cons de_int da_nil)) (hj := (by decide : 1 ≤ 1))))
 (dss_cons (ds_set 3 (de_call F_ties_of rfl (da_cons (de_var 2) da_nil) (hj := (by decide : 1 ≤ 1))))
 (dss_cons (ds_set 4 (de_call F_tied_ones rfl (da_cons (de_var 1) (da_cons (de_var 3) da_nil)) (hj := (by decide : 1 ≤ 1))))
 (dss_cons (ds_frz 4 (ds_if (dt_not (dt_tru (de_var 4))) (dss_cons (ds_ret (de_tup (da_cons (de_var 3) (da_cons de_non da_nil))))
 dss_nil) dss_nil))
 (dss_cons (ds_for (di_seq (de_call F_wanted rfl (da_cons (de_var 2) da_nil) (hj := (by decide : 1 ≤ 1)))) (dg_t (dgs_cons (dg_n 5) (dgs_cons (dg_n 6) dgs_nil))) (dss_cons (ds_if (dt_not (dt_tru (de_any (da_cons (de_lc (own := [("one", 7)]) (hb := by first | rfl | kernel_rfl) (di_seq (de_var 4)) (dg_n 7) dts_nil (de_lt (de_ix (de_var 7) (de_var 6)) (de_ix (de_var 7) (de_var 5)))) da_nil) (hm := z.z_any)))) (dss_cons (ds_ret (de_tup (da_cons (de_var 3) (da_cons (de_tup (da_cons (de_var 5) (da_cons (de_var 6) da_nil))) da_nil))))
 dss_nil) dss_nil)
 dss_nil))
 (dss_cons (ds_ret de_non)
 dss_nil)))))))

abbrev s_hull : Stmt := top 15
theorem d_hull (z : Zs mg) {f : Addr} {fd : FuncData} (F : FunD K "hull" "hull" (defArgs s_hull) (defBody s_hull) (defScope s_hull) [] [] f fd) (hg : mg "hull" = some (.ref f)) (F_orders : FnD P w K mg base 2 "orders" 1 srcY m_orders) (F_refusing : FnD P w K mg base 2 "refusing" 3 srcY m_refusing) (F_check_size : FnD P w K mg base 1 "check_size" 2 srcY m_check_size) : FnD P w K mg base 3 "hull" 2 srcY m_hull :=
  fnD_mk (N := ["n", "some", "order"]) (k := 2) (st := s_hull) (funOf F) hg (F.bindsN (ps := ["n", "some"]) fun _ _ _ _ _ _ us hl => match us, hl with | [_, _], _ => rfl) ⟨rfl, rfl, rfl, by decide +kernel, rfl, by decide +kernel, by decide +kernel⟩ (show DSs _ srcY _ b_hull from
 (dss_cons (ds_expr (de_call F_check_size rfl (da_cons (de_var 0) (da_cons de_int da_nil)) (hj := (by decide : 1 ≤ 2))))
 (dss_cons (ds_ret (de_tuple (da_cons (de_lc (own := [("order", 2)]) (hb := by first | rfl | kernel_rfl) (di_seq (de_call F_orders rfl (da_cons (de_var 0) da_nil) (hj := (by decide : 2 ≤ 2)))) (dg_n 2) (dts_one (dt_is (de_call F_refusing rfl (da_cons (de_var 0) (da_cons (de_var 1) (da_cons (de_var 2) da_nil))) (hj := (by decide : 2 ≤ 2))) de_non)) (de_var 2)) da_nil) (hm := z.z_tuple)))
 dss_nil)))

abbrev s_passes : Stmt := top 16
theorem d_passes (z : Zs mg) {f : Addr} {fd : FuncData} (F : FunD K "passes" "passes" (defArgs s_passes) (defBody s_passes) (defScope s_passes) [] [] f fd) (hg : mg "passes" = some (.ref f)) (F_hull : FnD P w K mg base 3 "hull" 2 srcY m_hull) : FnD P w K mg base 4 "passes" 2 srcY m_passes :=
  fnD_mk (N := ["n", "some"]) (k := 3) (st := s_passes) (funOf F) hg (F.bindsN (ps := ["n", "some"]) fun _ _ _ _ _ _ us hl => match us, hl with | [_, _], _ => rfl) ⟨rfl, rfl, rfl, by decide +kernel, rfl, by decide +kernel, by decide +kernel⟩ (show DSs _ srcY _ b_passes from
 (dss_cons (ds_ret (de_eq (de_call F_hull rfl (da_cons (de_var 0) (da_cons (de_var 1) da_nil)) (hj := (by decide : 3 ≤ 3))) (de_tuple (da_cons (de_var 1) da_nil) (hm := z.z_tuple))))
 dss_nil))

abbrev s_book_of : Stmt := top 17
theorem d_book_of (z : Zs mg) {f : Addr} {fd : FuncData} (F : FunD K "book_of" "book_of" (defArgs s_book_of) (defBody s_book_of) (defScope s_book_of) [] [] f fd) (hg : mg "book_of" = some (.ref f)) (F_orders : FnD P w K mg base 2 "orders" 1 srcY m_orders) (F_refusing : FnD P w K mg base 2 "refusing" 3 srcY m_refusing) (F_check_size : FnD P w K mg base 1 "check_size" 2 srcY m_check_size) : FnD P w K mg base 3 "book_of" 2 srcY m_book_of :=
  fnD_mk (N := ["n", "some", "found", "order", "saying"]) (k := 2) (st := s_book_of) (funOf F) hg (F.bindsN (ps := ["n", "some"]) fun _ _ _ _ _ _ us hl => match us, hl with | [_, _], _ => rfl) ⟨rfl, rfl, rfl, by decide +kernel, rfl, by decide +kernel, by decide +kernel⟩ (show DSs _ srcY _ b_book_of from
 (dss_cons (ds_expr (de_call F_check_size rfl (da_cons (de_var 0) (da_cons de_int da_nil)) (hj := (by decide : 1 ≤ 2))))
 (dss_cons (ds_set 2 (de_lst da_nil))
 (dss_cons (ds_for (di_seq (de_call F_orders rfl (da_cons (de_var 0) da_nil) (hj := (by decide : 2 ≤ 2)))) (dg_n 3) (dss_cons (ds_set 4 (de_call F_refusing rfl (da_cons (de_var 0) (da_cons (de_var 1) (da_cons (de_var 3) da_nil))) (hj := (by decide : 2 ≤ 2))))
 (dss_cons (ds_if (dt_w (dw_and (dt_isNot (de_var 4) de_non) (dw_and1 (dt_notIn (de_var 4) (de_var 2))))) (dss_cons (ds_expr (de_append 2 (da_cons (de_var 4) da_nil)))
 dss_nil) dss_nil)
 dss_nil)))
 (dss_cons (ds_ret (de_tup (da_cons (de_var 0) (da_cons (de_tuple (da_cons (de_var 2) da_nil) (hm := z.z_tuple)) da_nil))))
 dss_nil)))))

abbrev s_said : Stmt := top 18
theorem d_said (z : Zs mg) {f : Addr} {fd : FuncData} (F : FunD K "said" "said" (defArgs s_said) (defBody s_said) (defScope s_said) [] [] f fd) (hg : mg "said" = some (.ref f)) (F_orders : FnD P w K mg base 2 "orders" 1 srcY m_orders) (F_first_broken : FnD P w K mg base 2 "first_broken" 2 srcY m_first_broken) (F_check_size : FnD P w K mg base 1 "check_size" 2 srcY m_check_size) : FnD P w K mg base 3 "said" 1 srcY m_said :=
  fnD_mk (N := ["book", "order"]) (k := 2) (st := s_said) (funOf F) hg (F.bindsN (ps := ["book"]) fun _ _ _ _ _ _ us hl => match us, hl with | [_], _ => rfl) ⟨rfl, rfl, rfl, by decide +kernel, rfl, by decide +kernel, by decide +kernel⟩ (show DSs _ srcY _ b_said from
 (dss_cons (ds_expr (de_call F_check_size rfl (da_cons (de_ix (de_var 0) de_int) (da_cons de_int da_nil)) (hj := (by decide : 1 ≤ 2))))
 (dss_cons (ds_ret (de_tuple (da_cons (de_lc (own := [("order", 1)]) (hb := by first | rfl | kernel_rfl) (di_seq (de_call F_orders rfl (da_cons (de_ix (de_var 0) de_int) da_nil) (hj := (by decide : 2 ≤ 2)))) (dg_n 1) (dts_one (dt_is (de_call F_first_broken rfl (da_cons (de_var 0) (da_cons (de_var 1) da_nil)) (hj := (by decide : 2 ≤ 2))) de_non)) (de_var 1)) da_nil) (hm := z.z_tuple)))
 dss_nil)))

abbrev s__law_pick : Stmt := top 21
theorem d__law_pick (z : Zs mg) {f : Addr} {fd : FuncData} (F : FunD K "_law_pick" "_law_pick" (defArgs s__law_pick) (defBody s__law_pick) (defScope s__law_pick) [] [] f fd) (hg : mg "_law_pick" = some (.ref f)) : FnD P w K mg base 1 "_law_pick" 2 srcY m__law_pick :=
  fnD_mk (N := ["source", "many", "left", "mixed"]) (k := 0) (st := s__law_pick) (funOf F) hg (F.bindsN (ps := ["source", "many"]) fun _ _ _ _ _ _ us hl => match us, hl with | [_, _], _ => rfl) ⟨rfl, rfl, rfl, by decide +kernel, rfl, by decide +kernel, by decide +kernel⟩ (show DSs _ srcY _ b__law_pick from
 (dss_cons (ds_while 100 (dt_w (dw_and (dt_gt (de_var 1) de_int) (dw_and (dt_lt (de_src 0 Src.left (by intro _ _; rfl)) de_int) (dw_and1 (dt_gt (de_srcLen 0 (hm := z.z_len)) de_int))))) (dss_cons (ds_src 0 setLeft (by intro _ _ _; rfl) (by intro _ _; rfl) (de_srcPop 0))
 dss_nil))
 (dss_cons (ds_set 2 (de_src 0 Src.left (by intro _ _; rfl)))
 (dss_cons (ds_if (dt_w (dw_or (dt_lt (de_var 1) de_int) (dw_or1 (dt_gt (de_var 2) de_int)))) (dss_cons (ds_src 0 setLeft (by intro _ _ _; rfl) (by intro _ _; rfl) (de_fdiv (de_var 2) (de_max2 (da_cons de_int (da_cons (de_var 1) da_nil)) (hm := z.z_max))))
 (dss_cons (ds_ret (de_mod (de_intC (da_cons (de_var 2) da_nil) (hm := z.z_int)) (de_max2 (da_cons de_int (da_cons (de_var 1) da_nil)) (hm := z.z_max))))
 dss_nil)) dss_nil)
 (dss_cons (ds_src 0 setTurn (by intro _ _ _; rfl) (by intro _ _; rfl) (de_add (de_src 0 Src.turn (by intro _ _; rfl)) de_int))
 (dss_cons (ds_set 3 (de_mod (de_intC (da_cons (de_add (de_src 0 Src.mixed (by intro _ _; rfl)) (de_mul (de_src 0 Src.turn (by intro _ _; rfl)) de_int)) da_nil) (hm := z.z_int)) de_int))
 (dss_cons (ds_set 3 (de_mod (de_intC (da_cons (de_add (de_mul (de_var 3) (de_var 3)) (de_mul (de_src 0 Src.turn (by intro _ _; rfl)) de_int)) da_nil) (hm := z.z_int)) de_int))
 (dss_cons (ds_src 0 setMixed (by intro _ _ _; rfl) (by intro _ _; rfl) (de_var 3))
 (dss_cons (ds_ret (de_mod (de_intC (da_cons (de_fdiv (de_var 3) de_int) da_nil) (hm := z.z_int)) (de_var 1)))
 dss_nil)))))))))

abbrev s__law_orders : Stmt := top 22
theorem d__law_orders (z : Zs mg) {f : Addr} {fd : FuncData} (F : FunD K "_law_orders" "_law_orders" (defArgs s__law_orders) (defBody s__law_orders) (defScope s__law_orders) [] [] f fd) (hg : mg "_law_orders" = some (.ref f)) : FnD P w K mg base 1 "_law_orders" 1 srcY m__law_orders :=
  fnD_mk (N := ["n", "found", "lap", "later", "order", "levels", "gap", "level", "one"]) (k := 0) (st := s__law_orders) (funOf F) hg (F.bindsN (ps := ["n"]) fun _ _ _ _ _ _ us hl => match us, hl with | [_], _ => rfl) ⟨rfl, rfl, rfl, by decide +kernel, rfl, by decide +kernel, by decide +kernel⟩ (show DSs _ srcY _ b__law_orders from
 (dss_cons (ds_set 1 (de_lst (da_cons (de_tup da_nil) da_nil)))
 (dss_cons (ds_frz 1 (ds_for (di_range1 (de_var 0) (hm := z.z_range)) (dg_n 2) (dss_cons (ds_set 3 (de_lst da_nil))
 (dss_cons (ds_frz 1 (ds_for (di_seq (de_var 1)) (dg_n 4) (dss_cons (ds_set 5 (de_add de_int (de_max1 (da_cons (de_add (de_lst (da_cons (de_neg de_int) da_nil)) (de_list (da_cons (de_var 4) da_nil) (hm := z.z_list))) da_nil) (hm := z.z_max))))
 (dss_cons (ds_set 3 (de_add (de_var 3) (de_lc (own := [("level", 7)]) (hb := by first | rfl | kernel_rfl) (di_range1 (de_var 5) (hm := z.z_range)) (dg_n 7) dts_nil (de_add (de_var 4) (de_tup (da_cons (de_var 7) da_nil))))))
 (dss_cons (ds_for (di_range1 (de_add (de_var 5) de_int) (hm := z.z_range)) (dg_n 6) (dss_cons (ds_expr (de_append 3 (da_cons (de_add (de_tuple (da_cons (de_lc (own := [("one", 8)]) (hb := by first | rfl | kernel_rfl) (di_seq (de_var 4)) (dg_n 8) dts_nil (de_add (de_var 8) (de_intC (da_cons (de_geT (de_var 8) (de_var 6)) da_nil) (hm := z.z_int)))) da_nil) (hm := z.z_tuple)) (de_tup (da_cons (de_var 6) da_nil))) da_nil)))
 dss_nil))
 dss_nil)))))
 (dss_cons (ds_frz 3 (ds_set 1 (de_var 3)))
 dss_nil)))))
 (dss_cons (ds_ret (de_sorted (da_cons (de_var 1) da_nil) (hm := z.z_sorted)))
 dss_nil))))

abbrev s__law_mixed : Stmt := top 23
theorem d__law_mixed (z : Zs mg) {f : Addr} {fd : FuncData} (F : FunD K "_law_mixed" "_law_mixed" (defArgs s__law_mixed) (defBody s__law_mixed) (defScope s__law_mixed) [] [] f fd) (hg : mg "_law_mixed" = some (.ref f)) (F__law_pick : FnD P w K mg base 1 "_law_pick" 2 srcY m__law_pick) : FnD P w K mg base 2 "_law_mixed" 2 srcY m__law_mixed :=
  fnD_mk (N := ["source", "things", "rest", "lap"]) (k := 1) (st := s__law_mixed) (funOf F) hg (F.bindsN (ps := ["source", "things"]) fun _ _ _ _ _ _ us hl => match us, hl with | [_, _], _ => rfl) ⟨rfl, rfl, rfl, by decide +kernel, rfl, by decide +kernel, by decide +kernel⟩ (show DSs _ srcY _ b__law_mixed from
 (dss_cons (ds_set 2 (de_list (da_cons (de_var 1) da_nil) (hm := z.z_list)))
 (dss_cons (ds_ret (de_lc (own := [("lap", 3)]) (hb := by first | rfl | kernel_rfl) (di_range1 (de_len (da_cons (de_var 2) da_nil) (hm := z.z_len)) (hm := z.z_range)) (dg_n 3) dts_nil (de_mutL 2 (fun _ _ => mt_popAt) snd_popAt (da_cons (de_call F__law_pick rfl (da_cons (de_var 0) (da_cons (de_len (da_cons (de_var 2) da_nil) (hm := z.z_len)) da_nil)) (hj := (by decide : 1 ≤ 1))) da_nil) rfl PySem.F.slot_list_pop PySem.F.type_list_pop)))
 dss_nil)))

abbrev s__law_of : Stmt := top 24
theorem d__law_of (z : Zs mg) {f : Addr} {fd : FuncData} (F : FunD K "_law_of" "_law_of" (defArgs s__law_of) (defBody s__law_of) (defScope s__law_of) [] [] f fd) (hg : mg "_law_of" = some (.ref f)) (F__law_pick : FnD P w K mg base 1 "_law_pick" 2 srcY m__law_pick) : FnD P w K mg base 2 "_law_of" 2 srcY m__law_of :=
  fnD_mk (N := ["source", "some"]) (k := 1) (st := s__law_of) (funOf F) hg (F.bindsN (ps := ["source", "some"]) fun _ _ _ _ _ _ us hl => match us, hl with | [_, _], _ => rfl) ⟨rfl, rfl, rfl, by decide +kernel, rfl, by decide +kernel, by decide +kernel⟩ (show DSs _ srcY _ b__law_of from
 (dss_cons (ds_ret (de_ix (de_var 1) (de_call F__law_pick rfl (da_cons (de_var 0) (da_cons (de_len (da_cons (de_var 1) da_nil) (hm := z.z_len)) da_nil)) (hj := (by decide : 1 ≤ 1)))))
 dss_nil))

abbrev s__law_draw_placing : Stmt := top 25
theorem d__law_draw_placing (z : Zs mg) {f : Addr} {fd : FuncData} (F : FunD K "_law_draw_placing" "_law_draw_placing" (defArgs s__law_draw_placing) (defBody s__law_draw_placing) (defScope s__law_draw_placing) [] [] f fd) (hg : mg "_law_draw_placing" = some (.ref f)) (F__law_pick : FnD P w K mg base 1 "_law_pick" 2 srcY m__law_pick) (F__law_of : FnD P w K mg base 2 "_law_of" 2 srcY m__law_of) : FnD P w K mg base 3 "_law_draw_placing" 2 srcY m__law_draw_placing :=
  fnD_mk (N := ["source", "n", "most", "moment"]) (k := 2) (st := s__law_draw_placing) (funOf F) hg (F.bindsN (ps := ["source", "n"]) fun _ _ _ _ _ _ us hl => match us, hl with | [_, _], _ => rfl) ⟨rfl, rfl, rfl, by decide +kernel, rfl, by decide +kernel, by decide +kernel⟩ (show DSs _ srcY _ b__law_draw_placing from
 (dss_cons (ds_set 2 (de_call F__law_of rfl (da_cons (de_var 0) (da_cons (de_lst (da_cons de_int (da_cons de_int (da_cons (de_add (de_var 1) de_int) (da_cons (de_pow de_int de_int) da_nil))))) da_nil)) (hj := (by decide : 2 ≤ 2))))
 (dss_cons (ds_ret (de_tuple (da_cons (de_lc (own := [("moment", 3)]) (hb := by first | rfl | kernel_rfl) (di_range1 (de_var 1) (hm := z.z_range)) (dg_n 3) dts_nil (de_sub (de_call F__law_pick rfl (da_cons (de_var 0) (da_cons (de_var 2) da_nil)) (hj := (by decide : 1 ≤ 2))) (de_fdiv (de_var 2) de_int))) da_nil) (hm := z.z_tuple)))
 dss_nil)))

abbrev s__law_draw_saying : Stmt := top 26
theorem d__law_draw_saying (z : Zs mg) {f : Addr} {fd : FuncData} (F : FunD K "_law_draw_saying" "_law_draw_saying" (defArgs s__law_draw_saying) (defBody s__law_draw_saying) (defScope s__law_draw_saying) [] [] f fd) (hg : mg "_law_draw_saying" = some (.ref f)) (F__law_pick : FnD P w K mg base 1 "_law_pick" 2 srcY m__law_pick) (F__law_of : FnD P w K mg base 2 "_law_of" 2 srcY m__law_of) (F__law_mixed : FnD P w K mg base 2 "_law_mixed" 2 srcY m__law_mixed) : FnD P w K mg base 3 "_law_draw_saying" 3 srcY m__law_draw_saying :=
  fnD_mk (N := ["source", "n", "most", "lap", "ties", "head", "tie"]) (k := 2) (st := s__law_draw_saying) (funOf F) hg (F.bindsN (ps := ["source", "n", "most"]) fun _ _ _ _ _ _ us hl => match us, hl with | [_, _, _], _ => rfl) ⟨rfl, rfl, rfl, by decide +kernel, rfl, by decide +kernel, by decide +kernel⟩ (show DSs _ srcY _ b__law_draw_saying from
 (dss_cons (ds_par2 4 5 (de_lst da_nil) (de_slice (de_call F__law_mixed rfl (da_cons (de_var 0) (da_cons (de_listRg1 (de_var 1) (hm := z.z_list) (hm2 := z.z_range)) da_nil)) (hj := (by decide : 2 ≤ 2))) do_none (do_some de_int)) (hw := by intro env h; cases env; cases h; rfl))
 (dss_cons (ds_for (di_range1 (de_call F__law_of rfl (da_cons (de_var 0) (da_cons (de_lst (da_cons de_int (da_cons de_int (da_cons de_int (da_cons (de_call F__law_pick rfl (da_cons (de_var 0) (da_cons (de_add (de_var 2) de_int) da_nil)) (hj := (by decide : 1 ≤ 2))) da_nil))))) da_nil)) (hj := (by decide : 2 ≤ 2))) (hm := z.z_range)) (dg_n 3) (dss_cons (ds_set 6 (de_tuple (da_cons (de_sorted (da_cons (de_slice (de_call F__law_mixed rfl (da_cons (de_var 0) (da_cons (de_listRg1 (de_var 1) (hm := z.z_list) (hm2 := z.z_range)) da_nil)) (hj := (by decide : 2 ≤ 2))) do_none (do_some de_int)) da_nil) (hm := z.z_sorted)) da_nil) (hm := z.z_tuple)))
 (dss_cons (ds_set 4 (de_add (de_var 4) (de_mul (de_lst (da_cons (de_var 6) da_nil)) (de_intC (da_cons (de_notIn (de_var 6) (de_var 4)) da_nil) (hm := z.z_int)))))
 dss_nil)))
 (dss_cons (ds_ret (de_tup (da_cons (de_tuple (da_cons (de_sorted (da_cons (de_var 4) da_nil) (hm := z.z_sorted)) da_nil) (hm := z.z_tuple)) (da_cons (de_if (dt_gt (de_call F__law_pick rfl (da_cons (de_var 0) (da_cons de_int da_nil)) (hj := (by decide : 1 ≤ 2))) de_int) (de_tuple (da_cons (de_var 5) da_nil) (hm := z.z_tuple)) de_non) da_nil))))
 dss_nil))))

abbrev s__law_keeps : Stmt := top 27
theorem d__law_keeps (z : Zs mg) {f : Addr} {fd : FuncData} (F : FunD K "_law_keeps" "_law_keeps" (defArgs s__law_keeps) (defBody s__law_keeps) (defScope s__law_keeps) [] [] f fd) (hg : mg "_law_keeps" = some (.ref f)) : FnD P w K mg base 1 "_law_keeps" 2 srcY m__law_keeps :=
  fnD_mk (N := ["saying", "placing", "ties", "head", "a", "b"]) (k := 0) (st := s__law_keeps) (funOf F) hg (F.bindsN (ps := ["saying", "placing"]) fun _ _ _ _ _ _ us hl => match us, hl with | [_, _], _ => rfl) ⟨rfl, rfl, rfl, by decide +kernel, rfl, by decide +kernel, by decide +kernel⟩ (show DSs _ srcY _ b__law_keeps from
 (dss_cons (ds_asgG (de_var 0) (dg_t (dgs_cons (dg_n 2) (dgs_cons (dg_n 3) dgs_nil))))
 (dss_cons (ds_if (dt_ne (de_lc (own := [("a", 4), ("b", 5)]) (hb := by first | rfl | kernel_rfl) (di_seq (de_var 2)) (dg_t (dgs_cons (dg_n 4) (dgs_cons (dg_n 5) dgs_nil))) (dts_one (dt_ne (de_ix (de_var 1) (de_var 4)) (de_ix (de_var 1) (de_var 5)))) de_int) (de_lst da_nil)) (dss_cons (ds_ret de_bl)
 dss_nil) dss_nil)
 (dss_cons (ds_ret (de_and (de_isNot (de_var 3) de_non) (de_one (de_le (de_ix (de_var 1) (de_ix (de_var 3) de_int)) (de_ix (de_var 1) (de_ix (de_var 3) de_int))))))
 dss_nil))))

abbrev s__law_draw_book : Stmt := top 28
theorem d__law_draw_book (z : Zs mg) {f : Addr} {fd : FuncData} (F : FunD K "_law_draw_book" "_law_draw_book" (defArgs s__law_draw_book) (defBody s__law_draw_book) (defScope s__law_draw_book) [] [] f fd) (hg : mg "_law_draw_book" = some (.ref f)) (F__law_mixed : FnD P w K mg base 2 "_law_mixed" 2 srcY m__law_mixed) (F__law_pick : FnD P w K mg base 1 "_law_pick" 2 srcY m__law_pick) (F__law_keeps : FnD P w K mg base 1 "_law_keeps" 2 srcY m__law_keeps) (F__law_draw_saying : FnD P w K mg base 3 "_law_draw_saying" 3 srcY m__law_draw_saying) (F__law_draw_placing : FnD P w K mg base 3 "_law_draw_placing" 2 srcY m__law_draw_placing) : FnD P w K mg base 4 "_law_draw_book" 3 srcY m__law_draw_book :=
  fnD_mk (N := ["source", "n", "many", "lap", "placing", "sayings", "way", "saying", "ring", "late", "first", "ties", "head", "a", "b"]) (k := 3) (st := s__law_draw_book) (funOf F) hg (F.bindsN (ps := ["source", "n", "many"]) fun _ _ _ _ _ _ us hl => match us, hl with | [_, _, _], _ => rfl) ⟨rfl, rfl, rfl, by decide +kernel, rfl, by decide +kernel, by decide +kernel⟩ (show DSs _ srcY _ b__law_draw_book from
 (dss_cons (ds_par3 4 5 6 (de_call F__law_draw_placing rfl (da_cons (de_var 0) (da_cons (de_var 1) da_nil)) (hj := (by decide : 3 ≤ 3))) (de_lst da_nil) (de_call F__law_pick rfl (da_cons (de_var 0) (da_cons de_int da_nil)) (hj := (by decide : 1 ≤ 3))) (hw := by intro env h; cases env; cases h; rfl))
 (dss_cons (ds_for (di_range1 (de_call F__law_pick rfl (da_cons (de_var 0) (da_cons (de_add (de_var 2) de_int) da_nil)) (hj := (by decide : 1 ≤ 3))) (hm := z.z_range)) (dg_n 3) (dss_cons (ds_set 7 (de_call F__law_draw_saying rfl (da_cons (de_var 0) (da_cons (de_var 1) (da_cons de_int da_nil))) (hj := (by decide : 3 ≤ 3))))
 (dss_cons (ds_if (dt_w (dw_and (dt_lt (de_var 6) de_int) (dw_and1 (dt_not (dt_tru (de_call F__law_keeps rfl (da_cons (de_var 7) (da_cons (de_var 4) da_nil)) (hj := (by decide : 1 ≤ 3)))))))) (dss_cons (ds_asgG (de_var 7) (dg_t (dgs_cons (dg_n 11) (dgs_cons (dg_n 12) dgs_nil))))
 (dss_cons (ds_set 10 (de_if (dt_le (de_ix (de_var 4) de_int) (de_ix (de_var 4) de_int)) (de_tup (da_cons de_int (da_cons de_int da_nil))) (de_tup (da_cons de_int (da_cons de_int da_nil)))))
 (dss_cons (ds_set 7 (de_tup (da_cons (de_var 11) (da_cons (de_if (dt_isNot (de_var 12) de_non) (de_rev (de_var 12)) (de_var 10)) da_nil))))
 dss_nil))) dss_nil)
 (dss_cons (ds_expr (de_append 5 (da_cons (de_var 7) da_nil)))
 dss_nil))))
 (dss_cons (ds_if (dt_eq (de_var 6) de_int) (dss_cons (ds_set 8 (de_slice (de_call F__law_mixed rfl (da_cons (de_var 0) (da_cons (de_listRg1 (de_var 1) (hm := z.z_list) (hm2 := z.z_range)) da_nil)) (hj := (by decide : 2 ≤ 3))) do_none (do_some (de_add de_int (de_call F__law_pick rfl (da_cons (de_var 0) (da_cons (de_sub (de_var 1) de_int) da_nil)) (hj := (by decide : 1 ≤ 3)))))))
 (dss_cons (ds_frz 8 (ds_set 9 (de_add (de_lc (own := [("a", 13), ("b", 14)]) (hb := by first | rfl | kernel_rfl) (di_zip (de_var 8) (de_add (de_slice (de_var 8) (do_some de_int) do_none) (de_slice (de_var 8) do_none (do_some de_int))) (hm := z.z_zip)) (dg_t (dgs_cons (dg_n 13) (dgs_cons (dg_n 14) dgs_nil))) dts_nil (de_tup (da_cons (de_tup da_nil) (da_cons (de_tup (da_cons (de_var 13) (da_cons (de_var 14) da_nil))) da_nil)))) (de_lst (da_cons (de_tup (da_cons (de_tup (da_cons (de_tuple (da_cons (de_sorted (da_cons (de_slice (de_var 8) do_none (do_some de_int)) da_nil) (hm := z.z_sorted)) da_nil) (hm := z.z_tuple)) da_nil)) (da_cons de_non da_nil))) da_nil)))))
 (dss_cons (ds_set 5 (de_call F__law_mixed rfl (da_cons (de_var 0) (da_cons (de_add (de_slice (de_var 5) do_none (do_some (de_max2 (da_cons de_int (da_cons (de_sub (de_var 2) (de_len (da_cons (de_var 9) da_nil) (hm := z.z_len))) da_nil)) (hm := z.z_max)))) (de_var 9)) da_nil)) (hj := (by decide : 2 ≤ 3))))
 dss_nil))) dss_nil)
 (dss_cons (ds_ret (de_tup (da_cons (de_var 1) (da_cons (de_tuple (da_cons (de_var 5) da_nil) (hm := z.z_tuple)) da_nil))))
 dss_nil)))))

abbrev s__law_keeps_all : Stmt := top 29
theorem d__law_keeps_all (z : Zs mg) {f : Addr} {fd : FuncData} (F : FunD K "_law_keeps_all" "_law_keeps_all" (defArgs s__law_keeps_all) (defBody s__law_keeps_all) (defScope s__law_keeps_all) [] [] f fd) (hg : mg "_law_keeps_all" = some (.ref f)) (F__law_keeps : FnD P w K mg base 1 "_law_keeps" 2 srcY m__law_keeps) : FnD P w K mg base 2 "_law_keeps_all" 2 srcY m__law_keeps_all :=
  fnD_mk (N := ["sayings", "placing", "saying"]) (k := 1) (st := s__law_keeps_all) (funOf F) hg (F.bindsN (ps := ["sayings", "placing"]) fun _ _ _ _ _ _ us hl => match us, hl with | [_, _], _ => rfl) ⟨rfl, rfl, rfl, by decide +kernel, rfl, by decide +kernel, by decide +kernel⟩ (show DSs _ srcY _ b__law_keeps_all from
 (dss_cons (ds_ret (de_eq (de_lc (own := [("saying", 2)]) (hb := by first | rfl | kernel_rfl) (di_seq (de_var 0)) (dg_n 2) (dts_one (dt_not (dt_tru (de_call F__law_keeps rfl (da_cons (de_var 2) (da_cons (de_var 1) da_nil)) (hj := (by decide : 1 ≤ 1)))))) (de_var 2)) (de_lst da_nil)))
 dss_nil))

abbrev s__law_draw_set : Stmt := top 30
theorem d__law_draw_set (z : Zs mg) {f : Addr} {fd : FuncData} (F : FunD K "_law_draw_set" "_law_draw_set" (defArgs s__law_draw_set) (defBody s__law_draw_set) (defScope s__law_draw_set) [] [] f fd) (hg : mg "_law_draw_set" = some (.ref f)) (F__law_of : FnD P w K mg base 2 "_law_of" 2 srcY m__law_of) (F__law_keeps_all : FnD P w K mg base 2 "_law_keeps_all" 2 srcY m__law_keeps_all) (F__law_draw_book : FnD P w K mg base 4 "_law_draw_book" 3 srcY m__law_draw_book) (F__law_pick : FnD P w K mg base 1 "_law_pick" 2 srcY m__law_pick) (F__law_mixed : FnD P w K mg base 2 "_law_mixed" 2 srcY m__law_mixed) (F__law_orders : FnD P w K mg base 1 "_law_orders" 1 srcY m__law_orders) : FnD P w K mg base 5 "_law_draw_set" 2 srcY m__law_draw_set :=
  fnD_mk (N := ["source", "n", "book", "found", "gone", "way", "orders_v", "order"]) (k := 4) (st := s__law_draw_set) (funOf F) hg (F.bindsN (ps := ["source", "n"]) fun _ _ _ _ _ _ us hl => match us, hl with | [_, _], _ => rfl) ⟨rfl, rfl, rfl, by decide +kernel, rfl, by decide +kernel, by decide +kernel⟩ (show DSs _ srcY _ b__law_draw_set from
 (dss_cons (ds_par2 5 6 (de_call F__law_pick rfl (da_cons (de_var 0) (da_cons de_int da_nil)) (hj := (by decide : 1 ≤ 4))) (de_call F__law_orders rfl (da_cons (de_var 1) da_nil) (hj := (by decide : 1 ≤ 4))) (hw := by intro env h; cases env; cases h; rfl))
 (dss_cons (ds_frz 6 (ds_if (dt_eq (de_var 5) de_int) (dss_cons (ds_ret (de_tuple (da_cons (de_sorted (da_cons (de_slice (de_call F__law_mixed rfl (da_cons (de_var 0) (da_cons (de_var 6) da_nil)) (hj := (by decide : 2 ≤ 4))) do_none (do_some (de_call F__law_pick rfl (da_cons (de_var 0) (da_cons de_int da_nil)) (hj := (by decide : 1 ≤ 4))))) da_nil) (hm := z.z_sorted)) da_nil) (hm := z.z_tuple)))
 dss_nil) dss_nil))
 (dss_cons (ds_if (dt_w (dw_or (dt_eq (de_var 5) de_int) (dw_or1 (dt_lt (de_var 1) de_int)))) (dss_cons (ds_ret (de_tuple (da_cons (de_lc (own := [("order", 7)]) (hb := by first | rfl | kernel_rfl) (di_seq (de_var 6)) (dg_n 7) (dts_one (dt_gt (de_call F__law_pick rfl (da_cons (de_var 0) (da_cons de_int da_nil)) (hj := (by decide : 1 ≤ 4))) de_int)) (de_var 7)) da_nil) (hm := z.z_tuple)))
 dss_nil) dss_nil)
 (dss_cons (ds_set 2 (de_call F__law_draw_book rfl (da_cons (de_var 0) (da_cons (de_var 1) (da_cons de_int da_nil))) (hj := (by decide : 4 ≤ 4))))
 (dss_cons (ds_setLc 3 (own := [("order", 7)]) (hb := by first | rfl | kernel_rfl) (di_seq (de_var 6)) (dg_n 7) (dts_one (dt_tru (de_call F__law_keeps_all rfl (da_cons (de_ix (de_var 2) de_int) (da_cons (de_var 7) da_nil)) (hj := (by decide : 2 ≤ 4))))) (de_var 7))
 (dss_cons (ds_frz 3 (ds_set 4 (de_if (dt_w (dw_and (dt_eq (de_var 5) de_int) (dw_and1 (dt_ne (de_var 3) (de_lst da_nil))))) (de_call F__law_of rfl (da_cons (de_var 0) (da_cons (de_var 3) da_nil)) (hj := (by decide : 2 ≤ 4))) de_non)))
 (dss_cons (ds_ret (de_tuple (da_cons (de_lc (own := [("order", 7)]) (hb := by first | rfl | kernel_rfl) (di_seq (de_var 3)) (dg_n 7) (dts_one (dt_ne (de_var 7) (de_var 4))) (de_var 7)) da_nil) (hm := z.z_tuple)))
 dss_nil))))))))

abbrev s__law_is_integers : Stmt := top 31
theorem d__law_is_integers (z : Zs mg) {f : Addr} {fd : FuncData} (F : FunD K "_law_is_integers" "_law_is_integers" (defArgs s__law_is_integers) (defBody s__law_is_integers) (defScope s__law_is_integers) [] [] f fd) (hg : mg "_law_is_integers" = some (.ref f)) : FnD P w K mg base 1 "_law_is_integers" 2 srcY m__law_is_integers :=
  fnD_mk (N := ["value", "many", "one"]) (k := 0) (st := s__law_is_integers) (funOf F) hg (F.bindsN (ps := ["value", "many"]) fun _ _ _ _ _ _ us hl => match us, hl with | [_, _], _ => rfl) ⟨rfl, rfl, rfl, by decide +kernel, rfl, by decide +kernel, by decide +kernel⟩ (show DSs _ srcY _ b__law_is_integers from
 (dss_cons (ds_if (dt_w (dw_or (dt_not (dt_tru (de_isi isi_tuple (de_var 0) (by decide +kernel) (hm2 := z.z_tuple) (hm := z.z_isinstance)))) (dw_or1 (dt_ne (de_len (da_cons (de_var 0) da_nil) (hm := z.z_len)) (de_var 1))))) (dss_cons (ds_ret de_bl)
 dss_nil) dss_nil)
 (dss_cons (ds_ret (de_eq (de_lc (own := [("one", 2)]) (hb := by first | rfl | kernel_rfl) (di_seq (de_var 0)) (dg_n 2) (dts_one (dt_w (dw_or (dt_tru (de_isi isi_bool (de_var 2) (by decide +kernel) (hm2 := z.z_bool) (hm := z.z_isinstance))) (dw_or1 (dt_not (dt_tru (de_isi isi_int (de_var 2) (by decide +kernel) (hm2 := z.z_int) (hm := z.z_isinstance)))))))) (de_var 2)) (de_lst da_nil)))
 dss_nil)))

abbrev s__law_row_numbers : Stmt := top 32
theorem d__law_row_numbers (z : Zs mg) {f : Addr} {fd : FuncData} (F : FunD K "_law_row_numbers" "_law_row_numbers" (defArgs s__law_row_numbers) (defBody s__law_row_numbers) (defScope s__law_row_numbers) [] [] f fd) (hg : mg "_law_row_numbers" = some (.ref f)) (F__law_is_integers : FnD P w K mg base 1 "_law_is_integers" 2 srcY m__law_is_integers) : FnD P w K mg base 2 "_law_row_numbers" 2 srcY m__law_row_numbers :=
  fnD_mk (N := ["value", "many", "one"]) (k := 1) (st := s__law_row_numbers) (funOf F) hg (F.bindsN (ps := ["value", "many"]) fun _ _ _ _ _ _ us hl => match us, hl with | [_, _], _ => rfl) ⟨rfl, rfl, rfl, by decide +kernel, rfl, by decide +kernel, by decide +kernel⟩ (show DSs _ srcY _ b__law_row_numbers from
 (dss_cons (ds_ret (de_and (de_call F__law_is_integers rfl (da_cons (de_var 0) (da_cons (de_var 1) da_nil)) (hj := (by decide : 1 ≤ 1))) (de_one (de_eq (de_lc (own := [("one", 2)]) (hb := by first | rfl | kernel_rfl) (di_seq (de_var 0)) (dg_n 2) (dts_one (dt_lt (de_var 2) de_int)) (de_var 2)) (de_lst da_nil)))))
 dss_nil))

abbrev s__law_is_saying : Stmt := top 33
theorem d__law_is_saying (z : Zs mg) {f : Addr} {fd : FuncData} (F : FunD K "_law_is_saying" "_law_is_saying" (defArgs s__law_is_saying) (defBody s__law_is_saying) (defScope s__law_is_saying) [] [] f fd) (hg : mg "_law_is_saying" = some (.ref f)) (F__law_row_numbers : FnD P w K mg base 2 "_law_row_numbers" 2 srcY m__law_row_numbers) : FnD P w K mg base 3 "_law_is_saying" 2 srcY m__law_is_saying :=
  fnD_mk (N := ["n", "value", "tie", "head", "k"]) (k := 2) (st := s__law_is_saying) (funOf F) hg (F.bindsN (ps := ["n", "value"]) fun _ _ _ _ _ _ us hl => match us, hl with | [_, _], _ => rfl) ⟨rfl, rfl, rfl, by decide +kernel, rfl, by decide +kernel, by decide +kernel⟩ (show DSs _ srcY _ b__law_is_saying from
 (dss_cons (ds_if (dt_w (dw_or (dt_not (dt_tru (de_isi isi_tuple (de_var 1) (by decide +kernel) (hm2 := z.z_tuple) (hm := z.z_isinstance)))) (dw_or (dt_ne (de_len (da_cons (de_var 1) da_nil) (hm := z.z_len)) de_int) (dw_or1 (dt_not (dt_tru (de_isi isi_tuple (de_ix (de_var 1) de_int) (by decide +kernel) (hm2 := z.z_tuple) (hm := z.z_isinstance)))))))) (dss_cons (ds_ret de_bl)
 dss_nil) dss_nil)
 (dss_cons (ds_for (di_seq (de_ix (de_var 1) de_int)) (dg_n 2) (dss_cons (ds_if (dt_w (dw_or (dt_not (dt_tru (de_call F__law_row_numbers rfl (da_cons (de_var 2) (da_cons de_int da_nil)) (hj := (by decide : 2 ≤ 2))))) (dw_or1 (dt_not (dt_chain (fun _ _ => op_lt) (fun _ _ => op_lt) s_lt s_lt (de_ix (de_var 2) de_int) (de_ix (de_var 2) de_int) (de_var 0)))))) (dss_cons (ds_ret de_bl)
 dss_nil) dss_nil)
 dss_nil))
 (dss_cons (ds_if (dt_ne (de_lc (own := [("k", 4)]) (hb := by first | rfl | kernel_rfl) (di_range2 de_int (de_len (da_cons (de_ix (de_var 1) de_int) da_nil) (hm := z.z_len)) (hm := z.z_range)) (dg_n 4) (dts_one (dt_geT (de_ix (de_ix (de_var 1) de_int) (de_sub (de_var 4) de_int)) (de_ix (de_ix (de_var 1) de_int) (de_var 4)))) (de_var 4)) (de_lst da_nil)) (dss_cons (ds_ret de_bl)
 dss_nil) dss_nil)
 (dss_cons (ds_set 3 (de_ix (de_var 1) de_int))
 (dss_cons (ds_ret (de_or (de_is (de_var 3) de_non) (de_one (de_and (de_call F__law_row_numbers rfl (da_cons (de_var 3) (da_cons de_int da_nil)) (hj := (by decide : 2 ≤ 2))) (de_and (de_ne (de_ix (de_var 3) de_int) (de_ix (de_var 3) de_int)) (de_one (de_lt (de_max1 (da_cons (de_var 3) da_nil) (hm := z.z_max)) (de_var 0))))))))
 dss_nil))))))

abbrev s__law_ties_of : Stmt := top 34
theorem d__law_ties_of (z : Zs mg) {f : Addr} {fd : FuncData} (F : FunD K "_law_ties_of" "_law_ties_of" (defArgs s__law_ties_of) (defBody s__law_ties_of) (defScope s__law_ties_of) [] [] f fd) (hg : mg "_law_ties_of" = some (.ref f)) : FnD P w K mg base 1 "_law_ties_of" 1 srcY m__law_ties_of :=
  fnD_mk (N := ["order", "found", "a", "b"]) (k := 0) (st := s__law_ties_of) (funOf F) hg (F.bindsN (ps := ["order"]) fun _ _ _ _ _ _ us hl => match us, hl with | [_], _ => rfl) ⟨rfl, rfl, rfl, by decide +kernel, rfl, by decide +kernel, by decide +kernel⟩ (show DSs _ srcY _ b__law_ties_of from
 (dss_cons (ds_set 1 (de_lst da_nil))
 (dss_cons (ds_for (di_range1 (de_len (da_cons (de_var 0) da_nil) (hm := z.z_len)) (hm := z.z_range)) (dg_n 2) (dss_cons (ds_set 1 (de_add (de_var 1) (de_lc (own := [("b", 3)]) (hb := by first | rfl | kernel_rfl) (di_range2 (de_add (de_var 2) de_int) (de_len (da_cons (de_var 0) da_nil) (hm := z.z_len)) (hm := z.z_range)) (dg_n 3) (dts_one (dt_eq (de_ix (de_var 0) (de_var 2)) (de_ix (de_var 0) (de_var 3)))) (de_tup (da_cons (de_var 2) (da_cons (de_var 3) da_nil))))))
 dss_nil))
 (dss_cons (ds_ret (de_tuple (da_cons (de_var 1) da_nil) (hm := z.z_tuple)))
 dss_nil))))

abbrev s__law_near : Stmt := top 35
theorem d__law_near (z : Zs mg) {f : Addr} {fd : FuncData} (F : FunD K "_law_near" "_law_near" (defArgs s__law_near) (defBody s__law_near) (defScope s__law_near) [] [] f fd) (hg : mg "_law_near" = some (.ref f)) (F__law_ties_of : FnD P w K mg base 1 "_law_ties_of" 1 srcY m__law_ties_of) : FnD P w K mg base 2 "_law_near" 2 srcY m__law_near :=
  fnD_mk (N := ["some", "order", "ties", "one", "a", "b"]) (k := 1) (st := s__law_near) (funOf F) hg (F.bindsN (ps := ["some", "order"]) fun _ _ _ _ _ _ us hl => match us, hl with | [_, _], _ => rfl) ⟨rfl, rfl, rfl, by decide +kernel, rfl, by decide +kernel, by decide +kernel⟩ (show DSs _ srcY _ b__law_near from
 (dss_cons (ds_set 2 (de_call F__law_ties_of rfl (da_cons (de_var 1) da_nil) (hj := (by decide : 1 ≤ 1))))
 (dss_cons (ds_ret (de_lc (own := [("one", 3)]) (hb := by first | rfl | kernel_rfl) (di_seq (de_var 0)) (dg_n 3) (dts_one (dt_eq (de_lc (own := [("a", 4), ("b", 5)]) (hb := by first | rfl | kernel_rfl) (di_seq (de_var 2)) (dg_t (dgs_cons (dg_n 4) (dgs_cons (dg_n 5) dgs_nil))) (dts_one (dt_ne (de_ix (de_var 3) (de_var 4)) (de_ix (de_var 3) (de_var 5)))) de_int) (de_lst da_nil))) (de_var 3)))
 dss_nil)))

abbrev s__law_earlier : Stmt := top 36
theorem d__law_earlier (z : Zs mg) {f : Addr} {fd : FuncData} (F : FunD K "_law_earlier" "_law_earlier" (defArgs s__law_earlier) (defBody s__law_earlier) (defScope s__law_earlier) [] [] f fd) (hg : mg "_law_earlier" = some (.ref f)) : FnD P w K mg base 1 "_law_earlier" 1 srcY m__law_earlier :=
  fnD_mk (N := ["order", "found", "u", "v"]) (k := 0) (st := s__law_earlier) (funOf F) hg (F.bindsN (ps := ["order"]) fun _ _ _ _ _ _ us hl => match us, hl with | [_], _ => rfl) ⟨rfl, rfl, rfl, by decide +kernel, rfl, by decide +kernel, by decide +kernel⟩ (show DSs _ srcY _ b__law_earlier from
 (dss_cons (ds_set 1 (de_lst da_nil))
 (dss_cons (ds_for (di_range1 (de_len (da_cons (de_var 0) da_nil) (hm := z.z_len)) (hm := z.z_range)) (dg_n 2) (dss_cons (ds_set 1 (de_add (de_var 1) (de_lc (own := [("v", 3)]) (hb := by first | rfl | kernel_rfl) (di_range1 (de_len (da_cons (de_var 0) da_nil) (hm := z.z_len)) (hm := z.z_range)) (dg_n 3) (dts_one (dt_lt (de_ix (de_var 0) (de_var 3)) (de_ix (de_var 0) (de_var 2)))) (de_tup (da_cons (de_var 2) (da_cons (de_var 3) da_nil))))))
 dss_nil))
 (dss_cons (ds_ret (de_var 1))
 dss_nil))))

abbrev s__law_is_refused : Stmt := top 37
theorem d__law_is_refused (z : Zs mg) {f : Addr} {fd : FuncData} (F : FunD K "_law_is_refused" "_law_is_refused" (defArgs s__law_is_refused) (defBody s__law_is_refused) (defScope s__law_is_refused) [] [] f fd) (hg : mg "_law_is_refused" = some (.ref f)) (F__law_earlier : FnD P w K mg base 1 "_law_earlier" 1 srcY m__law_earlier) (F__law_near : FnD P w K mg base 2 "_law_near" 2 srcY m__law_near) : FnD P w K mg base 3 "_law_is_refused" 2 srcY m__law_is_refused :=
  fnD_mk (N := ["some", "order", "near", "u", "v", "one"]) (k := 2) (st := s__law_is_refused) (funOf F) hg (F.bindsN (ps := ["some", "order"]) fun _ _ _ _ _ _ us hl => match us, hl with | [_, _], _ => rfl) ⟨rfl, rfl, rfl, by decide +kernel, rfl, by decide +kernel, by decide +kernel⟩ (show DSs _ srcY _ b__law_is_refused from
 (dss_cons (ds_set 2 (de_call F__law_near rfl (da_cons (de_var 0) (da_cons (de_var 1) da_nil)) (hj := (by decide : 2 ≤ 2))))
 (dss_cons (ds_frz 2 (ds_if (dt_eq (de_var 2) (de_lst da_nil)) (dss_cons (ds_ret de_bl)
 dss_nil) dss_nil))
 (dss_cons (ds_for (di_seq (de_call F__law_earlier rfl (da_cons (de_var 1) da_nil) (hj := (by decide : 1 ≤ 2)))) (dg_t (dgs_cons (dg_n 3) (dgs_cons (dg_n 4) dgs_nil))) (dss_cons (ds_if (dt_eq (de_lc (own := [("one", 5)]) (hb := by first | rfl | kernel_rfl) (di_seq (de_var 2)) (dg_n 5) (dts_one (dt_lt (de_ix (de_var 5) (de_var 4)) (de_ix (de_var 5) (de_var 3)))) (de_var 5)) (de_lst da_nil)) (dss_cons (ds_ret de_bl)
 dss_nil) dss_nil)
 dss_nil))
 (dss_cons (ds_ret de_bl)
 dss_nil)))))

abbrev s__law_hull : Stmt := top 38
theorem d__law_hull (z : Zs mg) {f : Addr} {fd : FuncData} (F : FunD K "_law_hull" "_law_hull" (defArgs s__law_hull) (defBody s__law_hull) (defScope s__law_hull) [] [] f fd) (hg : mg "_law_hull" = some (.ref f)) (F__law_orders : FnD P w K mg base 1 "_law_orders" 1 srcY m__law_orders) (F__law_is_refused : FnD P w K mg base 3 "_law_is_refused" 2 srcY m__law_is_refused) : FnD P w K mg base 4 "_law_hull" 2 srcY m__law_hull :=
  fnD_mk (N := ["n", "some", "order"]) (k := 3) (st := s__law_hull) (funOf F) hg (F.bindsN (ps := ["n", "some"]) fun _ _ _ _ _ _ us hl => match us, hl with | [_, _], _ => rfl) ⟨rfl, rfl, rfl, by decide +kernel, rfl, by decide +kernel, by decide +kernel⟩ (show DSs _ srcY _ b__law_hull from
 (dss_cons (ds_ret (de_tuple (da_cons (de_lc (own := [("order", 2)]) (hb := by first | rfl | kernel_rfl) (di_seq (de_call F__law_orders rfl (da_cons (de_var 0) da_nil) (hj := (by decide : 1 ≤ 3)))) (dg_n 2) (dts_one (dt_not (dt_tru (de_call F__law_is_refused rfl (da_cons (de_var 1) (da_cons (de_var 2) da_nil)) (hj := (by decide : 3 ≤ 3)))))) (de_var 2)) da_nil) (hm := z.z_tuple)))
 dss_nil))

abbrev s_law : Stmt := top 39
abbrev N_law : List Str := ["script", "source", "lap", "n", "some", "due", "book", "told", "kept", "order", "saying"]
theorem d_law (z : Zs mg) (F_said : FnD P w K mg base 3 "said" 1 srcY m_said) (F_passes : FnD P w K mg base 4 "passes" 2 srcY m_passes) (F__law_orders : FnD P w K mg base 1 "_law_orders" 1 srcY m__law_orders) (F__law_keeps_all : FnD P w K mg base 2 "_law_keeps_all" 2 srcY m__law_keeps_all) (F__law_draw_saying : FnD P w K mg base 3 "_law_draw_saying" 3 srcY m__law_draw_saying) (F__law_draw_book : FnD P w K mg base 4 "_law_draw_book" 3 srcY m__law_draw_book) (F_book_of : FnD P w K mg base 3 "book_of" 2 srcY m_book_of) (F__law_hull : FnD P w K mg base 4 "_law_hull" 2 srcY m__law_hull) (F__law_is_saying : FnD P w K mg base 3 "_law_is_saying" 2 srcY m__law_is_saying) (F__law_draw_set : FnD P w K mg base 5 "_law_draw_set" 2 srcY m__law_draw_set) : DSs (ccOf P w K mg base N_law (defScope s_law) 5) srcY (defBody s_law).tail b_law := (show DSs _ srcY _ b_law from
 (dss_cons (ds_for (di_range1 de_int (hm := z.z_range)) (dg_n 2) (dss_cons (ds_set 3 (de_ix (de_lst (da_cons de_int (da_cons de_int (da_cons de_int (da_cons de_int (da_cons de_int (da_cons de_int (da_cons de_int da_nil)))))))) (de_var 2)))
 (dss_cons (ds_set 4 (de_call F__law_draw_set rfl (da_cons (de_var 1) (da_cons (de_var 3) da_nil)) (hj := (by decide : 5 ≤ 5))))
 (dss_cons (ds_asgG (de_tup (da_cons (de_call F_book_of rfl (da_cons (de_var 3) (da_cons (de_var 4) da_nil)) (hj := (by decide : 3 ≤ 5))) (da_cons (de_repr (da_cons (de_var 4) da_nil) (hm := z.z_repr)) da_nil))) (dg_t (dgs_cons (dg_n 7) (dgs_cons (dg_n 8) dgs_nil))) (hw := by intro env h; cases env; cases h; rfl))
 (dss_cons (ds_if (dt_w (dw_or (dt_not (dt_tru (de_isi isi_tuple (de_var 7) (by decide +kernel) (hm2 := z.z_tuple) (hm := z.z_isinstance)))) (dw_or (dt_ne (de_len (da_cons (de_var 7) da_nil) (hm := z.z_len)) de_int) (dw_or (dt_ne (de_repr (da_cons (de_ix (de_var 7) de_int) da_nil) (hm := z.z_repr)) (de_repr (da_cons (de_var 3) da_nil) (hm := z.z_repr))) (dw_or1 (dt_not (dt_tru (de_isi isi_tuple (de_ix (de_var 7) de_int) (by decide +kernel) (hm2 := z.z_tuple) (hm := z.z_isinstance))))))))) (dss_cons (ds_ret de_bl)
 dss_nil) dss_nil)
 (dss_cons (ds_if (dt_w (dw_or (dt_ne (de_lc (own := [("saying", 10)]) (hb := by first | rfl | kernel_rfl) (di_seq (de_ix (de_var 7) de_int)) (dg_n 10) (dts_one (dt_not (dt_tru (de_call F__law_is_saying rfl (da_cons (de_var 3) (da_cons (de_var 10) da_nil)) (hj := (by decide : 3 ≤ 5)))))) (de_var 10)) (de_lst da_nil)) (dw_or1 (dt_ne (de_repr (da_cons (de_var 4) da_nil) (hm := z.z_repr)) (de_var 8))))) (dss_cons (ds_ret de_bl)
 dss_nil) dss_nil)
 (dss_cons (ds_set 5 (de_call F__law_hull rfl (da_cons (de_var 3) (da_cons (de_var 4) da_nil)) (hj := (by decide : 4 ≤ 5))))
 (dss_cons (ds_if (dt_ne (de_tuple (da_cons (de_lc (own := [("order", 9)]) (hb := by first | rfl | kernel_rfl) (di_seq (de_call F__law_orders rfl (da_cons (de_var 3) da_nil) (hj := (by decide : 1 ≤ 5)))) (dg_n 9) (dts_one (dt_tru (de_call F__law_keeps_all rfl (da_cons (de_ix (de_var 7) de_int) (da_cons (de_var 9) da_nil)) (hj := (by decide : 2 ≤ 5))))) (de_var 9)) da_nil) (hm := z.z_tuple)) (de_var 5)) (dss_cons (ds_ret de_bl)
 dss_nil) dss_nil)
 (dss_cons (ds_if (dt_w (dw_or (dt_ne (de_repr (da_cons (de_call F_said rfl (da_cons (de_var 7) da_nil) (hj := (by decide : 3 ≤ 5))) da_nil) (hm := z.z_repr)) (de_repr (da_cons (de_var 5) da_nil) (hm := z.z_repr))) (dw_or1 (dt_ne (de_repr (da_cons (de_call F_book_of rfl (da_cons (de_var 3) (da_cons (de_var 4) da_nil)) (hj := (by decide : 3 ≤ 5))) da_nil) (hm := z.z_repr)) (de_repr (da_cons (de_var 7) da_nil) (hm := z.z_repr)))))) (dss_cons (ds_ret de_bl)
 dss_nil) dss_nil)
 (dss_cons (ds_set 6 (de_call F__law_draw_book rfl (da_cons (de_var 1) (da_cons (de_max2 (da_cons de_int (da_cons (de_var 3) da_nil)) (hm := z.z_max)) (da_cons de_int da_nil))) (hj := (by decide : 4 ≤ 5))))
 (dss_cons (ds_set 6 (de_tup (da_cons (de_ix (de_var 6) de_int) (da_cons (de_add (de_ix (de_var 6) de_int) (de_tup (da_cons (de_call F__law_draw_saying rfl (da_cons (de_var 1) (da_cons (de_ix (de_var 6) de_int) (da_cons de_int da_nil))) (hj := (by decide : 3 ≤ 5))) da_nil))) da_nil))))
 (dss_cons (ds_set 5 (de_tuple (da_cons (de_lc (own := [("order", 9)]) (hb := by first | rfl | kernel_rfl) (di_seq (de_call F__law_orders rfl (da_cons (de_ix (de_var 6) de_int) da_nil) (hj := (by decide : 1 ≤ 5)))) (dg_n 9) (dts_one (dt_tru (de_call F__law_keeps_all rfl (da_cons (de_ix (de_var 6) de_int) (da_cons (de_var 9) da_nil)) (hj := (by decide : 2 ≤ 5))))) (de_var 9)) da_nil) (hm := z.z_tuple)))
 (dss_cons (ds_if (dt_w (dw_or (dt_ne (de_repr (da_cons (de_call F_said rfl (da_cons (de_var 6) da_nil) (hj := (by decide : 3 ≤ 5))) da_nil) (hm := z.z_repr)) (de_repr (da_cons (de_var 5) da_nil) (hm := z.z_repr))) (dw_or1 (dt_isNot (de_call F_passes rfl (da_cons (de_ix (de_var 6) de_int) (da_cons (de_var 5) da_nil)) (hj := (by decide : 4 ≤ 5))) de_bl)))) (dss_cons (ds_ret de_bl)
 dss_nil) dss_nil)
 dss_nil)))))))))))))
 (dss_cons (ds_ret (de_and (de_eq (de_call F_said rfl (da_cons (de_tup (da_cons de_int (da_cons (de_tup da_nil) da_nil))) da_nil) (hj := (by decide : 3 ≤ 5))) (de_tup (da_cons (de_tup da_nil) da_nil))) (de_and (de_eq (de_call F_said rfl (da_cons (de_tup (da_cons de_int (da_cons (de_tup (da_cons (de_tup (da_cons (de_tup da_nil) (da_cons de_non da_nil))) da_nil)) da_nil))) da_nil) (hj := (by decide : 3 ≤ 5))) (de_tup da_nil)) (de_one (de_eq (de_call F_said rfl (da_cons (de_tup (da_cons de_int (da_cons (de_tup (da_cons (de_tup (da_cons (de_tup da_nil) (da_cons (de_tup (da_cons de_int (da_cons de_int da_nil))) da_nil))) da_nil)) da_nil))) da_nil) (hj := (by decide : 3 ≤ 5))) (de_tup (da_cons (de_tup (da_cons de_int (da_cons de_int da_nil))) (da_cons (de_tup (da_cons de_int (da_cons de_int da_nil))) da_nil))))))))
 dss_nil)))

end
end Dz

set_option Elab.async false
set_option linter.all false
set_option maxRecDepth 100000
set_option maxHeartbeats 0
namespace Dz
open PySem PySem.Spec PyProof.Rows L2 Dy
def mixC (m c : Int) : Int := (m * 69069 + c * 31 + 5) % 2147483629
def mixOf (ns : List Int) : Int := ns.foldl mixC 11
def absI (i : Int) : Int := if i < 0 then -i else i
def srcOf (ns : List Int) : Src := ⟨(ns.map absI).reverse, 1, mixOf ns, 0⟩
def spSource (K : PySem.W.Frag) : Sp := fun vs H Q _ => ∃ (a : Addr) (ns : List Int), vs = [.ref a] ∧ SqL K H a (ns.map V.int) ∧ ns.length ≤ 63 ∧
  ∀ (H' : Hp) (p q : Addr), Same H H' → H p = none → H q = none → p ≠ q → H' p = some (.dK (srcK q (srcOf ns))) → H' q = some (.lst ((srcOf ns).cells.map V.int)) → Q (.ref p) H'
theorem mixOf_take {ns : List Int} {i : Nat} {x : Int} (h : ns[i]? = some x) : mixOf (ns.take (i + 1)) = mixC (mixOf (ns.take i)) x := by
  unfold mixOf
  rw [List.take_add_one, h, List.foldl_append]
  rfl
section
variable {P : Program} {w : World} {K : PySem.W.Frag} {mg : Str → Option Value} {base : Heap}
abbrev s_source : Stmt := top 20
theorem sc_source : FnScope ["script", "mixed", "cell"] ["script"] (defScope s_source) := ⟨rfl, rfl, rfl, by decide +kernel, rfl, by decide +kernel, by decide +kernel⟩
theorem ok_source (z : Zs mg) {f : Addr} {fd : FuncData} (F : FunD K "_law_source" "_law_source" (defArgs s_source) (defBody s_source) (defScope s_source) [] [] f fd) : FnG P w K mg base (L2.CX P w) 1 f fd ["script"] (spSource K) := by
  obtain ⟨⟨oc, od, dV, kV, doc, pm, an, cdv, ct, osl, rfl, lk, hcd, _⟩, kp⟩ := F
  refine fn_ofG (k := 0) lk hcd sc_source (fun vs H Q E h => ?_) fun A outer s H vs Q E hgd hr h => ?_
  · obtain ⟨a, ns, rfl, _⟩ := h
    rfl
  obtain ⟨a, ns, rfl, hS, hlen, q⟩ := h
  refine ⟨_, pss_cons (ps_set (i := 1) sc_source.nd rfl (.inl rfl) pe_int)
    (pss_cons (ps_for (passes_of rfl) rfl (pi_list (pv 0)) (pg_name (i := 2) sc_source.nd rfl (.inl rfl))
      (pss_one (ps_set (i := 1) sc_source.nd rfl (.inl rfl) (pe_op op_mod (pe_callTy call_int1 (by rfl) z.z_int (by decide +kernel) (pa_cons (pe_op op_add (pe_op op_add (pe_op op_mul (pv 1) pe_int) (pe_op op_mul (pv 2) pe_int)) pe_int) pa_nil)) pe_int))))
    (pss_one (ps_ret (pe_disp (pps_cons pe_str (pe_revL (pe_lc (own := [("cell", 2)]) rfl sc_source.nd (pi_list (pv 0)) (blkOk_by (by first | rfl | kernel_rfl)) (fun _ _ _ _ _ => pg_name (i := 2) sc_source.nd rfl (.inl rfl)) (fun _ _ _ _ _ => pts_nil)
        (fun _ _ _ _ _ => pe_callB call_abs (by rfl) z.z_abs (by decide +kernel) (pa_cons (pv 2) pa_nil))))
      (pps_cons pe_str pe_int (pps_cons pe_str (pv 1) (pps_cons pe_str pe_int pps_nil)))) rfl rfl (by simp) (by decide))))), ?_⟩
  -- mixed = 11, the loop
  refine ⟨_, rfl, _, rfl, ⟨_, hS⟩, for_list (K := K) (a := a) (xs := ns.map V.int) (fun i σ H' => ∃ v : Option V, σ = [some (.ref a), some (.int (mixOf (ns.take i))), v] ∧ H' = H)
    ⟨none, rfl, rfl⟩ (fun i σ H' _ ⟨_, _, e⟩ => e ▸ hS) ?_ ?_⟩
  · rintro i y σ H' hi ⟨v, rfl, rfl⟩
    obtain ⟨x, hx, rfl⟩ : ∃ x, ns[i]? = some x ∧ y = V.int x := by
      rw [List.getElem?_map] at hi
      cases e : ns[i]? with
      | none =>
        rw [e] at hi
        cases hi
      | some z =>
        rw [e] at hi
        exact ⟨z, rfl, (Option.some.inj hi).symm⟩
    refine ⟨_, rfl, _, _, rfl, rfl, .inr (by decide), _, rfl, _, _, rfl, rfl, .inr (by decide), _, _, rfl, rfl, _, _, rfl, rfl, .inl ⟨_, rfl, _, _, rfl, rfl, (show (0 : Int) < 2147483629 by decide), some (.int x), ?_, rfl⟩⟩
    rw [mixOf_take hx]
    rfl
  · rintro σ H' ⟨v, rfl, eH⟩
    subst eH
    rw [List.length_map, List.take_length]
    intro p hp
    have s1 : Same H' (upd H' p (.dK [])) := same_upd hp
    have uu : ∀ (h : Hp) (b : Addr) (u u' : HO), upd (upd h b u) b u' = upd h b u' := fun h b u u' => by
      funext c
      by_cases e : c = b
      · rw [e, upd_same, upd_same]
      · rw [upd_ne e, upd_ne e, upd_ne e]
    refine ⟨.ref a, rfl, a, rfl, ⟨_, s1.seq hS⟩, fun D hD => ?_⟩
    have nDp : D ≠ p := fun e => by
      rw [e, upd_same] at hD
      cases hD
    have hD0 : H' D = none := by
      rw [upd_ne nDp] at hD
      exact hD
    have s2 : ∀ u, Same H' (upd (upd H' p (.dK [])) D u) := fun u => s1.trans (same_upd hD)
    refine lc_list (K := K) (a := a) (xs := ns.map V.int) (fun i H2 => H2 = upd (upd H' p (.dK [])) D (.lst (((ns.take i).map absI).map V.int))) rfl (fun i H2 _ e => by rw [e]; exact (s2 _).seq hS) ?_ ?_
    · rintro i y H2 hi rfl
      obtain ⟨x, hx, rfl⟩ : ∃ x, ns[i]? = some x ∧ y = V.int x := by
        rw [List.getElem?_map] at hi
        cases e : ns[i]? with
        | none =>
          rw [e] at hi
          cases hi
        | some z =>
          rw [e] at hi
          exact ⟨z, rfl, (Option.some.inj hi).symm⟩
      refine ⟨rfl, ?_⟩
      unfold tYes
      dsimp only
      rw [if_pos rfl]
      refine ⟨_, rfl, x, rfl, _, upd_same, ?_, ?_⟩
      · rw [List.length_map, List.length_map, List.length_take, sizeLine_eq]
        omega
      · show _ = _
        rw [uu, List.take_add_one, hx, List.map_append, List.map_append]
        rfl
    · rintro H2 rfl
      rw [List.length_map, List.take_length]
      refine ⟨D, _, rfl, .inl (.inl upd_same), fun p2 hp2 => ?_⟩
      have n1 : p2 ≠ D := fun e => by
        rw [e, upd_same] at hp2
        cases hp2
      have n2 : p2 ≠ p := fun e => by
        rw [e, upd_ne (Ne.symm nDp), upd_same] at hp2
        cases hp2
      have h20 : H' p2 = none := by
        rw [upd_ne n1, upd_ne n2] at hp2
        exact hp2
      refine ⟨_, rfl, ?_⟩
      refine ⟨?_, [(.inr "cells", .ref p2), (.inr "left", .int 1), (.inr "mixed", .int (mixOf ns)), (.inr "turn", .int 0)], rfl, (show 4 ≤ 15 by decide), ?_⟩
      · rw [upd_ne (Ne.symm n2), upd_ne (Ne.symm nDp), upd_same]
      · refine q _ p p2 (fun b u e => ?_) hp h20 (Ne.symm n2) ?_ ?_
        · have b1 : b ≠ p := ne_of_none e hp
          rw [upd_ne b1, upd_ne (ne_of_none e h20), upd_ne (ne_of_none e hD0), upd_ne b1]
          exact e
        · rw [upd_same]
          rfl
        · rw [upd_ne n2, upd_same]
          show some (HO.lst (List.map V.int (List.map absI ns)).reverse) = some (HO.lst (List.map V.int (List.map absI ns).reverse))
          rw [List.map_reverse]
end
end Dz

set_option Elab.async false
set_option linter.all false
set_option maxRecDepth 100000
set_option maxHeartbeats 0
namespace Dz
open PySem PySem.Spec PyProof.Rows L2 Dy Dt
def t__law_pick (many_1 : Int) : M Src Int :=
  (tb (tWhile (fun (st_2 : Unit) => (tb (tb (tp many_1) fun x_10 => tb (tp (1 : Int)) fun y_11 => tp (decide (y_11 < x_10))) fun x_12 => if x_12 then (tb (tb (sGet Src.left) fun x_7 => tb (tp (2 : Int)) fun y_8 => tp (decide (x_7 < y_8))) fun x_9 => if x_9 then (tb sLenS fun x_5 => tb (tp (0 : Int)) fun y_6 => tp (decide (y_6 < x_5))) else tp false) else tp false)) (fun (st_2 : Unit) => (tb (tb sPopS fun n => sSet setLeft n) fun _ => (tp ()))) 100 ()) fun (st_2 : Unit) => (tb (sGet Src.left) fun (left_13 : Int) => (tb (tb (tb (tp many_1) fun x_16 => tb (tp (2 : Int)) fun y_17 => tp (decide (x_16 < y_17))) fun x_18 => if x_18 then tp true else (tb (tp left_13) fun x_14 => tb (tp (1 : Int)) fun y_15 => tp (decide (y_15 < x_14)))) fun b_19 => if b_19 then (tb (tb (tb (tp left_13) fun x_22 => tb (tb (tp (1 : Int)) fun x_20 => tb (tp many_1) fun y_21 => tp (if y_21 > x_20 then y_21 else x_20)) fun y_23 => tg (decide (0 < y_23) && decide (y_23 < 1073741824)) (x_22 / y_23)) fun n => sSet setLeft n) fun _ => (tb (tb (tp left_13) fun x_24 => tp x_24) fun x_27 => tb (tb (tp (1 : Int)) fun x_25 => tb (tp many_1) fun y_26 => tp (if y_26 > x_25 then y_26 else x_25)) fun y_28 => tg (decide (0 < y_28)) (x_27 % y_28))) else (tb (tb (tb (sGet Src.turn) fun x_29 => tb (tp (1 : Int)) fun y_30 => tp (x_29 + y_30)) fun n => sSet setTurn n) fun _ => (tb (tb (tb (tb (sGet Src.mixed) fun x_33 => tb (tb (sGet Src.turn) fun x_31 => tb (tp (104729 : Int)) fun y_32 => tg (within64 x_31 || within64 y_32) (x_31 * y_32)) fun y_34 => tp (x_33 + y_34)) fun x_35 => tp x_35) fun x_36 => tb (tp (998244353 : Int)) fun y_37 => tg (decide (0 < y_37)) (x_36 % y_37)) fun (mixed_38 : Int) => (tb (tb (tb (tb (tb (tp mixed_38) fun x_39 => tb (tp mixed_38) fun y_40 => tg (within64 x_39 || within64 y_40) (x_39 * y_40)) fun x_43 => tb (tb (sGet Src.turn) fun x_41 => tb (tp (17 : Int)) fun y_42 => tg (within64 x_41 || within64 y_42) (x_41 * y_42)) fun y_44 => tp (x_43 + y_44)) fun x_45 => tp x_45) fun x_46 => tb (tp (2147483647 : Int)) fun y_47 => tg (decide (0 < y_47)) (x_46 % y_47)) fun (mixed_48 : Int) => (tb (tb (tp mixed_48) fun n => sSet setMixed n) fun _ => (tb (tb (tb (tp mixed_48) fun x_49 => tb (tp (16 : Int)) fun y_50 => tg (decide (0 < y_50) && decide (y_50 < 1073741824)) (x_49 / y_50)) fun x_51 => tp x_51) fun x_52 => tb (tp many_1) fun y_53 => tg (decide (0 < y_53)) (x_52 % y_53)))))))))
theorem v__law_pick (many_1 : Int) : JF m__law_pick [.hdl 0, .val (eI many_1)] (t__law_pick many_1) (oV eI) := by
  refine @jf_def Src _ b__law_pick _ 4 _ [.hdl 0, .val (eI many_1), .non, .non] _ rfl ?_
  unfold b__law_pick t__law_pick
  refine jg_whileP (fun (st : Unit) (ρ : Fr) => ρ = [.hdl 0, .val (eI many_1), .non, .non]) rfl ?_ ?_ ?_
  · intro st_2 r_4 h_3
    obtain rfl := h_3
    exact (jt_and (jt_e (je_bin (JJ.r (jx_var (e := eI) (x := many_1) rfl)) (JJ.r (jx_c (e := eI) (x := 1) rfl)) op_gtI)) (jt_and (jt_e (je_bin (JJ.r (jx_src rfl)) (JJ.r (jx_c (e := eI) (x := 2) rfl)) op_ltI)) (jt_e (je_bin (JJ.r (jx_srcLen rfl)) (JJ.r (jx_c (e := eI) (x := 0) rfl)) op_gtI))))
  · intro st_2 r_4 h_3
    obtain rfl := h_3
    refine jg_nx (jn_src rfl (jx_srcPop rfl)) (fun _ => ?_)
    exact jg_nil rfl
  intro st_2 r_4 h_3
  obtain rfl := h_3
  refine jg_nx (ρ2 := fun left_13 => [.hdl 0, .val (eI many_1), .val (eI left_13), .non]) (jn_asg (jx_src rfl) (fun _ => rfl)) (fun left_13 => ?_)
  refine jg_ifR (jt_or (jt_e (je_bin (JJ.r (jx_var (e := eI) (x := many_1) rfl)) (JJ.r (jx_c (e := eI) (x := 2) rfl)) op_ltI)) (jt_e (je_bin (JJ.r (jx_var (e := eI) (x := left_13) rfl)) (JJ.r (jx_c (e := eI) (x := 1) rfl)) op_gtI))) ?_ ?_
  · refine jg_nx (jn_src rfl (je_bin (JJ.r (jx_var (e := eI) (x := left_13) rfl)) (JJ.r (je_bi2 (JJ.r (jx_c (e := eI) (x := 1) rfl)) (JJ.r (jx_var (e := eI) (x := many_1) rfl)) op_max2)) op_fdiv)) (fun _ => ?_)
    exact jg_ret (je_bin (JJ.r (je_bi1 (JJ.r (jx_var (e := eI) (x := left_13) rfl)) op_intI)) (JJ.r (je_bi2 (JJ.r (jx_c (e := eI) (x := 1) rfl)) (JJ.r (jx_var (e := eI) (x := many_1) rfl)) op_max2)) op_mod) (fun _ => rfl)
  refine jg_nx (jn_src rfl (je_bin (JJ.r (jx_src rfl)) (JJ.r (jx_c (e := eI) (x := 1) rfl)) op_addI)) (fun _ => ?_)
  refine jg_nx (ρ2 := fun mixed_38 => [.hdl 0, .val (eI many_1), .val (eI left_13), .val (eI mixed_38)]) (jn_asg (je_bin (JJ.r (je_bi1 (JJ.r (je_bin (JJ.r (jx_src rfl)) (JJ.r (je_bin (JJ.r (jx_src rfl)) (JJ.r (jx_c (e := eI) (x := 104729) rfl)) op_mulI)) op_addI)) op_intI)) (JJ.r (jx_c (e := eI) (x := 998244353) rfl)) op_mod) (fun _ => rfl)) (fun mixed_38 => ?_)
  refine jg_nx (ρ2 := fun mixed_48 => [.hdl 0, .val (eI many_1), .val (eI left_13), .val (eI mixed_48)]) (jn_asg (je_bin (JJ.r (je_bi1 (JJ.r (je_bin (JJ.r (je_bin (JJ.r (jx_var (e := eI) (x := mixed_38) rfl)) (JJ.r (jx_var (e := eI) (x := mixed_38) rfl)) op_mulI)) (JJ.r (je_bin (JJ.r (jx_src rfl)) (JJ.r (jx_c (e := eI) (x := 17) rfl)) op_mulI)) op_addI)) op_intI)) (JJ.r (jx_c (e := eI) (x := 2147483647) rfl)) op_mod) (fun _ => rfl)) (fun mixed_48 => ?_)
  refine jg_nx (jn_src rfl (jx_var (e := eI) (x := mixed_48) rfl)) (fun _ => ?_)
  exact jg_ret (je_bin (JJ.r (je_bi1 (JJ.r (je_bin (JJ.r (jx_var (e := eI) (x := mixed_48) rfl)) (JJ.r (jx_c (e := eI) (x := 16) rfl)) op_fdiv)) op_intI)) (JJ.r (jx_var (e := eI) (x := many_1) rfl)) op_mod) (fun _ => rfl)

def t__law_mixed {a : Type} (things : List a) : M Src (List a) := tb (tb (tb (tp things) fun x => tp (ilen x)) fun n => tg (in62 n) (ivl 0 n.toNat)) fun l => mixT t__law_pick l.length things []
theorem mixed_ok {a : Type} (e_a : a → D) (things : List a) (v : Sl) : JG [.hdl 0, v, .lst (things.map e_a), .non] (sSeq (sRet (eLc [3] (gN 3) (iRng (aCons (eBi lenD (aCons (eVar 2) aNil)) aNil)) tYesM (eMutL 2 fPopAt (aCons (eCall 2 m__law_pick (aCons (eVar 0) (aCons (eBi lenD (aCons (eVar 2) aNil)) aNil))) aNil)))) sNil) (t__law_mixed things) (IB (oL e_a)) :=
  jg_mixed (ji_rng1 (je_bi1 (jr_own (e := e_a) (l := things) rfl) op_lenL)) (fun rest d => JJ.v (je_callS2 rfl (JJ.s (JJ.v (je_bi1 (jr_own (e := e_a) (l := rest) rfl) op_lenL))) v__law_pick (fun _ => rfl)))
theorem v__law_mixed {a : Type} (e_a : a → D) (things : List a) : JF m__law_mixed [.hdl 0, .val (eL e_a things)] (t__law_mixed things) (oL e_a) :=
  jf_def (A := b__law_mixed) (n := 4) (ρ0 := [.hdl 0, .val (eL e_a things), .non, .non]) rfl (jg_nx0 (ρ2 := [.hdl 0, .val (eL e_a things), .lst (things.map e_a), .non]) (fun s => rfl) (mixed_ok e_a things _))
theorem v__law_mixedT {a : Type} (e_a : a → D) (things : List a) : JF m__law_mixed [.hdl 0, .val (eT e_a things)] (t__law_mixed things) (oL e_a) :=
  jf_def (A := b__law_mixed) (n := 4) (ρ0 := [.hdl 0, .val (eT e_a things), .non, .non]) rfl (jg_nx0 (ρ2 := [.hdl 0, .val (eT e_a things), .lst (things.map e_a), .non]) (fun s => rfl) (mixed_ok e_a things _))
def t__law_of {a : Type} (some_1 : (List a)) : M Src a :=
  (tb (tp some_1) fun x_4 => tb (tb (tb (tp some_1) fun x_2 => tp (ilen x_2)) fun a_3 => t__law_pick a_3) fun y_5 => to (atI x_4 y_5))
theorem v__law_of {a : Type} (e_a : a → D) (some_1 : (List a)) : JF m__law_of [.hdl 0, .val ((eL e_a) some_1)] (t__law_of some_1) (oV e_a) := by
  refine @jf_def Src _ b__law_of _ 2 _ [.hdl 0, .val ((eL e_a) some_1)] _ rfl ?_
  unfold b__law_of t__law_of
  exact jg_ret (je_bin (JJ.r (jx_var (e := (eL e_a)) (x := some_1) rfl)) (JJ.r (je_callS2 rfl (JJ.s (JJ.v (je_bi1 (JJ.r (jx_var (e := (eL e_a)) (x := some_1) rfl)) op_lenL))) v__law_pick (fun _ => rfl))) op_ixL) (fun _ => rfl)

def t_keeps (saying_1 : ((List (Int × Int)) × (Option (Int × Int)))) (placing_2 : (List Int)) : M Src Bool :=
  (tb (tp saying_1) fun (p_3 : ((List (Int × Int)) × (Option (Int × Int)))) => (tb (tb (tb (tb (tp p_3.1) fun l => tMap (fun (c_4 : (Int × Int)) => (tb (tb (tp placing_2) fun x_5 => tb (tp c_4.1) fun y_6 => to (atI x_5 y_6)) fun x_9 => tb (tb (tp placing_2) fun x_7 => tb (tp c_4.2) fun y_8 => to (atI x_7 y_8)) fun y_10 => tp (!decide (x_9 = y_10)))) l) fun x_11 => tp (x_11.any fun b => b)) fun x_12 => tp x_12) fun b_13 => if b_13 then (tp true) else (tb (tb (tp p_3.2) fun x_14 => tb (tp ()) fun y_15 => tp x_14.isSome) fun x_24 => if x_24 then (tb (tb (tp placing_2) fun x_17 => tb (tb (tb (tp p_3.2) fun x => to x) fun x_16 => tp x_16.1) fun y_18 => to (atI x_17 y_18)) fun x_22 => tb (tb (tp placing_2) fun x_20 => tb (tb (tb (tp p_3.2) fun x => to x) fun x_19 => tp x_19.2) fun y_21 => to (atI x_20 y_21)) fun y_23 => tp (decide (x_22 ≤ y_23))) else tp false)))
theorem v_keeps (saying_1 : ((List (Int × Int)) × (Option (Int × Int)))) (placing_2 : (List Int)) : JF m_keeps [.val ((eP (eT (eP eI eI)) (eO (eP eI eI))) saying_1), .val ((eT eI) placing_2)] (t_keeps saying_1 placing_2) (oV eB) := by
  refine @jf_def Src _ b_keeps _ 6 _ [.val ((eP (eT (eP eI eI)) (eO (eP eI eI))) saying_1), .val ((eT eI) placing_2), .non, .non, .non, .non] _ rfl ?_
  unfold b_keeps t_keeps
  refine jg_nx (ρ2 := fun p_3 => [.val ((eP (eT (eP eI eI)) (eO (eP eI eI))) saying_1), .val ((eT eI) placing_2), .val ((eT (eP eI eI)) p_3.1), .val ((eO (eP eI eI)) p_3.2), .non, .non]) (jn_asgG (JJ.v (jx_var (e := (eP (eT (eP eI eI)) (eO (eP eI eI)))) (x := saying_1) rfl)) (fun _ => rfl)) (fun p_3 => ?_)
  refine jg_ifR (jt_tru (JJ.r (je_bi1 (JJ.rl (je_map (e2 := eB) (ρ1 := fun c_4 => [.val ((eP (eT (eP eI eI)) (eO (eP eI eI))) saying_1), .val ((eT eI) placing_2), .val ((eT (eP eI eI)) p_3.1), .val ((eO (eP eI eI)) p_3.2), .val (eI c_4.1), .val (eI c_4.2)]) (ji_T (JJ.v (jx_var (e := (eT (eP eI eI))) (x := p_3.1) rfl))) (fun _ => rfl) (fun _ => rfl) rfl (fun c_4 => (JJ.v (je_bin (JJ.r (je_bin (JJ.r (jx_var (e := (eT eI)) (x := placing_2) rfl)) (JJ.r (jx_var (e := eI) (x := c_4.1) rfl)) op_ixT)) (JJ.r (je_bin (JJ.r (jx_var (e := (eT eI)) (x := placing_2) rfl)) (JJ.r (jx_var (e := eI) (x := c_4.2) rfl)) op_ixT)) (Dt.op_ne (e := eI))))))) op_any))) ?_ ?_
  · exact jg_ret (jx_c (e := eB) (x := true) rfl) (fun _ => rfl)
  exact jg_ret (je_and (je_bin (JJ.r (jx_var (e := (eO (eP eI eI))) (x := p_3.2) rfl)) (JJ.r (jx_c (e := eN) (x := ()) rfl)) op_isNotNone) (je_bin (JJ.r (je_bin (JJ.r (jx_var (e := (eT eI)) (x := placing_2) rfl)) (JJ.r (je_ixc (JJ.r (JJ.unO (jx_var (e := (eO (eP eI eI))) (x := p_3.2) rfl))) op_ixP0)) op_ixT)) (JJ.r (je_bin (JJ.r (jx_var (e := (eT eI)) (x := placing_2) rfl)) (JJ.r (je_ixc (JJ.r (JJ.unO (jx_var (e := (eO (eP eI eI))) (x := p_3.2) rfl))) op_ixP1)) op_ixT)) op_leI)) (fun _ => rfl)

def t_first_broken (book_1 : (Int × (List ((List (Int × Int)) × (Option (Int × Int)))))) (placing_2 : (List Int)) : M Src (Option Int) :=
  (tbB (tb (tb (tb (tp book_1) fun x_3 => tp x_3.2) fun x_4 => tp (enumT x_4)) fun l => tForX (fun (i_8 : (Int × ((List (Int × Int)) × (Option (Int × Int))))) (st_7 : Unit) => (tb (tb (tb (tb (tp i_8.2) fun a_13 => tb (tp placing_2) fun a_14 => t_keeps a_13 a_14) fun x_15 => tp x_15) fun x_16 => tp (!x_16)) fun b_17 => if b_17 then tb (tb (tp i_8.1) fun x => tp (some x)) (fun x => tp (.rt x)) else (tp (.nx ())))) l ()) fun (st_7 : Unit) => (tb (tp ()) fun x => tp ((fun _ => (none : (Option Int))) x)))
theorem v_first_broken (book_1 : (Int × (List ((List (Int × Int)) × (Option (Int × Int)))))) (placing_2 : (List Int)) : JF m_first_broken [.val ((eP eI (eT (eP (eT (eP eI eI)) (eO (eP eI eI))))) book_1), .val ((eT eI) placing_2)] (t_first_broken book_1 placing_2) (oV (eO eI)) := by
  refine @jf_def Src _ b_first_broken _ 4 _ [.val ((eP eI (eT (eP (eT (eP eI eI)) (eO (eP eI eI))))) book_1), .val ((eT eI) placing_2), .non, .non] _ rfl ?_
  unfold b_first_broken t_first_broken
  refine jg_forXB (fun (st : Unit) (ρ : Fr) => ∃ (z_5 : Sl) (z_6 : Sl), ρ = [.val ((eP eI (eT (eP (eT (eP eI eI)) (eO (eP eI eI))))) book_1), .val ((eT eI) placing_2), z_5, z_6]) (ji_enumT (JJ.v (je_ixc (JJ.r (jx_var (e := (eP eI (eT (eP (eT (eP eI eI)) (eO (eP eI eI)))))) (x := book_1) rfl)) op_ixP1))) ⟨_, _, rfl⟩ ?_ ?_
  · intro i_8 st_7 r_10 h_9
    obtain ⟨z_11, z_12, rfl⟩ := h_9
    refine ⟨[.val ((eP eI (eT (eP (eT (eP eI eI)) (eO (eP eI eI))))) book_1), .val ((eT eI) placing_2), .val (eI i_8.1), .val ((eP (eT (eP eI eI)) (eO (eP eI eI))) i_8.2)], rfl, ?_⟩
    refine jg_ifRX (jt_not (jt_tru (JJ.r (je_call2 (JJ.s (JJ.v (jx_var (e := (eP (eT (eP eI eI)) (eO (eP eI eI)))) (x := i_8.2) rfl))) (JJ.s (JJ.v (jx_var (e := (eT eI)) (x := placing_2) rfl))) v_keeps (fun _ => rfl))))) ?_ ?_
    · exact jg_ret (JJ.as (e' := (eO eI)) (f := some) (jx_var (e := eI) (x := i_8.1) rfl) (fun _ => rfl)) (fun _ => rfl)
    exact jg_nilX ⟨_, _, rfl⟩
  intro st_7 r_10 h_9
  obtain ⟨z_18, z_19, rfl⟩ := h_9
  exact jg_ret (JJ.as (e' := (eO eI)) (f := (fun _ => (none : (Option Int)))) (jx_c (e := eN) (x := ()) rfl) (fun _ => rfl)) (fun _ => rfl)

def t_spreads (order_1 : (List Int)) : M Src (List (List Int)) :=
  (tb (tb (tb (tp order_1) fun x_2 => tg (decide (x_2.length < 2000)) (ilen (uniqI x_2))) fun levels_3 => tb (tb (tp ([] : List (List Int))) fun l => tg (sizeOk l.length) l) fun found_4 => tp (levels_3, found_4)) fun (p_5 : Int × (List (List Int))) => (tb (tb (tb (tp p_5.1) fun x_6 => tg (in62 x_6) (ivl 0 x_6.toNat)) fun l => tFor (fun (i_9 : Int) (st_8 : (List (List Int))) => (tb (tb (tb (tp order_1) fun x_14 => tb (tb (tb (tp i_9) fun x => tb (tp ([] : List Int)) fun l => tp (x :: l)) fun l => tg (sizeOk l.length) l) fun y_15 => tg (sizeOk (x_14.length + y_15.length)) (x_14 ++ y_15)) fun b => tApp st_8 b) fun found_13 => (tp found_13))) l p_5.2) fun (st_8 : (List (List Int))) => (tb (tb (tb (tb (tp p_5.1) fun x_17 => tb (tp (1 : Int)) fun y_18 => tp (x_17 + y_18)) fun x_19 => tg (in62 x_19) (ivl 0 x_19.toNat)) fun l => tFor (fun (i_23 : Int) (st_22 : (List (List Int))) => (tb (tb (tb (tb (tb (tp order_1) fun l => tMap (fun (c_29 : Int) => (tb (tp c_29) fun x_33 => tb (tb (tb (tp c_29) fun x_30 => tb (tp i_23) fun y_31 => tp (decide (y_31 ≤ x_30))) fun x_32 => tp (Dt.b2i x_32)) fun y_34 => tp (x_33 + y_34))) l) fun x_35 => tp x_35) fun x_36 => tb (tb (tb (tp i_23) fun x => tb (tp ([] : List Int)) fun l => tp (x :: l)) fun l => tg (sizeOk l.length) l) fun y_37 => tg (sizeOk (x_36.length + y_37.length)) (x_36 ++ y_37)) fun b => tApp st_22 b) fun found_28 => (tp found_28))) l st_8) fun (st_22 : (List (List Int))) => (tb (tp st_22) fun x_40 => tg (sortOk (x_40.map (eT eI))) (sortT (eT eI) x_40)))))
theorem v_spreads (order_1 : (List Int)) : JF m_spreads [.val ((eT eI) order_1)] (t_spreads order_1) (oL (eT eI)) := by
  refine @jf_def Src _ b_spreads _ 5 _ [.val ((eT eI) order_1), .non, .non, .non, .non] _ rfl ?_
  unfold b_spreads t_spreads
  refine jg_nx (jn_par2 (ρ2 := fun levels_3 found_4 => [.val ((eT eI) order_1), .non, .non, .val (eI levels_3), .lst (found_4.map (eT eI))]) (je_lenSet (JJ.r (jx_var (e := (eT eI)) (x := order_1) rfl))) (je_lst (ja_nil (e := (eT eI)))) (fun _ => rfl) (fun _ => rfl) (fun _ _ => rfl)) (fun p_5 => ?_)
  refine jg_forP (fun (st : (List (List Int))) (ρ : Fr) => ∃ (z_7 : Sl), ρ = [.val ((eT eI) order_1), z_7, .non, .val (eI p_5.1), .lst (st.map (eT eI))]) (ji_rng1 (jx_var (e := eI) (x := p_5.1) rfl)) ⟨_, rfl⟩ ?_ ?_
  · intro i_9 st_8 r_11 h_10
    obtain ⟨z_12, rfl⟩ := h_10
    refine ⟨[.val ((eT eI) order_1), .val (eI i_9), .non, .val (eI p_5.1), .lst (st_8.map (eT eI))], rfl, ?_⟩
    refine jg_nx (ρ2 := fun found_13 => [.val ((eT eI) order_1), .val (eI i_9), .non, .val (eI p_5.1), .lst (found_13.map (eT eI))]) (jn_dropW (jw_app rfl (JJ.v (je_bin (JJ.r (jx_var (e := (eT eI)) (x := order_1) rfl)) (JJ.r (je_tup (ja_cons (JJ.v (jx_var (e := eI) (x := i_9) rfl)) (ja_nil (e := eI))))) op_catT)) (fun _ => rfl))) (fun found_13 => ?_)
    exact jg_nil ⟨_, rfl⟩
  intro st_8 r_11 h_10
  obtain ⟨z_16, rfl⟩ := h_10
  refine jg_forP (fun (st : (List (List Int))) (ρ : Fr) => ∃ (z_20 : Sl) (z_21 : Sl), ρ = [.val ((eT eI) order_1), z_20, z_21, .val (eI p_5.1), .lst (st.map (eT eI))]) (ji_rng1 (je_bin (JJ.r (jx_var (e := eI) (x := p_5.1) rfl)) (JJ.r (jx_c (e := eI) (x := 1) rfl)) op_addI)) ⟨_, _, rfl⟩ ?_ ?_
  · intro i_23 st_22 r_25 h_24
    obtain ⟨z_26, z_27, rfl⟩ := h_24
    refine ⟨[.val ((eT eI) order_1), z_26, .val (eI i_23), .val (eI p_5.1), .lst (st_22.map (eT eI))], rfl, ?_⟩
    refine jg_nx (ρ2 := fun found_28 => [.val ((eT eI) order_1), z_26, .val (eI i_23), .val (eI p_5.1), .lst (found_28.map (eT eI))]) (jn_dropW (jw_app rfl (JJ.v (je_bin (JJ.r (je_bi1 (JJ.rl (je_map (e2 := eI) (ρ1 := fun c_29 => [.val ((eT eI) order_1), .val (eI c_29), .val (eI i_23), .val (eI p_5.1), .lst (st_22.map (eT eI))]) (ji_T (JJ.v (jx_var (e := (eT eI)) (x := order_1) rfl))) (fun _ => rfl) (fun _ => rfl) rfl (fun c_29 => (JJ.v (je_bin (JJ.r (jx_var (e := eI) (x := c_29) rfl)) (JJ.r (je_bi1 (JJ.r (je_bin (JJ.r (jx_var (e := eI) (x := c_29) rfl)) (JJ.r (jx_var (e := eI) (x := i_23) rfl)) op_geI)) op_intB)) op_addI))))) op_tupL)) (JJ.r (je_tup (ja_cons (JJ.v (jx_var (e := eI) (x := i_23) rfl)) (ja_nil (e := eI))))) op_catT)) (fun _ => rfl))) (fun found_28 => ?_)
    exact jg_nil ⟨_, _, rfl⟩
  intro st_22 r_25 h_24
  obtain ⟨z_38, z_39, rfl⟩ := h_24
  exact jg_ret (je_bi1 (jr_own (e := (eT eI)) rfl) op_sortL) (fun _ => rfl)

def t_orders (n_1 : Int) : M Src (List (List Int)) :=
  (tb (tb (tb (tb (tp ([] : List Int)) fun l => tg (sizeOk l.length) l) fun x => tb (tp ([] : List (List Int))) fun l => tp (x :: l)) fun l => tg (sizeOk l.length) l) fun (found_2 : (List (List Int))) => (tb (tb (tb (tp n_1) fun x_3 => tg (in62 x_3) (ivl 0 x_3.toNat)) fun l => tFor (fun (i_8 : Int) (st_7 : (List (List Int))) => (tb (tb (tp ([] : List (List Int))) fun l => tg (sizeOk l.length) l) fun (later_14 : (List (List Int))) => (tb (tb (tp st_7) fun l => tFor (fun (i_17 : (List Int)) (st_16 : (List (List Int))) => (tb (tb (tb (tp i_17) fun a_22 => t_spreads a_22) fun b => tExt st_16 b) fun later_21 => (tp later_21))) l later_14) fun (st_16 : (List (List Int))) => (tb (tp st_16) fun (found_24 : (List (List Int))) => (tp found_24))))) l found_2) fun (st_7 : (List (List Int))) => (tb (tp st_7) fun x_28 => tg (sortOk (x_28.map (eT eI))) (sortT (eT eI) x_28))))
theorem v_orders (n_1 : Int) : JF m_orders [.val (eI n_1)] (t_orders n_1) (oL (eT eI)) := by
  refine @jf_def Src _ b_orders _ 5 _ [.val (eI n_1), .non, .non, .non, .non] _ rfl ?_
  unfold b_orders t_orders
  refine jg_nx (ρ2 := fun found_2 => [.val (eI n_1), .lst (found_2.map (eT eI)), .non, .non, .non]) (jn_asg (je_lst (ja_cons (JJ.v (je_tup (ja_nil (e := eI)))) (ja_nil (e := (eT eI))))) (fun _ => rfl)) (fun found_2 => ?_)
  refine jg_frz (ρ2 := [.val (eI n_1), .val ((eL (eT eI)) found_2), .non, .non, .non]) rfl ?_
  refine jg_forP (fun (st : (List (List Int))) (ρ : Fr) => ∃ (z_4 : Sl) (z_5 : Sl) (z_6 : Sl), ρ = [.val (eI n_1), .val ((eL (eT eI)) st), z_4, z_5, z_6]) (ji_rng1 (jx_var (e := eI) (x := n_1) rfl)) ⟨_, _, _, rfl⟩ ?_ ?_
  · intro i_8 st_7 r_10 h_9
    obtain ⟨z_11, z_12, z_13, rfl⟩ := h_9
    refine ⟨[.val (eI n_1), .val ((eL (eT eI)) st_7), .val (eI i_8), z_12, z_13], rfl, ?_⟩
    refine jg_nx (ρ2 := fun later_14 => [.val (eI n_1), .val ((eL (eT eI)) st_7), .val (eI i_8), .lst (later_14.map (eT eI)), z_13]) (jn_asg (je_lst (ja_nil (e := (eT eI)))) (fun _ => rfl)) (fun later_14 => ?_)
    refine jg_frz (ρ2 := [.val (eI n_1), .val ((eL (eT eI)) st_7), .val (eI i_8), .lst (later_14.map (eT eI)), z_13]) rfl ?_
    refine jg_forP (fun (st : (List (List Int))) (ρ : Fr) => ∃ (z_15 : Sl), ρ = [.val (eI n_1), .val ((eL (eT eI)) st_7), .val (eI i_8), .lst (st.map (eT eI)), z_15]) (ji_L (JJ.v (jx_var (e := (eL (eT eI))) (x := st_7) rfl))) ⟨_, rfl⟩ ?_ ?_
    · intro i_17 st_16 r_19 h_18
      obtain ⟨z_20, rfl⟩ := h_18
      refine ⟨[.val (eI n_1), .val ((eL (eT eI)) st_7), .val (eI i_8), .lst (st_16.map (eT eI)), .val ((eT eI) i_17)], rfl, ?_⟩
      refine jg_nx (ρ2 := fun later_21 => [.val (eI n_1), .val ((eL (eT eI)) st_7), .val (eI i_8), .lst (later_21.map (eT eI)), .val ((eT eI) i_17)]) (jn_dropW (jw_ext rfl (JJ.vl (je_call1 (JJ.s (JJ.v (jx_var (e := (eT eI)) (x := i_17) rfl))) v_spreads (fun _ => rfl))) (fun _ => rfl))) (fun later_21 => ?_)
      exact jg_nil ⟨_, rfl⟩
    intro st_16 r_19 h_18
    obtain ⟨z_23, rfl⟩ := h_18
    refine jg_frz (ρ2 := [.val (eI n_1), .val ((eL (eT eI)) st_7), .val (eI i_8), .val ((eL (eT eI)) st_16), z_23]) rfl ?_
    refine jg_nx (ρ2 := fun found_24 => [.val (eI n_1), .val ((eL (eT eI)) found_24), .val (eI i_8), .val ((eL (eT eI)) st_16), z_23]) (jn_asg (jx_var (e := (eL (eT eI))) (x := st_16) rfl) (fun _ => rfl)) (fun found_24 => ?_)
    exact jg_nil ⟨_, _, _, rfl⟩
  intro st_7 r_10 h_9
  obtain ⟨z_25, z_26, z_27, rfl⟩ := h_9
  exact jg_ret (je_bi1 (JJ.r (jx_var (e := (eL (eT eI))) (x := st_7) rfl)) op_sortL) (fun _ => rfl)

def t_ties_of (order_1 : (List Int)) : M Src (List (Int × Int)) :=
  (tb (tb (tp order_1) fun x_2 => tp (ilen x_2)) fun (n_3 : Int) => (tb (tb (tb (tp n_3) fun x_4 => tg (in62 x_4) (ivl 0 x_4.toNat)) fun l => tFm2 (fun (c_5 : Int) => (tb (tb (tp c_5) fun x_6 => tb (tp (1 : Int)) fun y_7 => tp (x_6 + y_7)) fun x_8 => tb (tp n_3) fun y_9 => tg (in62 x_8 && in62 y_9) (ivl x_8 (y_9 - x_8).toNat))) (fun (c_5 : Int) (d_10 : Int) => (tb (tb (tp order_1) fun x_11 => tb (tp c_5) fun y_12 => to (atI x_11 y_12)) fun x_15 => tb (tb (tp order_1) fun x_13 => tb (tp d_10) fun y_14 => to (atI x_13 y_14)) fun y_16 => tp (decide (x_15 = y_16)))) (fun (c_5 : Int) (d_10 : Int) => (tb (tp c_5) fun x_17 => tb (tp d_10) fun y_18 => tp (x_17, y_18))) l) fun x_19 => tp x_19))
theorem v_ties_of (order_1 : (List Int)) : JF m_ties_of [.val ((eT eI) order_1)] (t_ties_of order_1) (oV (eT (eP eI eI))) := by
  refine @jf_def Src _ b_ties_of _ 4 _ [.val ((eT eI) order_1), .non, .non, .non] _ rfl ?_
  unfold b_ties_of t_ties_of
  refine jg_nx (ρ2 := fun n_3 => [.val ((eT eI) order_1), .val (eI n_3), .non, .non]) (jn_asg (je_bi1 (JJ.r (jx_var (e := (eT eI)) (x := order_1) rfl)) op_lenT) (fun _ => rfl)) (fun n_3 => ?_)
  exact jg_ret (je_bi1 (JJ.rl (je_fm2 (e2 := (eP eI eI)) (ρ1 := fun c_5 => [.val ((eT eI) order_1), .val (eI n_3), .val (eI c_5), .non]) (ρ2 := fun c_5 d_10 => [.val ((eT eI) order_1), .val (eI n_3), .val (eI c_5), .val (eI d_10)]) (ji_rng1 (jx_var (e := eI) (x := n_3) rfl)) (fun _ => rfl) (fun c_5 => (ji_rng2 (je_bin (JJ.r (jx_var (e := eI) (x := c_5) rfl)) (JJ.r (jx_c (e := eI) (x := 1) rfl)) op_addI) (jx_var (e := eI) (x := n_3) rfl))) (fun _ _ => rfl) (fun _ _ => rfl) (fun _ => rfl) rfl (fun c_5 d_10 => (jt_e (je_bin (JJ.r (je_bin (JJ.r (jx_var (e := (eT eI)) (x := order_1) rfl)) (JJ.r (jx_var (e := eI) (x := c_5) rfl)) op_ixT)) (JJ.r (je_bin (JJ.r (jx_var (e := (eT eI)) (x := order_1) rfl)) (JJ.r (jx_var (e := eI) (x := d_10) rfl)) op_ixT)) (Dt.op_eq (e := eI))))) (fun c_5 d_10 => (JJ.v (je_pair (JJ.v (jx_var (e := eI) (x := c_5) rfl)) (JJ.v (jx_var (e := eI) (x := d_10) rfl))))))) op_tupL) (fun _ => rfl)

def t_tied_ones (some_1 : (List (List Int))) (ties_2 : (List (Int × Int))) : M Src (List (List Int)) :=
  (tb (tp some_1) fun l => tFm (fun (c_3 : (List Int)) => (tb (tb (tb (tp ties_2) fun l => tMap (fun (c_4 : (Int × Int)) => (tb (tb (tp c_3) fun x_5 => tb (tp c_4.1) fun y_6 => to (atI x_5 y_6)) fun x_9 => tb (tb (tp c_3) fun x_7 => tb (tp c_4.2) fun y_8 => to (atI x_7 y_8)) fun y_10 => tp (decide (x_9 = y_10)))) l) fun x_11 => tp (x_11.all fun b => b)) fun x_12 => tp x_12)) (fun (c_3 : (List Int)) => (tp c_3)) l)
theorem v_tied_ones (some_1 : (List (List Int))) (ties_2 : (List (Int × Int))) : JF m_tied_ones [.val ((eT (eT eI)) some_1), .val ((eT (eP eI eI)) ties_2)] (t_tied_ones some_1 ties_2) (oL (eT eI)) := by
  refine @jf_def Src _ b_tied_ones _ 5 _ [.val ((eT (eT eI)) some_1), .val ((eT (eP eI eI)) ties_2), .non, .non, .non] _ rfl ?_
  unfold b_tied_ones t_tied_ones
  exact jg_ret (je_fm (e2 := (eT eI)) (ρ1 := fun c_3 => [.val ((eT (eT eI)) some_1), .val ((eT (eP eI eI)) ties_2), .val ((eT eI) c_3), .non, .non]) (ji_T (JJ.v (jx_var (e := (eT (eT eI))) (x := some_1) rfl))) (fun _ => rfl) (fun _ => rfl) rfl (fun c_3 => (jt_tru (JJ.r (je_bi1 (JJ.rl (je_map (e2 := eB) (ρ1 := fun c_4 => [.val ((eT (eT eI)) some_1), .val ((eT (eP eI eI)) ties_2), .val ((eT eI) c_3), .val (eI c_4.1), .val (eI c_4.2)]) (ji_T (JJ.v (jx_var (e := (eT (eP eI eI))) (x := ties_2) rfl))) (fun _ => rfl) (fun _ => rfl) rfl (fun c_4 => (JJ.v (je_bin (JJ.r (je_bin (JJ.r (jx_var (e := (eT eI)) (x := c_3) rfl)) (JJ.r (jx_var (e := eI) (x := c_4.1) rfl)) op_ixT)) (JJ.r (je_bin (JJ.r (jx_var (e := (eT eI)) (x := c_3) rfl)) (JJ.r (jx_var (e := eI) (x := c_4.2) rfl)) op_ixT)) (Dt.op_eq (e := eI))))))) op_all)))) (fun c_3 => (JJ.v (jx_var (e := (eT eI)) (x := c_3) rfl)))) (fun _ => rfl)

def t_wanted (order_1 : (List Int)) : M Src (List (Int × Int)) :=
  (tb (tb (tp order_1) fun x_2 => tp (ilen x_2)) fun (n_3 : Int) => (tb (tb (tp n_3) fun x_4 => tg (in62 x_4) (ivl 0 x_4.toNat)) fun l => tFm2 (fun (c_5 : Int) => (tb (tp n_3) fun x_6 => tg (in62 x_6) (ivl 0 x_6.toNat))) (fun (c_5 : Int) (d_7 : Int) => (tb (tb (tp order_1) fun x_8 => tb (tp d_7) fun y_9 => to (atI x_8 y_9)) fun x_12 => tb (tb (tp order_1) fun x_10 => tb (tp c_5) fun y_11 => to (atI x_10 y_11)) fun y_13 => tp (decide (x_12 < y_13)))) (fun (c_5 : Int) (d_7 : Int) => (tb (tp c_5) fun x_14 => tb (tp d_7) fun y_15 => tp (x_14, y_15))) l))
theorem v_wanted (order_1 : (List Int)) : JF m_wanted [.val ((eT eI) order_1)] (t_wanted order_1) (oL (eP eI eI)) := by
  refine @jf_def Src _ b_wanted _ 4 _ [.val ((eT eI) order_1), .non, .non, .non] _ rfl ?_
  unfold b_wanted t_wanted
  refine jg_nx (ρ2 := fun n_3 => [.val ((eT eI) order_1), .val (eI n_3), .non, .non]) (jn_asg (je_bi1 (JJ.r (jx_var (e := (eT eI)) (x := order_1) rfl)) op_lenT) (fun _ => rfl)) (fun n_3 => ?_)
  exact jg_ret (je_fm2 (e2 := (eP eI eI)) (ρ1 := fun c_5 => [.val ((eT eI) order_1), .val (eI n_3), .val (eI c_5), .non]) (ρ2 := fun c_5 d_7 => [.val ((eT eI) order_1), .val (eI n_3), .val (eI c_5), .val (eI d_7)]) (ji_rng1 (jx_var (e := eI) (x := n_3) rfl)) (fun _ => rfl) (fun c_5 => (ji_rng1 (jx_var (e := eI) (x := n_3) rfl))) (fun _ _ => rfl) (fun _ _ => rfl) (fun _ => rfl) rfl (fun c_5 d_7 => (jt_e (je_bin (JJ.r (je_bin (JJ.r (jx_var (e := (eT eI)) (x := order_1) rfl)) (JJ.r (jx_var (e := eI) (x := d_7) rfl)) op_ixT)) (JJ.r (je_bin (JJ.r (jx_var (e := (eT eI)) (x := order_1) rfl)) (JJ.r (jx_var (e := eI) (x := c_5) rfl)) op_ixT)) op_ltI))) (fun c_5 d_7 => (JJ.v (je_pair (JJ.v (jx_var (e := eI) (x := c_5) rfl)) (JJ.v (jx_var (e := eI) (x := d_7) rfl)))))) (fun _ => rfl)

def t_check_size (n_1 : Int) (most_2 : Int) : M Src Unit :=
  (tb (tb (tb (tb (tp n_1) fun x_3 => tb (tp most_2) fun y_4 => tp (decide (y_4 < x_3))) fun b_9 => if b_9 then tx else (tp ())) fun (st_6 : Unit) => (tp ())) fun _ => tp ())
theorem v_check_size (n_1 : Int) (most_2 : Int) : JF m_check_size [.val (eI n_1), .val (eI most_2)] (t_check_size n_1 most_2) (oV eN) := by
  unfold t_check_size
  refine @jf_defP Src _ b_check_size (fun (st : Unit) (ρ : Fr) => ρ = [.val (eI n_1), .val (eI most_2)]) 2 _ [.val (eI n_1), .val (eI most_2)] _ rfl ?_
  unfold b_check_size
  refine jg_ifP (fun (st : Unit) (ρ : Fr) => ρ = [.val (eI n_1), .val (eI most_2)]) (jt_e (je_bin (JJ.r (jx_var (e := eI) (x := n_1) rfl)) (JJ.r (jx_var (e := eI) (x := most_2) rfl)) op_gtI)) ?_ ?_ ?_
  · exact fun _ => trivial
  · exact jg_nil rfl
  intro st_6 r_8 h_7
  obtain rfl := h_7
  exact jg_nil rfl

end Dz

set_option Elab.async false
set_option linter.all false
set_option maxRecDepth 100000
set_option maxHeartbeats 0
namespace Dz
open PySem PySem.Spec PyProof.Rows L2 Dy Dt
def t_refusing (n_1 : Int) (some_2 : (List (List Int))) (order_3 : (List Int)) : M Src (Option ((List (Int × Int)) × (Option (Int × Int)))) :=
  (tb (tb (tp n_1) fun a_4 => tb (tp (5 : Int)) fun a_5 => t_check_size a_4 a_5) fun _ => (tb (tb (tp order_3) fun a_6 => t_ties_of a_6) fun (ties_7 : (List (Int × Int))) => (tb (tb (tp some_2) fun a_8 => tb (tp ties_7) fun a_9 => t_tied_ones a_8 a_9) fun (near_10 : (List (List Int))) => (tb (tb (tb (tp near_10) fun x_11 => tp (!x_11.isEmpty)) fun x_12 => tp (!x_12)) fun b_13 => if b_13 then (tb (tb (tp ties_7) fun x_14 => tb (tb (tp ()) fun x => tp ((fun _ => (none : (Option (Int × Int)))) x)) fun y_15 => tp (x_14, y_15)) fun x => tp (some x)) else (tbB (tb (tb (tp order_3) fun a_16 => t_wanted a_16) fun l => tForX (fun (i_20 : (Int × Int)) (st_19 : Unit) => (tb (tb (tb (tb (tb (tp near_10) fun l => tMap (fun (c_25 : (List Int)) => (tb (tb (tp c_25) fun x_26 => tb (tp i_20.2) fun y_27 => to (atI x_26 y_27)) fun x_30 => tb (tb (tp c_25) fun x_28 => tb (tp i_20.1) fun y_29 => to (atI x_28 y_29)) fun y_31 => tp (decide (x_30 < y_31)))) l) fun x_32 => tp (x_32.any fun b => b)) fun x_33 => tp x_33) fun x_34 => tp (!x_34)) fun b_35 => if b_35 then tb (tb (tb (tp ties_7) fun x_38 => tb (tb (tb (tp i_20.1) fun x_36 => tb (tp i_20.2) fun y_37 => tp (x_36, y_37)) fun x => tp (some x)) fun y_39 => tp (x_38, y_39)) fun x => tp (some x)) (fun x => tp (.rt x)) else (tp (.nx ())))) l ()) fun (st_19 : Unit) => (tb (tp ()) fun x => tp ((fun _ => (none : (Option ((List (Int × Int)) × (Option (Int × Int)))))) x)))))))
theorem v_refusing (n_1 : Int) (some_2 : (List (List Int))) (order_3 : (List Int)) : JF m_refusing [.val (eI n_1), .val ((eT (eT eI)) some_2), .val ((eT eI) order_3)] (t_refusing n_1 some_2 order_3) (oV (eO (eP (eT (eP eI eI)) (eO (eP eI eI))))) := by
  refine @jf_def Src _ b_refusing _ 8 _ [.val (eI n_1), .val ((eT (eT eI)) some_2), .val ((eT eI) order_3), .non, .non, .non, .non, .non] _ rfl ?_
  unfold b_refusing t_refusing
  refine jg_nx (jn_drop (je_call2 (JJ.s (JJ.v (jx_var (e := eI) (x := n_1) rfl))) (JJ.s (JJ.v (jx_c (e := eI) (x := 5) rfl))) v_check_size (fun _ => rfl))) (fun _ => ?_)
  refine jg_nx (ρ2 := fun ties_7 => [.val (eI n_1), .val ((eT (eT eI)) some_2), .val ((eT eI) order_3), .val ((eT (eP eI eI)) ties_7), .non, .non, .non, .non]) (jn_asg (je_call1 (JJ.s (JJ.v (jx_var (e := (eT eI)) (x := order_3) rfl))) v_ties_of (fun _ => rfl)) (fun _ => rfl)) (fun ties_7 => ?_)
  refine jg_nx (ρ2 := fun near_10 => [.val (eI n_1), .val ((eT (eT eI)) some_2), .val ((eT eI) order_3), .val ((eT (eP eI eI)) ties_7), .lst (near_10.map (eT eI)), .non, .non, .non]) (jn_asg (je_call2 (JJ.s (JJ.v (jx_var (e := (eT (eT eI))) (x := some_2) rfl))) (JJ.s (JJ.v (jx_var (e := (eT (eP eI eI))) (x := ties_7) rfl))) v_tied_ones (fun _ => rfl)) (fun _ => rfl)) (fun near_10 => ?_)
  refine jg_frz (ρ2 := [.val (eI n_1), .val ((eT (eT eI)) some_2), .val ((eT eI) order_3), .val ((eT (eP eI eI)) ties_7), .val ((eL (eT eI)) near_10), .non, .non, .non]) rfl ?_
  refine jg_ifR (jt_not (jt_tru (JJ.r (jx_var (e := (eL (eT eI))) (x := near_10) rfl)))) ?_ ?_
  · exact jg_ret (JJ.as (e' := (eO (eP (eT (eP eI eI)) (eO (eP eI eI))))) (f := some) (je_pair (JJ.v (jx_var (e := (eT (eP eI eI))) (x := ties_7) rfl)) (JJ.v (JJ.as (e' := (eO (eP eI eI))) (f := (fun _ => (none : (Option (Int × Int))))) (jx_c (e := eN) (x := ()) rfl) (fun _ => rfl)))) (fun _ => rfl)) (fun _ => rfl)
  refine jg_forXB (fun (st : Unit) (ρ : Fr) => ∃ (z_17 : Sl) (z_18 : Sl), ρ = [.val (eI n_1), .val ((eT (eT eI)) some_2), .val ((eT eI) order_3), .val ((eT (eP eI eI)) ties_7), .val ((eL (eT eI)) near_10), z_17, z_18, .non]) (ji_L (JJ.vl (je_call1 (JJ.s (JJ.v (jx_var (e := (eT eI)) (x := order_3) rfl))) v_wanted (fun _ => rfl)))) ⟨_, _, rfl⟩ ?_ ?_
  · intro i_20 st_19 r_22 h_21
    obtain ⟨z_23, z_24, rfl⟩ := h_21
    refine ⟨[.val (eI n_1), .val ((eT (eT eI)) some_2), .val ((eT eI) order_3), .val ((eT (eP eI eI)) ties_7), .val ((eL (eT eI)) near_10), .val (eI i_20.1), .val (eI i_20.2), .non], rfl, ?_⟩
    refine jg_ifRX (jt_not (jt_tru (JJ.r (je_bi1 (JJ.rl (je_map (e2 := eB) (ρ1 := fun c_25 => [.val (eI n_1), .val ((eT (eT eI)) some_2), .val ((eT eI) order_3), .val ((eT (eP eI eI)) ties_7), .val ((eL (eT eI)) near_10), .val (eI i_20.1), .val (eI i_20.2), .val ((eT eI) c_25)]) (ji_L (JJ.v (jx_var (e := (eL (eT eI))) (x := near_10) rfl))) (fun _ => rfl) (fun _ => rfl) rfl (fun c_25 => (JJ.v (je_bin (JJ.r (je_bin (JJ.r (jx_var (e := (eT eI)) (x := c_25) rfl)) (JJ.r (jx_var (e := eI) (x := i_20.2) rfl)) op_ixT)) (JJ.r (je_bin (JJ.r (jx_var (e := (eT eI)) (x := c_25) rfl)) (JJ.r (jx_var (e := eI) (x := i_20.1) rfl)) op_ixT)) op_ltI))))) op_any)))) ?_ ?_
    · exact jg_ret (JJ.as (e' := (eO (eP (eT (eP eI eI)) (eO (eP eI eI))))) (f := some) (je_pair (JJ.v (jx_var (e := (eT (eP eI eI))) (x := ties_7) rfl)) (JJ.v (JJ.as (e' := (eO (eP eI eI))) (f := some) (je_pair (JJ.v (jx_var (e := eI) (x := i_20.1) rfl)) (JJ.v (jx_var (e := eI) (x := i_20.2) rfl))) (fun _ => rfl)))) (fun _ => rfl)) (fun _ => rfl)
    exact jg_nilX ⟨_, _, rfl⟩
  intro st_19 r_22 h_21
  obtain ⟨z_40, z_41, rfl⟩ := h_21
  exact jg_ret (JJ.as (e' := (eO (eP (eT (eP eI eI)) (eO (eP eI eI))))) (f := (fun _ => (none : (Option ((List (Int × Int)) × (Option (Int × Int))))))) (jx_c (e := eN) (x := ()) rfl) (fun _ => rfl)) (fun _ => rfl)

def t_hull (n_1 : Int) (some_2 : (List (List Int))) : M Src (List (List Int)) :=
  (tb (tb (tp n_1) fun a_3 => tb (tp (4 : Int)) fun a_4 => t_check_size a_3 a_4) fun _ => (tb (tb (tb (tp n_1) fun a_5 => t_orders a_5) fun l => tFm (fun (c_6 : (List Int)) => (tb (tb (tp n_1) fun a_7 => tb (tp some_2) fun a_8 => tb (tp c_6) fun a_9 => t_refusing a_7 a_8 a_9) fun x_10 => tb (tp ()) fun y_11 => tp x_10.isNone)) (fun (c_6 : (List Int)) => (tp c_6)) l) fun x_12 => tp x_12))
theorem v_hull (n_1 : Int) (some_2 : (List (List Int))) : JF m_hull [.val (eI n_1), .val ((eT (eT eI)) some_2)] (t_hull n_1 some_2) (oV (eT (eT eI))) := by
  refine @jf_def Src _ b_hull _ 3 _ [.val (eI n_1), .val ((eT (eT eI)) some_2), .non] _ rfl ?_
  unfold b_hull t_hull
  refine jg_nx (jn_drop (je_call2 (JJ.s (JJ.v (jx_var (e := eI) (x := n_1) rfl))) (JJ.s (JJ.v (jx_c (e := eI) (x := 4) rfl))) v_check_size (fun _ => rfl))) (fun _ => ?_)
  exact jg_ret (je_bi1 (JJ.rl (je_fm (e2 := (eT eI)) (ρ1 := fun c_6 => [.val (eI n_1), .val ((eT (eT eI)) some_2), .val ((eT eI) c_6)]) (ji_L (JJ.vl (je_call1 (JJ.s (JJ.v (jx_var (e := eI) (x := n_1) rfl))) v_orders (fun _ => rfl)))) (fun _ => rfl) (fun _ => rfl) rfl (fun c_6 => (jt_e (je_bin (JJ.r (je_call3 (JJ.s (JJ.v (jx_var (e := eI) (x := n_1) rfl))) (JJ.s (JJ.v (jx_var (e := (eT (eT eI))) (x := some_2) rfl))) (JJ.s (JJ.v (jx_var (e := (eT eI)) (x := c_6) rfl))) v_refusing (fun _ => rfl))) (JJ.r (jx_c (e := eN) (x := ()) rfl)) op_isNone))) (fun c_6 => (JJ.v (jx_var (e := (eT eI)) (x := c_6) rfl))))) op_tupL) (fun _ => rfl)

def t_passes (n_1 : Int) (some_2 : (List (List Int))) : M Src Bool :=
  (tb (tb (tp n_1) fun a_3 => tb (tp some_2) fun a_4 => t_hull a_3 a_4) fun x_6 => tb (tb (tp some_2) fun x_5 => tp x_5) fun y_7 => tp (decide (x_6 = y_7)))
theorem v_passes (n_1 : Int) (some_2 : (List (List Int))) : JF m_passes [.val (eI n_1), .val ((eT (eT eI)) some_2)] (t_passes n_1 some_2) (oV eB) := by
  refine @jf_def Src _ b_passes _ 2 _ [.val (eI n_1), .val ((eT (eT eI)) some_2)] _ rfl ?_
  unfold b_passes t_passes
  exact jg_ret (je_bin (JJ.r (je_call2 (JJ.s (JJ.v (jx_var (e := eI) (x := n_1) rfl))) (JJ.s (JJ.v (jx_var (e := (eT (eT eI))) (x := some_2) rfl))) v_hull (fun _ => rfl))) (JJ.r (je_bi1 (JJ.r (jx_var (e := (eT (eT eI))) (x := some_2) rfl)) op_tupT)) (Dt.op_eq (e := (eT (eT eI))))) (fun _ => rfl)

def t_book_of (n_1 : Int) (some_2 : (List (List Int))) : M Src (Int × (List ((List (Int × Int)) × (Option (Int × Int))))) :=
  (tb (tb (tp n_1) fun a_3 => tb (tp (4 : Int)) fun a_4 => t_check_size a_3 a_4) fun _ => (tb (tb (tp ([] : List ((List (Int × Int)) × (Option (Int × Int))))) fun l => tg (sizeOk l.length) l) fun (found_5 : (List ((List (Int × Int)) × (Option (Int × Int))))) => (tb (tb (tb (tp n_1) fun a_6 => t_orders a_6) fun l => tFor (fun (i_10 : (List Int)) (st_9 : (List ((List (Int × Int)) × (Option (Int × Int))))) => (tb (tb (tp n_1) fun a_15 => tb (tp some_2) fun a_16 => tb (tp i_10) fun a_17 => t_refusing a_15 a_16 a_17) fun (saying_18 : (Option ((List (Int × Int)) × (Option (Int × Int))))) => (tb (tb (tb (tb (tp saying_18) fun x_21 => tb (tp ()) fun y_22 => tp x_21.isSome) fun x_23 => if x_23 then (tb (tb (tp saying_18) fun x => to x) fun x_19 => tb (tp st_9) fun y_20 => tp (!hasT y_20 x_19)) else tp false) fun b_29 => if b_29 then (tb (tb (tb (tp saying_18) fun x => to x) fun b => tApp st_9 b) fun found_25 => (tp found_25)) else (tp st_9)) fun (st_26 : (List ((List (Int × Int)) × (Option (Int × Int))))) => (tp st_26)))) l found_5) fun (st_9 : (List ((List (Int × Int)) × (Option (Int × Int))))) => (tb (tp n_1) fun x_33 => tb (tb (tp st_9) fun x_32 => tp x_32) fun y_34 => tp (x_33, y_34)))))
theorem v_book_of (n_1 : Int) (some_2 : (List (List Int))) : JF m_book_of [.val (eI n_1), .val ((eT (eT eI)) some_2)] (t_book_of n_1 some_2) (oV (eP eI (eT (eP (eT (eP eI eI)) (eO (eP eI eI)))))) := by
  refine @jf_def Src _ b_book_of _ 5 _ [.val (eI n_1), .val ((eT (eT eI)) some_2), .non, .non, .non] _ rfl ?_
  unfold b_book_of t_book_of
  refine jg_nx (jn_drop (je_call2 (JJ.s (JJ.v (jx_var (e := eI) (x := n_1) rfl))) (JJ.s (JJ.v (jx_c (e := eI) (x := 4) rfl))) v_check_size (fun _ => rfl))) (fun _ => ?_)
  refine jg_nx (ρ2 := fun found_5 => [.val (eI n_1), .val ((eT (eT eI)) some_2), .lst (found_5.map (eP (eT (eP eI eI)) (eO (eP eI eI)))), .non, .non]) (jn_asg (je_lst (ja_nil (e := (eP (eT (eP eI eI)) (eO (eP eI eI)))))) (fun _ => rfl)) (fun found_5 => ?_)
  refine jg_forP (fun (st : (List ((List (Int × Int)) × (Option (Int × Int))))) (ρ : Fr) => ∃ (z_7 : Sl) (z_8 : Sl), ρ = [.val (eI n_1), .val ((eT (eT eI)) some_2), .lst (st.map (eP (eT (eP eI eI)) (eO (eP eI eI)))), z_7, z_8]) (ji_L (JJ.vl (je_call1 (JJ.s (JJ.v (jx_var (e := eI) (x := n_1) rfl))) v_orders (fun _ => rfl)))) ⟨_, _, rfl⟩ ?_ ?_
  · intro i_10 st_9 r_12 h_11
    obtain ⟨z_13, z_14, rfl⟩ := h_11
    refine ⟨[.val (eI n_1), .val ((eT (eT eI)) some_2), .lst (st_9.map (eP (eT (eP eI eI)) (eO (eP eI eI)))), .val ((eT eI) i_10), z_14], rfl, ?_⟩
    refine jg_nx (ρ2 := fun saying_18 => [.val (eI n_1), .val ((eT (eT eI)) some_2), .lst (st_9.map (eP (eT (eP eI eI)) (eO (eP eI eI)))), .val ((eT eI) i_10), .val ((eO (eP (eT (eP eI eI)) (eO (eP eI eI)))) saying_18)]) (jn_asg (je_call3 (JJ.s (JJ.v (jx_var (e := eI) (x := n_1) rfl))) (JJ.s (JJ.v (jx_var (e := (eT (eT eI))) (x := some_2) rfl))) (JJ.s (JJ.v (jx_var (e := (eT eI)) (x := i_10) rfl))) v_refusing (fun _ => rfl)) (fun _ => rfl)) (fun saying_18 => ?_)
    refine jg_ifP (fun (st : (List ((List (Int × Int)) × (Option (Int × Int))))) (ρ : Fr) => ρ = [.val (eI n_1), .val ((eT (eT eI)) some_2), .lst (st.map (eP (eT (eP eI eI)) (eO (eP eI eI)))), .val ((eT eI) i_10), .val ((eO (eP (eT (eP eI eI)) (eO (eP eI eI)))) saying_18)]) (jt_and (jt_e (je_bin (JJ.r (jx_var (e := (eO (eP (eT (eP eI eI)) (eO (eP eI eI))))) (x := saying_18) rfl)) (JJ.r (jx_c (e := eN) (x := ()) rfl)) op_isNotNone)) (jt_e (je_bin (JJ.r (JJ.unO (jx_var (e := (eO (eP (eT (eP eI eI)) (eO (eP eI eI))))) (x := saying_18) rfl))) (jr_own (e := (eP (eT (eP eI eI)) (eO (eP eI eI)))) rfl) (op_ninL (e := (eP (eT (eP eI eI)) (eO (eP eI eI)))))))) ?_ ?_ ?_
    · refine jg_nx (ρ2 := fun found_25 => [.val (eI n_1), .val ((eT (eT eI)) some_2), .lst (found_25.map (eP (eT (eP eI eI)) (eO (eP eI eI)))), .val ((eT eI) i_10), .val ((eO (eP (eT (eP eI eI)) (eO (eP eI eI)))) saying_18)]) (jn_dropW (jw_app rfl (JJ.v (JJ.unO (jx_var (e := (eO (eP (eT (eP eI eI)) (eO (eP eI eI))))) (x := saying_18) rfl))) (fun _ => rfl))) (fun found_25 => ?_)
      exact jg_nil rfl
    · exact jg_nil rfl
    intro st_26 r_28 h_27
    obtain rfl := h_27
    exact jg_nil ⟨_, _, rfl⟩
  intro st_9 r_12 h_11
  obtain ⟨z_30, z_31, rfl⟩ := h_11
  exact jg_ret (je_pair (JJ.v (jx_var (e := eI) (x := n_1) rfl)) (JJ.v (je_bi1 (jr_own (e := (eP (eT (eP eI eI)) (eO (eP eI eI)))) rfl) op_tupL))) (fun _ => rfl)

def t_said (book_1 : (Int × (List ((List (Int × Int)) × (Option (Int × Int)))))) : M Src (List (List Int)) :=
  (tb (tb (tb (tp book_1) fun x_2 => tp x_2.1) fun a_3 => tb (tp (4 : Int)) fun a_4 => t_check_size a_3 a_4) fun _ => (tb (tb (tb (tb (tp book_1) fun x_5 => tp x_5.1) fun a_6 => t_orders a_6) fun l => tFm (fun (c_7 : (List Int)) => (tb (tb (tp book_1) fun a_8 => tb (tp c_7) fun a_9 => t_first_broken a_8 a_9) fun x_10 => tb (tp ()) fun y_11 => tp x_10.isNone)) (fun (c_7 : (List Int)) => (tp c_7)) l) fun x_12 => tp x_12))
theorem v_said (book_1 : (Int × (List ((List (Int × Int)) × (Option (Int × Int)))))) : JF m_said [.val ((eP eI (eT (eP (eT (eP eI eI)) (eO (eP eI eI))))) book_1)] (t_said book_1) (oV (eT (eT eI))) := by
  refine @jf_def Src _ b_said _ 2 _ [.val ((eP eI (eT (eP (eT (eP eI eI)) (eO (eP eI eI))))) book_1), .non] _ rfl ?_
  unfold b_said t_said
  refine jg_nx (jn_drop (je_call2 (JJ.s (JJ.v (je_ixc (JJ.r (jx_var (e := (eP eI (eT (eP (eT (eP eI eI)) (eO (eP eI eI)))))) (x := book_1) rfl)) op_ixP0))) (JJ.s (JJ.v (jx_c (e := eI) (x := 4) rfl))) v_check_size (fun _ => rfl))) (fun _ => ?_)
  exact jg_ret (je_bi1 (JJ.rl (je_fm (e2 := (eT eI)) (ρ1 := fun c_7 => [.val ((eP eI (eT (eP (eT (eP eI eI)) (eO (eP eI eI))))) book_1), .val ((eT eI) c_7)]) (ji_L (JJ.vl (je_call1 (JJ.s (JJ.v (je_ixc (JJ.r (jx_var (e := (eP eI (eT (eP (eT (eP eI eI)) (eO (eP eI eI)))))) (x := book_1) rfl)) op_ixP0))) v_orders (fun _ => rfl)))) (fun _ => rfl) (fun _ => rfl) rfl (fun c_7 => (jt_e (je_bin (JJ.r (je_call2 (JJ.s (JJ.v (jx_var (e := (eP eI (eT (eP (eT (eP eI eI)) (eO (eP eI eI)))))) (x := book_1) rfl))) (JJ.s (JJ.v (jx_var (e := (eT eI)) (x := c_7) rfl))) v_first_broken (fun _ => rfl))) (JJ.r (jx_c (e := eN) (x := ()) rfl)) op_isNone))) (fun c_7 => (JJ.v (jx_var (e := (eT eI)) (x := c_7) rfl))))) op_tupL) (fun _ => rfl)

def t__law_orders (n_1 : Int) : M Src (List (List Int)) :=
  (tb (tb (tb (tb (tp ([] : List Int)) fun l => tg (sizeOk l.length) l) fun x => tb (tp ([] : List (List Int))) fun l => tp (x :: l)) fun l => tg (sizeOk l.length) l) fun (found_2 : (List (List Int))) => (tb (tb (tb (tp n_1) fun x_3 => tg (in62 x_3) (ivl 0 x_3.toNat)) fun l => tFor (fun (i_10 : Int) (st_9 : (List (List Int))) => (tb (tb (tp ([] : List (List Int))) fun l => tg (sizeOk l.length) l) fun (later_18 : (List (List Int))) => (tb (tb (tp st_9) fun l => tFor (fun (i_23 : (List Int)) (st_22 : (List (List Int))) => (tb (tb (tp (1 : Int)) fun x_35 => tb (tb (tb (tb (tb (tb (tp (1 : Int)) fun x_30 => tp (-x_30)) fun x => tb (tp ([] : List Int)) fun l => tp (x :: l)) fun l => tg (sizeOk l.length) l) fun x_32 => tb (tb (tp i_23) fun x_31 => tp x_31) fun y_33 => tg (sizeOk (x_32.length + y_33.length)) (x_32 ++ y_33)) fun x_34 => to (maxO x_34)) fun y_36 => tp (x_35 + y_36)) fun (levels_37 : Int) => (tb (tb (tp st_22) fun x_42 => tb (tb (tb (tp levels_37) fun x_38 => tg (in62 x_38) (ivl 0 x_38.toNat)) fun l => tMap (fun (c_39 : Int) => (tb (tp i_23) fun x_40 => tb (tb (tb (tp c_39) fun x => tb (tp ([] : List Int)) fun l => tp (x :: l)) fun l => tg (sizeOk l.length) l) fun y_41 => tg (sizeOk (x_40.length + y_41.length)) (x_40 ++ y_41))) l) fun y_43 => tg (sizeOk (x_42.length + y_43.length)) (x_42 ++ y_43)) fun (later_44 : (List (List Int))) => (tb (tb (tb (tb (tp levels_37) fun x_45 => tb (tp (1 : Int)) fun y_46 => tp (x_45 + y_46)) fun x_47 => tg (in62 x_47) (ivl 0 x_47.toNat)) fun l => tFor (fun (i_50 : Int) (st_49 : (List (List Int))) => (tb (tb (tb (tb (tb (tp i_23) fun l => tMap (fun (c_55 : Int) => (tb (tp c_55) fun x_59 => tb (tb (tb (tp c_55) fun x_56 => tb (tp i_50) fun y_57 => tp (decide (y_57 ≤ x_56))) fun x_58 => tp (Dt.b2i x_58)) fun y_60 => tp (x_59 + y_60))) l) fun x_61 => tp x_61) fun x_62 => tb (tb (tb (tp i_50) fun x => tb (tp ([] : List Int)) fun l => tp (x :: l)) fun l => tg (sizeOk l.length) l) fun y_63 => tg (sizeOk (x_62.length + y_63.length)) (x_62 ++ y_63)) fun b => tApp st_49 b) fun later_54 => (tp later_54))) l later_44) fun (st_49 : (List (List Int))) => (tp st_49))))) l later_18) fun (st_22 : (List (List Int))) => (tb (tp st_22) fun (found_68 : (List (List Int))) => (tp found_68))))) l found_2) fun (st_9 : (List (List Int))) => (tb (tp st_9) fun x_74 => tg (sortOk (x_74.map (eT eI))) (sortT (eT eI) x_74))))
theorem v__law_orders (n_1 : Int) : JF m__law_orders [.val (eI n_1)] (t__law_orders n_1) (oL (eT eI)) := by
  refine @jf_def Src _ b__law_orders _ 9 _ [.val (eI n_1), .non, .non, .non, .non, .non, .non, .non, .non] _ rfl ?_
  unfold b__law_orders t__law_orders
  refine jg_nx (ρ2 := fun found_2 => [.val (eI n_1), .lst (found_2.map (eT eI)), .non, .non, .non, .non, .non, .non, .non]) (jn_asg (je_lst (ja_cons (JJ.v (je_tup (ja_nil (e := eI)))) (ja_nil (e := (eT eI))))) (fun _ => rfl)) (fun found_2 => ?_)
  refine jg_frz (ρ2 := [.val (eI n_1), .val ((eL (eT eI)) found_2), .non, .non, .non, .non, .non, .non, .non]) rfl ?_
  refine jg_forP (fun (st : (List (List Int))) (ρ : Fr) => ∃ (z_4 : Sl) (z_5 : Sl) (z_6 : Sl) (z_7 : Sl) (z_8 : Sl), ρ = [.val (eI n_1), .val ((eL (eT eI)) st), z_4, z_5, z_6, z_7, z_8, .non, .non]) (ji_rng1 (jx_var (e := eI) (x := n_1) rfl)) ⟨_, _, _, _, _, rfl⟩ ?_ ?_
  · intro i_10 st_9 r_12 h_11
    obtain ⟨z_13, z_14, z_15, z_16, z_17, rfl⟩ := h_11
    refine ⟨[.val (eI n_1), .val ((eL (eT eI)) st_9), .val (eI i_10), z_14, z_15, z_16, z_17, .non, .non], rfl, ?_⟩
    refine jg_nx (ρ2 := fun later_18 => [.val (eI n_1), .val ((eL (eT eI)) st_9), .val (eI i_10), .lst (later_18.map (eT eI)), z_15, z_16, z_17, .non, .non]) (jn_asg (je_lst (ja_nil (e := (eT eI)))) (fun _ => rfl)) (fun later_18 => ?_)
    refine jg_frz (ρ2 := [.val (eI n_1), .val ((eL (eT eI)) st_9), .val (eI i_10), .lst (later_18.map (eT eI)), z_15, z_16, z_17, .non, .non]) rfl ?_
    refine jg_forP (fun (st : (List (List Int))) (ρ : Fr) => ∃ (z_19 : Sl) (z_20 : Sl) (z_21 : Sl), ρ = [.val (eI n_1), .val ((eL (eT eI)) st_9), .val (eI i_10), .lst (st.map (eT eI)), z_19, z_20, z_21, .non, .non]) (ji_L (JJ.v (jx_var (e := (eL (eT eI))) (x := st_9) rfl))) ⟨_, _, _, rfl⟩ ?_ ?_
    · intro i_23 st_22 r_25 h_24
      obtain ⟨z_26, z_27, z_28, rfl⟩ := h_24
      refine ⟨[.val (eI n_1), .val ((eL (eT eI)) st_9), .val (eI i_10), .lst (st_22.map (eT eI)), .val ((eT eI) i_23), z_27, z_28, .non, .non], rfl, ?_⟩
      refine jg_nx (ρ2 := fun levels_37 => [.val (eI n_1), .val ((eL (eT eI)) st_9), .val (eI i_10), .lst (st_22.map (eT eI)), .val ((eT eI) i_23), .val (eI levels_37), z_28, .non, .non]) (jn_asg (je_bin (JJ.r (jx_c (e := eI) (x := 1) rfl)) (JJ.r (je_bi1 (JJ.rl (je_bin (JJ.rl (je_lst (ja_cons (JJ.v (je_un (JJ.r (jx_c (e := eI) (x := 1) rfl)) op_neg)) (ja_nil (e := eI))))) (JJ.rl (je_bi1 (JJ.r (jx_var (e := (eT eI)) (x := i_23) rfl)) op_listT)) op_catL)) op_maxL)) op_addI) (fun _ => rfl)) (fun levels_37 => ?_)
      refine jg_nx (ρ2 := fun later_44 => [.val (eI n_1), .val ((eL (eT eI)) st_9), .val (eI i_10), .lst (later_44.map (eT eI)), .val ((eT eI) i_23), .val (eI levels_37), z_28, .non, .non]) (jn_asg (je_bin (jr_own (e := (eT eI)) rfl) (JJ.rl (je_map (e2 := (eT eI)) (ρ1 := fun c_39 => [.val (eI n_1), .val ((eL (eT eI)) st_9), .val (eI i_10), .lst (st_22.map (eT eI)), .val ((eT eI) i_23), .val (eI levels_37), z_28, .val (eI c_39), .non]) (ji_rng1 (jx_var (e := eI) (x := levels_37) rfl)) (fun _ => rfl) (fun _ => rfl) rfl (fun c_39 => (JJ.v (je_bin (JJ.r (jx_var (e := (eT eI)) (x := i_23) rfl)) (JJ.r (je_tup (ja_cons (JJ.v (jx_var (e := eI) (x := c_39) rfl)) (ja_nil (e := eI))))) op_catT))))) op_catL) (fun _ => rfl)) (fun later_44 => ?_)
      refine jg_forP (fun (st : (List (List Int))) (ρ : Fr) => ∃ (z_48 : Sl), ρ = [.val (eI n_1), .val ((eL (eT eI)) st_9), .val (eI i_10), .lst (st.map (eT eI)), .val ((eT eI) i_23), .val (eI levels_37), z_48, .non, .non]) (ji_rng1 (je_bin (JJ.r (jx_var (e := eI) (x := levels_37) rfl)) (JJ.r (jx_c (e := eI) (x := 1) rfl)) op_addI)) ⟨_, rfl⟩ ?_ ?_
      · intro i_50 st_49 r_52 h_51
        obtain ⟨z_53, rfl⟩ := h_51
        refine ⟨[.val (eI n_1), .val ((eL (eT eI)) st_9), .val (eI i_10), .lst (st_49.map (eT eI)), .val ((eT eI) i_23), .val (eI levels_37), .val (eI i_50), .non, .non], rfl, ?_⟩
        refine jg_nx (ρ2 := fun later_54 => [.val (eI n_1), .val ((eL (eT eI)) st_9), .val (eI i_10), .lst (later_54.map (eT eI)), .val ((eT eI) i_23), .val (eI levels_37), .val (eI i_50), .non, .non]) (jn_dropW (jw_app rfl (JJ.v (je_bin (JJ.r (je_bi1 (JJ.rl (je_map (e2 := eI) (ρ1 := fun c_55 => [.val (eI n_1), .val ((eL (eT eI)) st_9), .val (eI i_10), .lst (st_49.map (eT eI)), .val ((eT eI) i_23), .val (eI levels_37), .val (eI i_50), .non, .val (eI c_55)]) (ji_T (JJ.v (jx_var (e := (eT eI)) (x := i_23) rfl))) (fun _ => rfl) (fun _ => rfl) rfl (fun c_55 => (JJ.v (je_bin (JJ.r (jx_var (e := eI) (x := c_55) rfl)) (JJ.r (je_bi1 (JJ.r (je_bin (JJ.r (jx_var (e := eI) (x := c_55) rfl)) (JJ.r (jx_var (e := eI) (x := i_50) rfl)) op_geI)) op_intB)) op_addI))))) op_tupL)) (JJ.r (je_tup (ja_cons (JJ.v (jx_var (e := eI) (x := i_50) rfl)) (ja_nil (e := eI))))) op_catT)) (fun _ => rfl))) (fun later_54 => ?_)
        exact jg_nil ⟨_, rfl⟩
      intro st_49 r_52 h_51
      obtain ⟨z_64, rfl⟩ := h_51
      exact jg_nil ⟨_, _, _, rfl⟩
    intro st_22 r_25 h_24
    obtain ⟨z_65, z_66, z_67, rfl⟩ := h_24
    refine jg_frz (ρ2 := [.val (eI n_1), .val ((eL (eT eI)) st_9), .val (eI i_10), .val ((eL (eT eI)) st_22), z_65, z_66, z_67, .non, .non]) rfl ?_
    refine jg_nx (ρ2 := fun found_68 => [.val (eI n_1), .val ((eL (eT eI)) found_68), .val (eI i_10), .val ((eL (eT eI)) st_22), z_65, z_66, z_67, .non, .non]) (jn_asg (jx_var (e := (eL (eT eI))) (x := st_22) rfl) (fun _ => rfl)) (fun found_68 => ?_)
    exact jg_nil ⟨_, _, _, _, _, rfl⟩
  intro st_9 r_12 h_11
  obtain ⟨z_69, z_70, z_71, z_72, z_73, rfl⟩ := h_11
  exact jg_ret (je_bi1 (JJ.r (jx_var (e := (eL (eT eI))) (x := st_9) rfl)) op_sortL) (fun _ => rfl)

def t__law_draw_placing (n_1 : Int) : M Src (List Int) :=
  (tb (tb (tb (tb (tp (2 : Int)) fun x => tb (tb (tp (3 : Int)) fun x => tb (tb (tb (tp n_1) fun x_8 => tb (tp (1 : Int)) fun y_9 => tp (x_8 + y_9)) fun x => tb (tb (tb (tp (10 : Int)) fun x_6 => tb (tp (8 : Int)) fun y_7 => tg (powOk x_6 y_7) (x_6 ^ y_7.toNat)) fun x => tb (tp ([] : List Int)) fun l => tp (x :: l)) fun l => tp (x :: l)) fun l => tp (x :: l)) fun l => tp (x :: l)) fun l => tg (sizeOk l.length) l) fun a_10 => t__law_of a_10) fun (most_11 : Int) => (tb (tb (tb (tp n_1) fun x_12 => tg (in62 x_12) (ivl 0 x_12.toNat)) fun l => tMap (fun (c_13 : Int) => (tb (tb (tp most_11) fun a_14 => t__law_pick a_14) fun x_17 => tb (tb (tp most_11) fun x_15 => tb (tp (3 : Int)) fun y_16 => tg (decide (0 < y_16) && decide (y_16 < 1073741824)) (x_15 / y_16)) fun y_18 => tp (x_17 - y_18))) l) fun x_19 => tp x_19))
theorem v__law_draw_placing (n_1 : Int) : JF m__law_draw_placing [.hdl 0, .val (eI n_1)] (t__law_draw_placing n_1) (oV (eT eI)) := by
  refine @jf_def Src _ b__law_draw_placing _ 4 _ [.hdl 0, .val (eI n_1), .non, .non] _ rfl ?_
  unfold b__law_draw_placing t__law_draw_placing
  refine jg_nx (ρ2 := fun most_11 => [.hdl 0, .val (eI n_1), .val (eI most_11), .non]) (jn_asg (je_callS2 rfl (JJ.s (JJ.vl (je_lst (ja_cons (JJ.v (jx_c (e := eI) (x := 2) rfl)) (ja_cons (JJ.v (jx_c (e := eI) (x := 3) rfl)) (ja_cons (JJ.v (je_bin (JJ.r (jx_var (e := eI) (x := n_1) rfl)) (JJ.r (jx_c (e := eI) (x := 1) rfl)) op_addI)) (ja_cons (JJ.v (je_bin (JJ.r (jx_c (e := eI) (x := 10) rfl)) (JJ.r (jx_c (e := eI) (x := 8) rfl)) op_pow)) (ja_nil (e := eI))))))))) (v__law_of eI) (fun _ => rfl)) (fun _ => rfl)) (fun most_11 => ?_)
  exact jg_ret (je_bi1 (JJ.rl (je_map (e2 := eI) (ρ1 := fun c_13 => [.hdl 0, .val (eI n_1), .val (eI most_11), .val (eI c_13)]) (ji_rng1 (jx_var (e := eI) (x := n_1) rfl)) (fun _ => rfl) (fun _ => rfl) rfl (fun c_13 => (JJ.v (je_bin (JJ.r (je_callS2 rfl (JJ.s (JJ.v (jx_var (e := eI) (x := most_11) rfl))) v__law_pick (fun _ => rfl))) (JJ.r (je_bin (JJ.r (jx_var (e := eI) (x := most_11) rfl)) (JJ.r (jx_c (e := eI) (x := 3) rfl)) op_fdiv)) op_subI))))) op_tupL) (fun _ => rfl)

def t__law_draw_saying (n_1 : Int) (most_2 : Int) : M Src ((List (Int × Int)) × (Option (Int × Int))) :=
  (tb (tb (tb (tp ([] : List (Int × Int))) fun l => tg (sizeOk l.length) l) fun ties_9 => tb (tb (tb (tb (tp n_1) fun x_3 => tg (in62 x_3 && decide (x_3 ≤ 16777216)) (ivl 0 x_3.toNat)) fun a_4 => t__law_mixed a_4) fun x_6 => tb (tp none) fun lo_7 => tb (tb (tp (2 : Int)) fun x_5 => tp (some x_5)) fun hi_8 => tp (cutT x_6 lo_7 hi_8)) fun head_10 => tp (ties_9, head_10)) fun (p_11 : (List (Int × Int)) × (List Int)) => (tb (tb (tb (tb (tb (tb (tp (0 : Int)) fun x => tb (tb (tp (0 : Int)) fun x => tb (tb (tp (1 : Int)) fun x => tb (tb (tb (tb (tp most_2) fun x_15 => tb (tp (1 : Int)) fun y_16 => tp (x_15 + y_16)) fun a_17 => t__law_pick a_17) fun x => tb (tp ([] : List Int)) fun l => tp (x :: l)) fun l => tp (x :: l)) fun l => tp (x :: l)) fun l => tp (x :: l)) fun l => tg (sizeOk l.length) l) fun a_18 => t__law_of a_18) fun x_19 => tg (in62 x_19) (ivl 0 x_19.toNat)) fun l => tFor (fun (i_23 : Int) (st_22 : (List (Int × Int))) => (tb (tb (tb (tb (tb (tb (tb (tp n_1) fun x_28 => tg (in62 x_28 && decide (x_28 ≤ 16777216)) (ivl 0 x_28.toNat)) fun a_29 => t__law_mixed a_29) fun x_31 => tb (tp none) fun lo_32 => tb (tb (tp (2 : Int)) fun x_30 => tp (some x_30)) fun hi_33 => tp (cutT x_31 lo_32 hi_33)) fun x_34 => tg (sortOk (x_34.map eI)) (sortT eI x_34)) fun x_35 => tp x_35) fun x => to (pairOf x)) fun (tie_36 : (Int × Int)) => (tb (tb (tp st_22) fun x_42 => tb (tb (tb (tb (tp tie_36) fun x => tb (tp ([] : List (Int × Int))) fun l => tp (x :: l)) fun l => tg (sizeOk l.length) l) fun x_40 => tb (tb (tb (tp tie_36) fun x_37 => tb (tp st_22) fun y_38 => tp (!hasT y_38 x_37)) fun x_39 => tp (Dt.b2i x_39)) fun y_41 => tg (repC x_40.length y_41) (List.replicate y_41.toNat x_40).flatten) fun y_43 => tg (sizeOk (x_42.length + y_43.length)) (x_42 ++ y_43)) fun (ties_44 : (List (Int × Int))) => (tp ties_44)))) l p_11.1) fun (st_22 : (List (Int × Int))) => (tb (tb (tb (tp st_22) fun x_47 => tg (sortOk (x_47.map (eP eI eI))) (sortT (eP eI eI) x_47)) fun x_48 => tp x_48) fun x_54 => tb (tb (tb (tb (tp (6 : Int)) fun a_49 => t__law_pick a_49) fun x_50 => tb (tp (0 : Int)) fun y_51 => tp (decide (y_51 < x_50))) fun x_53 => if x_53 then (tb (tb (tb (tp p_11.2) fun x_52 => tp x_52) fun x => to (pairOf x)) fun x => tp (some x)) else (tb (tp ()) fun x => tp ((fun _ => (none : (Option (Int × Int)))) x))) fun y_55 => tp (x_54, y_55))))
theorem v__law_draw_saying (n_1 : Int) (most_2 : Int) : JF m__law_draw_saying [.hdl 0, .val (eI n_1), .val (eI most_2)] (t__law_draw_saying n_1 most_2) (oV (eP (eT (eP eI eI)) (eO (eP eI eI)))) := by
  refine @jf_def Src _ b__law_draw_saying _ 7 _ [.hdl 0, .val (eI n_1), .val (eI most_2), .non, .non, .non, .non] _ rfl ?_
  unfold b__law_draw_saying t__law_draw_saying
  refine jg_nx (jn_par2 (ρ2 := fun ties_9 head_10 => [.hdl 0, .val (eI n_1), .val (eI most_2), .non, .lst (ties_9.map (eP eI eI)), .lst (head_10.map eI), .non]) (je_lst (ja_nil (e := (eP eI eI)))) (je_slL (JJ.rl (je_callS2 rfl (JJ.s (JJ.vl (je_lstRg (jx_var (e := eI) (x := n_1) rfl)))) (v__law_mixed eI) (fun _ => rfl))) jq_no (jq_part (jx_c (e := eI) (x := 2) rfl))) (fun _ => rfl) (fun _ => rfl) (fun _ _ => rfl)) (fun p_11 => ?_)
  refine jg_forP (fun (st : (List (Int × Int))) (ρ : Fr) => ∃ (z_20 : Sl) (z_21 : Sl), ρ = [.hdl 0, .val (eI n_1), .val (eI most_2), z_20, .lst (st.map (eP eI eI)), .lst (p_11.2.map eI), z_21]) (ji_rng1 (je_callS2 rfl (JJ.s (JJ.vl (je_lst (ja_cons (JJ.v (jx_c (e := eI) (x := 0) rfl)) (ja_cons (JJ.v (jx_c (e := eI) (x := 0) rfl)) (ja_cons (JJ.v (jx_c (e := eI) (x := 1) rfl)) (ja_cons (JJ.v (je_callS2 rfl (JJ.s (JJ.v (je_bin (JJ.r (jx_var (e := eI) (x := most_2) rfl)) (JJ.r (jx_c (e := eI) (x := 1) rfl)) op_addI))) v__law_pick (fun _ => rfl))) (ja_nil (e := eI))))))))) (v__law_of eI) (fun _ => rfl))) ⟨_, _, rfl⟩ ?_ ?_
  · intro i_23 st_22 r_25 h_24
    obtain ⟨z_26, z_27, rfl⟩ := h_24
    refine ⟨[.hdl 0, .val (eI n_1), .val (eI most_2), .val (eI i_23), .lst (st_22.map (eP eI eI)), .lst (p_11.2.map eI), z_27], rfl, ?_⟩
    refine jg_nx (ρ2 := fun tie_36 => [.hdl 0, .val (eI n_1), .val (eI most_2), .val (eI i_23), .lst (st_22.map (eP eI eI)), .lst (p_11.2.map eI), .val ((eP eI eI) tie_36)]) (jn_asg (JJ.asPair (je_bi1 (JJ.rl (je_bi1 (JJ.rl (je_slL (JJ.rl (je_callS2 rfl (JJ.s (JJ.vl (je_lstRg (jx_var (e := eI) (x := n_1) rfl)))) (v__law_mixed eI) (fun _ => rfl))) jq_no (jq_part (jx_c (e := eI) (x := 2) rfl)))) op_sortL)) op_tupL)) (fun _ => rfl)) (fun tie_36 => ?_)
    refine jg_nx (ρ2 := fun ties_44 => [.hdl 0, .val (eI n_1), .val (eI most_2), .val (eI i_23), .lst (ties_44.map (eP eI eI)), .lst (p_11.2.map eI), .val ((eP eI eI) tie_36)]) (jn_asg (je_bin (jr_own (e := (eP eI eI)) rfl) (JJ.rl (je_bin (JJ.rl (je_lst (ja_cons (JJ.v (jx_var (e := (eP eI eI)) (x := tie_36) rfl)) (ja_nil (e := (eP eI eI)))))) (JJ.r (je_bi1 (JJ.r (je_bin (JJ.r (jx_var (e := (eP eI eI)) (x := tie_36) rfl)) (jr_own (e := (eP eI eI)) rfl) (op_ninL (e := (eP eI eI))))) op_intB)) op_repL)) op_catL) (fun _ => rfl)) (fun ties_44 => ?_)
    exact jg_nil ⟨_, _, rfl⟩
  intro st_22 r_25 h_24
  obtain ⟨z_45, z_46, rfl⟩ := h_24
  exact jg_ret (je_pair (JJ.v (je_bi1 (JJ.rl (je_bi1 (jr_own (e := (eP eI eI)) rfl) op_sortL)) op_tupL)) (JJ.v (je_if (jt_e (je_bin (JJ.r (je_callS2 rfl (JJ.s (JJ.v (jx_c (e := eI) (x := 6) rfl))) v__law_pick (fun _ => rfl))) (JJ.r (jx_c (e := eI) (x := 0) rfl)) op_gtI)) (JJ.as (e' := (eO (eP eI eI))) (f := some) (JJ.asPair (je_bi1 (jr_own (e := eI) rfl) op_tupL)) (fun _ => rfl)) (JJ.as (e' := (eO (eP eI eI))) (f := (fun _ => (none : (Option (Int × Int))))) (jx_c (e := eN) (x := ()) rfl) (fun _ => rfl))))) (fun _ => rfl)

def t__law_keeps (saying_1 : ((List (Int × Int)) × (Option (Int × Int)))) (placing_2 : (List Int)) : M Src Bool :=
  (tb (tp saying_1) fun (p_3 : ((List (Int × Int)) × (Option (Int × Int)))) => (tb (tb (tb (tp p_3.1) fun l => tFm (fun (c_4 : (Int × Int)) => (tb (tb (tp placing_2) fun x_5 => tb (tp c_4.1) fun y_6 => to (atI x_5 y_6)) fun x_9 => tb (tb (tp placing_2) fun x_7 => tb (tp c_4.2) fun y_8 => to (atI x_7 y_8)) fun y_10 => tp (!decide (x_9 = y_10)))) (fun (c_4 : (Int × Int)) => (tp (1 : Int))) l) fun x_11 => tb (tb (tp ([] : List Int)) fun l => tg (sizeOk l.length) l) fun y_12 => tp (!decide (x_11 = y_12))) fun b_13 => if b_13 then (tp true) else (tb (tb (tp p_3.2) fun x_14 => tb (tp ()) fun y_15 => tp x_14.isSome) fun x_24 => if x_24 then (tb (tb (tp placing_2) fun x_17 => tb (tb (tb (tp p_3.2) fun x => to x) fun x_16 => tp x_16.1) fun y_18 => to (atI x_17 y_18)) fun x_22 => tb (tb (tp placing_2) fun x_20 => tb (tb (tb (tp p_3.2) fun x => to x) fun x_19 => tp x_19.2) fun y_21 => to (atI x_20 y_21)) fun y_23 => tp (decide (x_22 ≤ y_23))) else tp false)))
theorem v__law_keeps (saying_1 : ((List (Int × Int)) × (Option (Int × Int)))) (placing_2 : (List Int)) : JF m__law_keeps [.val ((eP (eT (eP eI eI)) (eO (eP eI eI))) saying_1), .val ((eT eI) placing_2)] (t__law_keeps saying_1 placing_2) (oV eB) := by
  refine @jf_def Src _ b__law_keeps _ 6 _ [.val ((eP (eT (eP eI eI)) (eO (eP eI eI))) saying_1), .val ((eT eI) placing_2), .non, .non, .non, .non] _ rfl ?_
  unfold b__law_keeps t__law_keeps
  refine jg_nx (ρ2 := fun p_3 => [.val ((eP (eT (eP eI eI)) (eO (eP eI eI))) saying_1), .val ((eT eI) placing_2), .val ((eT (eP eI eI)) p_3.1), .val ((eO (eP eI eI)) p_3.2), .non, .non]) (jn_asgG (JJ.v (jx_var (e := (eP (eT (eP eI eI)) (eO (eP eI eI)))) (x := saying_1) rfl)) (fun _ => rfl)) (fun p_3 => ?_)
  refine jg_ifR (jt_e (je_bin (JJ.rl (je_fm (e2 := eI) (ρ1 := fun c_4 => [.val ((eP (eT (eP eI eI)) (eO (eP eI eI))) saying_1), .val ((eT eI) placing_2), .val ((eT (eP eI eI)) p_3.1), .val ((eO (eP eI eI)) p_3.2), .val (eI c_4.1), .val (eI c_4.2)]) (ji_T (JJ.v (jx_var (e := (eT (eP eI eI))) (x := p_3.1) rfl))) (fun _ => rfl) (fun _ => rfl) rfl (fun c_4 => (jt_e (je_bin (JJ.r (je_bin (JJ.r (jx_var (e := (eT eI)) (x := placing_2) rfl)) (JJ.r (jx_var (e := eI) (x := c_4.1) rfl)) op_ixT)) (JJ.r (je_bin (JJ.r (jx_var (e := (eT eI)) (x := placing_2) rfl)) (JJ.r (jx_var (e := eI) (x := c_4.2) rfl)) op_ixT)) (Dt.op_ne (e := eI))))) (fun c_4 => (JJ.v (jx_c (e := eI) (x := 1) rfl))))) (JJ.rl (je_lst (ja_nil (e := eI)))) (Dt.op_ne (e := (eL eI))))) ?_ ?_
  · exact jg_ret (jx_c (e := eB) (x := true) rfl) (fun _ => rfl)
  exact jg_ret (je_and (je_bin (JJ.r (jx_var (e := (eO (eP eI eI))) (x := p_3.2) rfl)) (JJ.r (jx_c (e := eN) (x := ()) rfl)) op_isNotNone) (je_bin (JJ.r (je_bin (JJ.r (jx_var (e := (eT eI)) (x := placing_2) rfl)) (JJ.r (je_ixc (JJ.r (JJ.unO (jx_var (e := (eO (eP eI eI))) (x := p_3.2) rfl))) op_ixP0)) op_ixT)) (JJ.r (je_bin (JJ.r (jx_var (e := (eT eI)) (x := placing_2) rfl)) (JJ.r (je_ixc (JJ.r (JJ.unO (jx_var (e := (eO (eP eI eI))) (x := p_3.2) rfl))) op_ixP1)) op_ixT)) op_leI)) (fun _ => rfl)

def t__law_draw_book (n_1 : Int) (many_2 : Int) : M Src (Int × (List ((List (Int × Int)) × (Option (Int × Int))))) :=
  (tb (tb (tb (tp n_1) fun a_3 => t__law_draw_placing a_3) fun placing_5 => tb (tb (tp ([] : List ((List (Int × Int)) × (Option (Int × Int))))) fun l => tg (sizeOk l.length) l) fun sayings_6 => tb (tb (tp (4 : Int)) fun a_4 => t__law_pick a_4) fun way_7 => tp (placing_5, sayings_6, way_7)) fun (p_8 : (List Int) × (List ((List (Int × Int)) × (Option (Int × Int)))) × Int) => (tb (tb (tb (tb (tb (tp many_2) fun x_9 => tb (tp (1 : Int)) fun y_10 => tp (x_9 + y_10)) fun a_11 => t__law_pick a_11) fun x_12 => tg (in62 x_12) (ivl 0 x_12.toNat)) fun l => tFor (fun (i_19 : Int) (st_18 : (List ((List (Int × Int)) × (Option (Int × Int))))) => (tb (tb (tp n_1) fun a_27 => tb (tp (2 : Int)) fun a_28 => t__law_draw_saying a_27 a_28) fun (saying_29 : ((List (Int × Int)) × (Option (Int × Int)))) => (tb (tb (tb (tb (tp p_8.2.2) fun x_34 => tb (tp (2 : Int)) fun y_35 => tp (decide (x_34 < y_35))) fun x_36 => if x_36 then (tb (tb (tb (tp saying_29) fun a_30 => tb (tp p_8.1) fun a_31 => t__law_keeps a_30 a_31) fun x_32 => tp x_32) fun x_33 => tp (!x_33)) else tp false) fun b_64 => if b_64 then (tb (tp saying_29) fun (p_41 : ((List (Int × Int)) × (Option (Int × Int)))) => (tb (tb (tb (tb (tp p_8.1) fun x_42 => tb (tp (0 : Int)) fun y_43 => to (atI x_42 y_43)) fun x_46 => tb (tb (tp p_8.1) fun x_44 => tb (tp (1 : Int)) fun y_45 => to (atI x_44 y_45)) fun y_47 => tp (decide (x_46 ≤ y_47))) fun x_52 => if x_52 then (tb (tp (0 : Int)) fun x_48 => tb (tp (1 : Int)) fun y_49 => tp (x_48, y_49)) else (tb (tp (1 : Int)) fun x_50 => tb (tp (0 : Int)) fun y_51 => tp (x_50, y_51))) fun (first_53 : (Int × Int)) => (tb (tb (tp p_41.1) fun x_58 => tb (tb (tb (tp p_41.2) fun x_54 => tb (tp ()) fun y_55 => tp x_54.isSome) fun x_57 => if x_57 then (tb (tb (tb (tp p_41.2) fun x => to x) fun x_56 => tp (x_56.2, x_56.1)) fun x => tp (some x)) else (tb (tp first_53) fun x => tp (some x))) fun y_59 => tp (x_58, y_59)) fun (saying_60 : ((List (Int × Int)) × (Option (Int × Int)))) => (tp saying_60)))) else (tp saying_29)) fun (st_61 : ((List (Int × Int)) × (Option (Int × Int)))) => (tb (tb (tp st_61) fun b => tApp st_18 b) fun sayings_68 => (tp sayings_68))))) l p_8.2.1) fun (st_18 : (List ((List (Int × Int)) × (Option (Int × Int))))) => (tb (tb (tb (tp p_8.2.2) fun x_74 => tb (tp (3 : Int)) fun y_75 => tp (decide (x_74 = y_75))) fun b_140 => if b_140 then (tb (tb (tb (tb (tp n_1) fun x_84 => tg (in62 x_84 && decide (x_84 ≤ 16777216)) (ivl 0 x_84.toNat)) fun a_85 => t__law_mixed a_85) fun x_92 => tb (tp none) fun lo_93 => tb (tb (tb (tp (2 : Int)) fun x_89 => tb (tb (tb (tp n_1) fun x_86 => tb (tp (1 : Int)) fun y_87 => tp (x_86 - y_87)) fun a_88 => t__law_pick a_88) fun y_90 => tp (x_89 + y_90)) fun x_91 => tp (some x_91)) fun hi_94 => tp (cutT x_92 lo_93 hi_94)) fun (ring_95 : (List Int)) => (tb (tb (tb (tb (tp ring_95) fun x_106 => tb (tb (tb (tp ring_95) fun x_97 => tb (tb (tp (1 : Int)) fun x_96 => tp (some x_96)) fun lo_98 => tb (tp none) fun hi_99 => tp (cutT x_97 lo_98 hi_99)) fun x_104 => tb (tb (tp ring_95) fun x_101 => tb (tp none) fun lo_102 => tb (tb (tp (1 : Int)) fun x_100 => tp (some x_100)) fun hi_103 => tp (cutT x_101 lo_102 hi_103)) fun y_105 => tg (sizeOk (x_104.length + y_105.length)) (x_104 ++ y_105)) fun y_107 => tp (List.zip x_106 y_107)) fun l => tMap (fun (c_108 : (Int × Int)) => (tb (tb (tp ([] : List (Int × Int))) fun l => tg (sizeOk l.length) l) fun x_111 => tb (tb (tb (tp c_108.1) fun x_109 => tb (tp c_108.2) fun y_110 => tp (x_109, y_110)) fun x => tp (some x)) fun y_112 => tp (x_111, y_112))) l) fun x_121 => tb (tb (tb (tb (tb (tb (tb (tb (tb (tb (tp ring_95) fun x_114 => tb (tp none) fun lo_115 => tb (tb (tp (2 : Int)) fun x_113 => tp (some x_113)) fun hi_116 => tp (cutT x_114 lo_115 hi_116)) fun x_117 => tg (sortOk (x_117.map eI)) (sortT eI x_117)) fun x_118 => tp x_118) fun x => to (pairOf x)) fun x => tb (tp ([] : List (Int × Int))) fun l => tp (x :: l)) fun l => tg (sizeOk l.length) l) fun x_119 => tb (tb (tp ()) fun x => tp ((fun _ => (none : (Option (Int × Int)))) x)) fun y_120 => tp (x_119, y_120)) fun x => tb (tp ([] : List ((List (Int × Int)) × (Option (Int × Int))))) fun l => tp (x :: l)) fun l => tg (sizeOk l.length) l) fun y_122 => tg (sizeOk (x_121.length + y_122.length)) (x_121 ++ y_122)) fun (late_123 : (List ((List (Int × Int)) × (Option (Int × Int))))) => (tb (tb (tb (tb (tp st_18) fun x_130 => tb (tp none) fun lo_131 => tb (tb (tb (tp (0 : Int)) fun x_127 => tb (tb (tp many_2) fun x_125 => tb (tb (tp late_123) fun x_124 => tp (ilen x_124)) fun y_126 => tp (x_125 - y_126)) fun y_128 => tp (if y_128 > x_127 then y_128 else x_127)) fun x_129 => tp (some x_129)) fun hi_132 => tp (cutT x_130 lo_131 hi_132)) fun x_133 => tb (tp late_123) fun y_134 => tg (sizeOk (x_133.length + y_134.length)) (x_133 ++ y_134)) fun a_135 => t__law_mixed a_135) fun (sayings_136 : (List ((List (Int × Int)) × (Option (Int × Int))))) => (tp sayings_136)))) else (tp st_18)) fun (st_137 : (List ((List (Int × Int)) × (Option (Int × Int))))) => (tb (tp n_1) fun x_149 => tb (tb (tp st_137) fun x_148 => tp x_148) fun y_150 => tp (x_149, y_150)))))
theorem v__law_draw_book (n_1 : Int) (many_2 : Int) : JF m__law_draw_book [.hdl 0, .val (eI n_1), .val (eI many_2)] (t__law_draw_book n_1 many_2) (oV (eP eI (eT (eP (eT (eP eI eI)) (eO (eP eI eI)))))) := by
  refine @jf_def Src _ b__law_draw_book _ 15 _ [.hdl 0, .val (eI n_1), .val (eI many_2), .non, .non, .non, .non, .non, .non, .non, .non, .non, .non, .non, .non] _ rfl ?_
  unfold b__law_draw_book t__law_draw_book
  refine jg_nx (jn_par3 (ρ2 := fun placing_5 sayings_6 way_7 => [.hdl 0, .val (eI n_1), .val (eI many_2), .non, .val ((eT eI) placing_5), .lst (sayings_6.map (eP (eT (eP eI eI)) (eO (eP eI eI)))), .val (eI way_7), .non, .non, .non, .non, .non, .non, .non, .non]) (je_callS2 rfl (JJ.s (JJ.v (jx_var (e := eI) (x := n_1) rfl))) v__law_draw_placing (fun _ => rfl)) (je_lst (ja_nil (e := (eP (eT (eP eI eI)) (eO (eP eI eI)))))) (je_callS2 rfl (JJ.s (JJ.v (jx_c (e := eI) (x := 4) rfl))) v__law_pick (fun _ => rfl)) (fun _ => rfl) (fun _ => rfl) (fun _ => rfl) (fun _ _ _ => rfl)) (fun p_8 => ?_)
  refine jg_forP (fun (st : (List ((List (Int × Int)) × (Option (Int × Int))))) (ρ : Fr) => ∃ (z_13 : Sl) (z_14 : Sl) (z_15 : Sl) (z_16 : Sl) (z_17 : Sl), ρ = [.hdl 0, .val (eI n_1), .val (eI many_2), z_13, .val ((eT eI) p_8.1), .lst (st.map (eP (eT (eP eI eI)) (eO (eP eI eI)))), .val (eI p_8.2.2), z_14, .non, .non, z_15, z_16, z_17, .non, .non]) (ji_rng1 (je_callS2 rfl (JJ.s (JJ.v (je_bin (JJ.r (jx_var (e := eI) (x := many_2) rfl)) (JJ.r (jx_c (e := eI) (x := 1) rfl)) op_addI))) v__law_pick (fun _ => rfl))) ⟨_, _, _, _, _, rfl⟩ ?_ ?_
  · intro i_19 st_18 r_21 h_20
    obtain ⟨z_22, z_23, z_24, z_25, z_26, rfl⟩ := h_20
    refine ⟨[.hdl 0, .val (eI n_1), .val (eI many_2), .val (eI i_19), .val ((eT eI) p_8.1), .lst (st_18.map (eP (eT (eP eI eI)) (eO (eP eI eI)))), .val (eI p_8.2.2), z_23, .non, .non, z_24, z_25, z_26, .non, .non], rfl, ?_⟩
    refine jg_nx (ρ2 := fun saying_29 => [.hdl 0, .val (eI n_1), .val (eI many_2), .val (eI i_19), .val ((eT eI) p_8.1), .lst (st_18.map (eP (eT (eP eI eI)) (eO (eP eI eI)))), .val (eI p_8.2.2), .val ((eP (eT (eP eI eI)) (eO (eP eI eI))) saying_29), .non, .non, z_24, z_25, z_26, .non, .non]) (jn_asg (je_callS3 rfl (JJ.s (JJ.v (jx_var (e := eI) (x := n_1) rfl))) (JJ.s (JJ.v (jx_c (e := eI) (x := 2) rfl))) v__law_draw_saying (fun _ => rfl)) (fun _ => rfl)) (fun saying_29 => ?_)
    refine jg_ifP (fun (st : ((List (Int × Int)) × (Option (Int × Int)))) (ρ : Fr) => ∃ (z_38 : Sl) (z_39 : Sl) (z_40 : Sl), ρ = [.hdl 0, .val (eI n_1), .val (eI many_2), .val (eI i_19), .val ((eT eI) p_8.1), .lst (st_18.map (eP (eT (eP eI eI)) (eO (eP eI eI)))), .val (eI p_8.2.2), .val ((eP (eT (eP eI eI)) (eO (eP eI eI))) st), .non, .non, z_38, z_39, z_40, .non, .non]) (jt_and (jt_e (je_bin (JJ.r (jx_var (e := eI) (x := p_8.2.2) rfl)) (JJ.r (jx_c (e := eI) (x := 2) rfl)) op_ltI)) (jt_not (jt_tru (JJ.r (je_call2 (JJ.s (JJ.v (jx_var (e := (eP (eT (eP eI eI)) (eO (eP eI eI)))) (x := saying_29) rfl))) (JJ.s (JJ.v (jx_var (e := (eT eI)) (x := p_8.1) rfl))) v__law_keeps (fun _ => rfl)))))) ?_ ?_ ?_
    · refine jg_nx (ρ2 := fun p_41 => [.hdl 0, .val (eI n_1), .val (eI many_2), .val (eI i_19), .val ((eT eI) p_8.1), .lst (st_18.map (eP (eT (eP eI eI)) (eO (eP eI eI)))), .val (eI p_8.2.2), .val ((eP (eT (eP eI eI)) (eO (eP eI eI))) saying_29), .non, .non, z_24, .val ((eT (eP eI eI)) p_41.1), .val ((eO (eP eI eI)) p_41.2), .non, .non]) (jn_asgG (JJ.v (jx_var (e := (eP (eT (eP eI eI)) (eO (eP eI eI)))) (x := saying_29) rfl)) (fun _ => rfl)) (fun p_41 => ?_)
      refine jg_nx (ρ2 := fun first_53 => [.hdl 0, .val (eI n_1), .val (eI many_2), .val (eI i_19), .val ((eT eI) p_8.1), .lst (st_18.map (eP (eT (eP eI eI)) (eO (eP eI eI)))), .val (eI p_8.2.2), .val ((eP (eT (eP eI eI)) (eO (eP eI eI))) saying_29), .non, .non, .val ((eP eI eI) first_53), .val ((eT (eP eI eI)) p_41.1), .val ((eO (eP eI eI)) p_41.2), .non, .non]) (jn_asg (je_if (jt_e (je_bin (JJ.r (je_bin (JJ.r (jx_var (e := (eT eI)) (x := p_8.1) rfl)) (JJ.r (jx_c (e := eI) (x := 0) rfl)) op_ixT)) (JJ.r (je_bin (JJ.r (jx_var (e := (eT eI)) (x := p_8.1) rfl)) (JJ.r (jx_c (e := eI) (x := 1) rfl)) op_ixT)) op_leI)) (je_pair (JJ.v (jx_c (e := eI) (x := 0) rfl)) (JJ.v (jx_c (e := eI) (x := 1) rfl))) (je_pair (JJ.v (jx_c (e := eI) (x := 1) rfl)) (JJ.v (jx_c (e := eI) (x := 0) rfl)))) (fun _ => rfl)) (fun first_53 => ?_)
      refine jg_nx (ρ2 := fun saying_60 => [.hdl 0, .val (eI n_1), .val (eI many_2), .val (eI i_19), .val ((eT eI) p_8.1), .lst (st_18.map (eP (eT (eP eI eI)) (eO (eP eI eI)))), .val (eI p_8.2.2), .val ((eP (eT (eP eI eI)) (eO (eP eI eI))) saying_60), .non, .non, .val ((eP eI eI) first_53), .val ((eT (eP eI eI)) p_41.1), .val ((eO (eP eI eI)) p_41.2), .non, .non]) (jn_asg (je_pair (JJ.v (jx_var (e := (eT (eP eI eI))) (x := p_41.1) rfl)) (JJ.v (je_if (jt_e (je_bin (JJ.r (jx_var (e := (eO (eP eI eI))) (x := p_41.2) rfl)) (JJ.r (jx_c (e := eN) (x := ()) rfl)) op_isNotNone)) (JJ.as (e' := (eO (eP eI eI))) (f := some) (je_un (JJ.r (JJ.unO (jx_var (e := (eO (eP eI eI))) (x := p_41.2) rfl))) op_revP) (fun _ => rfl)) (JJ.as (e' := (eO (eP eI eI))) (f := some) (jx_var (e := (eP eI eI)) (x := first_53) rfl) (fun _ => rfl))))) (fun _ => rfl)) (fun saying_60 => ?_)
      exact jg_nil ⟨_, _, _, rfl⟩
    · exact jg_nil ⟨_, _, _, rfl⟩
    intro st_61 r_63 h_62
    obtain ⟨z_65, z_66, z_67, rfl⟩ := h_62
    refine jg_nx (ρ2 := fun sayings_68 => [.hdl 0, .val (eI n_1), .val (eI many_2), .val (eI i_19), .val ((eT eI) p_8.1), .lst (sayings_68.map (eP (eT (eP eI eI)) (eO (eP eI eI)))), .val (eI p_8.2.2), .val ((eP (eT (eP eI eI)) (eO (eP eI eI))) st_61), .non, .non, z_65, z_66, z_67, .non, .non]) (jn_dropW (jw_app rfl (JJ.v (jx_var (e := (eP (eT (eP eI eI)) (eO (eP eI eI)))) (x := st_61) rfl)) (fun _ => rfl))) (fun sayings_68 => ?_)
    exact jg_nil ⟨_, _, _, _, _, rfl⟩
  intro st_18 r_21 h_20
  obtain ⟨z_69, z_70, z_71, z_72, z_73, rfl⟩ := h_20
  refine jg_ifP (fun (st : (List ((List (Int × Int)) × (Option (Int × Int))))) (ρ : Fr) => ∃ (z_77 : Sl) (z_78 : Sl) (z_79 : Sl) (z_80 : Sl) (z_81 : Sl) (z_82 : Sl) (z_83 : Sl), ρ = [.hdl 0, .val (eI n_1), .val (eI many_2), z_77, .val ((eT eI) p_8.1), .lst (st.map (eP (eT (eP eI eI)) (eO (eP eI eI)))), .val (eI p_8.2.2), z_78, z_79, z_80, z_81, z_82, z_83, .non, .non]) (jt_e (je_bin (JJ.r (jx_var (e := eI) (x := p_8.2.2) rfl)) (JJ.r (jx_c (e := eI) (x := 3) rfl)) (Dt.op_eq (e := eI)))) ?_ ?_ ?_
  · refine jg_nx (ρ2 := fun ring_95 => [.hdl 0, .val (eI n_1), .val (eI many_2), z_69, .val ((eT eI) p_8.1), .lst (st_18.map (eP (eT (eP eI eI)) (eO (eP eI eI)))), .val (eI p_8.2.2), z_70, .lst (ring_95.map eI), .non, z_71, z_72, z_73, .non, .non]) (jn_asg (je_slL (JJ.rl (je_callS2 rfl (JJ.s (JJ.vl (je_lstRg (jx_var (e := eI) (x := n_1) rfl)))) (v__law_mixed eI) (fun _ => rfl))) jq_no (jq_part (je_bin (JJ.r (jx_c (e := eI) (x := 2) rfl)) (JJ.r (je_callS2 rfl (JJ.s (JJ.v (je_bin (JJ.r (jx_var (e := eI) (x := n_1) rfl)) (JJ.r (jx_c (e := eI) (x := 1) rfl)) op_subI))) v__law_pick (fun _ => rfl))) op_addI))) (fun _ => rfl)) (fun ring_95 => ?_)
    refine jg_frz (ρ2 := [.hdl 0, .val (eI n_1), .val (eI many_2), z_69, .val ((eT eI) p_8.1), .lst (st_18.map (eP (eT (eP eI eI)) (eO (eP eI eI)))), .val (eI p_8.2.2), z_70, .val ((eL eI) ring_95), .non, z_71, z_72, z_73, .non, .non]) rfl ?_
    refine jg_nx (ρ2 := fun late_123 => [.hdl 0, .val (eI n_1), .val (eI many_2), z_69, .val ((eT eI) p_8.1), .lst (st_18.map (eP (eT (eP eI eI)) (eO (eP eI eI)))), .val (eI p_8.2.2), z_70, .val ((eL eI) ring_95), .lst (late_123.map (eP (eT (eP eI eI)) (eO (eP eI eI)))), z_71, z_72, z_73, .non, .non]) (jn_asg (je_bin (JJ.rl (je_map (e2 := (eP (eT (eP eI eI)) (eO (eP eI eI)))) (ρ1 := fun c_108 => [.hdl 0, .val (eI n_1), .val (eI many_2), z_69, .val ((eT eI) p_8.1), .lst (st_18.map (eP (eT (eP eI eI)) (eO (eP eI eI)))), .val (eI p_8.2.2), z_70, .val ((eL eI) ring_95), .non, z_71, z_72, z_73, .val (eI c_108.1), .val (eI c_108.2)]) (ji_zipL (JJ.v (jx_var (e := (eL eI)) (x := ring_95) rfl)) (JJ.vl (je_bin (JJ.rl (je_slL (JJ.r (jx_var (e := (eL eI)) (x := ring_95) rfl)) (jq_part (jx_c (e := eI) (x := 1) rfl)) jq_no)) (JJ.rl (je_slL (JJ.r (jx_var (e := (eL eI)) (x := ring_95) rfl)) jq_no (jq_part (jx_c (e := eI) (x := 1) rfl)))) op_catL))) (fun _ => rfl) (fun _ => rfl) rfl (fun c_108 => (JJ.v (je_pair (JJ.v (je_tup (ja_nil (e := (eP eI eI))))) (JJ.v (JJ.as (e' := (eO (eP eI eI))) (f := some) (je_pair (JJ.v (jx_var (e := eI) (x := c_108.1) rfl)) (JJ.v (jx_var (e := eI) (x := c_108.2) rfl))) (fun _ => rfl)))))))) (JJ.rl (je_lst (ja_cons (JJ.v (je_pair (JJ.v (je_tup (ja_cons (JJ.v (JJ.asPair (je_bi1 (JJ.rl (je_bi1 (JJ.rl (je_slL (JJ.r (jx_var (e := (eL eI)) (x := ring_95) rfl)) jq_no (jq_part (jx_c (e := eI) (x := 2) rfl)))) op_sortL)) op_tupL))) (ja_nil (e := (eP eI eI)))))) (JJ.v (JJ.as (e' := (eO (eP eI eI))) (f := (fun _ => (none : (Option (Int × Int))))) (jx_c (e := eN) (x := ()) rfl) (fun _ => rfl))))) (ja_nil (e := (eP (eT (eP eI eI)) (eO (eP eI eI)))))))) op_catL) (fun _ => rfl)) (fun late_123 => ?_)
    refine jg_nx (ρ2 := fun sayings_136 => [.hdl 0, .val (eI n_1), .val (eI many_2), z_69, .val ((eT eI) p_8.1), .lst (sayings_136.map (eP (eT (eP eI eI)) (eO (eP eI eI)))), .val (eI p_8.2.2), z_70, .val ((eL eI) ring_95), .lst (late_123.map (eP (eT (eP eI eI)) (eO (eP eI eI)))), z_71, z_72, z_73, .non, .non]) (jn_asg (je_callS2 rfl (JJ.s (JJ.vl (je_bin (JJ.rl (je_slL (jr_own (e := (eP (eT (eP eI eI)) (eO (eP eI eI)))) rfl) jq_no (jq_part (je_bi2 (JJ.r (jx_c (e := eI) (x := 0) rfl)) (JJ.r (je_bin (JJ.r (jx_var (e := eI) (x := many_2) rfl)) (JJ.r (je_bi1 (jr_own (e := (eP (eT (eP eI eI)) (eO (eP eI eI)))) rfl) op_lenL)) op_subI)) op_max2)))) (jr_own (e := (eP (eT (eP eI eI)) (eO (eP eI eI)))) rfl) op_catL))) (v__law_mixed (eP (eT (eP eI eI)) (eO (eP eI eI)))) (fun _ => rfl)) (fun _ => rfl)) (fun sayings_136 => ?_)
    exact jg_nil ⟨_, _, _, _, _, _, _, rfl⟩
  · exact jg_nil ⟨_, _, _, _, _, _, _, rfl⟩
  intro st_137 r_139 h_138
  obtain ⟨z_141, z_142, z_143, z_144, z_145, z_146, z_147, rfl⟩ := h_138
  exact jg_ret (je_pair (JJ.v (jx_var (e := eI) (x := n_1) rfl)) (JJ.v (je_bi1 (jr_own (e := (eP (eT (eP eI eI)) (eO (eP eI eI)))) rfl) op_tupL))) (fun _ => rfl)

def t__law_keeps_all (sayings_1 : (List ((List (Int × Int)) × (Option (Int × Int))))) (placing_2 : (List Int)) : M Src Bool :=
  (tb (tb (tp sayings_1) fun l => tFm (fun (c_3 : ((List (Int × Int)) × (Option (Int × Int)))) => (tb (tb (tb (tp c_3) fun a_4 => tb (tp placing_2) fun a_5 => t__law_keeps a_4 a_5) fun x_6 => tp x_6) fun x_7 => tp (!x_7))) (fun (c_3 : ((List (Int × Int)) × (Option (Int × Int)))) => (tp c_3)) l) fun x_8 => tb (tb (tp ([] : List ((List (Int × Int)) × (Option (Int × Int))))) fun l => tg (sizeOk l.length) l) fun y_9 => tp (decide (x_8 = y_9)))
theorem v__law_keeps_all (sayings_1 : (List ((List (Int × Int)) × (Option (Int × Int))))) (placing_2 : (List Int)) : JF m__law_keeps_all [.val ((eT (eP (eT (eP eI eI)) (eO (eP eI eI)))) sayings_1), .val ((eT eI) placing_2)] (t__law_keeps_all sayings_1 placing_2) (oV eB) := by
  refine @jf_def Src _ b__law_keeps_all _ 3 _ [.val ((eT (eP (eT (eP eI eI)) (eO (eP eI eI)))) sayings_1), .val ((eT eI) placing_2), .non] _ rfl ?_
  unfold b__law_keeps_all t__law_keeps_all
  exact jg_ret (je_bin (JJ.rl (je_fm (e2 := (eP (eT (eP eI eI)) (eO (eP eI eI)))) (ρ1 := fun c_3 => [.val ((eT (eP (eT (eP eI eI)) (eO (eP eI eI)))) sayings_1), .val ((eT eI) placing_2), .val ((eP (eT (eP eI eI)) (eO (eP eI eI))) c_3)]) (ji_T (JJ.v (jx_var (e := (eT (eP (eT (eP eI eI)) (eO (eP eI eI))))) (x := sayings_1) rfl))) (fun _ => rfl) (fun _ => rfl) rfl (fun c_3 => (jt_not (jt_tru (JJ.r (je_call2 (JJ.s (JJ.v (jx_var (e := (eP (eT (eP eI eI)) (eO (eP eI eI)))) (x := c_3) rfl))) (JJ.s (JJ.v (jx_var (e := (eT eI)) (x := placing_2) rfl))) v__law_keeps (fun _ => rfl)))))) (fun c_3 => (JJ.v (jx_var (e := (eP (eT (eP eI eI)) (eO (eP eI eI)))) (x := c_3) rfl))))) (JJ.rl (je_lst (ja_nil (e := (eP (eT (eP eI eI)) (eO (eP eI eI))))))) (Dt.op_eq (e := (eL (eP (eT (eP eI eI)) (eO (eP eI eI))))))) (fun _ => rfl)

def t__law_draw_set (n_1 : Int) : M Src (List (List Int)) :=
  (tb (tb (tb (tp (4 : Int)) fun a_2 => t__law_pick a_2) fun way_4 => tb (tb (tp n_1) fun a_3 => t__law_orders a_3) fun orders_v_5 => tp (way_4, orders_v_5)) fun (p_6 : Int × (List (List Int))) => (tb (tb (tp p_6.1) fun x_7 => tb (tp (0 : Int)) fun y_8 => tp (decide (x_7 = y_8))) fun b_9 => if b_9 then (tb (tb (tb (tb (tp p_6.2) fun a_10 => t__law_mixed a_10) fun x_13 => tb (tp none) fun lo_14 => tb (tb (tb (tp (6 : Int)) fun a_11 => t__law_pick a_11) fun x_12 => tp (some x_12)) fun hi_15 => tp (cutT x_13 lo_14 hi_15)) fun x_16 => tg (sortOk (x_16.map (eT eI))) (sortT (eT eI) x_16)) fun x_17 => tp x_17) else (tb (tb (tb (tp p_6.1) fun x_20 => tb (tp (1 : Int)) fun y_21 => tp (decide (x_20 = y_21))) fun x_22 => if x_22 then tp true else (tb (tp n_1) fun x_18 => tb (tp (2 : Int)) fun y_19 => tp (decide (x_18 < y_19)))) fun b_23 => if b_23 then (tb (tb (tp p_6.2) fun l => tFm (fun (c_24 : (List Int)) => (tb (tb (tp (3 : Int)) fun a_25 => t__law_pick a_25) fun x_26 => tb (tp (0 : Int)) fun y_27 => tp (decide (y_27 < x_26)))) (fun (c_24 : (List Int)) => (tp c_24)) l) fun x_28 => tp x_28) else (tb (tb (tp n_1) fun a_29 => tb (tp (5 : Int)) fun a_30 => t__law_draw_book a_29 a_30) fun (book_31 : (Int × (List ((List (Int × Int)) × (Option (Int × Int)))))) => (tb (tb (tp p_6.2) fun l => tFm (fun (c_32 : (List Int)) => (tb (tb (tb (tp book_31) fun x_33 => tp x_33.2) fun a_34 => tb (tp c_32) fun a_35 => t__law_keeps_all a_34 a_35) fun x_36 => tp x_36)) (fun (c_32 : (List Int)) => (tp c_32)) l) fun (found_37 : (List (List Int))) => (tb (tb (tb (tb (tp p_6.1) fun x_40 => tb (tp (3 : Int)) fun y_41 => tp (decide (x_40 = y_41))) fun x_42 => if x_42 then (tb (tp found_37) fun x_38 => tb (tb (tp ([] : List (List Int))) fun l => tg (sizeOk l.length) l) fun y_39 => tp (!decide (x_38 = y_39))) else tp false) fun x_44 => if x_44 then (tb (tb (tp found_37) fun a_43 => t__law_of a_43) fun x => tp (some x)) else (tb (tp ()) fun x => tp ((fun _ => (none : (Option (List Int)))) x))) fun (gone_45 : (Option (List Int))) => (tb (tb (tp found_37) fun l => tFm (fun (c_46 : (List Int)) => (tb (tb (tp c_46) fun x => tp (some x)) fun x_47 => tb (tp gone_45) fun y_48 => tp (!decide (x_47 = y_48)))) (fun (c_46 : (List Int)) => (tp c_46)) l) fun x_49 => tp x_49)))))))
theorem v__law_draw_set (n_1 : Int) : JF m__law_draw_set [.hdl 0, .val (eI n_1)] (t__law_draw_set n_1) (oV (eT (eT eI))) := by
  refine @jf_def Src _ b__law_draw_set _ 8 _ [.hdl 0, .val (eI n_1), .non, .non, .non, .non, .non, .non] _ rfl ?_
  unfold b__law_draw_set t__law_draw_set
  refine jg_nx (jn_par2 (ρ2 := fun way_4 orders_v_5 => [.hdl 0, .val (eI n_1), .non, .non, .non, .val (eI way_4), .lst (orders_v_5.map (eT eI)), .non]) (je_callS2 rfl (JJ.s (JJ.v (jx_c (e := eI) (x := 4) rfl))) v__law_pick (fun _ => rfl)) (je_call1 (JJ.s (JJ.v (jx_var (e := eI) (x := n_1) rfl))) v__law_orders (fun _ => rfl)) (fun _ => rfl) (fun _ => rfl) (fun _ _ => rfl)) (fun p_6 => ?_)
  refine jg_frz (ρ2 := [.hdl 0, .val (eI n_1), .non, .non, .non, .val (eI p_6.1), .val ((eL (eT eI)) p_6.2), .non]) rfl ?_
  refine jg_ifR (jt_e (je_bin (JJ.r (jx_var (e := eI) (x := p_6.1) rfl)) (JJ.r (jx_c (e := eI) (x := 0) rfl)) (Dt.op_eq (e := eI)))) ?_ ?_
  · exact jg_ret (je_bi1 (JJ.rl (je_bi1 (JJ.rl (je_slL (JJ.rl (je_callS2 rfl (JJ.s (JJ.v (jx_var (e := (eL (eT eI))) (x := p_6.2) rfl))) (v__law_mixed (eT eI)) (fun _ => rfl))) jq_no (jq_part (je_callS2 rfl (JJ.s (JJ.v (jx_c (e := eI) (x := 6) rfl))) v__law_pick (fun _ => rfl))))) op_sortL)) op_tupL) (fun _ => rfl)
  refine jg_ifR (jt_or (jt_e (je_bin (JJ.r (jx_var (e := eI) (x := p_6.1) rfl)) (JJ.r (jx_c (e := eI) (x := 1) rfl)) (Dt.op_eq (e := eI)))) (jt_e (je_bin (JJ.r (jx_var (e := eI) (x := n_1) rfl)) (JJ.r (jx_c (e := eI) (x := 2) rfl)) op_ltI))) ?_ ?_
  · exact jg_ret (je_bi1 (JJ.rl (je_fm (e2 := (eT eI)) (ρ1 := fun c_24 => [.hdl 0, .val (eI n_1), .non, .non, .non, .val (eI p_6.1), .val ((eL (eT eI)) p_6.2), .val ((eT eI) c_24)]) (ji_L (JJ.v (jx_var (e := (eL (eT eI))) (x := p_6.2) rfl))) (fun _ => rfl) (fun _ => rfl) rfl (fun c_24 => (jt_e (je_bin (JJ.r (je_callS2 rfl (JJ.s (JJ.v (jx_c (e := eI) (x := 3) rfl))) v__law_pick (fun _ => rfl))) (JJ.r (jx_c (e := eI) (x := 0) rfl)) op_gtI))) (fun c_24 => (JJ.v (jx_var (e := (eT eI)) (x := c_24) rfl))))) op_tupL) (fun _ => rfl)
  refine jg_nx (ρ2 := fun book_31 => [.hdl 0, .val (eI n_1), .val ((eP eI (eT (eP (eT (eP eI eI)) (eO (eP eI eI))))) book_31), .non, .non, .val (eI p_6.1), .val ((eL (eT eI)) p_6.2), .non]) (jn_asg (je_callS3 rfl (JJ.s (JJ.v (jx_var (e := eI) (x := n_1) rfl))) (JJ.s (JJ.v (jx_c (e := eI) (x := 5) rfl))) v__law_draw_book (fun _ => rfl)) (fun _ => rfl)) (fun book_31 => ?_)
  refine jg_nx (ρ2 := fun found_37 => [.hdl 0, .val (eI n_1), .val ((eP eI (eT (eP (eT (eP eI eI)) (eO (eP eI eI))))) book_31), .lst (found_37.map (eT eI)), .non, .val (eI p_6.1), .val ((eL (eT eI)) p_6.2), .non]) (jn_asg (je_fm (e2 := (eT eI)) (ρ1 := fun c_32 => [.hdl 0, .val (eI n_1), .val ((eP eI (eT (eP (eT (eP eI eI)) (eO (eP eI eI))))) book_31), .non, .non, .val (eI p_6.1), .val ((eL (eT eI)) p_6.2), .val ((eT eI) c_32)]) (ji_L (JJ.v (jx_var (e := (eL (eT eI))) (x := p_6.2) rfl))) (fun _ => rfl) (fun _ => rfl) rfl (fun c_32 => (jt_tru (JJ.r (je_call2 (JJ.s (JJ.v (je_ixc (JJ.r (jx_var (e := (eP eI (eT (eP (eT (eP eI eI)) (eO (eP eI eI)))))) (x := book_31) rfl)) op_ixP1))) (JJ.s (JJ.v (jx_var (e := (eT eI)) (x := c_32) rfl))) v__law_keeps_all (fun _ => rfl))))) (fun c_32 => (JJ.v (jx_var (e := (eT eI)) (x := c_32) rfl)))) (fun _ => rfl)) (fun found_37 => ?_)
  refine jg_frz (ρ2 := [.hdl 0, .val (eI n_1), .val ((eP eI (eT (eP (eT (eP eI eI)) (eO (eP eI eI))))) book_31), .val ((eL (eT eI)) found_37), .non, .val (eI p_6.1), .val ((eL (eT eI)) p_6.2), .non]) rfl ?_
  refine jg_nx (ρ2 := fun gone_45 => [.hdl 0, .val (eI n_1), .val ((eP eI (eT (eP (eT (eP eI eI)) (eO (eP eI eI))))) book_31), .val ((eL (eT eI)) found_37), .val ((eO (eT eI)) gone_45), .val (eI p_6.1), .val ((eL (eT eI)) p_6.2), .non]) (jn_asg (je_if (jt_and (jt_e (je_bin (JJ.r (jx_var (e := eI) (x := p_6.1) rfl)) (JJ.r (jx_c (e := eI) (x := 3) rfl)) (Dt.op_eq (e := eI)))) (jt_e (je_bin (JJ.r (jx_var (e := (eL (eT eI))) (x := found_37) rfl)) (JJ.rl (je_lst (ja_nil (e := (eT eI))))) (Dt.op_ne (e := (eL (eT eI))))))) (JJ.as (e' := (eO (eT eI))) (f := some) (je_callS2 rfl (JJ.s (JJ.v (jx_var (e := (eL (eT eI))) (x := found_37) rfl))) (v__law_of (eT eI)) (fun _ => rfl)) (fun _ => rfl)) (JJ.as (e' := (eO (eT eI))) (f := (fun _ => (none : (Option (List Int))))) (jx_c (e := eN) (x := ()) rfl) (fun _ => rfl))) (fun _ => rfl)) (fun gone_45 => ?_)
  exact jg_ret (je_bi1 (JJ.rl (je_fm (e2 := (eT eI)) (ρ1 := fun c_46 => [.hdl 0, .val (eI n_1), .val ((eP eI (eT (eP (eT (eP eI eI)) (eO (eP eI eI))))) book_31), .val ((eL (eT eI)) found_37), .val ((eO (eT eI)) gone_45), .val (eI p_6.1), .val ((eL (eT eI)) p_6.2), .val ((eT eI) c_46)]) (ji_L (JJ.v (jx_var (e := (eL (eT eI))) (x := found_37) rfl))) (fun _ => rfl) (fun _ => rfl) rfl (fun c_46 => (jt_e (je_bin (JJ.r (JJ.as (e' := (eO (eT eI))) (f := some) (jx_var (e := (eT eI)) (x := c_46) rfl) (fun _ => rfl))) (JJ.r (jx_var (e := (eO (eT eI))) (x := gone_45) rfl)) (Dt.op_ne (e := (eO (eT eI))))))) (fun c_46 => (JJ.v (jx_var (e := (eT eI)) (x := c_46) rfl))))) op_tupL) (fun _ => rfl)

def t__law_is_integers (value_1 : (List Int)) (many_2 : Int) : M Src Bool :=
  (tb (tb (tb (tb (tb (tp value_1) fun x_6 => tg ((eT eI) x_6).canLay0 (PyData.isTuple ((eT eI) x_6))) fun x_7 => tp x_7) fun x_8 => tp (!x_8)) fun x_9 => if x_9 then tp true else (tb (tb (tp value_1) fun x_3 => tp (ilen x_3)) fun x_4 => tb (tp many_2) fun y_5 => tp (!decide (x_4 = y_5)))) fun b_10 => if b_10 then (tp false) else (tb (tb (tp value_1) fun l => tFm (fun (c_11 : Int) => (tb (tb (tb (tp c_11) fun x_15 => tg (eI x_15).canLay0 (PyData.isBool (eI x_15))) fun x_16 => tp x_16) fun x_17 => if x_17 then tp true else (tb (tb (tb (tp c_11) fun x_12 => tg (eI x_12).canLay0 (PyData.isInt (eI x_12))) fun x_13 => tp x_13) fun x_14 => tp (!x_14)))) (fun (c_11 : Int) => (tp c_11)) l) fun x_18 => tb (tb (tp ([] : List Int)) fun l => tg (sizeOk l.length) l) fun y_19 => tp (decide (x_18 = y_19))))
theorem v__law_is_integers (value_1 : (List Int)) (many_2 : Int) : JF m__law_is_integers [.val ((eT eI) value_1), .val (eI many_2)] (t__law_is_integers value_1 many_2) (oV eB) := by
  refine @jf_def Src _ b__law_is_integers _ 3 _ [.val ((eT eI) value_1), .val (eI many_2), .non] _ rfl ?_
  unfold b__law_is_integers t__law_is_integers
  refine jg_ifR (jt_or (jt_not (jt_tru (JJ.r (je_un (JJ.r (jx_var (e := (eT eI)) (x := value_1) rfl)) (op_isi (f := PyData.isTuple) (e := (eT eI))))))) (jt_e (je_bin (JJ.r (je_bi1 (JJ.r (jx_var (e := (eT eI)) (x := value_1) rfl)) op_lenT)) (JJ.r (jx_var (e := eI) (x := many_2) rfl)) (Dt.op_ne (e := eI))))) ?_ ?_
  · exact jg_ret (jx_c (e := eB) (x := false) rfl) (fun _ => rfl)
  exact jg_ret (je_bin (JJ.rl (je_fm (e2 := eI) (ρ1 := fun c_11 => [.val ((eT eI) value_1), .val (eI many_2), .val (eI c_11)]) (ji_T (JJ.v (jx_var (e := (eT eI)) (x := value_1) rfl))) (fun _ => rfl) (fun _ => rfl) rfl (fun c_11 => (jt_or (jt_tru (JJ.r (je_un (JJ.r (jx_var (e := eI) (x := c_11) rfl)) (op_isi (f := PyData.isBool) (e := eI))))) (jt_not (jt_tru (JJ.r (je_un (JJ.r (jx_var (e := eI) (x := c_11) rfl)) (op_isi (f := PyData.isInt) (e := eI)))))))) (fun c_11 => (JJ.v (jx_var (e := eI) (x := c_11) rfl))))) (JJ.rl (je_lst (ja_nil (e := eI)))) (Dt.op_eq (e := (eL eI)))) (fun _ => rfl)

def t__law_row_numbers (value_1 : (List Int)) (many_2 : Int) : M Src Bool :=
  (tb (tb (tp value_1) fun a_3 => tb (tp many_2) fun a_4 => t__law_is_integers a_3 a_4) fun x_10 => if x_10 then (tb (tb (tp value_1) fun l => tFm (fun (c_5 : Int) => (tb (tp c_5) fun x_6 => tb (tp (0 : Int)) fun y_7 => tp (decide (x_6 < y_7)))) (fun (c_5 : Int) => (tp c_5)) l) fun x_8 => tb (tb (tp ([] : List Int)) fun l => tg (sizeOk l.length) l) fun y_9 => tp (decide (x_8 = y_9))) else tp false)
theorem v__law_row_numbers (value_1 : (List Int)) (many_2 : Int) : JF m__law_row_numbers [.val ((eT eI) value_1), .val (eI many_2)] (t__law_row_numbers value_1 many_2) (oV eB) := by
  refine @jf_def Src _ b__law_row_numbers _ 3 _ [.val ((eT eI) value_1), .val (eI many_2), .non] _ rfl ?_
  unfold b__law_row_numbers t__law_row_numbers
  exact jg_ret (je_and (je_call2 (JJ.s (JJ.v (jx_var (e := (eT eI)) (x := value_1) rfl))) (JJ.s (JJ.v (jx_var (e := eI) (x := many_2) rfl))) v__law_is_integers (fun _ => rfl)) (je_bin (JJ.rl (je_fm (e2 := eI) (ρ1 := fun c_5 => [.val ((eT eI) value_1), .val (eI many_2), .val (eI c_5)]) (ji_T (JJ.v (jx_var (e := (eT eI)) (x := value_1) rfl))) (fun _ => rfl) (fun _ => rfl) rfl (fun c_5 => (jt_e (je_bin (JJ.r (jx_var (e := eI) (x := c_5) rfl)) (JJ.r (jx_c (e := eI) (x := 0) rfl)) op_ltI))) (fun c_5 => (JJ.v (jx_var (e := eI) (x := c_5) rfl))))) (JJ.rl (je_lst (ja_nil (e := eI)))) (Dt.op_eq (e := (eL eI))))) (fun _ => rfl)

def t__law_is_saying (n_1 : Int) (value_2 : ((List (Int × Int)) × (Option (Int × Int)))) : M Src Bool :=
  (tb (tb (tb (tb (tb (tp value_2) fun x_11 => tg ((eP (eT (eP eI eI)) (eO (eP eI eI))) x_11).canLay0 (PyData.isTuple ((eP (eT (eP eI eI)) (eO (eP eI eI))) x_11))) fun x_12 => tp x_12) fun x_13 => tp (!x_13)) fun x_14 => if x_14 then tp true else (tb (tb (tb (tp value_2) fun x_7 => tp (2 : Int)) fun x_8 => tb (tp (2 : Int)) fun y_9 => tp (!decide (x_8 = y_9))) fun x_10 => if x_10 then tp true else (tb (tb (tb (tb (tp value_2) fun x_3 => tp x_3.1) fun x_4 => tg ((eT (eP eI eI)) x_4).canLay0 (PyData.isTuple ((eT (eP eI eI)) x_4))) fun x_5 => tp x_5) fun x_6 => tp (!x_6)))) fun b_15 => if b_15 then (tp false) else (tbB (tb (tb (tp value_2) fun x_16 => tp x_16.1) fun l => tForX (fun (i_19 : (Int × Int)) (st_18 : Unit) => (tb (tb (tb (tb (tb (tb (tp i_19) fun x => tp ((fun p => [p.1, p.2]) x)) fun a_29 => tb (tp (2 : Int)) fun a_30 => t__law_row_numbers a_29 a_30) fun x_31 => tp x_31) fun x_32 => tp (!x_32)) fun x_33 => if x_33 then tp true else (tb (tb (tb (tp i_19) fun x_23 => tp x_23.1) fun x_25 => tb (tb (tp i_19) fun x_24 => tp x_24.2) fun y_26 => if decide (x_25 < y_26) then tb (tp n_1) fun z_27 => tp (decide (y_26 < z_27)) else tp false) fun x_28 => tp (!x_28))) fun b_34 => if b_34 then tb (tp false) (fun x => tp (.rt x)) else (tp (.nx ())))) l ()) fun (st_18 : Unit) => (tb (tb (tb (tb (tp (1 : Int)) fun x_38 => tb (tb (tb (tp value_2) fun x_36 => tp x_36.1) fun x_37 => tp (ilen x_37)) fun y_39 => tg (in62 x_38 && in62 y_39) (ivl x_38 (y_39 - x_38).toNat)) fun l => tFm (fun (c_40 : Int) => (tb (tb (tb (tp value_2) fun x_41 => tp x_41.1) fun x_44 => tb (tb (tp c_40) fun x_42 => tb (tp (1 : Int)) fun y_43 => tp (x_42 - y_43)) fun y_45 => to (atI x_44 y_45)) fun x_49 => tb (tb (tb (tp value_2) fun x_46 => tp x_46.1) fun x_47 => tb (tp c_40) fun y_48 => to (atI x_47 y_48)) fun y_50 => tp (geAt (pl x_49) (pl y_50)))) (fun (c_40 : Int) => (tp c_40)) l) fun x_51 => tb (tb (tp ([] : List Int)) fun l => tg (sizeOk l.length) l) fun y_52 => tp (!decide (x_51 = y_52))) fun b_53 => if b_53 then (tp false) else (tb (tb (tp value_2) fun x_54 => tp x_54.2) fun (head_55 : (Option (Int × Int))) => (tb (tb (tp head_55) fun x_56 => tb (tp ()) fun y_57 => tp x_56.isNone) fun x_69 => if x_69 then tp true else (tb (tb (tb (tb (tp head_55) fun x => to x) fun x => tp ((fun p => [p.1, p.2]) x)) fun a_58 => tb (tp (2 : Int)) fun a_59 => t__law_row_numbers a_58 a_59) fun x_68 => if x_68 then (tb (tb (tb (tb (tp head_55) fun x => to x) fun x_60 => tp x_60.1) fun x_62 => tb (tb (tb (tp head_55) fun x => to x) fun x_61 => tp x_61.2) fun y_63 => tp (!decide (x_62 = y_63))) fun x_67 => if x_67 then (tb (tb (tb (tb (tp head_55) fun x => to x) fun x => tp ((fun p => [p.1, p.2]) x)) fun x_64 => to (maxO x_64)) fun x_65 => tb (tp n_1) fun y_66 => tp (decide (x_65 < y_66))) else tp false) else tp false))))))
theorem v__law_is_saying (n_1 : Int) (value_2 : ((List (Int × Int)) × (Option (Int × Int)))) : JF m__law_is_saying [.val (eI n_1), .val ((eP (eT (eP eI eI)) (eO (eP eI eI))) value_2)] (t__law_is_saying n_1 value_2) (oV eB) := by
  refine @jf_def Src _ b__law_is_saying _ 5 _ [.val (eI n_1), .val ((eP (eT (eP eI eI)) (eO (eP eI eI))) value_2), .non, .non, .non] _ rfl ?_
  unfold b__law_is_saying t__law_is_saying
  refine jg_ifR (jt_or (jt_not (jt_tru (JJ.r (je_un (JJ.r (jx_var (e := (eP (eT (eP eI eI)) (eO (eP eI eI)))) (x := value_2) rfl)) (op_isi (f := PyData.isTuple) (e := (eP (eT (eP eI eI)) (eO (eP eI eI))))))))) (jt_or (jt_e (je_bin (JJ.r (je_bi1 (JJ.r (jx_var (e := (eP (eT (eP eI eI)) (eO (eP eI eI)))) (x := value_2) rfl)) op_lenP)) (JJ.r (jx_c (e := eI) (x := 2) rfl)) (Dt.op_ne (e := eI)))) (jt_not (jt_tru (JJ.r (je_un (JJ.r (je_ixc (JJ.r (jx_var (e := (eP (eT (eP eI eI)) (eO (eP eI eI)))) (x := value_2) rfl)) op_ixP0)) (op_isi (f := PyData.isTuple) (e := (eT (eP eI eI)))))))))) ?_ ?_
  · exact jg_ret (jx_c (e := eB) (x := false) rfl) (fun _ => rfl)
  refine jg_forXB (fun (st : Unit) (ρ : Fr) => ∃ (z_17 : Sl), ρ = [.val (eI n_1), .val ((eP (eT (eP eI eI)) (eO (eP eI eI))) value_2), z_17, .non, .non]) (ji_T (JJ.v (je_ixc (JJ.r (jx_var (e := (eP (eT (eP eI eI)) (eO (eP eI eI)))) (x := value_2) rfl)) op_ixP0))) ⟨_, rfl⟩ ?_ ?_
  · intro i_19 st_18 r_21 h_20
    obtain ⟨z_22, rfl⟩ := h_20
    refine ⟨[.val (eI n_1), .val ((eP (eT (eP eI eI)) (eO (eP eI eI))) value_2), .val ((eP eI eI) i_19), .non, .non], rfl, ?_⟩
    refine jg_ifRX (jt_or (jt_not (jt_tru (JJ.r (je_call2 (JJ.s (JJ.v (JJ.as (e' := (eT eI)) (f := (fun p => [p.1, p.2])) (jx_var (e := (eP eI eI)) (x := i_19) rfl) (fun _ => rfl)))) (JJ.s (JJ.v (jx_c (e := eI) (x := 2) rfl))) v__law_row_numbers (fun _ => rfl))))) (jt_not (jt_e (je_chain (f := fun x y => decide (x < y)) (g := fun x y => decide (x < y)) (JJ.r (je_ixc (JJ.r (jx_var (e := (eP eI eI)) (x := i_19) rfl)) op_ixP0)) (JJ.r (je_ixc (JJ.r (jx_var (e := (eP eI eI)) (x := i_19) rfl)) op_ixP1)) (JJ.r (jx_var (e := eI) (x := n_1) rfl)) (fun _ _ => rfl) (fun _ _ => rfl))))) ?_ ?_
    · exact jg_ret (jx_c (e := eB) (x := false) rfl) (fun _ => rfl)
    exact jg_nilX ⟨_, rfl⟩
  intro st_18 r_21 h_20
  obtain ⟨z_35, rfl⟩ := h_20
  refine jg_ifR (jt_e (je_bin (JJ.rl (je_fm (e2 := eI) (ρ1 := fun c_40 => [.val (eI n_1), .val ((eP (eT (eP eI eI)) (eO (eP eI eI))) value_2), z_35, .non, .val (eI c_40)]) (ji_rng2 (jx_c (e := eI) (x := 1) rfl) (je_bi1 (JJ.r (je_ixc (JJ.r (jx_var (e := (eP (eT (eP eI eI)) (eO (eP eI eI)))) (x := value_2) rfl)) op_ixP0)) op_lenT)) (fun _ => rfl) (fun _ => rfl) rfl (fun c_40 => (jt_e (je_bin (JJ.r (je_bin (JJ.r (je_ixc (JJ.r (jx_var (e := (eP (eT (eP eI eI)) (eO (eP eI eI)))) (x := value_2) rfl)) op_ixP0)) (JJ.r (je_bin (JJ.r (jx_var (e := eI) (x := c_40) rfl)) (JJ.r (jx_c (e := eI) (x := 1) rfl)) op_subI)) op_ixT)) (JJ.r (je_bin (JJ.r (je_ixc (JJ.r (jx_var (e := (eP (eT (eP eI eI)) (eO (eP eI eI)))) (x := value_2) rfl)) op_ixP0)) (JJ.r (jx_var (e := eI) (x := c_40) rfl)) op_ixT)) op_geP))) (fun c_40 => (JJ.v (jx_var (e := eI) (x := c_40) rfl))))) (JJ.rl (je_lst (ja_nil (e := eI)))) (Dt.op_ne (e := (eL eI))))) ?_ ?_
  · exact jg_ret (jx_c (e := eB) (x := false) rfl) (fun _ => rfl)
  refine jg_nx (ρ2 := fun head_55 => [.val (eI n_1), .val ((eP (eT (eP eI eI)) (eO (eP eI eI))) value_2), z_35, .val ((eO (eP eI eI)) head_55), .non]) (jn_asg (je_ixc (JJ.r (jx_var (e := (eP (eT (eP eI eI)) (eO (eP eI eI)))) (x := value_2) rfl)) op_ixP1) (fun _ => rfl)) (fun head_55 => ?_)
  exact jg_ret (je_or (je_bin (JJ.r (jx_var (e := (eO (eP eI eI))) (x := head_55) rfl)) (JJ.r (jx_c (e := eN) (x := ()) rfl)) op_isNone) (je_and (je_call2 (JJ.s (JJ.v (JJ.as (e' := (eT eI)) (f := (fun p => [p.1, p.2])) (JJ.unO (jx_var (e := (eO (eP eI eI))) (x := head_55) rfl)) (fun _ => rfl)))) (JJ.s (JJ.v (jx_c (e := eI) (x := 2) rfl))) v__law_row_numbers (fun _ => rfl)) (je_and (je_bin (JJ.r (je_ixc (JJ.r (JJ.unO (jx_var (e := (eO (eP eI eI))) (x := head_55) rfl))) op_ixP0)) (JJ.r (je_ixc (JJ.r (JJ.unO (jx_var (e := (eO (eP eI eI))) (x := head_55) rfl))) op_ixP1)) (Dt.op_ne (e := eI))) (je_bin (JJ.r (je_bi1 (JJ.r (JJ.as (e' := (eT eI)) (f := (fun p => [p.1, p.2])) (JJ.unO (jx_var (e := (eO (eP eI eI))) (x := head_55) rfl)) (fun _ => rfl))) op_maxT)) (JJ.r (jx_var (e := eI) (x := n_1) rfl)) op_ltI)))) (fun _ => rfl)

def t__law_ties_of (order_1 : (List Int)) : M Src (List (Int × Int)) :=
  (tb (tb (tp ([] : List (Int × Int))) fun l => tg (sizeOk l.length) l) fun (found_2 : (List (Int × Int))) => (tb (tb (tb (tb (tp order_1) fun x_3 => tp (ilen x_3)) fun x_4 => tg (in62 x_4) (ivl 0 x_4.toNat)) fun l => tFor (fun (i_7 : Int) (st_6 : (List (Int × Int))) => (tb (tb (tp st_6) fun x_25 => tb (tb (tb (tb (tp i_7) fun x_11 => tb (tp (1 : Int)) fun y_12 => tp (x_11 + y_12)) fun x_14 => tb (tb (tp order_1) fun x_13 => tp (ilen x_13)) fun y_15 => tg (in62 x_14 && in62 y_15) (ivl x_14 (y_15 - x_14).toNat)) fun l => tFm (fun (c_16 : Int) => (tb (tb (tp order_1) fun x_17 => tb (tp i_7) fun y_18 => to (atI x_17 y_18)) fun x_21 => tb (tb (tp order_1) fun x_19 => tb (tp c_16) fun y_20 => to (atI x_19 y_20)) fun y_22 => tp (decide (x_21 = y_22)))) (fun (c_16 : Int) => (tb (tp i_7) fun x_23 => tb (tp c_16) fun y_24 => tp (x_23, y_24))) l) fun y_26 => tg (sizeOk (x_25.length + y_26.length)) (x_25 ++ y_26)) fun (found_27 : (List (Int × Int))) => (tp found_27))) l found_2) fun (st_6 : (List (Int × Int))) => (tb (tp st_6) fun x_29 => tp x_29)))
theorem v__law_ties_of (order_1 : (List Int)) : JF m__law_ties_of [.val ((eT eI) order_1)] (t__law_ties_of order_1) (oV (eT (eP eI eI))) := by
  refine @jf_def Src _ b__law_ties_of _ 4 _ [.val ((eT eI) order_1), .non, .non, .non] _ rfl ?_
  unfold b__law_ties_of t__law_ties_of
  refine jg_nx (ρ2 := fun found_2 => [.val ((eT eI) order_1), .lst (found_2.map (eP eI eI)), .non, .non]) (jn_asg (je_lst (ja_nil (e := (eP eI eI)))) (fun _ => rfl)) (fun found_2 => ?_)
  refine jg_forP (fun (st : (List (Int × Int))) (ρ : Fr) => ∃ (z_5 : Sl), ρ = [.val ((eT eI) order_1), .lst (st.map (eP eI eI)), z_5, .non]) (ji_rng1 (je_bi1 (JJ.r (jx_var (e := (eT eI)) (x := order_1) rfl)) op_lenT)) ⟨_, rfl⟩ ?_ ?_
  · intro i_7 st_6 r_9 h_8
    obtain ⟨z_10, rfl⟩ := h_8
    refine ⟨[.val ((eT eI) order_1), .lst (st_6.map (eP eI eI)), .val (eI i_7), .non], rfl, ?_⟩
    refine jg_nx (ρ2 := fun found_27 => [.val ((eT eI) order_1), .lst (found_27.map (eP eI eI)), .val (eI i_7), .non]) (jn_asg (je_bin (jr_own (e := (eP eI eI)) rfl) (JJ.rl (je_fm (e2 := (eP eI eI)) (ρ1 := fun c_16 => [.val ((eT eI) order_1), .lst (st_6.map (eP eI eI)), .val (eI i_7), .val (eI c_16)]) (ji_rng2 (je_bin (JJ.r (jx_var (e := eI) (x := i_7) rfl)) (JJ.r (jx_c (e := eI) (x := 1) rfl)) op_addI) (je_bi1 (JJ.r (jx_var (e := (eT eI)) (x := order_1) rfl)) op_lenT)) (fun _ => rfl) (fun _ => rfl) rfl (fun c_16 => (jt_e (je_bin (JJ.r (je_bin (JJ.r (jx_var (e := (eT eI)) (x := order_1) rfl)) (JJ.r (jx_var (e := eI) (x := i_7) rfl)) op_ixT)) (JJ.r (je_bin (JJ.r (jx_var (e := (eT eI)) (x := order_1) rfl)) (JJ.r (jx_var (e := eI) (x := c_16) rfl)) op_ixT)) (Dt.op_eq (e := eI))))) (fun c_16 => (JJ.v (je_pair (JJ.v (jx_var (e := eI) (x := i_7) rfl)) (JJ.v (jx_var (e := eI) (x := c_16) rfl))))))) op_catL) (fun _ => rfl)) (fun found_27 => ?_)
    exact jg_nil ⟨_, rfl⟩
  intro st_6 r_9 h_8
  obtain ⟨z_28, rfl⟩ := h_8
  exact jg_ret (je_bi1 (jr_own (e := (eP eI eI)) rfl) op_tupL) (fun _ => rfl)

def t__law_near (some_1 : (List (List Int))) (order_2 : (List Int)) : M Src (List (List Int)) :=
  (tb (tb (tp order_2) fun a_3 => t__law_ties_of a_3) fun (ties_4 : (List (Int × Int))) => (tb (tp some_1) fun l => tFm (fun (c_5 : (List Int)) => (tb (tb (tp ties_4) fun l => tFm (fun (c_6 : (Int × Int)) => (tb (tb (tp c_5) fun x_7 => tb (tp c_6.1) fun y_8 => to (atI x_7 y_8)) fun x_11 => tb (tb (tp c_5) fun x_9 => tb (tp c_6.2) fun y_10 => to (atI x_9 y_10)) fun y_12 => tp (!decide (x_11 = y_12)))) (fun (c_6 : (Int × Int)) => (tp (1 : Int))) l) fun x_13 => tb (tb (tp ([] : List Int)) fun l => tg (sizeOk l.length) l) fun y_14 => tp (decide (x_13 = y_14)))) (fun (c_5 : (List Int)) => (tp c_5)) l))
theorem v__law_near (some_1 : (List (List Int))) (order_2 : (List Int)) : JF m__law_near [.val ((eT (eT eI)) some_1), .val ((eT eI) order_2)] (t__law_near some_1 order_2) (oL (eT eI)) := by
  refine @jf_def Src _ b__law_near _ 6 _ [.val ((eT (eT eI)) some_1), .val ((eT eI) order_2), .non, .non, .non, .non] _ rfl ?_
  unfold b__law_near t__law_near
  refine jg_nx (ρ2 := fun ties_4 => [.val ((eT (eT eI)) some_1), .val ((eT eI) order_2), .val ((eT (eP eI eI)) ties_4), .non, .non, .non]) (jn_asg (je_call1 (JJ.s (JJ.v (jx_var (e := (eT eI)) (x := order_2) rfl))) v__law_ties_of (fun _ => rfl)) (fun _ => rfl)) (fun ties_4 => ?_)
  exact jg_ret (je_fm (e2 := (eT eI)) (ρ1 := fun c_5 => [.val ((eT (eT eI)) some_1), .val ((eT eI) order_2), .val ((eT (eP eI eI)) ties_4), .val ((eT eI) c_5), .non, .non]) (ji_T (JJ.v (jx_var (e := (eT (eT eI))) (x := some_1) rfl))) (fun _ => rfl) (fun _ => rfl) rfl (fun c_5 => (jt_e (je_bin (JJ.rl (je_fm (e2 := eI) (ρ1 := fun c_6 => [.val ((eT (eT eI)) some_1), .val ((eT eI) order_2), .val ((eT (eP eI eI)) ties_4), .val ((eT eI) c_5), .val (eI c_6.1), .val (eI c_6.2)]) (ji_T (JJ.v (jx_var (e := (eT (eP eI eI))) (x := ties_4) rfl))) (fun _ => rfl) (fun _ => rfl) rfl (fun c_6 => (jt_e (je_bin (JJ.r (je_bin (JJ.r (jx_var (e := (eT eI)) (x := c_5) rfl)) (JJ.r (jx_var (e := eI) (x := c_6.1) rfl)) op_ixT)) (JJ.r (je_bin (JJ.r (jx_var (e := (eT eI)) (x := c_5) rfl)) (JJ.r (jx_var (e := eI) (x := c_6.2) rfl)) op_ixT)) (Dt.op_ne (e := eI))))) (fun c_6 => (JJ.v (jx_c (e := eI) (x := 1) rfl))))) (JJ.rl (je_lst (ja_nil (e := eI)))) (Dt.op_eq (e := (eL eI)))))) (fun c_5 => (JJ.v (jx_var (e := (eT eI)) (x := c_5) rfl)))) (fun _ => rfl)

def t__law_earlier (order_1 : (List Int)) : M Src (List (Int × Int)) :=
  (tb (tb (tp ([] : List (Int × Int))) fun l => tg (sizeOk l.length) l) fun (found_2 : (List (Int × Int))) => (tb (tb (tb (tb (tp order_1) fun x_3 => tp (ilen x_3)) fun x_4 => tg (in62 x_4) (ivl 0 x_4.toNat)) fun l => tFor (fun (i_7 : Int) (st_6 : (List (Int × Int))) => (tb (tb (tp st_6) fun x_22 => tb (tb (tb (tb (tp order_1) fun x_11 => tp (ilen x_11)) fun x_12 => tg (in62 x_12) (ivl 0 x_12.toNat)) fun l => tFm (fun (c_13 : Int) => (tb (tb (tp order_1) fun x_14 => tb (tp c_13) fun y_15 => to (atI x_14 y_15)) fun x_18 => tb (tb (tp order_1) fun x_16 => tb (tp i_7) fun y_17 => to (atI x_16 y_17)) fun y_19 => tp (decide (x_18 < y_19)))) (fun (c_13 : Int) => (tb (tp i_7) fun x_20 => tb (tp c_13) fun y_21 => tp (x_20, y_21))) l) fun y_23 => tg (sizeOk (x_22.length + y_23.length)) (x_22 ++ y_23)) fun (found_24 : (List (Int × Int))) => (tp found_24))) l found_2) fun (st_6 : (List (Int × Int))) => (tp st_6)))
theorem v__law_earlier (order_1 : (List Int)) : JF m__law_earlier [.val ((eT eI) order_1)] (t__law_earlier order_1) (oL (eP eI eI)) := by
  refine @jf_def Src _ b__law_earlier _ 4 _ [.val ((eT eI) order_1), .non, .non, .non] _ rfl ?_
  unfold b__law_earlier t__law_earlier
  refine jg_nx (ρ2 := fun found_2 => [.val ((eT eI) order_1), .lst (found_2.map (eP eI eI)), .non, .non]) (jn_asg (je_lst (ja_nil (e := (eP eI eI)))) (fun _ => rfl)) (fun found_2 => ?_)
  refine jg_forP (fun (st : (List (Int × Int))) (ρ : Fr) => ∃ (z_5 : Sl), ρ = [.val ((eT eI) order_1), .lst (st.map (eP eI eI)), z_5, .non]) (ji_rng1 (je_bi1 (JJ.r (jx_var (e := (eT eI)) (x := order_1) rfl)) op_lenT)) ⟨_, rfl⟩ ?_ ?_
  · intro i_7 st_6 r_9 h_8
    obtain ⟨z_10, rfl⟩ := h_8
    refine ⟨[.val ((eT eI) order_1), .lst (st_6.map (eP eI eI)), .val (eI i_7), .non], rfl, ?_⟩
    refine jg_nx (ρ2 := fun found_24 => [.val ((eT eI) order_1), .lst (found_24.map (eP eI eI)), .val (eI i_7), .non]) (jn_asg (je_bin (jr_own (e := (eP eI eI)) rfl) (JJ.rl (je_fm (e2 := (eP eI eI)) (ρ1 := fun c_13 => [.val ((eT eI) order_1), .lst (st_6.map (eP eI eI)), .val (eI i_7), .val (eI c_13)]) (ji_rng1 (je_bi1 (JJ.r (jx_var (e := (eT eI)) (x := order_1) rfl)) op_lenT)) (fun _ => rfl) (fun _ => rfl) rfl (fun c_13 => (jt_e (je_bin (JJ.r (je_bin (JJ.r (jx_var (e := (eT eI)) (x := order_1) rfl)) (JJ.r (jx_var (e := eI) (x := c_13) rfl)) op_ixT)) (JJ.r (je_bin (JJ.r (jx_var (e := (eT eI)) (x := order_1) rfl)) (JJ.r (jx_var (e := eI) (x := i_7) rfl)) op_ixT)) op_ltI))) (fun c_13 => (JJ.v (je_pair (JJ.v (jx_var (e := eI) (x := i_7) rfl)) (JJ.v (jx_var (e := eI) (x := c_13) rfl))))))) op_catL) (fun _ => rfl)) (fun found_24 => ?_)
    exact jg_nil ⟨_, rfl⟩
  intro st_6 r_9 h_8
  obtain ⟨z_25, rfl⟩ := h_8
  exact jg_retO rfl

def t__law_is_refused (some_1 : (List (List Int))) (order_2 : (List Int)) : M Src Bool :=
  (tb (tb (tp some_1) fun a_3 => tb (tp order_2) fun a_4 => t__law_near a_3 a_4) fun (near_5 : (List (List Int))) => (tb (tb (tp near_5) fun x_6 => tb (tb (tp ([] : List (List Int))) fun l => tg (sizeOk l.length) l) fun y_7 => tp (decide (x_6 = y_7))) fun b_8 => if b_8 then (tp true) else (tbB (tb (tb (tp order_2) fun a_9 => t__law_earlier a_9) fun l => tForX (fun (i_13 : (Int × Int)) (st_12 : Unit) => (tb (tb (tb (tp near_5) fun l => tFm (fun (c_18 : (List Int)) => (tb (tb (tp c_18) fun x_19 => tb (tp i_13.2) fun y_20 => to (atI x_19 y_20)) fun x_23 => tb (tb (tp c_18) fun x_21 => tb (tp i_13.1) fun y_22 => to (atI x_21 y_22)) fun y_24 => tp (decide (x_23 < y_24)))) (fun (c_18 : (List Int)) => (tp c_18)) l) fun x_25 => tb (tb (tp ([] : List (List Int))) fun l => tg (sizeOk l.length) l) fun y_26 => tp (decide (x_25 = y_26))) fun b_27 => if b_27 then tb (tp true) (fun x => tp (.rt x)) else (tp (.nx ())))) l ()) fun (st_12 : Unit) => (tp false))))
theorem v__law_is_refused (some_1 : (List (List Int))) (order_2 : (List Int)) : JF m__law_is_refused [.val ((eT (eT eI)) some_1), .val ((eT eI) order_2)] (t__law_is_refused some_1 order_2) (oV eB) := by
  refine @jf_def Src _ b__law_is_refused _ 6 _ [.val ((eT (eT eI)) some_1), .val ((eT eI) order_2), .non, .non, .non, .non] _ rfl ?_
  unfold b__law_is_refused t__law_is_refused
  refine jg_nx (ρ2 := fun near_5 => [.val ((eT (eT eI)) some_1), .val ((eT eI) order_2), .lst (near_5.map (eT eI)), .non, .non, .non]) (jn_asg (je_call2 (JJ.s (JJ.v (jx_var (e := (eT (eT eI))) (x := some_1) rfl))) (JJ.s (JJ.v (jx_var (e := (eT eI)) (x := order_2) rfl))) v__law_near (fun _ => rfl)) (fun _ => rfl)) (fun near_5 => ?_)
  refine jg_frz (ρ2 := [.val ((eT (eT eI)) some_1), .val ((eT eI) order_2), .val ((eL (eT eI)) near_5), .non, .non, .non]) rfl ?_
  refine jg_ifR (jt_e (je_bin (JJ.r (jx_var (e := (eL (eT eI))) (x := near_5) rfl)) (JJ.rl (je_lst (ja_nil (e := (eT eI))))) (Dt.op_eq (e := (eL (eT eI)))))) ?_ ?_
  · exact jg_ret (jx_c (e := eB) (x := true) rfl) (fun _ => rfl)
  refine jg_forXB (fun (st : Unit) (ρ : Fr) => ∃ (z_10 : Sl) (z_11 : Sl), ρ = [.val ((eT (eT eI)) some_1), .val ((eT eI) order_2), .val ((eL (eT eI)) near_5), z_10, z_11, .non]) (ji_L (JJ.vl (je_call1 (JJ.s (JJ.v (jx_var (e := (eT eI)) (x := order_2) rfl))) v__law_earlier (fun _ => rfl)))) ⟨_, _, rfl⟩ ?_ ?_
  · intro i_13 st_12 r_15 h_14
    obtain ⟨z_16, z_17, rfl⟩ := h_14
    refine ⟨[.val ((eT (eT eI)) some_1), .val ((eT eI) order_2), .val ((eL (eT eI)) near_5), .val (eI i_13.1), .val (eI i_13.2), .non], rfl, ?_⟩
    refine jg_ifRX (jt_e (je_bin (JJ.rl (je_fm (e2 := (eT eI)) (ρ1 := fun c_18 => [.val ((eT (eT eI)) some_1), .val ((eT eI) order_2), .val ((eL (eT eI)) near_5), .val (eI i_13.1), .val (eI i_13.2), .val ((eT eI) c_18)]) (ji_L (JJ.v (jx_var (e := (eL (eT eI))) (x := near_5) rfl))) (fun _ => rfl) (fun _ => rfl) rfl (fun c_18 => (jt_e (je_bin (JJ.r (je_bin (JJ.r (jx_var (e := (eT eI)) (x := c_18) rfl)) (JJ.r (jx_var (e := eI) (x := i_13.2) rfl)) op_ixT)) (JJ.r (je_bin (JJ.r (jx_var (e := (eT eI)) (x := c_18) rfl)) (JJ.r (jx_var (e := eI) (x := i_13.1) rfl)) op_ixT)) op_ltI))) (fun c_18 => (JJ.v (jx_var (e := (eT eI)) (x := c_18) rfl))))) (JJ.rl (je_lst (ja_nil (e := (eT eI))))) (Dt.op_eq (e := (eL (eT eI)))))) ?_ ?_
    · exact jg_ret (jx_c (e := eB) (x := true) rfl) (fun _ => rfl)
    exact jg_nilX ⟨_, _, rfl⟩
  intro st_12 r_15 h_14
  obtain ⟨z_28, z_29, rfl⟩ := h_14
  exact jg_ret (jx_c (e := eB) (x := false) rfl) (fun _ => rfl)

def t__law_hull (n_1 : Int) (some_2 : (List (List Int))) : M Src (List (List Int)) :=
  (tb (tb (tb (tp n_1) fun a_3 => t__law_orders a_3) fun l => tFm (fun (c_4 : (List Int)) => (tb (tb (tb (tp some_2) fun a_5 => tb (tp c_4) fun a_6 => t__law_is_refused a_5 a_6) fun x_7 => tp x_7) fun x_8 => tp (!x_8))) (fun (c_4 : (List Int)) => (tp c_4)) l) fun x_9 => tp x_9)
theorem v__law_hull (n_1 : Int) (some_2 : (List (List Int))) : JF m__law_hull [.val (eI n_1), .val ((eT (eT eI)) some_2)] (t__law_hull n_1 some_2) (oV (eT (eT eI))) := by
  refine @jf_def Src _ b__law_hull _ 3 _ [.val (eI n_1), .val ((eT (eT eI)) some_2), .non] _ rfl ?_
  unfold b__law_hull t__law_hull
  exact jg_ret (je_bi1 (JJ.rl (je_fm (e2 := (eT eI)) (ρ1 := fun c_4 => [.val (eI n_1), .val ((eT (eT eI)) some_2), .val ((eT eI) c_4)]) (ji_L (JJ.vl (je_call1 (JJ.s (JJ.v (jx_var (e := eI) (x := n_1) rfl))) v__law_orders (fun _ => rfl)))) (fun _ => rfl) (fun _ => rfl) rfl (fun c_4 => (jt_not (jt_tru (JJ.r (je_call2 (JJ.s (JJ.v (jx_var (e := (eT (eT eI))) (x := some_2) rfl))) (JJ.s (JJ.v (jx_var (e := (eT eI)) (x := c_4) rfl))) v__law_is_refused (fun _ => rfl)))))) (fun c_4 => (JJ.v (jx_var (e := (eT eI)) (x := c_4) rfl))))) op_tupL) (fun _ => rfl)

def t_law : M Src Bool :=
  (tbB (tb (tb (tp (7 : Int)) fun x_1 => tg (in62 x_1) (ivl 0 x_1.toNat)) fun l => tForX (fun (i_10 : Int) (st_9 : Unit) => (tb (tb (tb (tb (tp (0 : Int)) fun x => tb (tb (tp (1 : Int)) fun x => tb (tb (tp (2 : Int)) fun x => tb (tb (tp (3 : Int)) fun x => tb (tb (tp (3 : Int)) fun x => tb (tb (tp (4 : Int)) fun x => tb (tb (tp (4 : Int)) fun x => tb (tp ([] : List Int)) fun l => tp (x :: l)) fun l => tp (x :: l)) fun l => tp (x :: l)) fun l => tp (x :: l)) fun l => tp (x :: l)) fun l => tp (x :: l)) fun l => tp (x :: l)) fun l => tg (sizeOk l.length) l) fun x_20 => tb (tp i_10) fun y_21 => to (atI x_20 y_21)) fun (n_22 : Int) => (tb (tb (tp n_22) fun a_23 => t__law_draw_set a_23) fun (some_24 : (List (List Int))) => (tb (tb (tb (tp n_22) fun a_25 => tb (tp some_24) fun a_26 => t_book_of a_25 a_26) fun x_28 => tb (tb (tp some_24) fun x_27 => to (reprT ((eT (eT eI)) x_27))) fun y_29 => tp (x_28, y_29)) fun (p_30 : ((Int × (List ((List (Int × Int)) × (Option (Int × Int))))) × Str)) => (tb (tb (tb (tb (tb (tp p_30.1) fun x_45 => tg ((eP eI (eT (eP (eT (eP eI eI)) (eO (eP eI eI))))) x_45).canLay0 (PyData.isTuple ((eP eI (eT (eP (eT (eP eI eI)) (eO (eP eI eI))))) x_45))) fun x_46 => tp x_46) fun x_47 => tp (!x_47)) fun x_48 => if x_48 then tp true else (tb (tb (tb (tp p_30.1) fun x_41 => tp (2 : Int)) fun x_42 => tb (tp (2 : Int)) fun y_43 => tp (!decide (x_42 = y_43))) fun x_44 => if x_44 then tp true else (tb (tb (tb (tb (tp p_30.1) fun x_35 => tp x_35.1) fun x_36 => to (reprT (eI x_36))) fun x_38 => tb (tb (tp n_22) fun x_37 => to (reprT (eI x_37))) fun y_39 => tg (PyData.strOk x_38 && PyData.strOk y_39) (!(x_38 == y_39))) fun x_40 => if x_40 then tp true else (tb (tb (tb (tb (tp p_30.1) fun x_31 => tp x_31.2) fun x_32 => tg ((eT (eP (eT (eP eI eI)) (eO (eP eI eI)))) x_32).canLay0 (PyData.isTuple ((eT (eP (eT (eP eI eI)) (eO (eP eI eI)))) x_32))) fun x_33 => tp x_33) fun x_34 => tp (!x_34))))) fun b_49 => if b_49 then tb (tp false) (fun x => tp (.rt x)) else (tb (tb (tb (tb (tb (tp p_30.1) fun x_53 => tp x_53.2) fun l => tFm (fun (c_54 : ((List (Int × Int)) × (Option (Int × Int)))) => (tb (tb (tb (tp n_22) fun a_55 => tb (tp c_54) fun a_56 => t__law_is_saying a_55 a_56) fun x_57 => tp x_57) fun x_58 => tp (!x_58))) (fun (c_54 : ((List (Int × Int)) × (Option (Int × Int)))) => (tp c_54)) l) fun x_59 => tb (tb (tp ([] : List ((List (Int × Int)) × (Option (Int × Int))))) fun l => tg (sizeOk l.length) l) fun y_60 => tp (!decide (x_59 = y_60))) fun x_61 => if x_61 then tp true else (tb (tb (tp some_24) fun x_50 => to (reprT ((eT (eT eI)) x_50))) fun x_51 => tb (tp p_30.2) fun y_52 => tg (PyData.strOk x_51 && PyData.strOk y_52) (!(x_51 == y_52)))) fun b_62 => if b_62 then tb (tp false) (fun x => tp (.rt x)) else (tb (tb (tp n_22) fun a_63 => tb (tp some_24) fun a_64 => t__law_hull a_63 a_64) fun (due_65 : (List (List Int))) => (tb (tb (tb (tb (tb (tp n_22) fun a_66 => t__law_orders a_66) fun l => tFm (fun (c_67 : (List Int)) => (tb (tb (tb (tp p_30.1) fun x_68 => tp x_68.2) fun a_69 => tb (tp c_67) fun a_70 => t__law_keeps_all a_69 a_70) fun x_71 => tp x_71)) (fun (c_67 : (List Int)) => (tp c_67)) l) fun x_72 => tp x_72) fun x_73 => tb (tp due_65) fun y_74 => tp (!decide (x_73 = y_74))) fun b_75 => if b_75 then tb (tp false) (fun x => tp (.rt x)) else (tb (tb (tb (tb (tb (tp p_30.1) fun a_82 => t_said a_82) fun x_83 => to (reprT ((eT (eT eI)) x_83))) fun x_85 => tb (tb (tp due_65) fun x_84 => to (reprT ((eT (eT eI)) x_84))) fun y_86 => tg (PyData.strOk x_85 && PyData.strOk y_86) (!(x_85 == y_86))) fun x_87 => if x_87 then tp true else (tb (tb (tb (tp n_22) fun a_76 => tb (tp some_24) fun a_77 => t_book_of a_76 a_77) fun x_78 => to (reprT ((eP eI (eT (eP (eT (eP eI eI)) (eO (eP eI eI))))) x_78))) fun x_80 => tb (tb (tp p_30.1) fun x_79 => to (reprT ((eP eI (eT (eP (eT (eP eI eI)) (eO (eP eI eI))))) x_79))) fun y_81 => tg (PyData.strOk x_80 && PyData.strOk y_81) (!(x_80 == y_81)))) fun b_88 => if b_88 then tb (tp false) (fun x => tp (.rt x)) else (tb (tb (tb (tp (2 : Int)) fun x_89 => tb (tp n_22) fun y_90 => tp (if y_90 > x_89 then y_90 else x_89)) fun a_91 => tb (tp (6 : Int)) fun a_92 => t__law_draw_book a_91 a_92) fun (book_93 : (Int × (List ((List (Int × Int)) × (Option (Int × Int)))))) => (tb (tb (tb (tp book_93) fun x_94 => tp x_94.1) fun x_101 => tb (tb (tb (tp book_93) fun x_95 => tp x_95.2) fun x_99 => tb (tb (tb (tb (tb (tp book_93) fun x_96 => tp x_96.1) fun a_97 => tb (tp (4 : Int)) fun a_98 => t__law_draw_saying a_97 a_98) fun x => tb (tp ([] : List ((List (Int × Int)) × (Option (Int × Int))))) fun l => tp (x :: l)) fun l => tg (sizeOk l.length) l) fun y_100 => tg (sizeOk (x_99.length + y_100.length)) (x_99 ++ y_100)) fun y_102 => tp (x_101, y_102)) fun (book_103 : (Int × (List ((List (Int × Int)) × (Option (Int × Int)))))) => (tb (tb (tb (tb (tb (tp book_103) fun x_104 => tp x_104.1) fun a_105 => t__law_orders a_105) fun l => tFm (fun (c_106 : (List Int)) => (tb (tb (tb (tp book_103) fun x_107 => tp x_107.2) fun a_108 => tb (tp c_106) fun a_109 => t__law_keeps_all a_108 a_109) fun x_110 => tp x_110)) (fun (c_106 : (List Int)) => (tp c_106)) l) fun x_111 => tp x_111) fun (due_112 : (List (List Int))) => (tb (tb (tb (tb (tb (tp book_103) fun a_118 => t_said a_118) fun x_119 => to (reprT ((eT (eT eI)) x_119))) fun x_121 => tb (tb (tp due_112) fun x_120 => to (reprT ((eT (eT eI)) x_120))) fun y_122 => tg (PyData.strOk x_121 && PyData.strOk y_122) (!(x_121 == y_122))) fun x_123 => if x_123 then tp true else (tb (tb (tb (tp book_103) fun x_113 => tp x_113.1) fun a_114 => tb (tp due_112) fun a_115 => t_passes a_114 a_115) fun x_116 => tb (tp true) fun y_117 => tp (!decide (x_116 = y_117)))) fun b_124 => if b_124 then tb (tp false) (fun x => tp (.rt x)) else (tp (.nx ()))))))))))))))) l ()) fun (st_9 : Unit) => (tb (tb (tb (tb (tp (0 : Int)) fun x_132 => tb (tb (tp ([] : List ((List (Int × Int)) × (Option (Int × Int))))) fun l => tg (sizeOk l.length) l) fun y_133 => tp (x_132, y_133)) fun a_134 => t_said a_134) fun x_135 => tb (tb (tb (tb (tp ([] : List Int)) fun l => tg (sizeOk l.length) l) fun x => tb (tp ([] : List (List Int))) fun l => tp (x :: l)) fun l => tg (sizeOk l.length) l) fun y_136 => tp (decide (x_135 = y_136))) fun x_160 => if x_160 then (tb (tb (tb (tb (tp (1 : Int)) fun x_139 => tb (tb (tb (tb (tb (tp ([] : List (Int × Int))) fun l => tg (sizeOk l.length) l) fun x_137 => tb (tb (tp ()) fun x => tp ((fun _ => (none : (Option (Int × Int)))) x)) fun y_138 => tp (x_137, y_138)) fun x => tb (tp ([] : List ((List (Int × Int)) × (Option (Int × Int))))) fun l => tp (x :: l)) fun l => tg (sizeOk l.length) l) fun y_140 => tp (x_139, y_140)) fun a_141 => t_said a_141) fun x_142 => tb (tb (tp ([] : List (List Int))) fun l => tg (sizeOk l.length) l) fun y_143 => tp (decide (x_142 = y_143))) fun x_159 => if x_159 then (tb (tb (tb (tp (2 : Int)) fun x_148 => tb (tb (tb (tb (tb (tp ([] : List (Int × Int))) fun l => tg (sizeOk l.length) l) fun x_146 => tb (tb (tb (tp (0 : Int)) fun x_144 => tb (tp (1 : Int)) fun y_145 => tp (x_144, y_145)) fun x => tp (some x)) fun y_147 => tp (x_146, y_147)) fun x => tb (tp ([] : List ((List (Int × Int)) × (Option (Int × Int))))) fun l => tp (x :: l)) fun l => tg (sizeOk l.length) l) fun y_149 => tp (x_148, y_149)) fun a_150 => t_said a_150) fun x_157 => tb (tb (tb (tb (tb (tp (0 : Int)) fun x => tb (tb (tp (0 : Int)) fun x => tb (tp ([] : List Int)) fun l => tp (x :: l)) fun l => tp (x :: l)) fun l => tg (sizeOk l.length) l) fun x => tb (tb (tb (tb (tp (0 : Int)) fun x => tb (tb (tp (1 : Int)) fun x => tb (tp ([] : List Int)) fun l => tp (x :: l)) fun l => tp (x :: l)) fun l => tg (sizeOk l.length) l) fun x => tb (tp ([] : List (List Int))) fun l => tp (x :: l)) fun l => tp (x :: l)) fun l => tg (sizeOk l.length) l) fun y_158 => tp (decide (x_157 = y_158))) else tp false) else tp false))
theorem v_law : JG [.non, .hdl 0, .non, .non, .non, .non, .non, .non, .non, .non, .non] b_law t_law (IB (oV eB)) := by
  unfold b_law t_law
  refine jg_forXB (fun (st : Unit) (ρ : Fr) => ∃ (z_2 : Sl) (z_3 : Sl) (z_4 : Sl) (z_5 : Sl) (z_6 : Sl) (z_7 : Sl) (z_8 : Sl), ρ = [.non, .hdl 0, z_2, z_3, z_4, z_5, z_6, z_7, z_8, .non, .non]) (ji_rng1 (jx_c (e := eI) (x := 7) rfl)) ⟨_, _, _, _, _, _, _, rfl⟩ ?_ ?_
  · intro i_10 st_9 r_12 h_11
    obtain ⟨z_13, z_14, z_15, z_16, z_17, z_18, z_19, rfl⟩ := h_11
    refine ⟨[.non, .hdl 0, .val (eI i_10), z_14, z_15, z_16, z_17, z_18, z_19, .non, .non], rfl, ?_⟩
    refine jg_nx (ρ2 := fun n_22 => [.non, .hdl 0, .val (eI i_10), .val (eI n_22), z_15, z_16, z_17, z_18, z_19, .non, .non]) (jn_asg (je_bin (JJ.rl (je_lst (ja_cons (JJ.v (jx_c (e := eI) (x := 0) rfl)) (ja_cons (JJ.v (jx_c (e := eI) (x := 1) rfl)) (ja_cons (JJ.v (jx_c (e := eI) (x := 2) rfl)) (ja_cons (JJ.v (jx_c (e := eI) (x := 3) rfl)) (ja_cons (JJ.v (jx_c (e := eI) (x := 3) rfl)) (ja_cons (JJ.v (jx_c (e := eI) (x := 4) rfl)) (ja_cons (JJ.v (jx_c (e := eI) (x := 4) rfl)) (ja_nil (e := eI))))))))))) (JJ.r (jx_var (e := eI) (x := i_10) rfl)) op_ixL) (fun _ => rfl)) (fun n_22 => ?_)
    refine jg_nx (ρ2 := fun some_24 => [.non, .hdl 0, .val (eI i_10), .val (eI n_22), .val ((eT (eT eI)) some_24), z_16, z_17, z_18, z_19, .non, .non]) (jn_asg (je_callS2 rfl (JJ.s (JJ.v (jx_var (e := eI) (x := n_22) rfl))) v__law_draw_set (fun _ => rfl)) (fun _ => rfl)) (fun some_24 => ?_)
    refine jg_nx (ρ2 := fun p_30 => [.non, .hdl 0, .val (eI i_10), .val (eI n_22), .val ((eT (eT eI)) some_24), z_16, z_17, .val ((eP eI (eT (eP (eT (eP eI eI)) (eO (eP eI eI))))) p_30.1), .val (eS p_30.2), .non, .non]) (jn_asgG (JJ.v (je_pair (JJ.v (je_call2 (JJ.s (JJ.v (jx_var (e := eI) (x := n_22) rfl))) (JJ.s (JJ.v (jx_var (e := (eT (eT eI))) (x := some_24) rfl))) v_book_of (fun _ => rfl))) (JJ.v (je_bi1 (JJ.r (jx_var (e := (eT (eT eI))) (x := some_24) rfl)) (op_repr (e := (eT (eT eI)))))))) (fun _ => rfl)) (fun p_30 => ?_)
    refine jg_ifRX (jt_or (jt_not (jt_tru (JJ.r (je_un (JJ.r (jx_var (e := (eP eI (eT (eP (eT (eP eI eI)) (eO (eP eI eI)))))) (x := p_30.1) rfl)) (op_isi (f := PyData.isTuple) (e := (eP eI (eT (eP (eT (eP eI eI)) (eO (eP eI eI))))))))))) (jt_or (jt_e (je_bin (JJ.r (je_bi1 (JJ.r (jx_var (e := (eP eI (eT (eP (eT (eP eI eI)) (eO (eP eI eI)))))) (x := p_30.1) rfl)) op_lenP)) (JJ.r (jx_c (e := eI) (x := 2) rfl)) (Dt.op_ne (e := eI)))) (jt_or (jt_e (je_bin (JJ.r (je_bi1 (JJ.r (je_ixc (JJ.r (jx_var (e := (eP eI (eT (eP (eT (eP eI eI)) (eO (eP eI eI)))))) (x := p_30.1) rfl)) op_ixP0)) (op_repr (e := eI)))) (JJ.r (je_bi1 (JJ.r (jx_var (e := eI) (x := n_22) rfl)) (op_repr (e := eI)))) op_neS)) (jt_not (jt_tru (JJ.r (je_un (JJ.r (je_ixc (JJ.r (jx_var (e := (eP eI (eT (eP (eT (eP eI eI)) (eO (eP eI eI)))))) (x := p_30.1) rfl)) op_ixP1)) (op_isi (f := PyData.isTuple) (e := (eT (eP (eT (eP eI eI)) (eO (eP eI eI))))))))))))) ?_ ?_
    · exact jg_ret (jx_c (e := eB) (x := false) rfl) (fun _ => rfl)
    refine jg_ifRX (jt_or (jt_e (je_bin (JJ.rl (je_fm (e2 := (eP (eT (eP eI eI)) (eO (eP eI eI)))) (ρ1 := fun c_54 => [.non, .hdl 0, .val (eI i_10), .val (eI n_22), .val ((eT (eT eI)) some_24), z_16, z_17, .val ((eP eI (eT (eP (eT (eP eI eI)) (eO (eP eI eI))))) p_30.1), .val (eS p_30.2), .non, .val ((eP (eT (eP eI eI)) (eO (eP eI eI))) c_54)]) (ji_T (JJ.v (je_ixc (JJ.r (jx_var (e := (eP eI (eT (eP (eT (eP eI eI)) (eO (eP eI eI)))))) (x := p_30.1) rfl)) op_ixP1))) (fun _ => rfl) (fun _ => rfl) rfl (fun c_54 => (jt_not (jt_tru (JJ.r (je_call2 (JJ.s (JJ.v (jx_var (e := eI) (x := n_22) rfl))) (JJ.s (JJ.v (jx_var (e := (eP (eT (eP eI eI)) (eO (eP eI eI)))) (x := c_54) rfl))) v__law_is_saying (fun _ => rfl)))))) (fun c_54 => (JJ.v (jx_var (e := (eP (eT (eP eI eI)) (eO (eP eI eI)))) (x := c_54) rfl))))) (JJ.rl (je_lst (ja_nil (e := (eP (eT (eP eI eI)) (eO (eP eI eI))))))) (Dt.op_ne (e := (eL (eP (eT (eP eI eI)) (eO (eP eI eI)))))))) (jt_e (je_bin (JJ.r (je_bi1 (JJ.r (jx_var (e := (eT (eT eI))) (x := some_24) rfl)) (op_repr (e := (eT (eT eI)))))) (JJ.r (jx_var (e := eS) (x := p_30.2) rfl)) op_neS))) ?_ ?_
    · exact jg_ret (jx_c (e := eB) (x := false) rfl) (fun _ => rfl)
    refine jg_nx (ρ2 := fun due_65 => [.non, .hdl 0, .val (eI i_10), .val (eI n_22), .val ((eT (eT eI)) some_24), .val ((eT (eT eI)) due_65), z_17, .val ((eP eI (eT (eP (eT (eP eI eI)) (eO (eP eI eI))))) p_30.1), .val (eS p_30.2), .non, .non]) (jn_asg (je_call2 (JJ.s (JJ.v (jx_var (e := eI) (x := n_22) rfl))) (JJ.s (JJ.v (jx_var (e := (eT (eT eI))) (x := some_24) rfl))) v__law_hull (fun _ => rfl)) (fun _ => rfl)) (fun due_65 => ?_)
    refine jg_ifRX (jt_e (je_bin (JJ.r (je_bi1 (JJ.rl (je_fm (e2 := (eT eI)) (ρ1 := fun c_67 => [.non, .hdl 0, .val (eI i_10), .val (eI n_22), .val ((eT (eT eI)) some_24), .val ((eT (eT eI)) due_65), z_17, .val ((eP eI (eT (eP (eT (eP eI eI)) (eO (eP eI eI))))) p_30.1), .val (eS p_30.2), .val ((eT eI) c_67), .non]) (ji_L (JJ.vl (je_call1 (JJ.s (JJ.v (jx_var (e := eI) (x := n_22) rfl))) v__law_orders (fun _ => rfl)))) (fun _ => rfl) (fun _ => rfl) rfl (fun c_67 => (jt_tru (JJ.r (je_call2 (JJ.s (JJ.v (je_ixc (JJ.r (jx_var (e := (eP eI (eT (eP (eT (eP eI eI)) (eO (eP eI eI)))))) (x := p_30.1) rfl)) op_ixP1))) (JJ.s (JJ.v (jx_var (e := (eT eI)) (x := c_67) rfl))) v__law_keeps_all (fun _ => rfl))))) (fun c_67 => (JJ.v (jx_var (e := (eT eI)) (x := c_67) rfl))))) op_tupL)) (JJ.r (jx_var (e := (eT (eT eI))) (x := due_65) rfl)) (Dt.op_ne (e := (eT (eT eI)))))) ?_ ?_
    · exact jg_ret (jx_c (e := eB) (x := false) rfl) (fun _ => rfl)
    refine jg_ifRX (jt_or (jt_e (je_bin (JJ.r (je_bi1 (JJ.r (je_call1 (JJ.s (JJ.v (jx_var (e := (eP eI (eT (eP (eT (eP eI eI)) (eO (eP eI eI)))))) (x := p_30.1) rfl))) v_said (fun _ => rfl))) (op_repr (e := (eT (eT eI)))))) (JJ.r (je_bi1 (JJ.r (jx_var (e := (eT (eT eI))) (x := due_65) rfl)) (op_repr (e := (eT (eT eI)))))) op_neS)) (jt_e (je_bin (JJ.r (je_bi1 (JJ.r (je_call2 (JJ.s (JJ.v (jx_var (e := eI) (x := n_22) rfl))) (JJ.s (JJ.v (jx_var (e := (eT (eT eI))) (x := some_24) rfl))) v_book_of (fun _ => rfl))) (op_repr (e := (eP eI (eT (eP (eT (eP eI eI)) (eO (eP eI eI))))))))) (JJ.r (je_bi1 (JJ.r (jx_var (e := (eP eI (eT (eP (eT (eP eI eI)) (eO (eP eI eI)))))) (x := p_30.1) rfl)) (op_repr (e := (eP eI (eT (eP (eT (eP eI eI)) (eO (eP eI eI))))))))) op_neS))) ?_ ?_
    · exact jg_ret (jx_c (e := eB) (x := false) rfl) (fun _ => rfl)
    refine jg_nx (ρ2 := fun book_93 => [.non, .hdl 0, .val (eI i_10), .val (eI n_22), .val ((eT (eT eI)) some_24), .val ((eT (eT eI)) due_65), .val ((eP eI (eT (eP (eT (eP eI eI)) (eO (eP eI eI))))) book_93), .val ((eP eI (eT (eP (eT (eP eI eI)) (eO (eP eI eI))))) p_30.1), .val (eS p_30.2), .non, .non]) (jn_asg (je_callS3 rfl (JJ.s (JJ.v (je_bi2 (JJ.r (jx_c (e := eI) (x := 2) rfl)) (JJ.r (jx_var (e := eI) (x := n_22) rfl)) op_max2))) (JJ.s (JJ.v (jx_c (e := eI) (x := 6) rfl))) v__law_draw_book (fun _ => rfl)) (fun _ => rfl)) (fun book_93 => ?_)
    refine jg_nx (ρ2 := fun book_103 => [.non, .hdl 0, .val (eI i_10), .val (eI n_22), .val ((eT (eT eI)) some_24), .val ((eT (eT eI)) due_65), .val ((eP eI (eT (eP (eT (eP eI eI)) (eO (eP eI eI))))) book_103), .val ((eP eI (eT (eP (eT (eP eI eI)) (eO (eP eI eI))))) p_30.1), .val (eS p_30.2), .non, .non]) (jn_asg (je_pair (JJ.v (je_ixc (JJ.r (jx_var (e := (eP eI (eT (eP (eT (eP eI eI)) (eO (eP eI eI)))))) (x := book_93) rfl)) op_ixP0)) (JJ.v (je_bin (JJ.r (je_ixc (JJ.r (jx_var (e := (eP eI (eT (eP (eT (eP eI eI)) (eO (eP eI eI)))))) (x := book_93) rfl)) op_ixP1)) (JJ.r (je_tup (ja_cons (JJ.v (je_callS3 rfl (JJ.s (JJ.v (je_ixc (JJ.r (jx_var (e := (eP eI (eT (eP (eT (eP eI eI)) (eO (eP eI eI)))))) (x := book_93) rfl)) op_ixP0))) (JJ.s (JJ.v (jx_c (e := eI) (x := 4) rfl))) v__law_draw_saying (fun _ => rfl))) (ja_nil (e := (eP (eT (eP eI eI)) (eO (eP eI eI)))))))) op_catT))) (fun _ => rfl)) (fun book_103 => ?_)
    refine jg_nx (ρ2 := fun due_112 => [.non, .hdl 0, .val (eI i_10), .val (eI n_22), .val ((eT (eT eI)) some_24), .val ((eT (eT eI)) due_112), .val ((eP eI (eT (eP (eT (eP eI eI)) (eO (eP eI eI))))) book_103), .val ((eP eI (eT (eP (eT (eP eI eI)) (eO (eP eI eI))))) p_30.1), .val (eS p_30.2), .non, .non]) (jn_asg (je_bi1 (JJ.rl (je_fm (e2 := (eT eI)) (ρ1 := fun c_106 => [.non, .hdl 0, .val (eI i_10), .val (eI n_22), .val ((eT (eT eI)) some_24), .val ((eT (eT eI)) due_65), .val ((eP eI (eT (eP (eT (eP eI eI)) (eO (eP eI eI))))) book_103), .val ((eP eI (eT (eP (eT (eP eI eI)) (eO (eP eI eI))))) p_30.1), .val (eS p_30.2), .val ((eT eI) c_106), .non]) (ji_L (JJ.vl (je_call1 (JJ.s (JJ.v (je_ixc (JJ.r (jx_var (e := (eP eI (eT (eP (eT (eP eI eI)) (eO (eP eI eI)))))) (x := book_103) rfl)) op_ixP0))) v__law_orders (fun _ => rfl)))) (fun _ => rfl) (fun _ => rfl) rfl (fun c_106 => (jt_tru (JJ.r (je_call2 (JJ.s (JJ.v (je_ixc (JJ.r (jx_var (e := (eP eI (eT (eP (eT (eP eI eI)) (eO (eP eI eI)))))) (x := book_103) rfl)) op_ixP1))) (JJ.s (JJ.v (jx_var (e := (eT eI)) (x := c_106) rfl))) v__law_keeps_all (fun _ => rfl))))) (fun c_106 => (JJ.v (jx_var (e := (eT eI)) (x := c_106) rfl))))) op_tupL) (fun _ => rfl)) (fun due_112 => ?_)
    refine jg_ifRX (jt_or (jt_e (je_bin (JJ.r (je_bi1 (JJ.r (je_call1 (JJ.s (JJ.v (jx_var (e := (eP eI (eT (eP (eT (eP eI eI)) (eO (eP eI eI)))))) (x := book_103) rfl))) v_said (fun _ => rfl))) (op_repr (e := (eT (eT eI)))))) (JJ.r (je_bi1 (JJ.r (jx_var (e := (eT (eT eI))) (x := due_112) rfl)) (op_repr (e := (eT (eT eI)))))) op_neS)) (jt_e (je_bin (JJ.r (je_call2 (JJ.s (JJ.v (je_ixc (JJ.r (jx_var (e := (eP eI (eT (eP (eT (eP eI eI)) (eO (eP eI eI)))))) (x := book_103) rfl)) op_ixP0))) (JJ.s (JJ.v (jx_var (e := (eT (eT eI))) (x := due_112) rfl))) v_passes (fun _ => rfl))) (JJ.r (jx_c (e := eB) (x := true) rfl)) op_isNotTrue))) ?_ ?_
    · exact jg_ret (jx_c (e := eB) (x := false) rfl) (fun _ => rfl)
    exact jg_nilX ⟨_, _, _, _, _, _, _, rfl⟩
  intro st_9 r_12 h_11
  obtain ⟨z_125, z_126, z_127, z_128, z_129, z_130, z_131, rfl⟩ := h_11
  exact jg_ret (je_and (je_bin (JJ.r (je_call1 (JJ.s (JJ.v (je_pair (JJ.v (jx_c (e := eI) (x := 0) rfl)) (JJ.v (je_tup (ja_nil (e := (eP (eT (eP eI eI)) (eO (eP eI eI)))))))))) v_said (fun _ => rfl))) (JJ.r (je_tup (ja_cons (JJ.v (je_tup (ja_nil (e := eI)))) (ja_nil (e := (eT eI)))))) (Dt.op_eq (e := (eT (eT eI))))) (je_and (je_bin (JJ.r (je_call1 (JJ.s (JJ.v (je_pair (JJ.v (jx_c (e := eI) (x := 1) rfl)) (JJ.v (je_tup (ja_cons (JJ.v (je_pair (JJ.v (je_tup (ja_nil (e := (eP eI eI))))) (JJ.v (JJ.as (e' := (eO (eP eI eI))) (f := (fun _ => (none : (Option (Int × Int))))) (jx_c (e := eN) (x := ()) rfl) (fun _ => rfl))))) (ja_nil (e := (eP (eT (eP eI eI)) (eO (eP eI eI))))))))))) v_said (fun _ => rfl))) (JJ.r (je_tup (ja_nil (e := (eT eI))))) (Dt.op_eq (e := (eT (eT eI))))) (je_bin (JJ.r (je_call1 (JJ.s (JJ.v (je_pair (JJ.v (jx_c (e := eI) (x := 2) rfl)) (JJ.v (je_tup (ja_cons (JJ.v (je_pair (JJ.v (je_tup (ja_nil (e := (eP eI eI))))) (JJ.v (JJ.as (e' := (eO (eP eI eI))) (f := some) (je_pair (JJ.v (jx_c (e := eI) (x := 0) rfl)) (JJ.v (jx_c (e := eI) (x := 1) rfl))) (fun _ => rfl))))) (ja_nil (e := (eP (eT (eP eI eI)) (eO (eP eI eI))))))))))) v_said (fun _ => rfl))) (JJ.r (je_tup (ja_cons (JJ.v (je_tup (ja_cons (JJ.v (jx_c (e := eI) (x := 0) rfl)) (ja_cons (JJ.v (jx_c (e := eI) (x := 0) rfl)) (ja_nil (e := eI)))))) (ja_cons (JJ.v (je_tup (ja_cons (JJ.v (jx_c (e := eI) (x := 0) rfl)) (ja_cons (JJ.v (jx_c (e := eI) (x := 1) rfl)) (ja_nil (e := eI)))))) (ja_nil (e := (eT eI))))))) (Dt.op_eq (e := (eT (eT eI))))))) (fun _ => rfl)

end Dz

set_option Elab.async false
set_option linter.all false
set_option maxRecDepth 100000
set_option maxHeartbeats 0
/-! what is drawn -/
namespace Dz
open PySem PySem.Spec PyProof.Rows L2 Dy Dt
theorem within_c {x y : Int} (h : within64 y = true) : (within64 x || within64 y) = true := by
  rw [h, Bool.or_true]
theorem within_b {x y : Int} (h : within64 x = true) : (within64 x || within64 y) = true := by
  rw [h, Bool.true_or]
theorem within_lt {x : Int} (h0 : 0 ≤ x) (h1 : x < 18446744073709551616) : within64 x = true := by
  unfold within64
  simp only [Bool.and_eq_true, decide_eq_true_eq]
  omega
theorem max_one {m : Int} (h : 1 ≤ m) : (if m > 1 then m else 1) = m := by
  split <;> omega
theorem yl_pick {many : Int} (h1 : 1 ≤ many) (h2 : many < 1073741824) : Yl (t__law_pick many) (fun r => 0 ≤ r ∧ r < many) := by
  unfold t__law_pick
  simp only [tb_tp]
  refine yl_tb (Q := fun _ => True) (fun s g => ?_) fun _ _ => ?_
  · obtain ⟨s', e, l⟩ := yl_while (c := fun _ => if decide (1 < many) = true then tb (sGet Src.left) fun x => if decide (x < 2) = true then tb sLenS fun x => tp (decide (0 < x)) else tp false else tp false) (f := fun _ => tb (tb sPopS fun n => sSet setLeft n) fun _ => tp ()) (fun s => by
      cases decide (1 < many) with
      | false => exact ⟨false, rfl, fun h => nomatch h⟩
      | true =>
        rw [if_pos rfl, tb_app]
        show ∃ b, (if decide (s.left < 2) = true then tb sLenS fun x => tp (decide (0 < x)) else tp false) s = _ ∧ _
        cases decide (s.left < 2) with
        | false => exact ⟨false, rfl, fun h => nomatch h⟩
        | true =>
          refine ⟨decide (0 < (s.cells.length : Int)), rfl, fun h => ?_⟩
          have := of_decide_eq_true h
          omega) (fun s hs => by
      have e : sPopS s = .ok (s.cells[s.cells.length - 1]'(by omega)) { s with cells := s.cells.dropLast } := by
        unfold sPopS
        rw [List.getElem?_eq_getElem (by omega)]
      refine ⟨{ (setLeft { s with cells := s.cells.dropLast } (s.cells[s.cells.length - 1]'(by omega))) with turn := s.turn }, ?_, ?_⟩
      · dsimp only
        rw [tb_app, tb_app, e]
        rfl
      · show s.cells.dropLast.length < _
        rw [List.length_dropLast]
        omega) 100 63 s g (by decide)
    exact ⟨(), s', e, by unfold Gd at *; omega, trivial⟩
  · refine yl_tb (Q := fun _ => True) (yl_get fun _ => trivial) fun left _ => ?_
    rw [max_one h1]
    have key : Yl (tb (tg (decide (0 < many) && decide (many < 1073741824)) (left / many)) fun n => tb (sSet setLeft n) fun _ => tg (decide (0 < many)) (left % many)) (fun r => 0 ≤ r ∧ r < many) := by
      rw [tg_fdiv (by omega) h2, tb_tp]
      refine yl_tb (yl_set fun _ => rfl) fun _ _ => ?_
      exact yl_tg (decide_eq_true (by omega)) ⟨Int.emod_nonneg _ (by omega), Int.emod_lt_of_pos _ (by omega)⟩
    have last : Yl (tb (sGet Src.turn) fun x => tb (sSet setTurn (x + 1)) fun _ => tb (sGet Src.mixed) fun a => tb (sGet Src.turn) fun b => tb (tg (within64 b || within64 104729) (b * 104729)) fun y => tb (tg (decide (0 < (998244353 : Int))) ((a + y) % 998244353)) fun mixed => tb (tg (within64 mixed || within64 mixed) (mixed * mixed)) fun x => tb (sGet Src.turn) fun b => tb (tg (within64 b || within64 17) (b * 17)) fun y => tb (tg (decide (0 < (2147483647 : Int))) ((x + y) % 2147483647)) fun mixed => tb (sSet setMixed mixed) fun _ => tb (tg (decide (0 < (16 : Int)) && decide ((16 : Int) < 1073741824)) (mixed / 16)) fun x => tg (decide (0 < many)) (x % many)) (fun r => 0 ≤ r ∧ r < many) := by
      refine yl_tb (Q := fun _ => True) (yl_get fun _ => trivial) fun x _ => ?_
      refine yl_tb (yl_set fun _ => rfl) fun _ _ => ?_
      refine yl_tb (Q := fun _ => True) (yl_get fun _ => trivial) fun a _ => ?_
      refine yl_tb (Q := fun _ => True) (yl_get fun _ => trivial) fun b _ => ?_
      rw [tg_of (within_c (by decide)), tb_tp, tg_of (by decide), tb_tp]
      have e1 : 0 ≤ (a + b * 104729) % 998244353 := Int.emod_nonneg _ (by omega)
      have e2 : (a + b * 104729) % 998244353 < 998244353 := Int.emod_lt_of_pos _ (by omega)
      rw [tg_of (within_b (within_lt e1 (by omega))), tb_tp]
      refine yl_tb (Q := fun _ => True) (yl_get fun _ => trivial) fun b2 _ => ?_
      rw [tg_of (within_c (by decide)), tb_tp, tg_of (by decide), tb_tp]
      refine yl_tb (yl_set fun _ => rfl) fun _ _ => ?_
      rw [tg_of (by decide), tb_tp]
      exact yl_tg (decide_eq_true (by omega)) ⟨Int.emod_nonneg _ (by omega), Int.emod_lt_of_pos _ (by omega)⟩
    simp only [tb_assoc, tb_tp] at *
    cases decide (many < 2) with
    | true =>
      simp only [if_true, tb_tp]
      exact key
    | false =>
      simp only [Bool.false_eq_true, if_false, tb_tp]
      cases decide (1 < left) with
      | true => exact key
      | false =>
        simp only [Bool.false_eq_true, if_false]
        exact last

theorem popAt_ok {α : Type} {l : List α} {k : Int} (h0 : 0 ≤ k) (h1 : k < l.length) (h2 : l.length < 1000000000) : ∃ x, l[k.toNat]? = some x ∧ (tPopAt l k : M Src (α × List α)) = tp (x, l.eraseIdx k.toNat) := by
  refine ⟨l[k.toNat]'(by omega), List.getElem?_eq_getElem (by omega), ?_⟩
  unfold tPopAt
  have e1 : Dy.fits63 k = true := by
    unfold Dy.fits63
    simp only [Bool.and_eq_true, decide_eq_true_eq]
    omega
  have e2 : seqIndex? k l.length = some k.toNat := by
    have : ¬ k < 0 := by omega
    simp [seqIndex?, this, h0, h1]
  rw [e1, if_pos rfl, e2]
  dsimp only
  rw [List.getElem?_eq_getElem (by omega)]
theorem perm_erase {α : Type} : ∀ {l : List α} {k : Nat} {x : α}, l[k]? = some x → (x :: l.eraseIdx k).Perm l
  | [], _, _, h => by simp at h
  | y :: l, 0, x, h => by
    rw [List.getElem?_cons_zero] at h
    cases h
    exact .refl _
  | y :: l, k + 1, x, h => by
    rw [List.getElem?_cons_succ] at h
    exact (List.Perm.swap y x _).trans (.cons y (perm_erase h))
theorem yl_mixT {α : Type} : ∀ (n : Nat) (rest acc : List α), rest.length = n → acc.length + n ≤ 1000000 → Yl (mixT t__law_pick n rest acc) (fun r => r.Perm (acc ++ rest))
  | 0, rest, acc, hn, _ => by
    have : rest = [] := List.length_eq_zero_iff.mp hn
    subst this
    exact yl_tp (by rw [List.append_nil])
  | n + 1, rest, acc, hn, hl => by
    unfold mixT
    refine yl_tb (Q := fun w => w.2.length = n ∧ (w.1 :: w.2).Perm rest) (yl_tq (yl_tb (yl_pick (by unfold ilen; omega) (by unfold ilen; omega)) fun k hk => ?_)) fun w hw => ?_
    · unfold ilen at hk
      obtain ⟨x, hx, e⟩ := popAt_ok hk.1 hk.2 (by omega)
      rw [e]
      refine yl_tp ⟨?_, perm_erase hx⟩
      show (rest.eraseIdx k.toNat).length = n
      rw [List.length_eraseIdx, if_pos (by omega)]
      omega
    · rw [if_pos (decide_eq_true (by omega))]
      refine (yl_mixT n w.2 (acc ++ [w.1]) hw.1 (by rw [List.length_append, List.length_singleton]; omega)).mono fun r hr => hr.trans ?_
      rw [List.append_assoc]
      exact List.Perm.append_left acc hw.2
theorem yl_mixed {α : Type} {l : List α} (h : l.length ≤ 1000000) : Yl (t__law_mixed l) (fun r => r.Perm l) := by
  unfold t__law_mixed
  simp only [tb_tp]
  rw [tg_62 (by unfold ilen; omega) (by unfold ilen; omega), tb_tp, ivl_length, show (ilen l).toNat = l.length by unfold ilen; omega]
  exact (yl_mixT l.length l [] rfl (by rw [List.length_nil]; omega)).mono fun r hr => hr
theorem yl_of {α : Type} {l : List α} (h : l ≠ []) (h1 : l.length ≤ 1000000) : Yl (t__law_of l) (fun x => x ∈ l) := by
  have hp := List.length_pos_iff.mpr h
  unfold t__law_of
  simp only [tb_tp]
  refine yl_tb (yl_pick (by unfold ilen; omega) (by unfold ilen; omega)) fun k hk => ?_
  unfold ilen at hk
  rw [atI_some hk.1 hk.2, List.getElem?_eq_getElem (by omega)]
  exact yl_to rfl (List.getElem_mem _)
/-! placings, sayings, books -/
def PlOk (n : Int) (o : List Int) : Prop := (o.length : Int) = n ∧ ∀ x ∈ o, -1000000000 ≤ x ∧ x ≤ 1000000000
theorem yl_placing {n : Int} (h0 : 0 ≤ n) (h1 : n ≤ 1000) : Yl (t__law_draw_placing n) (PlOk n) := by
  unfold t__law_draw_placing
  simp only [tb_tp]
  rw [tg_of (by decide)]
  simp only [tb_tp]
  rw [tg_sz (by simp), tb_tp]
  refine yl_tb (Q := fun m => 1 ≤ m ∧ m < 1073741824) ((yl_of (by simp) (by simp)).mono fun m hm => ?_) fun m hm => ?_
  · simp only [List.mem_cons, List.not_mem_nil, or_false] at hm
    rcases hm with rfl | rfl | rfl | rfl
    · decide
    · decide
    · omega
    · decide
  · rw [tg_62 h0 (by omega), tb_tp]
    refine yl_tb (yl_tMap (Q := fun x => -1000000000 ≤ x ∧ x ≤ 1000000000) (fun x _ => ?_) (by rw [ivl_length]; omega)) fun r hr => ?_
    · refine yl_tb (yl_pick hm.1 hm.2) fun k hk => ?_
      rw [tg_of (by decide), tb_tp]
      have := Int.ediv_nonneg (a := m) (b := 3) (by omega) (by omega)
      have : m / 3 ≤ m := Int.ediv_le_self _ (by omega)
      exact yl_tp ⟨by omega, by omega⟩
    · refine yl_tp ⟨?_, hr.1⟩
      rw [hr.2, ivl_length]
      omega
/-- the pair's numbers are places -/
def Tie (n : Int) (p : Int × Int) : Prop := 0 ≤ p.1 ∧ p.1 < p.2 ∧ p.2 < n
def Hed (n : Int) (p : Int × Int) : Prop := 0 ≤ p.1 ∧ p.1 < n ∧ 0 ≤ p.2 ∧ p.2 < n ∧ p.1 ≠ p.2
abbrev Say := List (Int × Int) × Option (Int × Int)
structure SayOk (n : Int) (x : Say) : Prop where
  len : x.1.length ≤ 10000
  tie : ∀ p ∈ x.1, Tie n p
  hed : ∀ p, x.2 = some p → Hed n p
theorem two_of_perm {n : Int} (h : 2 ≤ n) {r : List Int} (hr : r.Perm (ivl 0 n.toNat)) : ∃ a b rest, r = a :: b :: rest ∧ Hed n (a, b) := by
  have hl := hr.length_eq
  rw [ivl_length] at hl
  match r, hl, hr with
  | [], hl, _ => simp at hl; omega
  | [a], hl, _ => simp at hl; omega
  | a :: b :: rest, hl, hr =>
    have hnd : (a :: b :: rest).Nodup := by
      refine hr.nodup_iff.mpr ?_
      unfold ivl
      rw [List.nodup_iff_pairwise_ne, List.pairwise_map]
      exact (List.nodup_range (n := n.toNat)).imp fun {x y} hxy => by omega
    have ha := (hr.mem_iff (a := a)).mp List.mem_cons_self
    have hb := (hr.mem_iff (a := b)).mp (List.mem_cons_of_mem _ List.mem_cons_self)
    rw [mem_ivl] at ha hb
    have hne : a ≠ b := fun e => by
      rw [List.nodup_cons] at hnd
      exact hnd.1 (e ▸ List.mem_cons_self)
    exact ⟨a, b, rest, rfl, by omega, by show a < n; omega, by show 0 ≤ b; omega, by show b < n; omega, hne⟩
theorem cut2 {α : Type} (a b : α) (rest : List α) : cutT (a :: b :: rest) none (some 2) = [a, b] := by
  unfold cutT
  have e1 : HT.sIx (a :: b :: rest).length 0 none = 0 := rfl
  have e2 : HT.sIx (a :: b :: rest).length (a :: b :: rest).length (some 2) = 2 := by
    unfold HT.sIx
    simp only [List.length_cons]
    split <;> omega
  rw [e1, e2]
  rfl
theorem yl_saying {n most : Int} (h : 2 ≤ n) (hn : n ≤ 1000) (h0 : 0 ≤ most) (h1 : most ≤ 1000) : Yl (t__law_draw_saying n most) (SayOk n) := by
  unfold t__law_draw_saying
  simp only [tb_tp]
  rw [tg_sz (by simp), tb_tp, tg_62l (by omega) (by omega)]
  simp only [tb_tp, tb_assoc]
  refine yl_tb (yl_mixed (by rw [ivl_length]; omega)) fun r hr => ?_
  obtain ⟨a, b, rest, rfl, hab⟩ := two_of_perm h hr
  rw [cut2]
  -- how many laps
  refine yl_tb (Q := fun m => 0 ≤ m ∧ m ≤ most) (yl_pick (by omega) (by omega) |>.mono fun m hm => ⟨hm.1, by omega⟩) fun m hm => ?_
  rw [tg_sz (by simp), tb_tp]
  refine yl_tb (Q := fun k => 0 ≤ k ∧ k ≤ 1000) ((yl_of (by simp) (by simp)).mono fun k hk => ?_) fun k hk => ?_
  · simp only [List.mem_cons, List.not_mem_nil, or_false] at hk
    omega
  rw [tg_62 (by omega) (by omega), tb_tp]
  refine yl_tb (yl_for (fun i st => st.length ≤ i ∧ ∀ p ∈ st, Tie n p) _ 0 [] (fun x _ i st hi hst => ?_) ⟨Nat.le_refl _, fun _ h => nomatch h⟩) fun st hst => ?_
  · refine yl_tb (yl_mixed (by rw [ivl_length]; omega)) fun r hr => ?_
    obtain ⟨c, d, rest2, rfl, hcd⟩ := two_of_perm h hr
    rw [cut2, tg_of (sortOk_I _), tb_tp, sort_two]
    have tie : ∃ p, pairOf (if c ≤ d then [c, d] else [d, c]) = some p ∧ Tie n p := by
      obtain ⟨q1, q2, q3, q4, q5⟩ := hcd
      dsimp only at q1 q2 q3 q4 q5
      by_cases hle : c ≤ d
      · rw [if_pos hle]
        exact ⟨(c, d), rfl, q1, by show c < d; omega, q4⟩
      · rw [if_neg hle]
        exact ⟨(d, c), rfl, q3, by show d < c; omega, q2⟩
    obtain ⟨p, ep, hp⟩ := tie
    rw [ep, to_some, tb_tp, tg_sz (by simp), tb_tp]
    rw [ivl_length] at hi
    cases hasT st p with
    | true =>
      simp only [Bool.not_true, show Dt.b2i false = 0 from rfl]
      rw [tg_of (show repC [p].length 0 = true from (by decide : repC 1 0 = true)), tb_tp]
      simp only [List.replicate_zero, Int.toNat_zero, List.flatten_nil, List.append_nil, List.length_nil, Nat.add_zero]
      rw [tg_sz (by omega), tb_tp]
      exact yl_tp ⟨by omega, hst.2⟩
    | false =>
      simp only [Bool.not_false, show Dt.b2i true = 1 from rfl]
      rw [tg_of (show repC [p].length 1 = true from (by decide : repC 1 1 = true)), tb_tp]
      simp only [show (1 : Int).toNat = 1 from rfl, List.replicate_one, List.flatten_cons, List.flatten_nil, List.append_nil, List.length_singleton]
      rw [tg_sz (by omega), tb_tp]
      refine yl_tp ⟨by rw [List.length_append, List.length_singleton]; omega, fun q hq => ?_⟩
      rcases List.mem_append.mp hq with h2 | h2
      · exact hst.2 q h2
      · rw [List.mem_singleton] at h2
        exact h2 ▸ hp
  · rw [ivl_length] at hst
    rw [tg_of (sortOk_P _), tb_tp]
    have hl : (sortT (eP eI eI) st).length ≤ 10000 := by
      rw [length_sortT]
      omega
    have ht : ∀ p ∈ sortT (eP eI eI) st, Tie n p := fun p hp => hst.2 p (mem_sortT.mp hp)
    refine yl_tb (Q := fun _ => True) ((yl_pick (by omega) (by omega)).mono fun _ _ => trivial) fun g _ => ?_
    cases decide (0 < g) with
    | true =>
      simp only [if_true, tb_tp, pairOf, to_some]
      refine yl_tp ⟨hl, ht, fun p hp => ?_⟩
      cases hp
      exact hab
    | false =>
      simp only [Bool.false_eq_true, if_false, tb_tp]
      exact yl_tp ⟨hl, ht, fun p hp => nomatch hp⟩
/-! what keeps a saying -/
def keepsB (x : Say) (o : List Int) : Bool := x.1.any (fun p => !decide (gd o p.1 = gd o p.2)) || (match x.2 with
  | none => false
  | some p => decide (gd o p.1 ≤ gd o p.2))
theorem p__law_keeps {x : Say} {o : List Int} (h : SayOk (o.length : Int) x) : t__law_keeps x o = tp (keepsB x o) := by
  obtain ⟨hl, h1, h2⟩ := h
  unfold t__law_keeps
  simp only [tb_tp]
  rw [tFm_pure (fun p => !decide (gd o p.1 = gd o p.2)) (fun _ => (1 : Int)) (fun p hp => by
    obtain ⟨q1, q2, q3⟩ := h1 p hp
    rw [to_gd (by omega) (by omega), to_gd (by omega) (by omega)]
    simp only [tb_tp]) (fun _ _ _ => rfl) (by omega), tb_tp, tg_sz (by simp), tb_tp, filter_nil, tb_tp, Bool.not_not]
  unfold keepsB
  cases x.1.any fun p => !decide (gd o p.1 = gd o p.2) with
  | true => simp
  | false =>
    simp only [Bool.false_eq_true, if_false, Bool.false_or]
    cases hx : x.2 with
    | none => simp
    | some p =>
      obtain ⟨q1, q2, q3, q4, q5⟩ := h2 p hx
      simp only [Option.isSome_some, if_true, to_some, tb_tp]
      rw [to_gd q1 q2, tb_tp, to_gd q3 q4, tb_tp]
def BkOk (n : Int) (b : Int × List Say) : Prop := b.1 = n ∧ b.2.length ≤ 10000 ∧ ∀ x ∈ b.2, SayOk n x
theorem six_some {n d : Nat} {k : Int} (h : 0 ≤ k) : HT.sIx n d (some k) = min k.toNat n := by
  unfold HT.sIx
  dsimp only
  split <;> (try split) <;> omega
theorem cut_take {α : Type} {l : List α} {k : Int} (h : 0 ≤ k) : cutT l none (some k) = l.take k.toNat := by
  unfold cutT
  rw [six_some h, show HT.sIx l.length 0 none = 0 from rfl, List.drop_zero, Nat.sub_zero]
  by_cases hk : k.toNat ≤ l.length
  · rw [Nat.min_eq_left hk]
  · rw [Nat.min_eq_right (by omega), List.take_length, List.take_of_length_le (by omega)]
theorem cut_drop {α : Type} {l : List α} {k : Int} (h : 0 ≤ k) : cutT l (some k) none = l.drop k.toNat := by
  unfold cutT
  rw [six_some h, show HT.sIx l.length l.length none = l.length from rfl]
  by_cases hk : k.toNat ≤ l.length
  · rw [Nat.min_eq_left hk, List.take_of_length_le (by rw [List.length_drop]; omega)]
  · rw [Nat.min_eq_right (by omega), List.drop_length, List.drop_of_length_le (by omega), List.take_nil]
theorem zip_ring {a : Int} : ∀ (l : List Int) (x : Int), (x :: l).Nodup → (l ≠ [] ∨ x ≠ a) → a ∉ l → ∀ p ∈ List.zip (x :: l) (l ++ [a]), p.1 ≠ p.2
  | [], x, _, h, _ => by
    intro p hp
    rw [List.nil_append, List.zip_cons_cons, List.mem_cons] at hp
    rcases hp with rfl | hp
    · exact h.resolve_left fun q => q rfl
    · simp at hp
  | y :: l, x, hn, _, ha => by
    intro p hp
    rw [List.cons_append, List.zip_cons_cons, List.mem_cons] at hp
    have hn' := List.nodup_cons.mp hn
    rcases hp with rfl | hp
    · exact fun q => hn'.1 ((show x = y from q) ▸ List.mem_cons_self)
    · exact zip_ring l y hn'.2 (.inr fun q => ha (q ▸ List.mem_cons_self)) (fun q => ha (List.mem_cons_of_mem _ q)) p hp
/-- a ring of moments -/
theorem ring_ok {n : Int} {a b : Int} {rest : List Int} (hn : (a :: b :: rest).Nodup) (hm : ∀ x ∈ a :: b :: rest, 0 ≤ x ∧ x < n) : ∀ p ∈ List.zip (a :: b :: rest) ((b :: rest) ++ [a]), Hed n p := by
  intro p hp
  have h1 := zip_ring (b :: rest) a hn (.inl (by simp)) (List.nodup_cons.mp hn).1 p hp
  have h2 := hm p.1 (List.of_mem_zip hp).1
  have h3 := hm p.2 (by
    have := (List.of_mem_zip hp).2
    rcases List.mem_append.mp this with q | q
    · exact List.mem_cons_of_mem _ q
    · rw [List.mem_singleton] at q
      rw [q]
      exact List.mem_cons_self)
  exact ⟨h2.1, h2.2, h3.1, h3.2, h1⟩
theorem tie_two {n : Int} {c d : Int} (h : Hed n (c, d)) : ∃ p, pairOf (sortT eI [c, d]) = some p ∧ Tie n p := by
  obtain ⟨q1, q2, q3, q4, q5⟩ := h
  dsimp only at q1 q2 q3 q4 q5
  rw [sort_two]
  by_cases hle : c ≤ d
  · rw [if_pos hle]
    exact ⟨(c, d), rfl, q1, by show c < d; omega, q4⟩
  · rw [if_neg hle]
    exact ⟨(d, c), rfl, q3, by show d < c; omega, q2⟩
theorem yl_book {n many : Int} (h : 2 ≤ n) (hn : n ≤ 1000) (h0 : 0 ≤ many) (h1 : many ≤ 100) : Yl (t__law_draw_book n many) (BkOk n) := by
  unfold t__law_draw_book
  simp only [tb_tp, tb_assoc]
  refine yl_tb (yl_placing (by omega) hn) fun pl hpl => ?_
  rw [tg_sz (by simp), tb_tp]
  refine yl_tb (Q := fun _ => True) ((yl_pick (by omega) (by omega)).mono fun _ _ => trivial) fun way _ => ?_
  refine yl_tb (Q := fun k => 0 ≤ k ∧ k ≤ many) ((yl_pick (by omega) (by omega)).mono fun k hk => ⟨hk.1, by omega⟩) fun k hk => ?_
  rw [tg_62 (by omega) (by omega), tb_tp]
  refine yl_tb (yl_for (fun i st => st.length ≤ i ∧ ∀ x ∈ st, SayOk n x) _ 0 [] (fun x _ i st hi hst => ?_) ⟨Nat.le_refl _, fun _ h => nomatch h⟩) fun st hst => ?_
  · rw [ivl_length] at hi
    refine yl_tb (yl_saying h hn (by omega) (by omega)) fun x hx => ?_
    have hk : t__law_keeps x pl = tp (keepsB x pl) := p__law_keeps (by rw [hpl.1]; exact hx)
    have key : ∀ b : Bool, Yl (if b = true then (tb (to (atI pl 0)) fun x_46 => tb (to (atI pl 1)) fun y_47 => tb (if decide (x_46 ≤ y_47) = true then tp ((0 : Int), (1 : Int)) else tp (1, 0)) fun first => tb (if x.2.isSome = true then tb (to x.2) fun y => tp (some (y.2, y.1)) else tp (some first)) fun y => tp (x.1, y)) else tp x) (SayOk n) := by
      intro b
      cases b with
      | false =>
        rw [if_neg Bool.false_ne_true]
        exact yl_tp hx
      | true =>
        have hl := hpl.1
        rw [if_pos rfl, to_gd (by omega) (by omega), tb_tp, to_gd (by omega) (by omega), tb_tp]
        refine yl_tb (Q := Hed n) ?_ fun fi hfi => ?_
        · split
          · exact yl_tp ⟨by decide, by show (0 : Int) < n; omega, by decide, by show (1 : Int) < n; omega, by decide⟩
          · exact yl_tp ⟨by decide, by show (1 : Int) < n; omega, by decide, by show (0 : Int) < n; omega, by decide⟩
        · refine yl_tb (Q := fun y => ∀ p, y = some p → Hed n p) ?_ fun y hy => yl_tp ⟨hx.len, hx.tie, hy⟩
          cases hx2 : x.2 with
          | none =>
            simp only [Option.isSome_none, Bool.false_eq_true, if_false]
            refine yl_tp fun p hp => ?_
            cases hp
            exact hfi
          | some p =>
            simp only [Option.isSome_some, if_true, to_some, tb_tp]
            refine yl_tp fun q hq => ?_
            cases hq
            obtain ⟨q1, q2, q3, q4, q5⟩ := hx.hed p hx2
            exact ⟨q3, q4, q1, q2, fun e => q5 e.symm⟩
    rw [hk]
    simp only [tb_tp]
    refine yl_tb (Q := fun _ => True) ?_ fun bb _ => ?_
    · split
      · exact yl_tp trivial
      · exact yl_tp trivial
    refine yl_tb (key bb) fun y hy => ?_
    · rw [tApp_ok (by omega), tb_tp]
      refine yl_tp ⟨by rw [List.length_append, List.length_singleton]; omega, fun z hz => ?_⟩
      rcases List.mem_append.mp hz with q | q
      · exact hst.2 z q
      · rw [List.mem_singleton] at q
        exact q ▸ hy
  · rw [ivl_length] at hst
    refine yl_tb (Q := fun st : List Say => st.length ≤ 10000 ∧ ∀ x ∈ st, SayOk n x) ?_ fun st2 h2 => yl_tp ⟨rfl, h2.1, h2.2⟩
    cases decide (way = 3) with
    | false =>
      simp only [Bool.false_eq_true, if_false]
      exact yl_tp ⟨by omega, hst.2⟩
    | true =>
      simp only [if_true]
      rw [tg_62l (by omega) (by omega), tb_tp]
      refine yl_tb (yl_mixed (by rw [ivl_length]; omega)) fun r hr => ?_
      have hl := hr.length_eq
      rw [ivl_length] at hl
      have hnd : r.Nodup := by
        refine hr.nodup_iff.mpr ?_
        unfold ivl
        rw [List.nodup_iff_pairwise_ne, List.pairwise_map]
        exact (List.nodup_range (n := n.toNat)).imp fun {x y} hxy => by omega
      have hmem : ∀ x ∈ r, 0 ≤ x ∧ x < n := fun x hx => by
        have := (hr.mem_iff (a := x)).mp hx
        rw [mem_ivl] at this
        omega
      refine yl_tb (Q := fun k => 0 ≤ k ∧ k < n - 1) (yl_pick (by omega) (by omega)) fun k2 hk2 => ?_
      rw [cut_take (by omega)]
      obtain ⟨a, b, rest, er⟩ : ∃ a b rest, r.take (2 + k2).toNat = a :: b :: rest := by
        match r, hl with
        | [], hl => simp at hl; omega
        | [a], hl => simp at hl; omega
        | a :: b :: rest, hl =>
          refine ⟨a, b, rest.take k2.toNat, ?_⟩
          rw [show (2 + k2).toNat = k2.toNat + 2 by omega]
          rfl
      have hrl : (a :: b :: rest).length ≤ 1000 := by
        rw [← er, List.length_take]
        omega
      have hnd2 : (a :: b :: rest).Nodup := by
        rw [← er]
        exact hnd.sublist (List.take_sublist _ _)
      have hmem2 : ∀ x ∈ a :: b :: rest, 0 ≤ x ∧ x < n := fun x hx => hmem x (List.mem_of_mem_take (er ▸ hx))
      have hring := ring_ok hnd2 hmem2
      rw [er, cut_drop (by decide), cut_take (by decide), cut_take (by decide)]
      simp only [show (1 : Int).toNat = 1 from rfl, show (2 : Int).toNat = 2 from rfl, List.drop_succ_cons, List.drop_zero, List.take_succ_cons, List.take_zero]
      rw [List.length_cons, List.length_cons] at hrl
      rw [tg_sz (by simp only [List.length_cons, List.length_nil]; omega), tb_tp]
      rw [tMap_pure (fun p : Int × Int => (([], some p) : Say)) (fun p hp => by rw [tg_sz (by simp), tb_tp]) (by
        rw [List.length_zip]
        simp only [List.length_append, List.length_cons, List.length_nil]
        omega), tb_tp, tg_of (sortOk_I _), tb_tp]
      obtain ⟨tie, et, ht⟩ := tie_two (n := n) (c := a) (d := b) (by
        refine ⟨(hmem2 a (by simp)).1, (hmem2 a (by simp)).2, (hmem2 b (by simp)).1, (hmem2 b (by simp)).2, fun e => ?_⟩
        exact (List.nodup_cons.mp hnd2).1 ((show a = b from e) ▸ List.mem_cons_self))
      rw [et, to_some, tb_tp, tg_sz (by simp), tb_tp, tg_sz (by simp), tb_tp]
      have hzl : ((a :: b :: rest).zip (b :: rest ++ [a])).length ≤ 1000 := by
        rw [List.length_zip]
        simp only [List.length_append, List.length_cons, List.length_nil]
        omega
      rw [tg_sz (by rw [List.length_map, List.length_singleton]; omega), tb_tp]
      generalize elate : ((a :: b :: rest).zip (b :: rest ++ [a])).map (fun p : Int × Int => (([], some p) : Say)) ++ [([tie], none)] = late
      have hlate : late.length ≤ 1001 ∧ ∀ x ∈ late, SayOk n x := by
        rw [← elate]
        refine ⟨by rw [List.length_append, List.length_map, List.length_singleton]; omega, fun x hx => ?_⟩
        rcases List.mem_append.mp hx with q | q
        · obtain ⟨p, hp, rfl⟩ := List.mem_map.mp q
          refine ⟨by simp, fun _ h => (nomatch h), fun p2 hp2 => ?_⟩
          cases hp2
          exact hring p hp
        · rw [List.mem_singleton] at q
          subst q
          refine ⟨by simp, fun p hp => ?_, fun p hp => nomatch hp⟩
          rw [List.mem_singleton] at hp
          exact hp ▸ ht
      rw [cut_take (by split <;> omega), tg_sz (by rw [List.length_take]; omega), tb_tp]
      refine yl_tb (yl_mixed (by rw [List.length_append, List.length_take]; omega)) fun r2 hr2 => yl_tp ⟨?_, fun x hx => ?_⟩
      · rw [hr2.length_eq, List.length_append, List.length_take]
        omega
      · rcases List.mem_append.mp (hr2.mem_iff.mp hx) with q | q
        · exact hst.2 x (List.mem_of_mem_take q)
        · exact hlate.2 x q
end Dz

set_option Elab.async false
set_option linter.all false
set_option maxRecDepth 100000
set_option maxHeartbeats 0
/-! the program's and the law's defs of k64, in plain words -/
namespace Dz
open PySem PySem.Spec PyProof.Rows L2 Dy Dt
def s00 : Src := ⟨[], 0, 0, 0⟩
def ords (n : Int) : List (List Int) := match t_orders n s00 with
  | .ok l _ => l
  | _ => []
def Sml (n : Int) : Prop := n = 0 ∨ n = 1 ∨ n = 2 ∨ n = 3 ∨ n = 4
theorem p_orders {n : Int} (h : Sml n) : t_orders n = tp (ords n) := by
  rcases h with rfl | rfl | rfl | rfl | rfl
  · funext s
    kernel_rfl
  · funext s
    kernel_rfl
  · funext s
    kernel_rfl
  · funext s
    kernel_rfl
  · funext s
    kernel_rfl
theorem p__law_orders {n : Int} (h : Sml n) : t__law_orders n = tp (ords n) := by
  rcases h with rfl | rfl | rfl | rfl | rfl
  · funext s
    kernel_rfl
  · funext s
    kernel_rfl
  · funext s
    kernel_rfl
  · funext s
    kernel_rfl
  · funext s
    kernel_rfl
def ordsOk (n : Int) : Bool := (ords n).all (fun o => decide ((o.length : Int) = n) && o.all fun i => decide (0 ≤ i) && decide (i < 16)) && decide ((ords n).length ≤ 75)
theorem ords_ok {n : Int} (h : Sml n) : ordsOk n = true := by
  rcases h with rfl | rfl | rfl | rfl | rfl
  · kernel_rfl
  · kernel_rfl
  · kernel_rfl
  · kernel_rfl
  · kernel_rfl
theorem ords_len {n : Int} (h : Sml n) {o : List Int} (ho : o ∈ ords n) : (o.length : Int) = n := by
  have := ords_ok h
  unfold ordsOk at this
  rw [Bool.and_eq_true, List.all_eq_true] at this
  have := this.1 o ho
  rw [Bool.and_eq_true] at this
  exact of_decide_eq_true this.1
theorem ords_sml {n : Int} (h : Sml n) {o : List Int} (ho : o ∈ ords n) : ∀ i ∈ o, 0 ≤ i ∧ i < 16 := by
  have := ords_ok h
  unfold ordsOk at this
  rw [Bool.and_eq_true, List.all_eq_true] at this
  have := this.1 o ho
  rw [Bool.and_eq_true, List.all_eq_true] at this
  intro i hi
  have := this.2 i hi
  rw [Bool.and_eq_true] at this
  exact ⟨of_decide_eq_true this.1, of_decide_eq_true this.2⟩
theorem ords_many {n : Int} (h : Sml n) : (ords n).length ≤ 75 := by
  have := ords_ok h
  unfold ordsOk at this
  rw [Bool.and_eq_true] at this
  exact of_decide_eq_true this.2
theorem p_keeps {x : Say} {o : List Int} (h : SayOk (o.length : Int) x) : t_keeps x o = tp (keepsB x o) := by
  obtain ⟨hl, h1, h2⟩ := h
  unfold t_keeps
  simp only [tb_tp]
  rw [tMap_pure (fun p => !decide (gd o p.1 = gd o p.2)) (fun p hp => by
    obtain ⟨q1, q2, q3⟩ := h1 p hp
    rw [to_gd (by omega) (by omega), tb_tp, to_gd (by omega) (by omega), tb_tp]) (by omega), tb_tp]
  rw [List.any_map, show ((fun b : Bool => b) ∘ fun p : Int × Int => !decide (gd o p.1 = gd o p.2)) = fun p => !decide (gd o p.1 = gd o p.2) from rfl]
  unfold keepsB
  cases x.1.any fun p => !decide (gd o p.1 = gd o p.2) with
  | true => simp [tb_tp]
  | false =>
    simp only [Bool.false_eq_true, if_false, Bool.false_or]
    cases hx : x.2 with
    | none => simp [tb_tp]
    | some p =>
      obtain ⟨q1, q2, q3, q4, q5⟩ := h2 p hx
      simp only [Option.isSome_some, if_true, to_some, tb_tp]
      rw [to_gd q1 q2, tb_tp, to_gd q3 q4, tb_tp]
      simp
/-- no saying is broken -/
def allKeep (xs : List Say) (o : List Int) : Bool := xs.all fun x => keepsB x o
theorem enum_none {xs : List Say} {o : List Int} : (((enumT xs).findSome? fun i => if keepsB i.2 o then none else some (some i.1)).getD none).isNone = allKeep xs o := by
  have e1 : ∀ l : List (Int × Say), (((l.findSome? fun i => if keepsB i.2 o then none else some (some i.1)).getD none).isNone = (l.map (·.2)).all fun x => keepsB x o) := fun l => by
    induction l with
    | nil => rfl
    | cons y l ih =>
      rw [List.findSome?_cons, List.map_cons, List.all_cons]
      cases keepsB y.2 o with
      | true =>
        rw [if_pos rfl, Bool.true_and]
        exact ih
      | false => rfl
  rw [e1]
  have e2 : (enumT xs).map (·.2) = xs := by
    unfold enumT
    rw [List.map_zipWith]
    refine List.ext_getElem? fun i => ?_
    rw [List.getElem?_zipWith]
    by_cases hi : i < xs.length
    · rw [List.getElem?_range hi, List.getElem?_eq_getElem hi]
    · rw [List.getElem?_eq_none (l := xs) (by omega)]
      cases (List.range xs.length)[i]? <;> rfl
  rw [e2]
  rfl
theorem p_first {b : Int × List Say} {o : List Int} (h : ∀ x ∈ b.2, SayOk (o.length : Int) x) : t_first_broken b o = tp (((enumT b.2).findSome? fun i => if keepsB i.2 o then none else some (some i.1)).getD none) := by
  unfold t_first_broken
  simp only [tb_tp]
  refine tForX_first (k := fun _ => tp none) (d := none) rfl _ fun i hi => ?_
  have hm : i.2 ∈ b.2 := by
    unfold enumT at hi
    obtain ⟨k, hk, e⟩ := List.mem_iff_getElem.mp hi
    rw [List.getElem_zipWith] at e
    rw [← e]
    exact List.getElem_mem _
  rw [p_keeps (h _ hm)]
  simp only [tb_tp]
  cases keepsB i.2 o <;> simp [tb_tp]
def tiesOf (o : List Int) : List (Int × Int) := (ivl 0 o.length).flatMap fun a => ((ivl (a + 1) ((o.length : Int) - (a + 1)).toNat).filter fun b => decide (gd o a = gd o b)).map fun b => (a, b)
theorem p_ties {o : List Int} (h : o.length ≤ 1000) : t_ties_of o = tp (tiesOf o) := by
  unfold t_ties_of
  simp only [tb_tp]
  rw [show ilen o = (o.length : Int) from rfl, tg_62 (by omega) (by omega), tb_tp, Int.toNat_natCast]
  rw [tFm2_pure (fun a => ivl (a + 1) ((o.length : Int) - (a + 1)).toNat) (fun a b => decide (gd o a = gd o b)) (fun a b => (a, b)) 1000 (fun a ha => by
      rw [mem_ivl] at ha
      rw [tg_622 (by omega) (by omega) (by omega) (by omega)]) (fun a ha b hb => by
      rw [mem_ivl] at ha hb
      rw [to_gd (by omega) (by omega), tb_tp, to_gd (by omega) (by omega), tb_tp]) (fun _ _ _ _ _ => rfl) (fun a ha => by
      rw [mem_ivl] at ha
      rw [ivl_length]
      omega) (by rw [ivl_length]; omega), tb_tp]
  rfl
theorem mem_ties {o : List Int} {p : Int × Int} : p ∈ tiesOf o ↔ Tie (o.length : Int) p ∧ gd o p.1 = gd o p.2 := by
  unfold tiesOf Tie
  rw [List.mem_flatMap]
  constructor
  · rintro ⟨a, ha, h⟩
    rw [List.mem_map] at h
    obtain ⟨b, hb, rfl⟩ := h
    rw [List.mem_filter, mem_ivl] at hb
    rw [mem_ivl] at ha
    refine ⟨⟨by omega, by show a < b; omega, by show b < _; omega⟩, of_decide_eq_true hb.2⟩
  · rintro ⟨⟨h1, h2, h3⟩, h4⟩
    refine ⟨p.1, mem_ivl.mpr (by omega), List.mem_map.mpr ⟨p.2, List.mem_filter.mpr ⟨mem_ivl.mpr (by omega), decide_eq_true h4⟩, rfl⟩⟩
theorem flatMap_len {α β : Type} {l : List α} {f : α → List β} {B : Nat} (h : ∀ a ∈ l, (f a).length ≤ B) : (l.flatMap f).length ≤ l.length * B := by
  induction l with
  | nil => simp
  | cons a r ih =>
    rw [List.flatMap_cons, List.length_append, List.length_cons, Nat.succ_mul]
    have := h a List.mem_cons_self
    have := ih fun a ha => h a (List.mem_cons_of_mem _ ha)
    omega
theorem ties_len {o : List Int} (h : o.length ≤ 100) : (tiesOf o).length ≤ 10000 := by
  have := flatMap_len (l := ivl 0 o.length) (f := fun a => ((ivl (a + 1) ((o.length : Int) - (a + 1)).toNat).filter fun b => decide (gd o a = gd o b)).map fun b => (a, b)) (B := 100) fun a ha => by
    rw [mem_ivl] at ha
    rw [List.length_map]
    refine Nat.le_trans (List.length_filter_le _ _) ?_
    rw [ivl_length]
    omega
  rw [ivl_length] at this
  unfold tiesOf
  omega
/-- the orders that have all of some ties -/
def nearOf (os : List (List Int)) (ts : List (Int × Int)) : List (List Int) := os.filter fun o => ts.all fun p => decide (gd o p.1 = gd o p.2)
theorem p_tied {os : List (List Int)} {ts : List (Int × Int)} {n : Int} (h : ∀ o ∈ os, (o.length : Int) = n) (ht : ∀ p ∈ ts, Tie n p) (h1 : os.length ≤ 10000) (h2 : ts.length ≤ 10000) : t_tied_ones os ts = tp (nearOf os ts) := by
  unfold t_tied_ones
  simp only [tb_tp]
  rw [tFm_pure (fun o => ts.all fun p => decide (gd o p.1 = gd o p.2)) (fun o => o) (fun o ho => by
    have hl := h o ho
    rw [tMap_pure (fun p => decide (gd o p.1 = gd o p.2)) (fun p hp => by
      obtain ⟨q1, q2, q3⟩ := ht p hp
      rw [to_gd (by omega) (by omega), tb_tp, to_gd (by omega) (by omega), tb_tp]) (by omega), tb_tp, List.all_map]
    rfl) (fun _ _ _ => rfl) (by omega), List.map_id']
  rfl
def wantedOf (o : List Int) : List (Int × Int) := (ivl 0 o.length).flatMap fun a => ((ivl 0 o.length).filter fun b => decide (gd o b < gd o a)).map fun b => (a, b)
theorem p_wanted {o : List Int} (h : o.length ≤ 1000) : t_wanted o = tp (wantedOf o) := by
  unfold t_wanted
  simp only [tb_tp]
  rw [show ilen o = (o.length : Int) from rfl, tg_62 (by omega) (by omega), tb_tp, Int.toNat_natCast]
  rw [tFm2_pure (fun a => ivl 0 o.length) (fun a b => decide (gd o b < gd o a)) (fun a b => (a, b)) 1000 (fun a ha => rfl) (fun a ha b hb => by
      rw [mem_ivl] at ha hb
      rw [to_gd (by omega) (by omega), tb_tp, to_gd (by omega) (by omega), tb_tp]) (fun _ _ _ _ _ => rfl) (fun a ha => by
      rw [ivl_length]
      omega) (by rw [ivl_length]; omega)]
  rfl
theorem mem_wanted {o : List Int} {p : Int × Int} : p ∈ wantedOf o ↔ (0 ≤ p.1 ∧ p.1 < o.length ∧ 0 ≤ p.2 ∧ p.2 < o.length) ∧ gd o p.2 < gd o p.1 := by
  unfold wantedOf
  rw [List.mem_flatMap]
  constructor
  · rintro ⟨a, ha, h⟩
    rw [List.mem_map] at h
    obtain ⟨b, hb, rfl⟩ := h
    rw [List.mem_filter, mem_ivl] at hb
    rw [mem_ivl] at ha
    refine ⟨⟨by omega, by show a < _; omega, by show 0 ≤ b; omega, by show b < _; omega⟩, of_decide_eq_true hb.2⟩
  · rintro ⟨⟨h1, h2, h3, h4⟩, h5⟩
    exact ⟨p.1, mem_ivl.mpr (by omega), List.mem_map.mpr ⟨p.2, List.mem_filter.mpr ⟨mem_ivl.mpr (by omega), decide_eq_true h5⟩, rfl⟩⟩
theorem p_check {n m : Int} (h : n ≤ m) : t_check_size n m = tp () := by
  unfold t_check_size
  simp only [tb_tp]
  rw [decide_eq_false (by omega), if_neg Bool.false_ne_true, tb_tp, tb_tp]
/-- a set of orders of n moments -/
structure SetOk (n : Int) (os : List (List Int)) : Prop where
  len : os.length ≤ 10000
  ord : ∀ o ∈ os, (o.length : Int) = n
def headOf (os : List (List Int)) (o : List Int) : Option (Int × Int) := (wantedOf o).find? fun p => !(nearOf os (tiesOf o)).any fun one => decide (gd one p.2 < gd one p.1)
def refOf (os : List (List Int)) (o : List Int) : Option Say := if (nearOf os (tiesOf o)).isEmpty then some (tiesOf o, none) else (headOf os o).map fun p => (tiesOf o, some p)
theorem near_len {os : List (List Int)} {ts : List (Int × Int)} : (nearOf os ts).length ≤ os.length := List.length_filter_le _ _
theorem p_refusing {n : Int} {os : List (List Int)} {o : List Int} (hn : n ≤ 5) (hs : SetOk n os) (ho : (o.length : Int) = n) : t_refusing n os o = tp (refOf os o) := by
  unfold t_refusing
  simp only [tb_tp]
  rw [p_check hn, tb_tp, p_ties (by omega), tb_tp, p_tied (n := n) hs.ord (fun p hp => by rw [← ho]; exact (mem_ties.mp hp).1) hs.len (ties_len (by omega)), tb_tp]
  unfold refOf
  simp only [Bool.not_not]
  cases hc : (nearOf os (tiesOf o)).isEmpty with
  | true => simp
  | false =>
    simp only [Bool.false_eq_true, if_false]
    rw [p_wanted (by omega), tb_tp]
    rw [tForX_first (q := fun p => if (nearOf os (tiesOf o)).any fun one => decide (gd one p.2 < gd one p.1) then none else some (some (tiesOf o, some p))) (d := none) rfl _ (fun p hp => by
      obtain ⟨⟨q1, q2, q3, q4⟩, _⟩ := mem_wanted.mp hp
      rw [tMap_pure (fun one => decide (gd one p.2 < gd one p.1)) (fun one h1 => by
        have hl := hs.ord one (List.mem_filter.mp h1).1
        rw [to_gd (by omega) (by omega), tb_tp, to_gd (by omega) (by omega), tb_tp]) (by have := near_len (os := os) (ts := tiesOf o); have := hs.len; omega), tb_tp, List.any_map]
      rw [show ((fun b : Bool => b) ∘ fun one : List Int => decide (gd one p.2 < gd one p.1)) = fun one => decide (gd one p.2 < gd one p.1) from rfl]
      cases (nearOf os (tiesOf o)).any fun one => decide (gd one p.2 < gd one p.1) <;> simp [tb_tp])]
    congr 1
    unfold headOf
    induction wantedOf o with
    | nil => rfl
    | cons p r ih =>
      rw [List.findSome?_cons, List.find?_cons]
      cases (nearOf os (tiesOf o)).any fun one => decide (gd one p.2 < gd one p.1) with
      | true =>
        simp only [if_true, Bool.not_true]
        exact ih
      | false => rfl
end Dz

set_option Elab.async false
set_option linter.all false
set_option maxRecDepth 100000
set_option maxHeartbeats 0
namespace Dz
open PySem PySem.Spec PyProof.Rows L2 Dy Dt
def addS (os : List (List Int)) (acc : List Say) (o : List Int) : List Say := match refOf os o with
  | none => acc
  | some x => if hasT acc x then acc else acc ++ [x]
def bookP (n : Int) (os : List (List Int)) : List Say := (ords n).foldl (addS os) []
theorem sml5 {n : Int} (h : Sml n) : n ≤ 4 := by
  rcases h with rfl | rfl | rfl | rfl | rfl <;> decide
theorem sml0 {n : Int} (h : Sml n) : 0 ≤ n := by
  rcases h with rfl | rfl | rfl | rfl | rfl <;> decide
theorem p_book_of {n : Int} {os : List (List Int)} (hn : Sml n) (hs : SetOk n os) : t_book_of n os = tp (n, bookP n os) ∧ (bookP n os).length ≤ 75 := by
  have h4 := sml5 hn
  have hm := ords_many hn
  have loop := tFor_pure (S := Src) (f := fun (i_10 : List Int) (st_9 : List Say) => (tb (tb (tp n) fun a_15 => tb (tp os) fun a_16 => tb (tp i_10) fun a_17 => t_refusing a_15 a_16 a_17) fun (saying_18 : Option Say) => (tb (tb (tb (tb (tp saying_18) fun x_21 => tb (tp ()) fun y_22 => tp x_21.isSome) fun x_23 => if x_23 then (tb (tb (tp saying_18) fun x => to x) fun x_19 => tb (tp st_9) fun y_20 => tp (!hasT y_20 x_19)) else tp false) fun b_29 => if b_29 then (tb (tb (tb (tp saying_18) fun x => to x) fun b => tApp st_9 b) fun found_25 => (tp found_25)) else (tp st_9)) fun (st_26 : List Say) => (tp st_26))))
    (g := fun o acc => addS os acc o) (fun i (st : List Say) => st.length ≤ i) (ords n) 0 [] (fun o ho i st hi hst => by
      have := p_refusing (by omega) hs (ords_len hn ho)
      simp only [tb_tp]
      rw [this]
      simp only [tb_tp]
      unfold addS
      cases hr : refOf os o with
      | none => simp [tb_tp]; omega
      | some x =>
        simp only [Option.isSome_some, if_true, to_some, tb_tp]
        cases hasT st x with
        | true => simp [tb_tp]; omega
        | false =>
          simp only [Bool.not_false, if_true]
          rw [tApp_ok (by omega)]
          simp [tb_tp]
          omega) (Nat.le_refl _)
  refine ⟨?_, ?_⟩
  · unfold t_book_of
    simp only [tb_tp] at loop ⊢
    rw [p_check (by omega), tb_tp, tg_sz (by simp), tb_tp, p_orders hn, tb_tp, loop.1, tb_tp]
    rfl
  · have := loop.2
    unfold bookP
    have e : (ords n).foldl (fun s x => addS os s x) [] = (ords n).foldl (addS os) [] := rfl
    rw [e] at this
    omega
theorem mem_addS {os : List (List Int)} {acc : List Say} {o : List Int} {x : Say} : x ∈ addS os acc o ↔ x ∈ acc ∨ refOf os o = some x := by
  unfold addS
  cases hr : refOf os o with
  | none => simp
  | some y =>
    dsimp only
    cases hh : hasT acc y with
    | true =>
      rw [if_pos rfl]
      constructor
      · exact .inl
      · rintro (h | h)
        · exact h
        · cases h
          exact hasT_iff.mp hh
    | false =>
      rw [if_neg Bool.false_ne_true, List.mem_append, List.mem_singleton]
      constructor
      · rintro (h | rfl)
        · exact .inl h
        · exact .inr rfl
      · rintro (h | h)
        · exact .inl h
        · cases h
          exact .inr rfl
theorem mem_fold {os : List (List Int)} {x : Say} : ∀ (l : List (List Int)) (acc : List Say), x ∈ l.foldl (addS os) acc ↔ x ∈ acc ∨ ∃ o ∈ l, refOf os o = some x
  | [], acc => by simp
  | o :: l, acc => by
    rw [List.foldl_cons, mem_fold l, mem_addS]
    simp only [List.mem_cons, exists_eq_or_imp]
    rw [or_assoc]
theorem mem_book {n : Int} {os : List (List Int)} {x : Say} : x ∈ bookP n os ↔ ∃ o ∈ ords n, refOf os o = some x := by
  unfold bookP
  rw [mem_fold]
  simp
/-! the heart -/
theorem mem_near {os : List (List Int)} {ts : List (Int × Int)} {o : List Int} : o ∈ nearOf os ts ↔ o ∈ os ∧ ∀ p ∈ ts, gd o p.1 = gd o p.2 := by
  unfold nearOf
  rw [List.mem_filter, List.all_eq_true]
  simp
theorem head_some {os : List (List Int)} {o : List Int} {p : Int × Int} (h : headOf os o = some p) : p ∈ wantedOf o ∧ ∀ one ∈ nearOf os (tiesOf o), ¬ gd one p.2 < gd one p.1 := by
  unfold headOf at h
  refine ⟨List.mem_of_find?_eq_some h, fun one h1 h2 => ?_⟩
  have := List.find?_some h
  rw [Bool.not_eq_true', List.any_eq_false] at this
  exact this one h1 (decide_eq_true h2)
theorem head_none {os : List (List Int)} {o : List Int} (h : headOf os o = none) : ∀ p ∈ wantedOf o, ∃ one ∈ nearOf os (tiesOf o), gd one p.2 < gd one p.1 := by
  unfold headOf at h
  intro p hp
  have := List.find?_eq_none.mp h p hp
  rw [Bool.not_eq_true', Bool.not_eq_false, List.any_eq_true] at this
  obtain ⟨one, h1, h2⟩ := this
  exact ⟨one, h1, of_decide_eq_true h2⟩
theorem ref_cases {os : List (List Int)} {o : List Int} {x : Say} (h : refOf os o = some x) : x.1 = tiesOf o ∧ ((nearOf os (tiesOf o) = [] ∧ x.2 = none) ∨ ∃ p, headOf os o = some p ∧ x.2 = some p) := by
  unfold refOf at h
  split at h
  · rename_i hc
    cases h
    exact ⟨rfl, .inl ⟨List.isEmpty_iff.mp hc, rfl⟩⟩
  · cases hh : headOf os o with
    | none =>
      rw [hh] at h
      cases h
    | some p =>
      rw [hh] at h
      cases h
      exact ⟨rfl, .inr ⟨p, rfl, rfl⟩⟩
theorem ref_none {os : List (List Int)} {o : List Int} (h : refOf os o = none) : nearOf os (tiesOf o) ≠ [] ∧ headOf os o = none := by
  unfold refOf at h
  split at h
  · cases h
  · rename_i hc
    refine ⟨fun e => hc (by rw [e]; rfl), ?_⟩
    cases hh : headOf os o with
    | none => rfl
    | some p =>
      rw [hh] at h
      cases h
theorem keeps_iff {x : Say} {o : List Int} : keepsB x o = true ↔ (∃ p ∈ x.1, gd o p.1 ≠ gd o p.2) ∨ ∃ p, x.2 = some p ∧ gd o p.1 ≤ gd o p.2 := by
  unfold keepsB
  rw [Bool.or_eq_true, List.any_eq_true]
  constructor
  · rintro (⟨p, hp, h⟩ | h)
    · exact .inl ⟨p, hp, by simpa using h⟩
    · cases hx : x.2 with
      | none =>
        rw [hx] at h
        cases h
      | some p =>
        rw [hx] at h
        exact .inr ⟨p, rfl, of_decide_eq_true h⟩
  · rintro (⟨p, hp, h⟩ | ⟨p, hx, h⟩)
    · exact .inl ⟨p, hp, by simpa using h⟩
    · rw [hx]
      exact .inr (decide_eq_true h)
/-- a refused order breaks its saying -/
theorem ref_breaks {os : List (List Int)} {o : List Int} {x : Say} (h : refOf os o = some x) : keepsB x o = false := by
  obtain ⟨h1, h2⟩ := ref_cases h
  rw [Bool.eq_false_iff]
  intro hk
  rw [keeps_iff] at hk
  rcases hk with ⟨p, hp, hne⟩ | ⟨p, hx, hle⟩
  · rw [h1] at hp
    exact hne (mem_ties.mp hp).2
  · rcases h2 with ⟨_, h2⟩ | ⟨q, hq, h2⟩
    · rw [h2] at hx
      cases hx
    · rw [h2] at hx
      cases hx
      have := (mem_wanted.mp (head_some hq).1).2
      omega
/-- one that is not refused keeps all refusing sayings -/
theorem ref_keeps {os : List (List Int)} {o p : List Int} {x : Say} (hl : o.length = p.length) (ho : refOf os o = none) (h : refOf os p = some x) : keepsB x o = true := by
  obtain ⟨h1, h2⟩ := ref_cases h
  obtain ⟨n1, n2⟩ := ref_none ho
  rw [keeps_iff]
  by_cases ht : ∃ q ∈ x.1, gd o q.1 ≠ gd o q.2
  · exact .inl ht
  · have all : ∀ q ∈ tiesOf p, gd o q.1 = gd o q.2 := fun q hq => by
      refine Classical.byContradiction fun hne => ht ⟨q, ?_, hne⟩
      rw [h1]
      exact hq
    have sub : ∀ one ∈ nearOf os (tiesOf o), one ∈ nearOf os (tiesOf p) := fun one h1 => by
      rw [mem_near] at h1 ⊢
      refine ⟨h1.1, fun q hq => h1.2 q (mem_ties.mpr ⟨?_, all q hq⟩)⟩
      rw [hl]
      exact (mem_ties.mp hq).1
    rcases h2 with ⟨h2, _⟩ | ⟨q, hq, h2⟩
    · obtain ⟨one, h3⟩ := List.exists_mem_of_ne_nil _ n1
      have := sub one h3
      rw [h2] at this
      cases this
    · refine .inr ⟨q, h2, ?_⟩
      obtain ⟨w1, w2⟩ := head_some hq
      refine Classical.byContradiction fun hlt => ?_
      have hw : q ∈ wantedOf o := by
        have := (mem_wanted.mp w1).1
        rw [mem_wanted, hl]
        exact ⟨this, by omega⟩
      obtain ⟨one, h3, h4⟩ := head_none n2 q hw
      exact w2 one (sub one h3) h4
theorem book_says {n : Int} {os : List (List Int)} (hn : Sml n) {o : List Int} (ho : o ∈ ords n) : allKeep (bookP n os) o = (refOf os o).isNone := by
  rw [Bool.eq_iff_iff]
  unfold allKeep
  rw [List.all_eq_true]
  constructor
  · intro h
    cases hr : refOf os o with
    | none => rfl
    | some x =>
      have h1 := h x (mem_book.mpr ⟨o, ho, hr⟩)
      rw [ref_breaks hr] at h1
      cases h1
  · intro h x hx
    obtain ⟨p, hp, hr⟩ := mem_book.mp hx
    have l1 := ords_len hn ho
    have l2 := ords_len hn hp
    exact ref_keeps (by omega) (by cases h2 : refOf os o with
      | none => rfl
      | some y =>
        rw [h2] at h
        cases h) hr
/-- what a book says is its own hull -/
theorem said_passes {n : Int} {xs : List Say} (hn : Sml n) (hx : ∀ x ∈ xs, SayOk n x) {o : List Int} (ho : o ∈ ords n) : (refOf ((ords n).filter (allKeep xs)) o).isNone = allKeep xs o := by
  have lo := ords_len hn ho
  rw [Bool.eq_iff_iff]
  constructor
  · intro h
    have hr : refOf ((ords n).filter (allKeep xs)) o = none := by
      cases h2 : refOf ((ords n).filter (allKeep xs)) o with
      | none => rfl
      | some y =>
        rw [h2] at h
        cases h
    obtain ⟨n1, n2⟩ := ref_none hr
    unfold allKeep
    rw [List.all_eq_true]
    intro x hxm
    rw [keeps_iff]
    by_cases ht : ∃ q ∈ x.1, gd o q.1 ≠ gd o q.2
    · exact .inl ht
    · have ok := hx x hxm
      have has : ∀ q ∈ x.1, q ∈ tiesOf o := fun q hq => mem_ties.mpr ⟨by rw [lo]; exact ok.tie q hq, Classical.byContradiction fun hne => ht ⟨q, hq, hne⟩⟩
      have near : ∀ one ∈ nearOf ((ords n).filter (allKeep xs)) (tiesOf o), ∃ p, x.2 = some p ∧ gd one p.1 ≤ gd one p.2 := fun one h1 => by
        rw [mem_near, List.mem_filter] at h1
        have hk : keepsB x one = true := List.all_eq_true.mp h1.1.2 x hxm
        rw [keeps_iff] at hk
        rcases hk with ⟨q, hq, hne⟩ | hk
        · exact absurd (h1.2 q (has q hq)) hne
        · exact hk
      obtain ⟨one, h3⟩ := List.exists_mem_of_ne_nil _ n1
      obtain ⟨p, hp, _⟩ := near one h3
      refine .inr ⟨p, hp, Classical.byContradiction fun hlt => ?_⟩
      obtain ⟨q1, q2, q3, q4, q5⟩ := ok.hed p hp
      have hw : p ∈ wantedOf o := mem_wanted.mpr ⟨⟨q1, by omega, q3, by omega⟩, by omega⟩
      obtain ⟨two, h4, h5⟩ := head_none n2 p hw
      obtain ⟨p2, hp2, h6⟩ := near two h4
      rw [hp] at hp2
      cases hp2
      omega
  · intro h
    have hm : o ∈ nearOf ((ords n).filter (allKeep xs)) (tiesOf o) := mem_near.mpr ⟨List.mem_filter.mpr ⟨ho, h⟩, fun p hp => (mem_ties.mp hp).2⟩
    cases hr : refOf ((ords n).filter (allKeep xs)) o with
    | none => rfl
    | some x =>
      obtain ⟨_, h2⟩ := ref_cases hr
      rcases h2 with ⟨h2, _⟩ | ⟨q, hq, _⟩
      · rw [h2] at hm
        cases hm
      · obtain ⟨w1, w2⟩ := head_some hq
        exact absurd (mem_wanted.mp w1).2 (w2 o hm)
end Dz

set_option Elab.async false
set_option linter.all false
set_option maxRecDepth 100000
set_option maxHeartbeats 0
namespace Dz
open PySem PySem.Spec PyProof.Rows L2 Dy Dt
theorem p_said {n : Int} {b : Int × List Say} (hn : Sml n) (hb : BkOk n b) : t_said b = tp ((ords n).filter (allKeep b.2)) := by
  obtain ⟨h1, h2, h3⟩ := hb
  have hm := ords_many hn
  unfold t_said
  simp only [tb_tp]
  rw [h1, p_check (sml5 hn), tb_tp, p_orders hn, tb_tp]
  rw [tFm_pure (allKeep b.2) (fun o => o) (fun o ho => by
    rw [p_first (fun x hx => by rw [ords_len hn ho]; exact h3 x hx), tb_tp, enum_none]) (fun _ _ _ => rfl) (by omega), tb_tp, List.map_id']
theorem p_hull {n : Int} {os : List (List Int)} (hn : Sml n) (hs : SetOk n os) : t_hull n os = tp ((ords n).filter fun o => (refOf os o).isNone) := by
  have hm := ords_many hn
  have h4 := sml5 hn
  unfold t_hull
  simp only [tb_tp]
  rw [p_check h4, tb_tp, p_orders hn, tb_tp]
  rw [tFm_pure (fun o => (refOf os o).isNone) (fun o => o) (fun o ho => by
    rw [p_refusing (by omega) hs (ords_len hn ho), tb_tp]) (fun _ _ _ => rfl) (by omega), tb_tp, List.map_id']
theorem p_passes {n : Int} {os : List (List Int)} (hn : Sml n) (hs : SetOk n os) : t_passes n os = tp (decide ((ords n).filter (fun o => (refOf os o).isNone) = os)) := by
  unfold t_passes
  simp only [tb_tp]
  rw [p_hull hn hs, tb_tp]
/-! the law's own -/
theorem all_not {xs : List Say} {o : List Int} : decide (xs.filter (fun x => !keepsB x o) = []) = allKeep xs o := by
  rw [filter_nil', List.any_eq_not_all_not, Bool.not_not]
  unfold allKeep
  congr 1
  funext x
  rw [Bool.not_not]
theorem p__law_keeps_all {xs : List Say} {o : List Int} (h : ∀ x ∈ xs, SayOk (o.length : Int) x) (hl : xs.length ≤ 100000) : t__law_keeps_all xs o = tp (allKeep xs o) := by
  unfold t__law_keeps_all
  simp only [tb_tp]
  rw [tFm_pure (fun x => !keepsB x o) (fun x => x) (fun x hx => by
    rw [p__law_keeps (h x hx), tb_tp, tb_tp]) (fun _ _ _ => rfl) (by omega), tb_tp, tg_sz (by simp), tb_tp, List.map_id', all_not]
theorem foldl_flat {α β : Type} (f : α → List β) : ∀ (l : List α) (acc : List β), l.foldl (fun s x => s ++ f x) acc = acc ++ l.flatMap f
  | [], acc => by simp
  | x :: l, acc => by
    rw [List.foldl_cons, foldl_flat f l, List.flatMap_cons, List.append_assoc]
theorem p__law_ties {o : List Int} (h : o.length ≤ 100) : t__law_ties_of o = tp (tiesOf o) := by
  unfold t__law_ties_of
  simp only [tb_tp]
  rw [tg_sz (by simp), tb_tp, show ilen o = (o.length : Int) from rfl, tg_62 (by omega) (by omega), tb_tp, Int.toNat_natCast]
  have key := tFor_pure (S := Src) (f := fun (i_7 : Int) (st_6 : List (Int × Int)) => tb (tg (in62 (i_7 + 1) && in62 (o.length : Int)) (ivl (i_7 + 1) ((o.length : Int) - (i_7 + 1)).toNat)) fun l => tb (tFm (fun c => tb (to (atI o i_7)) fun x => tb (to (atI o c)) fun y => tp (decide (x = y))) (fun c => tp (i_7, c)) l) fun y => tb (tg (sizeOk (st_6.length + y.length)) (st_6 ++ y)) fun z => tp z)
    (g := fun a acc => acc ++ ((ivl (a + 1) ((o.length : Int) - (a + 1)).toNat).filter fun b => decide (gd o a = gd o b)).map fun b => (a, b)) (fun i (st : List (Int × Int)) => st.length ≤ i * 100) (ivl 0 o.length) 0 [] (fun a ha i st hi hst => by
      rw [mem_ivl] at ha
      rw [ivl_length] at hi
      have hb : (((ivl (a + 1) ((o.length : Int) - (a + 1)).toNat).filter fun b => decide (gd o a = gd o b)).map fun b => (a, b)).length ≤ 100 := by
        rw [List.length_map]
        refine Nat.le_trans (List.length_filter_le _ _) ?_
        rw [ivl_length]
        omega
      refine ⟨?_, ?_⟩
      · rw [tg_622 (by omega) (by omega) (by omega) (by omega), tb_tp]
        rw [tFm_pure (fun b => decide (gd o a = gd o b)) (fun b => (a, b)) (fun b hb => by
          rw [mem_ivl] at hb
          rw [to_gd (by omega) (by omega), tb_tp, to_gd (by omega) (by omega), tb_tp]) (fun _ _ _ => rfl) (by rw [ivl_length]; omega), tb_tp, tg_sz (by omega), tb_tp]
      · rw [List.length_append]
        omega) (Nat.zero_le _)
  simp only [tb_assoc, tb_tp] at key ⊢
  rw [key.1, tb_tp, foldl_flat]
  rfl
theorem p__law_earlier {o : List Int} (h : o.length ≤ 100) : t__law_earlier o = tp (wantedOf o) := by
  unfold t__law_earlier
  simp only [tb_tp]
  rw [tg_sz (by simp), tb_tp, show ilen o = (o.length : Int) from rfl, tg_62 (by omega) (by omega)]
  simp only [tb_tp, Int.toNat_natCast]
  have key := tFor_pure (S := Src) (f := fun (i_7 : Int) (st_6 : List (Int × Int)) => tb (tFm (fun c => tb (to (atI o c)) fun x => tb (to (atI o i_7)) fun y => tp (decide (x < y))) (fun c => tp (i_7, c)) (ivl 0 o.length)) fun y => tb (tg (sizeOk (st_6.length + y.length)) (st_6 ++ y)) fun z => tp z)
    (g := fun a acc => acc ++ ((ivl 0 o.length).filter fun b => decide (gd o b < gd o a)).map fun b => (a, b)) (fun i (st : List (Int × Int)) => st.length ≤ i * 100) (ivl 0 o.length) 0 [] (fun a ha i st hi hst => by
      rw [mem_ivl] at ha
      rw [ivl_length] at hi
      have hb : (((ivl 0 o.length).filter fun b => decide (gd o b < gd o a)).map fun b => (a, b)).length ≤ 100 := by
        rw [List.length_map]
        refine Nat.le_trans (List.length_filter_le _ _) ?_
        rw [ivl_length]
        omega
      refine ⟨?_, ?_⟩
      · rw [tFm_pure (fun b => decide (gd o b < gd o a)) (fun b => (a, b)) (fun b hb => by
          rw [mem_ivl] at hb
          rw [to_gd (by omega) (by omega), tb_tp, to_gd (by omega) (by omega), tb_tp]) (fun _ _ _ => rfl) (by rw [ivl_length]; omega), tb_tp, tg_sz (by omega), tb_tp]
      · rw [List.length_append]
        omega) (Nat.zero_le _)
  simp only [tb_assoc, tb_tp] at key ⊢
  rw [key.1, tb_tp, foldl_flat]
  rfl
theorem p__law_near {n : Int} {os : List (List Int)} {o : List Int} (hn : n ≤ 5) (hs : SetOk n os) (ho : (o.length : Int) = n) : t__law_near os o = tp (nearOf os (tiesOf o)) := by
  have hl := hs.len
  have tl := ties_len (o := o) (by omega)
  unfold t__law_near
  simp only [tb_tp]
  rw [p__law_ties (by omega), tb_tp]
  rw [tFm_pure (fun one => (tiesOf o).all fun p => decide (gd one p.1 = gd one p.2)) (fun o => o) (fun one h1 => by
    have l1 := hs.ord one h1
    rw [tFm_pure (fun p => !decide (gd one p.1 = gd one p.2)) (fun _ => (1 : Int)) (fun p hp => by
      obtain ⟨⟨q1, q2, q3⟩, _⟩ := mem_ties.mp hp
      rw [to_gd (by omega) (by omega), tb_tp, to_gd (by omega) (by omega), tb_tp]) (fun _ _ _ => rfl) (by omega), tb_tp, tg_sz (by simp), tb_tp, filter_nil, List.any_eq_not_all_not, Bool.not_not]
    simp only [Bool.not_not]) (fun _ _ _ => rfl) (by omega), List.map_id']
  rfl
theorem p__law_is_refused {n : Int} {os : List (List Int)} {o : List Int} (hn : n ≤ 5) (hs : SetOk n os) (ho : (o.length : Int) = n) : t__law_is_refused os o = tp (refOf os o).isSome := by
  have hl := hs.len
  have nl := near_len (os := os) (ts := tiesOf o)
  unfold t__law_is_refused
  simp only [tb_tp]
  rw [p__law_near hn hs ho, tb_tp, tg_sz (by simp), tb_tp]
  unfold refOf
  cases hc : nearOf os (tiesOf o) with
  | nil => simp [tb_tp]
  | cons one r =>
    rw [← hc]
    have hne : nearOf os (tiesOf o) ≠ [] := by
      rw [hc]
      simp
    rw [decide_eq_false hne, tb_tp, if_neg Bool.false_ne_true, if_neg (by rw [hc]; simp), p__law_earlier (by omega), tb_tp]
    rw [tForX_first (k := fun _ => tp false) (q := fun p => if (nearOf os (tiesOf o)).any fun one => decide (gd one p.2 < gd one p.1) then none else some true) (d := false) rfl _ (fun p hp => by
      obtain ⟨⟨q1, q2, q3, q4⟩, _⟩ := mem_wanted.mp hp
      rw [tFm_pure (fun one => decide (gd one p.2 < gd one p.1)) (fun o => o) (fun one h1 => by
        have l1 := hs.ord one (mem_near.mp h1).1
        rw [to_gd (by omega) (by omega), tb_tp, to_gd (by omega) (by omega), tb_tp]) (fun _ _ _ => rfl) (by omega), tb_tp, tb_tp, List.map_id', filter_nil']
      cases (nearOf os (tiesOf o)).any fun one => decide (gd one p.2 < gd one p.1) <;> simp [tb_tp])]
    congr 1
    unfold headOf
    induction wantedOf o with
    | nil => rfl
    | cons p w ih =>
      rw [List.findSome?_cons, List.find?_cons]
      cases (nearOf os (tiesOf o)).any fun one => decide (gd one p.2 < gd one p.1) with
      | true =>
        simp only [if_true, Bool.not_true]
        exact ih
      | false => rfl
theorem p__law_hull {n : Int} {os : List (List Int)} (hn : Sml n) (hs : SetOk n os) : t__law_hull n os = tp ((ords n).filter fun o => (refOf os o).isNone) := by
  have hm := ords_many hn
  have h4 := sml5 hn
  unfold t__law_hull
  simp only [tb_tp]
  rw [p__law_orders hn, tb_tp]
  rw [tFm_pure (fun o => (refOf os o).isNone) (fun o => o) (fun o ho => by
    rw [p__law_is_refused (by omega) hs (ords_len hn ho), tb_tp]
    cases refOf os o <;> rfl) (fun _ _ _ => rfl) (by omega), tb_tp, List.map_id']
/-! sayings in form -/
theorem p__law_ints {v : List Int} {m : Int} (hl : v.length ≤ 10000) : t__law_is_integers v m = tp (decide ((v.length : Int) = m)) := by
  unfold t__law_is_integers
  simp only [tb_tp]
  rw [tg_lay, tb_tp, show PyData.isTuple (eT eI v) = true from rfl]
  simp only [Bool.not_true, tb_tp, Bool.false_eq_true, if_false]
  rw [show ilen v = (v.length : Int) from rfl]
  by_cases h : (v.length : Int) = m
  · rw [decide_eq_true h]
    simp only [Bool.not_true, tb_tp, Bool.false_eq_true, if_false]
    rw [tFm_pure (fun _ => false) (fun x => x) (fun c _ => by
      rw [tg_lay, tb_tp, show PyData.isBool (eI c) = false from rfl, tb_tp, if_neg Bool.false_ne_true, tg_lay, tb_tp, tb_tp]
      rfl) (fun _ _ _ => rfl) (by omega), tb_tp, tg_sz (by simp), tb_tp]
    simp
  · rw [decide_eq_false h]
    simp [tb_tp]
theorem p__law_row {p : Int × Int} (h0 : 0 ≤ p.1) (h1 : 0 ≤ p.2) : t__law_row_numbers [p.1, p.2] 2 = tp true := by
  unfold t__law_row_numbers
  simp only [tb_tp]
  rw [p__law_ints (by simp), tb_tp]
  rw [if_pos (by simp), tFm_pure (fun x => decide (x < 0)) (fun x => x) (fun _ _ => rfl) (fun _ _ _ => rfl) (by simp), tb_tp, tg_sz (by simp), tb_tp, List.map_id']
  have e : [p.1, p.2].filter (fun x => decide (x < 0)) = [] := by
    simp [List.filter_cons, show ¬ p.1 < 0 by omega, show ¬ p.2 < 0 by omega]
  rw [e]
  simp
/-- ascending pairs -/
def ascP (l : List (Int × Int)) : Bool := (ivl 1 (l.length - 1)).all fun k => !geAt (pl (l.getD (k - 1).toNat (0, 0))) (pl (l.getD k.toNat (0, 0)))
theorem p__law_is_saying {n : Int} {x : Say} (h : SayOk n x) (ha : ascP x.1 = true) : t__law_is_saying n x = tp true := by
  obtain ⟨hl, h1, h2⟩ := h
  unfold t__law_is_saying
  simp only [tb_tp]
  rw [tg_lay, tb_tp, show PyData.isTuple (eP (eT (eP eI eI)) (eO (eP eI eI)) x) = true from rfl]
  simp only [Bool.not_true, tb_tp, Bool.false_eq_true, if_false, decide_true]
  rw [tg_lay, tb_tp, show PyData.isTuple (eT (eP eI eI) x.1) = true from rfl]
  simp only [Bool.not_true, tb_tp, Bool.false_eq_true, if_false]
  rw [show ilen x.1 = (x.1.length : Int) from rfl]
  unfold tbB
  have e1 : (tForX (fun (i_19 : Int × Int) (st_18 : Unit) => (tb (tb (tb (t__law_row_numbers [i_19.1, i_19.2] 2) fun x => tp (!x)) fun x_33 => if x_33 = true then tp true else tb (if decide (i_19.1 < i_19.2) = true then tp (decide (i_19.2 < n)) else tp false) fun x => tp (!x)) fun b_34 => if b_34 = true then tp (Fw.rt false) else tp (Fw.nx ()))) x.1 () : M Src (Fw Unit Bool)) = tp (.nx ()) := by
    have : ∀ l : List (Int × Int), (∀ p ∈ l, Tie n p) → (tForX (fun (i_19 : Int × Int) (st_18 : Unit) => (tb (tb (tb (t__law_row_numbers [i_19.1, i_19.2] 2) fun x => tp (!x)) fun x_33 => if x_33 = true then tp true else tb (if decide (i_19.1 < i_19.2) = true then tp (decide (i_19.2 < n)) else tp false) fun x => tp (!x)) fun b_34 => if b_34 = true then tp (Fw.rt false) else tp (Fw.nx ()))) l () : M Src (Fw Unit Bool)) = tp (.nx ()) := fun l => by
      induction l with
      | nil => exact fun _ => rfl
      | cons p l ih =>
        intro hp
        obtain ⟨q1, q2, q3⟩ := hp p List.mem_cons_self
        unfold tForX tbX
        rw [p__law_row (by omega) (by omega)]
        simp only [tb_tp, Bool.not_true, Bool.false_eq_true, if_false]
        rw [decide_eq_true q2, decide_eq_true q3]
        simp only [if_true, tb_tp, Bool.not_true, Bool.false_eq_true, if_false]
        exact ih fun z hz => hp z (List.mem_cons_of_mem _ hz)
    exact this x.1 h1
  simp only [tb_assoc, tb_tp] at e1 ⊢
  rw [e1, tb_tp]
  dsimp only
  rw [tg_622 (by omega) (by omega) (by omega) (by omega), tb_tp]
  rw [tFm_pure (fun k => geAt (pl (x.1.getD (k - 1).toNat (0, 0))) (pl (x.1.getD k.toNat (0, 0)))) (fun k => k) (fun k hk => by
    rw [mem_ivl] at hk
    rw [atI_some (by omega) (by omega), atI_some (by omega) (by omega), List.getElem?_eq_getElem (by omega), List.getElem?_eq_getElem (by omega), to_some, tb_tp, to_some, tb_tp, List.getD_eq_getElem?_getD, List.getElem?_eq_getElem (by omega), List.getD_eq_getElem?_getD, List.getElem?_eq_getElem (by omega)]
    rfl) (fun _ _ _ => rfl) (by rw [ivl_length]; omega), tb_tp, tg_sz (by simp), tb_tp, List.map_id']
  have e2 : (ivl 1 ((x.1.length : Int) - 1).toNat).filter (fun k => geAt (pl (x.1.getD (k - 1).toNat (0, 0))) (pl (x.1.getD k.toNat (0, 0)))) = [] := by
    rw [List.filter_eq_nil_iff]
    intro k hk
    unfold ascP at ha
    rw [List.all_eq_true] at ha
    have := ha k (by rw [show x.1.length - 1 = ((x.1.length : Int) - 1).toNat by omega]; exact hk)
    simpa using this
  rw [e2]
  simp only [decide_true, Bool.not_true, Bool.false_eq_true, if_false]
  cases hx : x.2 with
  | none => simp
  | some p =>
    obtain ⟨q1, q2, q3, q4, q5⟩ := h2 p hx
    simp only [Option.isNone_some, Bool.false_eq_true, if_false, to_some, tb_tp]
    rw [p__law_row q1 q3, tb_tp]
    simp only [if_true]
    rw [show (decide (p.1 = p.2)) = false from decide_eq_false q5]
    simp only [Bool.not_false, if_true]
    show tb (to (some (maxL [p.2] p.1))) (fun x => tp (decide (x < n))) = tp true
    rw [to_some, tb_tp]
    congr 1
    unfold maxL maxL
    apply decide_eq_true
    split <;> omega
end Dz

set_option Elab.async false
set_option linter.all false
set_option maxRecDepth 100000
set_option maxHeartbeats 0
namespace Dz
open PySem PySem.Spec PyProof.Rows L2 Dy Dt
structure Drawn (n : Int) (os : List (List Int)) : Prop where
  len : os.length ≤ 75
  sub : ∀ o ∈ os, o ∈ ords n
theorem Drawn.ok {n : Int} {os : List (List Int)} (hn : Sml n) (h : Drawn n os) : SetOk n os := ⟨by have := h.len; omega, fun o ho => ords_len hn (h.sub o ho)⟩
theorem yl_draw_set {n : Int} (hn : Sml n) : Yl (t__law_draw_set n) (Drawn n) := by
  have hm := ords_many hn
  have h4 := sml5 hn
  have h0 := sml0 hn
  unfold t__law_draw_set
  simp only [tb_tp, tb_assoc]
  refine yl_tb (Q := fun _ => True) ((yl_pick (by omega) (by omega)).mono fun _ _ => trivial) fun way _ => ?_
  rw [p__law_orders hn, tb_tp]
  cases decide (way = 0) with
  | true =>
    simp only [if_true]
    refine yl_tb (yl_mixed (by omega)) fun r hr => ?_
    refine yl_tb (Q := fun k => 0 ≤ k) ((yl_pick (by omega) (by omega)).mono fun _ h => h.1) fun k hk => ?_
    rw [cut_take hk, tg_of (sortOk_T _ n.toNat fun o ho => by
      have := ords_len hn (hr.mem_iff.mp (List.mem_of_mem_take ho))
      omega), tb_tp]
    refine yl_tp ⟨?_, fun o ho => hr.mem_iff.mp (List.mem_of_mem_take (mem_sortT.mp ho))⟩
    rw [length_sortT, List.length_take, hr.length_eq]
    omega
  | false =>
    simp only [Bool.false_eq_true, if_false]
    refine yl_tb (Q := fun b => b = false → 2 ≤ n) ?_ fun b hb => ?_
    · cases decide (way = 1) with
      | true =>
        simp only [if_true]
        exact yl_tp fun h => nomatch h
      | false =>
        simp only [Bool.false_eq_true, if_false]
        refine yl_tp fun h => ?_
        have := of_decide_eq_false h
        omega
    · cases b with
      | true =>
        simp only [if_true]
        refine yl_tb (yl_tFm (Q := fun o => o ∈ ords n) (fun o _ => ?_) (fun o ho => yl_tp ho) (by omega)) fun r hr => yl_tp ⟨by have := hr.2; omega, hr.1⟩
        exact yl_tb (Q := fun _ => True) ((yl_pick (by omega) (by omega)).mono fun _ _ => trivial) fun k _ => yl_tp trivial
      | false =>
        simp only [Bool.false_eq_true, if_false]
        refine yl_tb (yl_book (hb rfl) (by omega) (by omega) (by omega)) fun bk hbk => ?_
        obtain ⟨b1, b2, b3⟩ := hbk
        rw [tFm_pure (allKeep bk.2) (fun o => o) (fun o ho => by
          rw [p__law_keeps_all (fun x hx => by rw [ords_len hn ho]; exact b3 x hx) (by omega), tb_tp]) (fun _ _ _ => rfl) (by omega), tb_tp, List.map_id']
        have fl : ((ords n).filter (allKeep bk.2)).length ≤ 75 := Nat.le_trans (List.length_filter_le _ _) hm
        refine yl_tb (Q := fun b => b = true → (ords n).filter (allKeep bk.2) ≠ []) ?_ fun b hb => ?_
        · cases decide (way = 3) with
          | false =>
            simp only [Bool.false_eq_true, if_false]
            exact yl_tp fun h => nomatch h
          | true =>
            simp only [if_true]
            rw [tg_sz (by simp), tb_tp]
            refine yl_tp fun h e => ?_
            rw [e] at h
            simp at h
        · refine yl_tb (Q := fun _ => True) ?_ fun gone _ => ?_
          · cases b with
            | true =>
              simp only [if_true]
              exact yl_tb (yl_of (hb rfl) (by omega)) fun x _ => yl_tp trivial
            | false =>
              simp only [Bool.false_eq_true, if_false]
              exact yl_tp trivial
          · rw [tFm_pure (fun o => !decide (some o = gone)) (fun o => o) (fun o _ => rfl) (fun _ _ _ => rfl) (by omega), tb_tp, List.map_id']
            exact yl_tp ⟨Nat.le_trans (List.length_filter_le _ _) fl, fun o ho => (List.mem_filter.mp (List.mem_filter.mp ho).1).1⟩
/-! what is shown -/
theorem okD_ord {o : List Int} (h : ∀ i ∈ o, 0 ≤ i ∧ i < 16) : okD (eT eI o) = true := okDs_map fun i hi => by
  have := h i hi
  show (decide (-999999999999 ≤ i) && decide (i ≤ 999999999999)) = true
  rw [decide_eq_true (by omega), decide_eq_true (by omega)]
  rfl
theorem szD_ord {n : Int} (hn : Sml n) {o : List Int} (ho : o ∈ ords n) : szD (eT eI o) ≤ 63 := by
  have h1 := ords_len hn ho
  have h2 := sml5 hn
  show szDs (o.map eI) + 3 ≤ _
  have := szDs_map (e := eI) (B := 13) (l := o) fun x _ => Nat.le_refl _
  omega
theorem pr_set {n : Int} (hn : Sml n) {os : List (List Int)} (h : ∀ o ∈ os, o ∈ ords n) (hl : os.length ≤ 100) : Pr (eT (eT eI) os) :=
  prT (B := 63) (by decide) (fun o ho => okD_ord (ords_sml hn (h o ho))) (fun o ho => szD_ord hn (h o ho)) (by omega)
def smlP (p : Int × Int) : Prop := 0 ≤ p.1 ∧ p.1 < 16 ∧ 0 ≤ p.2 ∧ p.2 < 16
theorem okD_pair {p : Int × Int} (h : smlP p) : okD (eP eI eI p) = true := by
  obtain ⟨h1, h2, h3, h4⟩ := h
  show ((decide (-999999999999 ≤ p.1) && decide (p.1 ≤ 999999999999)) && ((decide (-999999999999 ≤ p.2) && decide (p.2 ≤ 999999999999)) && true)) = true
  rw [decide_eq_true (by omega), decide_eq_true (by omega), decide_eq_true (by omega), decide_eq_true (by omega)]
  rfl
theorem szD_pair (p : Int × Int) : szD (eP eI eI p) = 33 := rfl
theorem tie_sml {n : Int} (hn : Sml n) {p : Int × Int} (h : Tie n p) : smlP p := by
  have := sml5 hn
  obtain ⟨h1, h2, h3⟩ := h
  exact ⟨h1, by omega, by omega, by omega⟩
theorem hed_sml {n : Int} (hn : Sml n) {p : Int × Int} (h : Hed n p) : smlP p := by
  have := sml5 hn
  obtain ⟨h1, h2, h3, h4, _⟩ := h
  exact ⟨h1, by omega, h3, by omega⟩
abbrev eSay : Say → D := eP (eT (eP eI eI)) (eO (eP eI eI))
theorem okD_say {n : Int} (hn : Sml n) {x : Say} (h : SayOk n x) : okD (eSay x) = true := by
  show (okDs (x.1.map (eP eI eI)) && (okD (eO (eP eI eI) x.2) && true)) = true
  rw [okDs_map fun p hp => okD_pair (tie_sml hn (h.tie p hp))]
  cases hx : x.2 with
  | none => rfl
  | some p =>
    show (true && (okD (eP eI eI p) && true)) = true
    rw [okD_pair (hed_sml hn (h.hed p hx))]
    rfl
theorem szD_say {x : Say} (h : x.1.length ≤ 16) : szD (eSay x) ≤ 1000 := by
  show (szDs (x.1.map (eP eI eI)) + 3) + 2 + (szD (eO (eP eI eI) x.2) + 2 + 0) + 3 ≤ _
  have h1 := szDs_map (e := eP eI eI) (B := 33) (l := x.1) fun p _ => Nat.le_refl _
  have h2 : szD (eO (eP eI eI) x.2) ≤ 33 := by
    cases x.2 with
    | none => decide
    | some p => exact Nat.le_refl _
  omega
theorem pr_book {n : Int} (hn : Sml n) {xs : List Say} (h : ∀ x ∈ xs, SayOk n x ∧ x.1.length ≤ 16) (hl : xs.length ≤ 1000) : Pr (eP eI (eT eSay) (n, xs)) := by
  have h4 := sml5 hn
  have h0 := sml0 hn
  refine pr_seq ?_ ?_ (Nat.le_trans (EqOk.dep (e := eP eI (eT eSay)) (n, xs)) (by decide)) (.inl ⟨_, rfl⟩)
  · show ((decide (-999999999999 ≤ n) && decide (n ≤ 999999999999)) && (okDs (xs.map eSay) && true)) = true
    rw [decide_eq_true (by omega), decide_eq_true (by omega), okDs_map fun x hx => okD_say hn (h x hx).1]
    rfl
  · show 13 + 2 + ((szDs (xs.map eSay) + 3) + 2 + 0) + 3 ≤ _
    have := szDs_map (e := eSay) (B := 1000) (l := xs) fun x hx => szD_say (h x hx).2
    omega
/-! what a told book says -/
def tiesOkB (n : Int) : Bool := (ords n).all fun o => ascP (tiesOf o) && decide ((tiesOf o).length ≤ 16)
theorem ties_okB {n : Int} (h : Sml n) : tiesOkB n = true := by
  rcases h with rfl | rfl | rfl | rfl | rfl
  · kernel_rfl
  · kernel_rfl
  · kernel_rfl
  · kernel_rfl
  · kernel_rfl
theorem ref_ok {n : Int} (hn : Sml n) {os : List (List Int)} {o : List Int} {x : Say} (ho : o ∈ ords n) (h : refOf os o = some x) : SayOk n x ∧ ascP x.1 = true ∧ x.1.length ≤ 16 := by
  have hl := ords_len hn ho
  have ht := ties_okB hn
  unfold tiesOkB at ht
  rw [List.all_eq_true] at ht
  have ht := ht o ho
  rw [Bool.and_eq_true] at ht
  have h16 := of_decide_eq_true ht.2
  obtain ⟨h1, h2⟩ := ref_cases h
  refine ⟨⟨by rw [h1]; omega, fun p hp => ?_, fun p hp => ?_⟩, by rw [h1]; exact ht.1, by rw [h1]; exact h16⟩
  · rw [h1] at hp
    rw [← hl]
    exact (mem_ties.mp hp).1
  · rcases h2 with ⟨_, h2⟩ | ⟨q, hq, h2⟩
    · rw [h2] at hp
      cases hp
    · rw [h2] at hp
      cases hp
      obtain ⟨⟨q1, q2, q3, q4⟩, q5⟩ := mem_wanted.mp (head_some hq).1
      refine ⟨q1, by omega, q3, by omega, fun e => ?_⟩
      rw [e] at q5
      omega
theorem yl_forX {α r : Type} {f : α → Unit → M Src (Fw Unit r)} : ∀ (l : List α), (∀ x ∈ l, Yl (f x ()) (fun w => w = .nx ())) → Yl (tForX f l ()) (fun w => w = .nx ())
  | [], _ => yl_tp rfl
  | x :: l, h => by
    unfold tForX tbX
    refine yl_tb (h x List.mem_cons_self) fun w hw => ?_
    subst hw
    exact yl_forX l fun y hy => h y (List.mem_cons_of_mem _ hy)
theorem pick7 {i : Int} (h0 : 0 ≤ i) (h1 : i < 7) : ∃ n, atI [0, 1, 2, 3, 3, 4, 4] i = some n ∧ Sml n := by
  have : i = 0 ∨ i = 1 ∨ i = 2 ∨ i = 3 ∨ i = 4 ∨ i = 5 ∨ i = 6 := by omega
  rcases this with rfl | rfl | rfl | rfl | rfl | rfl | rfl
  · exact ⟨0, rfl, .inl rfl⟩
  · exact ⟨1, rfl, .inr (.inl rfl)⟩
  · exact ⟨2, rfl, .inr (.inr (.inl rfl))⟩
  · exact ⟨3, rfl, .inr (.inr (.inr (.inl rfl)))⟩
  · exact ⟨3, rfl, .inr (.inr (.inr (.inl rfl)))⟩
  · exact ⟨4, rfl, .inr (.inr (.inr (.inr rfl)))⟩
  · exact ⟨4, rfl, .inr (.inr (.inr (.inr rfl)))⟩
theorem repr_ne' {α : Type} {d : D} (h : Pr d) {K : Bool → M Src α} : (tb (to (reprT d)) fun x => tb (to (reprT d)) fun y => tb (tg (PyData.strOk x && PyData.strOk y) (!(x == y))) K) = K false := by
  obtain ⟨x, e, h1⟩ := h
  rw [e, to_some, tb_tp, tb_tp, h1, Bool.and_true, tg_true, tb_tp]
  simp
theorem p_said2 {n : Int} {xs : List Say} (hn : Sml n) (h : ∀ x ∈ xs, SayOk n x) (hl : xs.length ≤ 100000) : t_said (n, xs) = tp ((ords n).filter (allKeep xs)) := by
  have hm := ords_many hn
  unfold t_said
  simp only [tb_tp]
  rw [p_check (sml5 hn), tb_tp, p_orders hn, tb_tp]
  rw [tFm_pure (allKeep xs) (fun o => o) (fun o ho => by
    rw [p_first (fun x hx => by rw [ords_len hn ho]; exact h x hx), tb_tp, enum_none]) (fun _ _ _ => rfl) (by omega), tb_tp, List.map_id']
theorem yl_law : Yl t_law (fun b => b = true) := by
  unfold t_law tbB
  simp only [tb_tp, tb_assoc]
  rw [tg_62 (by decide) (by decide), tb_tp]
  refine yl_tb (yl_forX _ fun i hi => ?_) fun w hw => ?_
  · rw [mem_ivl] at hi
    obtain ⟨n, en, hn⟩ := pick7 (i := i) (by omega) (by omega)
    rw [tg_sz (by simp), tb_tp, en, to_some, tb_tp]
    refine yl_tb (yl_draw_set hn) fun os hos => ?_
    have hs := hos.ok hn
    have hm := ords_many hn
    have h4 := sml5 hn
    have h0 := sml0 hn
    obtain ⟨pb, lb⟩ := p_book_of hn hs
    obtain ⟨rs, ers, ors⟩ := pr_set hn hos.sub (by have := hos.len; omega)
    rw [pb]
    simp only [tb_tp]
    rw [ers]
    simp only [to_some, tb_tp]
    rw [tg_lay, tb_tp, show PyData.isTuple (eP eI (eT (eP (eT (eP eI eI)) (eO (eP eI eI)))) (n, bookP n os)) = true from rfl]
    simp only [Bool.not_true, tb_tp, Bool.false_eq_true, if_false, decide_true, tb_assoc]
    rw [repr_ne' (pr_int (i := n) (by omega))]
    simp only [Bool.false_eq_true, if_false]
    rw [tg_lay, tb_tp, show PyData.isTuple (eT (eP (eT (eP eI eI)) (eO (eP eI eI))) (bookP n os)) = true from rfl]
    simp only [Bool.not_true, tb_tp, Bool.false_eq_true, if_false]
    have say : ∀ x ∈ bookP n os, SayOk n x ∧ ascP x.1 = true ∧ x.1.length ≤ 16 := fun x hx => by
      obtain ⟨o, ho, hr⟩ := mem_book.mp hx
      exact ref_ok hn ho hr
    rw [tFm_pure (fun _ => false) (fun x => x) (fun x hx => by
      rw [p__law_is_saying (say x hx).1 (say x hx).2.1, tb_tp]
      rfl) (fun _ _ _ => rfl) (by omega), tb_tp, tg_sz (by simp), tb_tp]
    rw [show ((bookP n os).filter fun _ => false).map (fun x => x) = [] by simp]
    rw [ors]
    simp only [decide_true, Bool.not_true, Bool.false_eq_true, if_false, Bool.and_self, tg_true, beq_self_eq_true, tb_tp]
    rw [p__law_hull hn hs, tb_tp, p__law_orders hn, tb_tp]
    rw [tFm_pure (allKeep (bookP n os)) (fun o => o) (fun o ho => by
      rw [p__law_keeps_all (fun x hx => by rw [ords_len hn ho]; exact (say x hx).1) (by omega), tb_tp]) (fun _ _ _ => rfl) (by omega), tb_tp, List.map_id']
    have eh : (ords n).filter (allKeep (bookP n os)) = (ords n).filter fun o => (refOf os o).isNone := List.filter_congr fun o ho => book_says hn ho
    rw [eh]
    simp only [decide_true, Bool.not_true, Bool.false_eq_true, if_false]
    rw [p_said hn ⟨rfl, by show (bookP n os).length ≤ _; omega, fun x hx => (say x hx).1⟩, tb_tp]
    show Yl (tb (to (reprT (eT (eT eI) ((ords n).filter (allKeep (bookP n os)))))) _) _
    rw [eh]
    rw [repr_ne' (pr_set hn (fun o ho => (List.mem_filter.mp ho).1) (Nat.le_trans (List.length_filter_le _ _) (by omega)))]
    simp only [Bool.false_eq_true, if_false, tb_assoc]
    rw [repr_ne' (pr_book hn (fun x hx => ⟨(say x hx).1, (say x hx).2.2⟩) (by omega))]
    simp only [Bool.false_eq_true, if_false]
    -- the drawn book
    have hn2 : Sml (if n > 2 then n else 2) := by
      split
      · exact hn
      · exact .inr (.inr (.inl rfl))
    have h42 := sml5 hn2
    have h22 : 2 ≤ (if n > 2 then n else 2) := by split <;> omega
    generalize (if n > 2 then n else 2) = m at hn2 h42 h22
    have hm2 := ords_many hn2
    refine yl_tb (yl_book h22 (by omega) (by omega) (by omega)) fun bk hbk => ?_
    obtain ⟨b1, b2, b3⟩ := hbk
    rw [b1]
    refine yl_tb (yl_saying h22 (by omega) (by omega) (by omega)) fun x hx => ?_
    rw [tg_sz (by simp), tb_tp, tg_sz (by rw [List.length_singleton]; omega), tb_tp]
    have hall : ∀ y ∈ bk.2 ++ [x], SayOk m y := fun y hy => by
      rcases List.mem_append.mp hy with q | q
      · exact b3 y q
      · rw [List.mem_singleton] at q
        exact q ▸ hx
    have hlen : (bk.2 ++ [x]).length ≤ 10001 := by
      rw [List.length_append, List.length_singleton]
      omega
    generalize bk.2 ++ [x] = xs at hall hlen
    rw [p__law_orders hn2, tb_tp]
    rw [tFm_pure (allKeep xs) (fun o => o) (fun o ho => by
      rw [p__law_keeps_all (fun x hx => by rw [ords_len hn2 ho]; exact hall x hx) (by omega), tb_tp]) (fun _ _ _ => rfl) (by omega), tb_tp, List.map_id']
    rw [p_said2 hn2 hall (by omega), tb_tp]
    rw [repr_ne' (pr_set hn2 (fun o ho => (List.mem_filter.mp ho).1) (Nat.le_trans (List.length_filter_le _ _) (by omega)))]
    simp only [Bool.false_eq_true, if_false]
    have hs2 : SetOk m ((ords m).filter (allKeep xs)) := ⟨Nat.le_trans (List.length_filter_le _ _) (by omega), fun o ho => ords_len hn2 (List.mem_filter.mp ho).1⟩
    rw [p_passes hn2 hs2, show ((ords m).filter fun o => (refOf ((ords m).filter (allKeep xs)) o).isNone) = (ords m).filter (allKeep xs) from List.filter_congr fun o ho => said_passes hn2 hall ho]
    simp only [decide_true, tb_tp, Bool.not_true, Bool.false_eq_true, if_false]
    exact yl_tp rfl
  · subst hw
    simp only
    refine yl_of_eq (x := true) ?_ rfl
    funext s
    kernel_rfl
theorem plain (ns : List Int) (h : ns.length ≤ 63) : ∃ ρ s, b_law (lawF N_law.length) (srcOf ns) = .rt (.val (.bool true)) ρ s := by
  obtain ⟨b, s', e, _, rfl⟩ := yl_law (srcOf ns) (by
    show ((ns.map absI).reverse).length ≤ 63
    rw [List.length_reverse, List.length_map]
    exact h)
  have hv := v_law (srcOf ns)
  rw [e] at hv
  obtain ⟨ρ', o, h1, h2⟩ := hv
  refine ⟨ρ', s', ?_⟩
  have e2 : o = .val (.bool true) := by
    unfold retO at h2
    split at h2
    · split at h2 <;> cases h2
    · exact h2
  rw [← e2]
  exact h1
end Dz

set_option Elab.async false
set_option linter.all false
set_option maxRecDepth 100000
set_option maxHeartbeats 0
namespace Dz
open PySem PySem.Spec PyProof.Rows L2 Dy
/-! ### the head -/
open PySem.W (Hook)
abbrev s__law_source : Stmt := s_source
def e_keeps : He.DefD := ⟨("keeps", none), "keeps", "keeps", defArgs s_keeps, defBody s_keeps, defScope s_keeps, [], []⟩
def e_first_broken : He.DefD := ⟨("first_broken", none), "first_broken", "first_broken", defArgs s_first_broken, defBody s_first_broken, defScope s_first_broken, [], []⟩
def e_spreads : He.DefD := ⟨("spreads", none), "spreads", "spreads", defArgs s_spreads, defBody s_spreads, defScope s_spreads, [], []⟩
def e_orders : He.DefD := ⟨("orders", none), "orders", "orders", defArgs s_orders, defBody s_orders, defScope s_orders, [], []⟩
def e_ties_of : He.DefD := ⟨("ties_of", none), "ties_of", "ties_of", defArgs s_ties_of, defBody s_ties_of, defScope s_ties_of, [], []⟩
def e_tied_ones : He.DefD := ⟨("tied_ones", none), "tied_ones", "tied_ones", defArgs s_tied_ones, defBody s_tied_ones, defScope s_tied_ones, [], []⟩
def e_wanted : He.DefD := ⟨("wanted", none), "wanted", "wanted", defArgs s_wanted, defBody s_wanted, defScope s_wanted, [], []⟩
def e_check_size : He.DefD := ⟨("check_size", none), "check_size", "check_size", defArgs s_check_size, defBody s_check_size, defScope s_check_size, [], []⟩
def e_refusing : He.DefD := ⟨("refusing", none), "refusing", "refusing", defArgs s_refusing, defBody s_refusing, defScope s_refusing, [], []⟩
def e_hull : He.DefD := ⟨("hull", none), "hull", "hull", defArgs s_hull, defBody s_hull, defScope s_hull, [], []⟩
def e_passes : He.DefD := ⟨("passes", none), "passes", "passes", defArgs s_passes, defBody s_passes, defScope s_passes, [], []⟩
def e_book_of : He.DefD := ⟨("book_of", none), "book_of", "book_of", defArgs s_book_of, defBody s_book_of, defScope s_book_of, [], []⟩
def e_said : He.DefD := ⟨("said", none), "said", "said", defArgs s_said, defBody s_said, defScope s_said, [], []⟩
def e__law_pick : He.DefD := ⟨("_law_pick", none), "_law_pick", "_law_pick", defArgs s__law_pick, defBody s__law_pick, defScope s__law_pick, [], []⟩
def e__law_orders : He.DefD := ⟨("_law_orders", none), "_law_orders", "_law_orders", defArgs s__law_orders, defBody s__law_orders, defScope s__law_orders, [], []⟩
def e__law_mixed : He.DefD := ⟨("_law_mixed", none), "_law_mixed", "_law_mixed", defArgs s__law_mixed, defBody s__law_mixed, defScope s__law_mixed, [], []⟩
def e__law_of : He.DefD := ⟨("_law_of", none), "_law_of", "_law_of", defArgs s__law_of, defBody s__law_of, defScope s__law_of, [], []⟩
def e__law_draw_placing : He.DefD := ⟨("_law_draw_placing", none), "_law_draw_placing", "_law_draw_placing", defArgs s__law_draw_placing, defBody s__law_draw_placing, defScope s__law_draw_placing, [], []⟩
def e__law_draw_saying : He.DefD := ⟨("_law_draw_saying", none), "_law_draw_saying", "_law_draw_saying", defArgs s__law_draw_saying, defBody s__law_draw_saying, defScope s__law_draw_saying, [], []⟩
def e__law_keeps : He.DefD := ⟨("_law_keeps", none), "_law_keeps", "_law_keeps", defArgs s__law_keeps, defBody s__law_keeps, defScope s__law_keeps, [], []⟩
def e__law_draw_book : He.DefD := ⟨("_law_draw_book", none), "_law_draw_book", "_law_draw_book", defArgs s__law_draw_book, defBody s__law_draw_book, defScope s__law_draw_book, [], []⟩
def e__law_keeps_all : He.DefD := ⟨("_law_keeps_all", none), "_law_keeps_all", "_law_keeps_all", defArgs s__law_keeps_all, defBody s__law_keeps_all, defScope s__law_keeps_all, [], []⟩
def e__law_draw_set : He.DefD := ⟨("_law_draw_set", none), "_law_draw_set", "_law_draw_set", defArgs s__law_draw_set, defBody s__law_draw_set, defScope s__law_draw_set, [], []⟩
def e__law_is_integers : He.DefD := ⟨("_law_is_integers", none), "_law_is_integers", "_law_is_integers", defArgs s__law_is_integers, defBody s__law_is_integers, defScope s__law_is_integers, [], []⟩
def e__law_row_numbers : He.DefD := ⟨("_law_row_numbers", none), "_law_row_numbers", "_law_row_numbers", defArgs s__law_row_numbers, defBody s__law_row_numbers, defScope s__law_row_numbers, [], []⟩
def e__law_is_saying : He.DefD := ⟨("_law_is_saying", none), "_law_is_saying", "_law_is_saying", defArgs s__law_is_saying, defBody s__law_is_saying, defScope s__law_is_saying, [], []⟩
def e__law_ties_of : He.DefD := ⟨("_law_ties_of", none), "_law_ties_of", "_law_ties_of", defArgs s__law_ties_of, defBody s__law_ties_of, defScope s__law_ties_of, [], []⟩
def e__law_near : He.DefD := ⟨("_law_near", none), "_law_near", "_law_near", defArgs s__law_near, defBody s__law_near, defScope s__law_near, [], []⟩
def e__law_earlier : He.DefD := ⟨("_law_earlier", none), "_law_earlier", "_law_earlier", defArgs s__law_earlier, defBody s__law_earlier, defScope s__law_earlier, [], []⟩
def e__law_is_refused : He.DefD := ⟨("_law_is_refused", none), "_law_is_refused", "_law_is_refused", defArgs s__law_is_refused, defBody s__law_is_refused, defScope s__law_is_refused, [], []⟩
def e__law_hull : He.DefD := ⟨("_law_hull", none), "_law_hull", "_law_hull", defArgs s__law_hull, defBody s__law_hull, defScope s__law_hull, [], []⟩
def e__law_source : He.DefD := ⟨("_law_source", none), "_law_source", "_law_source", defArgs s__law_source, defBody s__law_source, defScope s__law_source, [], []⟩
def e_law : He.DefD := ⟨("law", none), "law", "law", defArgs s_law, defBody s_law, defScope s_law, [], []⟩
def fns0 : List He.DefD := [e_keeps, e_first_broken, e_spreads, e_orders, e_ties_of, e_tied_ones, e_wanted, e_check_size, e_refusing, e_hull, e_passes, e_book_of, e_said, e__law_pick, e__law_orders, e__law_mixed, e__law_of, e__law_draw_placing, e__law_draw_saying, e__law_keeps]
def fns1 : List He.DefD := [e__law_draw_book, e__law_keeps_all, e__law_draw_set, e__law_is_integers, e__law_row_numbers, e__law_is_saying, e__law_ties_of, e__law_near, e__law_earlier, e__law_is_refused, e__law_hull, e__law_source, e_law]
def fns : List He.DefD := fns0 ++ fns1
def fas0 : List He.Fa := [.glo "keeps", .glo "first_broken", .glo "spreads", .glo "orders", .glo "ties_of", .glo "tied_ones", .glo "wanted", .glo "check_size", .glo "refusing", .glo "hull", .glo "passes", .glo "book_of", .glo "said", .glo "_law_pick", .glo "_law_orders", .glo "_law_mixed", .glo "_law_of", .glo "_law_draw_placing", .glo "_law_draw_saying", .glo "_law_keeps"]
def fas1 : List He.Fa := [.glo "_law_draw_book", .glo "_law_keeps_all", .glo "_law_draw_set", .glo "_law_is_integers", .glo "_law_row_numbers", .glo "_law_is_saying", .glo "_law_ties_of", .glo "_law_near", .glo "_law_earlier", .glo "_law_is_refused", .glo "_law_hull", .glo "_law_source", .glo "law", .free "abs", .free "all", .free "any", .free "bool", .free "enumerate", .free "int", .free "isinstance"]
def fas2 : List He.Fa := [.free "len", .free "list", .free "max", .free "range", .free "repr", .free "set", .free "sorted", .free "tuple", .free "zip"]
def fas : List He.Fa := fas0 ++ fas1 ++ fas2
def loose0 : List PySem.Str := ["OrderError", "TooGreat", "keeps", "first_broken", "spreads", "orders", "check_size", "ties_of", "tied_ones", "wanted", "refusing", "hull", "passes", "book_of", "said", "_law_source", "_law_pick", "_law_orders", "_law_mixed", "_law_of"]
def loose1 : List PySem.Str := ["_law_draw_placing", "_law_draw_saying", "_law_keeps", "_law_draw_book", "_law_keeps_all", "_law_draw_set", "_law_is_integers", "_law_row_numbers", "_law_is_saying", "_law_ties_of", "_law_near", "_law_earlier", "_law_is_refused", "_law_hull"]
def loose : List PySem.Str := loose0 ++ loose1
abbrev R : PySem.W.OpenRow := PySem.W.OpenLaw.row PySem.Challenge.rw_soonerornot_k64_whole_books_of_sets
abbrev hk : PySem.W.Hook := He.hookD 4 fas fns
def ob (s : PySem.W.SharedT) : He.AlD := He.obsDG 4 fas fns (HandSHeadRun.getT s)
theorem ob_eq (s : PySem.W.SharedT) : ob s = hk.obs s.abs := He.obsDG_eq (HandSHeadRun.getT_eq s)
theorem run (w : World) : HandSHeadRun.RunEq R (PySem.W.view R.prog [39]) hk ob 4000 loose w := by
  intro os
  kernel_rfl
theorem facts {P : Program} {w : World} {K : PySem.W.Frag} {h : Heap} {mg : Str → Option Value} {f : Addr} (X : K.In h) (G : h.Ns mainGlobals mg) (hfa : mg ("law" : Str) = some (.ref f)) (c : He.SaysD fas fns K) :
    ∃ fd : FuncData, (∀ (s : Shared) (v : Value), BindsTo s fd ⟨[v], []⟩ [("script", v)]) ∧ ∀ base : Heap, K.In base → base.Ns mainGlobals mg → FnG P w K mg base (L2.CX P w) 6 f fd ["script"] (spLawD K srcOf N_law.length b_law) := by
  have z_abs := He.free_ok X G (c.fact 33 (f := .free "abs") rfl)
  have z_all := He.free_ok X G (c.fact 34 (f := .free "all") rfl)
  have z_any := He.free_ok X G (c.fact 35 (f := .free "any") rfl)
  have z_bool := He.free_ok X G (c.fact 36 (f := .free "bool") rfl)
  have z_enumerate := He.free_ok X G (c.fact 37 (f := .free "enumerate") rfl)
  have z_int := He.free_ok X G (c.fact 38 (f := .free "int") rfl)
  have z_isinstance := He.free_ok X G (c.fact 39 (f := .free "isinstance") rfl)
  have z_len := He.free_ok X G (c.fact 40 (f := .free "len") rfl)
  have z_list := He.free_ok X G (c.fact 41 (f := .free "list") rfl)
  have z_max := He.free_ok X G (c.fact 42 (f := .free "max") rfl)
  have z_range := He.free_ok X G (c.fact 43 (f := .free "range") rfl)
  have z_repr := He.free_ok X G (c.fact 44 (f := .free "repr") rfl)
  have z_set := He.free_ok X G (c.fact 45 (f := .free "set") rfl)
  have z_sorted := He.free_ok X G (c.fact 46 (f := .free "sorted") rfl)
  have z_tuple := He.free_ok X G (c.fact 47 (f := .free "tuple") rfl)
  have z_zip := He.free_ok X G (c.fact 48 (f := .free "zip") rfl)
  have z : Zs mg := { z_abs := z_abs, z_all := z_all, z_any := z_any, z_bool := z_bool, z_enumerate := z_enumerate, z_int := z_int, z_isinstance := z_isinstance, z_len := z_len, z_list := z_list, z_max := z_max, z_range := z_range, z_repr := z_repr, z_set := z_set, z_sorted := z_sorted, z_tuple := z_tuple, z_zip := z_zip }
  obtain ⟨fd_keeps, D_keeps⟩ := c.def_ 0 (d := e_keeps) rfl
  have g_keeps := He.glo_ok X G (c.fact 0 (f := .glo "keeps") rfl)
  obtain ⟨fd_first_broken, D_first_broken⟩ := c.def_ 1 (d := e_first_broken) rfl
  have g_first_broken := He.glo_ok X G (c.fact 1 (f := .glo "first_broken") rfl)
  obtain ⟨fd_spreads, D_spreads⟩ := c.def_ 2 (d := e_spreads) rfl
  have g_spreads := He.glo_ok X G (c.fact 2 (f := .glo "spreads") rfl)
  obtain ⟨fd_orders, D_orders⟩ := c.def_ 3 (d := e_orders) rfl
  have g_orders := He.glo_ok X G (c.fact 3 (f := .glo "orders") rfl)
  obtain ⟨fd_ties_of, D_ties_of⟩ := c.def_ 4 (d := e_ties_of) rfl
  have g_ties_of := He.glo_ok X G (c.fact 4 (f := .glo "ties_of") rfl)
  obtain ⟨fd_tied_ones, D_tied_ones⟩ := c.def_ 5 (d := e_tied_ones) rfl
  have g_tied_ones := He.glo_ok X G (c.fact 5 (f := .glo "tied_ones") rfl)
  obtain ⟨fd_wanted, D_wanted⟩ := c.def_ 6 (d := e_wanted) rfl
  have g_wanted := He.glo_ok X G (c.fact 6 (f := .glo "wanted") rfl)
  obtain ⟨fd_check_size, D_check_size⟩ := c.def_ 7 (d := e_check_size) rfl
  have g_check_size := He.glo_ok X G (c.fact 7 (f := .glo "check_size") rfl)
  obtain ⟨fd_refusing, D_refusing⟩ := c.def_ 8 (d := e_refusing) rfl
  have g_refusing := He.glo_ok X G (c.fact 8 (f := .glo "refusing") rfl)
  obtain ⟨fd_hull, D_hull⟩ := c.def_ 9 (d := e_hull) rfl
  have g_hull := He.glo_ok X G (c.fact 9 (f := .glo "hull") rfl)
  obtain ⟨fd_passes, D_passes⟩ := c.def_ 10 (d := e_passes) rfl
  have g_passes := He.glo_ok X G (c.fact 10 (f := .glo "passes") rfl)
  obtain ⟨fd_book_of, D_book_of⟩ := c.def_ 11 (d := e_book_of) rfl
  have g_book_of := He.glo_ok X G (c.fact 11 (f := .glo "book_of") rfl)
  obtain ⟨fd_said, D_said⟩ := c.def_ 12 (d := e_said) rfl
  have g_said := He.glo_ok X G (c.fact 12 (f := .glo "said") rfl)
  obtain ⟨fd__law_pick, D__law_pick⟩ := c.def_ 13 (d := e__law_pick) rfl
  have g__law_pick := He.glo_ok X G (c.fact 13 (f := .glo "_law_pick") rfl)
  obtain ⟨fd__law_orders, D__law_orders⟩ := c.def_ 14 (d := e__law_orders) rfl
  have g__law_orders := He.glo_ok X G (c.fact 14 (f := .glo "_law_orders") rfl)
  obtain ⟨fd__law_mixed, D__law_mixed⟩ := c.def_ 15 (d := e__law_mixed) rfl
  have g__law_mixed := He.glo_ok X G (c.fact 15 (f := .glo "_law_mixed") rfl)
  obtain ⟨fd__law_of, D__law_of⟩ := c.def_ 16 (d := e__law_of) rfl
  have g__law_of := He.glo_ok X G (c.fact 16 (f := .glo "_law_of") rfl)
  obtain ⟨fd__law_draw_placing, D__law_draw_placing⟩ := c.def_ 17 (d := e__law_draw_placing) rfl
  have g__law_draw_placing := He.glo_ok X G (c.fact 17 (f := .glo "_law_draw_placing") rfl)
  obtain ⟨fd__law_draw_saying, D__law_draw_saying⟩ := c.def_ 18 (d := e__law_draw_saying) rfl
  have g__law_draw_saying := He.glo_ok X G (c.fact 18 (f := .glo "_law_draw_saying") rfl)
  obtain ⟨fd__law_keeps, D__law_keeps⟩ := c.def_ 19 (d := e__law_keeps) rfl
  have g__law_keeps := He.glo_ok X G (c.fact 19 (f := .glo "_law_keeps") rfl)
  obtain ⟨fd__law_draw_book, D__law_draw_book⟩ := c.def_ 20 (d := e__law_draw_book) rfl
  have g__law_draw_book := He.glo_ok X G (c.fact 20 (f := .glo "_law_draw_book") rfl)
  obtain ⟨fd__law_keeps_all, D__law_keeps_all⟩ := c.def_ 21 (d := e__law_keeps_all) rfl
  have g__law_keeps_all := He.glo_ok X G (c.fact 21 (f := .glo "_law_keeps_all") rfl)
  obtain ⟨fd__law_draw_set, D__law_draw_set⟩ := c.def_ 22 (d := e__law_draw_set) rfl
  have g__law_draw_set := He.glo_ok X G (c.fact 22 (f := .glo "_law_draw_set") rfl)
  obtain ⟨fd__law_is_integers, D__law_is_integers⟩ := c.def_ 23 (d := e__law_is_integers) rfl
  have g__law_is_integers := He.glo_ok X G (c.fact 23 (f := .glo "_law_is_integers") rfl)
  obtain ⟨fd__law_row_numbers, D__law_row_numbers⟩ := c.def_ 24 (d := e__law_row_numbers) rfl
  have g__law_row_numbers := He.glo_ok X G (c.fact 24 (f := .glo "_law_row_numbers") rfl)
  obtain ⟨fd__law_is_saying, D__law_is_saying⟩ := c.def_ 25 (d := e__law_is_saying) rfl
  have g__law_is_saying := He.glo_ok X G (c.fact 25 (f := .glo "_law_is_saying") rfl)
  obtain ⟨fd__law_ties_of, D__law_ties_of⟩ := c.def_ 26 (d := e__law_ties_of) rfl
  have g__law_ties_of := He.glo_ok X G (c.fact 26 (f := .glo "_law_ties_of") rfl)
  obtain ⟨fd__law_near, D__law_near⟩ := c.def_ 27 (d := e__law_near) rfl
  have g__law_near := He.glo_ok X G (c.fact 27 (f := .glo "_law_near") rfl)
  obtain ⟨fd__law_earlier, D__law_earlier⟩ := c.def_ 28 (d := e__law_earlier) rfl
  have g__law_earlier := He.glo_ok X G (c.fact 28 (f := .glo "_law_earlier") rfl)
  obtain ⟨fd__law_is_refused, D__law_is_refused⟩ := c.def_ 29 (d := e__law_is_refused) rfl
  have g__law_is_refused := He.glo_ok X G (c.fact 29 (f := .glo "_law_is_refused") rfl)
  obtain ⟨fd__law_hull, D__law_hull⟩ := c.def_ 30 (d := e__law_hull) rfl
  have g__law_hull := He.glo_ok X G (c.fact 30 (f := .glo "_law_hull") rfl)
  obtain ⟨fd__law_source, D__law_source⟩ := c.def_ 31 (d := e__law_source) rfl
  have g__law_source := He.glo_ok X G (c.fact 31 (f := .glo "_law_source") rfl)
  obtain ⟨fd_law, D_law⟩ := c.def_ 32 (d := e_law) rfl
  have g_law := He.glo_ok X G (c.fact 32 (f := .glo "law") rfl)
  have e := hfa.symm.trans g_law
  cases e
  refine ⟨fd_law, fun s v => FunD.bindsA (ps := ["script"]) D_law (fun _ _ _ _ _ _ us hl => match us, hl with | [_], _ => rfl) s [v] rfl, fun base hK hns => ?_⟩
  have F_keeps := d_keeps (P := P) (w := w) (base := base) z D_keeps g_keeps 
  have F_first_broken := d_first_broken (P := P) (w := w) (base := base) z D_first_broken g_first_broken F_keeps
  have F_spreads := d_spreads (P := P) (w := w) (base := base) z D_spreads g_spreads 
  have F_orders := d_orders (P := P) (w := w) (base := base) z D_orders g_orders F_spreads
  have F_ties_of := d_ties_of (P := P) (w := w) (base := base) z D_ties_of g_ties_of 
  have F_tied_ones := d_tied_ones (P := P) (w := w) (base := base) z D_tied_ones g_tied_ones 
  have F_wanted := d_wanted (P := P) (w := w) (base := base) z D_wanted g_wanted 
  have F_check_size := d_check_size (P := P) (w := w) (base := base) z D_check_size g_check_size 
  have F_refusing := d_refusing (P := P) (w := w) (base := base) z D_refusing g_refusing F_wanted F_tied_ones F_ties_of F_check_size
  have F_hull := d_hull (P := P) (w := w) (base := base) z D_hull g_hull F_orders F_refusing F_check_size
  have F_passes := d_passes (P := P) (w := w) (base := base) z D_passes g_passes F_hull
  have F_book_of := d_book_of (P := P) (w := w) (base := base) z D_book_of g_book_of F_orders F_refusing F_check_size
  have F_said := d_said (P := P) (w := w) (base := base) z D_said g_said F_orders F_first_broken F_check_size
  have F__law_pick := d__law_pick (P := P) (w := w) (base := base) z D__law_pick g__law_pick 
  have F__law_orders := d__law_orders (P := P) (w := w) (base := base) z D__law_orders g__law_orders 
  have F__law_mixed := d__law_mixed (P := P) (w := w) (base := base) z D__law_mixed g__law_mixed F__law_pick
  have F__law_of := d__law_of (P := P) (w := w) (base := base) z D__law_of g__law_of F__law_pick
  have F__law_draw_placing := d__law_draw_placing (P := P) (w := w) (base := base) z D__law_draw_placing g__law_draw_placing F__law_pick F__law_of
  have F__law_draw_saying := d__law_draw_saying (P := P) (w := w) (base := base) z D__law_draw_saying g__law_draw_saying F__law_pick F__law_of F__law_mixed
  have F__law_keeps := d__law_keeps (P := P) (w := w) (base := base) z D__law_keeps g__law_keeps 
  have F__law_draw_book := d__law_draw_book (P := P) (w := w) (base := base) z D__law_draw_book g__law_draw_book F__law_mixed F__law_pick F__law_keeps F__law_draw_saying F__law_draw_placing
  have F__law_keeps_all := d__law_keeps_all (P := P) (w := w) (base := base) z D__law_keeps_all g__law_keeps_all F__law_keeps
  have F__law_draw_set := d__law_draw_set (P := P) (w := w) (base := base) z D__law_draw_set g__law_draw_set F__law_of F__law_keeps_all F__law_draw_book F__law_pick F__law_mixed F__law_orders
  have F__law_is_integers := d__law_is_integers (P := P) (w := w) (base := base) z D__law_is_integers g__law_is_integers 
  have F__law_row_numbers := d__law_row_numbers (P := P) (w := w) (base := base) z D__law_row_numbers g__law_row_numbers F__law_is_integers
  have F__law_is_saying := d__law_is_saying (P := P) (w := w) (base := base) z D__law_is_saying g__law_is_saying F__law_row_numbers
  have F__law_ties_of := d__law_ties_of (P := P) (w := w) (base := base) z D__law_ties_of g__law_ties_of 
  have F__law_near := d__law_near (P := P) (w := w) (base := base) z D__law_near g__law_near F__law_ties_of
  have F__law_earlier := d__law_earlier (P := P) (w := w) (base := base) z D__law_earlier g__law_earlier 
  have F__law_is_refused := d__law_is_refused (P := P) (w := w) (base := base) z D__law_is_refused g__law_is_refused F__law_earlier F__law_near
  have F__law_hull := d__law_hull (P := P) (w := w) (base := base) z D__law_hull g__law_hull F__law_orders F__law_is_refused
  exact law_ok (j := 1) (k := 5) (st := s_law) (funOf D_law) ⟨rfl, rfl, rfl, by decide +kernel, rfl, by decide +kernel, by decide +kernel⟩ rfl rfl (by decide) rfl (.inl rfl) rfl rfl (ok_source z D__law_source) g__law_source D__law_source.kp (D__law_source.bindsN (ps := ["script"]) fun _ _ _ _ _ _ us hl => match us, hl with | [_], _ => rfl) (by decide) (d_law (P := P) (w := w) (base := base) z F_said F_passes F__law_orders F__law_keeps_all F__law_draw_saying F__law_draw_book F_book_of F__law_hull F__law_is_saying F__law_draw_set)
end Dz
open PySem PySem.W PySem.Calls PyProof.Rows
theorem PySem.Challenge.cw_soonerornot_k64_whole_books_of_sets_holds : PySem.Challenge.rw_soonerornot_k64_whole_books_of_sets.Holds := by
  w_on; o_law
  refine HandSHeadRun.head_any (r := OpenLaw.row PySem.Challenge.rw_soonerornot_k64_whole_books_of_sets) (q := view (OpenLaw.row PySem.Challenge.rw_soonerornot_k64_whole_books_of_sets).prog [39]) (H := Dz.hk) (ob := Dz.ob) (M := 4000) (loose := Dz.loose) (d := HandSHeadRun.topDef (OpenLaw.row PySem.Challenge.rw_soonerornot_k64_whole_books_of_sets).prog 39) (kwd := []) Dz.ob_eq
    (by kernel_rfl) (fun s => by kernel_rfl) Dz.run (by kernel_rfl) (by kernel_rfl) (by kernel_rfl) (by rfl) (by first | assumption | decide +kernel) (by decide +kernel) ⟨rfl, rfl, rfl, rfl, rfl, by decide +kernel⟩ ?hw ?hc
  case hw => w_witness2
  case hc =>
    refine Dy.walk_G (l := PySem.Challenge.rw_soonerornot_k64_whole_books_of_sets) (n := 63) (k := 6) (x := "script") rfl (by decide) (by kernel_rfl) ⟨rfl, by decide, by decide⟩ ?F
    intro w mg fa h Y G hmg0
    obtain ⟨K, KX, c⟩ := Y
    have hmg : mg ("law" : PySem.Str) = some (.ref fa) := by
      have e : (HandSHeadRun.topDef (OpenLaw.row PySem.Challenge.rw_soonerornot_k64_whole_books_of_sets).prog 39).name = ("law" : PySem.Str) := by kernel_rfl
      rw [← e]
      exact hmg0
    obtain ⟨fd, hb, hF⟩ := Dz.facts (P := (PySem.Challenge.rw_soonerornot_k64_whole_books_of_sets).prog) (w := w) KX G hmg c
    exact ⟨K, fd, _, KX, hb, fun H a ns hl _ hS => ⟨a, ns, rfl, hS, hl, Dz.plain ns hl, fun _ => rfl⟩, hF⟩

