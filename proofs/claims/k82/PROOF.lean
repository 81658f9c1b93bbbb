import PyProof.Rows.All
import Wide.All
import OpenK.AllK
import Wide.FinOn
import HandS.ForMost
import HandS.Wide
import HandS.Conv
import KE.KeyNested
import KE.DataEq
import KE.DataCmp
import KE.LtData
import HandS.TupAny
import HandS.TupMul
import HandS.IsInst
import KE.KxAffix
import HandS.Codes
import HandS.Style
import HandS.Text
import KE.SortData
import HandS.More
import HandS.NoneIn
import KE.GoesNew
import KE.GoesMore
import HandS.Words
import HandS.EndBits
import PyProof.ListStr
import PyProof.CollectStr
import KE.GoesEnumKw
import HandS.SortKw
import HandS.SetFor
import PyProof.ReprRoads
import HandS.Exc
import HandS.Head0
import HandS.Head1
import HandS.Head2
import HandS.HeadEnd
import HandS.HeadHook1
import HandS.HeadHook2
import PyProof.FitsInt
import PyProof.StrLawsRepr
import PySem.Challenge.RW_reelsplice_k82_watches_and_reaches
set_option Elab.async false
set_option linter.all false
set_option maxRecDepth 100000
set_option maxHeartbeats 4000000
/-! DL0: data without a heap, what they stand for in the hand layer's abstract heap, the relation of a run. -/
namespace DL
open PySem PySem.Spec PyProof.Rows L2

/-- data: a text is the list of its code points; a dict has its keys and its values in order (t: its keys are tuples); ref n is the n-th object of the store -/
inductive D where
  | non
  | bl (b : Bool)
  | int (i : Int)
  | str (x : List Nat)
  | tup (ds : List D)
  | lst (ds : List D)
  | dic (t : Bool) (ks vs : List D)
  | ref (n : Nat)
  | scr (ns : List Int)

def strOf (x : List Nat) : Str := ⟨x.toArray⟩
theorem strOf_inj {x y : List Nat} (h : strOf x = strOf y) : x = y := by
  have h1 := congrArg Str.cps h
  have h2 : x.toArray = y.toArray := h1
  simpa using congrArg Array.toList h2
theorem strOf_toList (x : Str) : strOf x.cps.toList = x := by
  cases x; simp [strOf]
theorem strOf_len (x : List Nat) : (strOf x).length = x.length := by
  show (x.toArray).size = x.length
  simp
theorem cps_strOf (x : List Nat) : (strOf x).cps.toList = x := by simp [strOf]

/-- keys of dicts -/
def keyOf : D → Option Key
  | .int i => some (.inl i)
  | .str x => some (.inr (strOf x))
  | _ => none
mutual
def nkey : D → Option NestedKey
  | .non => some .none
  | .bl b => some (.num (if b = true then 1 else 0))
  | .int i => some (.num i)
  | .str x => some (.text (strOf x))
  | .tup ds => (nkeys ds).map .tup
  | .lst _ => none
  | .dic _ _ _ => none
  | .ref _ => none
  | .scr _ => none
def nkeys : List D → Option (List NestedKey)
  | [] => some []
  | d :: ds => (nkey d).bind fun k => (nkeys ds).map fun ks => k :: ks
end
mutual
/-- as the library's data (where there is no dict and no ref) -/
def toPy : D → PyData
  | .non => .none
  | .bl b => .bool b
  | .int i => .int i
  | .str x => .str (strOf x)
  | .tup ds => .tuple (toPys ds)
  | .lst ds => .list (toPys ds)
  | .dic _ _ _ => .none
  | .ref _ => .none
  | .scr _ => .none
def toPys : List D → List PyData
  | [] => []
  | d :: ds => toPy d :: toPys ds
end
mutual
/-- no dict and no ref within -/
def pl : D → Bool
  | .non => true
  | .bl _ => true
  | .int _ => true
  | .str _ => true
  | .tup ds => pls ds
  | .lst ds => pls ds
  | .dic _ _ _ => false
  | .ref _ => false
  | .scr _ => false
def pls : List D → Bool
  | [] => true
  | d :: ds => pl d && pls ds
end
mutual
def dep : D → Nat
  | .tup ds => deps ds + 1
  | .lst ds => deps ds + 1
  | _ => 0
def deps : List D → Nat
  | [] => 0
  | d :: ds => max (dep d) (deps ds)
end
/-- == and < -/
def deq (x y : D) : Bool := PyData.eqv (toPy x) (toPy y)
def dlt (x y : D) : Bool := PySem.W.dataLt (toPy x) (toPy y)

/-- a dict with tuples as keys at a: keys (with their own addresses), values -/
def DTAt (w : World) (a : Addr) (kvs : List (NestedKey × Addr × V)) (h : Heap) : Prop :=
  ∃ o es ep, h.get? a = some o ∧ o.ExactDict ∧ o.data = .dict es ep ∧ (a == sysModules) = false ∧ kvs.length ≤ sizeLine ∧
    Paired (fun (p : NestedKey × Addr × V) (e : DictEntry) => e.hash = p.1.hash w ∧ e.key = .ref p.2.1 ∧ RelV p.2.2 e.val) kvs es.toList
def dT (w : World) (a : Addr) (kvs : List (NestedKey × Addr × V)) : HO := .ext (DTAt w a kvs)

/-- where one stands: the written part, the world -/
structure C where
  K : PySem.W.Frag
  w : World
/-- of a context -/
abbrev cOf (X : Cx) : C := ⟨X.K, X.w⟩

mutual
/-- the value v is the datum d, by the frozen objects F and the store's places io -/
inductive Rep (c : C) (io : List Addr) (F : Hp) : V → D → Prop
  | non : Rep c io F .non .non
  | bl (b : Bool) : Rep c io F (.bl b) (.bl b)
  | int (i : Int) : Rep c io F (.int i) (.int i)
  | str (x : List Nat) : Rep c io F (.str (strOf x)) (.str x)
  | tup {a : Addr} {xs : List V} {ds : List D} : SqT c.K F a xs → Reps c io F xs ds → Rep c io F (.ref a) (.tup ds)
  | lst {a : Addr} {xs : List V} {ds : List D} : F a = some (.lst xs) → Reps c io F xs ds → Rep c io F (.ref a) (.lst ds)
  | scr {a : Addr} {ns : List Int} : SqL c.K F a (ns.map V.int) → Rep c io F (.ref a) (.scr ns)
  | dic {a : Addr} {kvs : List (Key × V)} {ks vs : List D} : F a = some (.dK kvs) → ks.map keyOf = kvs.map (fun p => some p.1) → (kvs.map (·.1)).Nodup → Reps c io F (kvs.map (·.2)) vs → Rep c io F (.ref a) (.dic false ks vs)
  | dit {a : Addr} {kvs : List (NestedKey × Addr × V)} {ks vs : List D} : F a = some (dT c.w a kvs) → ks.map nkey = kvs.map (fun p => some p.1) → (kvs.map (·.1)).Nodup → Reps c io F (kvs.map fun p => .ref p.2.1) ks → Reps c io F (kvs.map fun p => p.2.2) vs → Rep c io F (.ref a) (.dic true ks vs)
  | ref {a : Addr} {n : Nat} : io[n]? = some a → Rep c io F (.ref a) (.ref n)
inductive Reps (c : C) (io : List Addr) (F : Hp) : List V → List D → Prop
  | nil : Reps c io F [] []
  | cons {v : V} {vs : List V} {d : D} {ds : List D} : Rep c io F v d → Reps c io F vs ds → Reps c io F (v :: vs) (d :: ds)
end

def Sub (F F' : Hp) : Prop := ∀ b o, F b = some o → F' b = some o
theorem Sub.refl (F : Hp) : Sub F F := fun _ _ h => h
theorem Sub.trans {F G H : Hp} (a : Sub F G) (b : Sub G H) : Sub F H := fun c o h => b c o (a c o h)
theorem Sub.sqT {K : PySem.W.Frag} {F F' : Hp} {a : Addr} {xs : List V} (e : Sub F F') (h : SqT K F a xs) : SqT K F' a xs := by
  rcases h with (h | ⟨o, h⟩) | h
  · exact .inl (.inl (e _ _ h))
  · exact .inl (.inr ⟨o, e _ _ h⟩)
  · exact .inr h
theorem Sub.sqL {K : PySem.W.Frag} {F F' : Hp} {a : Addr} {xs : List V} (e : Sub F F') (h : SqL K F a xs) : SqL K F' a xs := by
  rcases h with (h | ⟨o, h⟩) | h
  · exact .inl (.inl (e _ _ h))
  · exact .inl (.inr ⟨o, e _ _ h⟩)
  · exact .inr h
theorem Sub.upd {F : Hp} {a : Addr} {o : HO} (h : F a = none) : Sub F (upd F a o) := fun b u e => by
  rw [upd_ne (ne_of_none e h)]; exact e

mutual
theorem Rep.mono {c : C} {io more : List Addr} {F F' : Hp} (s : Sub F F') : ∀ {v : V} {d : D}, Rep c io F v d → Rep c (io ++ more) F' v d
  | _, _, .non => .non
  | _, _, .bl b => .bl b
  | _, _, .int i => .int i
  | _, _, .str x => .str x
  | _, _, .tup h r => .tup (s.sqT h) (Reps.mono s r)
  | _, _, .lst h r => .lst (s _ _ h) (Reps.mono s r)
  | _, _, .scr h => .scr (s.sqL h)
  | _, _, .dic h k n r => .dic (s _ _ h) k n (Reps.mono s r)
  | _, _, .dit h k n r1 r2 => .dit (s _ _ h) k n (Reps.mono s r1) (Reps.mono s r2)
  | _, _, .ref h => .ref (by
      obtain ⟨hl, _⟩ := List.getElem?_eq_some_iff.mp h
      rw [List.getElem?_append_left hl]; exact h)
theorem Reps.mono {c : C} {io more : List Addr} {F F' : Hp} (s : Sub F F') : ∀ {vs : List V} {ds : List D}, Reps c io F vs ds → Reps c (io ++ more) F' vs ds
  | _, _, .nil => .nil
  | _, _, .cons h r => .cons (Rep.mono s h) (Reps.mono s r)
end
theorem Rep.sub {c : C} {io : List Addr} {F F' : Hp} (s : Sub F F') {v : V} {d : D} (r : Rep c io F v d) : Rep c io F' v d := by
  have := Rep.mono (more := []) s r
  rwa [List.append_nil] at this
theorem Reps.sub {c : C} {io : List Addr} {F F' : Hp} (s : Sub F F') {v : List V} {d : List D} (r : Reps c io F v d) : Reps c io F' v d := by
  have := Reps.mono (more := []) s r
  rwa [List.append_nil] at this
theorem Reps.length {c : C} {io : List Addr} {F : Hp} : ∀ {vs : List V} {ds : List D}, Reps c io F vs ds → vs.length = ds.length
  | _, _, .nil => rfl
  | _, _, .cons _ r => by rw [List.length_cons, List.length_cons, Reps.length r]
theorem Reps.get {c : C} {io : List Addr} {F : Hp} : ∀ {vs : List V} {ds : List D}, Reps c io F vs ds → ∀ {i : Nat} {d : D}, ds[i]? = some d → ∃ v, vs[i]? = some v ∧ Rep c io F v d
  | _, _, .nil, _, _, h => by simp at h
  | _, _, .cons r _, 0, _, h => by simp at h; subst h; exact ⟨_, rfl, r⟩
  | _, _, .cons _ t, i + 1, _, h => by
    obtain ⟨v, h1, h2⟩ := Reps.get t (i := i) (by simpa using h)
    exact ⟨v, by simpa using h1, h2⟩
theorem Reps.get' {c : C} {io : List Addr} {F : Hp} : ∀ {vs : List V} {ds : List D}, Reps c io F vs ds → ∀ {i : Nat} {v : V}, vs[i]? = some v → ∃ d, ds[i]? = some d ∧ Rep c io F v d
  | _, _, .nil, _, _, h => by simp at h
  | _, _, .cons r _, 0, _, h => by simp at h; subst h; exact ⟨_, rfl, r⟩
  | _, _, .cons _ t, i + 1, _, h => by
    obtain ⟨v, h1, h2⟩ := Reps.get' t (i := i) (by simpa using h)
    exact ⟨v, by simpa using h1, h2⟩
theorem Reps.append {c : C} {io : List Addr} {F : Hp} : ∀ {vs : List V} {ds : List D} {ws : List V} {es : List D}, Reps c io F vs ds → Reps c io F ws es → Reps c io F (vs ++ ws) (ds ++ es)
  | _, _, _, _, .nil, s => s
  | _, _, _, _, .cons r t, s => .cons r (Reps.append t s)
theorem Reps.take {c : C} {io : List Addr} {F : Hp} : ∀ {vs : List V} {ds : List D} (n : Nat), Reps c io F vs ds → Reps c io F (vs.take n) (ds.take n)
  | _, _, 0, _ => .nil
  | _, _, _ + 1, .nil => .nil
  | _, _, n + 1, .cons r t => .cons r (Reps.take n t)
theorem Reps.drop {c : C} {io : List Addr} {F : Hp} : ∀ {vs : List V} {ds : List D} (n : Nat), Reps c io F vs ds → Reps c io F (vs.drop n) (ds.drop n)
  | _, _, 0, r => r
  | _, _, _ + 1, .nil => .nil
  | _, _, n + 1, .cons r t => Reps.drop n t
theorem Reps.reverse {c : C} {io : List Addr} {F : Hp} {vs : List V} {ds : List D} (r : Reps c io F vs ds) : Reps c io F vs.reverse ds.reverse := by
  induction vs generalizing ds with
  | nil => cases r; exact .nil
  | cons v vs ih =>
    cases r with
    | cons r t =>
      rw [List.reverse_cons, List.reverse_cons]
      exact (ih t).append (.cons r .nil)
theorem Reps.one {c : C} {io : List Addr} {F : Hp} {v : V} {d : D} (r : Rep c io F v d) : Reps c io F [v] [d] := .cons r .nil
theorem Reps.set {c : C} {io : List Addr} {F : Hp} {v : V} {d : D} (r : Rep c io F v d) : ∀ {vs : List V} {ds : List D} (i : Nat), Reps c io F vs ds → Reps c io F (vs.set i v) (ds.set i d)
  | _, _, _, .nil => .nil
  | _, _, 0, .cons _ t => .cons r t
  | _, _, i + 1, .cons q t => .cons q (Reps.set r i t)

/-! ### the store -/
inductive SObj where
  | lst (ds : List D)
  | dic (t : Bool) (ks vs : List D)
  | ins (cls : Nat) (names : List Str) (vals : List D)
abbrev Store := List SObj
/-- the object at a is o -/
inductive SOb (c : C) (io : List Addr) (F H : Hp) (a : Addr) : SObj → Prop
  | lst {xs : List V} {ds : List D} : H a = some (.lst xs) → Reps c io F xs ds → SOb c io F H a (.lst ds)
  | dic {kvs : List (Key × V)} {ks vs : List D} : H a = some (.dK kvs) → ks.map keyOf = kvs.map (fun p => some p.1) → (kvs.map (·.1)).Nodup → Reps c io F (kvs.map (·.2)) vs → SOb c io F H a (.dic false ks vs)
  | dit {kvs : List (NestedKey × Addr × V)} {ks vs : List D} : H a = some (dT c.w a kvs) → ks.map nkey = kvs.map (fun p => some p.1) → (kvs.map (·.1)).Nodup → Reps c io F (kvs.map fun p => .ref p.2.1) ks → Reps c io F (kvs.map fun p => p.2.2) vs → SOb c io F H a (.dic true ks vs)
  | ins {C dx : Addr} {fs : List (Str × V)} {names : List Str} {vals : List D} : H a = some (.ins C dx fs) → fs.map (·.1) = names → Reps c io F (fs.map (·.2)) vals → SOb c io F H a (.ins C names vals)
theorem SOb.some {c : C} {io : List Addr} {F H : Hp} {a : Addr} {o : SObj} (h : SOb c io F H a o) : ∃ u, H a = .some u := by
  cases h <;> exact ⟨_, by assumption⟩
theorem SOb.mono {c : C} {io more : List Addr} {F F' H H' : Hp} {a : Addr} {o : SObj} (h : SOb c io F H a o) (s : Sub F F') (k : ∀ u, H a = .some u → H' a = .some u) : SOb c (io ++ more) F' H' a o := by
  cases h with
  | lst e r => exact .lst (k _ e) (r.mono s)
  | dic e k1 n r => exact .dic (k _ e) k1 n (r.mono s)
  | dit e k1 n r1 r2 => exact .dit (k _ e) k1 n (r1.mono s) (r2.mono s)
  | ins e n r => exact .ins (k _ e) n (r.mono s)

/-- the frozen part F, the store st at the places io, in the abstract heap H -/
structure SRel (c : C) (F : Hp) (io : List Addr) (st : Store) (H : Hp) : Prop where
  sub : ∀ b o, F b = some o → H b = some o
  len : io.length = st.length
  obj : ∀ (n : Nat) (a : Addr) (o : SObj), io[n]? = some a → st[n]? = some o → F a = none ∧ SOb c io F H a o
  nd : io.Nodup

/-- what a run may do: new frozen objects, new objects of the store, changes of the store's own objects -/
structure Grow (F : Hp) (io : List Addr) (H : Hp) (F' : Hp) (io' : List Addr) (H' : Hp) : Prop where
  sub : Sub F F'
  pre : ∃ more, io' = io ++ more
  keep : ∀ b o, H b = some o → b ∉ io → H' b = some o
  there : ∀ b o, H b = some o → ∃ o', H' b = some o'
  newF : ∀ b o, F' b = some o → F b = some o ∨ H b = none
  newI : ∀ b, b ∈ io' → b ∈ io ∨ H b = none
theorem Grow.refl {F H : Hp} {io : List Addr} : Grow F io H F io H := ⟨Sub.refl _, ⟨[], by simp⟩, fun _ _ h _ => h, fun _ o h => ⟨o, h⟩, fun _ _ h => .inl h, fun _ h => .inl h⟩
theorem Grow.back {F F1 H H1 : Hp} {io io1 : List Addr} (a : Grow F io H F1 io1 H1) {x : Addr} (h : H1 x = none) : H x = none := by
  cases q : H x with
  | none => rfl
  | some o =>
    obtain ⟨o', e⟩ := a.there x o q
    rw [h] at e; cases e
theorem Grow.trans {F F1 F2 H H1 H2 : Hp} {io io1 io2 : List Addr} (a : Grow F io H F1 io1 H1) (b : Grow F1 io1 H1 F2 io2 H2) : Grow F io H F2 io2 H2 := by
  obtain ⟨m1, e1⟩ := a.pre
  obtain ⟨m2, e2⟩ := b.pre
  have n1 : ∀ x o, H x = some o → x ∉ io → x ∉ io1 := fun x o h hx hm => by
    rcases a.newI x hm with z | z
    · exact hx z
    · rw [h] at z; cases z
  refine ⟨a.sub.trans b.sub, ⟨m1 ++ m2, by rw [e2, e1, List.append_assoc]⟩, fun x o h hx => b.keep x o (a.keep x o h hx) (n1 x o h hx), fun x o h => ?_, fun x o h => ?_, fun x h => ?_⟩
  · obtain ⟨o', e⟩ := a.there x o h
    exact b.there x o' e
  · rcases b.newF x o h with z | z
    · exact a.newF x o z
    · exact .inr (a.back z)
  · rcases b.newI x h with z | z
    · exact a.newI x z
    · exact .inr (a.back z)

/-- a new object is made and frozen -/
theorem Grow.alloc {F H : Hp} {io : List Addr} {c : C} {st : Store} {p : Addr} {o : HO} (s : SRel c F io st H) (hp : H p = none) : Grow F io H (upd F p o) io (upd H p o) := by
  have hF : F p = none := by
    cases q : F p with
    | none => rfl
    | some u => rw [s.sub p u q] at hp; cases hp
  refine ⟨Sub.upd hF, ⟨[], by simp⟩, fun b u e _ => by rw [upd_ne (ne_of_none e hp)]; exact e, fun b u e => ⟨u, by rw [upd_ne (ne_of_none e hp)]; exact e⟩, fun b u e => ?_, fun b h => .inl h⟩
  by_cases hb : b = p
  · subst hb; exact .inr hp
  · rw [upd_ne hb] at e; exact .inl e
theorem SRel.fresh {F H : Hp} {io : List Addr} {c : C} {st : Store} {p : Addr} (s : SRel c F io st H) (hp : H p = none) : F p = none := by
  cases q : F p with
  | none => rfl
  | some u => rw [s.sub p u q] at hp; cases hp
theorem SRel.there {F H : Hp} {io : List Addr} {c : C} {st : Store} (s : SRel c F io st H) {b : Addr} (hb : b ∈ io) : ∃ o, H b = some o ∧ F b = none := by
  obtain ⟨n, hn⟩ := List.mem_iff_getElem?.mp hb
  obtain ⟨hl, _⟩ := List.getElem?_eq_some_iff.mp hn
  have hl2 : n < st.length := by rw [← s.len]; exact hl
  obtain ⟨h1, h2⟩ := s.obj n b st[n] hn (List.getElem?_eq_getElem hl2)
  obtain ⟨u, hu⟩ := h2.some
  exact ⟨u, hu, h1⟩
theorem SRel.alloc {F H : Hp} {io : List Addr} {c : C} {st : Store} {p : Addr} {o : HO} (s : SRel c F io st H) (hp : H p = none) : SRel c (upd F p o) io st (upd H p o) := by
  have hF := s.fresh hp
  refine ⟨fun b u e => ?_, s.len, fun n a ob h1 h2 => ?_, s.nd⟩
  · by_cases hb : b = p
    · subst hb; rw [upd_same] at e ⊢; exact e
    · rw [upd_ne hb] at e ⊢; exact s.sub b u e
  · obtain ⟨q1, q2⟩ := s.obj n a ob h1 h2
    obtain ⟨u, hu⟩ := q2.some
    have hne : a ≠ p := ne_of_none hu hp
    refine ⟨by rw [upd_ne hne]; exact q1, ?_⟩
    have := q2.mono (more := []) (F' := upd F p o) (H' := upd H p o) (Sub.upd hF) fun u e => by rw [upd_ne hne]; exact e
    rwa [List.append_nil] at this
/-- an object that nobody knows is made (a temporary): tracked, not frozen -/
theorem Grow.temp {F H : Hp} {io : List Addr} {p : Addr} {o : HO} (hp : H p = none) : Grow F io H F io (upd H p o) := by
  refine ⟨Sub.refl _, ⟨[], by simp⟩, fun b u e _ => by rw [upd_ne (ne_of_none e hp)]; exact e, fun b u e => ⟨u, by rw [upd_ne (ne_of_none e hp)]; exact e⟩, fun b u e => .inl e, fun b h => .inl h⟩
theorem SRel.temp {F H : Hp} {io : List Addr} {c : C} {st : Store} {p : Addr} {o : HO} (s : SRel c F io st H) (hp : H p = none) : SRel c F io st (upd H p o) := by
  have hF := s.fresh hp
  refine ⟨fun b u e => ?_, s.len, fun n a ob h1 h2 => ?_, s.nd⟩
  · rw [upd_ne (ne_of_none (s.sub b u e) hp)]; exact s.sub b u e
  · obtain ⟨q1, q2⟩ := s.obj n a ob h1 h2
    obtain ⟨u, hu⟩ := q2.some
    have hne : a ≠ p := ne_of_none hu hp
    refine ⟨q1, ?_⟩
    have := q2.mono (more := []) (F' := F) (H' := upd H p o) (Sub.refl _) fun u e => by rw [upd_ne hne]; exact e
    rwa [List.append_nil] at this
/-- the heap changed outside of what is frozen and of the store -/
theorem SRel.other {F H H' : Hp} {io : List Addr} {c : C} {st : Store} (s : SRel c F io st H) (k : ∀ b o, H b = some o → (∃ u, F b = some u) ∨ b ∈ io → H' b = some o) : SRel c F io st H' := by
  refine ⟨fun b u e => k b u (s.sub b u e) (.inl ⟨u, e⟩), s.len, fun n a ob h1 h2 => ?_, s.nd⟩
  obtain ⟨q1, q2⟩ := s.obj n a ob h1 h2
  refine ⟨q1, ?_⟩
  have := q2.mono (more := []) (F' := F) (H' := H') (Sub.refl _) fun u e => k a u e (.inr (List.mem_of_getElem? h1))
  rwa [List.append_nil] at this

/-! ### slots -/
abbrev Env := List (Option D)
structure ERel (c : C) (io : List Addr) (F : Hp) (env : Env) (σ : L2.St) : Prop where
  len : σ.length = env.length
  slot : ∀ (i : Nat) (d : D), env[i]? = some (some d) → ∃ v, σ[i]? = some (some v) ∧ Rep c io F v d
theorem ERel.grow {c : C} {io io' : List Addr} {F F' H H' : Hp} {env : Env} {σ : L2.St} (e : ERel c io F env σ) (g : Grow F io H F' io' H') : ERel c io' F' env σ := by
  obtain ⟨m, rfl⟩ := g.pre
  exact ⟨e.len, fun i d h => let ⟨v, h1, h2⟩ := e.slot i d h; ⟨v, h1, h2.mono g.sub⟩⟩
theorem Rep.grow {c : C} {io io' : List Addr} {F F' H H' : Hp} {v : V} {d : D} (r : Rep c io F v d) (g : Grow F io H F' io' H') : Rep c io' F' v d := by
  obtain ⟨m, rfl⟩ := g.pre
  exact r.mono g.sub
theorem Reps.grow {c : C} {io io' : List Addr} {F F' H H' : Hp} {v : List V} {d : List D} (r : Reps c io F v d) (g : Grow F io H F' io' H') : Reps c io' F' v d := by
  obtain ⟨m, rfl⟩ := g.pre
  exact r.mono g.sub
theorem ERel.set {c : C} {io : List Addr} {F : Hp} {env : Env} {σ : L2.St} {v : V} {d : D} (e : ERel c io F env σ) (i : Nat) (r : Rep c io F v d) : ERel c io F (env.set i (some d)) (σ.set i (some v)) := by
  refine ⟨by simpa using e.len, fun j d' h => ?_⟩
  by_cases hj : i = j
  · subst hj
    by_cases hl : i < env.length
    · rw [List.getElem?_set_self hl] at h
      cases h
      exact ⟨v, by rw [List.getElem?_set_self (by rw [e.len]; exact hl)], r⟩
    · rw [List.getElem?_eq_none (by simpa using hl)] at h
      cases h
  · rw [List.getElem?_set_ne hj] at h
    obtain ⟨u, h1, h2⟩ := e.slot j d' h
    exact ⟨u, by rw [List.getElem?_set_ne hj]; exact h1, h2⟩
/-- slots forgotten -/
def wipeE (env : Env) : List Nat → Env
  | [] => env
  | v :: vs => (wipeE env vs).set v none
theorem ERel.unset {c : C} {io : List Addr} {F : Hp} {env : Env} {σ : L2.St} (e : ERel c io F env σ) (i : Nat) : ERel c io F (env.set i none) (σ.set i none) := by
  refine ⟨by simpa using e.len, fun j d' h => ?_⟩
  by_cases hj : i = j
  · subst hj
    by_cases hl : i < env.length
    · rw [List.getElem?_set_self hl] at h; cases h
    · rw [List.getElem?_eq_none (by simpa using hl)] at h; cases h
  · rw [List.getElem?_set_ne hj] at h
    obtain ⟨u, h1, h2⟩ := e.slot j d' h
    exact ⟨u, by rw [List.getElem?_set_ne hj]; exact h1, h2⟩
theorem ERel.wipe {c : C} {io : List Addr} {F : Hp} {env : Env} {σ : L2.St} (e : ERel c io F env σ) : ∀ vs : List Nat, ERel c io F (wipeE env vs) (L2.wipe σ vs)
  | [] => e
  | v :: vs => (ERel.wipe e vs).unset v

/-! ### denotations -/
abbrev Den := Env → Store → Option (D × Store)
abbrev DenT := Env → Store → Option (Bool × Store)
abbrev DenA := Env → Store → Option (List D × Store)
inductive Fl where
  | next | ret (d : D) | brk | cont
abbrev DenS := Env → Store → Option (Fl × Env × Store)
/-- a run from here: to x, by d -/
structure Here (c : C) (F : Hp) (io : List Addr) (env : Env) (st : Store) (σ : L2.St) (H : Hp) : Prop where
  s : SRel c F io st H
  e : ERel c io F env σ
/-- the readings -/
def rd (c : C) (d : Den) : TE := fun σ H Q => ∃ F io env st x st', Here c F io env st σ H ∧ d env st = some (x, st') ∧
  ∀ v F' io' H', Grow F io H F' io' H' → SRel c F' io' st' H' → Rep c io' F' v x → Q v H'
def rdT (c : C) (d : DenT) : TT := fun σ H Q => ∃ F io env st x st', Here c F io env st σ H ∧ d env st = some (x, st') ∧
  ∀ F' io' H', Grow F io H F' io' H' → SRel c F' io' st' H' → Q x H'
def rdA (c : C) (d : DenA) : TA := fun σ H Q => ∃ F io env st x st', Here c F io env st σ H ∧ d env st = some (x, st') ∧
  ∀ vs F' io' H', Grow F io H F' io' H' → SRel c F' io' st' H' → Reps c io' F' vs x → Q vs H'
/-- what follows a statement -/
def endOf (D : Ends) : Fl → V → L2.St → Hp → Prop
  | .next, _, σ, H => D.nx σ H
  | .ret _, v, _, H => D.rt v H
  | .brk, _, σ, H => D.bk σ H
  | .cont, _, σ, H => D.ct σ H
def FlRep (c : C) (io : List Addr) (F : Hp) (v : V) : Fl → Prop
  | .ret d => Rep c io F v d
  | _ => True
def rdS (c : C) (d : DenS) : TS := fun D σ H => ∃ F io env st fl env' st', Here c F io env st σ H ∧ d env st = some (fl, env', st') ∧
  ∀ v σ' F' io' H', Grow F io H F' io' H' → Here c F' io' env' st' σ' H' → FlRep c io' F' v fl → endOf D fl v σ' H'
/-- a weaker reading -/
theorem PE.imp {X : Cx} {e : Expr} {t t' : TE} (h : PE X e t) (k : ∀ σ H Q, t' σ H Q → t σ H Q) : PE X e t' := ⟨fun pins s σ H Q I q => h.run pins s σ H Q I (k _ _ _ q)⟩
theorem PT.imp {X : Cx} {e : Expr} {t t' : TT} (h : PT X e t) (k : ∀ σ H Q, t' σ H Q → t σ H Q) : PT X e t' := ⟨fun pins s σ H Q I q => h.run pins s σ H Q I (k _ _ _ q)⟩
theorem PW.imp {X : Cx} {e : Expr} {t t' : TT} (h : PW X e t) (k : ∀ σ H Q, t' σ H Q → t σ H Q) : PW X e t' := ⟨fun wh pins s σ H Q I q => h.run wh pins s σ H Q I (k _ _ _ q)⟩
theorem PA.imp {X : Cx} {e : List Expr} {t t' : TA} (h : PA X e t) (k : ∀ σ H Q, t' σ H Q → t σ H Q) : PA X e t' := ⟨fun pos pins s σ H Q I q => h.run pos pins s σ H Q I (k _ _ _ q)⟩
theorem PS.imp {X : Cx} {e : Stmt} {t t' : TS} (h : PS X e t) (k : ∀ D σ H, t' D σ H → t D σ H) : PS X e t' := ⟨fun pins s σ H D I q => h.run pins s σ H D I (k _ _ _ q)⟩
theorem PSs.imp {X : Cx} {e : List Stmt} {t t' : TS} (h : PSs X e t) (k : ∀ D σ H, t' D σ H → t D σ H) : PSs X e t' := ⟨fun pins s σ H D I q => h.run pins s σ H D I (k _ _ _ q)⟩
abbrev DE (X : Cx) (e : Expr) (d : Den) : Prop := PE X e (rd (cOf X) d)
abbrev DT (X : Cx) (e : Expr) (d : DenT) : Prop := PT X e (rdT (cOf X) d)
abbrev DW (X : Cx) (e : Expr) (d : DenT) : Prop := PW X e (rdT (cOf X) d)
abbrev DA (X : Cx) (e : List Expr) (d : DenA) : Prop := PA X e (rdA (cOf X) d)
abbrev DS (X : Cx) (e : Stmt) (d : DenS) : Prop := PS X e (rdS (cOf X) d)
abbrev DSs (X : Cx) (e : List Stmt) (d : DenS) : Prop := PSs X e (rdS (cOf X) d)
theorem Here.grow {c : C} {F F' H H' : Hp} {io io' : List Addr} {env : Env} {st st' : Store} {σ : L2.St} (h : Here c F io env st σ H) (g : Grow F io H F' io' H') (s : SRel c F' io' st' H') : Here c F' io' env st' σ H' := ⟨s, h.e.grow g⟩
end DL
set_option Elab.async false
set_option linter.all false
set_option maxRecDepth 100000
set_option maxHeartbeats 4000000
/-! DL1: expressions. -/
namespace DL
open PySem PySem.Spec PyProof.Rows L2

/-! ### new objects at an end -/
section
variable {c : C} {F H : Hp} {io : List Addr} {st : Store} {p : Addr} {xs : List V} {ds : List D}
theorem fin_lst (s : SRel c F io st H) (r : Reps c io F xs ds) (hp : H p = none) :
    Grow F io H (upd F p (.lst xs)) io (upd H p (.lst xs)) ∧ SRel c (upd F p (.lst xs)) io st (upd H p (.lst xs)) ∧ Rep c io (upd F p (.lst xs)) (.ref p) (.lst ds) :=
  ⟨Grow.alloc s hp, s.alloc hp, .lst upd_same (r.sub (Sub.upd (s.fresh hp)))⟩
theorem fin_tup (s : SRel c F io st H) (r : Reps c io F xs ds) (hp : H p = none) :
    Grow F io H (upd F p (.tup xs)) io (upd H p (.tup xs)) ∧ SRel c (upd F p (.tup xs)) io st (upd H p (.tup xs)) ∧ Rep c io (upd F p (.tup xs)) (.ref p) (.tup ds) :=
  ⟨Grow.alloc s hp, s.alloc hp, .tup (.inl (.inl upd_same)) (r.sub (Sub.upd (s.fresh hp)))⟩
/-- a new object of the store -/
theorem Grow.store (s : SRel c F io st H) {o : HO} (hp : H p = none) : Grow F io H F (io ++ [p]) (upd H p o) := by
  refine ⟨Sub.refl _, ⟨[p], rfl⟩, fun b u e _ => by rw [upd_ne (ne_of_none e hp)]; exact e, fun b u e => ⟨u, by rw [upd_ne (ne_of_none e hp)]; exact e⟩, fun b u e => .inl e, fun b h => ?_⟩
  rcases List.mem_append.mp h with z | z
  · exact .inl z
  · have : b = p := by simpa using z
    subst this; exact .inr hp
theorem SRel.store {o : HO} {so : SObj} (s : SRel c F io st H) (hp : H p = none) (h : SOb c (io ++ [p]) F (upd H p o) p so) : SRel c F (io ++ [p]) (st ++ [so]) (upd H p o) := by
  have hF := s.fresh hp
  refine ⟨fun b u e => by rw [upd_ne (ne_of_none (s.sub b u e) hp)]; exact s.sub b u e, by simp [s.len], fun n a ob h1 h2 => ?_, ?_⟩
  · by_cases hn : n < io.length
    · rw [List.getElem?_append_left hn] at h1
      rw [List.getElem?_append_left (by rw [← s.len]; exact hn)] at h2
      obtain ⟨q1, q2⟩ := s.obj n a ob h1 h2
      obtain ⟨u, hu⟩ := q2.some
      have hne : a ≠ p := ne_of_none hu hp
      exact ⟨q1, q2.mono (Sub.refl _) fun u e => by rw [upd_ne hne]; exact e⟩
    · have e1 : n = io.length := by
        obtain ⟨hl, _⟩ := List.getElem?_eq_some_iff.mp h1
        rw [List.length_append, List.length_singleton] at hl
        omega
      subst e1
      have z1 : a = p := by simpa using h1.symm
      have z2 : ob = so := by
        rw [s.len] at h2
        simpa using h2.symm
      subst z1 z2
      exact ⟨hF, h⟩
  · rw [List.nodup_append]
    refine ⟨s.nd, List.nodup_cons.mpr ⟨by simp, List.nodup_nil⟩, fun a ha b hb => ?_⟩
    have : b = p := by simpa using hb
    subst this
    intro e
    subst e
    obtain ⟨o, ho, _⟩ := s.there ha
    rw [hp] at ho; cases ho
theorem fin_lstR (s : SRel c F io st H) (r : Reps c io F xs ds) (hp : H p = none) :
    Grow F io H F (io ++ [p]) (upd H p (.lst xs)) ∧ SRel c F (io ++ [p]) (st ++ [.lst ds]) (upd H p (.lst xs)) ∧ Rep c (io ++ [p]) F (.ref p) (.ref st.length) :=
  ⟨Grow.store s hp, s.store hp (.lst upd_same (r.mono (Sub.refl _))), .ref (by rw [← s.len]; simp)⟩
end

/-! ### names and constants -/
def dVar (i : Nat) : Den := fun env st => match env[i]? with
  | some (some d) => some (d, st)
  | _ => none
def dC (d : D) : Den := fun _ st => some (d, st)
section
variable {X : Cx} {e a b c' : Expr} {es : List Expr} {pos : Pos}
theorem de_never : DE X e (fun _ _ => none) := ⟨fun pins s σ H Q I h => by
  obtain ⟨F, io, env, st, x, st', _, h, _⟩ := h
  cases h⟩
theorem ds_never {t : Stmt} : DS X t (fun _ _ => none) := ⟨fun pins s σ H Q I h => by
  obtain ⟨F, io, env, st, x, st', y, _, h, _⟩ := h
  cases h⟩
theorem de_var (i : Nat) {x : Str} (hN : X.N[i]? = some x := by rfl) (hv : Vis X.env.scope x := by first | exact Or.inl rfl | exact Or.inr (Or.inl rfl) | exact Or.inr (Or.inr rfl)) (hd : (x == ("__debug__" : Str)) = false := by decide)
    (hcd : (x == ("__classdict__" : Str)) = false := by decide) : DE X (.Name x pos) (dVar i) := by
  refine PE.imp (pv i hN hv hd hcd) fun σ H Q h => ?_
  obtain ⟨F, io, env, st, d, st', hh, hd, q⟩ := h
  unfold dVar at hd
  cases h1 : env[i]? with
  | none => rw [h1] at hd; cases hd
  | some o =>
    cases o with
    | none => rw [h1] at hd; cases hd
    | some d' =>
      rw [h1] at hd
      cases hd
      obtain ⟨v, e1, r⟩ := hh.e.slot i _ h1
      exact ⟨v, e1, q v F io H Grow.refl hh.s r⟩
theorem de_tC {v : V} {d : D} (h : PE X e (tC v)) (r : ∀ io F, Rep (cOf X) io F v d) : DE X e (dC d) := by
  refine PE.imp h fun σ H Q h => ?_
  obtain ⟨F, io, env, st, d', st', hh, hd, q⟩ := h
  cases hd
  exact q v F io H Grow.refl hh.s (r _ _)
theorem de_int {i : Int} {j : Nat} : DE X (.Constant (.int i) j pos) (dC (.int i)) := de_tC pe_int fun _ _ => .int i
theorem de_bl {i : Bool} {j : Nat} : DE X (.Constant (.bool i) j pos) (dC (.bl i)) := de_tC pe_bl fun _ _ => .bl i
theorem de_non {j : Nat} : DE X (.Constant .none j pos) (dC .non) := de_tC pe_non fun _ _ => .non
theorem de_str {x : Str} {j : Nat} (l : List Nat) (hx : strOf l = x := by rfl) : DE X (.Constant (.str x) j pos) (dC (.str l)) := by
  subst hx
  exact de_tC pe_str fun _ _ => .str l
theorem de_glob {x : Str} {v : V} {u : Value} {d : D} (hm : X.mg x = some u) (r : RelV v u) (hr : ∀ io F, Rep (cOf X) io F v d) (hg : Gl X x := by rfl) (hd : (x == ("__debug__" : Str)) = false := by decide) : DE X (.Name x pos) (dC d) :=
  de_tC (pe_glob hg hm r hd) hr

/-! ### two places -/
/-- a two-place operation by data -/
abbrev F2 := Store → D → D → Option D
def r2 (c : C) (f : F2) : R2 := fun x y H Q => ∃ F io st dx dy d, SRel c F io st H ∧ Rep c io F x dx ∧ Rep c io F y dy ∧ f st dx dy = some d ∧
  ∀ z F' H', Grow F io H F' io H' → SRel c F' io st H' → Rep c io F' z d → Q z H'
def dOp2 (f : F2) (da db : Den) : Den := fun env st => (da env st).bind fun p => (db env p.2).bind fun q => (f q.2 p.1 q.1).map fun d => (d, q.2)
theorem tOp_rd {c : C} {f : F2} {da db : Den} {σ : L2.St} {H : Hp} {Q : VK} (h : rd c (dOp2 f da db) σ H Q) : tOp (r2 c f) (rd c da) (rd c db) σ H Q := by
  obtain ⟨F, io, env, st, d, st', hh, hd, q⟩ := h
  unfold dOp2 at hd
  obtain ⟨⟨x, st1⟩, h1, hd⟩ := Option.bind_eq_some_iff.mp hd
  obtain ⟨⟨y, st2⟩, h2, hd⟩ := Option.bind_eq_some_iff.mp hd
  obtain ⟨z, h3, hd⟩ := Option.map_eq_some_iff.mp hd
  cases hd
  refine ⟨F, io, env, st, x, st1, hh, h1, fun v F1 io1 H1 g1 s1 r1 => ?_⟩
  refine ⟨F1, io1, env, st1, y, st2, hh.grow g1 s1, h2, fun u F2 io2 H2 g2 s2 r2' => ?_⟩
  refine ⟨F2, io2, st2, x, y, _, s2, r1.grow g2, r2', h3, fun w F3 H3 g3 s3 r3 => ?_⟩
  exact q w F3 io2 H3 (g1.trans (g2.trans g3)) s3 r3
theorem de_op {op : Operator} {f : F2} {da db : Den} (ho : OpR X (binaryOp op) (r2 (cOf X) f)) (ha : DE X a da) (hb : DE X b db) : DE X (.BinOp a op b pos) (dOp2 f da db) :=
  PE.imp (pe_op ho ha hb) fun _ _ _ h => tOp_rd h
theorem de_cmp {op : CmpOp} {f : F2} {da db : Den} (ho : OpR X (compareOp op) (r2 (cOf X) f)) (ha : DE X a da) (hb : DE X b db) (hm : behindInMarks op b = false := by first | exact nomark _ | rfl) : DE X (.Compare a [op] [b] pos) (dOp2 f da db) :=
  PE.imp (pe_cmpR ho ha hb hm) fun _ _ _ h => tOp_rd h
/-- a value that is a bool, as a test -/
def asB (d : Den) : DenT := fun env st => (d env st).bind fun p => match p.1 with
  | .bl b => some (b, p.2)
  | _ => none
theorem tTest_rd {c : C} {d : Den} {t : TE} (ht : ∀ σ H Q, rd c d σ H Q → t σ H Q) {σ : L2.St} {H : Hp} {Q : Bool → Hp → Prop} (h : rdT c (asB d) σ H Q) : tTest t σ H Q := by
  obtain ⟨F, io, env, st, x, st', hh, hd, q⟩ := h
  unfold asB at hd
  obtain ⟨⟨y, st1⟩, h1, hd⟩ := Option.bind_eq_some_iff.mp hd
  cases y with
  | bl b =>
    cases hd
    refine ht _ _ _ ⟨F, io, env, st, _, _, hh, h1, fun v F' io' H' g s r => ?_⟩
    cases r
    exact ⟨_, rfl, q F' io' H' g s⟩
  | _ => cases hd
theorem dt_cmp {op : CmpOp} {f : F2} {da db : Den} (ho : OpR X (compareOp op) (r2 (cOf X) f)) (ha : DE X a da) (hb : DE X b db) (hm : behindInMarks op b = false := by first | exact nomark _ | rfl) : DT X (.Compare a [op] [b] pos) (asB (dOp2 f da db)) :=
  PT.imp (pt_cmpR ho ha hb hm) fun _ _ _ h => tTest_rd (fun _ _ _ => tOp_rd) h
/-- a chain of two comparisons -/
def dChain (f g : F2) (da db dc : Den) : Den := fun env st => (da env st).bind fun p => (db env p.2).bind fun q => (f q.2 p.1 q.1).bind fun r => match r with
  | .bl true => (dc env q.2).bind fun w => (g w.2 q.1 w.1).map fun d => (d, w.2)
  | .bl false => some (.bl false, q.2)
  | _ => none
theorem tChain_rd {c : C} {f g : F2} {da db dc : Den} {σ : L2.St} {H : Hp} {Q : VK} (h : rd c (dChain f g da db dc) σ H Q) : tChain (r2 c f) (r2 c g) (rd c da) (rd c db) (rd c dc) σ H Q := by
  obtain ⟨F, io, env, st, d, st', hh, hd, q⟩ := h
  unfold dChain at hd
  obtain ⟨⟨x, st1⟩, h1, hd⟩ := Option.bind_eq_some_iff.mp hd
  obtain ⟨⟨y, st2⟩, h2, hd⟩ := Option.bind_eq_some_iff.mp hd
  obtain ⟨z, h3, hd⟩ := Option.bind_eq_some_iff.mp hd
  refine ⟨F, io, env, st, x, st1, hh, h1, fun v F1 io1 H1 g1 s1 r1 => ?_⟩
  refine ⟨F1, io1, env, st1, y, st2, hh.grow g1 s1, h2, fun u F2 io2 H2 g2 s2 r2' => ?_⟩
  refine ⟨F2, io2, st2, x, y, z, s2, r1.grow g2, r2', h3, fun w F3 H3 g3 s3 r3 => ?_⟩
  cases z with
  | bl k =>
    cases r3
    refine ⟨k, rfl, ?_⟩
    cases k with
    | false =>
      cases hd
      rw [if_neg Bool.false_ne_true]
      exact q _ F3 io2 H3 (g1.trans (g2.trans g3)) s3 (.bl false)
    | true =>
      rw [if_pos rfl]
      obtain ⟨⟨w', st4⟩, h4, hd⟩ := Option.bind_eq_some_iff.mp hd
      obtain ⟨d', h5, hd⟩ := Option.map_eq_some_iff.mp hd
      cases hd
      refine ⟨F3, io2, env, st2, w', st4, ((hh.grow g1 s1).grow g2 s2).grow g3 s3, h4, fun u4 F4 io4 H4 g4 s4 r4 => ?_⟩
      refine ⟨F4, io4, st4, y, w', _, s4, (r2'.grow g3).grow g4, r4, h5, fun w5 F5 H5 g5 s5 r5 => ?_⟩
      exact q w5 F5 io4 H5 (g1.trans (g2.trans (g3.trans (g4.trans g5)))) s5 r5
  | _ => cases hd
theorem de_chain {op op' : CmpOp} {f g : F2} {da db dc : Den} (ho : OpR X (compareOp op) (r2 (cOf X) f)) (ho' : OpR X (compareOp op') (r2 (cOf X) g)) (ha : DE X a da) (hb : DE X b db) (hc : DE X c' dc)
    (hm : lastMarks [op, op'] [b, c'] = false := by with_unfolding_all rfl) : DE X (.Compare a [op, op'] [b, c'] pos) (dChain f g da db dc) :=
  PE.imp (pe_chain ho ho' ha hb hc hm) fun _ _ _ h => tChain_rd h
theorem dt_chain {op op' : CmpOp} {f g : F2} {da db dc : Den} (ho : OpR X (compareOp op) (r2 (cOf X) f)) (ho' : OpR X (compareOp op') (r2 (cOf X) g)) (ha : DE X a da) (hb : DE X b db) (hc : DE X c' dc)
    (hm : lastMarks [op, op'] [b, c'] = false := by with_unfolding_all rfl) : DT X (.Compare a [op, op'] [b, c'] pos) (asB (dChain f g da db dc)) :=
  PT.imp (pt_chain ho ho' ha hb hc hm) fun _ _ _ h => tTest_rd (fun _ _ _ => tChain_rd) h

/-! ### and, or, not, if else -/
def tAndD (a b : DenT) : DenT := fun env st => (a env st).bind fun p => if p.1 = true then b env p.2 else some (false, p.2)
def tOrD (a b : DenT) : DenT := fun env st => (a env st).bind fun p => if p.1 = true then some (true, p.2) else b env p.2
def tNotD (a : DenT) : DenT := fun env st => (a env st).map fun p => (!p.1, p.2)
variable {rest : List Expr} {ta tb : DenT}
theorem dw_and1 (ha : DT X a ta) : DW X (.BoolOp .And [a] pos) ta := pw_and1 ha
theorem dw_or1 (ha : DT X a ta) : DW X (.BoolOp .Or [a] pos) ta := pw_or1 ha
theorem dw_and (ha : DT X a ta) (hb : DW X (.BoolOp .And (b :: rest) pos) tb) : DW X (.BoolOp .And (a :: b :: rest) pos) (tAndD ta tb) := by
  refine PW.imp (pw_and ha hb) fun σ H Q h => ?_
  obtain ⟨F, io, env, st, d, st', hh, hd, q⟩ := h
  obtain ⟨⟨x, st1⟩, h1, hd⟩ := Option.bind_eq_some_iff.mp hd
  refine ⟨F, io, env, st, x, st1, hh, h1, fun F1 io1 H1 g1 s1 => ?_⟩
  cases x with
  | true =>
    rw [if_pos rfl]
    exact ⟨F1, io1, env, st1, d, st', hh.grow g1 s1, hd, fun F2 io2 H2 g2 s2 => q F2 io2 H2 (g1.trans g2) s2⟩
  | false =>
    rw [if_neg Bool.false_ne_true]
    cases hd
    exact q F1 io1 H1 g1 s1
theorem dw_or (ha : DT X a ta) (hb : DW X (.BoolOp .Or (b :: rest) pos) tb) : DW X (.BoolOp .Or (a :: b :: rest) pos) (tOrD ta tb) := by
  refine PW.imp (pw_or ha hb) fun σ H Q h => ?_
  obtain ⟨F, io, env, st, d, st', hh, hd, q⟩ := h
  obtain ⟨⟨x, st1⟩, h1, hd⟩ := Option.bind_eq_some_iff.mp hd
  refine ⟨F, io, env, st, x, st1, hh, h1, fun F1 io1 H1 g1 s1 => ?_⟩
  cases x with
  | false =>
    rw [if_neg Bool.false_ne_true]
    exact ⟨F1, io1, env, st1, d, st', hh.grow g1 s1, hd, fun F2 io2 H2 g2 s2 => q F2 io2 H2 (g1.trans g2) s2⟩
  | true =>
    rw [if_pos rfl]
    cases hd
    exact q F1 io1 H1 g1 s1
theorem dt_w (h : DW X a ta) : DT X a ta := h.pt
theorem dt_not (ha : DT X a ta) : DT X (.UnaryOp .Not a pos) (tNotD ta) := by
  refine PT.imp (pt_not ha) fun σ H Q h => ?_
  obtain ⟨F, io, env, st, d, st', hh, hd, q⟩ := h
  obtain ⟨⟨x, st1⟩, h1, hd⟩ := Option.map_eq_some_iff.mp hd
  cases hd
  exact ⟨F, io, env, st, x, st1, hh, h1, q⟩
/-- as values: bools -/
def dAnd (da db : Den) : Den := fun env st => (da env st).bind fun p => match p.1 with
  | .bl true => db env p.2
  | .bl false => some (.bl false, p.2)
  | _ => none
def dOr (da db : Den) : Den := fun env st => (da env st).bind fun p => match p.1 with
  | .bl true => some (.bl true, p.2)
  | .bl false => db env p.2
  | _ => none
def dNot (da : Den) : Den := fun env st => (da env st).bind fun p => match p.1 with
  | .bl b => some (.bl (!b), p.2)
  | _ => none
variable {da db : Den}
theorem de_one {op : BoolOp} (ha : DE X a da) : DE X (.BoolOp op [a] pos) da := pe_one ha
theorem de_and (ha : DE X a da) (hb : DE X (.BoolOp .And (b :: rest) pos) db) : DE X (.BoolOp .And (a :: b :: rest) pos) (dAnd da db) := by
  refine PE.imp (pe_and ha hb) fun σ H Q h => ?_
  obtain ⟨F, io, env, st, d, st', hh, hd, q⟩ := h
  obtain ⟨⟨x, st1⟩, h1, hd⟩ := Option.bind_eq_some_iff.mp hd
  refine ⟨F, io, env, st, x, st1, hh, h1, fun v F1 io1 H1 g1 s1 r1 => ?_⟩
  cases x with
  | bl k =>
    cases r1
    refine ⟨k, rfl, ?_⟩
    cases k with
    | true =>
      rw [if_pos rfl]
      exact ⟨F1, io1, env, st1, d, st', hh.grow g1 s1, hd, fun u F2 io2 H2 g2 s2 r2 => q u F2 io2 H2 (g1.trans g2) s2 r2⟩
    | false =>
      rw [if_neg Bool.false_ne_true]
      cases hd
      exact q _ F1 io1 H1 g1 s1 (.bl false)
  | _ => cases hd
theorem de_or (ha : DE X a da) (hb : DE X (.BoolOp .Or (b :: rest) pos) db) : DE X (.BoolOp .Or (a :: b :: rest) pos) (dOr da db) := by
  refine PE.imp (pe_or ha hb) fun σ H Q h => ?_
  obtain ⟨F, io, env, st, d, st', hh, hd, q⟩ := h
  obtain ⟨⟨x, st1⟩, h1, hd⟩ := Option.bind_eq_some_iff.mp hd
  refine ⟨F, io, env, st, x, st1, hh, h1, fun v F1 io1 H1 g1 s1 r1 => ?_⟩
  cases x with
  | bl k =>
    cases r1
    refine ⟨k, rfl, ?_⟩
    cases k with
    | false =>
      rw [if_neg Bool.false_ne_true]
      exact ⟨F1, io1, env, st1, d, st', hh.grow g1 s1, hd, fun u F2 io2 H2 g2 s2 r2 => q u F2 io2 H2 (g1.trans g2) s2 r2⟩
    | true =>
      rw [if_pos rfl]
      cases hd
      exact q _ F1 io1 H1 g1 s1 (.bl true)
  | _ => cases hd
theorem de_not (ha : DE X a da) : DE X (.UnaryOp .Not a pos) (dNot da) := by
  refine PE.imp (pe_not ha) fun σ H Q h => ?_
  obtain ⟨F, io, env, st, d, st', hh, hd, q⟩ := h
  obtain ⟨⟨x, st1⟩, h1, hd⟩ := Option.bind_eq_some_iff.mp hd
  refine ⟨F, io, env, st, x, st1, hh, h1, fun v F1 io1 H1 g1 s1 r1 => ?_⟩
  cases x with
  | bl k =>
    cases r1
    cases hd
    exact ⟨k, rfl, q _ F1 io1 H1 g1 s1 (.bl _)⟩
  | _ => cases hd
def dIf (t : DenT) (da db : Den) : Den := fun env st => (t env st).bind fun p => if p.1 = true then da env p.2 else db env p.2
theorem de_if {c : Expr} (hc : DT X c ta) (ha : DE X a da) (hb : DE X b db) : DE X (.IfExp c a b pos) (dIf ta da db) := by
  refine PE.imp (pe_ifExp hc ha hb) fun σ H Q h => ?_
  obtain ⟨F, io, env, st, d, st', hh, hd, q⟩ := h
  obtain ⟨⟨x, st1⟩, h1, hd⟩ := Option.bind_eq_some_iff.mp hd
  refine ⟨F, io, env, st, x, st1, hh, h1, fun F1 io1 H1 g1 s1 => ?_⟩
  cases x with
  | true =>
    rw [if_pos rfl]
    rw [if_pos rfl] at hd
    exact ⟨F1, io1, env, st1, d, st', hh.grow g1 s1, hd, fun u F2 io2 H2 g2 s2 r2 => q u F2 io2 H2 (g1.trans g2) s2 r2⟩
  | false =>
    rw [if_neg Bool.false_ne_true]
    rw [if_neg Bool.false_ne_true] at hd
    exact ⟨F1, io1, env, st1, d, st', hh.grow g1 s1, hd, fun u F2 io2 H2 g2 s2 r2 => q u F2 io2 H2 (g1.trans g2) s2 r2⟩

/-! ### argument lists, displays -/
def aNil : DenA := fun _ st => some ([], st)
def aCons (da : Den) (dr : DenA) : DenA := fun env st => (da env st).bind fun p => (dr env p.2).map fun q => (p.1 :: q.1, q.2)
theorem da_nil : DA X [] aNil := by
  refine PA.imp pa_nil fun σ H Q h => ?_
  obtain ⟨F, io, env, st, d, st', hh, hd, q⟩ := h
  cases hd
  exact q [] F io H Grow.refl hh.s .nil
theorem da_cons {dr : DenA} (ha : DE X e da) (hr : DA X es dr) (hs : starEach (e :: es) X.env = (false, eval e X.env) :: starEach es X.env := by rfl) : DA X (e :: es) (aCons da dr) := by
  refine PA.imp (pa_cons ha hr hs) fun σ H Q h => ?_
  obtain ⟨F, io, env, st, d, st', hh, hd, q⟩ := h
  obtain ⟨⟨x, st1⟩, h1, hd⟩ := Option.bind_eq_some_iff.mp hd
  obtain ⟨⟨y, st2⟩, h2, hd⟩ := Option.map_eq_some_iff.mp hd
  cases hd
  refine ⟨F, io, env, st, x, st1, hh, h1, fun v F1 io1 H1 g1 s1 r1 => ?_⟩
  refine ⟨F1, io1, env, st1, y, st2, hh.grow g1 s1, h2, fun vs F2 io2 H2 g2 s2 r2 => ?_⟩
  exact q (v :: vs) F2 io2 H2 (g1.trans g2) s2 (.cons (r1.grow g2) r2)
def dTup (a : DenA) : Den := fun env st => (a env st).bind fun p => if p.1.length ≤ 16777216 then some (.tup p.1, p.2) else none
def dLst (a : DenA) : Den := fun env st => (a env st).bind fun p => if p.1.length ≤ 16777216 then some (.lst p.1, p.2) else none
/-- .. in the store -/
def dLstR (a : DenA) : Den := fun env st => (a env st).bind fun p => if p.1.length ≤ 16777216 then some (.ref p.2.length, p.2 ++ [.lst p.1]) else none
variable {dr : DenA}
theorem de_tup {k : Nat} (h : DA X es dr) : DE X (.Tuple es k pos) (dTup dr) := by
  refine PE.imp (pe_tup h) fun σ H Q h => ?_
  obtain ⟨F, io, env, st, d, st', hh, hd, q⟩ := h
  obtain ⟨⟨x, st1⟩, h1, hd⟩ := Option.bind_eq_some_iff.mp hd
  refine ⟨F, io, env, st, x, st1, hh, h1, fun vs F1 io1 H1 g1 s1 r1 => ?_⟩
  split at hd
  · rename_i hl
    cases hd
    refine ⟨by rw [r1.length, sizeLine_eq]; exact hl, fun p hp => ?_⟩
    obtain ⟨g2, s2, r2⟩ := fin_tup s1 r1 hp
    exact q _ _ _ _ (g1.trans g2) s2 r2
  · cases hd
theorem de_lst (h : DA X es dr) : DE X (.List es pos) (dLst dr) := by
  refine PE.imp (pe_lst h) fun σ H Q h => ?_
  obtain ⟨F, io, env, st, d, st', hh, hd, q⟩ := h
  obtain ⟨⟨x, st1⟩, h1, hd⟩ := Option.bind_eq_some_iff.mp hd
  refine ⟨F, io, env, st, x, st1, hh, h1, fun vs F1 io1 H1 g1 s1 r1 => ?_⟩
  split at hd
  · rename_i hl
    cases hd
    refine ⟨by rw [r1.length, sizeLine_eq]; exact hl, fun p hp => ?_⟩
    obtain ⟨g2, s2, r2⟩ := fin_lst s1 r1 hp
    exact q _ _ _ _ (g1.trans g2) s2 r2
  · cases hd
theorem de_lstR (h : DA X es dr) : DE X (.List es pos) (dLstR dr) := by
  refine PE.imp (pe_lst h) fun σ H Q h => ?_
  obtain ⟨F, io, env, st, d, st', hh, hd, q⟩ := h
  obtain ⟨⟨x, st1⟩, h1, hd⟩ := Option.bind_eq_some_iff.mp hd
  refine ⟨F, io, env, st, x, st1, hh, h1, fun vs F1 io1 H1 g1 s1 r1 => ?_⟩
  split at hd
  · rename_i hl
    cases hd
    refine ⟨by rw [r1.length, sizeLine_eq]; exact hl, fun p hp => ?_⟩
    obtain ⟨g2, s2, r2⟩ := fin_lstR s1 r1 hp
    exact q _ _ _ _ (g1.trans g2) s2 r2
  · cases hd
end
end DL
set_option Elab.async false
set_option linter.all false
set_option maxRecDepth 100000
set_option maxHeartbeats 4000000
/-! DL2: operators, by data. -/
namespace DL
open PySem PySem.Spec PyProof.Rows L2

theorem app_str (a y : Str) : (a ++ y).cps.toList = a.cps.toList ++ y.cps.toList := PySem.W.KAf.app_list a y
theorem strOf_app (a b : List Nat) : strOf (a ++ b) = strOf a ++ strOf b := by
  rw [← strOf_toList (strOf a ++ strOf b), app_str, cps_strOf, cps_strOf]

abbrev LINE : Nat := 16777216
def fAdd : F2 := fun _ x y => match x, y with
  | .int a, .int b => some (.int (a + b))
  | .str a, .str b => if a.length + b.length ≤ 16777216 then some (.str (a ++ b)) else none
  | .tup a, .tup b => if a.length + b.length ≤ 16777216 then some (.tup (a ++ b)) else none
  | .lst a, .lst b => if a.length + b.length ≤ 16777216 then some (.lst (a ++ b)) else none
  | _, _ => none
def fSub : F2 := fun _ x y => match x, y with
  | .int a, .int b => some (.int (a - b))
  | _, _ => none
def small64 (i : Int) : Bool := decide (-18446744073709551616 < i ∧ i < 18446744073709551616)
def fMul : F2 := fun _ x y => match x, y with
  | .int a, .int b => if (small64 a || small64 b) = true then some (.int (a * b)) else none
  | .tup a, .int k => if -9223372036854775808 ≤ k ∧ k ≤ 1000 ∧ a.length ≤ 1000 then some (.tup (List.replicate k.toNat a).flatten) else none
  | .lst a, .int k => if -9223372036854775808 ≤ k ∧ k < 9223372036854775808 ∧ a.length * k.toNat ≤ 16777216 then some (.lst (List.replicate k.toNat a).flatten) else none
  | _, _ => none
/-- // by a positive number below 2^30 -/
def fDiv : F2 := fun _ x y => match x, y with
  | .int a, .int b => if 0 < b ∧ b < 1073741824 then some (.int (a / b)) else none
  | _, _ => none
def fMod : F2 := fun _ x y => match x, y with
  | .int a, .int b => if 0 < b then some (.int (a % b)) else none
  | _, _ => none
def fPow : F2 := fun _ x y => match x, y with
  | .int a, .int b => if 0 ≤ b ∧ b ≤ 1000000 ∧ small64 a = true then some (.int (a ^ b.toNat)) else none
  | _, _ => none
section
variable {X : Cx}
/-- an operation by cases -/
theorem opr {f : Value → Value → Sem Value} {g : F2} (h : ∀ (pins : List (Addr × Obj)) (s : Shared) (σ : L2.St) (H : Hp) (x y : V) (v u : Value) (Q : VK) (F : Hp) (io : List Addr) (st : Store) (dx dy d : D), Inv X pins σ H s → RelV x v → RelV y u → SRel (cOf X) F io st H →
    Rep (cOf X) io F x dx → Rep (cOf X) io F y dy → g st dx dy = some d → (∀ z F' H', Grow F io H F' io H' → SRel (cOf X) F' io st H' → Rep (cOf X) io F' z d → Q z H') → wpAny (model X.prog X.w) X.A (f v u) (EP X pins σ Q) X.xe s) : OpR X f (r2 (cOf X) g) := by
  intro pins s σ H x y v u Q I rx ry hq
  obtain ⟨F, io, st, dx, dy, d, sr, r1, r2, e, q⟩ := hq
  exact h pins s σ H x y v u Q F io st dx dy d I rx ry sr r1 r2 e q
theorem small64_of {i : Int} (h : small64 i = true) : -(2 ^ 64) < i ∧ i < 2 ^ 64 := of_decide_eq_true h

theorem o_add : OpR X (binaryOp .Add) (r2 (cOf X) fAdd) := opr fun pins s σ H x y v u Q F io st dx dy d I rx ry sr r1 r2 e q => by
  cases dx <;> cases dy <;> first | (cases e; done) | skip
  · rename_i a b
    cases e
    cases r1
    cases r2
    exact op_add pins s σ H _ _ v u Q I rx ry ⟨_, _, rfl, rfl, q _ F H Grow.refl sr (.int _)⟩
  · rename_i a b
    have e' : (if a.length + b.length ≤ 16777216 then some (D.str (a ++ b)) else none) = some d := e
    split at e'
    · rename_i hl
      cases e'
      cases r1
      cases r2
      refine op_add_str pins s σ H _ _ v u Q I rx ry ⟨_, _, rfl, rfl, by rw [strOf_len, strOf_len, sizeLine_eq]; exact hl, ?_⟩
      rw [← strOf_app]
      exact q _ F H Grow.refl sr (.str _)
    · cases e'
  · rename_i a b
    have e' : (if a.length + b.length ≤ 16777216 then some (D.tup (a ++ b)) else none) = some d := e
    split at e'
    · rename_i hl
      cases e'
      cases r1 with
      | tup h1 k1 =>
        cases r2 with
        | tup h2 k2 =>
          rename_i a1 xs1 a2 xs2
          refine op_catA pins s σ H _ _ v u Q I rx ry ⟨_, _, xs1, xs2, rfl, rfl, Sub.sqT sr.sub h1, Sub.sqT sr.sub h2, by rw [k1.length, k2.length, sizeLine_eq]; exact hl, fun z => ?_, fun z1 z2 => ?_, fun z1 z2 p hp => ?_⟩
          · have : a = [] := by
              have := k1.length
              rw [z] at this
              exact List.eq_nil_of_length_eq_zero this.symm
            subst this
            exact q _ F H Grow.refl sr (.tup h2 k2)
          · have : b = [] := by
              have := k2.length
              rw [z2] at this
              exact List.eq_nil_of_length_eq_zero this.symm
            subst this
            rw [List.append_nil] at q
            exact q _ F H Grow.refl sr (.tup h1 k1)
          · obtain ⟨g, s2, r⟩ := fin_tup sr (k1.append k2) hp
            exact q _ _ _ g s2 r
    · cases e'
  · rename_i a b
    have e' : (if a.length + b.length ≤ 16777216 then some (D.lst (a ++ b)) else none) = some d := e
    split at e'
    · rename_i hl
      cases e'
      cases r1 with
      | lst h1 k1 =>
        cases r2 with
        | lst h2 k2 =>
          refine op_cat pins s σ H _ _ v u Q I rx ry ⟨_, _, _, _, rfl, rfl, sr.sub _ _ h1, sr.sub _ _ h2, by rw [k1.length, k2.length, sizeLine_eq]; exact hl, fun p hp => ?_⟩
          obtain ⟨g, s2, r⟩ := fin_lst sr (k1.append k2) hp
          exact q _ _ _ g s2 r
    · cases e'
theorem o_sub : OpR X (binaryOp .Sub) (r2 (cOf X) fSub) := opr fun pins s σ H x y v u Q F io st dx dy d I rx ry sr r1 r2 e q => by
  cases dx <;> cases dy <;> first | (cases e; done) | skip
  cases e
  cases r1
  cases r2
  exact op_sub pins s σ H _ _ v u Q I rx ry ⟨_, _, rfl, rfl, q _ F H Grow.refl sr (.int _)⟩
theorem Reps.rep {c : C} {io : List Addr} {F : Hp} {vs : List V} {ds : List D} (r : Reps c io F vs ds) : ∀ k : Nat, Reps c io F (List.replicate k vs).flatten (List.replicate k ds).flatten
  | 0 => .nil
  | k + 1 => by
    rw [List.replicate_succ, List.replicate_succ, List.flatten_cons, List.flatten_cons]
    exact r.append (Reps.rep r k)
theorem tuple_mul_same (l : Addr) (items : Array Value) (n : Nat) (dd : Option Addr) (sl : Array (Option Value)) (x : Int) (u : Tok) (c0 : (decide (x < -(2 ^ 63)) || decide (x ≥ 2 ^ 63)) = false) (c1 : (items.isEmpty || x == 1) = true) :
    Meets (Builtin.«tuple.__mul__» ⟨[.ref l, .int x u], []⟩) (fun _ R s => s.heap.get? l = some { cls := .type "tuple", dict := dd, data := .seq items n, slots := sl } ∧
      R (.ok (.ret (Value.ref l))) s) :=
  .of_wp fun prog w A R s h => by
    obtain ⟨hp, g, d, tk, os⟩ := s
    obtain ⟨hl, h⟩ := h
    have f1 := AutoSeq1.idx_int
    wp_walk using wpAny_loadPart' hl
    repeat (first
      | (refine wpAny_ite_false (decide_eq_false (by rw [c0]; exact Bool.false_ne_true)) ?_; wp_walk using wpAny_loadPart' hl)
      | (refine wpAny_ite_true (decide_eq_true c1) ?_; wp_walk using wpAny_loadPart' hl))
    exact ⟨_, rfl, h⟩
theorem tuple_mul_nil (l : Addr) (items : Array Value) (n : Nat) (dd : Option Addr) (sl : Array (Option Value)) (x : Int) (u : Tok) (c0 : (decide (x < -(2 ^ 63)) || decide (x ≥ 2 ^ 63)) = false) (c1 : (items.isEmpty || x == 1) = false) (c2 : (decide (x ≤ 0) || items.isEmpty) = true) :
    Meets (Builtin.«tuple.__mul__» ⟨[.ref l, .int x u], []⟩) (fun _ R s => s.heap.get? l = some { cls := .type "tuple", dict := dd, data := .seq items n, slots := sl } ∧
      R (.ok (.ret (Value.ref s.heap.objs.size))) { s with heap := s.heap.push { cls := Value.type "tuple", data := Data.seq #[] }, toks := s.toks }) :=
  .of_wp fun prog w A R s h => by
    obtain ⟨hp, g, d, tk, os⟩ := s
    obtain ⟨hl, h⟩ := h
    have f1 := AutoSeq1.idx_int
    wp_walk using wpAny_loadPart' hl
    repeat (first
      | (refine wpAny_ite_false (decide_eq_false (by rw [c0]; exact Bool.false_ne_true)) ?_; wp_walk using wpAny_loadPart' hl)
      | (refine wpAny_ite_false (decide_eq_false (by rw [c1]; exact Bool.false_ne_true)) ?_; wp_walk using wpAny_loadPart' hl)
      | (refine wpAny_ite_true (decide_eq_true c2) ?_; wp_walk using wpAny_loadPart' hl))
    exact ⟨_, rfl, h⟩
/-- a tuple taken once, or not at all -/
theorem op_repT0 : OpR X (binaryOp .Mult) (fun x y H Q => ∃ l k xs, x = .ref l ∧ y = .int k ∧ SqT X.K H l xs ∧ -(2 ^ 63) ≤ k ∧ k < 2 ^ 63 ∧ (xs = [] ∨ k ≤ 1) ∧ (xs = [] ∨ k = 1 → Q (.ref l) H) ∧ (¬ xs = [] → k ≤ 0 → ∀ p, H p = none → Q (.ref p) (upd H p (.tup [])))) := by
  intro pins s σ H x y v u Q I rx ry h
  obtain ⟨l, k, xs, rfl, rfl, hT, l1, l2, hk, q1, q2⟩ := h
  cases rx
  obtain ⟨t, rfl⟩ := ry
  obtain ⟨its, r, ⟨⟨cls, dd, data, sl⟩, ho, hc, n, hd⟩, hs⟩ := I.tuple hT
  simp only at hc hd
  subst hc hd
  have c0 : (decide (k < -(2 ^ 63)) || decide (k ≥ 2 ^ 63)) = false := by
    rw [decide_eq_false (by omega), decide_eq_false (by omega)] <;> rfl
  have en : its.toArray.isEmpty = decide (xs = []) := by
    cases r with
    | nil => rfl
    | cons _ _ => rfl
  by_cases hz : xs = [] ∨ k = 1
  · have c1 : (its.toArray.isEmpty || k == 1) = true := by
      rw [en]
      rcases hz with z | z
      · rw [decide_eq_true z]; rfl
      · rw [z]; simp
    exact wpAny_binaryOp_repeat_ref (T := "tuple") (U := "int") (by decide) ⟨_, ho, rfl⟩ (fun s' => typeIs_int s' k t) noFill_tuple_mul F.fills_int_mul F.slot_int_rmul repeat_tuple F.slot_int_index.lookup
      (call_meets F.slot_int_rmul (typeIs_int s k t) F.entry_int_rmul (F.args_int_rmul_2 _ _) (int_rmul_tuple k t l its.toArray n dd sl)
        ⟨ho, rfl, ⟨_, ho, rfl⟩, call_meets F.slot_tuple_mul ⟨_, ho, rfl⟩ F.entry_tuple_mul (F.args_tuple_mul_2 _ _) (tuple_mul_same l its.toArray n dd sl k t c0 c1) ⟨ho, ⟨.ref l, H, I, rfl, q1 hz⟩⟩⟩)
  · have hz1 : ¬ xs = [] := fun z => hz (.inl z)
    have hz2 : ¬ k = 1 := fun z => hz (.inr z)
    have hk0 : k ≤ 0 := by
      rcases hk with z | z
      · exact absurd z hz1
      · omega
    have c1 : (its.toArray.isEmpty || k == 1) = false := by
      rw [en, decide_eq_false hz1, Bool.false_or]
      exact beq_eq_false_iff_ne.mpr hz2
    have c2 : (decide (k ≤ 0) || its.toArray.isEmpty) = true := by rw [decide_eq_true hk0]; rfl
    refine wpAny_binaryOp_repeat_ref (T := "tuple") (U := "int") (by decide) ⟨_, ho, rfl⟩ (fun s' => typeIs_int s' k t) noFill_tuple_mul F.fills_int_mul F.slot_int_rmul repeat_tuple F.slot_int_index.lookup
      (call_meets F.slot_int_rmul (typeIs_int s k t) F.entry_int_rmul (F.args_int_rmul_2 _ _) (int_rmul_tuple k t l its.toArray n dd sl)
        ⟨ho, rfl, ⟨_, ho, rfl⟩, call_meets F.slot_tuple_mul ⟨_, ho, rfl⟩ F.entry_tuple_mul (F.args_tuple_mul_2 _ _) (tuple_mul_nil l its.toArray n dd sl k t c0 c1 c2) ⟨ho, ?_⟩⟩)
    refine ⟨.ref s.heap.objs.size, _, I.laid (t' := s.toks) (o := .tup []) (fun b ob q => Heap.get?_push_of_some _ q) (Nat.le_refl _) ?_, rfl, q2 hz1 hk0 _ (I.hok.fresh (Nat.le_refl _))⟩
    exact ⟨Nat.zero_le _, [], .nil, IsTup.new _ _⟩
theorem o_mul : OpR X (binaryOp .Mult) (r2 (cOf X) fMul) := opr fun pins s σ H x y v u Q F io st dx dy d I rx ry sr r1 r2 e q => by
  cases dx <;> cases dy <;> first | (cases e; done) | skip
  · rename_i a b
    have e' : (if (small64 a || small64 b) = true then some (D.int (a * b)) else none) = some d := e
    split at e'
    · rename_i hl
      cases e'
      cases r1
      cases r2
      refine op_mul pins s σ H _ _ v u Q I rx ry ⟨_, _, rfl, rfl, ?_, q _ F H Grow.refl sr (.int _)⟩
      rcases Bool.or_eq_true_iff.mp hl with z | z
      · exact .inl (small64_of z)
      · exact .inr (small64_of z)
    · cases e'
  · rename_i a k
    have e' : (if -9223372036854775808 ≤ k ∧ k ≤ 1000 ∧ a.length ≤ 1000 then some (D.tup (List.replicate k.toNat a).flatten) else none) = some d := e
    split at e'
    · rename_i hl
      obtain ⟨l1, l2, l3⟩ := hl
      cases e'
      cases r2
      cases r1 with
      | tup h1 k1 =>
        rename_i p xs
        have hxs : xs.length = a.length := k1.length
        by_cases hz : xs = [] ∨ k ≤ 1
        · refine op_repT0 pins s σ H _ _ v u Q I rx ry ⟨p, k, xs, rfl, rfl, Sub.sqT sr.sub h1, by omega, by omega, hz, fun z => ?_, fun z0 z p hp => ?_⟩
          · have e2 : (List.replicate k.toNat a).flatten = a := by
              rcases z with z | z
              · rw [z] at hxs
                have : a = [] := List.eq_nil_of_length_eq_zero hxs.symm
                rw [this]
                simp
              · rw [z]; simp
            rw [e2] at q
            exact q _ F H Grow.refl sr (.tup h1 k1)
          · have e3 : k.toNat = 0 := by omega
            rw [e3] at q
            obtain ⟨g, s2, r⟩ := fin_tup (xs := []) (ds := []) sr .nil hp
            exact q _ _ _ g s2 r
        · refine op_repT pins s σ H _ _ v u Q I rx ry ⟨p, k, xs, rfl, rfl, Sub.sqT sr.sub h1, fun z => hz (.inl z), by omega, l2, by omega, fun p hp => ?_⟩
          obtain ⟨g, s2, r⟩ := fin_tup sr (k1.rep k.toNat) hp
          exact q _ _ _ g s2 r
    · cases e'
  · rename_i a k
    have e' : (if -9223372036854775808 ≤ k ∧ k < 9223372036854775808 ∧ a.length * k.toNat ≤ 16777216 then some (D.lst (List.replicate k.toNat a).flatten) else none) = some d := e
    split at e'
    · rename_i hl
      obtain ⟨l1, l2, l3⟩ := hl
      cases e'
      cases r2
      cases r1 with
      | lst h1 k1 =>
        refine op_rep pins s σ H _ _ v u Q I rx ry ⟨_, _, _, rfl, rfl, sr.sub _ _ h1, l1, l2, by rw [k1.length, sizeLine_eq]; exact l3, fun p hp => ?_⟩
        obtain ⟨g, s2, r⟩ := fin_lst sr (k1.rep k.toNat) hp
        exact q _ _ _ g s2 r
    · cases e'
theorem o_div : OpR X (binaryOp .FloorDiv) (r2 (cOf X) fDiv) := opr fun pins s σ H x y v u Q F io st dx dy d I rx ry sr r1 r2 e q => by
  cases dx <;> cases dy <;> first | (cases e; done) | skip
  rename_i a b
  have e' : (if 0 < b ∧ b < 1073741824 then some (D.int (a / b)) else none) = some d := e
  split at e'
  · rename_i hl
    cases e'
    cases r1
    cases r2
    exact op_fdiv pins s σ H _ _ v u Q I rx ry ⟨_, _, rfl, rfl, hl, q _ F H Grow.refl sr (.int _)⟩
  · cases e'
theorem o_mod : OpR X (binaryOp .Mod) (r2 (cOf X) fMod) := opr fun pins s σ H x y v u Q F io st dx dy d I rx ry sr r1 r2 e q => by
  cases dx <;> cases dy <;> first | (cases e; done) | skip
  rename_i a b
  have e' : (if 0 < b then some (D.int (a % b)) else none) = some d := e
  split at e'
  · rename_i hl
    cases e'
    cases r1
    cases r2
    exact op_mod pins s σ H _ _ v u Q I rx ry ⟨_, _, rfl, rfl, hl, q _ F H Grow.refl sr (.int _)⟩
  · cases e'
theorem o_pow : OpR X (binaryOp .Pow) (r2 (cOf X) fPow) := opr fun pins s σ H x y v u Q F io st dx dy d I rx ry sr r1 r2 e q => by
  cases dx <;> cases dy <;> first | (cases e; done) | skip
  rename_i a b
  have e' : (if 0 ≤ b ∧ b ≤ 1000000 ∧ small64 a = true then some (D.int (a ^ b.toNat)) else none) = some d := e
  split at e'
  · rename_i hl
    obtain ⟨l1, l2, l3⟩ := hl
    have l4 := small64_of l3
    cases e'
    cases r1
    cases r2
    refine op_pow pins s σ H _ _ v u Q I rx ry ⟨_, _, rfl, rfl, ⟨l1, l2, by omega⟩, q _ F H Grow.refl sr (.int _)⟩
  · cases e'
end
end DL
set_option Elab.async false
set_option linter.all false
set_option maxRecDepth 100000
set_option maxHeartbeats 4000000
/-! DL3: comparisons, subscripts, slices, built-in calls. -/
namespace DL
open PySem PySem.Spec PyProof.Rows L2

mutual
theorem Rep.dp {c : C} {io : List Addr} {F H : Hp} (s : Sub F H) : ∀ {v : V} {d : D}, Rep c io F v d → pl d = true → Dp c.K H v (toPy d)
  | _, _, .non, _ => .non
  | _, _, .bl b, _ => .bl b
  | _, _, .int i, _ => .int i
  | _, _, .str x, _ => .str _
  | _, _, .tup h r, p => .tup (s.sqT h) (Reps.dp s r (by simpa only [pl] using p))
  | _, _, .lst h r, p => .lst (.inl (.inl (s _ _ h))) (Reps.dp s r (by simpa only [pl] using p))
  | _, _, .scr _, p => by cases p
  | _, _, .dic _ _ _ _, p => by cases p
  | _, _, .dit _ _ _ _ _, p => by cases p
  | _, _, .ref _, p => by cases p
theorem Reps.dp {c : C} {io : List Addr} {F H : Hp} (s : Sub F H) : ∀ {v : List V} {d : List D}, Reps c io F v d → pls d = true → DpAll c.K H v (toPys d)
  | _, _, .nil, _ => .nil
  | _, _, .cons h r, p => by
    simp only [pls, Bool.and_eq_true] at p
    exact .cons (Rep.dp s h p.1) (Reps.dp s r p.2)
end
mutual
theorem plain_toPy : ∀ (d : D), pl d = true → (toPy d).plain = true
  | .non, _ => rfl
  | .bl _, _ => rfl
  | .int _, _ => rfl
  | .str _, _ => rfl
  | .tup ds, p => by
    simp only [toPy, PyData.plain]
    exact plain_toPys ds (by simpa only [pl] using p)
  | .lst ds, p => by
    simp only [toPy, PyData.plain]
    exact plain_toPys ds (by simpa only [pl] using p)
  | .dic _ _ _, p => by cases p
  | .ref _, p => by cases p
  | .scr _, p => by cases p
theorem plain_toPys : ∀ (d : List D), pls d = true → PyData.plainAll (toPys d) = true
  | [], _ => rfl
  | d :: ds, p => by
    simp only [pls, Bool.and_eq_true] at p
    simp only [toPys, PyData.plainAll, Bool.and_eq_true]
    exact ⟨plain_toPy d p.1, plain_toPys ds p.2⟩
end
mutual
theorem depth_toPy : ∀ (d : D), (toPy d).depth ≤ dep d
  | .non => Nat.zero_le _
  | .bl _ => Nat.zero_le _
  | .int _ => Nat.zero_le _
  | .str _ => Nat.zero_le _
  | .tup ds => by
    simp only [toPy, PyData.depth, dep]
    exact Nat.succ_le_succ (depth_toPys ds)
  | .lst ds => by
    simp only [toPy, PyData.depth, dep]
    exact Nat.succ_le_succ (depth_toPys ds)
  | .dic _ _ _ => Nat.zero_le _
  | .ref _ => Nat.zero_le _
  | .scr _ => Nat.zero_le _
theorem depth_toPys : ∀ (d : List D), PyData.depthAll (toPys d) ≤ deps d
  | [] => Nat.zero_le _
  | d :: ds => by
    simp only [toPys, PyData.depthAll, deps]
    have := depth_toPy d
    have := depth_toPys ds
    omega
end
/-- can be compared by == -/
def cmpOk (x y : D) : Bool := pl x && pl y && (decide (dep x ≤ 50) || decide (dep y ≤ 50))
theorem cmpOk_room {x y : D} {n : Nat} (h : cmpOk x y = true) (hu : n + 64 < cLine) : pl x = true ∧ pl y = true ∧ n + min (toPy x).depth (toPy y).depth < cLine := by
  unfold cmpOk at h
  simp only [Bool.and_eq_true, Bool.or_eq_true, decide_eq_true_eq] at h
  have a := depth_toPy x
  have b := depth_toPy y
  exact ⟨h.1.1, h.1.2, by omega⟩
def fEq : F2 := fun _ x y => if cmpOk x y = true then some (.bl (deq x y)) else none
def fNe : F2 := fun _ x y => if cmpOk x y = true then some (.bl (!deq x y)) else none
/-- can be compared by < -/
def ordOk (x y : D) : Bool := cmpOk x y && PySem.W.alike (toPy x) (toPy y) && (match x with | .non => false | _ => true)
def fLt : F2 := fun _ x y => match x, y with
  | .int a, .int b => some (.bl (decide (a < b)))
  | x, y => if ordOk x y = true then some (.bl (dlt x y)) else none
def fGt : F2 := fun _ x y => match x, y with
  | .int a, .int b => some (.bl (decide (b < a)))
  | _, _ => none
def fLe : F2 := fun _ x y => match x, y with
  | .int a, .int b => some (.bl (decide (a ≤ b)))
  | _, _ => none
def fGe : F2 := fun _ x y => match x, y with
  | .int a, .int b => some (.bl (decide (b ≤ a)))
  | _, _ => none
def isNon : D → Bool
  | .non => true
  | _ => false
def fIsN : F2 := fun _ x y => match y with
  | .non => some (.bl (isNon x))
  | _ => none
def fNotN : F2 := fun _ x y => match y with
  | .non => some (.bl (!isNon x))
  | _ => none
section
variable {X : Cx}
theorem o_eq (hu : X.A.units + 64 < cLine) : OpR X (compareOp .Eq) (r2 (cOf X) fEq) := opr fun pins s σ H x y v u Q F io st dx dy d I rx ry sr r1 r2 e q => by
  have e' : (if cmpOk dx dy = true then some (D.bl (deq dx dy)) else none) = some d := e
  split at e'
  · rename_i hl
    cases e'
    obtain ⟨p1, p2, hr⟩ := cmpOk_room hl hu
    obtain ⟨as, q1⟩ := Dp.reads I _ x v (r1.dp sr.sub p1) rx
    obtain ⟨bs, q2⟩ := Dp.reads I _ y u (r2.dp sr.sub p2) ry
    exact PySem.SeqAt.eq_plain q1 q2 (plain_toPy _ p1) (plain_toPy _ p2) hr ⟨.bl _, H, I, rfl, q _ F H Grow.refl sr (.bl _)⟩
  · cases e'
theorem o_ne (hu : X.A.units + 64 < cLine) : OpR X (compareOp .NotEq) (r2 (cOf X) fNe) := opr fun pins s σ H x y v u Q F io st dx dy d I rx ry sr r1 r2 e q => by
  have e' : (if cmpOk dx dy = true then some (D.bl (!deq dx dy)) else none) = some d := e
  split at e'
  · rename_i hl
    cases e'
    obtain ⟨p1, p2, hr⟩ := cmpOk_room hl hu
    obtain ⟨as, q1⟩ := Dp.reads I _ x v (r1.dp sr.sub p1) rx
    obtain ⟨bs, q2⟩ := Dp.reads I _ y u (r2.dp sr.sub p2) ry
    exact PySem.SeqAt.ne_plain q1 q2 (plain_toPy _ p1) (plain_toPy _ p2) hr ⟨.bl _, H, I, rfl, q _ F H Grow.refl sr (.bl _)⟩
  · cases e'
theorem o_lt (hu : X.A.units + 64 < cLine) : OpR X (compareOp .Lt) (r2 (cOf X) fLt) := opr fun pins s σ H x y v u Q F io st dx dy d I rx ry sr r1 r2 e q => by
  have gen : (if ordOk dx dy = true then some (D.bl (dlt dx dy)) else none) = some d → wpAny (model X.prog X.w) X.A (compareOp .Lt v u) (EP X pins σ Q) X.xe s := fun e' => by
    split at e'
    · rename_i hl
      cases e'
      unfold ordOk at hl
      simp only [Bool.and_eq_true] at hl
      obtain ⟨p1, p2, hr⟩ := cmpOk_room hl.1.1 hu
      obtain ⟨as, q1⟩ := Dp.reads I _ x v (r1.dp sr.sub p1) rx
      obtain ⟨bs, q2⟩ := Dp.reads I _ y u (r2.dp sr.sub p2) ry
      refine PySem.W.lt_data q1 q2 hl.1.2 ?_ hr ⟨.bl _, H, I, rfl, q _ F H Grow.refl sr (.bl _)⟩
      intro z
      cases dx <;> first | (cases z; done) | (cases p1; done) | (exact absurd hl.2 (by decide))
    · cases e'
  cases dx <;> cases dy <;> first | exact gen e | skip
  cases e
  cases r1
  cases r2
  exact op_lt pins s σ H _ _ v u Q I rx ry ⟨_, _, rfl, rfl, q _ F H Grow.refl sr (.bl _)⟩
theorem o_gt : OpR X (compareOp .Gt) (r2 (cOf X) fGt) := opr fun pins s σ H x y v u Q F io st dx dy d I rx ry sr r1 r2 e q => by
  cases dx <;> cases dy <;> first | (cases e; done) | skip
  cases e
  cases r1
  cases r2
  exact op_gt pins s σ H _ _ v u Q I rx ry ⟨_, _, rfl, rfl, q _ F H Grow.refl sr (.bl _)⟩
theorem o_le : OpR X (compareOp .LtE) (r2 (cOf X) fLe) := opr fun pins s σ H x y v u Q F io st dx dy d I rx ry sr r1 r2 e q => by
  cases dx <;> cases dy <;> first | (cases e; done) | skip
  cases e
  cases r1
  cases r2
  exact op_le pins s σ H _ _ v u Q I rx ry ⟨_, _, rfl, rfl, q _ F H Grow.refl sr (.bl _)⟩
theorem o_ge : OpR X (compareOp .GtE) (r2 (cOf X) fGe) := opr fun pins s σ H x y v u Q F io st dx dy d I rx ry sr r1 r2 e q => by
  cases dx <;> cases dy <;> first | (cases e; done) | skip
  cases e
  cases r1
  cases r2
  exact op_ge pins s σ H _ _ v u Q I rx ry ⟨_, _, rfl, rfl, q _ F H Grow.refl sr (.bl _)⟩
theorem o_isN : OpR X (compareOp .Is) (r2 (cOf X) fIsN) := opr fun pins s σ H x y v u Q F io st dx dy d I rx ry sr r1 r2 e q => by
  cases dy <;> first | (cases e; done) | skip
  cases e
  cases r2
  refine op_isN pins s σ H _ _ v u Q I rx ry ⟨rfl, ?_⟩
  have := q (.bl (isNon dx)) F H Grow.refl sr (.bl _)
  cases r1 <;> exact this
theorem o_notN : OpR X (compareOp .IsNot) (r2 (cOf X) fNotN) := opr fun pins s σ H x y v u Q F io st dx dy d I rx ry sr r1 r2 e q => by
  cases dy <;> first | (cases e; done) | skip
  cases e
  cases r2
  refine op_notN pins s σ H _ _ v u Q I rx ry ⟨rfl, ?_⟩
  have := q (.bl (!isNon dx)) F H Grow.refl sr (.bl _)
  cases r1 <;> exact this
end

/-! ### in -/
def inOk (x : D) (ys : List D) : Bool := pl x && pls ys && (decide (dep x ≤ 50) || decide (deps ys ≤ 50))
def fInSeq (x : D) (ys : List D) : Option Bool := if inOk x ys = true then some (ys.any fun y => deq y x) else none
theorem inOk_room {x : D} {ys : List D} {n : Nat} (h : inOk x ys = true) (hu : n + 64 < cLine) : pl x = true ∧ pls ys = true ∧ n + 1 + min (PyData.depthAll (toPys ys)) (toPy x).depth < cLine := by
  unfold inOk at h
  simp only [Bool.and_eq_true, Bool.or_eq_true, decide_eq_true_eq] at h
  have a := depth_toPy x
  have b := depth_toPys ys
  exact ⟨h.1.1, h.1.2, by omega⟩
theorem any_toPys (x : D) : ∀ ys : List D, ((toPys ys).any fun y => PyData.eqv y (toPy x)) = ys.any fun y => deq y x
  | [] => rfl
  | y :: ys => by
    rw [toPys, List.any_cons, List.any_cons, any_toPys x ys]
    rfl
/-- a sign in a text; an item in a tuple or a list -/
def inB : Store → D → D → Option Bool := fun st x y => match y with
  | .str z => (match x with
    | .str [c] => some (decide (c ∈ z))
    | _ => none)
  | .tup ys => fInSeq x ys
  | .lst ys => fInSeq x ys
  | .ref n => (match st[n]? with
    | some (.lst ys) => fInSeq x ys
    | _ => none)
  | _ => none
def fIn : F2 := fun st x y => (inB st x y).map .bl
def fNotIn : F2 := fun st x y => (inB st x y).map fun b => .bl (!b)
section
variable {X : Cx}
theorem strOf_sign (c : Nat) : strOf [c] = (⟨#[c]⟩ : Str) := rfl
theorem o_in (hu : X.A.units + 64 < cLine) : OpR X (compareOp .In) (r2 (cOf X) fIn) := opr fun pins s σ H x y v u Q F io st dx dy d I rx ry sr r1 r2 e q => by
  obtain ⟨b, e1, e2⟩ := Option.map_eq_some_iff.mp e
  cases e2
  have fin := q (.bl b) F H Grow.refl sr (.bl b)
  cases dy with
  | str z =>
    cases dx with
    | str w =>
      match w, e1, r1 with
      | [c], e1, r1 =>
        have e1 : some (decide (c ∈ z)) = some b := e1
        cases e1
        cases r1
        cases r2
        refine op_in_sign pins s σ H _ _ v u Q I rx ry ⟨c, strOf z, rfl, rfl, ?_⟩
        rw [cps_strOf]
        exact fin
      | [], e1, _ => cases e1
      | _ :: _ :: _, e1, _ => cases e1
    | _ => cases e1
  | tup ys =>
    have e1 : (if inOk dx ys = true then some (ys.any fun y => deq y dx) else none) = some b := e1
    split at e1
    · rename_i hl
      cases e1
      obtain ⟨p1, p2, hr⟩ := inOk_room hl hu
      obtain ⟨as, q1⟩ := Dp.reads I _ x v (r1.dp sr.sub p1) rx
      obtain ⟨bs, q2⟩ := Dp.reads I _ y u (r2.dp sr.sub (show pl (.tup ys) = true by simpa only [pl] using p2)) ry
      rw [toPy] at q2
      exact PySem.SeqAt.in_tuple_data q2 q1 (plain_toPys _ p2) (plain_toPy _ p1) hr ⟨.bl _, H, I, rfl, by rw [any_toPys]; exact fin⟩
    · cases e1
  | lst ys =>
    have e1 : (if inOk dx ys = true then some (ys.any fun y => deq y dx) else none) = some b := e1
    split at e1
    · rename_i hl
      cases e1
      obtain ⟨p1, p2, hr⟩ := inOk_room hl hu
      obtain ⟨as, q1⟩ := Dp.reads I _ x v (r1.dp sr.sub p1) rx
      obtain ⟨bs, q2⟩ := Dp.reads I _ y u (r2.dp sr.sub (show pl (.lst ys) = true by simpa only [pl] using p2)) ry
      rw [toPy] at q2
      exact PySem.SeqAt.in_list_data q2 q1 (plain_toPys _ p2) (plain_toPy _ p1) hr ⟨.bl _, H, I, rfl, by rw [any_toPys]; exact fin⟩
    · cases e1
  | ref n =>
    cases r2 with
    | ref hn =>
      rename_i a
      cases hs : st[n]? with
      | none => simp only [inB, hs] at e1; cases e1
      | some o =>
        cases o with
        | lst ys =>
          simp only [inB, hs] at e1
          have e1 : (if inOk dx ys = true then some (ys.any fun y => deq y dx) else none) = some b := e1
          split at e1
          · rename_i hl
            cases e1
            obtain ⟨_, ho⟩ := sr.obj n a _ hn hs
            cases ho with
            | lst h1 k1 =>
              obtain ⟨p1, p2, hr⟩ := inOk_room hl hu
              obtain ⟨as, q1⟩ := Dp.reads I _ x v (r1.dp sr.sub p1) rx
              have dd : Dp X.K H (.ref a) (.list (toPys ys)) := .lst (.inl (.inl h1)) (k1.dp sr.sub p2)
              obtain ⟨bs, q2⟩ := Dp.reads I _ _ u dd ry
              exact PySem.SeqAt.in_list_data q2 q1 (plain_toPys _ p2) (plain_toPy _ p1) hr ⟨.bl _, H, I, rfl, by rw [any_toPys]; exact fin⟩
          · cases e1
        | _ => simp only [inB, hs] at e1; cases e1
  | _ => cases e1
theorem o_notIn (hu : X.A.units + 64 < cLine) : OpR X (compareOp .NotIn) (r2 (cOf X) fNotIn) := opr fun pins s σ H x y v u Q F io st dx dy d I rx ry sr r1 r2 e q => by
  obtain ⟨b, e1, e2⟩ := Option.map_eq_some_iff.mp e
  cases e2
  have fin := q (.bl (!b)) F H Grow.refl sr (.bl _)
  cases dy with
  | str z =>
    cases dx with
    | str w =>
      match w, e1, r1 with
      | [c], e1, r1 =>
        have e1 : some (decide (c ∈ z)) = some b := e1
        cases e1
        cases r1
        cases r2
        refine op_notIn_sign pins s σ H _ _ v u Q I rx ry ⟨c, strOf z, rfl, rfl, ?_⟩
        rw [cps_strOf]
        exact fin
      | [], e1, _ => cases e1
      | _ :: _ :: _, e1, _ => cases e1
    | _ => cases e1
  | tup ys =>
    have e1 : (if inOk dx ys = true then some (ys.any fun y => deq y dx) else none) = some b := e1
    split at e1
    · rename_i hl
      cases e1
      obtain ⟨p1, p2, hr⟩ := inOk_room hl hu
      obtain ⟨as, q1⟩ := Dp.reads I _ x v (r1.dp sr.sub p1) rx
      obtain ⟨bs, q2⟩ := Dp.reads I _ y u (r2.dp sr.sub (show pl (.tup ys) = true by simpa only [pl] using p2)) ry
      rw [toPy] at q2
      exact PySem.SeqAt.notIn_tuple_data q2 q1 (plain_toPys _ p2) (plain_toPy _ p1) hr ⟨.bl _, H, I, rfl, by rw [any_toPys]; exact fin⟩
    · cases e1
  | lst ys =>
    have e1 : (if inOk dx ys = true then some (ys.any fun y => deq y dx) else none) = some b := e1
    split at e1
    · rename_i hl
      cases e1
      obtain ⟨p1, p2, hr⟩ := inOk_room hl hu
      obtain ⟨as, q1⟩ := Dp.reads I _ x v (r1.dp sr.sub p1) rx
      obtain ⟨bs, q2⟩ := Dp.reads I _ y u (r2.dp sr.sub (show pl (.lst ys) = true by simpa only [pl] using p2)) ry
      rw [toPy] at q2
      exact PySem.SeqAt.notIn_list_data q2 q1 (plain_toPys _ p2) (plain_toPy _ p1) hr ⟨.bl _, H, I, rfl, by rw [any_toPys]; exact fin⟩
    · cases e1
  | ref n =>
    cases r2 with
    | ref hn =>
      rename_i a
      cases hs : st[n]? with
      | none => simp only [inB, hs] at e1; cases e1
      | some o =>
        cases o with
        | lst ys =>
          simp only [inB, hs] at e1
          have e1 : (if inOk dx ys = true then some (ys.any fun y => deq y dx) else none) = some b := e1
          split at e1
          · rename_i hl
            cases e1
            obtain ⟨_, ho⟩ := sr.obj n a _ hn hs
            cases ho with
            | lst h1 k1 =>
              obtain ⟨p1, p2, hr⟩ := inOk_room hl hu
              obtain ⟨as, q1⟩ := Dp.reads I _ x v (r1.dp sr.sub p1) rx
              have dd : Dp X.K H (.ref a) (.list (toPys ys)) := .lst (.inl (.inl h1)) (k1.dp sr.sub p2)
              obtain ⟨bs, q2⟩ := Dp.reads I _ _ u dd ry
              exact PySem.SeqAt.notIn_list_data q2 q1 (plain_toPys _ p2) (plain_toPy _ p1) hr ⟨.bl _, H, I, rfl, by rw [any_toPys]; exact fin⟩
          · cases e1
        | _ => simp only [inB, hs] at e1; cases e1
  | _ => cases e1
end
end DL
set_option Elab.async false
set_option linter.all false
set_option maxRecDepth 100000
set_option maxHeartbeats 4000000
/-! DL4: subscripts, slices, built-in calls by values. -/
namespace DL
open PySem PySem.Spec PyProof.Rows L2

/-! ### subscripts -/
theorem Reps.atI {c : C} {io : List Addr} {F : Hp} {vs : List V} {ds : List D} (r : Reps c io F vs ds) {i : Int} {d : D} (h : atI ds i = some d) : ∃ v, atI vs i = some v ∧ Rep c io F v d := by
  unfold L2.atI at h ⊢
  rw [r.length]
  obtain ⟨j, h1, h2⟩ := Option.bind_eq_some_iff.mp h
  obtain ⟨v, h3, h4⟩ := r.get h2
  exact ⟨v, by rw [h1]; exact h3, h4⟩
def fIx : F2 := fun st x y => match y with
  | .int i => (match x with
    | .tup ds => atI ds i
    | .lst ds => atI ds i
    | .str z => if z.length ≤ 16777216 then (atI z i).map fun c => .str [c] else none
    | .ref n => (match st[n]? with
      | some (.lst ds) => atI ds i
      | _ => none)
    | _ => none)
  | _ => none
section
variable {X : Cx}
theorem i_ix : IxR X (r2 (cOf X) fIx) := by
  intro va sl pins s σ H x y v u Q I rx ry hq hp
  obtain ⟨F, io, st, dx, dy, d, sr, r1, r2, e, q⟩ := hq
  cases dy with
  | int i =>
    cases r2
    cases dx with
    | tup ds =>
      cases r1 with
      | tup h1 k1 =>
        obtain ⟨w, h3, h4⟩ := k1.atI e
        exact ix_tup va sl pins s σ H _ _ v u Q I rx ry ⟨_, _, _, w, rfl, rfl, Sub.sqT sr.sub h1, h3, q w F H Grow.refl sr h4⟩ hp
    | lst ds =>
      cases r1 with
      | lst h1 k1 =>
        obtain ⟨w, h3, h4⟩ := k1.atI e
        exact ix_list va sl pins s σ H _ _ v u Q I rx ry ⟨_, _, _, w, rfl, rfl, .inl (.inl (sr.sub _ _ h1)), h3, q w F H Grow.refl sr h4⟩ hp
    | str z =>
      have e : (if z.length ≤ 16777216 then (atI z i).map fun c => D.str [c] else none) = some d := e
      split at e
      · rename_i hl
        obtain ⟨c, h1, h2⟩ := Option.map_eq_some_iff.mp e
        cases h2
        cases r1
        exact ix_str va sl pins s σ H _ _ v u Q I rx ry ⟨strOf z, i, c, rfl, rfl, by rw [strOf_len, sizeLine_eq]; exact hl, by rw [cps_strOf]; exact h1, q _ F H Grow.refl sr (.str [c])⟩ hp
      · cases e
    | ref n =>
      cases r1 with
      | ref hn =>
        rename_i a
        cases hs : st[n]? with
        | none => simp only [fIx, hs] at e; cases e
        | some o =>
          cases o with
          | lst ds =>
            simp only [fIx, hs] at e
            obtain ⟨_, ho⟩ := sr.obj n a _ hn hs
            cases ho with
            | lst h1 k1 =>
              obtain ⟨w, h3, h4⟩ := k1.atI e
              exact ix_list va sl pins s σ H _ _ v u Q I rx ry ⟨_, _, _, w, rfl, rfl, .inl (.inl h1), h3, q w F H Grow.refl sr h4⟩ hp
          | _ => simp only [fIx, hs] at e; cases e
    | _ => cases e
  | _ => cases e
theorem de_ix {a b : Expr} {pos : Pos} {da db : Den} (ha : DE X a da) (hb : DE X b db) (hs : PlainIx b := by exact fun _ _ => rfl) : DE X (.Subscript a b pos) (dOp2 fIx da db) :=
  PE.imp (pe_ix i_ix ha hb hs) fun _ _ _ h => tOp_rd h
end

/-! ### slices -/
def cutL {α : Type} (xs : List α) (lo hi : Option Int) : List α := (xs.drop (HT.sIx xs.length 0 lo)).take (HT.sIx xs.length xs.length hi - HT.sIx xs.length 0 lo)
theorem Reps.cut {c : C} {io : List Addr} {F : Hp} {vs : List V} {ds : List D} (r : Reps c io F vs ds) (lo hi : Option Int) : Reps c io F (cutV vs lo hi) (cutL ds lo hi) := by
  unfold cutV cutL
  rw [r.length]
  exact (r.drop _).take _
theorem cutL_whole {α : Type} {xs : List α} {lo hi : Option Int} (h1 : HT.sIx xs.length 0 lo = 0) (h2 : HT.sIx xs.length xs.length hi = xs.length) : cutL xs lo hi = xs := by
  unfold cutL
  rw [h1, h2]
  simp
/-- slices in the store are read too -/
def fSl (st : Store) (x : D) (lo hi : Option Int) : Option D := match x with
  | .tup ds => some (.tup (cutL ds lo hi))
  | .lst ds => some (.lst (cutL ds lo hi))
  | .scr ns => some (.lst ((cutL ns lo hi).map D.int))
  | .str z => if z.length ≤ 16777216 then some (.str (cutL z lo hi)) else none
  | .ref n => (match st[n]? with
    | some (.lst ds) => some (.lst (cutL ds lo hi))
    | _ => none)
  | _ => none
/-- a bound of a slice -/
abbrev DenP := Env → Store → Option (Option Int × Store)
def pNone : DenP := fun _ st => some (none, st)
def pSome (d : Den) : DenP := fun env st => (d env st).bind fun p => match p.1 with
  | .int i => some (some i, p.2)
  | _ => none
def rdP (c : C) (d : DenP) : TO := fun σ H Q => ∃ F io env st x st', Here c F io env st σ H ∧ d env st = some (x, st') ∧
  ∀ F' io' H', Grow F io H F' io' H' → SRel c F' io' st' H' → Q x H'
abbrev DP (X : Cx) (e : Option Expr) (d : DenP) : Prop := PO X e (rdP (cOf X) d)
theorem PO.imp {X : Cx} {e : Option Expr} {t t' : TO} (h : PO X e t) (k : ∀ σ H Q, t' σ H Q → t σ H Q) : PO X e t' := ⟨fun pins s σ H Q I q => h.run pins s σ H Q I (k _ _ _ q)⟩
def dSl (da : Den) (lo hi : DenP) : Den := fun env st => (da env st).bind fun p => (lo env p.2).bind fun l => (hi env l.2).bind fun u => (fSl u.2 p.1 l.1 u.1).map fun d => (d, u.2)
def rSl (c : C) : V → Option Int → Option Int → Hp → VK → Prop := fun x lo hi H Q => ∃ F io st dx d, SRel c F io st H ∧ Rep c io F x dx ∧ fSl st dx lo hi = some d ∧
  ∀ z F' H', Grow F io H F' io H' → SRel c F' io st H' → Rep c io F' z d → Q z H'
theorem reps_ints {c : C} {io : List Addr} {F : Hp} : ∀ ns : List Int, Reps c io F (ns.map V.int) (ns.map D.int)
  | [] => .nil
  | n :: ns => .cons (.int n) (reps_ints ns)
theorem cutS_of (z : List Nat) (lo hi : Option Int) : cutS (strOf z) lo hi = strOf (cutL z lo hi) := by
  unfold cutS cutL
  rw [cps_strOf, strOf_len]
  rfl
section
variable {X : Cx} {e : Expr} {lo hi : Option Expr} {pos p2 : Pos} {da : Den} {dl dh : DenP}
theorem s_sl : SlR X (rSl (cOf X)) := by
  intro pins s σ H x v vl vu lo hi sl Q I rx hs pl pu hq
  obtain ⟨F, io, st, dx, d, sr, r1, e, q⟩ := hq
  cases dx with
  | tup ds =>
    cases e
    cases r1 with
    | tup h1 k1 =>
      rename_i a xs
      refine sl_tupA pins s σ H _ v vl vu lo hi sl Q I rx hs pl pu ⟨a, xs, rfl, Sub.sqT sr.sub h1, fun z => ?_, fun _ p hp => ?_⟩
      · rw [k1.length] at z
        rw [cutL_whole z.1 z.2] at q
        exact q _ F H Grow.refl sr (.tup h1 k1)
      · obtain ⟨g, s2, r⟩ := fin_tup sr (k1.cut lo hi) hp
        exact q _ _ _ g s2 r
  | lst ds =>
    cases e
    cases r1 with
    | lst h1 k1 =>
      refine sl_list pins s σ H _ v vl vu lo hi sl Q I rx hs pl pu ⟨_, _, rfl, .inl (.inl (sr.sub _ _ h1)), fun p hp => ?_⟩
      obtain ⟨g, s2, r⟩ := fin_lst sr (k1.cut lo hi) hp
      exact q _ _ _ g s2 r
  | scr ns =>
    cases e
    cases r1 with
    | scr h1 =>
      refine sl_list pins s σ H _ v vl vu lo hi sl Q I rx hs pl pu ⟨_, _, rfl, Sub.sqL sr.sub h1, fun p hp => ?_⟩
      have e2 : cutV (ns.map V.int) lo hi = (cutL ns lo hi).map V.int := by
        unfold cutV cutL
        rw [List.length_map, List.map_take, List.map_drop]
      rw [e2]
      obtain ⟨g, s2, r⟩ := fin_lst sr (reps_ints (c := cOf X) (io := io) (F := F) (cutL ns lo hi)) hp
      exact q _ _ _ g s2 r
  | str z =>
    have e : (if z.length ≤ 16777216 then some (D.str (cutL z lo hi)) else none) = some d := e
    split at e
    · rename_i hl
      cases e
      cases r1
      refine sl_str pins s σ H _ v vl vu lo hi sl Q I rx hs pl pu ⟨strOf z, rfl, by rw [strOf_len, sizeLine_eq]; exact hl, ?_⟩
      rw [cutS_of]
      exact q _ F H Grow.refl sr (.str _)
    · cases e
  | ref n =>
    cases r1 with
    | ref hn =>
      rename_i a
      cases hs' : st[n]? with
      | none => simp only [fSl, hs'] at e; cases e
      | some o =>
        cases o with
        | lst ds =>
          simp only [fSl, hs'] at e
          cases e
          obtain ⟨_, ho⟩ := sr.obj n a _ hn hs'
          cases ho with
          | lst h1 k1 =>
            refine sl_list pins s σ H _ v vl vu lo hi sl Q I rx hs pl pu ⟨_, _, rfl, .inl (.inl h1), fun p hp => ?_⟩
            obtain ⟨g, s2, r⟩ := fin_lst sr (k1.cut lo hi) hp
            exact q _ _ _ g s2 r
        | _ => simp only [fSl, hs'] at e; cases e
  | _ => cases e
theorem dp_none : DP X none pNone := PO.imp po_none fun σ H Q h => by
  obtain ⟨F, io, env, st, x, st', hh, e, q⟩ := h
  cases e
  exact q F io H Grow.refl hh.s
theorem dp_some (h : DE X e da) : DP X (some e) (pSome da) := PO.imp (po_some h) fun σ H Q h => by
  obtain ⟨F, io, env, st, x, st', hh, hd, q⟩ := h
  obtain ⟨⟨y, st1⟩, h1, hd⟩ := Option.bind_eq_some_iff.mp hd
  cases y with
  | int i =>
    cases hd
    refine ⟨F, io, env, st, _, _, hh, h1, fun v F1 io1 H1 g1 s1 r1 => ?_⟩
    cases r1
    exact ⟨i, rfl, q F1 io1 H1 g1 s1⟩
  | _ => cases hd
theorem de_slice (he : DE X e da) (hl : DP X lo dl) (hu : DP X hi dh) : DE X (.Subscript e (.Slice lo hi none p2) pos) (dSl da dl dh) := by
  refine PE.imp (pe_slice s_sl he hl hu) fun σ H Q h => ?_
  obtain ⟨F, io, env, st, d, st', hh, hd, q⟩ := h
  unfold dSl at hd
  obtain ⟨⟨x, st1⟩, h1, hd⟩ := Option.bind_eq_some_iff.mp hd
  obtain ⟨⟨l, st2⟩, h2, hd⟩ := Option.bind_eq_some_iff.mp hd
  obtain ⟨⟨u, st3⟩, h3, hd⟩ := Option.bind_eq_some_iff.mp hd
  obtain ⟨z, h4, hd⟩ := Option.map_eq_some_iff.mp hd
  cases hd
  refine ⟨F, io, env, st, x, st1, hh, h1, fun v F1 io1 H1 g1 s1 r1 => ?_⟩
  refine ⟨F1, io1, env, st1, l, st2, hh.grow g1 s1, h2, fun F2 io2 H2 g2 s2 => ?_⟩
  refine ⟨F2, io2, env, st2, u, _, (hh.grow g1 s1).grow g2 s2, h3, fun F3 io3 H3 g3 s3 => ?_⟩
  refine ⟨F3, io3, _, x, _, s3, (r1.grow g2).grow g3, h4, fun w F4 H4 g4 s4 r4 => ?_⟩
  exact q w F4 io3 H4 (g1.trans (g2.trans (g3.trans g4))) s4 r4
end

/-! ### [::-1] -/
theorem rev_pick {α : Type} (its : List α) : ((List.range its.length).filterMap fun (k : Nat) => its.toArray[(((its.length : Int) - 1) + (k : Int) * (-1)).toNat]?).toArray = its.reverse.toArray := by
  have h1 : ((List.range its.length).filterMap fun (k : Nat) => its.toArray[(((its.length : Int) - 1) + (k : Int) * (-1)).toNat]?) = ((List.range its.length).map fun k => its.length - 1 - k).filterMap (its.toArray[·]?) := by
    rw [List.filterMap_map]
    congr 1
    funext k
    have e : (((its.length : Int) - 1) + (k : Int) * (-1)).toNat = its.length - 1 - k := by omega
    rw [e]
    first | rfl | done
  rw [h1, PySem.W.krv_range, List.filterMap_reverse]
  have := PySem.W.krv_all its.toArray
  rw [List.size_toArray] at this
  rw [this]
theorem getItem_tuple_rev {prog : Program} {w : World} {A : Around} {E : Value → Shared → Prop} {s : Shared} {t sl : Addr} {its : List Value} {vl vu vs : Value} {Q : Value → Shared → Prop} (ht : IsTup s.heap t its.toArray) (hs : s.heap.IsSliceOf sl vl vu vs) (pl : IsPart vl none) (pu : IsPart vu none) (ps : IsPart vs (some (-1)))
    (h : Q (.ref s.heap.objs.size) { s with heap := s.heap.push { cls := .type "tuple", data := .seq its.reverse.toArray } })
    (hsz : its.length ≤ sizeLine) : wpAny (model prog w) A (getItem (.ref t) (.ref sl)) Q E s := by
  have htake : sizeOk (.seq its.reverse.toArray) := by
    show (its.reverse.toArray).size ≤ sizeLine
    rw [List.size_toArray, List.length_reverse]
    exact hsz
  obtain ⟨os, hos, hcs, hds⟩ := id hs
  have hTs : s.TypeIs (.ref sl) "slice" := ⟨os, hos, hcs⟩
  unfold getItem
  try with_reducible refine wpAny_holding ?_
  first | refine wpAny_bind (wpAny_pure ?_) | skip
  refine wpAny_bind (wpAny_sequenceKey ht.typeIs (by decide) ?_)
  refine wpAny_bind (wpAny_callSpecial?_slot (name := Str.ofString "__getitem__") ht.typeIs PyProof.Rows.slot_tuple_getitem
    (wpAny_call_entry PyProof.Rows.slot_tuple_getitem ht.typeIs entry_tuple_getitem ?_ (args_tuple_getitem _ _)))
  show wpAny _ _ (Builtin.Tuple.tupleItemsOf (.ref t) >>= _) _ _ s
  refine wpAny_bind (tupleItemsOf_ ht ?_)
  refine wpAny_bind (wpAny_typeOf hTs ?_)
  rw [if_pos (by decide)]
  have hsl : wpAny (model prog w) A.in1 (Builtin.Slice.sliceApplied (.ref sl) (pure ((its.toArray.size : Nat) : Int))) (fun r s' => r = ((its.length : Int) - 1, -1, its.length) ∧ s' = s) E s := by
    unfold Builtin.Slice.sliceApplied Builtin.Slice.sliceFields
    refine wpAny_bind (wpAny_bind (wpAny_field hos hds (x := vl) rfl (wpAny_bind (wpAny_field hos hds (x := vu) rfl (wpAny_bind (wpAny_field hos hds (x := vs) rfl (wpAny_pure ?_)))))))
    refine wpAny_bind (HT.slicePart_ ps ?_)
    show wpAny _ _ (if ((-1 : Int) == 0) = true then _ else _) _ _ s
    rw [if_neg (by decide)]
    refine wpAny_bind (HT.slicePart_ pl (wpAny_bind (HT.slicePart_ pu (wpAny_bind (wpAny_pure ?_)))))
    have e1 : Builtin.Slice.sliceAdjust none none (-1) ((its.toArray.size : Nat) : Int) = ((its.length : Int) - 1, -1) := by
      rw [List.size_toArray]
      first | rfl | simp [Builtin.Slice.sliceAdjust]
    have e2 : Builtin.Slice.slicePlaces ((its.length : Int) - 1) (-1) (-1) = its.length := by
      unfold Builtin.Slice.slicePlaces
      have h1 : ¬ ((-1 : Int) > 0) := by omega
      have h2 : (- -1 : Int) = 1 := by decide
      simp only [h1, if_false, h2, Int.ediv_one]
      split <;> omega
    show wpAny _ _ (match Builtin.Slice.sliceAdjust none none (-1) ((its.toArray.size : Nat) : Int) with | (lo, hi) => pure (lo, (-1 : Int), Builtin.Slice.slicePlaces lo hi (-1))) _ _ s
    rw [e1]
    show wpAny _ _ (pure ((its.length : Int) - 1, (-1 : Int), Builtin.Slice.slicePlaces ((its.length : Int) - 1) (-1) (-1))) _ _ s
    rw [e2]
    exact wpAny_pure ⟨rfl, rfl⟩
  refine wpAny_bind (wpAny_mono hsl (fun r s' hr => ?_) fun _ _ z => z)
  obtain ⟨e1, e2⟩ := hr
  subst e1 e2
  have hno : ¬ (((((its.length : Int) - 1) == 0 && (-1 : Int) == 1 && its.length == its.toArray.size)) = true) := by
    intro q
    rw [Bool.and_eq_true, Bool.and_eq_true] at q
    exact absurd q.1.2 (by decide)
  show wpAny _ _ (if ((((its.length : Int) - 1) == 0 && (-1 : Int) == 1 && its.length == its.toArray.size)) = true then _ else _) _ _ s'
  rw [if_neg hno, rev_pick]
  first
    | exact wpAny_bind (m := Builtin.Tuple.tupleExact _) (wpAny_newObj_type (wpAny_pure ⟨_, rfl, wpAny_pure h⟩) htake)
    | exact wpAny_bind (m := Builtin.Tuple.tupleExact _) (wpAny_newObj_type (wpAny_bind (wpAny_pure (wpAny_pure ⟨_, rfl, wpAny_pure h⟩))) htake)
    | exact wpAny_bind (wpAny_bind (m := Builtin.Tuple.tupleExact _) (wpAny_newObj_type (wpAny_pure (wpAny_pure ⟨_, rfl, wpAny_pure h⟩)) htake))
    | exact wpAny_bind (wpAny_bind (m := Builtin.Tuple.tupleExact _) (wpAny_newObj_type (wpAny_pure ⟨_, rfl, wpAny_pure h⟩) htake))
def fRev (x : D) : Option D := match x with
  | .tup ds => some (.tup ds.reverse)
  | .lst ds => some (.lst ds.reverse)
  | _ => none
def dRev (da : Den) : Den := fun env st => (da env st).bind fun p => (fRev p.1).map fun d => (d, p.2)
section
variable {X : Cx} {e : Expr} {da : Den}
def tRevA (K : PySem.W.Frag) (te : TE) : TE := fun σ H Q => te σ H fun x H1 => ∃ a xs, x = .ref a ∧ ((SqL K H1 a xs ∧ ∀ p, H1 p = none → Q (.ref p) (upd H1 p (.lst xs.reverse))) ∨ (SqT K H1 a xs ∧ ∀ p, H1 p = none → Q (.ref p) (upd H1 p (.tup xs.reverse))))
theorem pe_revA {te : TE} {k : Nat} {p1 p2 p3 pos : Pos} (he : PE X e te) : PE X (.Subscript e (.Slice none none (some (.UnaryOp .USub (.Constant (.int 1) k p1) p2)) p3) pos) (tRevA X.K te) := by
  refine ⟨fun pins s σ H Q I h => ?_⟩
  refine Subscript_ (thn (he.run pins s σ H _ I h) fun v s1 ⟨x, H1, I1, r1, q1⟩ => ?_)
  obtain ⟨a, xs, ex, hx⟩ := q1
  subst ex
  cases r1
  have hst : PO X (some (.UnaryOp .USub (.Constant (.int 1) k p1) p2)) (tPart (tUn (rU fun i => .int (-i)) (tC (.int 1)))) := po_some (pe_un un_neg pe_int)
  refine wpAny_Slice (thn (po_none.run pins s1 σ H1 (fun o H2 => o = none ∧ H2 = H1) I1 ⟨rfl, rfl⟩) fun vl s2 ⟨l, H2, I2, pl, el, e2⟩ => ?_)
  subst el e2
  refine thn (po_none.run pins s2 σ H2 (fun o H3 => o = none ∧ H3 = H2) I2 ⟨rfl, rfl⟩) fun vu s3 ⟨u, H3, I3, pu, eu, e3⟩ => ?_
  subst eu e3
  refine thn (hst.run pins s3 σ H3 (fun o H4 => o = some (-1) ∧ H4 = H3) I3 ⟨1, rfl, -1, rfl, rfl, rfl⟩) fun vs s4 ⟨o, H4, I4, ps, eo, e4⟩ => ?_
  subst eo e4
  have I5 : Inv X pins σ H4 { s4 with heap := s4.heap.push { cls := .type "slice", data := .fields #[vl, vu, vs] } } := I4.kept (t' := s4.toks) fun b ob q => Heap.get?_push_of_some _ q
  rcases hx with ⟨hx, q⟩ | ⟨hx, q⟩
  · obtain ⟨its, r, ht, hz⟩ := I5.list hx
    have hlen := r.length
    show wpAny (model X.prog X.w) X.A (subscriptTail e (.Slice none none (some (.UnaryOp .USub (.Constant (.int 1) k p1) p2)) p3) (.ref a) (.ref s4.heap.objs.size)) (EP X pins σ Q) X.xe { s4 with heap := s4.heap.push { cls := .type "slice", data := .fields #[vl, vu, vs] } }
    refine tail_any (ops := [.ref a, .ref s4.heap.objs.size]) ht.isList.typeIs (PySem.slot_list_getitem.lookup) ?_ (by with_unfolding_all rfl)
    refine wpAny_getItem_list_slice ht.isList (Heap.IsSliceOf.new _ vl vu vs) pl pu ps (by decide) ?_ (by rw [List.size_toArray]; omega)
    rw [PySem.W.krv_pick]
    refine ⟨.ref _, _, I5.laid (t' := s4.toks) (o := .lst xs.reverse) (fun b ob q => Heap.get?_push_of_some _ q) (Nat.le_refl _) ?_, rfl, q _ (I5.hok.fresh (Nat.le_refl _))⟩
    exact ⟨by rw [List.length_reverse]; exact hz, _, 0, r.reverse, Heap.get?_push_size _ rfl⟩
  · obtain ⟨its, r, ht, hz⟩ := I5.tuple hx
    have hlen := r.length
    show wpAny (model X.prog X.w) X.A (subscriptTail e (.Slice none none (some (.UnaryOp .USub (.Constant (.int 1) k p1) p2)) p3) (.ref a) (.ref s4.heap.objs.size)) (EP X pins σ Q) X.xe { s4 with heap := s4.heap.push { cls := .type "slice", data := .fields #[vl, vu, vs] } }
    refine tail_any (ops := [.ref a, .ref s4.heap.objs.size]) ht.typeIs (PyProof.Rows.slot_tuple_getitem.lookup) ?_ (by with_unfolding_all rfl)
    refine getItem_tuple_rev ht (Heap.IsSliceOf.new _ vl vu vs) pl pu ps ?_ (by omega)
    refine ⟨.ref _, _, I5.laid (t' := s4.toks) (o := .tup xs.reverse) (fun b ob q => Heap.get?_push_of_some _ q) (Nat.le_refl _) ?_, rfl, q _ (I5.hok.fresh (Nat.le_refl _))⟩
    exact ⟨by rw [List.length_reverse]; exact hz, _, r.reverse, IsTup.new _ _⟩
theorem de_rev {k : Nat} {p1 p2 p3 pos : Pos} (he : DE X e da) : DE X (.Subscript e (.Slice none none (some (.UnaryOp .USub (.Constant (.int 1) k p1) p2)) p3) pos) (dRev da) := by
  refine PE.imp (pe_revA he) fun σ H Q h => ?_
  obtain ⟨F, io, env, st, d, st', hh, hd, q⟩ := h
  unfold dRev at hd
  obtain ⟨⟨x, st1⟩, h1, hd⟩ := Option.bind_eq_some_iff.mp hd
  obtain ⟨z, h2, hd⟩ := Option.map_eq_some_iff.mp hd
  cases hd
  refine ⟨F, io, env, st, x, _, hh, h1, fun v F1 io1 H1 g1 s1 r1 => ?_⟩
  cases x with
  | tup ds =>
    cases h2
    cases r1 with
    | tup k1 k2 =>
      refine ⟨_, _, rfl, .inr ⟨Sub.sqT s1.sub k1, fun p hp => ?_⟩⟩
      obtain ⟨g, s2, r⟩ := fin_tup s1 k2.reverse hp
      exact q _ _ _ _ (g1.trans g) s2 r
  | lst ds =>
    cases h2
    cases r1 with
    | lst k1 k2 =>
      refine ⟨_, _, rfl, .inl ⟨.inl (.inl (s1.sub _ _ k1)), fun p hp => ?_⟩⟩
      obtain ⟨g, s2, r⟩ := fin_lst s1 k2.reverse hp
      exact q _ _ _ _ (g1.trans g) s2 r
  | _ => cases h2
end
end DL
set_option Elab.async false
set_option linter.all false
set_option maxRecDepth 100000
set_option maxHeartbeats 4000000
/-! DL5: built-in functions and methods. -/
namespace DL
open PySem PySem.Spec PyProof.Rows L2

abbrev FC := Store → List D → Option (D × Store)
def rC (c : C) (f : FC) : List V → Hp → VK → Prop := fun xs H Q => ∃ F io st ds d st', SRel c F io st H ∧ Reps c io F xs ds ∧ f st ds = some (d, st') ∧
  ∀ z F' io' H', Grow F io H F' io' H' → SRel c F' io' st' H' → Rep c io' F' z d → Q z H'
def dCall (f : FC) (a : DenA) : Den := fun env st => (a env st).bind fun p => f p.2 p.1
/-- pure ones -/
def pure1 (f : Store → D → Option D) : FC := fun st ds => match ds with
  | [x] => (f st x).map fun d => (d, st)
  | _ => none
def pure2 (f : Store → D → D → Option D) : FC := fun st ds => match ds with
  | [x, y] => (f st x y).map fun d => (d, st)
  | _ => none
section
variable {X : Cx} {e : Expr} {es : List Expr} {pos p : Pos} {a : DenA} {f : FC} {x : Str}
theorem tCB_rd {c : C} {f : FC} {a : DenA} {σ : L2.St} {H : Hp} {Q : VK} (h : rd c (dCall f a) σ H Q) : tCB (rC c f) (rdA c a) σ H Q := by
  obtain ⟨F, io, env, st, d, st', hh, hd, q⟩ := h
  obtain ⟨⟨xs, st1⟩, h1, hd⟩ := Option.bind_eq_some_iff.mp hd
  refine ⟨F, io, env, st, xs, st1, hh, h1, fun vs F1 io1 H1 g1 s1 r1 => ?_⟩
  exact ⟨F1, io1, st1, xs, d, st', s1, r1, hd, fun z F2 io2 H2 g2 s2 r2 => q z F2 io2 H2 (g1.trans g2) s2 r2⟩
theorem de_callB {id : String} (hc : CallR X (.builtin id) (rC (cOf X) f)) (hm : X.mg x = none) (ha : DA X (e :: es) a) (hg : Gl X x := by rfl) (hv : bootBuiltins x = some (.builtin id) := by decide +kernel) (hn : x ≠ "__name__" := by decide) (hdb : (x == ("__debug__" : Str)) = false := by decide)
    (he : starEach (e :: es) X.env = (false, eval e X.env) :: starEach es X.env := by rfl) (hpl : (backTo pos (starEach es X.env)).any (·.1) = false := by rfl) : DE X (.Call (.Name x p) (e :: es) [] pos) (dCall f a) :=
  PE.imp (pe_callB hc hg hm hv ha hn hdb he hpl) fun _ _ _ h => tCB_rd h
theorem de_callT {T : String} (hc : CallR X (.type T) (rC (cOf X) f)) (hm : X.mg x = none) (ha : DA X (e :: es) a) (hg : Gl X x := by rfl) (hv : bootBuiltins x = some (.type T) := by decide +kernel) (hn : x ≠ "__name__" := by decide) (hdb : (x == ("__debug__" : Str)) = false := by decide)
    (he : starEach (e :: es) X.env = (false, eval e X.env) :: starEach es X.env := by rfl) (hpl : (backTo pos (starEach es X.env)).any (·.1) = false := by rfl) : DE X (.Call (.Name x p) (e :: es) [] pos) (dCall f a) :=
  PE.imp (pe_callTy hc hg hm hv ha hn hdb he hpl) fun _ _ _ h => tCB_rd h
/-- a call by cases, one argument -/
theorem cr1 {g : Value} {f : Store → D → Option D} (h : ∀ (pins : List (Addr × Obj)) (s : Shared) (σ : L2.St) (H : Hp) (x : V) (us : List Value) (Q : VK) (F : Hp) (io : List Addr) (st : Store) (dx d : D), Inv X pins σ H s → Vals [x] us → SRel (cOf X) F io st H →
    Rep (cOf X) io F x dx → f st dx = some d → (∀ z F' H', Grow F io H F' io H' → SRel (cOf X) F' io st H' → Rep (cOf X) io F' z d → Q z H') → wpAny (model X.prog X.w) X.A (call g us) (EP X pins σ Q) X.xe s) : CallR X g (rC (cOf X) (pure1 f)) := by
  intro pins s σ H xs us Q I r hq
  obtain ⟨F, io, st, ds, d, st', sr, rs, e, q⟩ := hq
  match ds, rs, e with
  | [dx], .cons r1 .nil, e =>
    obtain ⟨d', h1, h2⟩ := Option.map_eq_some_iff.mp e
    cases h2
    exact h pins s σ H _ us Q F io _ dx _ I r sr r1 h1 fun z F' H' g s2 r2 => q z F' io H' g s2 r2
  | [], _, e => cases e
  | _ :: _ :: _, _, e => cases e
theorem cr2 {g : Value} {f : Store → D → D → Option D} (h : ∀ (pins : List (Addr × Obj)) (s : Shared) (σ : L2.St) (H : Hp) (x y : V) (us : List Value) (Q : VK) (F : Hp) (io : List Addr) (st : Store) (dx dy d : D), Inv X pins σ H s → Vals [x, y] us → SRel (cOf X) F io st H →
    Rep (cOf X) io F x dx → Rep (cOf X) io F y dy → f st dx dy = some d → (∀ z F' H', Grow F io H F' io H' → SRel (cOf X) F' io st H' → Rep (cOf X) io F' z d → Q z H') → wpAny (model X.prog X.w) X.A (call g us) (EP X pins σ Q) X.xe s) : CallR X g (rC (cOf X) (pure2 f)) := by
  intro pins s σ H xs us Q I r hq
  obtain ⟨F, io, st, ds, d, st', sr, rs, e, q⟩ := hq
  match ds, rs, e with
  | [dx, dy], .cons r1 (.cons r2 .nil), e =>
    obtain ⟨d', h1, h2⟩ := Option.map_eq_some_iff.mp e
    cases h2
    exact h pins s σ H _ _ us Q F io _ dx dy _ I r sr r1 r2 h1 fun z F' H' g s2 r3 => q z F' io H' g s2 r3
  | [], _, e => cases e
  | [_], _, e => cases e
  | _ :: _ :: _ :: _, _, e => cases e
end

/-! ### len -/
def fLen (st : Store) (x : D) : Option D := match x with
  | .tup ds => some (.int ds.length)
  | .lst ds => some (.int ds.length)
  | .scr ns => some (.int ns.length)
  | .str z => if z.length ≤ 16777216 then some (.int z.length) else none
  | .ref n => (match st[n]? with
    | some (.lst ds) => some (.int ds.length)
    | _ => none)
  | _ => none
def fInt (_ : Store) (x : D) : Option D := match x with
  | .int i => some (.int i)
  | .bl b => some (.int (if b then 1 else 0))
  | _ => none
def fMin2 (_ : Store) (x y : D) : Option D := match x, y with
  | .int i, .int j => some (.int (if j < i then j else i))
  | _, _ => none
def fMax2 (_ : Store) (x y : D) : Option D := match x, y with
  | .int i, .int j => some (.int (if j > i then j else i))
  | _, _ => none
/-- lists of ints, bools, texts -/
def intsD : List D → Option (List Int)
  | [] => some []
  | .int i :: ds => (intsD ds).map (i :: ·)
  | _ => none
def boolsD : List D → Option (List Bool)
  | [] => some []
  | .bl i :: ds => (boolsD ds).map (i :: ·)
  | _ => none
def strsD : List D → Option (List (List Nat))
  | [] => some []
  | .str i :: ds => (strsD ds).map (i :: ·)
  | _ => none
theorem ints_map : ∀ {ds : List D} {ns : List Int}, intsD ds = some ns → ds = ns.map D.int
  | [], _, h => by cases h; rfl
  | d :: ds, ns, h => by
    cases d with
    | int i =>
      obtain ⟨ms, h1, h2⟩ := Option.map_eq_some_iff.mp h
      rw [← h2, ints_map h1]; rfl
    | _ => cases h
theorem bools_map : ∀ {ds : List D} {ns : List Bool}, boolsD ds = some ns → ds = ns.map D.bl
  | [], _, h => by cases h; rfl
  | d :: ds, ns, h => by
    cases d with
    | bl i =>
      obtain ⟨ms, h1, h2⟩ := Option.map_eq_some_iff.mp h
      rw [← h2, bools_map h1]; rfl
    | _ => cases h
theorem strs_map : ∀ {ds : List D} {ns : List (List Nat)}, strsD ds = some ns → ds = ns.map D.str
  | [], _, h => by cases h; rfl
  | d :: ds, ns, h => by
    cases d with
    | str i =>
      obtain ⟨ms, h1, h2⟩ := Option.map_eq_some_iff.mp h
      rw [← h2, strs_map h1]; rfl
    | _ => cases h
theorem ints_of (ns : List Int) : intsD (ns.map D.int) = some ns := by
  induction ns with
  | nil => rfl
  | cons n ns ih => rw [List.map_cons, intsD, ih]; rfl
theorem bools_of (ns : List Bool) : boolsD (ns.map D.bl) = some ns := by
  induction ns with
  | nil => rfl
  | cons n ns ih => rw [List.map_cons, boolsD, ih]; rfl
theorem strs_of (ns : List (List Nat)) : strsD (ns.map D.str) = some ns := by
  induction ns with
  | nil => rfl
  | cons n ns ih => rw [List.map_cons, strsD, ih]; rfl
theorem Reps.intsV {c : C} {io : List Addr} {F : Hp} : ∀ {ns : List Int} {vs : List V}, Reps c io F vs (ns.map D.int) → vs = ns.map V.int
  | [], _, r => by cases r; rfl
  | n :: ns, _, r => by
    cases r with
    | cons r t => cases r; rw [Reps.intsV t]; rfl
theorem Reps.boolsV {c : C} {io : List Addr} {F : Hp} : ∀ {ns : List Bool} {vs : List V}, Reps c io F vs (ns.map D.bl) → vs = ns.map V.bl
  | [], _, r => by cases r; rfl
  | n :: ns, _, r => by
    cases r with
    | cons r t => cases r; rw [Reps.boolsV t]; rfl
theorem Reps.strsV {c : C} {io : List Addr} {F : Hp} : ∀ {ns : List (List Nat)} {vs : List V}, Reps c io F vs (ns.map D.str) → vs = (ns.map strOf).map V.str
  | [], _, r => by cases r; rfl
  | n :: ns, _, r => by
    cases r with
    | cons r t => cases r; rw [Reps.strsV t]; rfl
/-- the items of a list, frozen or in the store -/
def itemsOf (st : Store) (x : D) : Option (List D) := match x with
  | .lst ds => some ds
  | .ref n => (match st[n]? with
    | some (.lst ds) => some ds
    | _ => none)
  | _ => none
theorem itemsOf_list {c : C} {F H : Hp} {io : List Addr} {st : Store} {v : V} {x : D} {ds : List D} (s : SRel c F io st H) (r : Rep c io F v x) (h : itemsOf st x = some ds) : ∃ a xs, v = .ref a ∧ H a = some (.lst xs) ∧ Reps c io F xs ds := by
  cases x with
  | lst es =>
    cases h
    cases r with
    | lst h1 k1 => exact ⟨_, _, rfl, s.sub _ _ h1, k1⟩
  | ref n =>
    cases r with
    | ref hn =>
      cases hs : st[n]? with
      | none => simp only [itemsOf, hs] at h; cases h
      | some o =>
        cases o with
        | lst es =>
          simp only [itemsOf, hs] at h
          cases h
          obtain ⟨_, ho⟩ := s.obj n _ _ hn hs
          cases ho with
          | lst h1 k1 => exact ⟨_, _, rfl, h1, k1⟩
        | _ => simp only [itemsOf, hs] at h; cases h
  | _ => cases h
def fSum (st : Store) (x : D) : Option D := (itemsOf st x).bind fun ds => (intsD ds).map fun ns => .int ns.sum
def fAll (st : Store) (x : D) : Option D := (itemsOf st x).bind fun ds => (boolsD ds).map fun bs => .bl (bs.all id)
def fAny (st : Store) (x : D) : Option D := (itemsOf st x).bind fun ds => (boolsD ds).map fun bs => .bl (bs.any id)
def minI : List Int → Option Int
  | [] => none
  | n :: ns => some (ns.foldl min n)
def maxI : List Int → Option Int
  | [] => none
  | n :: ns => some (ns.foldl max n)
def fMinL (st : Store) (x : D) : Option D := (itemsOf st x).bind fun ds => (intsD ds).bind fun ns => (minI ns).map .int
def fMaxL (st : Store) (x : D) : Option D := (itemsOf st x).bind fun ds => (intsD ds).bind fun ns => (maxI ns).map .int
theorem foldMin : ∀ (ns : List Int) (n : Int), (ns.foldl min n = n ∨ ns.foldl min n ∈ ns) ∧ ns.foldl min n ≤ n ∧ ∀ y ∈ ns, ns.foldl min n ≤ y
  | [], n => ⟨.inl rfl, Int.le_refl _, fun y hy => by cases hy⟩
  | k :: ns, n => by
    obtain ⟨h1, h2, h3⟩ := foldMin ns (min n k)
    rw [List.foldl_cons]
    refine ⟨?_, by omega, fun y hy => ?_⟩
    · rcases h1 with e | e
      · rw [e]
        by_cases hk : n ≤ k
        · exact .inl (Int.min_eq_left hk)
        · exact .inr (by rw [Int.min_eq_right (by omega)]; exact List.mem_cons_self)
      · exact .inr (List.mem_cons_of_mem _ e)
    · rcases List.mem_cons.mp hy with e | hy
      · rw [e]; omega
      · exact h3 y hy
theorem foldMax : ∀ (ns : List Int) (n : Int), (ns.foldl max n = n ∨ ns.foldl max n ∈ ns) ∧ n ≤ ns.foldl max n ∧ ∀ y ∈ ns, y ≤ ns.foldl max n
  | [], n => ⟨.inl rfl, Int.le_refl _, fun y hy => by cases hy⟩
  | k :: ns, n => by
    obtain ⟨h1, h2, h3⟩ := foldMax ns (max n k)
    rw [List.foldl_cons]
    refine ⟨?_, by omega, fun y hy => ?_⟩
    · rcases h1 with e | e
      · rw [e]
        by_cases hk : k ≤ n
        · exact .inl (Int.max_eq_left hk)
        · exact .inr (by rw [Int.max_eq_right (by omega)]; exact List.mem_cons_self)
      · exact .inr (List.mem_cons_of_mem _ e)
    · rcases List.mem_cons.mp hy with e | hy
      · rw [e]; omega
      · exact h3 y hy
theorem minI_spec {ns : List Int} {m : Int} (h : minI ns = some m) : m ∈ ns ∧ ∀ y ∈ ns, m ≤ y := by
  cases ns with
  | nil => cases h
  | cons n ns =>
    have h : some (ns.foldl min n) = some m := h
    cases h
    obtain ⟨h1, h2, h3⟩ := foldMin ns n
    refine ⟨?_, fun y hy => ?_⟩
    · rcases h1 with e | e
      · rw [e]; exact List.mem_cons_self
      · exact List.mem_cons_of_mem _ e
    · rcases List.mem_cons.mp hy with e | hy
      · rw [e]; exact h2
      · exact h3 y hy
theorem maxI_spec {ns : List Int} {m : Int} (h : maxI ns = some m) : m ∈ ns ∧ ∀ y ∈ ns, y ≤ m := by
  cases ns with
  | nil => cases h
  | cons n ns =>
    have h : some (ns.foldl max n) = some m := h
    cases h
    obtain ⟨h1, h2, h3⟩ := foldMax ns n
    refine ⟨?_, fun y hy => ?_⟩
    · rcases h1 with e | e
      · rw [e]; exact List.mem_cons_self
      · exact List.mem_cons_of_mem _ e
    · rcases List.mem_cons.mp hy with e | hy
      · rw [e]; exact h2
      · exact h3 y hy
section
variable {X : Cx}
theorem c_len : CallR X (.builtin "len") (rC (cOf X) (pure1 fLen)) := cr1 fun pins s σ H x us Q F io st dx d I r sr r1 e q => by
  cases dx with
  | tup ds =>
    cases e
    cases r1 with
    | tup h1 k1 => exact call_len_seq pins s σ H _ us Q I r ⟨_, _, rfl, .inr (Sub.sqT sr.sub h1), by rw [k1.length]; exact q _ F H Grow.refl sr (.int _)⟩
  | lst ds =>
    cases e
    cases r1 with
    | lst h1 k1 => exact call_len_seq pins s σ H _ us Q I r ⟨_, _, rfl, .inl (.inl (.inl (sr.sub _ _ h1))), by rw [k1.length]; exact q _ F H Grow.refl sr (.int _)⟩
  | scr ns =>
    cases e
    cases r1 with
    | scr h1 => exact call_len_seq pins s σ H _ us Q I r ⟨_, _, rfl, .inl (Sub.sqL sr.sub h1), by rw [List.length_map]; exact q _ F H Grow.refl sr (.int _)⟩
  | str z =>
    have e : (if z.length ≤ 16777216 then some (D.int z.length) else none) = some d := e
    split at e
    · rename_i hl
      cases e
      cases r1
      exact call_len_str pins s σ H _ us Q I r ⟨_, rfl, by rw [strOf_len, sizeLine_eq]; exact hl, by rw [strOf_len]; exact q _ F H Grow.refl sr (.int _)⟩
    · cases e
  | ref n =>
    cases hs : st[n]? with
    | none => simp only [fLen, hs] at e; cases e
    | some o =>
      cases o with
      | lst ds =>
        simp only [fLen, hs] at e
        cases e
        obtain ⟨a, xs, rfl, h1, k1⟩ := itemsOf_list (ds := ds) sr r1 (by simp only [itemsOf, hs])
        exact call_len_seq pins s σ H _ us Q I r ⟨_, _, rfl, .inl (.inl (.inl h1)), by rw [k1.length]; exact q _ F H Grow.refl sr (.int _)⟩
      | _ => simp only [fLen, hs] at e; cases e
  | _ => cases e
theorem c_int : CallR X (.type "int") (rC (cOf X) (pure1 fInt)) := cr1 fun pins s σ H x us Q F io st dx d I r sr r1 e q => by
  cases dx with
  | int i =>
    cases e
    cases r1
    exact call_int1 pins s σ H _ us Q I r (.inl ⟨_, rfl, q _ F H Grow.refl sr (.int _)⟩)
  | bl b =>
    cases e
    cases r1
    exact call_int1 pins s σ H _ us Q I r (.inr ⟨_, rfl, q _ F H Grow.refl sr (.int _)⟩)
  | _ => cases e
theorem c_min2 (hc : X.calm = true) : CallR X (.builtin "min") (rC (cOf X) (pure2 fMin2)) := cr2 fun pins s σ H x y us Q F io st dx dy d I r sr r1 r2 e q => by
  cases dx <;> cases dy <;> first | (cases e; done) | skip
  cases e
  cases r1
  cases r2
  exact call_min2 hc pins s σ H _ us Q I r ⟨_, _, rfl, q _ F H Grow.refl sr (.int _)⟩
theorem c_max2 (hc : X.calm = true) : CallR X (.builtin "max") (rC (cOf X) (pure2 fMax2)) := cr2 fun pins s σ H x y us Q F io st dx dy d I r sr r1 r2 e q => by
  cases dx <;> cases dy <;> first | (cases e; done) | skip
  cases e
  cases r1
  cases r2
  exact call_max2 hc pins s σ H _ us Q I r ⟨_, _, rfl, q _ F H Grow.refl sr (.int _)⟩
theorem c_sum (hc : X.calm = true) : CallR X (.builtin "sum") (rC (cOf X) (pure1 fSum)) := cr1 fun pins s σ H x us Q F io st dx d I r sr r1 e q => by
  obtain ⟨ds, h1, e⟩ := Option.bind_eq_some_iff.mp e
  obtain ⟨ns, h2, e⟩ := Option.map_eq_some_iff.mp e
  cases e
  obtain ⟨a, xs, rfl, h3, k1⟩ := itemsOf_list sr r1 h1
  rw [ints_map h2] at k1
  rw [k1.intsV] at h3
  exact cr_sum hc pins s σ H _ us Q I r ⟨a, ns, rfl, .inl (.inl h3), q _ F H Grow.refl sr (.int _)⟩
theorem c_all (hc : X.calm = true) : CallR X (.builtin "all") (rC (cOf X) (pure1 fAll)) := cr1 fun pins s σ H x us Q F io st dx d I r sr r1 e q => by
  obtain ⟨ds, h1, e⟩ := Option.bind_eq_some_iff.mp e
  obtain ⟨ns, h2, e⟩ := Option.map_eq_some_iff.mp e
  cases e
  obtain ⟨a, xs, rfl, h3, k1⟩ := itemsOf_list sr r1 h1
  rw [bools_map h2] at k1
  rw [k1.boolsV] at h3
  exact cr_all hc pins s σ H _ us Q I r ⟨a, ns, rfl, .inl (.inl h3), q _ F H Grow.refl sr (.bl _)⟩
theorem c_any (hc : X.calm = true) : CallR X (.builtin "any") (rC (cOf X) (pure1 fAny)) := cr1 fun pins s σ H x us Q F io st dx d I r sr r1 e q => by
  obtain ⟨ds, h1, e⟩ := Option.bind_eq_some_iff.mp e
  obtain ⟨ns, h2, e⟩ := Option.map_eq_some_iff.mp e
  cases e
  obtain ⟨a, xs, rfl, h3, k1⟩ := itemsOf_list sr r1 h1
  rw [bools_map h2] at k1
  rw [k1.boolsV] at h3
  exact cr_any hc pins s σ H _ us Q I r ⟨a, ns, rfl, .inl (.inl h3), q _ F H Grow.refl sr (.bl _)⟩
theorem c_minL (hc : X.calm = true) : CallR X (.builtin "min") (rC (cOf X) (pure1 fMinL)) := cr1 fun pins s σ H x us Q F io st dx d I r sr r1 e q => by
  obtain ⟨ds, h1, e⟩ := Option.bind_eq_some_iff.mp e
  obtain ⟨ns, h2, e⟩ := Option.bind_eq_some_iff.mp e
  obtain ⟨m, h4, e⟩ := Option.map_eq_some_iff.mp e
  cases e
  obtain ⟨a, xs, rfl, h3, k1⟩ := itemsOf_list sr r1 h1
  rw [ints_map h2] at k1
  rw [k1.intsV] at h3
  obtain ⟨m1, m2⟩ := minI_spec h4
  refine cr_min hc pins s σ H _ us Q I r ⟨a, ns, rfl, .inl (.inl h3), List.length_pos_of_mem m1, fun k hk1 hk2 => ?_⟩
  have : k = m := Int.le_antisymm (hk2 m m1) (m2 k hk1)
  subst this
  exact q _ F H Grow.refl sr (.int _)
theorem c_maxL (hc : X.calm = true) : CallR X (.builtin "max") (rC (cOf X) (pure1 fMaxL)) := cr1 fun pins s σ H x us Q F io st dx d I r sr r1 e q => by
  obtain ⟨ds, h1, e⟩ := Option.bind_eq_some_iff.mp e
  obtain ⟨ns, h2, e⟩ := Option.bind_eq_some_iff.mp e
  obtain ⟨m, h4, e⟩ := Option.map_eq_some_iff.mp e
  cases e
  obtain ⟨a, xs, rfl, h3, k1⟩ := itemsOf_list sr r1 h1
  rw [ints_map h2] at k1
  rw [k1.intsV] at h3
  obtain ⟨m1, m2⟩ := maxI_spec h4
  refine cr_max hc pins s σ H _ us Q I r ⟨a, ns, rfl, .inl (.inl h3), List.length_pos_of_mem m1, fun k hk1 hk2 => ?_⟩
  have : k = m := Int.le_antisymm (m2 k hk1) (hk2 m m1)
  subst this
  exact q _ F H Grow.refl sr (.int _)
end

/-! ### list(x), tuple(x) -/
def seqOf (st : Store) (x : D) : Option (List D) := match x with
  | .lst ds => some ds
  | .tup ds => some ds
  | .ref n => (match st[n]? with
    | some (.lst ds) => some ds
    | _ => none)
  | _ => none
theorem seqOf_seq {c : C} {F H : Hp} {io : List Addr} {st : Store} {v : V} {x : D} {ds : List D} (s : SRel c F io st H) (r : Rep c io F v x) (h : seqOf st x = some ds) : ∃ a xs, v = .ref a ∧ (SqL c.K H a xs ∨ SqT c.K H a xs) ∧ Reps c io F xs ds := by
  cases x with
  | tup es =>
    cases h
    cases r with
    | tup h1 k1 => exact ⟨_, _, rfl, .inr (Sub.sqT s.sub h1), k1⟩
  | lst es =>
    obtain ⟨a, xs, e, h1, k⟩ := itemsOf_list s r (ds := ds) h
    exact ⟨a, xs, e, .inl (.inl (.inl h1)), k⟩
  | ref n =>
    obtain ⟨a, xs, e, h1, k⟩ := itemsOf_list s r (ds := ds) h
    exact ⟨a, xs, e, .inl (.inl (.inl h1)), k⟩
  | _ => cases h
def fList : FC := pure1 fun st x => (seqOf st x).map .lst
def fListR : FC := fun st ds => match ds with
  | [x] => (seqOf st x).map fun es => (.ref st.length, st ++ [.lst es])
  | _ => none
def fTuple (st : Store) (x : D) : Option D := (seqOf st x).map .tup
section
variable {X : Cx}
theorem c_list : CallR X (.type "list") (rC (cOf X) fList) := cr1 fun pins s σ H x us Q F io st dx d I r sr r1 e q => by
  obtain ⟨ds, h1, e⟩ := Option.map_eq_some_iff.mp e
  cases e
  obtain ⟨a, xs, rfl, h3, k1⟩ := seqOf_seq sr r1 h1
  refine call_list_of pins s σ H _ us Q I r ⟨a, xs, rfl, h3, fun l hl => ?_⟩
  obtain ⟨g, s2, r⟩ := fin_lst sr k1 hl
  exact q _ _ _ g s2 r
theorem c_listR : CallR X (.type "list") (rC (cOf X) fListR) := by
  intro pins s σ H xs us Q I r hq
  obtain ⟨F, io, st, ds, d, st', sr, rs, e, q⟩ := hq
  match ds, rs, e with
  | [dx], .cons r1 .nil, e =>
    obtain ⟨es, h1, e⟩ := Option.map_eq_some_iff.mp e
    cases e
    obtain ⟨a, xs, rfl, h3, k1⟩ := seqOf_seq sr r1 h1
    refine call_list_of pins s σ H _ us Q I r ⟨a, xs, rfl, h3, fun l hl => ?_⟩
    obtain ⟨g, s2, r⟩ := fin_lstR sr k1 hl
    exact q _ _ _ _ g s2 r
  | [], _, e => cases e
  | _ :: _ :: _, _, e => cases e
theorem c_tuple : CallR X (.type "tuple") (rC (cOf X) (pure1 fTuple)) := cr1 fun pins s σ H x us Q F io st dx d I r sr r1 e q => by
  obtain ⟨ds, h1, e⟩ := Option.map_eq_some_iff.mp e
  cases e
  obtain ⟨a, xs, rfl, h3, k1⟩ := seqOf_seq sr r1 h1
  rcases h3 with h3 | h3
  · refine call_tuple_of pins s σ H _ us Q I r ⟨a, xs, rfl, .inl ⟨h3, fun l hl => ?_⟩⟩
    obtain ⟨g, s2, r⟩ := fin_tup sr k1 hl
    exact q _ _ _ g s2 r
  · cases dx with
    | tup es =>
      cases r1 with
      | tup h4 k4 =>
        cases h1
        exact call_tuple_of pins s σ H _ us Q I r ⟨a, xs, rfl, .inr ⟨h3, q _ F H Grow.refl sr (.tup h4 k4)⟩⟩
    | lst es =>
      cases r1 with
      | lst h4 k4 =>
        cases h1
        refine call_tuple_of pins s σ H _ us Q I r ⟨a, _, rfl, .inl ⟨.inl (.inl (sr.sub _ _ h4)), fun l hl => ?_⟩⟩
        obtain ⟨g, s2, r⟩ := fin_tup sr k4 hl
        exact q _ _ _ g s2 r
    | ref n =>
      obtain ⟨a', xs', e', h4, k4⟩ := itemsOf_list sr r1 (ds := ds) h1
      cases e'
      refine call_tuple_of pins s σ H _ us Q I r ⟨a, _, rfl, .inl ⟨.inl (.inl h4), fun l hl => ?_⟩⟩
      obtain ⟨g, s2, r⟩ := fin_tup sr k4 hl
      exact q _ _ _ g s2 r
    | _ => cases h1
end

/-! ### sorted(a list) -/
def dle (a b : D) : Bool := !dlt b a
def isTup1 : D → Bool
  | .tup (_ :: _) => true
  | _ => false
def noTup : D → Bool
  | .tup _ => false
  | .non => false
  | _ => true
def sortOk (ds : List D) : Bool := pls ds && decide (deps ds ≤ 50) && (ds.all fun a => ds.all fun b => PySem.W.alike (toPy a) (toPy b)) && (ds.all isTup1 || ds.all noTup) && decide (ds.length ≤ 16777216)
def fSorted (st : Store) (x : D) : Option D := (itemsOf st x).bind fun ds => if sortOk ds = true then some (.lst (ds.mergeSort dle)) else none
section
variable {X : Cx}
theorem toPys_map : ∀ ds : List D, toPys ds = ds.map toPy
  | [] => rfl
  | d :: ds => by rw [toPys, toPys_map ds]; rfl
theorem pls_mem : ∀ {ds : List D}, pls ds = true → ∀ d ∈ ds, pl d = true
  | d :: ds, h, e, he => by
    simp only [pls, Bool.and_eq_true] at h
    rcases List.mem_cons.mp he with z | z
    · rw [z]; exact h.1
    · exact pls_mem h.2 e z
theorem deps_mem : ∀ {ds : List D} {n : Nat}, deps ds ≤ n → ∀ d ∈ ds, dep d ≤ n
  | d :: ds, n, h, e, he => by
    simp only [deps] at h
    rcases List.mem_cons.mp he with z | z
    · rw [z]; omega
    · exact deps_mem (by omega) e z
theorem noTup_spec {d : D} (h : noTup d = true) (p : pl d = true) : toPy d ≠ .none ∧ ∀ xs, toPy d ≠ .tuple xs := by
  cases d <;> first | (cases h; done) | (cases p; done) | skip
  all_goals (refine ⟨?_, ?_⟩ <;> intros <;> intro z <;> simp [toPy] at z)
/-- sorting values that stand for pairs -/
theorem each_pairs {c : C} {io : List Addr} {F : Hp} {X : Cx} : ∀ {vs : List V} {ds : List D} {us : List Value}, Reps c io F vs ds → Vals vs us → PySem.W.EachIs (fun u (p : V × D) => RelV p.1 u ∧ Rep c io F p.1 p.2) us (vs.zip ds) := by
  intro vs
  induction vs with
  | nil =>
    intro ds us r rv
    cases r
    cases rv
    exact .nil
  | cons v vs ih =>
    intro ds us r rv
    cases r with
    | cons r t =>
      cases rv with
      | cons rv tv => exact .cons ⟨rv, r⟩ (ih t tv)
theorem pairs_out {c : C} {io : List Addr} {F : Hp} : ∀ {us : List Value} {ps : List (V × D)}, PySem.W.EachIs (fun u (p : V × D) => RelV p.1 u ∧ Rep c io F p.1 p.2) us ps → Vals (ps.map (·.1)) us ∧ Reps c io F (ps.map (·.1)) (ps.map (·.2))
  | _, _, .nil => ⟨.nil, .nil⟩
  | _, _, .cons h t => by
    obtain ⟨h1, h2⟩ := pairs_out t
    exact ⟨.cons h.1 h1, .cons h.2 h2⟩
theorem c_sorted (hu : X.A.units + 64 < cLine) : CallR X (.builtin "sorted") (rC (cOf X) (pure1 fSorted)) := cr1 fun pins s σ H x us Q F io st dx d I r sr r1 e q => by
  obtain ⟨ds, h1, e⟩ := Option.bind_eq_some_iff.mp e
  split at e
  · rename_i hok
    cases e
    unfold sortOk at hok
    simp only [Bool.and_eq_true, decide_eq_true_eq, Bool.or_eq_true, List.all_eq_true] at hok
    obtain ⟨⟨⟨⟨o1, o2⟩, o3⟩, o4⟩, o5⟩ := hok
    obtain ⟨a, xs, rfl, h3, k1⟩ := itemsOf_list sr r1 h1
    obtain ⟨its, rv, hl, hz⟩ := I.list (.inl (.inl h3))
    rw [Vals.ref1 r]
    have hlen := k1.length
    have hE := each_pairs (X := X) k1 rv
    have hzl : (xs.zip ds).length = ds.length := by rw [List.length_zip, hlen]; omega
    have hmem : ∀ p ∈ xs.zip ds, p.2 ∈ ds := fun p hp => (List.of_mem_zip hp).2
    have hread : PySem.W.EachIs (fun v (b : V × D) => ∃ as, Reads s.heap v (toPy b.2) as) its (xs.zip ds) := by
      have gen : ∀ {us : List Value} {ps : List (V × D)}, (∀ p ∈ ps, p.2 ∈ ds) → PySem.W.EachIs (fun u (p : V × D) => RelV p.1 u ∧ Rep (cOf X) io F p.1 p.2) us ps → PySem.W.EachIs (fun v (b : V × D) => ∃ as, Reads s.heap v (toPy b.2) as) us ps := by
        intro us ps hp he
        induction he with
        | nil => exact .nil
        | cons h t ih =>
          refine .cons ?_ (ih fun p hp' => hp p (List.mem_cons_of_mem _ hp'))
          exact Dp.reads I _ _ _ (h.2.dp sr.sub (pls_mem o1 _ (hp _ List.mem_cons_self))) h.1
      exact gen hmem hE
    refine PySem.W.sorted_data (enc := fun b : V × D => toPy b.2) hl.isList hE hread (fun x hx y hy => ?_) ?_ (by rw [hzl, sizeLine_eq]; exact o5) (fun b hb => ?_) fun out ho hE' => ?_
    · obtain ⟨p, hp, rfl⟩ := List.mem_map.mp hx
      obtain ⟨p', hp', rfl⟩ := List.mem_map.mp hy
      exact o3 _ (hmem p hp) _ (hmem p' hp')
    · rcases o4 with o4 | o4
      · refine .inl fun x hx => ?_
        obtain ⟨p, hp, rfl⟩ := List.mem_map.mp hx
        have := o4 _ (hmem p hp)
        cases hp2 : p.2 with
        | tup es =>
          rw [hp2] at this
          cases es with
          | nil => cases this
          | cons z zs => exact ⟨_, _, rfl⟩
        | _ => rw [hp2] at this; cases this
      · refine .inr fun x hx => ?_
        obtain ⟨p, hp, rfl⟩ := List.mem_map.mp hx
        exact noTup_spec (o4 _ (hmem p hp)) (pls_mem o1 _ (hmem p hp))
    · have := deps_mem o2 _ (hmem b hb)
      have := depth_toPy b.2
      omega
    · obtain ⟨v1, v2⟩ := pairs_out hE'
      have hsort : ((xs.zip ds).mergeSort (PySem.W.dataLe false fun b : V × D => toPy b.2)).map (·.2) = ds.mergeSort dle := by
        have hz2 : (xs.zip ds).map (·.2) = ds := by
          rw [List.map_snd_zip (by omega)]
        rw [List.map_mergeSort (f := fun p : V × D => p.2) (s := dle) (fun a _ b _ => by rfl), hz2]
      rw [hsort] at v2
      obtain ⟨ep, he'⟩ := PyProof.Rows.sortedAll_at s.heap its (List.toArray out)
      have hl3 : (((xs.zip ds).mergeSort (PySem.W.dataLe false fun b : V × D => toPy b.2)).map (·.1)).length ≤ sizeLine := by
        rw [List.length_map, List.length_mergeSort, hzl, sizeLine_eq]; exact o5
      have hfree := I.hok.fresh (Nat.le_succ s.heap.objs.size)
      obtain ⟨g, s2, r3⟩ := fin_lst (p := s.heap.objs.size + 1) sr v2 hfree
      exact ⟨.ref _, upd H (s.heap.objs.size + 1) (.lst _), I.laid (t' := s.toks) (fun _ _ => PyProof.Rows.sortedAll_old) (Nat.le_succ _) ⟨hl3, out, ep, v1, by simpa using he'⟩, rfl, q _ _ _ g s2 r3⟩
  · cases e
end
end DL
set_option Elab.async false
set_option linter.all false
set_option maxRecDepth 100000
set_option maxHeartbeats 4000000
/-! DL6: methods, statements, loops, comprehensions. -/
namespace DL
open PySem PySem.Spec PyProof.Rows L2

/-! ### an object of the store changes -/
section
variable {c : C} {F H : Hp} {io : List Addr} {st : Store} {a : Addr} {n : Nat} {o : HO} {so : SObj}
theorem Grow.write (ha : a ∈ io) : Grow F io H F io (upd H a o) := by
  refine ⟨Sub.refl _, ⟨[], by simp⟩, fun b u e hb => ?_, fun b u e => ?_, fun b u e => .inl e, fun b h => .inl h⟩
  · have : b ≠ a := fun z => hb (z ▸ ha)
    rw [upd_ne this]; exact e
  · by_cases hb : b = a
    · subst hb; exact ⟨_, upd_same⟩
    · exact ⟨u, by rw [upd_ne hb]; exact e⟩
theorem SRel.write (s : SRel c F io st H) (hn : io[n]? = some a) (h : SOb c io F (upd H a o) a so) : SRel c F io (st.set n so) (upd H a o) := by
  have hF : F a = none := by
    obtain ⟨_, _, q⟩ := s.there (List.mem_of_getElem? hn)
    exact q
  refine ⟨fun b u e => ?_, by simpa using s.len, fun m b ob h1 h2 => ?_, s.nd⟩
  · have : b ≠ a := fun z => by rw [z, hF] at e; cases e
    rw [upd_ne this]; exact s.sub b u e
  · by_cases hm : n = m
    · subst hm
      rw [hn] at h1
      cases h1
      have hl : n < st.length := by rw [← s.len]; exact (List.getElem?_eq_some_iff.mp hn).1
      rw [List.getElem?_set_self hl] at h2
      cases h2
      exact ⟨hF, h⟩
    · rw [List.getElem?_set_ne hm] at h2
      obtain ⟨q1, q2⟩ := s.obj m b ob h1 h2
      have hne : b ≠ a := by
        rintro rfl
        exact hm ((List.getElem?_inj (List.getElem?_eq_some_iff.mp hn).1 s.nd).mp (hn.trans h1.symm))
      refine ⟨q1, ?_⟩
      have := q2.mono (more := []) (F' := F) (H' := upd H a o) (Sub.refl _) fun u e => by rw [upd_ne hne]; exact e
      rwa [List.append_nil] at this
/-- what has stood there as a temporary is frozen -/
theorem SRel.freeze (s : SRel c F io st H) (ho : H a = some o) (ha : a ∉ io) : SRel c (upd F a o) io st H := by
  refine ⟨fun b u e => ?_, s.len, fun m b ob h1 h2 => ?_, s.nd⟩
  · by_cases hb : b = a
    · subst hb; rw [upd_same] at e; cases e; exact ho
    · rw [upd_ne hb] at e; exact s.sub b u e
  · obtain ⟨q1, q2⟩ := s.obj m b ob h1 h2
    have hne : b ≠ a := fun z => ha (z ▸ List.mem_of_getElem? h1)
    refine ⟨by rw [upd_ne hne]; exact q1, ?_⟩
    have hs : Sub F (upd F a o) := fun b u e => by
      by_cases hb : b = a
      · subst hb
        have := s.sub _ _ e
        rw [ho] at this
        cases this
        exact upd_same
      · rw [upd_ne hb]; exact e
    have := q2.mono (more := []) (F' := upd F a o) (H' := H) hs fun u e => e
    rwa [List.append_nil] at this
end

/-! ### methods by values -/
abbrev FM := Store → D → List D → Option (D × Store)
def rM (c : C) (f : FM) : V → List V → Hp → VK → Prop := fun x xs H Q => ∃ F io st dx ds d st', SRel c F io st H ∧ Rep c io F x dx ∧ Reps c io F xs ds ∧ f st dx ds = some (d, st') ∧
  ∀ z F' io' H', Grow F io H F' io' H' → SRel c F' io' st' H' → Rep c io' F' z d → Q z H'
inductive Ty where
  | list | str
def tyS : Ty → String
  | .list => "list"
  | .str => "str"
def tyOk (T : Ty) (st : Store) (x : D) : Bool := match T with
  | .list => (itemsOf st x).isSome
  | .str => (match x with | .str _ => true | _ => false)
def dMeth0 (T : Ty) (f : FM) (dx : Den) : Den := fun env st => (dx env st).bind fun p => if tyOk T p.2 p.1 = true then f p.2 p.1 [] else none
def dMeth (T : Ty) (f : FM) (dx : Den) (da : DenA) : Den := fun env st => (dx env st).bind fun p => if tyOk T p.2 p.1 = true then (da env p.2).bind fun q => f q.2 p.1 q.1 else none
theorem tyOk_tyV {c : C} {F H : Hp} {io : List Addr} {st : Store} {v : V} {x : D} {T : Ty} (s : SRel c F io st H) (r : Rep c io F v x) (h : tyOk T st x = true) : tyV c.K (tyS T) v H := by
  cases T with
  | list =>
    obtain ⟨ds, h1⟩ := Option.isSome_iff_exists.mp (show (itemsOf st x).isSome = true from h)
    obtain ⟨a, xs, rfl, h2, _⟩ := itemsOf_list s r h1
    exact .inl ⟨rfl, xs, .inl (.inl h2)⟩
  | str =>
    cases x with
    | str z => cases r; rfl
    | _ => cases h
section
variable {X : Cx} {o e : Expr} {es : List Expr} {cpos apos : Pos} {name : Str} {id : String} {T : Ty} {f : FM} {dx : Den} {da : DenA}
theorem de_meth0 (pa : PlainAttrs (tyS T)) (slot : Slot (tyS T) name id) (hty : typeOf (.builtin id) = pure (.type "method_descriptor")) (hm : MtR X id (rM (cOf X) f)) (ho : DE X o dx)
    (hbase : attributeBase o name X.env (eval o X.env) = eval o X.env := by rfl) (hline : (apos.endLine == cpos.line) = true := by rfl) : DE X (.Call (.Attribute o name apos) [] [] cpos) (dMeth0 T f dx) := by
  refine PE.imp (pe_bm0 pa slot hty hm ho hbase hline) fun σ H Q h => ?_
  obtain ⟨F, io, env, st, d, st', hh, hd, q⟩ := h
  obtain ⟨⟨x, st1⟩, h1, hd⟩ := Option.bind_eq_some_iff.mp hd
  split at hd
  · rename_i ht
    refine ⟨F, io, env, st, x, st1, hh, h1, fun v F1 io1 H1 g1 s1 r1 => ⟨tyOk_tyV s1 r1 ht, ?_⟩⟩
    exact ⟨F1, io1, st1, x, [], d, st', s1, r1, .nil, hd, fun z F2 io2 H2 g2 s2 r2 => q z F2 io2 H2 (g1.trans g2) s2 r2⟩
  · cases hd
theorem de_meth (pa : PlainAttrs (tyS T)) (slot : Slot (tyS T) name id) (hty : typeOf (.builtin id) = pure (.type "method_descriptor")) (hm : MtR X id (rM (cOf X) f)) (ho : DE X o dx) (ha : DA X (e :: es) da)
    (hbase : attributeBase o name X.env (eval o X.env) = eval o X.env := by rfl)
    (hfew : ((backTo cpos (starEach (e :: es) X.env)).all (fun x => !x.1) && (backToKw cpos (keywordEach [] X.env)).all (fun x => x.1.isSome)
      && decide ((e :: es).length + ([] : List Keyword).length + (if ([] : List Keyword).isEmpty then 0 else 1) < 30)) = true := by rfl)
    (hline : (apos.endLine == cpos.line) = true := by rfl) (hs : starEach (e :: es) X.env = (false, eval e X.env) :: starEach es X.env := by rfl) (hplain : (backTo cpos (starEach es X.env)).any (·.1) = false := by rfl) :
    DE X (.Call (.Attribute o name apos) (e :: es) [] cpos) (dMeth T f dx da) := by
  refine PE.imp (pe_bm pa slot hty hm ho ha hbase hfew hline hs hplain) fun σ H Q h => ?_
  obtain ⟨F, io, env, st, d, st', hh, hd, q⟩ := h
  obtain ⟨⟨x, st1⟩, h1, hd⟩ := Option.bind_eq_some_iff.mp hd
  split at hd
  · rename_i ht
    obtain ⟨⟨xs, st2⟩, h2, hd⟩ := Option.bind_eq_some_iff.mp hd
    refine ⟨F, io, env, st, x, st1, hh, h1, fun v F1 io1 H1 g1 s1 r1 => ⟨tyOk_tyV s1 r1 ht, ?_⟩⟩
    refine ⟨F1, io1, env, st1, xs, st2, hh.grow g1 s1, h2, fun vs F2 io2 H2 g2 s2 r2 => ?_⟩
    exact ⟨F2, io2, st2, x, xs, d, st', s2, r1.grow g2, r2, hd, fun z F3 io3 H3 g3 s3 r3 => q z F3 io3 H3 (g1.trans (g2.trans g3)) s3 r3⟩
  · cases hd
end
/-- the list that may be changed -/
def mutOf (st : Store) (x : D) : Option (Nat × List D) := match x with
  | .ref n => (match st[n]? with
    | some (.lst ds) => some (n, ds)
    | _ => none)
  | _ => none
theorem mutOf_list {c : C} {F H : Hp} {io : List Addr} {st : Store} {v : V} {x : D} {n : Nat} {ds : List D} (s : SRel c F io st H) (r : Rep c io F v x) (h : mutOf st x = some (n, ds)) : x = .ref n ∧ st[n]? = some (.lst ds) ∧ ∃ a xs, v = .ref a ∧ io[n]? = some a ∧ H a = some (.lst xs) ∧ Reps c io F xs ds := by
  cases x with
  | ref m =>
    cases hs : st[m]? with
    | none => simp only [mutOf, hs] at h; cases h
    | some o =>
      cases o with
      | lst es =>
        simp only [mutOf, hs] at h
        cases h
        cases r with
        | ref hn =>
          obtain ⟨_, ho⟩ := s.obj _ _ _ hn hs
          cases ho with
          | lst h1 k1 => exact ⟨rfl, hs, _, _, rfl, hn, h1, k1⟩
      | _ => simp only [mutOf, hs] at h; cases h
  | _ => cases h
def mAppend : FM := fun st x ds => match ds with
  | [y] => (mutOf st x).bind fun p => if p.2.length < 16777216 then some (.non, st.set p.1 (.lst (p.2 ++ [y]))) else none
  | _ => none
/-- .pop(), .pop(i) -/
def mPop : FM := fun st x ds => match ds with
  | [] => (mutOf st x).bind fun p => (p.2.getLast?).map fun y => (y, st.set p.1 (.lst p.2.dropLast))
  | _ => none
def mPopAt : FM := fun st x ds => match ds with
  | [.int i] => (mutOf st x).bind fun p => if 0 ≤ i ∧ i < 9223372036854775808 then (p.2[i.toNat]?).map fun y => (y, st.set p.1 (.lst (p.2.eraseIdx i.toNat))) else none
  | _ => none
def mInsert : FM := fun st x ds => match ds with
  | [.int i, y] => (mutOf st x).bind fun p => if 0 ≤ i ∧ i < 9223372036854775808 ∧ p.2.length < 16777216 then some (.non, st.set p.1 (.lst (p.2.take i.toNat ++ [y] ++ p.2.drop i.toNat))) else none
  | _ => none
def joinL (sep : List Nat) : List (List Nat) → List Nat
  | [] => []
  | x :: xs => x ++ (xs.map (sep ++ ·)).flatten
def mJoin : FM := fun st x ds => match x, ds with
  | .str sep, [y] => (itemsOf st y).bind fun es => (strsD es).bind fun ss => if (ss.map List.length).sum + ss.length * sep.length ≤ 16777216 then some (.str (joinL sep ss), st) else none
  | _, _ => none
section
variable {X : Cx}
theorem m_append : MtR X "list.append" (rM (cOf X) mAppend) := by
  intro pins s σ H x xs v us Q I rx rv hq
  obtain ⟨F, io, st, dx, ds, d, st', sr, r1, rs, e, q⟩ := hq
  match ds, rs, e with
  | [y], .cons ry .nil, e =>
    obtain ⟨⟨n, es⟩, h1, e⟩ := Option.bind_eq_some_iff.mp e
    split at e
    · rename_i hl
      cases e
      obtain ⟨rfl, hs, a, xs, rfl, hn, hH, k⟩ := mutOf_list sr r1 h1
      refine mt_append pins s σ H _ _ v us Q I rx rv ⟨a, xs, _, rfl, rfl, hH, by rw [k.length, sizeLine_eq]; exact hl, ?_⟩
      exact q _ F io _ (Grow.write (List.mem_of_getElem? hn)) (sr.write hn (.lst upd_same (k.append (.one ry)))) .non
    · cases e
  | [], _, e => cases e
  | _ :: _ :: _, _, e => cases e
theorem Reps.dropLast {c : C} {io : List Addr} {F : Hp} {vs : List V} {ds : List D} (r : Reps c io F vs ds) : Reps c io F vs.dropLast ds.dropLast := by
  rw [List.dropLast_eq_take, List.dropLast_eq_take, r.length]
  exact r.take _
theorem Reps.eraseIdx {c : C} {io : List Addr} {F : Hp} {vs : List V} {ds : List D} (r : Reps c io F vs ds) (i : Nat) : Reps c io F (vs.eraseIdx i) (ds.eraseIdx i) := by
  rw [List.eraseIdx_eq_take_drop_succ, List.eraseIdx_eq_take_drop_succ]
  exact (r.take _).append (r.drop _)
theorem m_pop : MtR X "list.pop" (rM (cOf X) mPop) := by
  intro pins s σ H x xs v us Q I rx rv hq
  obtain ⟨F, io, st, dx, ds, d, st', sr, r1, rs, e, q⟩ := hq
  match ds, rs, e with
  | [], .nil, e =>
    obtain ⟨⟨n, es⟩, h1, e⟩ := Option.bind_eq_some_iff.mp e
    obtain ⟨y, h2, e⟩ := Option.map_eq_some_iff.mp e
    cases e
    obtain ⟨rfl, hs, a, xs, rfl, hn, hH, k⟩ := mutOf_list sr r1 h1
    have h2 : es[es.length - 1]? = some d := by rw [← List.getLast?_eq_getElem?]; exact h2
    obtain ⟨w, hw, rw'⟩ := k.get h2
    refine mt_pop pins s σ H _ _ v us Q I rx rv ⟨a, xs, w, rfl, rfl, hH, by rw [k.length]; exact hw, ?_⟩
    exact q _ F io _ (Grow.write (List.mem_of_getElem? hn)) (sr.write hn (.lst upd_same k.dropLast)) rw'
  | _ :: _, _, e => cases e
theorem seqIx_nat {i : Int} {n : Nat} (h0 : 0 ≤ i) (h : i.toNat < n) : seqIndex? i n = some i.toNat := by
  have := (ixN_seq (n := n) (i := i) (j := i.toNat) (by unfold ixN; rw [if_pos h0, if_pos (by omega)])).1
  exact this
theorem m_popAt : MtR X "list.pop" (rM (cOf X) mPopAt) := by
  intro pins s σ H x xs v us Q I rx rv hq
  obtain ⟨F, io, st, dx, ds, d, st', sr, r1, rs, e, q⟩ := hq
  match ds, rs, e with
  | [.int i], .cons (.int _) .nil, e =>
    obtain ⟨⟨n, es⟩, h1, e⟩ := Option.bind_eq_some_iff.mp e
    split at e
    · rename_i hl
      obtain ⟨y, h2, e⟩ := Option.map_eq_some_iff.mp e
      cases e
      obtain ⟨rfl, hs, a, xs, rfl, hn, hH, k⟩ := mutOf_list sr r1 h1
      obtain ⟨w, hw, rw'⟩ := k.get h2
      have hlt : i.toNat < xs.length := (List.getElem?_eq_some_iff.mp hw).1
      refine mt_popAt pins s σ H _ _ v us Q I rx rv ⟨a, xs, i, i.toNat, w, rfl, rfl, hH, by omega, by omega, seqIx_nat hl.1 hlt, hw, ?_⟩
      exact q _ F io _ (Grow.write (List.mem_of_getElem? hn)) (sr.write hn (.lst upd_same (k.eraseIdx _))) rw'
    · cases e
  | [], _, e => cases e
  | .non :: _, _, e => cases e
  | .bl _ :: _, _, e => cases e
  | .str _ :: _, _, e => cases e
  | .tup _ :: _, _, e => cases e
  | .lst _ :: _, _, e => cases e
  | .dic _ _ _ :: _, _, e => cases e
  | .ref _ :: _, _, e => cases e
  | .scr _ :: _, _, e => cases e
  | .int _ :: _ :: _, _, e => cases e
theorem m_insert : MtR X "list.insert" (rM (cOf X) mInsert) := by
  intro pins s σ H x xs v us Q I rx rv hq
  obtain ⟨F, io, st, dx, ds, d, st', sr, r1, rs, e, q⟩ := hq
  match ds, rs, e with
  | [.int i, y], .cons (.int _) (.cons ry .nil), e =>
    obtain ⟨⟨n, es⟩, h1, e⟩ := Option.bind_eq_some_iff.mp e
    split at e
    · rename_i hl
      cases e
      obtain ⟨rfl, hs, a, xs, rfl, hn, hH, k⟩ := mutOf_list sr r1 h1
      refine mt_insert pins s σ H _ _ v us Q I rx rv ⟨a, xs, i, _, rfl, rfl, hH, by rw [k.length, sizeLine_eq]; exact hl.2.2, hl.1, by have := hl.2.1; omega, ?_⟩
      exact q _ F io _ (Grow.write (List.mem_of_getElem? hn)) (sr.write hn (.lst upd_same (((k.take _).append (.one ry)).append (k.drop _)))) .non
    · cases e
  | [], _, e => cases e
  | .non :: _, _, e => cases e
  | .bl _ :: _, _, e => cases e
  | .str _ :: _, _, e => cases e
  | .tup _ :: _, _, e => cases e
  | .lst _ :: _, _, e => cases e
  | .dic _ _ _ :: _, _, e => cases e
  | .ref _ :: _, _, e => cases e
  | .scr _ :: _, _, e => cases e
  | [.int _], _, e => cases e
  | .int _ :: _ :: _ :: _, _, e => cases e
theorem glue_fold (g : Array Nat) : ∀ (ss : List (List Nat)) (a : Array Nat), ((ss.map strOf).foldl (fun acc p => acc ++ g ++ p.cps) a).toList = a.toList ++ (ss.map (g.toList ++ ·)).flatten
  | [], a => by simp
  | s :: ss, a => by
    rw [List.map_cons, List.foldl_cons, glue_fold g ss, List.map_cons, List.flatten_cons]
    simp [strOf]
theorem str_eq {x : Str} {l : List Nat} (h : x.cps.toList = l) : x = strOf l := by rw [← h, strOf_toList]
theorem join_of (sep : List Nat) : ∀ ss : List (List Nat), Txt.join (strOf sep) (ss.map strOf) = strOf (joinL sep ss)
  | [] => by first | rfl | simp [Txt.join, joinL, strOf]
  | x :: ss => by
    refine str_eq ?_
    show (((ss.map strOf).foldl (fun acc p => acc ++ (strOf sep).cps ++ p.cps) (strOf x).cps)).toList = _
    rw [glue_fold]
    rw [cps_strOf, cps_strOf]
    rfl
theorem m_join : MtR X "str.join" (rM (cOf X) mJoin) := by
  intro pins s σ H x xs v us Q I rx rv hq
  obtain ⟨F, io, st, dx, ds, d, st', sr, r1, rs, e, q⟩ := hq
  cases dx with
  | str sep =>
    match ds, rs, e with
    | [y], .cons ry .nil, e =>
      obtain ⟨es, h1, e⟩ := Option.bind_eq_some_iff.mp e
      obtain ⟨ss, h2, e⟩ := Option.bind_eq_some_iff.mp e
      split at e
      · rename_i hl
        cases e
        obtain ⟨a, xs, rfl, h3, k1⟩ := itemsOf_list sr ry h1
        rw [strs_map h2] at k1
        rw [k1.strsV] at h3
        cases r1
        have hz : (((ss.map strOf).map (·.length)).sum + (ss.map strOf).length * (strOf sep).length) ≤ 16777216 := by
          have : (ss.map strOf).map (·.length) = ss.map List.length := by
            rw [List.map_map]
            apply List.map_congr_left
            intro z _
            exact strOf_len z
          rw [this, List.length_map, strOf_len]
          exact hl
        refine mt_join pins s σ H _ _ v us Q I rx rv ⟨strOf sep, a, ss.map strOf, rfl, rfl, .inl (.inl (.inl h3)), hz, ?_⟩
        rw [join_of]
        exact q _ F io H Grow.refl sr (.str _)
      · cases e
    | [], _, e => cases e
    | _ :: _ :: _, _, e => cases e
  | _ => cases e
end
end DL
set_option Elab.async false
set_option linter.all false
set_option maxRecDepth 100000
set_option maxHeartbeats 4000000
/-! DL7: statements, targets, loops, comprehensions. -/
namespace DL
open PySem PySem.Spec PyProof.Rows L2

/-! ### targets -/
abbrev DenG := D → Env → Store → Option (Env × Store)
theorem wipe_get (σ : L2.St) (j : Nat) : ∀ vs : List Nat, (L2.wipe σ vs)[j]? = if j ∈ vs ∧ j < σ.length then some none else σ[j]?
  | [] => by simp [L2.wipe]
  | v :: vs => by
    have ih := wipe_get σ j vs
    unfold L2.wipe
    by_cases hv : v = j
    · subst hv
      by_cases hl : v < σ.length
      · rw [List.getElem?_set_self (by rw [wipe_length]; exact hl)]
        simp [hl]
      · rw [List.getElem?_eq_none (by rw [List.length_set, wipe_length]; omega), List.getElem?_eq_none (by omega)]
        simp [hl]
    · rw [List.getElem?_set_ne hv, ih]
      have : (j ∈ v :: vs) ↔ j ∈ vs := by
        rw [List.mem_cons]
        exact ⟨fun h => h.resolve_left (fun z => hv z.symm), .inr⟩
      simp only [this]
theorem wipe_set {σ : L2.St} {i : Nat} {x : Option V} {vs : List Nat} (h : i ∈ vs) : L2.wipe (σ.set i x) vs = L2.wipe σ vs := by
  apply List.ext_getElem?
  intro j
  rw [wipe_get, wipe_get, List.length_set]
  by_cases hj : j ∈ vs ∧ j < σ.length
  · rw [if_pos hj, if_pos hj]
  · rw [if_neg hj, if_neg hj]
    by_cases hi : i = j
    · subst hi
      have hl : ¬ i < σ.length := fun z => hj ⟨h, z⟩
      rw [List.getElem?_eq_none (by rw [List.length_set]; omega), List.getElem?_eq_none (by omega)]
    · rw [List.getElem?_set_ne hi]
/-- only the slots vs are stored -/
def rdG (c : C) (vs : List Nat) (g : DenG) : TG := fun v σ H Q => ∃ F io env st d env' st', Here c F io env st σ H ∧ Rep c io F v d ∧ g d env st = some (env', st') ∧
  ∀ σ' F' io' H', Grow F io H F' io' H' → Here c F' io' env' st' σ' H' → L2.wipe σ' vs = L2.wipe σ vs → Q σ' H'
def rdGs (c : C) (vs : List Nat) (g : List D → Env → Store → Option (Env × Store)) : TGs := fun xs σ H Q => ∃ F io env st ds env' st', Here c F io env st σ H ∧ Reps c io F xs ds ∧ g ds env st = some (env', st') ∧
  ∀ σ' F' io' H', Grow F io H F' io' H' → Here c F' io' env' st' σ' H' → L2.wipe σ' vs = L2.wipe σ vs → Q σ' H'
theorem PG.imp {X : Cx} {e : Expr} {t t' : TG} (h : PG X e t) (k : ∀ v σ H Q, t' v σ H Q → t v σ H Q) : PG X e t' := ⟨fun pins s σ H v u Q I r q => h.run pins s σ H v u Q I r (k _ _ _ _ q)⟩
theorem PGs.imp {X : Cx} {e : List Expr} {t t' : TGs} (h : PGs X e t) (k : ∀ v σ H Q, t' v σ H Q → t v σ H Q) : PGs X e t' := ⟨fun pins s σ H v u Q I r q => h.run pins s σ H v u Q I r (k _ _ _ _ q)⟩
abbrev DG (X : Cx) (vs : List Nat) (e : Expr) (g : DenG) : Prop := PG X e (rdG (cOf X) vs g)
abbrev DGs (X : Cx) (vs : List Nat) (e : List Expr) (g : List D → Env → Store → Option (Env × Store)) : Prop := PGs X e (rdGs (cOf X) vs g)
def gN (i : Nat) : DenG := fun d env st => some (env.set i (some d), st)
def gsNil : List D → Env → Store → Option (Env × Store) := fun ds env st => match ds with
  | [] => some (env, st)
  | _ => none
def gsCons (g : DenG) (gs : List D → Env → Store → Option (Env × Store)) : List D → Env → Store → Option (Env × Store) := fun ds env st => match ds with
  | d :: ds => (g d env st).bind fun p => gs ds p.1 p.2
  | [] => none
def gUn (n : Nat) (gs : List D → Env → Store → Option (Env × Store)) : DenG := fun d env st => (seqOf st d).bind fun ds => if ds.length = n then gs ds env st else none
section
variable {X : Cx} {pos : Pos} {vs : List Nat} {e : Expr} {es : List Expr} {g : DenG} {gs : List D → Env → Store → Option (Env × Store)}
theorem dg_name {i : Nat} {x : Str} (hi : X.N[i]? = some x) (hx : Loc X.env.scope x) (hv : i ∈ vs := by decide) (hN : X.N.Nodup := by assumption) (hf : X.fn x = true ∨ X.env.scope.names.lookup x = some .local := by first | exact .inl rfl | exact .inr rfl | assumption) : DG X vs (.Name x pos) (gN i) := by
  refine PG.imp (pg_name hN hi hx hf) fun v σ H Q h => ?_
  obtain ⟨F, io, env, st, d, env', st', hh, r, e, q⟩ := h
  cases e
  exact q _ F io H Grow.refl ⟨hh.s, hh.e.set i r⟩ (wipe_set hv)
theorem dgs_nil : DGs X vs [] gsNil := by
  refine PGs.imp pgs_nil fun v σ H Q h => ?_
  obtain ⟨F, io, env, st, d, env', st', hh, r, e, q⟩ := h
  match d, r, e with
  | [], .nil, e =>
    cases e
    exact ⟨rfl, q σ F io H Grow.refl hh rfl⟩
  | _ :: _, _, e => cases e
theorem dgs_cons (h1 : DG X vs e g) (h2 : DGs X vs es gs) (hs : (assignEach (e :: es) X.env).map (·.2) = assign e X.env :: (assignEach es X.env).map (·.2) := by rfl) : DGs X vs (e :: es) (gsCons g gs) := by
  refine PGs.imp (pgs_cons h1 h2 hs) fun v σ H Q h => ?_
  obtain ⟨F, io, env, st, d, env', st', hh, r, e, q⟩ := h
  match d, r, e with
  | d :: ds, .cons r1 rs, e =>
    obtain ⟨⟨env1, st1⟩, h3, e⟩ := Option.bind_eq_some_iff.mp e
    refine ⟨_, _, rfl, F, io, env, st, d, env1, st1, hh, r1, h3, fun σ1 F1 io1 H1 g1 hh1 w1 => ?_⟩
    exact ⟨F1, io1, env1, st1, ds, env', st', hh1, rs.grow g1, e, fun σ2 F2 io2 H2 g2 hh2 w2 => q σ2 F2 io2 H2 (g1.trans g2) hh2 (w2.trans w1)⟩
  | [], _, e => cases e
theorem pg_or {t t' : TG} (h : PG X e t) (h' : PG X e t') : PG X e (fun v σ H Q => t v σ H Q ∨ t' v σ H Q) := ⟨fun pins s σ H v u Q I r q => by
  rcases q with q | q
  · exact h.run pins s σ H v u Q I r q
  · exact h'.run pins s σ H v u Q I r q⟩
theorem dg_tup {k n : Nat} (h : DGs X vs es gs) (hc : X.calm = true := by rfl) (hn : (assignEach es X.env).length = n := by rfl) (hst : (assignEach es X.env).findIdx? (·.1) = none := by rfl) : DG X vs (.Tuple es k pos) (gUn n gs) := by
  refine PG.imp (pg_or (pg_tup hc h hn hst) (pg_unl hc h hn hst)) fun v σ H Q hq => ?_
  obtain ⟨F, io, env, st, d, env', st', hh, r, e, q⟩ := hq
  obtain ⟨ds, h1, e⟩ := Option.bind_eq_some_iff.mp e
  split at e
  · rename_i hl
    obtain ⟨a, xs, rfl, h3, k1⟩ := seqOf_seq hh.s r h1
    have fin : rdGs (cOf X) vs gs xs σ H Q := ⟨F, io, env, st, ds, env', st', hh, k1, e, q⟩
    rcases h3 with h3 | h3
    · exact .inr ⟨a, xs, rfl, h3, by rw [k1.length]; exact hl, fin⟩
    · exact .inl ⟨a, xs, rfl, h3, by rw [k1.length]; exact hl, fin⟩
  · cases e
end

/-! ### statements -/
def sNext : DenS := fun env st => some (.next, env, st)
def sSeq (a b : DenS) : DenS := fun env st => (a env st).bind fun p => match p.1 with
  | .next => b p.2.1 p.2.2
  | f => some (f, p.2.1, p.2.2)
def sBreak : DenS := fun env st => some (.brk, env, st)
def sCont : DenS := fun env st => some (.cont, env, st)
def sRet (d : Den) : DenS := fun env st => (d env st).map fun p => (.ret p.1, env, p.2)
def sRetN : DenS := fun env st => some (.ret .non, env, st)
def sDrop (d : Den) : DenS := fun env st => (d env st).map fun p => (.next, env, p.2)
def sSet (i : Nat) (d : Den) : DenS := fun env st => (d env st).map fun p => (.next, env.set i (some p.1), p.2)
def sAsg (d : Den) (g : DenG) : DenS := fun env st => (d env st).bind fun p => (g p.1 env p.2).map fun q => (.next, q.1, q.2)
def sIf (t : DenT) (a b : DenS) : DenS := fun env st => (t env st).bind fun p => if p.1 = true then a env p.2 else b env p.2
def sAug (i : Nat) (f : F2) (d : Den) : DenS := fun env st => match env[i]? with
  | some (some x) => (d env st).bind fun p => (f p.2 x p.1).map fun z => (.next, env.set i (some z), p.2)
  | _ => none
def sPar (i j : Nat) (a : DenA) : DenS := fun env st => (a env st).bind fun p => match p.1 with
  | [x, y] => some (.next, (env.set i (some x)).set j (some y), p.2)
  | _ => none
def sPar3 (i j k : Nat) (a : DenA) : DenS := fun env st => (a env st).bind fun p => match p.1 with
  | [x, y, z] => some (.next, ((env.set i (some x)).set j (some y)).set k (some z), p.2)
  | _ => none
section
variable {X : Cx} {st : Stmt} {rest : List Stmt} {a b : DenS} {e : Expr} {d : Den} {pos : Pos}
theorem dss_nil : DSs X [] sNext := by
  refine PSs.imp pss_nil fun D σ H h => ?_
  obtain ⟨F, io, env, st, fl, env', st', hh, e, q⟩ := h
  cases e
  exact q .non σ F io H Grow.refl hh trivial
theorem dss_cons (h1 : DS X st a) (h2 : DSs X rest b) : DSs X (st :: rest) (sSeq a b) := by
  refine PSs.imp (pss_cons h1 h2) fun D σ H h => ?_
  obtain ⟨F, io, env, st, fl, env', st', hh, e, q⟩ := h
  obtain ⟨⟨f1, env1, st1⟩, e1, e⟩ := Option.bind_eq_some_iff.mp e
  refine ⟨F, io, env, st, f1, env1, st1, hh, e1, fun v σ1 F1 io1 H1 g1 hh1 r1 => ?_⟩
  cases f1 with
  | next => exact ⟨F1, io1, env1, st1, fl, env', st', hh1, e, fun u σ2 F2 io2 H2 g2 hh2 r2 => q u σ2 F2 io2 H2 (g1.trans g2) hh2 r2⟩
  | ret d => cases e; exact q v σ1 F1 io1 H1 g1 hh1 r1
  | brk => cases e; exact q v σ1 F1 io1 H1 g1 hh1 r1
  | cont => cases e; exact q v σ1 F1 io1 H1 g1 hh1 r1
theorem dss_one (h1 : DS X st a) : DSs X [st] a := pss_one h1
theorem ds_pass : DS X (.Pass pos) sNext := by
  refine PS.imp ps_pass fun D σ H h => ?_
  obtain ⟨F, io, env, st, fl, env', st', hh, e, q⟩ := h
  cases e
  exact q .non σ F io H Grow.refl hh trivial
theorem ds_break : DS X (.Break pos) sBreak := by
  refine PS.imp ps_break fun D σ H h => ?_
  obtain ⟨F, io, env, st, fl, env', st', hh, e, q⟩ := h
  cases e
  exact q .non σ F io H Grow.refl hh trivial
theorem ds_cont : DS X (.Continue pos) sCont := by
  refine PS.imp ps_continue fun D σ H h => ?_
  obtain ⟨F, io, env, st, fl, env', st', hh, e, q⟩ := h
  cases e
  exact q .non σ F io H Grow.refl hh trivial
theorem ds_ret (he : DE X e d) : DS X (.Return (some e) pos) (sRet d) := by
  refine PS.imp (ps_ret he) fun D σ H h => ?_
  obtain ⟨F, io, env, st, fl, env', st', hh, e, q⟩ := h
  obtain ⟨⟨x, st1⟩, h1, e⟩ := Option.map_eq_some_iff.mp e
  cases e
  exact ⟨F, io, env, st, x, st1, hh, h1, fun v F1 io1 H1 g1 s1 r1 => q v σ F1 io1 H1 g1 (hh.grow g1 s1) r1⟩
theorem ds_retN : DS X (.Return none pos) sRetN := by
  refine PS.imp ps_retN fun D σ H h => ?_
  obtain ⟨F, io, env, st, fl, env', st', hh, e, q⟩ := h
  cases e
  exact q .non σ F io H Grow.refl hh .non
theorem ds_expr (he : DE X e d) (hs : swapsWith e none pos.line X.env = pure false := by rfl) : DS X (.Expr e pos) (sDrop d) := by
  refine PS.imp (ps_expr he hs) fun D σ H h => ?_
  obtain ⟨F, io, env, st, fl, env', st', hh, e, q⟩ := h
  obtain ⟨⟨x, st1⟩, h1, e⟩ := Option.map_eq_some_iff.mp e
  cases e
  exact ⟨F, io, env, st, x, st1, hh, h1, fun v F1 io1 H1 g1 s1 r1 => q v σ F1 io1 H1 g1 (hh.grow g1 s1) trivial⟩
theorem ds_set {i : Nat} {x : Str} {pos' : Pos} (he : DE X e d) (hi : X.N[i]? = some x) (hx : Loc X.env.scope x) (hN : X.N.Nodup := by assumption) (hs : swapsWith e (some (.Name x pos')) pos.line X.env = pure false := by rfl)
    (hf : X.fn x = true ∨ X.env.scope.names.lookup x = some .local := by first | exact .inl rfl | exact .inr rfl | assumption) : DS X (.Assign [.Name x pos'] e pos) (sSet i d) := by
  refine PS.imp (ps_set hN hi hx he hs hf) fun D σ H h => ?_
  obtain ⟨F, io, env, st, fl, env', st', hh, e, q⟩ := h
  obtain ⟨⟨x, st1⟩, h1, e⟩ := Option.map_eq_some_iff.mp e
  cases e
  refine ⟨F, io, env, st, x, _, hh, h1, fun v F1 io1 H1 g1 s1 r1 => ?_⟩
  exact q .non _ F1 io1 H1 g1 ⟨s1, (hh.e.grow g1).set i r1⟩ trivial
theorem ds_asg {vs : List Nat} {tg : Expr} {g : DenG} (he : DE X e d) (hg : DG X vs tg g) (hs : swapsWithSole [tg] e pos.line X.env = pure false := by rfl) (hw : swappedStores [tg] e X.env = pure none := by rfl)
    (h1 : (assignEach [tg] X.env).map (·.2) = [assign tg X.env] := by rfl) : DS X (.Assign [tg] e pos) (sAsg d g) := by
  refine PS.imp (ps_asg he hg hs hw h1) fun D σ H h => ?_
  obtain ⟨F, io, env, st, fl, env', st', hh, e, q⟩ := h
  obtain ⟨⟨x, st1⟩, h2, e⟩ := Option.bind_eq_some_iff.mp e
  obtain ⟨⟨env1, st2⟩, h3, e⟩ := Option.map_eq_some_iff.mp e
  cases e
  refine ⟨F, io, env, st, x, st1, hh, h2, fun v F1 io1 H1 g1 s1 r1 => ?_⟩
  exact ⟨F1, io1, env, st1, x, _, _, hh.grow g1 s1, r1, h3, fun σ2 F2 io2 H2 g2 hh2 _ => q .non σ2 F2 io2 H2 (g1.trans g2) hh2 trivial⟩
theorem ds_if {c : Expr} {t : DenT} {sa sb : List Stmt} (hc : DT X c t) (ha : DSs X sa a) (hb : DSs X sb b) : DS X (.If c sa sb pos) (sIf t a b) := by
  refine PS.imp (ps_if hc ha hb) fun D σ H h => ?_
  obtain ⟨F, io, env, st, fl, env', st', hh, e, q⟩ := h
  obtain ⟨⟨x, st1⟩, h1, e⟩ := Option.bind_eq_some_iff.mp e
  refine ⟨F, io, env, st, x, st1, hh, h1, fun F1 io1 H1 g1 s1 => ?_⟩
  cases x with
  | true =>
    rw [if_pos rfl]
    exact ⟨F1, io1, env, st1, fl, env', st', hh.grow g1 s1, e, fun v σ2 F2 io2 H2 g2 hh2 r2 => q v σ2 F2 io2 H2 (g1.trans g2) hh2 r2⟩
  | false =>
    rw [if_neg Bool.false_ne_true]
    exact ⟨F1, io1, env, st1, fl, env', st', hh.grow g1 s1, e, fun v σ2 F2 io2 H2 g2 hh2 r2 => q v σ2 F2 io2 H2 (g1.trans g2) hh2 r2⟩
theorem ds_aug {i : Nat} {x : Str} {pos' : Pos} {op : Operator} {f : F2} (ho : OpR X (inplaceOp op) (r2 (cOf X) f)) (he : DE X e d) (hi : X.N[i]? = some x) (hx : Loc X.env.scope x) (hN : X.N.Nodup := by assumption) (hf : X.fn x = true ∨ X.env.scope.names.lookup x = some .local := by first | exact .inl rfl | exact .inr rfl | assumption) :
    DS X (.AugAssign (.Name x pos') op e pos) (sAug i f d) := by
  refine PS.imp (ps_aug hN hi hx he (fun pins s σ H x y v u Q I r1 r2 h => ho pins s σ H x y v u Q I r1 r2 h) hf) fun D σ H h => ?_
  obtain ⟨F, io, env, st, fl, env', st', hh, e, q⟩ := h
  unfold sAug at e
  cases h0 : env[i]? with
  | none => rw [h0] at e; cases e
  | some o =>
    cases o with
    | none => rw [h0] at e; cases e
    | some y =>
      rw [h0] at e
      obtain ⟨⟨x, st1⟩, h1, e⟩ := Option.bind_eq_some_iff.mp e
      obtain ⟨z, h2, e⟩ := Option.map_eq_some_iff.mp e
      cases e
      obtain ⟨w, hw, rw'⟩ := hh.e.slot i y h0
      refine ⟨w, hw, F, io, env, st, x, st1, hh, h1, fun v F1 io1 H1 g1 s1 r1 => ?_⟩
      refine ⟨F1, io1, st1, y, x, z, s1, rw'.grow g1, r1, h2, fun u F2 H2 g2 s2 r2 => ?_⟩
      exact q .non _ F2 io1 H2 (g1.trans g2) ⟨s2, ((hh.e.grow g1).grow g2).set i r2⟩ trivial
theorem ds_par {i j : Nat} {x y : Str} {a b : Expr} {da : DenA} {px py pt : Pos} {kt k2 : Nat} {pt2 : Pos} (ha : DA X [a, b] da) (hi : X.N[i]? = some x) (hj : X.N[j]? = some y) (hij : i ≠ j)
    (hx : X.env.scope.names.lookup x = some .local) (hy : X.env.scope.names.lookup y = some .local)
    (hw : swappedStores [.Tuple [.Name x px, .Name y py] kt pt] (.Tuple [a, b] k2 pt2) X.env = pure (some [x, y])) (hN : X.N.Nodup := by assumption) (hc : X.calm = true := by rfl)
    (hs : swapsWithSole [.Tuple [.Name x px, .Name y py] kt pt] (.Tuple [a, b] k2 pt2) pos.line X.env = pure false := by rfl) :
    DS X (.Assign [.Tuple [.Name x px, .Name y py] kt pt] (.Tuple [a, b] k2 pt2) pos) (sPar i j da) := by
  refine PS.imp (ps_par hc hN hi hj hij hx hy ha hw hs) fun D σ H h => ?_
  obtain ⟨F, io, env, st, fl, env', st', hh, e, q⟩ := h
  obtain ⟨⟨xs, st1⟩, h1, e⟩ := Option.bind_eq_some_iff.mp e
  refine ⟨F, io, env, st, xs, st1, hh, h1, fun vs F1 io1 H1 g1 s1 r1 => ?_⟩
  match xs, r1, e with
  | [x, y], .cons r1 (.cons r2 .nil), e =>
    cases e
    exact ⟨_, _, rfl, q .non _ F1 io1 H1 g1 ⟨s1, ((hh.e.grow g1).set i r1).set j r2⟩ trivial⟩
  | [], _, e => cases e
  | [_], _, e => cases e
  | _ :: _ :: _ :: _, _, e => cases e
theorem ds_par3 {i j l : Nat} {x y z : Str} {a b c : Expr} {da : DenA} {px py pz pt : Pos} {kt k2 : Nat} {pt2 : Pos} (ha : DA X [a, b, c] da) (hi : X.N[i]? = some x) (hj : X.N[j]? = some y) (hl : X.N[l]? = some z) (hij : i ≠ j) (hil : i ≠ l) (hjl : j ≠ l)
    (hx : X.env.scope.names.lookup x = some .local) (hy : X.env.scope.names.lookup y = some .local) (hz : X.env.scope.names.lookup z = some .local)
    (hw : swappedStores [.Tuple [.Name x px, .Name y py, .Name z pz] kt pt] (.Tuple [a, b, c] k2 pt2) X.env = pure (some [x, y, z])) (hN : X.N.Nodup := by assumption) (hc : X.calm = true := by rfl)
    (hs : swapsWithSole [.Tuple [.Name x px, .Name y py, .Name z pz] kt pt] (.Tuple [a, b, c] k2 pt2) pos.line X.env = pure false := by rfl) :
    DS X (.Assign [.Tuple [.Name x px, .Name y py, .Name z pz] kt pt] (.Tuple [a, b, c] k2 pt2) pos) (sPar3 i j l da) := by
  refine PS.imp (ps_par3 hc hN hi hj hl hij hil hjl hx hy hz ha hw hs) fun D σ H h => ?_
  obtain ⟨F, io, env, st, fl, env', st', hh, e, q⟩ := h
  obtain ⟨⟨xs, st1⟩, h1, e⟩ := Option.bind_eq_some_iff.mp e
  refine ⟨F, io, env, st, xs, st1, hh, h1, fun vs F1 io1 H1 g1 s1 r1 => ?_⟩
  match xs, r1, e with
  | [x, y, z], .cons r1 (.cons r2 (.cons r3 .nil)), e =>
    cases e
    exact ⟨_, _, _, rfl, q .non _ F1 io1 H1 g1 ⟨s1, (((hh.e.grow g1).set i r1).set j r2).set l r3⟩ trivial⟩
  | [], _, e => cases e
  | [_], _, e => cases e
  | [_, _], _, e => cases e
  | _ :: _ :: _ :: _ :: _, _, e => cases e
end

/-! ### what a loop walks -/
/-- the data, and what the store is to keep meanwhile -/
abbrev DenI := Env → Store → Option ((List D × (Store → Bool)) × Store)
/-- the iterator J hands out the data ds, one by one -/
def Serves (c : C) (J : It) (ds : List D) (ck : Store → Bool) (F0 : Hp) (io0 : List Addr) (H0 : Hp) : Prop :=
  ∀ i F io st H, Grow F0 io0 H0 F io H → SRel c F io st H → ck st = true → (i = ds.length → J.stop i H) ∧ ∀ d, ds[i]? = some d → J.go i H ∧ ∀ x H', J.yld i H x H' → ∃ F', Grow F io H F' io H' ∧ SRel c F' io st H' ∧ Rep c io F' x d
def rdI (c : C) (d : DenI) : TI := fun σ H R => ∃ F io env st ds st', Here c F io env st σ H ∧ d env st = some (ds, st') ∧
  ∀ J F' io' H', Grow F io H F' io' H' → SRel c F' io' st' H' → Serves c J ds.1 ds.2 F' io' H' → R J H'
abbrev DI (X : Cx) (tg e : Expr) (d : DenI) : Prop := PI X tg e (rdI (cOf X) d)
theorem PI.imp {X : Cx} {tg e : Expr} {t t' : TI} (h : PI X tg e t) (k : ∀ σ H Q, t' σ H Q → t σ H Q) : PI X tg e t' := ⟨fun pins s σ H Q I q => h.run pins s σ H Q I (k _ _ _ q)⟩

def forL (ck : Store → Bool) (body : D → Env → Store → Option (Fl × Env × Store)) : List D → Env → Store → Option (Fl × Env × Store)
  | [], env, st => if ck st = true then some (.next, env, st) else none
  | d :: ds, env, st => if ck st = true then (body d env st).bind fun p => match p.1 with
    | .next => forL ck body ds p.2.1 p.2.2
    | .cont => forL ck body ds p.2.1 p.2.2
    | .brk => some (.next, p.2.1, p.2.2)
    | .ret v => some (.ret v, p.2.1, p.2.2)
    else none
def sFor (di : DenI) (g : DenG) (b : DenS) : DenS := fun env st => (di env st).bind fun p => forL p.1.2 (fun d e s => (g d e s).bind fun q => b q.1 q.2) p.1.1 env p.2
section
variable {X : Cx} {tg iter : Expr} {body : List Stmt} {di : DenI} {g : DenG} {b : DenS} {pos : Pos} {vs : List Nat}
theorem ds_for (hi : DI X tg iter di) (hg : DG X vs tg g) (hb : DSs X body b) (hp : PassesOwn (model X.prog X.w) X.A X.env X.xe := by exact PassesOwn.never) (hc : X.calm = true := by rfl)
    (hs : ∀ x, foldedSetIterable iter X.env x = pure x := by intro _; rfl) : DS X (.For tg iter body [] pos) (sFor di g b) := by
  refine PS.imp (ps_for hp hc hi hg hb hs) fun D σ H h => ?_
  obtain ⟨F, io, env, st, fl, env', st', hh, e, q⟩ := h
  obtain ⟨⟨⟨ds, ck⟩, st1⟩, h1, e⟩ := Option.bind_eq_some_iff.mp e
  refine ⟨F, io, env, st, (ds, ck), st1, hh, h1, fun J F1 io1 H1 g1 s1 sv => ?_⟩
  refine ⟨fun i m σ2 H2 => i ≤ ds.length ∧ m = ds.length - i ∧ ∃ F2 io2 env2 st2, Here (cOf X) F2 io2 env2 st2 σ2 H2 ∧ Grow F1 io1 H1 F2 io2 H2 ∧ forL ck (fun d e s => (g d e s).bind fun q => b q.1 q.2) (ds.drop i) env2 st2 = some (fl, env', st'),
    ⟨ds.length, Nat.zero_le _, rfl, F1, io1, env, st1, hh.grow g1 s1, Grow.refl, e⟩, ?_⟩
  rintro i m σ2 H2 ⟨hi, rfl, F2, io2, env2, st2, hh2, g2, e2⟩
  have hck : ck st2 = true := by
    cases hq : ck st2 with
    | true => rfl
    | false =>
      cases hd : ds.drop i with
      | nil => rw [hd] at e2; simp only [forL, hq, Bool.false_eq_true, if_false] at e2; cases e2
      | cons x xs => rw [hd] at e2; simp only [forL, hq, Bool.false_eq_true, if_false] at e2; cases e2
  obtain ⟨v1, v2⟩ := sv i F2 io2 st2 H2 g2 hh2.s hck
  by_cases hlt : i < ds.length
  · rw [List.drop_eq_getElem_cons hlt] at e2
    unfold forL at e2
    rw [if_pos hck] at e2
    obtain ⟨⟨f3, env3, st3⟩, e3, e2⟩ := Option.bind_eq_some_iff.mp e2
    obtain ⟨w1, w2⟩ := v2 ds[i] (List.getElem?_eq_getElem hlt)
    refine .inr ⟨w1, fun σ' H' => i + 1 ≤ ds.length ∧ ∃ F2 io2 env2 st2, Here (cOf X) F2 io2 env2 st2 σ' H' ∧ Grow F1 io1 H1 F2 io2 H' ∧ forL ck (fun d e s => (g d e s).bind fun q => b q.1 q.2) (ds.drop (i + 1)) env2 st2 = some (fl, env', st'),
      fun σ' H' hn => ⟨ds.length - (i + 1), by omega, hn.1, rfl, hn.2⟩, fun x H3 y => ?_⟩
    obtain ⟨F3, g3, s3, r3⟩ := w2 x H3 y
    obtain ⟨⟨env4, st4⟩, e4, e3⟩ := Option.bind_eq_some_iff.mp e3
    refine ⟨F3, io2, env2, st2, ds[i], env4, st4, hh2.grow g3 s3, r3, e4, fun σ4 F4 io4 H4 g4 hh4 _ => ?_⟩
    refine ⟨F4, io4, env4, st4, f3, env3, st3, hh4, e3, fun v σ5 F5 io5 H5 g5 hh5 r5 => ?_⟩
    have gAll : Grow F1 io1 H1 F5 io5 H5 := g2.trans (g3.trans (g4.trans g5))
    cases f3 with
    | next => exact ⟨hlt, F5, io5, env3, st3, hh5, gAll, e2⟩
    | cont => exact ⟨hlt, F5, io5, env3, st3, hh5, gAll, e2⟩
    | brk =>
      cases e2
      exact q .non σ5 F5 io5 H5 (g1.trans gAll) hh5 trivial
    | ret w =>
      cases e2
      exact q v σ5 F5 io5 H5 (g1.trans gAll) hh5 r5
  · have hn : ds.drop i = [] := List.drop_eq_nil_of_le (by omega)
    rw [hn] at e2
    unfold forL at e2
    rw [if_pos hck] at e2
    cases e2
    exact .inl ⟨v1 (show i = ds.length by omega), q .non σ2 F2 io2 H2 (g1.trans g2) hh2 trivial⟩
/-- while, at most n turns -/
def whileL (c : DenT) (b : DenS) : Nat → DenS
  | 0 => fun _ _ => none
  | n + 1 => fun env st => (c env st).bind fun p => if p.1 = true then (b env p.2).bind fun q => match q.1 with
      | .next => whileL c b n q.2.1 q.2.2
      | .cont => whileL c b n q.2.1 q.2.2
      | .brk => some (.next, q.2.1, q.2.2)
      | .ret v => some (.ret v, q.2.1, q.2.2)
    else some (.next, env, p.2)
theorem ds_while {c : Expr} {t : DenT} (n : Nat) (hc : DT X c t) (hb : DSs X body b) (hp : PassesOwn (model X.prog X.w) X.A X.env X.xe := by exact PassesOwn.never) : DS X (.While c body [] pos) (whileL t b n) := by
  refine PS.imp (ps_while hp hc hb) fun D σ H h => ?_
  obtain ⟨F, io, env, st, fl, env', st', hh, e, q⟩ := h
  refine ⟨fun m σ2 H2 => ∃ F2 io2 env2 st2, Here (cOf X) F2 io2 env2 st2 σ2 H2 ∧ Grow F io H F2 io2 H2 ∧ whileL t b m env2 st2 = some (fl, env', st'), ⟨n, F, io, env, st, hh, Grow.refl, e⟩, ?_⟩
  rintro m σ2 H2 ⟨F2, io2, env2, st2, hh2, g2, e2⟩
  cases m with
  | zero => cases e2
  | succ m =>
    obtain ⟨⟨x, st3⟩, h3, e2⟩ := Option.bind_eq_some_iff.mp e2
    refine ⟨F2, io2, env2, st2, x, st3, hh2, h3, fun F3 io3 H3 g3 s3 => ?_⟩
    cases x with
    | true =>
      rw [if_pos rfl]
      rw [if_pos rfl] at e2
      obtain ⟨⟨f4, env4, st4⟩, h4, e2⟩ := Option.bind_eq_some_iff.mp e2
      refine ⟨fun σ' H' => ∃ F2 io2 env2 st2, Here (cOf X) F2 io2 env2 st2 σ' H' ∧ Grow F io H F2 io2 H' ∧ whileL t b m env2 st2 = some (fl, env', st'), fun σ' H' hn => ⟨m, Nat.lt_succ_self _, hn⟩, ?_⟩
      refine ⟨F3, io3, env2, st3, f4, env4, st4, hh2.grow g3 s3, h4, fun v σ5 F5 io5 H5 g5 hh5 r5 => ?_⟩
      have gAll : Grow F io H F5 io5 H5 := g2.trans (g3.trans g5)
      cases f4 with
      | next => exact ⟨F5, io5, env4, st4, hh5, gAll, e2⟩
      | cont => exact ⟨F5, io5, env4, st4, hh5, gAll, e2⟩
      | brk => cases e2; exact q .non σ5 F5 io5 H5 gAll hh5 trivial
      | ret w => cases e2; exact q v σ5 F5 io5 H5 gAll hh5 r5
    | false =>
      rw [if_neg Bool.false_ne_true]
      rw [if_neg Bool.false_ne_true] at e2
      cases e2
      exact q .non σ2 F3 io3 H3 (g2.trans g3) (hh2.grow g3 s3) trivial
end

/-! ### comprehensions -/
def compL (ck : Store → Bool) (g : DenG) (tt : DenT) (te : Den) (envW : Env) : List D → Store → Option (List D × Store)
  | [], st => if ck st = true then some ([], st) else none
  | d :: ds, st => if ck st = true then (g d envW st).bind fun q => (tt q.1 q.2).bind fun b => if b.1 = true then (te q.1 b.2).bind fun y => (compL ck g tt te envW ds y.2).map fun r => (y.1 :: r.1, r.2) else compL ck g tt te envW ds b.2 else none
def dComp (di : DenI) (g : DenG) (tt : DenT) (te : Den) (vs : List Nat) : Den := fun env st => (di env st).bind fun p => (compL p.1.2 g tt te (wipeE env vs) p.1.1 p.2).bind fun r => if r.1.length ≤ 16777216 then some (.lst r.1, r.2) else none
def dCompR (di : DenI) (g : DenG) (tt : DenT) (te : Den) (vs : List Nat) : Den := fun env st => (di env st).bind fun p => (compL p.1.2 g tt te (wipeE env vs) p.1.1 p.2).bind fun r => if r.1.length ≤ 16777216 then some (.ref r.2.length, r.2 ++ [.lst r.1]) else none
def tYesD : DenT := fun _ st => some (true, st)
theorem PTs.imp {X : Cx} {e : List Expr} {t t' : TT} (h : PTs X e t) (k : ∀ σ H Q, t' σ H Q → t σ H Q) : PTs X e t' := ⟨fun pins s σ H Q I q => h.run pins s σ H Q I (k _ _ _ q)⟩
abbrev DTs (X : Cx) (e : List Expr) (t : DenT) : Prop := PTs X e (rdT (cOf X) t)
section
variable {X : Cx} {elt tg iter : Expr} {ifs : List Expr} {scope : Scope} {own : List (Str × Nat)} {pos spos : Pos} {di : DenI} {g : DenG} {tt : DenT} {te : Den}
theorem dts_nil : DTs X [] tYesD := by
  refine PTs.imp pts_nil fun σ H Q h => ?_
  obtain ⟨F, io, env, st, b, st', hh, e, q⟩ := h
  cases e
  exact q F io H Grow.refl hh.s
theorem dts_one {c : Expr} (h : DT X c tt) : DTs X [c] tt := pts_one h
theorem Grow.bump {F H F' H' : Hp} {io io' : List Addr} {a : Addr} {o : HO} (g : Grow F io H F' io' H') (h : H a = none) : Grow F io H F' io' (upd H' a o) := by
  refine ⟨g.sub, g.pre, fun b u e hb => ?_, fun b u e => ?_, g.newF, g.newI⟩
  · rw [upd_ne (ne_of_none e h)]; exact g.keep b u e hb
  · obtain ⟨u', e'⟩ := g.there b u e
    exact ⟨u', by rw [upd_ne (ne_of_none e h)]; exact e'⟩
/-- what is tracked and not known stays so -/
theorem Grow.apart {F H F' H' : Hp} {io io' : List Addr} {a : Addr} {o : HO} (g : Grow F io H F' io' H') (h : H a = some o) (h1 : a ∉ io) (h2 : F a = none) : H' a = some o ∧ a ∉ io' ∧ F' a = none := by
  refine ⟨g.keep a o h h1, fun z => ?_, ?_⟩
  · rcases g.newI a z with z | z
    · exact h1 z
    · rw [h] at z; cases z
  · cases e : F' a with
    | none => rfl
    | some u =>
      rcases g.newF a u e with z | z
      · rw [h2] at z; cases z
      · rw [h] at z; cases z
theorem SRel.bump {c : C} {F H : Hp} {io : List Addr} {st : Store} {a : Addr} {o : HO} (s : SRel c F io st H) (h1 : a ∉ io) (h2 : F a = none) : SRel c F io st (upd H a o) :=
  s.other fun b u hb hk => by
    have hne : b ≠ a := by
      rintro rfl
      rcases hk with ⟨w, hw⟩ | hk
      · rw [h2] at hw; cases hw
      · exact h1 hk
    rw [upd_ne hne]; exact hb
theorem wipe_wipe (σ : L2.St) (vs : List Nat) : L2.wipe (L2.wipe σ vs) vs = L2.wipe σ vs := by
  apply List.ext_getElem?
  intro j
  rw [wipe_get, wipe_get, wipe_length]
  by_cases hj : j ∈ vs ∧ j < σ.length
  · rw [if_pos hj, if_pos hj]
  · rw [if_neg hj, if_neg hj]
/-- the core: what the loop of a comprehension does -/
theorem tLc_rd {c : C} {vs : List Nat} {σ : L2.St} {H : Hp} {Q : VK} {F : Hp} {io : List Addr} {env : Env} {st st1 st2 : Store} {ds out : List D} {ck : Store → Bool} (hh : Here c F io env st σ H) (h1 : di env st = some ((ds, ck), st1)) (h2 : compL ck g tt te (wipeE env vs) ds st1 = some (out, st2)) (hl : out.length ≤ 16777216)
    (q : ∀ D xs F' io' H', Grow F io H F' io' H' → SRel c F' io' st2 H' → D ∉ io' → F' D = none → H D = none → H' D = some (.lst xs) → Reps c io' F' xs out → Q (.ref D) H') : tLc (rdI c di) (rdG c vs g) (rdT c tt) (rd c te) vs σ H Q := by
  refine ⟨F, io, env, st, (ds, ck), st1, hh, h1, fun J F1 io1 H1 g1 s1 sv D hD => ?_⟩
  have hFD : F1 D = none := s1.fresh hD
  have hID : D ∉ io1 := fun z => by
    obtain ⟨o, ho, _⟩ := s1.there z
    rw [hD] at ho; cases ho
  refine ⟨fun i m H2 => i ≤ ds.length ∧ m = ds.length - i ∧ ∃ F2 io2 st3 acc xs rest, SRel c F2 io2 st3 H2 ∧ Grow F1 io1 H1 F2 io2 H2 ∧ (H2 D = some (.lst xs) ∧ D ∉ io2 ∧ F2 D = none) ∧ Reps c io2 F2 xs acc ∧ compL ck g tt te (wipeE env vs) (ds.drop i) st3 = some (rest, st2) ∧ out = acc ++ rest,
    ⟨ds.length, Nat.zero_le _, rfl, F1, io1, st1, [], [], out, s1.temp hD, Grow.temp hD, ⟨upd_same, hID, hFD⟩, .nil, h2, rfl⟩, ?_⟩
  rintro i m H2 ⟨hi, rfl, F2, io2, st3, acc, xs, rest, s2, g2, ⟨hx, x1, x2⟩, k2, e2, eo⟩
  have hck : ck st3 = true := by
    cases hq : ck st3 with
    | true => rfl
    | false =>
      cases hd : ds.drop i with
      | nil => rw [hd] at e2; simp only [compL, hq, Bool.false_eq_true, if_false] at e2; cases e2
      | cons x xs => rw [hd] at e2; simp only [compL, hq, Bool.false_eq_true, if_false] at e2; cases e2
  obtain ⟨v1, v2⟩ := sv i F2 io2 st3 H2 g2 s2 hck
  by_cases hlt : i < ds.length
  · rw [List.drop_eq_getElem_cons hlt] at e2
    unfold compL at e2
    rw [if_pos hck] at e2
    obtain ⟨w1, w2⟩ := v2 ds[i] (List.getElem?_eq_getElem hlt)
    obtain ⟨⟨env4, st4⟩, e4, e2⟩ := Option.bind_eq_some_iff.mp e2
    obtain ⟨⟨b5, st5⟩, e5, e2⟩ := Option.bind_eq_some_iff.mp e2
    refine .inr ⟨w1, fun H' => i + 1 ≤ ds.length ∧ ∃ F2 io2 st3 acc xs rest, SRel c F2 io2 st3 H' ∧ Grow F1 io1 H1 F2 io2 H' ∧ (H' D = some (.lst xs) ∧ D ∉ io2 ∧ F2 D = none) ∧ Reps c io2 F2 xs acc ∧ compL ck g tt te (wipeE env vs) (ds.drop (i + 1)) st3 = some (rest, st2) ∧ out = acc ++ rest,
      fun H' hn => ⟨ds.length - (i + 1), by omega, hn.1, rfl, hn.2⟩, fun x H3 y => ?_⟩
    obtain ⟨F3, g3, s3, r3⟩ := w2 x H3 y
    have hE : ERel c io2 F3 (wipeE env vs) (L2.wipe σ vs) := ((hh.e.grow (g1.trans (g2.trans g3))).wipe vs)
    refine ⟨F3, io2, wipeE env vs, st3, ds[i], env4, st4, ⟨s3, hE⟩, r3, e4, fun σ4 F4 io4 H4 g4 hh4 w4 => ?_⟩
    refine ⟨w4.trans (wipe_wipe σ vs), F4, io4, env4, st4, b5, st5, hh4, e5, fun F5 io5 H5 g5 s5 => ?_⟩
    have g35 : Grow F2 io2 H2 F5 io5 H5 := g3.trans (g4.trans g5)
    cases b5 with
    | true =>
      refine iteT ?_
      have e2 := e2
      rw [if_pos rfl] at e2
      obtain ⟨⟨y6, st6⟩, e6, e2⟩ := Option.bind_eq_some_iff.mp e2
      obtain ⟨⟨r7, st7⟩, e7, e2⟩ := Option.map_eq_some_iff.mp e2
      cases e2
      refine ⟨F5, io5, env4, st5, y6, st6, hh4.grow g5 s5, e6, fun v6 F6 io6 H6 g6 s6 r6 => ?_⟩
      have g36 := g35.trans g6
      obtain ⟨p1, p2, p3⟩ := g36.apart hx x1 x2
      refine ⟨xs, p1, ?_, hlt, F6, io6, st6, acc ++ [y6], xs ++ [v6], r7, s6.bump p2 p3, (g2.trans g36).bump hD, ⟨upd_same, p2, p3⟩, (k2.grow g36).append (.one r6), e7, by rw [eo]; simp⟩
      have : xs.length = acc.length := k2.length
      rw [sizeLine_eq, this]
      rw [eo, List.length_append] at hl
      simp only [List.length_cons] at hl
      omega
    | false =>
      refine iteF ?_
      have e2 := e2
      rw [if_neg Bool.false_ne_true] at e2
      exact ⟨hlt, F5, io5, st5, acc, xs, rest, s5, g2.trans g35, g35.apart hx x1 x2, k2.grow g35, e2, eo⟩
  · have hn : ds.drop i = [] := List.drop_eq_nil_of_le (by omega)
    rw [hn] at e2
    unfold compL at e2
    rw [if_pos hck] at e2
    cases e2
    rw [List.append_nil] at eo
    subst eo
    exact .inl ⟨v1 (show i = ds.length by omega), q D xs F2 io2 H2 (g1.trans g2) s2 x1 x2 (g1.back hD) hx k2⟩
theorem Grow.freeze {F H F' H' : Hp} {io io' : List Addr} {a : Addr} {o : HO} (g : Grow F io H F' io' H') (h : H a = none) (h2 : F' a = none) (h3 : F a = none) : Grow F io H (upd F' a o) io' H' := by
  refine ⟨g.sub.trans (Sub.upd h2), g.pre, g.keep, g.there, fun b u e => ?_, g.newI⟩
  by_cases hb : b = a
  · subst hb; exact .inr h
  · rw [upd_ne hb] at e; exact g.newF b u e
/-- what has stood there as a temporary goes to the store -/
theorem SRel.toStore {c : C} {F H : Hp} {io : List Addr} {st : Store} {a : Addr} {so : SObj} (s : SRel c F io st H) (h1 : a ∉ io) (h2 : F a = none) (h : SOb c (io ++ [a]) F H a so) : SRel c F (io ++ [a]) (st ++ [so]) H := by
  refine ⟨s.sub, by simp [s.len], fun n b ob q1 q2 => ?_, ?_⟩
  · by_cases hn : n < io.length
    · rw [List.getElem?_append_left hn] at q1
      rw [List.getElem?_append_left (by rw [← s.len]; exact hn)] at q2
      obtain ⟨z1, z2⟩ := s.obj n b ob q1 q2
      exact ⟨z1, z2.mono (Sub.refl _) fun u e => e⟩
    · have e1 : n = io.length := by
        obtain ⟨hl, _⟩ := List.getElem?_eq_some_iff.mp q1
        rw [List.length_append, List.length_singleton] at hl
        omega
      subst e1
      have z1 : b = a := by simpa using q1.symm
      have z2 : ob = so := by
        rw [s.len] at q2
        simpa using q2.symm
      subst z1 z2
      exact ⟨h2, h⟩
  · rw [List.nodup_append]
    refine ⟨s.nd, List.nodup_cons.mpr ⟨by simp, List.nodup_nil⟩, fun x hx b hb => ?_⟩
    have : b = a := by simpa using hb
    subst this
    intro e
    subst e
    exact h1 hx
theorem Grow.toStore {F H F' H' : Hp} {io io' : List Addr} {a : Addr} (g : Grow F io H F' io' H') (h : H a = none) : Grow F io H F' (io' ++ [a]) H' := by
  obtain ⟨m, e⟩ := g.pre
  refine ⟨g.sub, ⟨m ++ [a], by rw [e, List.append_assoc]⟩, g.keep, g.there, g.newF, fun b hb => ?_⟩
  rcases List.mem_append.mp hb with z | z
  · exact g.newI b z
  · have : b = a := by simpa using z
    subst this; exact .inr h
variable (hc : X.calm = true) (hN : X.N.Nodup) (hi : DI X tg iter di) (ok : BlkOk X.N X.env.scope scope own)
    (hg : ∀ (s : Shared) (H : Hp) (C : Addr) (cl : List (Str × Addr)) (fp : List Addr), DG (X.blk s H scope (compEnvC scope cl C X.env) fp) (own.map (·.2)) tg g) (ht : ∀ (s : Shared) (H : Hp) (C : Addr) (cl : List (Str × Addr)) (fp : List Addr), DTs (X.blk s H scope (compEnvC scope cl C X.env) fp) ifs tt)
    (he : ∀ (s : Shared) (H : Hp) (C : Addr) (cl : List (Str × Addr)) (fp : List Addr), DE (X.blk s H scope (compEnvC scope cl C X.env) fp) elt te)
include hc hN hi ok hg ht he
theorem fin_comp {c : C} {σ : L2.St} {H : Hp} {Q : VK} (h : rd c (dComp di g tt te (own.map (·.2))) σ H Q) : tLc (rdI c di) (rdG c (own.map (·.2)) g) (rdT c tt) (rd c te) (own.map (·.2)) σ H Q := by
  obtain ⟨F, io, env, st, d, st', hh, e, q⟩ := h
  obtain ⟨⟨⟨ds, ck⟩, st1⟩, h1, e⟩ := Option.bind_eq_some_iff.mp e
  obtain ⟨⟨out, st2⟩, h2, e⟩ := Option.bind_eq_some_iff.mp e
  split at e
  · rename_i hl
    cases e
    refine tLc_rd hh h1 h2 hl fun D xs F' io' H' g1 s1 x1 x2 hD hx k => ?_
    exact q _ _ _ _ (g1.freeze hD x2 (hh.s.fresh hD)) (s1.freeze hx x1) (.lst upd_same (k.sub (Sub.upd x2)))
  · cases e
theorem fin_compR {c : C} {σ : L2.St} {H : Hp} {Q : VK} (h : rd c (dCompR di g tt te (own.map (·.2))) σ H Q) : tLc (rdI c di) (rdG c (own.map (·.2)) g) (rdT c tt) (rd c te) (own.map (·.2)) σ H Q := by
  obtain ⟨F, io, env, st, d, st', hh, e, q⟩ := h
  obtain ⟨⟨⟨ds, ck⟩, st1⟩, h1, e⟩ := Option.bind_eq_some_iff.mp e
  obtain ⟨⟨out, st2⟩, h2, e⟩ := Option.bind_eq_some_iff.mp e
  split at e
  · rename_i hl
    cases e
    refine tLc_rd hh h1 h2 hl fun D xs F' io' H' g1 s1 x1 x2 hD hx k => ?_
    refine q _ _ _ _ (g1.toStore hD) (s1.toStore x1 x2 (.lst hx (k.mono (Sub.refl _)))) (.ref ?_)
    show (io' ++ [D])[st2.length]? = some D
    rw [← s1.len]; simp
  · cases e
theorem de_comp (hs : ∀ x, foldedSetIterable iter X.env x = pure x := by intro _; rfl) : DE X (.ListComp elt [⟨tg, iter, ifs, 0⟩] scope pos) (dComp di g tt te (own.map (·.2))) :=
  PE.imp (pe_lc hc hN hi ok hg ht he hs) fun _ _ _ h => fin_comp hc hN hi ok hg ht he h
theorem de_compR (hs : ∀ x, foldedSetIterable iter X.env x = pure x := by intro _; rfl) : DE X (.ListComp elt [⟨tg, iter, ifs, 0⟩] scope pos) (dCompR di g tt te (own.map (·.2))) :=
  PE.imp (pe_lc hc hN hi ok hg ht he hs) fun _ _ _ h => fin_compR hc hN hi ok hg ht he h
/-- name = [..] on one line, the name a local -/
theorem ds_setComp {i : Nat} {y : Str} {py : Pos} (hy : X.N[i]? = some y) (hyl : X.env.scope.names.lookup y = some .local)
    (hsw : swapsWith (.ListComp elt [⟨tg, iter, ifs, 0⟩] scope pos) (some (.Name y py)) spos.line X.env = pure true) (hs : ∀ x, foldedSetIterable iter X.env x = pure x := by intro _; rfl) :
    DS X (.Assign [.Name y py] (.ListComp elt [⟨tg, iter, ifs, 0⟩] scope pos) spos) (sSet i (dComp di g tt te (own.map (·.2)))) := by
  refine PS.imp (ps_setLc (g := rdG (cOf X) (own.map (·.2)) g) (tt := rdT (cOf X) tt) (te := rd (cOf X) te) hc hN hy hyl hsw hi ok hg ht he hs) fun D σ H h => ?_
  obtain ⟨F, io, env, st, fl, env', st', hh, e, q⟩ := h
  obtain ⟨⟨x, st1⟩, h1, e⟩ := Option.map_eq_some_iff.mp e
  cases e
  refine fin_comp hc hN hi ok hg ht he ⟨F, io, env, st, x, _, hh, h1, fun v F1 io1 H1 g1 s1 r1 => ?_⟩
  exact q .non _ F1 io1 H1 g1 ⟨s1, (hh.e.grow g1).set i r1⟩ trivial
theorem ds_setCompR {i : Nat} {y : Str} {py : Pos} (hy : X.N[i]? = some y) (hyl : X.env.scope.names.lookup y = some .local)
    (hsw : swapsWith (.ListComp elt [⟨tg, iter, ifs, 0⟩] scope pos) (some (.Name y py)) spos.line X.env = pure true) (hs : ∀ x, foldedSetIterable iter X.env x = pure x := by intro _; rfl) :
    DS X (.Assign [.Name y py] (.ListComp elt [⟨tg, iter, ifs, 0⟩] scope pos) spos) (sSet i (dCompR di g tt te (own.map (·.2)))) := by
  refine PS.imp (ps_setLc (g := rdG (cOf X) (own.map (·.2)) g) (tt := rdT (cOf X) tt) (te := rd (cOf X) te) hc hN hy hyl hsw hi ok hg ht he hs) fun D σ H h => ?_
  obtain ⟨F, io, env, st, fl, env', st', hh, e, q⟩ := h
  obtain ⟨⟨x, st1⟩, h1, e⟩ := Option.map_eq_some_iff.mp e
  cases e
  refine fin_compR hc hN hi ok hg ht he ⟨F, io, env, st, x, _, hh, h1, fun v F1 io1 H1 g1 s1 r1 => ?_⟩
  exact q .non _ F1 io1 H1 g1 ⟨s1, (hh.e.grow g1).set i r1⟩ trivial
end
end DL
set_option Elab.async false
set_option linter.all false
set_option maxRecDepth 100000
set_option maxHeartbeats 4000000
/-! DL8: what loops walk: tuples, lists, texts, ranges, enumerate, zip. -/
namespace DL
open PySem PySem.Spec PyProof.Rows L2

/-! ### sources -/
inductive Sk where
  | L (a : Addr)
  | T (a : Addr)
  | S (x : Str) (t : Tok)
def Sk.val : Sk → Value
  | .L a => .ref a
  | .T a => .ref a
  | .S x t => .str x t
def Sk.obj : Sk → Obj
  | .L a => { cls := .type "list_iterator", data := .fields #[.ref a, .int 0 0] }
  | .T a => { cls := .type "tuple_iterator", data := .fields #[.ref a, .int 0 0] }
  | .S x t => { cls := .type (strIterType x), data := .fields #[.str x t, .int 0 0] }
def Sk.tn (it : Addr) : Sk → Nat → Heap → Prop
  | .L a, i, h => h.IsListIter it a i
  | .T a, i, h => h.IsTupleIter it a i
  | .S x t, i, h => h.IsStrIter it (strIterType x) x t i
def Sk.at (K : PySem.W.Frag) (H : Hp) (xs : List V) : Sk → Prop
  | .L a => SqL K H a xs
  | .T a => SqT K H a xs
  | .S x _ => xs = x.cps.toList.map fun c => V.str ⟨#[c]⟩
def Sk.lo (N : Nat) : Sk → Prop
  | .L a => a < N
  | .T a => a < N
  | .S _ _ => True
theorem Sk.tn_obj {it : Addr} {k : Sk} {i : Nat} {h : Heap} (t : k.tn it i h) : ∃ o, h.get? it = some o ∧ ∀ v, o.data ≠ .cell v := by
  cases k with
  | L a => obtain ⟨o, e, _, d⟩ := t; exact ⟨o, e, fun v z => by rw [d] at z; cases z⟩
  | T a => obtain ⟨o, e, _, d⟩ := t; exact ⟨o, e, fun v z => by rw [d] at z; cases z⟩
  | S x u => obtain ⟨o, e, _, d⟩ := t; exact ⟨o, e, fun v z => by rw [d] at z; cases z⟩
theorem Sk.tn_at {it : Addr} {k : Sk} {i : Nat} {h h' : Heap} (t : k.tn it i h) (hk : ∀ o, h.get? it = some o → h'.get? it = some o) : k.tn it i h' := by
  cases k with
  | L a => obtain ⟨o, e, r⟩ := t; exact ⟨o, hk o e, r⟩
  | T a => obtain ⟨o, e, r⟩ := t; exact ⟨o, hk o e, r⟩
  | S x u => obtain ⟨o, e, r⟩ := t; exact ⟨o, hk o e, r⟩
theorem Sk.tn_new {it : Addr} {k : Sk} {h : Heap} (e : h.get? it = some k.obj) : k.tn it 0 h := by
  cases k with
  | L a => exact ⟨_, e, rfl, rfl⟩
  | T a => exact ⟨_, e, rfl, rfl⟩
  | S x u => exact ⟨_, e, rfl, rfl⟩
section
variable {X : Cx} {pins : List (Addr × Obj)} {σ : L2.St} {H : Hp} {s : Shared} {xs : List V}
theorem Sk.begins {k : Sk} (I : Inv X pins σ H s) (h : k.at X.K H xs) : ∃ Hc, Begins k.val k.obj Hc ∧ Hc s.heap ∧ k.lo s.heap.objs.size := by
  cases k with
  | L a =>
    obtain ⟨its, rv, p, _⟩ := I.list h
    exact ⟨_, begins_list a its.toArray, p.isList, p.lt⟩
  | T a =>
    obtain ⟨its, rv, p, _⟩ := I.tuple h
    have p' : s.heap.IsTuple a its.toArray := p
    exact ⟨_, begins_tuple a its.toArray, p', by obtain ⟨o, e, _⟩ := p'; exact Heap.lt_size e⟩
  | S x t => exact ⟨_, begins_text x t, trivial, trivial⟩
theorem Draws.mono {prog : Program} {w : World} {A : Around} {it : Addr} {fp : List Addr} {n : Nat} {P P' : Nat → Value → Prop} {St : Nat → Heap → Prop} (D : Draws prog w A it fp n P St) (h : ∀ i v, P i v → P' i v) : Draws prog w A it fp n P' St where
  live := D.live
  frame := D.frame
  item := fun i s Q E hi st hQ => D.item i s Q E hi st fun x h' tk hx st' hs => hQ x h' tk (h i x hx) st' hs
  done := D.done
theorem Sk.inj {k : Sk} {ys : List V} (I : Inv X pins σ H s) (h : k.at X.K H xs) (h' : k.at X.K H ys) : ys = xs := by
  cases k with
  | L a => exact I.list_inj h' h
  | T a => exact I.tuple_inj h' h
  | S x t => exact h'.trans h.symm
theorem paired_get' : ∀ {xs : List V} {us : List Value}, Vals xs us → ∀ {i : Nat} {v : Value}, us[i]? = some v → ∃ x, xs[i]? = some x ∧ RelV x v
  | _, _, .nil, _, _, h => by simp at h
  | _, _, .cons r _, 0, _, h => by simp at h; subst h; exact ⟨_, rfl, r⟩
  | _, _, .cons _ t, i + 1, _, h => by
    obtain ⟨x, h1, h2⟩ := paired_get' t (i := i) (by simpa using h)
    exact ⟨x, by simpa using h1, h2⟩
theorem Sk.draws {k : Sk} {it : Addr} {i : Nat} {N : Nat} (I : Inv X pins σ H s) (h : k.at X.K H xs) (hN : k.lo N) (hit : N ≤ it) (st : k.tn it i s.heap) (A' : Around) (hh : A'.handled = none) :
    ∃ (fp : List Addr) (St : Nat → Heap → Prop), Draws X.prog X.w A' it fp xs.length (fun i y => ∃ x, xs[i]? = some x ∧ RelV x y) St ∧ St i s.heap ∧ (∀ j h, St j h → k.tn it j h) ∧ it ∈ fp ∧ ∀ b ∈ fp, b = it ∨ b < N := by
  cases k with
  | L a =>
    obtain ⟨its, rv, p, _⟩ := I.list h
    have hl := rv.length
    have hlo : a < N := hN
    refine ⟨[it, a], (fun i h => h.IsListIter it a i ∧ h.IsList a its.toArray), ?_, ⟨st, p.isList⟩, fun j h q => q.1, by simp, fun b hb => ?_⟩
    · have D := Draws.list (prog := X.prog) (w := X.w) hh it a (Nat.ne_of_lt (Nat.lt_of_lt_of_le hlo hit)) its.toArray
      have e : its.toArray.size = xs.length := by rw [hl]; simp
      rw [e] at D
      refine Draws.mono D fun i v q => ?_
      obtain ⟨x, e1, r⟩ := paired_get' rv (i := i) (v := v) (by simpa using q)
      exact ⟨x, e1, r⟩
    · have e' : b = it ∨ b = a := by simpa using hb
      rcases e' with z | z
      · exact .inl z
      · exact .inr (z ▸ hlo)
  | T a =>
    obtain ⟨its, rv, p, _⟩ := I.tuple h
    have hl := rv.length
    have hlo : a < N := hN
    have p' : s.heap.IsTuple a its.toArray := p
    refine ⟨[it, a], (fun i h => h.IsTupleIter it a i ∧ h.IsTuple a its.toArray), ?_, ⟨st, p'⟩, fun j h q => q.1, by simp, fun b hb => ?_⟩
    · have D := Draws.tuple (prog := X.prog) (w := X.w) hh it a (Nat.ne_of_lt (Nat.lt_of_lt_of_le hlo hit)) its.toArray
      have e : its.toArray.size = xs.length := by rw [hl]; simp
      rw [e] at D
      refine Draws.mono D fun i v q => ?_
      obtain ⟨x, e1, r⟩ := paired_get' rv (i := i) (v := v) (by simpa using q)
      exact ⟨x, e1, r⟩
    · have e' : b = it ∨ b = a := by simpa using hb
      rcases e' with z | z
      · exact .inl z
      · exact .inr (z ▸ hlo)
  | S x t =>
    have hxs : xs = x.cps.toList.map fun c => V.str ⟨#[c]⟩ := h
    refine ⟨[it], _, ?_, st, fun j h q => q, by simp, fun b hb => .inl (by simpa using hb)⟩
    have D := Draws.text (prog := X.prog) (w := X.w) hh it x t
    have e : x.cps.size = xs.length := by rw [hxs]; simp
    rw [e] at D
    refine Draws.mono D fun i v q => ?_
    obtain ⟨c, u, e1, e2⟩ := q
    exact ⟨.str ⟨#[c]⟩, by rw [hxs]; simp [e1], u, e2⟩
end

/-! ### enumerate -/
theorem meets_enumB {v : Value} {o : Obj} {Hc : Heap → Prop} (B : Begins v o Hc) :
    Meets (Builtin.«enumerate.__new__» ⟨[.type "enumerate", v], []⟩) (fun _ R s => Hc s.heap ∧
      R (.ok (.ret (.ref (s.heap.push o).objs.size)))
        { s with heap := (s.heap.push o).push { cls := .type "enumerate", data := .fields #[.none, .bool false, .ref s.heap.objs.size, rawInt 0, .none, .none] } }) :=
  .of_wp fun prog w A R s h => by
    obtain ⟨hp, g, d, tk, os⟩ := s
    obtain ⟨h1, h⟩ := h
    have hsub := sub_enumerate
    have q1 : ∀ {A' : Around} {E : Value → Shared → Prop} {Q : Value → Shared → Prop}, Q (.ref hp.objs.size) ⟨(hp.push o), g, d, tk, os⟩ → wpAny (model prog w) A' (pyIter v) Q E ⟨hp, g, d, tk, os⟩ :=
      fun q => B.iter prog w _ _ ⟨hp, g, d, tk, os⟩ _ h1 q
    wp_walk
    refine wpAny_stack_any fun st => wpAny_pure ?_
    split
    · rename_i c _ _ _ _ _
      cases (c == Value.type "enumerate")
      · wp_walk using q1
        exact ⟨_, rfl, h⟩
      · wp_walk using q1
        exact ⟨_, rfl, h⟩
    · wp_walk using q1
      exact ⟨_, rfl, h⟩
theorem call_enumB {prog : Program} {w : World} {A : Around} {E : Value → Shared → Prop} {s : Shared} {v : Value} {o : Obj} {Hc : Heap → Prop} {Q : Value → Shared → Prop} (B : Begins v o Hc) (h1 : Hc s.heap)
    (h : ∀ h', IsEnum h' (s.heap.objs.size + 1) s.heap.objs.size 0 .none → h'.get? s.heap.objs.size = some o → h'.objs.size = s.heap.objs.size + 2 →
      (∀ b o, s.heap.get? b = some o → h'.get? b = some o) → Q (.ref (s.heap.objs.size + 1)) { s with heap := h' }) :
    wpAny (model prog w) A (call (.type "enumerate") [v]) Q E s := by
  refine callType_new F.called_enumerate (by decide) (F.typeCall_enumerate_1 _) (F.newCall_enumerate_1 _) (fun obj => F.args_object_init_2 obj _) F.entry_enumerate_new
    (meets_enumB B) ⟨h1, ?_⟩
  have hz : (s.heap.push o).objs.size = s.heap.objs.size + 1 := Heap.size_push ..
  show _ ∧ _
  rw [hz]
  have he : IsEnum ((s.heap.push o).push { cls := .type "enumerate", data := .fields #[.none, .bool false, .ref s.heap.objs.size, rawInt 0, .none, .none] }) (s.heap.objs.size + 1) s.heap.objs.size 0 .none := by
    have := Heap.get?_push_size (s.heap.push o)
      (o := { cls := .type "enumerate", data := .fields #[.none, .bool false, .ref s.heap.objs.size, rawInt 0, .none, .none] }) rfl
    rw [hz] at this; exact this
  refine ⟨⟨_, he, rfl⟩, h _ he (Heap.get?_push_of_some _ (Heap.get?_push_size _ B.free)) (by rw [Heap.size_push, hz]) fun b o x => Heap.get?_push_of_some _ (Heap.get?_push_of_some _ x)⟩

/-- the items of the source, each in a new pair -/
def ItE (K : PySem.W.Frag) (k : Sk) : It :=
  ⟨fun i H => ∃ (xs : List V) (x : V), k.at K H xs ∧ xs[i]? = some x, fun i H v H' => ∃ T x, v = .ref T ∧ H T = none ∧ H' = upd H T (.tup [.int (i : Nat), x]) ∧ ∀ xs, k.at K H xs → xs[i]? = some x, fun i H => ∃ xs : List V, k.at K H xs ∧ xs.length = i⟩
theorem turn_enumB {P : Program} {w : World} {K : PySem.W.Frag} {elts : List Expr} {kk : Nat} {tpos : Pos} {k : Sk} {e it : Addr} {N : Nat} (hN : k.lo N) (hit : N ≤ it) (he : N ≤ e) (hne : e ≠ it) :
    Turn P w K (.Tuple elts kk tpos) (ItE K k) [e, it] e (fun i h => (∃ old, IsEnum h e it ((0 : Int) + ((i : Nat) : Int)) old) ∧ k.tn it i h) where
  mem := by simp
  obj := fun i h st b hb => by
    obtain ⟨⟨old, he⟩, hi⟩ := st
    have e' : b = e ∨ b = it := by simpa using hb
    rcases e' with z | z
    · rw [z]; exact ⟨_, he, fun v q => nomatch q⟩
    · rw [z]; exact Sk.tn_obj hi
  keep := fun i h h' st k => let ⟨⟨old, he⟩, hi⟩ := st; ⟨⟨old, k e (by simp) _ he⟩, Sk.tn_at hi fun o q => k it (by simp) o q⟩
  item := by
    intro X hP hw hK hc i pins s σ H E I hf st hg
    subst hP hw hK
    obtain ⟨⟨old, hen⟩, hi⟩ := st
    obtain ⟨xs, x, hq, hx⟩ := hg
    obtain ⟨fp, St, D, st1, back, hif, hfp⟩ := Sk.draws I hq hN hit hi X.A.in1 (I.ok.hd hc)
    have hlt : i < xs.length := (List.getElem?_eq_some_iff.mp hx).1
    have hef : e ∉ fp := fun z => by
      rcases hfp e z with q | q
      · exact hne q
      · exact absurd (Nat.lt_of_lt_of_le q he) (Nat.lt_irrefl _)
    have W := GoesN.enumFrom (elts := elts) (x1 := kk) (pos := tpos) 0 D e hne hef hif
    refine W.goes i s _ _ hlt ⟨⟨old, hen⟩, st1⟩ fun v h' tk hY st' hk htk => ?_
    obtain ⟨T, t, y, rfl, hT, ⟨x', hx', ry⟩, hTT⟩ := hY
    rw [hx] at hx'
    cases hx'
    rw [Int.zero_add] at hTT
    have hel : e < s.heap.objs.size := Heap.lt_size hen
    have hil : it < s.heap.objs.size := by obtain ⟨o, q, _⟩ := Sk.tn_obj hi; exact Heap.lt_size q
    have new : ObjOk X.prog X.w (upd H T (.tup [.int (i : Nat), x])) h' T (.tup [.int (i : Nat), x]) :=
      ⟨by show 2 ≤ sizeLine; decide, [.int i t, y], .cons ⟨_, rfl⟩ (.cons ry .nil), hTT⟩
    have I1 : Inv X pins σ (upd H T (.tup [.int (i : Nat), x])) { s with heap := h', toks := tk } := I.turnedNew (ch := [e, it]) hk hf hT new
    refine ⟨.ref T, _, I1, rfl, ⟨T, x, rfl, I.hok.fresh hT, rfl, fun ys hy => by rw [Sk.inj I hq hy]; exact hx⟩, ⟨?_, back _ _ st'.2⟩, fun b hb => ?_⟩
    · obtain ⟨old', q⟩ := st'.1
      exact ⟨old', q⟩
    · have hb' : b < s.heap.objs.size := by
        have e' : b = e ∨ b = it := by simpa using hb
        rcases e' with z | z
        · rw [z]; exact hel
        · rw [z]; exact hil
      rw [upd_ne (Nat.ne_of_lt (Nat.lt_of_lt_of_le hb' hT))]
      exact (hf b hb).1
  done := by
    intro X hP hw hK hc i pins s σ H E I hf st hg
    subst hP hw hK
    obtain ⟨⟨old, hen⟩, hi⟩ := st
    obtain ⟨xs, hq, rfl⟩ := hg
    obtain ⟨fp, St, D, st1, back, hif, hfp⟩ := Sk.draws I hq hN hit hi X.A.in1 (I.ok.hd hc)
    have hef : e ∉ fp := fun z => by
      rcases hfp e z with q | q
      · exact hne q
      · exact absurd (Nat.lt_of_lt_of_le q he) (Nat.lt_irrefl _)
    have W := GoesN.enumFrom (elts := elts) (x1 := kk) (pos := tpos) 0 D e hne hef hif
    exact W.stops s _ _ ⟨⟨old, hen⟩, st1⟩ fun h' tk hk htk => I.turnedL (ch := [e, it]) hk hf
  self := fun A i s Q E st h => let ⟨⟨_, he⟩, _⟩ := st; wpAny_pyIter_enum he h

/-- a value that is a source -/
inductive SkOf : V → Value → Sk → Prop
  | L (a : Addr) : SkOf (.ref a) (.ref a) (.L a)
  | T (a : Addr) : SkOf (.ref a) (.ref a) (.T a)
  | S (x : Str) (t : Tok) : SkOf (.str x) (.str x t) (.S x t)
/-- .. by the value alone -/
inductive SkV : V → (Tok → Sk) → Prop
  | L (a : Addr) : SkV (.ref a) fun _ => .L a
  | T (a : Addr) : SkV (.ref a) fun _ => .T a
  | S (x : Str) : SkV (.str x) fun t => .S x t
theorem SkV.of {v : V} {u : Value} {f : Tok → Sk} (h : SkV v f) (r : RelV v u) : ∃ t, u = (f t).val := by
  cases h with
  | L a => exact ⟨0, r⟩
  | T a => exact ⟨0, r⟩
  | S x => obtain ⟨t, e⟩ := r; exact ⟨t, e⟩
def iEnB (K : PySem.W.Frag) (ta : TA) : TI := fun σ H R => ta σ H fun vs H1 => ∃ v f, vs = [v] ∧ SkV v f ∧ ∀ t, ∃ xs, (f t).at K H1 xs ∧ R (ItE K (f t)) H1
theorem pi_enumB {X : Cx} {e : Expr} {ta : TA} {p pos tpos : Pos} {elts : List Expr} {kk : Nat} (hg : Gl X "enumerate") (hm : X.mg "enumerate" = none) (ha : PA X [e] ta) (hs : starEach [e] X.env = [(false, eval e X.env)] := by rfl) :
    PI X (.Tuple elts kk tpos) (.Call (.Name "enumerate" p) [e] [] pos) (iEnB X.K ta) := by
  refine ⟨fun pins s σ H R I h => ?_⟩
  refine Call_ (ld_blt I hg hm boot_enumerate (PyProof.Rows.callWith_type1 (thn (ha.run pos pins s σ H _ I h) fun us s1 ⟨vs, H1, I1, r1, q1⟩ => ?_) hs rfl))
  obtain ⟨v, f, ex, kf, q⟩ := q1
  subst ex
  cases r1 with
  | cons r rr =>
    cases rr
    obtain ⟨t, rfl⟩ := kf.of r
    obtain ⟨xs, q1, q2⟩ := q t
    obtain ⟨Hc, B, h1, hN⟩ := Sk.begins I1 q1
    refine call_enumB B h1 fun h' he hit hsz hk => wpAny_pyIter_enum he ?_
    have I2 : Inv X pins σ H1 { s1 with heap := h' } := I1.kept (t' := s1.toks) hk
    refine ⟨s1.heap.objs.size + 1, [s1.heap.objs.size + 1, s1.heap.objs.size], _, _, H1, rfl, I2, turn_enumB hN (Nat.le_refl _) (Nat.le_add_right _ 1) (Nat.succ_ne_self _), ⟨⟨.none, he⟩, Sk.tn_new hit⟩, fun b hb => ?_, q2⟩
    have e' : b = s1.heap.objs.size + 1 ∨ b = s1.heap.objs.size := by simpa using hb
    have hle : s1.heap.objs.size ≤ b := by
      rcases e' with z | z
      · rw [z]; exact Nat.le_add_right _ _
      · rw [z]; exact Nat.le_refl _
    exact I1.fpOk hle (I1.hok.fresh hle)

/-! ### zip of two -/
def ItZ (K : PySem.W.Frag) (k1 k2 : Sk) : It :=
  ⟨fun i H => ∃ (xs ys : List V) (x y : V), k1.at K H xs ∧ k2.at K H ys ∧ xs[i]? = some x ∧ ys[i]? = some y,
    fun i H v H' => ∃ T x y, v = .ref T ∧ H T = none ∧ H' = upd H T (.tup [x, y]) ∧ (∀ xs, k1.at K H xs → xs[i]? = some x) ∧ ∀ ys, k2.at K H ys → ys[i]? = some y,
    fun i H => ∃ xs ys : List V, k1.at K H xs ∧ k2.at K H ys ∧ min xs.length ys.length = i⟩
structure ZApart (N z TI TO i1 i2 : Addr) : Prop where
  hz : N ≤ z
  hTI : N ≤ TI
  hTO : N ≤ TO
  h1 : N ≤ i1
  h2 : N ≤ i2
  nd : [z, TI, TO, i1, i2].Nodup
theorem ZApart.sep {N z TI TO i1 i2 : Addr} (D : ZApart N z TI TO i1 i2) {fp1 fp2 : List Addr} (m1 : i1 ∈ fp1) (m2 : i2 ∈ fp2) (f1 : ∀ b ∈ fp1, b = i1 ∨ b < N) (f2 : ∀ b ∈ fp2, b = i2 ∨ b < N) : ZipSep2 z TI TO i1 i2 fp1 fp2 := by
  obtain ⟨hz, hTI, hTO, h1, h2, nd⟩ := D
  simp only [List.nodup_cons, List.mem_cons, List.not_mem_nil, or_false, not_or, List.nodup_nil, and_true, not_false_eq_true] at nd
  obtain ⟨⟨z1, z2, z3, z4⟩, ⟨t1, t2, t3⟩, ⟨o1, o2⟩, q1⟩ := nd
  refine ⟨fun h => z1 h.symm, fun h => z2 h.symm, t1, t2, m1, fun h => ?_, fun h => ?_, t3, m2, fun h => ?_, fun h => ?_, fun h => ?_, fun h => ?_⟩
  · rcases f1 _ h with e | e
    · exact z3 e
    · exact absurd (Nat.lt_of_lt_of_le e hz) (Nat.lt_irrefl _)
  · rcases f1 _ h with e | e
    · exact o1 e
    · exact absurd (Nat.lt_of_lt_of_le e hTO) (Nat.lt_irrefl _)
  · rcases f2 _ h with e | e
    · exact z4 e
    · exact absurd (Nat.lt_of_lt_of_le e hz) (Nat.lt_irrefl _)
  · rcases f2 _ h with e | e
    · exact o2 e
    · exact absurd (Nat.lt_of_lt_of_le e hTO) (Nat.lt_irrefl _)
  · rcases f2 _ h with e | e
    · exact q1 e
    · exact absurd (Nat.lt_of_lt_of_le e h1) (Nat.lt_irrefl _)
  · rcases f1 _ h with e | e
    · exact q1 e.symm
    · exact absurd (Nat.lt_of_lt_of_le e h2) (Nat.lt_irrefl _)
theorem turn_zipB {P : Program} {w : World} {K : PySem.W.Frag} {elts : List Expr} {kk : Nat} {tpos : Pos} {k1 k2 : Sk} {N z TI TO i1 i2 : Addr} (hN1 : k1.lo N) (hN2 : k2.lo N) (D : ZApart N z TI TO i1 i2) :
    Turn P w K (.Tuple elts kk tpos) (ItZ K k1 k2) [z, TI, TO, i1, i2] z (fun i h => IsZip h z TI TO .none ∧ IsTupOf2 h TI (.ref i1) (.ref i2) ∧ (∃ x y, IsTupOf2 h TO x y) ∧ k1.tn i1 i h ∧ k2.tn i2 i h) where
  mem := by simp
  obj := fun i h st c hc => by
    obtain ⟨hz, hTI, ⟨x, y, hTO⟩, t1, t2⟩ := st
    have e' : c = z ∨ c = TI ∨ c = TO ∨ c = i1 ∨ c = i2 := by simpa using hc
    rcases e' with q | q | q | q | q
    · rw [q]; exact ⟨_, hz, fun v q => nomatch q⟩
    · rw [q]; exact ⟨_, hTI, fun v q => nomatch q⟩
    · rw [q]; exact ⟨_, hTO, fun v q => nomatch q⟩
    · rw [q]; exact Sk.tn_obj t1
    · rw [q]; exact Sk.tn_obj t2
  keep := fun i h h' st k => by
    obtain ⟨hz, hTI, ⟨x, y, hTO⟩, h1, h2⟩ := st
    exact ⟨k z (by simp) _ hz, k TI (by simp) _ hTI, ⟨x, y, k TO (by simp) _ hTO⟩, Sk.tn_at h1 fun o q => k i1 (by simp) o q, Sk.tn_at h2 fun o q => k i2 (by simp) o q⟩
  item := by
    intro X hP hw hK hc i pins s σ H E I hf st hg
    subst hP hw hK
    obtain ⟨hz, hTI, hTO, t1, t2⟩ := st
    obtain ⟨xs, ys, x, y, hqx, hqy, hx, hy⟩ := hg
    obtain ⟨fp1, St1, D1, s1, b1, m1, f1⟩ := Sk.draws I hqx hN1 D.h1 t1 X.A.in1 (I.ok.hd hc)
    obtain ⟨fp2, St2, D2, s2, b2, m2, f2⟩ := Sk.draws I hqy hN2 D.h2 t2 X.A.in1 (I.ok.hd hc)
    have l1 : i < xs.length := (List.getElem?_eq_some_iff.mp hx).1
    have l2 : i < ys.length := (List.getElem?_eq_some_iff.mp hy).1
    have W := GoesN.zip2 (elts := elts) (x1 := kk) (pos := tpos) (D.sep m1 m2 f1 f2) D1 D2
    refine W.goes i s _ _ (by omega) ⟨hz, hTI, hTO, s1, s2⟩ fun v h' tk hY st' hk htk => ?_
    obtain ⟨T, u1, u2, rfl, hT, ⟨x', hx', r1⟩, ⟨y', hy', r2⟩, hTT⟩ := hY
    rw [hx] at hx'
    cases hx'
    rw [hy] at hy'
    cases hy'
    have new : ObjOk X.prog X.w (upd H T (.tup [x, y])) h' T (.tup [x, y]) :=
      ⟨by show 2 ≤ sizeLine; decide, [u1, u2], .cons r1 (.cons r2 .nil), hTT⟩
    have I1 : Inv X pins σ (upd H T (.tup [x, y])) { s with heap := h', toks := tk } := I.turnedNew (ch := [z, TI, TO, i1, i2]) (fun b o hb q => hk b o (fun zz => hb (by
        have e' : b = z ∨ b = TO ∨ b = i1 ∨ b = i2 := by simpa using zz
        rcases e' with q | q | q | q <;> simp [q])) q) hf hT new
    refine ⟨.ref T, _, I1, rfl, ⟨T, x, y, rfl, I.hok.fresh hT, rfl, fun l hl => by rw [Sk.inj I hqx hl]; exact hx, fun l hl => by rw [Sk.inj I hqy hl]; exact hy⟩, ⟨st'.1, st'.2.1, st'.2.2.1, b1 _ _ st'.2.2.2.1, b2 _ _ st'.2.2.2.2⟩, fun c hcm => ?_⟩
    have hlt : c < s.heap.objs.size := by
      have e' : c = z ∨ c = TI ∨ c = TO ∨ c = i1 ∨ c = i2 := by simpa using hcm
      obtain ⟨_, _, hTO⟩ := hTO
      rcases e' with q | q | q | q | q
      · rw [q]; exact Heap.lt_size hz
      · rw [q]; exact Heap.lt_size hTI
      · rw [q]; exact Heap.lt_size hTO
      · rw [q]; obtain ⟨_, e1, _⟩ := Sk.tn_obj t1; exact Heap.lt_size e1
      · rw [q]; obtain ⟨_, e2, _⟩ := Sk.tn_obj t2; exact Heap.lt_size e2
    rw [upd_ne (Nat.ne_of_lt (Nat.lt_of_lt_of_le hlt hT))]
    exact (hf c hcm).1
  done := by
    intro X hP hw hK hc i pins s σ H E I hf st hg
    subst hP hw hK
    obtain ⟨hz, hTI, hTO, t1, t2⟩ := st
    obtain ⟨xs, ys, hqx, hqy, hend⟩ := hg
    obtain ⟨fp1, St1, D1, s1, b1, m1, f1⟩ := Sk.draws I hqx hN1 D.h1 t1 X.A.in1 (I.ok.hd hc)
    obtain ⟨fp2, St2, D2, s2, b2, m2, f2⟩ := Sk.draws I hqy hN2 D.h2 t2 X.A.in1 (I.ok.hd hc)
    have W := GoesN.zip2 (elts := elts) (x1 := kk) (pos := tpos) (D.sep m1 m2 f1 f2) D1 D2
    subst hend
    exact W.stops s _ _ ⟨hz, hTI, hTO, s1, s2⟩ fun h' tk hk htk => I.turnedL (ch := [z, TI, TO, i1, i2]) (fun b o hb q => hk b o (fun zz => hb (by
        have e' : b = z ∨ b = TO ∨ b = i1 ∨ b = i2 := by simpa using zz
        rcases e' with q | q | q | q <;> simp [q])) q) hf
  self := fun A i s Q E st h => wpAny_pyIter_zip st.1 h
def iZipB (K : PySem.W.Frag) (ta : TA) : TI := fun σ H R => ta σ H fun vs H1 => ∃ v1 v2 f1 f2, vs = [v1, v2] ∧ SkV v1 f1 ∧ SkV v2 f2 ∧ ∀ t u, ∃ xs ys, (f1 t).at K H1 xs ∧ (f2 u).at K H1 ys ∧ R (ItZ K (f1 t) (f2 u)) H1
theorem pi_zipB {X : Cx} {e e2 : Expr} {ta : TA} {p pos tpos : Pos} {elts : List Expr} {kk : Nat} (hg : Gl X "zip") (hm : X.mg "zip" = none) (ha : PA X [e, e2] ta)
    (hs : starEach [e, e2] X.env = (false, eval e X.env) :: starEach [e2] X.env := by rfl) (hpl : (backTo pos (starEach [e2] X.env)).any (·.1) = false := by rfl) :
    PI X (.Tuple elts kk tpos) (.Call (.Name "zip" p) [e, e2] [] pos) (iZipB X.K ta) := by
  refine ⟨fun pins s σ H R I h => ?_⟩
  refine Call_ (ld_blt I hg hm PyProof.Rows.boot_zip (PyProof.Rows.callWith_type1 (thn (ha.run pos pins s σ H _ I h) fun us s1 ⟨vs, H1, I1, r1, q1⟩ => ?_) hs hpl))
  obtain ⟨v1, v2, g1, g2, ex, kf1, kf2, q⟩ := q1
  subst ex
  cases r1 with
  | cons r rr =>
    cases rr with
    | cons r' rr =>
      cases rr
      obtain ⟨t, rfl⟩ := kf1.of r
      obtain ⟨u, rfl⟩ := kf2.of r'
      obtain ⟨xs, ys, q1, q2, q3⟩ := q t u
      obtain ⟨Hc1, B1, h1, hN1⟩ := Sk.begins I1 q1
      obtain ⟨Hc2, B2, h2, hN2⟩ := Sk.begins I1 q2
      refine zip_begins2 B1 B2 h1 h2 fun h' hz hTI hTO e1 e2 hsz hk => wpAny_pyIter_zip hz ?_
      have I2 : Inv X pins σ H1 { s1 with heap := h' } := I1.kept (t' := s1.toks) hk
      have fresh5 : ∀ c, c ∈ [s1.heap.objs.size + 4, s1.heap.objs.size + 2, s1.heap.objs.size + 3, s1.heap.objs.size, s1.heap.objs.size + 1] → FpOk X pins H1 c := fun c hcm => by
        have e' : c = s1.heap.objs.size + 4 ∨ c = s1.heap.objs.size + 2 ∨ c = s1.heap.objs.size + 3 ∨ c = s1.heap.objs.size ∨ c = s1.heap.objs.size + 1 := by simpa using hcm
        have hle : s1.heap.objs.size ≤ c := by
          rcases e' with z | z | z | z | z <;> rw [z]
          · exact Nat.le_add_right _ _
          · exact Nat.le_add_right _ _
          · exact Nat.le_add_right _ _
          · exact Nat.le_refl _
          · exact Nat.le_add_right _ _
        exact I1.fpOk hle (I1.hok.fresh hle)
      have ap : ZApart s1.heap.objs.size (s1.heap.objs.size + 4) (s1.heap.objs.size + 2) (s1.heap.objs.size + 3) s1.heap.objs.size (s1.heap.objs.size + 1) :=
        ⟨Nat.le_add_right _ _, Nat.le_add_right _ _, Nat.le_add_right _ _, Nat.le_refl _, Nat.le_add_right _ _, by
          simp only [List.nodup_cons, List.mem_cons, List.not_mem_nil, or_false, not_or, List.nodup_nil, and_true, not_false_eq_true]
          generalize s1.heap.objs.size = n
          refine ⟨⟨?_, ?_, ?_, ?_⟩, ⟨?_, ?_, ?_⟩, ⟨?_, ?_⟩, ?_⟩ <;> (intro z; have z' : (_ : Nat) = _ := z; omega)⟩
      exact ⟨s1.heap.objs.size + 4, [s1.heap.objs.size + 4, s1.heap.objs.size + 2, s1.heap.objs.size + 3, s1.heap.objs.size, s1.heap.objs.size + 1], _, _, H1, rfl, I2, turn_zipB hN1 hN2 ap, ⟨hz, hTI, ⟨_, _, hTO⟩, Sk.tn_new e1, Sk.tn_new e2⟩, fresh5, q3⟩
end DL
set_option Elab.async false
set_option linter.all false
set_option maxRecDepth 100000
set_option maxHeartbeats 4000000
/-! DL9: the rules of what loops walk. -/
namespace DL
open PySem PySem.Spec PyProof.Rows L2

def yesS : Store → Bool := fun _ => true
@[simp] theorem yesS_eq (st : Store) : yesS st = true := rfl
/-- the list n of the store is as it was -/
noncomputable def sameS (n : Nat) (ds : List D) : Store → Bool := fun st => @decide (st[n]? = some (.lst ds)) (Classical.propDecidable _)
theorem sameS_eq {n : Nat} {ds : List D} {st : Store} : sameS n ds st = true ↔ st[n]? = some (.lst ds) := by
  unfold sameS; exact @decide_eq_true_iff _ (Classical.propDecidable _)
def strItems (x : List Nat) : List D := x.map fun c => .str [c]
noncomputable def walkD (st : Store) : D → Option (List D × (Store → Bool))
  | .tup ds => some (ds, yesS)
  | .lst ds => some (ds, yesS)
  | .str x => some (strItems x, yesS)
  | .scr ns => some (ns.map .int, yesS)
  | .ref n => (match st[n]? with
    | some (.lst ds) => some (ds, sameS n ds)
    | _ => none)
  | _ => none
noncomputable def iOf (d : Den) : DenI := fun env st => (d env st).bind fun p => (walkD p.2 p.1).map fun w => (w, p.2)
theorem Reps.ints {c : C} {io : List Addr} {F : Hp} : ∀ ns : List Int, Reps c io F (ns.map V.int) (ns.map D.int)
  | [] => .nil
  | n :: ns => .cons (.int n) (Reps.ints ns)
theorem Reps.chars {c : C} {io : List Addr} {F : Hp} : ∀ x : List Nat, Reps c io F (x.map fun c => V.str ⟨#[c]⟩) (strItems x)
  | [] => .nil
  | n :: ns => .cons (.str [n]) (Reps.chars ns)
/-- what is at a source, whenever -/
theorem walk_at {c : C} {F0 H0 : Hp} {io0 : List Addr} {st0 : Store} {v : V} {d : D} {w : List D × (Store → Bool)} (s0 : SRel c F0 io0 st0 H0) (r : Rep c io0 F0 v d) (h : walkD st0 d = some w) :
    ∃ f, SkV v f ∧ ∀ t F io H st, Grow F0 io0 H0 F io H → SRel c F io st H → w.2 st = true → ∃ xs, (f t).at c.K H xs ∧ Reps c io F xs w.1 := by
  cases d with
  | tup ds =>
    cases h
    cases r with
    | tup h1 k1 => exact ⟨_, .T _, fun t F io H st g s _ => ⟨_, Sub.sqT s.sub (Sub.sqT g.sub h1), k1.grow g⟩⟩
  | lst ds =>
    cases h
    cases r with
    | lst h1 k1 => exact ⟨_, .L _, fun t F io H st g s _ => ⟨_, .inl (.inl (s.sub _ _ (g.sub _ _ h1))), k1.grow g⟩⟩
  | str x =>
    cases h
    cases r with
    | str => exact ⟨_, .S _, fun t F io H st g s _ => ⟨_, rfl, by
      show Reps c io F ((strOf x).cps.toList.map _) _
      rw [cps_strOf]
      exact Reps.chars x⟩⟩
  | scr ns =>
    cases h
    cases r with
    | scr h1 => exact ⟨_, .L _, fun t F io H st g s _ => ⟨_, Sub.sqL s.sub (Sub.sqL g.sub h1), Reps.ints ns⟩⟩
  | ref n =>
    cases r with
    | ref hn =>
      rename_i a
      refine ⟨_, .L a, fun t F io H st g s hw => ?_⟩
      cases hs : st0[n]? with
      | none => simp only [walkD, hs] at h; cases h
      | some o =>
        cases o with
        | lst ds =>
          simp only [walkD, hs] at h
          cases h
          have hst := sameS_eq.mp hw
          obtain ⟨m, e⟩ := g.pre
          have hn' : io[n]? = some a := by
            obtain ⟨hl, _⟩ := List.getElem?_eq_some_iff.mp hn
            rw [e, List.getElem?_append_left hl]; exact hn
          obtain ⟨_, q⟩ := s.obj n a _ hn' hst
          cases q with
          | lst e1 k1 => exact ⟨_, .inl (.inl e1), k1⟩
        | _ => simp only [walkD, hs] at h; cases h
  | _ => cases h
theorem walk_now {st : Store} {x : D} {w : List D × (Store → Bool)} (h2 : walkD st x = some w) : w.2 st = true := by
  cases x with
  | ref n =>
    cases hs : st[n]? with
    | none => simp only [walkD, hs] at h2; cases h2
    | some o =>
      cases o with
      | lst ds =>
        simp only [walkD, hs] at h2
        cases h2
        exact sameS_eq.mpr hs
      | _ => simp only [walkD, hs] at h2; cases h2
  | tup _ => cases h2; rfl
  | lst _ => cases h2; rfl
  | str _ => cases h2; rfl
  | scr _ => cases h2; rfl
  | _ => cases h2

/-- one of the three iterators -/
def ItS (K : PySem.W.Frag) : Sk → It
  | .L a => Itl K a
  | .T a => Itt K a
  | .S x _ => Its x
def iSk (K : PySem.W.Frag) (te : TE) : TI := fun σ H R => te σ H fun v H1 => ∃ f, SkV v f ∧ ∀ t, (∃ xs, (f t).at K H1 xs) ∧ R (ItS K (f t)) H1
theorem pi_sk {X : Cx} {tg l : Expr} {tl : TE} (hl : PE X l tl) : PI X tg l (iSk X.K tl) := by
  refine ⟨fun pins s σ H R I h => ?_⟩
  refine thn (hl.run pins s σ H _ I h) fun v s1 ⟨x, H1, I1, r1, q1⟩ => ?_
  obtain ⟨f, hf, q⟩ := q1
  cases hf with
  | L a =>
    obtain ⟨⟨xs, hq⟩, q⟩ := q 0
    cases r1
    obtain ⟨its, rv, p, hz⟩ := I1.list hq
    refine wpAny_pyIter_list p.isList ?_
    refine ⟨s1.heap.objs.size, [s1.heap.objs.size], _, _, H1, rfl, I1.kept (t' := s1.toks) fun b o e => Heap.get?_push_of_some _ e, turn_list a _, ⟨_, Heap.get?_push_size _ rfl, rfl, rfl⟩, fun b hb => ?_, q⟩
    have e : b = s1.heap.objs.size := by simpa using hb
    subst e
    exact I1.fpOk (Nat.le_refl _) (I1.hok.fresh (Nat.le_refl _))
  | T a =>
    obtain ⟨⟨xs, hq⟩, q⟩ := q 0
    cases r1
    obtain ⟨its, rv, p, hz⟩ := I1.tuple hq
    refine wpAny_pyIter_tuple (show s1.heap.IsTuple a its.toArray from p) ?_
    refine ⟨s1.heap.objs.size, [s1.heap.objs.size], _, _, H1, rfl, I1.kept (t' := s1.toks) fun b o e => Heap.get?_push_of_some _ e, turn_tuple a _, ⟨_, Heap.get?_push_size _ rfl, rfl, rfl⟩, fun b hb => ?_, q⟩
    have e : b = s1.heap.objs.size := by simpa using hb
    subst e
    exact I1.fpOk (Nat.le_refl _) (I1.hok.fresh (Nat.le_refl _))
  | S x =>
    obtain ⟨t, rfl⟩ := r1
    obtain ⟨_, q⟩ := q t
    cases ha : x.cps.all (· < 128)
    · exact wpAny_pyIter_wide ha (pi_one (tk := s1.toks) I1 _ (turn_str _ x t "str_iterator" (.inr rfl)) ⟨_, Heap.get?_push_size _ rfl, rfl, rfl⟩ q)
    · exact wpAny_pyIter_ascii ha (pi_one (tk := s1.toks) I1 _ (turn_str _ x t "str_ascii_iterator" (.inl rfl)) ⟨_, Heap.get?_push_size _ rfl, rfl, rfl⟩ q)
theorem SkV.inj {v : V} {f : Tok → Sk} (h : SkV v f) {K : PySem.W.Frag} {H : Hp} {xs : List V} {t : Tok} (q : (f t).at K H xs) :
    (∃ a, f t = .L a ∧ SqL K H a xs) ∨ (∃ a, f t = .T a ∧ SqT K H a xs) ∨ ∃ x, f t = .S x t ∧ xs = x.cps.toList.map fun c => V.str ⟨#[c]⟩ := by
  cases h with
  | L a => exact .inl ⟨a, rfl, q⟩
  | T a => exact .inr (.inl ⟨a, rfl, q⟩)
  | S x => exact .inr (.inr ⟨x, rfl, q⟩)
theorem serves_sk {c : C} {F0 H0 : Hp} {io0 : List Addr} {ck : Store → Bool} {ds : List D} {v : V} {f : Tok → Sk} (hf : SkV v f) (t : Tok)
    (h : ∀ F io H st, Grow F0 io0 H0 F io H → SRel c F io st H → ck st = true → ∃ xs, (f t).at c.K H xs ∧ Reps c io F xs ds) : Serves c (ItS c.K (f t)) ds ck F0 io0 H0 := by
  intro i F io st H g s hck
  obtain ⟨xs, q, k⟩ := h F io H st g s hck
  have hl := k.length
  rcases hf.inj q with ⟨a, e, q1⟩ | ⟨a, e, q1⟩ | ⟨x, e, q1⟩
  · rw [e]
    refine ⟨fun hi => ⟨xs, q1, by omega⟩, fun d hd => ?_⟩
    obtain ⟨y, hy, ry⟩ := k.get hd
    refine ⟨⟨xs, y, q1, hy⟩, fun z H' hz => ?_⟩
    obtain ⟨rfl, hz⟩ := hz
    have e2 := hz xs q1
    rw [hy] at e2
    cases e2
    exact ⟨F, Grow.refl, s, ry⟩
  · rw [e]
    refine ⟨fun hi => ⟨xs, q1, by omega⟩, fun d hd => ?_⟩
    obtain ⟨y, hy, ry⟩ := k.get hd
    refine ⟨⟨xs, y, q1, hy⟩, fun z H' hz => ?_⟩
    obtain ⟨rfl, hz⟩ := hz
    have e2 := hz xs q1
    rw [hy] at e2
    cases e2
    exact ⟨F, Grow.refl, s, ry⟩
  · rw [e]
    have hsz : x.cps.size = xs.length := by rw [q1]; simp
    refine ⟨fun hi => ?_, fun d hd => ?_⟩
    · show x.cps.size ≤ i
      omega
    obtain ⟨y, hy, ry⟩ := k.get hd
    refine ⟨?_, fun z H' hz => ?_⟩
    · show i < x.cps.size
      rw [hsz]; exact (List.getElem?_eq_some_iff.mp hy).1
    obtain ⟨rfl, c', hc, rfl⟩ := hz
    rw [q1] at hy
    simp [hc] at hy
    subst hy
    exact ⟨F, Grow.refl, s, ry⟩
section
variable {X : Cx} {tg e e2 : Expr} {d : Den} {a : DenA} {p pos tpos : Pos} {elts : List Expr} {kk : Nat}
theorem di_of (he : DE X e d) : DI X tg e (iOf d) := by
  refine PI.imp (pi_sk he) fun σ H R h => ?_
  obtain ⟨F, io, env, st, ds, st', hh, hd, q⟩ := h
  obtain ⟨⟨x, st1⟩, h1, hd⟩ := Option.bind_eq_some_iff.mp hd
  obtain ⟨w, h2, hd⟩ := Option.map_eq_some_iff.mp hd
  cases hd
  refine ⟨F, io, env, st, x, _, hh, h1, fun v F1 io1 H1 g1 s1 r1 => ?_⟩
  obtain ⟨f, hf, hw⟩ := walk_at s1 r1 h2
  refine ⟨f, hf, fun t => ?_⟩
  refine ⟨?_, q _ F1 io1 H1 g1 s1 (serves_sk hf t (hw t))⟩
  obtain ⟨xs, q1, _⟩ := hw t F1 io1 H1 st1 Grow.refl s1 (walk_now h2)
  exact ⟨xs, q1⟩
/-! ### range -/
def small62 (j : Int) : Bool := decide (-(2 ^ 62) ≤ j) && decide (j < 2 ^ 62)
theorem small62_eq {j : Int} : small62 j = true ↔ -(2 ^ 62) ≤ j ∧ j < 2 ^ 62 := by unfold small62; simp
def rangeD (lo : Int) (n : Nat) : List D := (List.range n).map fun i => .int (lo + (i : Nat))
def downD (lo : Int) (n : Nat) : List D := (List.range n).map fun i => .int (lo - (i : Nat))
def rng1 : List D → Option (List D × (Store → Bool))
  | [.int j] => if small62 j = true then some (rangeD 0 j.toNat, yesS) else none
  | _ => none
def rng2 : List D → Option (List D × (Store → Bool))
  | [.int i, .int j] => if (small62 i && small62 j) = true then some (rangeD i (j - i).toNat, yesS) else none
  | _ => none
/-- the step is -1 -/
def rng3 : List D → Option (List D × (Store → Bool))
  | [.int i, .int j, .int k] => if (small62 i && small62 j && decide (k = -1)) = true then some (downD i (i - j).toNat, yesS) else none
  | _ => none
def iRng (f : List D → Option (List D × (Store → Bool))) (a : DenA) : DenI := fun env st => (a env st).bind fun p => (f p.1).map fun w => (w, p.2)
theorem serves_rng {c : C} {F0 H0 : Hp} {io0 : List Addr} (lo : Int) (n : Nat) : Serves c (Itr lo n) (rangeD lo n) yesS F0 io0 H0 := by
  intro i F io st H g s _
  have hl : (rangeD lo n).length = n := by simp [rangeD]
  refine ⟨fun hi => ?_, fun d hd => ?_⟩
  · show n ≤ i
    omega
  have hlt : i < n := by rw [← hl]; exact (List.getElem?_eq_some_iff.mp hd).1
  refine ⟨hlt, fun z H' hz => ?_⟩
  obtain ⟨rfl, rfl⟩ := hz
  have e : d = .int (lo + (i : Nat)) := by
    simp [rangeD, hlt] at hd
    exact hd.symm
  subst e
  exact ⟨F, Grow.refl, s, .int _⟩
theorem serves_down {c : C} {F0 H0 : Hp} {io0 : List Addr} (lo : Int) (n : Nat) : Serves c (Itc lo (-1) n) (downD lo n) yesS F0 io0 H0 := by
  intro i F io st H g s _
  have hl : (downD lo n).length = n := by simp [downD]
  refine ⟨fun hi => ?_, fun d hd => ?_⟩
  · show n ≤ i
    omega
  have hlt : i < n := by rw [← hl]; exact (List.getElem?_eq_some_iff.mp hd).1
  refine ⟨hlt, fun z H' hz => ?_⟩
  obtain ⟨rfl, rfl⟩ := hz
  have e : d = .int (lo + (i : Nat) * (-1)) := by
    simp [downD, hlt] at hd
    rw [← hd]
    congr 1
    omega
  subst e
  exact ⟨F, Grow.refl, s, .int _⟩
theorem di_range1 {e : Expr} (hm : X.mg "range" = none) (ha : DA X [e] a) (hg : Gl X "range" := by rfl) (hs : starEach [e] X.env = [(false, eval e X.env)] := by rfl) : DI X tg (.Call (.Name "range" p) [e] [] pos) (iRng rng1 a) := by
  refine PI.imp (pi_range1 hg hm ha hs) fun σ H R h => ?_
  obtain ⟨F, io, env, st, ds, st', hh, hd, q⟩ := h
  obtain ⟨⟨xs, st1⟩, h1, hd⟩ := Option.bind_eq_some_iff.mp hd
  obtain ⟨w, h2, hd⟩ := Option.map_eq_some_iff.mp hd
  cases hd
  refine ⟨F, io, env, st, xs, _, hh, h1, fun vs F1 io1 H1 g1 s1 r1 => ?_⟩
  have h2' : rng1 xs = some ds := h2
  unfold rng1 at h2'
  split at h2'
  · split at h2'
    · rename_i hq
      cases h2'
      match vs, r1 with
      | _, .cons (.int _) .nil =>
        obtain ⟨b1, b2⟩ := small62_eq.mp hq
        exact ⟨_, rfl, b1, b2, q _ F1 io1 H1 g1 s1 (serves_rng 0 _)⟩
    · cases h2'
  · cases h2'
theorem di_range2 {e e2 : Expr} (hm : X.mg "range" = none) (ha : DA X [e, e2] a) (hg : Gl X "range" := by rfl) (hs : starEach [e, e2] X.env = [(false, eval e X.env), (false, eval e2 X.env)] := by rfl) (hs2 : starEach [e2] X.env = [(false, eval e2 X.env)] := by rfl) : DI X tg (.Call (.Name "range" p) [e, e2] [] pos) (iRng rng2 a) := by
  refine PI.imp (pi_range2 hg hm ha hs hs2) fun σ H R h => ?_
  obtain ⟨F, io, env, st, ds, st', hh, hd, q⟩ := h
  obtain ⟨⟨xs, st1⟩, h1, hd⟩ := Option.bind_eq_some_iff.mp hd
  obtain ⟨w, h2, hd⟩ := Option.map_eq_some_iff.mp hd
  cases hd
  refine ⟨F, io, env, st, xs, _, hh, h1, fun vs F1 io1 H1 g1 s1 r1 => ?_⟩
  have h2' : rng2 xs = some ds := h2
  unfold rng2 at h2'
  split at h2'
  · split at h2'
    · rename_i hq
      cases h2'
      match vs, r1 with
      | _, .cons (.int _) (.cons (.int _) .nil) =>
        rw [Bool.and_eq_true] at hq
        obtain ⟨b1, b2⟩ := small62_eq.mp hq.1
        obtain ⟨b3, b4⟩ := small62_eq.mp hq.2
        exact ⟨_, _, rfl, ⟨b1, b2, b3, b4⟩, q _ F1 io1 H1 g1 s1 (serves_rng _ _)⟩
    · cases h2'
  · cases h2'
theorem di_range3 {e e2 e3 : Expr} (hm : X.mg "range" = none) (ha : DA X [e, e2, e3] a) (hg : Gl X "range" := by rfl) (hs : starEach [e, e2, e3] X.env = (false, eval e X.env) :: starEach [e2, e3] X.env := by rfl) (hpl : (backTo pos (starEach [e2, e3] X.env)).any (·.1) = false := by rfl) : DI X tg (.Call (.Name "range" p) [e, e2, e3] [] pos) (iRng rng3 a) := by
  refine PI.imp (pi_range3 hg hm ha hs hpl) fun σ H R h => ?_
  obtain ⟨F, io, env, st, ds, st', hh, hd, q⟩ := h
  obtain ⟨⟨xs, st1⟩, h1, hd⟩ := Option.bind_eq_some_iff.mp hd
  obtain ⟨w, h2, hd⟩ := Option.map_eq_some_iff.mp hd
  cases hd
  refine ⟨F, io, env, st, xs, _, hh, h1, fun vs F1 io1 H1 g1 s1 r1 => ?_⟩
  have h2' : rng3 xs = some ds := h2
  unfold rng3 at h2'
  split at h2'
  · split at h2'
    · rename_i hq
      cases h2'
      match vs, r1 with
      | _, .cons (.int _) (.cons (.int _) (.cons (.int _) .nil)) =>
        rw [Bool.and_eq_true, Bool.and_eq_true] at hq
        obtain ⟨b1, b2⟩ := small62_eq.mp hq.1.1
        obtain ⟨b3, b4⟩ := small62_eq.mp hq.1.2
        have hk := of_decide_eq_true hq.2
        subst hk
        exact ⟨_, _, _, _, rfl, RgC.neg b1 b2 b3 b4, q _ F1 io1 H1 g1 s1 (serves_down _ _)⟩
    · cases h2'
  · cases h2'
/-! ### enumerate, zip -/
def enumD (ds : List D) : List D := ds.zipIdx.map fun p => .tup [.int (p.2 : Nat), p.1]
def zipD (ds es : List D) : List D := (ds.zip es).map fun p => .tup [p.1, p.2]
noncomputable def iEnum (a : DenA) : DenI := fun env st => (a env st).bind fun p => match p.1 with
  | [x] => (walkD p.2 x).map fun w => ((enumD w.1, w.2), p.2)
  | _ => none
noncomputable def iZip (a : DenA) : DenI := fun env st => (a env st).bind fun p => match p.1 with
  | [x, y] => (walkD p.2 x).bind fun w => (walkD p.2 y).map fun u => ((zipD w.1 u.1, fun st => w.2 st && u.2 st), p.2)
  | _ => none
theorem fin_pair {c : C} {F H : Hp} {io : List Addr} {st : Store} {T : Addr} {x y : V} {dx dy : D} (s : SRel c F io st H) (rx : Rep c io F x dx) (ry : Rep c io F y dy) (hT : H T = none) :
    ∃ F', Grow F io H F' io (upd H T (.tup [x, y])) ∧ SRel c F' io st (upd H T (.tup [x, y])) ∧ Rep c io F' (.ref T) (.tup [dx, dy]) := by
  obtain ⟨g, s', r⟩ := fin_tup s (.cons rx (.cons ry .nil)) hT
  exact ⟨_, g, s', r⟩
theorem serves_enum {c : C} {F0 H0 : Hp} {io0 : List Addr} {ck : Store → Bool} {ds : List D} {k : Sk}
    (h : ∀ F io H st, Grow F0 io0 H0 F io H → SRel c F io st H → ck st = true → ∃ xs, k.at c.K H xs ∧ Reps c io F xs ds) : Serves c (ItE c.K k) (enumD ds) ck F0 io0 H0 := by
  intro i F io st H g s hck
  obtain ⟨xs, q, k1⟩ := h F io H st g s hck
  have hl := k1.length
  have hle : (enumD ds).length = ds.length := by simp [enumD]
  refine ⟨fun hi => ⟨xs, q, by omega⟩, fun d hd => ?_⟩
  have hd' : ∃ e, ds[i]? = some e ∧ d = .tup [.int (i : Nat), e] := by
    have hlt : i < ds.length := by rw [← hle]; exact (List.getElem?_eq_some_iff.mp hd).1
    refine ⟨ds[i], List.getElem?_eq_getElem hlt, ?_⟩
    simp [enumD, hlt] at hd
    exact hd.symm
  obtain ⟨e, he, rfl⟩ := hd'
  obtain ⟨y, hy, ry⟩ := k1.get he
  refine ⟨⟨xs, y, q, hy⟩, fun z H' hz => ?_⟩
  obtain ⟨T, x, rfl, hT, rfl, hx⟩ := hz
  have e2 := hx xs q
  rw [hy] at e2
  cases e2
  exact fin_pair s (.int _) ry hT
theorem serves_zip {c : C} {F0 H0 : Hp} {io0 : List Addr} {ck ck' : Store → Bool} {ds es : List D} {k k' : Sk}
    (h : ∀ F io H st, Grow F0 io0 H0 F io H → SRel c F io st H → ck st = true → ∃ xs, k.at c.K H xs ∧ Reps c io F xs ds)
    (h' : ∀ F io H st, Grow F0 io0 H0 F io H → SRel c F io st H → ck' st = true → ∃ xs, k'.at c.K H xs ∧ Reps c io F xs es) : Serves c (ItZ c.K k k') (zipD ds es) (fun st => ck st && ck' st) F0 io0 H0 := by
  intro i F io st H g s hck
  rw [Bool.and_eq_true] at hck
  obtain ⟨xs, q, k1⟩ := h F io H st g s hck.1
  obtain ⟨ys, q', k2⟩ := h' F io H st g s hck.2
  have hl := k1.length
  have hl2 := k2.length
  have hle : (zipD ds es).length = min ds.length es.length := by simp [zipD]
  refine ⟨fun hi => ⟨xs, ys, q, q', by omega⟩, fun d hd => ?_⟩
  have hlt : i < min ds.length es.length := by rw [← hle]; exact (List.getElem?_eq_some_iff.mp hd).1
  have hlt1 : i < ds.length := by omega
  have hlt2 : i < es.length := by omega
  have hd' : d = .tup [ds[i], es[i]] := by
    simp [zipD, List.getElem?_map, List.getElem?_zip_eq_some, hlt1, hlt2] at hd
    rcases hd with ⟨a, b, ⟨h1, h2⟩, rfl⟩
    subst h1 h2
    rfl
  subst hd'
  obtain ⟨y, hy, ry⟩ := k1.get (List.getElem?_eq_getElem hlt1)
  obtain ⟨z, hz, rz⟩ := k2.get (List.getElem?_eq_getElem hlt2)
  refine ⟨⟨xs, ys, y, z, q, q', hy, hz⟩, fun v H' hv => ?_⟩
  obtain ⟨T, x', y', rfl, hT, rfl, hx, hy'⟩ := hv
  have e2 := hx xs q
  rw [hy] at e2
  cases e2
  have e3 := hy' ys q'
  rw [hz] at e3
  cases e3
  exact fin_pair s ry rz hT
theorem di_enum {e : Expr} (hm : X.mg "enumerate" = none) (ha : DA X [e] a) (hg : Gl X "enumerate" := by rfl) (hs : starEach [e] X.env = [(false, eval e X.env)] := by rfl) : DI X (.Tuple elts kk tpos) (.Call (.Name "enumerate" p) [e] [] pos) (iEnum a) := by
  refine PI.imp (pi_enumB hg hm ha hs) fun σ H R h => ?_
  obtain ⟨F, io, env, st, ds, st', hh, hd, q⟩ := h
  obtain ⟨⟨xs, st1⟩, h1, hd⟩ := Option.bind_eq_some_iff.mp hd
  refine ⟨F, io, env, st, xs, st1, hh, h1, fun vs F1 io1 H1 g1 s1 r1 => ?_⟩
  match xs, r1, hd with
  | [x], .cons r .nil, hd =>
    obtain ⟨w, h2, hd⟩ := Option.map_eq_some_iff.mp hd
    cases hd
    obtain ⟨f, hf, hw⟩ := walk_at s1 r h2
    refine ⟨_, f, rfl, hf, fun t => ?_⟩
    obtain ⟨ys, q1, _⟩ := hw t F1 io1 H1 st1 Grow.refl s1 (walk_now h2)
    exact ⟨ys, q1, q _ F1 io1 H1 g1 s1 (serves_enum (hw t))⟩
  | [], _, hd => cases hd
  | _ :: _ :: _, _, hd => cases hd
theorem di_zip {e e2 : Expr} (hm : X.mg "zip" = none) (ha : DA X [e, e2] a) (hg : Gl X "zip" := by rfl) (hs : starEach [e, e2] X.env = (false, eval e X.env) :: starEach [e2] X.env := by rfl) (hpl : (backTo pos (starEach [e2] X.env)).any (·.1) = false := by rfl) :
    DI X (.Tuple elts kk tpos) (.Call (.Name "zip" p) [e, e2] [] pos) (iZip a) := by
  refine PI.imp (pi_zipB hg hm ha hs hpl) fun σ H R h => ?_
  obtain ⟨F, io, env, st, ds, st', hh, hd, q⟩ := h
  obtain ⟨⟨xs, st1⟩, h1, hd⟩ := Option.bind_eq_some_iff.mp hd
  refine ⟨F, io, env, st, xs, st1, hh, h1, fun vs F1 io1 H1 g1 s1 r1 => ?_⟩
  match xs, r1, hd with
  | [x, y], .cons r (.cons r' .nil), hd =>
    obtain ⟨w, h2, hd⟩ := Option.bind_eq_some_iff.mp hd
    obtain ⟨w', h3, hd⟩ := Option.map_eq_some_iff.mp hd
    cases hd
    obtain ⟨f, hf, hw⟩ := walk_at s1 r h2
    obtain ⟨f', hf', hw'⟩ := walk_at s1 r' h3
    refine ⟨_, _, f, f', rfl, hf, hf', fun t u => ?_⟩
    obtain ⟨ys, q1, _⟩ := hw t F1 io1 H1 st1 Grow.refl s1 (walk_now h2)
    obtain ⟨zs, q2, _⟩ := hw' u F1 io1 H1 st1 Grow.refl s1 (walk_now h3)
    exact ⟨ys, zs, q1, q2, q _ F1 io1 H1 g1 s1 (serves_zip (hw t) (hw' u))⟩
  | [], _, hd => cases hd
  | [_], _, hd => cases hd
  | _ :: _ :: _ :: _, _, hd => cases hd
end
end DL
set_option Elab.async false
set_option linter.all false
set_option maxRecDepth 100000
set_option maxHeartbeats 4000000
/-! DL10: truth, minus, stores into lists, isinstance. -/
namespace DL
open PySem PySem.Spec PyProof.Rows L2

/-! ### truth -/
def truD (st : Store) : D → Option Bool
  | .non => some false
  | .bl b => some b
  | .int i => some (i != 0)
  | .str x => if x.length ≤ 16777216 then some ((x.length : Int) != 0) else none
  | .tup ds => some (!ds.isEmpty)
  | .lst ds => some (!ds.isEmpty)
  | .dic false ks _ => some (!ks.isEmpty)
  | .ref n => (match st[n]? with
    | some (.lst ds) => some (!ds.isEmpty)
    | some (.dic false ks _) => some (!ks.isEmpty)
    | _ => none)
  | _ => none
def tTru (d : Den) : DenT := fun env st => (d env st).bind fun p => (truD p.2 p.1).map fun b => (b, p.2)
theorem Reps.isEmpty {c : C} {io : List Addr} {F : Hp} {vs : List V} {ds : List D} (r : Reps c io F vs ds) : vs.isEmpty = ds.isEmpty := by
  cases r <;> rfl
theorem keys_empty {α β γ : Type} {ks : List α} {kvs : List (β × γ)} {f : α → Option β} (h : ks.map f = kvs.map (fun p => some p.1)) : kvs.isEmpty = ks.isEmpty := by
  cases ks <;> cases kvs <;> first | rfl | (simp at h)
theorem truD_V {c : C} {F H : Hp} {io : List Addr} {st : Store} {v : V} {x : D} {b : Bool} (s : SRel c F io st H) (r : Rep c io F v x) (h : truD st x = some b) : TruV c.K v H b := by
  cases x with
  | non => cases r; cases h; rfl
  | bl k => cases r; cases h; rfl
  | int i => cases r; cases h; rfl
  | str x =>
    cases r
    have h : (if x.length ≤ 16777216 then some ((x.length : Int) != 0) else none) = some b := h
    split at h
    · rename_i hl
      cases h
      refine ⟨by rw [sizeLine_eq, strOf_len]; exact hl, ?_⟩
      rw [strOf_len]
    · cases h
  | tup ds =>
    cases r with
    | tup h1 k1 =>
      cases h
      exact .inr (.inl ⟨_, Sub.sqT s.sub h1, by rw [k1.isEmpty]⟩)
  | lst ds =>
    cases r with
    | lst h1 k1 =>
      cases h
      exact .inl ⟨_, .inl (.inl (s.sub _ _ h1)), by rw [k1.isEmpty]⟩
  | dic t ks vs =>
    cases t with
    | false =>
      cases r with
      | dic h1 k n k1 =>
        cases h
        exact .inr (.inr ⟨_, s.sub _ _ h1, by rw [keys_empty k]⟩)
    | true => cases h
  | ref n =>
    cases r with
    | ref hn =>
      cases hs : st[n]? with
      | none => simp only [truD, hs] at h; cases h
      | some o =>
        obtain ⟨_, q⟩ := s.obj n _ o hn hs
        cases o with
        | lst ds =>
          simp only [truD, hs] at h
          cases h
          cases q with
          | lst e k => exact .inl ⟨_, .inl (.inl e), by rw [k.isEmpty]⟩
        | dic t ks vs =>
          cases t with
          | false =>
            simp only [truD, hs] at h
            cases h
            cases q with
            | dic e k n k1 => exact .inr (.inr ⟨_, e, by rw [keys_empty k]⟩)
          | true => simp only [truD, hs] at h; cases h
        | ins _ _ _ => simp only [truD, hs] at h; cases h
  | scr _ => cases h
section
variable {X : Cx} {a b o i : Expr} {pos : Pos} {d da db : Den}
theorem dt_tru (ha : DE X a d) (he : ∀ whole, isTrue a X.env whole = (do let v ← whole; standAt a.pos; holding [v] (truthy v)) := by intro _; rfl) : DT X a (tTru d) := by
  refine PT.imp (pt_truth ha he) fun σ H Q h => ?_
  obtain ⟨F, io, env, st, x, st', hh, hd, q⟩ := h
  obtain ⟨⟨y, st1⟩, h1, hd⟩ := Option.bind_eq_some_iff.mp hd
  obtain ⟨k, h2, hd⟩ := Option.map_eq_some_iff.mp hd
  cases hd
  exact ⟨F, io, env, st, y, _, hh, h1, fun v F' io' H' g s r => ⟨_, truD_V s r h2, q F' io' H' g s⟩⟩
/-! ### minus -/
def dNeg (da : Den) : Den := fun env st => (da env st).bind fun p => match p.1 with
  | .int i => some (.int (-i), p.2)
  | _ => none
theorem de_neg (ha : DE X a da) : DE X (.UnaryOp .USub a pos) (dNeg da) := by
  refine PE.imp (pe_un un_neg ha) fun σ H Q h => ?_
  obtain ⟨F, io, env, st, d, st', hh, hd, q⟩ := h
  obtain ⟨⟨x, st1⟩, h1, hd⟩ := Option.bind_eq_some_iff.mp hd
  refine ⟨F, io, env, st, x, st1, hh, h1, fun v F1 io1 H1 g1 s1 r1 => ?_⟩
  cases x with
  | int k =>
    cases r1
    cases hd
    exact ⟨k, rfl, q _ F1 io1 H1 g1 s1 (.int _)⟩
  | _ => cases hd

/-! ### o[i] = v, o a list of the store -/
def gSubL (dO dI : Den) : DenG := fun d env st => (dO env st).bind fun p => (dI env p.2).bind fun q => match p.1, q.1 with
  | .ref n, .int k => (match q.2[n]? with
    | some (.lst ds) => (ixN ds.length k).map fun j => (env, q.2.set n (.lst (ds.set j d)))
    | _ => none)
  | _, _ => none
theorem dg_subL {vs : List Nat} (ho : DE X o da) (hi : DE X i db) (ha : ∀ v, assign (.Subscript o i pos) X.env v = (do
      let ov ← holding [v] (eval o X.env)
      let iv ← holding [v, ov] (eval i X.env)
      standAt pos
      holding [v, ov, iv] (setItem ov iv v)
      release [v, ov, iv] []) := by intro _; rfl) : DG X vs (.Subscript o i pos) (gSubL da db) := by
  refine PG.imp (pg_sub ho hi set_list ha) fun v σ H Q h => ?_
  obtain ⟨F, io, env, st, d, env', st', hh, r, e, q⟩ := h
  obtain ⟨⟨x, st1⟩, h1, e⟩ := Option.bind_eq_some_iff.mp e
  obtain ⟨⟨y, st2⟩, h2, e⟩ := Option.bind_eq_some_iff.mp e
  refine ⟨F, io, env, st, x, st1, hh, h1, fun v1 F1 io1 H1 g1 s1 r1 => ?_⟩
  refine ⟨F1, io1, env, st1, y, st2, hh.grow g1 s1, h2, fun v2 F2 io2 H2 g2 s2 r2 => ?_⟩
  cases x with
  | ref n =>
    cases y with
    | int k =>
      cases hs : st2[n]? with
      | none => simp only [hs] at e; cases e
      | some so =>
        cases so with
        | lst ds =>
          simp only [hs] at e
          obtain ⟨j, h3, e⟩ := Option.map_eq_some_iff.mp e
          cases e
          cases r2
          have r1' := r1.grow g2
          cases r1' with
          | ref hn =>
            rename_i ad
            obtain ⟨z1, z2⟩ := s2.obj n ad _ hn hs
            cases z2 with
            | lst e1 k1 =>
              rename_i xs
              refine ⟨ad, xs, k, j, rfl, rfl, e1, by rw [k1.length]; exact h3, ?_⟩
              have rd := r.grow (g1.trans g2)
              have g3 : Grow F2 io2 H2 F2 io2 (upd H2 ad (.lst (xs.set j v))) := Grow.write (List.mem_of_getElem? hn)
              have s3 := s2.write hn (so := .lst (ds.set j d)) (.lst upd_same (Reps.set rd j k1))
              exact q σ F2 io2 _ (g1.trans (g2.trans g3)) ⟨s3, (((hh.e.grow g1).grow g2).grow g3)⟩ rfl
        | _ => simp only [hs] at e; cases e
    | _ => cases e
  | _ => cases e

/-! ### isinstance -/
inductive TyN where
  | non | bl | int | str | tup | lst | dic
  deriving DecidableEq
def TyN.s : TyN → String
  | .non => "NoneType" | .bl => "bool" | .int => "int" | .str => "str" | .tup => "tuple" | .lst => "list" | .dic => "dict"
def isA (T U : TyN) : Bool := decide (T = U) || (decide (T = .bl) && decide (U = .int))
theorem kitB_is (T U : TyN) (hU : U ≠ .non) : kitB T.s U.s = some (isA T U) := by
  cases T <;> cases U <;> first | exact absurd rfl hU | (decide +kernel)
def tyD (st : Store) : D → Option TyN
  | .non => some .non
  | .bl _ => some .bl
  | .int _ => some .int
  | .str _ => some .str
  | .tup _ => some .tup
  | .lst _ => some .lst
  | .scr _ => some .lst
  | .dic _ _ _ => some .dic
  | .ref n => (match st[n]? with
    | some (.lst _) => some .lst
    | some (.dic _ _ _) => some .dic
    | _ => none)
theorem kit_dT {pins : List (Addr × Obj)} {σ : L2.St} {H : Hp} {s : Shared} {a : Addr} {kvs : List (NestedKey × Addr × V)} (I : Inv X pins σ H s) (h : H a = some (dT X.w a kvs)) : ∃ P : Heap → Prop, PySem.W.KitX X.K (.ref a) (.type "dict") P ∧ P s.heap ∧ Value.ref a ≠ .builtin "__main__.__loader__#opaque" := by
  obtain ⟨q, _⟩ := I.hok a _ h
  obtain ⟨o, es, ep, h1, h2, _⟩ := q
  exact ⟨_, PySem.W.kitx_dict, ⟨o, h1, h2.1⟩, fun z => nomatch z⟩
theorem kit_seqT {pins : List (Addr × Obj)} {σ : L2.St} {H : Hp} {s : Shared} {a : Addr} {xs : List V} (I : Inv X pins σ H s) (h : SqT X.K H a xs) : ∃ P : Heap → Prop, PySem.W.KitX X.K (.ref a) (.type "tuple") P ∧ P s.heap ∧ Value.ref a ≠ .builtin "__main__.__loader__#opaque" := by
  obtain ⟨its, rv, p, hz⟩ := I.tuple h
  have p' : s.heap.IsTuple a its.toArray := p
  obtain ⟨o, h1, h2, _⟩ := p'
  exact ⟨_, PySem.W.kitx_tuple, ⟨o, h1, h2⟩, fun z => nomatch z⟩
theorem kit_seqL {pins : List (Addr × Obj)} {σ : L2.St} {H : Hp} {s : Shared} {a : Addr} {xs : List V} (I : Inv X pins σ H s) (h : SqL X.K H a xs) : ∃ P : Heap → Prop, PySem.W.KitX X.K (.ref a) (.type "list") P ∧ P s.heap ∧ Value.ref a ≠ .builtin "__main__.__loader__#opaque" := by
  obtain ⟨its, rv, p, hz⟩ := I.list h
  obtain ⟨o, h1, h2, _⟩ := p.isList
  exact ⟨_, PySem.W.kitx_list, ⟨o, h1, h2⟩, fun z => nomatch z⟩
theorem kit_D {pins : List (Addr × Obj)} {σ : L2.St} {H F : Hp} {io : List Addr} {st : Store} {s : Shared} {v : V} {u : Value} {x : D} {T : TyN} (I : Inv X pins σ H s) (sr : SRel (cOf X) F io st H) (r : Rep (cOf X) io F v x) (rv : RelV v u) (h : tyD st x = some T) :
    ∃ P : Heap → Prop, PySem.W.KitX X.K u (.type T.s) P ∧ P s.heap ∧ u ≠ .builtin "__main__.__loader__#opaque" := by
  cases x with
  | non => cases r; cases h; cases rv; exact ⟨_, PySem.W.kitx_none, True.intro, fun z => nomatch z⟩
  | bl b => cases r; cases h; cases rv; exact ⟨_, PySem.W.kitx_bool, True.intro, fun z => nomatch z⟩
  | int b => cases r; cases h; obtain ⟨t, rfl⟩ := rv; exact ⟨_, PySem.W.kitx_int, True.intro, fun z => nomatch z⟩
  | str b => cases r; cases h; obtain ⟨t, rfl⟩ := rv; exact ⟨_, PySem.W.kitx_str, True.intro, fun z => nomatch z⟩
  | tup ds =>
    cases r with
    | tup h1 k1 => cases h; cases rv; exact kit_seqT I (Sub.sqT sr.sub h1)
  | lst ds =>
    cases r with
    | lst h1 k1 => cases h; cases rv; exact kit_seqL I (.inl (.inl (sr.sub _ _ h1)))
  | scr ds =>
    cases r with
    | scr h1 => cases h; cases rv; exact kit_seqL I (Sub.sqL sr.sub h1)
  | dic t ks vs =>
    cases h
    cases r with
    | dic h1 _ _ _ =>
      cases rv
      obtain ⟨_, _, _, _, o, es, ep, h3, h2, _⟩ := (show ObjOk X.prog X.w H s.heap _ (.dK _) from I.hok _ _ (sr.sub _ _ h1))
      exact ⟨_, PySem.W.kitx_dict, ⟨o, h3, h2.1⟩, fun z => nomatch z⟩
    | dit h1 _ _ _ _ => cases rv; exact kit_dT I (sr.sub _ _ h1)
  | ref n =>
    cases r with
    | ref hn =>
      cases rv
      cases hs : st[n]? with
      | none => simp only [tyD, hs] at h; cases h
      | some o =>
        obtain ⟨_, q⟩ := sr.obj n _ o hn hs
        cases o with
        | lst ds =>
          simp only [tyD, hs] at h
          cases h
          cases q with
          | lst e k => exact kit_seqL I (.inl (.inl e))
        | dic t ks vs =>
          simp only [tyD, hs] at h
          cases h
          cases q with
          | dic e _ _ _ =>
            obtain ⟨_, _, _, _, o, es, ep, h3, h2, _⟩ := (show ObjOk X.prog X.w H s.heap _ (.dK _) from I.hok _ _ e)
            exact ⟨_, PySem.W.kitx_dict, ⟨o, h3, h2.1⟩, fun z => nomatch z⟩
          | dit e _ _ _ _ => exact kit_dT I e
        | ins _ _ _ => simp only [tyD, hs] at h; cases h
def dIsi (U : TyN) (d : Den) : Den := fun env st => (d env st).bind fun p => (tyD p.2 p.1).map fun T => (.bl (isA T U), p.2)
def rIsi1 (c : C) (U : TyN) : List V → Hp → VK → Prop := fun xs H Q => ∃ x F io st d T, xs = [x, .ty U.s] ∧ SRel c F io st H ∧ Rep c io F x d ∧ tyD st d = some T ∧ U ≠ .non ∧ Q (.bl (isA T U)) H
theorem call_isi1 {U : TyN} : CallR X (.builtin "isinstance") (rIsi1 (cOf X) U) := by
  intro pins s σ H xs us Q I r h
  obtain ⟨x, F, io, st, d, T, rfl, sr, rx, hT, hU, q⟩ := h
  obtain ⟨u1, u2, rfl, r1, r2⟩ := vals2 r
  cases (show u2 = Value.type U.s from r2)
  obtain ⟨P, Z, p, hx⟩ := kit_D I sr rx r1 hT
  exact PySem.W.kia_one Z I.kIn p (kit_ty (kitB_is T U hU)) hx fun tk => ⟨.bl _, H, I.tok tk, rfl, q⟩
theorem de_isi {e : Expr} {U : TyN} {y : Str} {p p2 : Pos} (hm : X.mg "isinstance" = none) (hmy : X.mg y = none) (he : DE X e d) (hU : U ≠ .non := by decide) (hy : bootBuiltins y = some (.type U.s) := by decide +kernel) (hg : Gl X "isinstance" := by rfl) (hgy : Gl X y := by rfl)
    (hn : y ≠ "__name__" := by decide) (hdb : (y == ("__debug__" : Str)) = false := by decide)
    (h1 : starEach [e, .Name y p2] X.env = (false, eval e X.env) :: starEach [.Name y p2] X.env := by rfl) (h2 : starEach [.Name y p2] X.env = (false, eval (.Name y p2) X.env) :: starEach [] X.env := by rfl) (hpl : (backTo pos (starEach [.Name y p2] X.env)).any (·.1) = false := by rfl) :
    DE X (.Call (.Name "isinstance" p) [e, .Name y p2] [] pos) (dIsi U d) := by
  refine PE.imp (pe_callB (call_isi1 (U := U)) hg hm PyProof.Rows.boot_isinstance (pa_cons he (pa_cons (pe_bltn (v := .ty U.s) hgy hmy hy rfl hn hdb) pa_nil h2) h1) (by decide) (by decide) h1 hpl) fun σ H Q h => ?_
  obtain ⟨F, io, env, st, x, st', hh, hd, q⟩ := h
  obtain ⟨⟨y, st1⟩, h3, hd⟩ := Option.bind_eq_some_iff.mp hd
  obtain ⟨T, h4, hd⟩ := Option.map_eq_some_iff.mp hd
  cases hd
  refine ⟨F, io, env, st, y, _, hh, h3, fun v F' io' H' g s r => ?_⟩
  exact ⟨v, F', io', _, y, T, rfl, s, r, h4, hU, q _ F' io' H' g s (.bl _)⟩
/-- two classes -/
def dIsi2 (U W : TyN) (d : Den) : Den := fun env st => (d env st).bind fun p => (tyD p.2 p.1).map fun T => (.bl (isA T U || isA T W), p.2)
def rIsi2 (c : C) (U W : TyN) : List V → Hp → VK → Prop := fun xs H Q => ∃ x tp F io st d T, xs = [x, .ref tp] ∧ H tp = some (.tup [.ty U.s, .ty W.s]) ∧ SRel c F io st H ∧ Rep c io F x d ∧ tyD st d = some T ∧ U ≠ .non ∧ W ≠ .non ∧ Q (.bl (isA T U || isA T W)) H
theorem call_isi2 {U W : TyN} : CallR X (.builtin "isinstance") (rIsi2 (cOf X) U W) := by
  intro pins s σ H xs us Q I r h
  obtain ⟨x, tp, F, io, st, d, T, rfl, hT, sr, rx, hty, hU, hW, q⟩ := h
  obtain ⟨u1, u2, rfl, r1, r2⟩ := vals2 r
  cases (show u2 = Value.ref tp from r2)
  obtain ⟨P, Z, p, hx⟩ := kit_D I sr rx r1 hty
  obtain ⟨_, its, rv, o, h1, h2, n, h3⟩ := (show ObjOk X.prog X.w H s.heap tp (.tup _) from I.hok tp _ hT)
  have e3 : its = [Value.type U.s, Value.type W.s] := by
    cases rv with
    | cons a rv =>
      cases rv with
      | cons b rv =>
        cases rv
        cases a
        cases b
        rfl
  subst e3
  obtain ⟨oc, od, dt, sl⟩ := o
  simp only at h2 h3
  subst h2 h3
  have e : PySem.W.kitAny X.K (.type T.s) [.type U.s, .type W.s] = some (isA T U || isA T W) := by
    refine kitAny_cons (kit_ty (kitB_is T U hU)) (fun h => ?_) (fun h => by rw [h]; rfl)
    rw [h, Bool.false_or]
    refine kitAny_cons (kit_ty (kitB_is T W hW)) (fun h => by rw [h]; rfl) (fun h => h)
  exact PySem.W.kia_tup Z I.kIn p h1 e hx fun tk => ⟨.bl _, H, I.tok tk, rfl, q⟩
theorem de_isi2 {e : Expr} {U W : TyN} {y z : Str} {p p2 p3 p4 : Pos} {k : Nat} (hm : X.mg "isinstance" = none) (hmy : X.mg y = none) (hmz : X.mg z = none) (he : DE X e d) (hU : U ≠ .non := by decide) (hW : W ≠ .non := by decide) (hy : bootBuiltins y = some (.type U.s) := by decide +kernel) (hz : bootBuiltins z = some (.type W.s) := by decide +kernel)
    (hg : Gl X "isinstance" := by rfl) (hgy : Gl X y := by rfl) (hgz : Gl X z := by rfl) (hn : y ≠ "__name__" := by decide) (hdb : (y == ("__debug__" : Str)) = false := by decide) (hn2 : z ≠ "__name__" := by decide) (hdb2 : (z == ("__debug__" : Str)) = false := by decide)
    (h1 : starEach [e, .Tuple [.Name y p2, .Name z p3] k p4] X.env = (false, eval e X.env) :: starEach [.Tuple [.Name y p2, .Name z p3] k p4] X.env := by rfl) (h2 : starEach [.Tuple [.Name y p2, .Name z p3] k p4] X.env = (false, eval (.Tuple [.Name y p2, .Name z p3] k p4) X.env) :: starEach [] X.env := by rfl)
    (h3 : starEach [.Name y p2, .Name z p3] X.env = (false, eval (.Name y p2) X.env) :: starEach [.Name z p3] X.env := by rfl) (h4 : starEach [.Name z p3] X.env = (false, eval (.Name z p3) X.env) :: starEach [] X.env := by rfl)
    (hpl : (backTo pos (starEach [.Tuple [.Name y p2, .Name z p3] k p4] X.env)).any (·.1) = false := by rfl) :
    DE X (.Call (.Name "isinstance" p) [e, .Tuple [.Name y p2, .Name z p3] k p4] [] pos) (dIsi2 U W d) := by
  refine PE.imp (pe_callB (call_isi2 (U := U) (W := W)) hg hm PyProof.Rows.boot_isinstance (pa_cons he (pa_cons (pe_tup (pa_cons (pe_bltn (v := .ty U.s) hgy hmy hy rfl hn hdb) (pa_cons (pe_bltn (v := .ty W.s) hgz hmz hz rfl hn2 hdb2) pa_nil h4) h3)) pa_nil h2) h1) (by decide) (by decide) h1 hpl) fun σ H Q h => ?_
  obtain ⟨F, io, env, st, x, st', hh, hd, q⟩ := h
  obtain ⟨⟨y, st1⟩, h5, hd⟩ := Option.bind_eq_some_iff.mp hd
  obtain ⟨T, h6, hd⟩ := Option.map_eq_some_iff.mp hd
  cases hd
  refine ⟨F, io, env, st, y, _, hh, h5, fun v F' io' H' g s r => ⟨by show 2 ≤ sizeLine; rw [sizeLine_eq]; decide, fun tp htp => ?_⟩⟩
  refine ⟨v, tp, F', io', _, y, T, rfl, upd_same, s.temp htp, r, h6, hU, hW, q _ F' io' _ (g.trans (Grow.temp htp)) (s.temp htp) (.bl _)⟩
end
end DL
set_option Elab.async false
set_option linter.all false
set_option maxRecDepth 100000
set_option maxHeartbeats 4000000
/-! DLG: the promise of a def where no repr is under way (for repr of lists and tuples), its call, the end of the law. -/
namespace DL
open PySem PySem.Spec PyProof.Rows L2

structure RoomG (k : Nat) (A : Around) : Prop where
  room : Room k A
  gd : A.guards = some []
theorem RoomG.mono {j k : Nat} {A : Around} (r : RoomG k A) (h : j ≤ k) : RoomG j A := ⟨r.room.mono h, r.gd⟩
theorem RoomG.deeper {k : Nat} {A : Around} (r : RoomG (k + 1) A) (env : PySem.Env) : RoomG k (A.deeper env) := ⟨r.room.deeper env, r.gd⟩
structure FnG (P : Program) (w : World) (K : PySem.W.Frag) (mg : Str → Option Value) (base : Heap) (CX : CXT) (k : Nat) (f : Addr) (fd : FuncData) (ps : List Str) (sp : Sp) : Prop where
  len : ∀ vs H Q E, sp vs H Q E → vs.length = ps.length
  run : ∀ (A : Around) (outer : List PySem.Env) (s : Shared) (H : Hp) (args : Args) (us : List Value) (vs : List V) (Q : VK) (E : XK), RoomG k A → Env0 P w K mg base A outer s H → BindsTo s fd args (ps.zip us) → Vals vs us → sp vs H Q E →
    codeAny (model P w) A (.call (.ref f) args) (CR CX outer P w H s Q E) s
section
variable {P : Program} {w : World} {K : PySem.W.Frag} {mg : Str → Option Value} {base : Heap} {CX : CXT} {k : Nat} {f : Addr} {fd : FuncData} {ps : List Str} {sp : Sp}
theorem FnG.mono {j : Nat} (F : FnG P w K mg base CX j f fd ps sp) (h : j ≤ k) : FnG P w K mg base CX k f fd ps sp :=
  ⟨F.len, fun A outer s H args us vs Q E hr => F.run A outer s H args us vs Q E (hr.mono h)⟩
theorem FnG.imp {sp' : Sp} (F : FnG P w K mg base CX k f fd ps sp) (h : ∀ vs H Q E, sp' vs H Q E → sp vs H Q E) : FnG P w K mg base CX k f fd ps sp' :=
  ⟨fun vs H Q E q => F.len vs H Q E (h _ _ _ _ q), fun A outer s H args us vs Q E hr he hb hv hs => F.run A outer s H args us vs Q E hr he hb hv (h _ _ _ _ hs)⟩
/-- a def by its body -/
theorem FnG.of {name qual : Str} {params : Arguments} {body : List Stmt} {scope : Scope} {dV kV doc pm cdv ct oc : Value} {an od : Option Addr} {osl : Array (Option Value)} {N : List Str}
    (lk : K.lookup f = some ⟨oc, od, .func (PySem.W.fnOf name qual params body scope dV kV doc pm an cdv ct), osl⟩) (hcd : PySem.W.codeIn K cdv qual = true) (S : FnScope N ps scope)
    (len : ∀ vs H Q E, sp vs H Q E → vs.length = ps.length)
    (hbody : ∀ (A : Around) (outer : List PySem.Env) (s : Shared) (H : Hp) (vs : List V) (Q : VK) (E : XK), RoomG k (A.deeper (envOfC qual scope s.heap.objs.size f cdv)) → sp vs H Q E →
      ∃ t, PSs (cxOf CX P w K mg base N qual scope f cdv A outer s H E) body t ∧ t { nx := fun _ H' => Q .non H', rt := Q } (L2.start N vs) H) :
    FnG P w K mg base CX (k + 1) f (PySem.W.fnOf name qual params body scope dV kV doc pm an cdv ct) ps sp := by
  refine ⟨len, fun A outer s H args us vs Q E hr e0 hb r hsp => ?_⟩
  have inK : K.In s.heap := e0.mod.kin.keeps fun b o e => (e0.bs b o e).1
  have lim : s.heap.NoLimit := e0.mod.nolimit.keeps fun b o e => (e0.bs b o e).1
  have kinds : ∀ y ∈ ps.zip us, scope.names.lookup y.1 = some .local ∨ (scope.names.lookup y.1 = some .cell ∧ ((cellsFrom (s.heap.objs.size + 1) scope.names []).lookup y.1).isSome = true) := by
    rintro ⟨n, v⟩ hy
    rcases S.par n (List.of_mem_zip hy).1 with q | q
    · exact .inl q
    · exact .inr ⟨q, PySem.W.cellsFrom_some _ _ _ (.inl q)⟩
  refine codeAny_call_function hr.room.depth (inK _ _ lk) rfl S.co S.gen rfl (PySem.W.codeRec_of inK hcd) (hb _ _ _ _ ?_)
  refine wpAny_newFunctionEnv_cells S.kind kinds fun env he s1 x => ?_
  subst he
  refine ⟨lim.keeps x.toInCall.keep, codeAny_func ?_⟩
  obtain ⟨t, ht, hq⟩ := hbody A outer s H vs Q E (hr.deeper _) hsp
  have I : Inv (cxOf CX P w K mg base N qual scope f cdv A outer s H E) [] (L2.start N vs) H s1 := inv_start S hr.room.hd e0 (len _ _ _ _ hsp) r x
  refine wpAny_mono (ht.run [] s1 (L2.start N vs) H _ I hq) (fun fl s' hs => ?_) fun e s' hs => hs
  have fin : ∀ {σ' : L2.St} {H' : Hp} {v : V} {u : Value}, Inv (cxOf CX P w K mg base N qual scope f cdv A outer s H E) [] σ' H' s' → RelV v u → Q v H' → CE outer P w H s Q u s' :=
    fun {σ' H' v u} J rv q => ⟨v, H', J.os, J.bare, J.base, J.hok, rv, q⟩
  cases fl with
  | ret u => obtain ⟨v, σ', H', J, rv, q⟩ := hs; exact fin J rv q
  | next => obtain ⟨σ', H', J, q⟩ := hs; exact fin (v := V.non) (u := Value.none) J rfl q
  | brk => obtain ⟨_, _, _, q⟩ := hs; exact False.elim q
  | cont => obtain ⟨_, _, _, q⟩ := hs; exact False.elim q
end
section
variable {X : Cx} {CX : CXT} {k : Nat} {f : Addr} {fd : FuncData} {ps : List Str} {sp : Sp} {E : XK} {x : Str} {p pos : Pos} {e : Expr} {es : List Expr} {t : TA}
theorem run_g {pins : List (Addr × Obj)} {σ : L2.St} {H : Hp} {s : Shared} {Q : VK} {us : List Value} {vs : List V} (F : FnG X.prog X.w X.K X.mg X.base CX k f fd ps sp) (hr : RoomG k X.A) (hb : Binds X.K fd ps []) (hx : Passes CX X E)
    (I : Inv X pins σ H s) (r : Vals vs us) (h : sp vs H Q E) : wpAny (model X.prog X.w) X.A (call (.ref f) us) (EP X pins σ Q) X.xe s := by
  have hl : us.length = ps.length := by rw [← r.length]; exact F.len _ _ _ _ h
  have bd := hb s us I.kIn (by rw [List.append_nil]; exact hl)
  rw [List.append_nil] at bd
  refine wpAny_call (codeAny_mono (F.run X.A X.stack s H ⟨us, []⟩ us vs Q E hr I.env0 bd r h) fun res s' hq => ?_)
  cases res with
  | error e => exact hx pins σ H s e s' I hq
  | ok fl =>
    cases fl with
    | ret u => exact I.after hq
    | next => exact False.elim hq
    | brk => exact False.elim hq
    | cont => exact False.elim hq
/-- a call of a def by its name -/
theorem pe_callG (F : FnG X.prog X.w X.K X.mg X.base CX k f fd ps sp) (hr : RoomG k X.A) (hg : Gl X x) (hm : X.mg x = some (.ref f)) (hk : PySem.W.keepIn X.K (.ref f) = true) (hb : Binds X.K fd ps []) (hx : Passes CX X E)
    (ha : PA X (e :: es) t) (hdb : (x == ("__debug__" : Str)) = false := by decide) (he : starEach (e :: es) X.env = (false, eval e X.env) :: starEach es X.env := by rfl) (hpl : (backTo pos (starEach es X.env)).any (·.1) = false := by rfl) :
    PE X (.Call (.Name x p) (e :: es) [] pos) (fun σ H Q => t σ H fun vs H1 => sp vs H1 Q E) := by
  refine ⟨fun pins s σ H Q I h => ?_⟩
  refine wpAny_Call_Name_kw (ld_glob I hg hm ?_ hdb)
  refine PySem.W.callWith_K (h₀ := X.base) I.ok.mod.kin hk (thn (ha.run pos pins s σ H _ I h) fun us s1 ⟨vs, H1, I1, r, q⟩ => ⟨I1.kIn, ?_⟩) he hpl
  exact run_g F hr hb hx I1 r q
theorem pe_callG0 (F : FnG X.prog X.w X.K X.mg X.base CX k f fd ps sp) (hr : RoomG k X.A) (hg : Gl X x) (hm : X.mg x = some (.ref f)) (hk : PySem.W.keepIn X.K (.ref f) = true) (hb : Binds X.K fd ps []) (hx : Passes CX X E)
    (hdb : (x == ("__debug__" : Str)) = false := by decide) : PE X (.Call (.Name x p) [] [] pos) (fun σ H Q => sp [] H Q E) := by
  refine ⟨fun pins s σ H Q I h => ?_⟩
  refine wpAny_Call_Name_kw (ld_glob I hg hm ?_ hdb)
  exact PySem.W.callWith_K0 I.kIn hk (run_g (us := []) F hr hb hx I .nil h)
end

/-! ### the end of the law -/
theorem law_callG {P : Program} {w : World} {K : PySem.W.Frag} {mg mb : Str → Option Value} {k : Nat} {fa a : Addr} {x : Str} {sp : Sp} {s₁ : Shared} {vs : List Value} {ns : List Int}
    (KX : K.In s₁.heap) (hns : s₁.heap.Ns mainGlobals mg) (hb : s₁.heap.Ns builtinsNs mb) (hbb : ∀ x : Str, x ≠ "__name__" → mb x = bootBuiltins x) (hlim : s₁.heap.NoLimit) (hg : s₁.gens = #[])
    (ha : s₁.heap.get? a = some { cls := .type "list", data := .seq vs.toArray }) (hi : IntsAre vs ns) (hl : ns.length ≤ sizeLine) (hr : Room k callerA)
    (F : ∀ base : Heap, K.In base → base.Ns mainGlobals mg → ∃ fd : FuncData, FnG P w K mg base CX0 k fa fd [x] sp ∧ Binds K fd [x] [])
    (hsp : ∀ H : Hp, Only H → SqL K H a (ns.map V.int) → sp [.ref a] H (fun v _ => v = .bl true) fun _ _ _ => False) :
    codeAny (model P w) callerA (.call (.ref fa) ⟨[.ref a], []⟩) (fun r s' => r = .ok (.ret (.bool true)) ∧ OldK s₁.heap s'.heap ∧ s'.os = s₁.os ∧ AllBare s'.gens) s₁ := by
  have rv := vals_ints hi
  have lenV := hi.length
  have core : ∀ H : Hp, Only H → SqL K H a (ns.map V.int) → HOk P w H s₁.heap → (∀ b, H b ≠ none → b = a) → (H a ≠ none → K.lookup a = none) →
      codeAny (model P w) callerA (.call (.ref fa) ⟨[.ref a], []⟩) (fun r s' => r = .ok (.ret (.bool true)) ∧ OldK s₁.heap s'.heap ∧ s'.os = s₁.os ∧ AllBare s'.gens) s₁ := by
    intro H hO hS hok hA hK
    have isA : ∀ {b : Addr} {u : HO}, H b = some u → b = a := fun {b u} q => hA b (by rw [q]; simp)
    have bare : ∀ {b : Addr} {o : Obj} {es : Array DictEntry} {ep : Nat}, s₁.heap.get? b = some o → o.data = .dict es ep → H b = none := fun {b o es ep} e d => by
      cases q : H b with
      | none => rfl
      | some u =>
        obtain rfl := isA q
        rw [ha] at e
        cases e
        have d' : Data.seq vs.toArray _ = Data.dict es ep := d
        cases d'
    have nsB : ∀ {b : Addr} {m : Str → Option Value}, s₁.heap.Ns b m → (hidT s₁.heap H).Ns b m := fun {b m} ⟨o, es, ep, e, d, r⟩ => ⟨o, es, ep, hidT_get e (bare e d), d, r⟩
    have inB : K.In (hidT s₁.heap H) := fun b o e => hidT_get (KX b o e) (by
      cases q : H b with
      | none => rfl
      | some u =>
        obtain rfl := isA q
        rw [hK (by rw [q]; simp)] at e
        cases e)
    have mod : Mod K mg (hidT s₁.heap H) := ⟨inB, nsB hns, ⟨mb, nsB hb, hbb⟩, let ⟨mc, h1, h2⟩ := hlim; ⟨mc, nsB h1, h2⟩⟩
    have e0 : Env0 P w K mg (hidT s₁.heap H) callerA [] s₁ H := ⟨rfl, mod, fun b o e => of_hidT e, Nat.le_of_eq (hidT_size _ _), trivial, fun b hb => absurd (show b ∈ ([] : List Addr) from hb) (by simp), hok, .of_eq hg⟩
    obtain ⟨fd, F1, B1⟩ := F _ inB (nsB hns)
    refine codeAny_mono (F1.run callerA [] s₁ H ⟨[.ref a], []⟩ [.ref a] [.ref a] _ _ ⟨hr, rfl⟩ e0 (B1 s₁ [.ref a] KX rfl) (.cons rfl .nil) (hsp H hO hS)) fun r s' h => ?_
    cases r with
    | error e => exact False.elim h
    | ok fl =>
      cases fl with
      | next => exact False.elim h
      | brk => exact False.elim h
      | cont => exact False.elim h
      | ret u =>
        obtain ⟨v, H', os, bare, un, hok', r', q⟩ := h
        have q' : v = .bl true := q
        subst q'
        obtain rfl : u = Value.bool true := r'
        refine ⟨rfl, OldK.of_keep fun b o e => ?_, os, bare⟩
        cases q : H b with
        | none => exact un.keep b o e q (by intro z; exact absurd (show b ∈ ([] : List Addr) from z) (by simp)) (by simp)
        | some u =>
          rcases hO b with z | ⟨ob, xs, z⟩
          · rw [q] at z; cases z
          · have z2 := un.frzs b ob _ z
            obtain ⟨e1, _⟩ := hok b _ z
            obtain ⟨e2, _⟩ := hok' b _ z2
            rw [e] at e1; cases e1
            exact e2
  cases hk : K.lookup a with
  | some o =>
    have e := KX a o hk
    rw [ha] at e
    cases e
    refine core (fun _ => none) (fun _ => .inl rfl) (.inr ⟨_, vs.toArray, _, hk, rfl, rfl, rfl, by rw [List.size_toArray, lenV]; exact hl, by simpa using rv⟩) (fun b u z => by have z' : (none : Option HO) = some u := z; cases z') (fun b z => absurd rfl z) fun z => absurd rfl z
  | none =>
    refine core (fun b => if b = a then some (.frz { cls := .type "list", data := .seq vs.toArray } (.lst (ns.map V.int))) else none) (fun b => ?_) (.inl (.inr ⟨{ cls := .type "list", data := .seq vs.toArray }, if_pos rfl⟩)) (fun b u z => ?_) (fun b z => ?_) fun _ => hk
    · by_cases hb : b = a
      · exact .inr ⟨_, _, if_pos hb⟩
      · exact .inl (if_neg hb)
    · by_cases hb : b = a
      · have z' := (if_pos hb).symm.trans z
        cases z'
        subst hb
        exact ⟨ha, by rw [List.length_map]; exact hl, vs, _, rv, ha⟩
      · have z' := (if_neg hb).symm.trans z
        cases z'
    · by_cases hb : b = a
      · exact hb
      · exact absurd (if_neg hb) z
end DL
set_option Elab.async false
set_option linter.all false
set_option maxRecDepth 100000
set_option maxHeartbeats 4000000
/-! DL11: defs: their meaning, what they have made is data behind them, calls. -/
namespace DL
open PySem PySem.Spec PyProof.Rows L2

abbrev FD := List D → Store → Option (D × Store)
def outD : Fl × Env × Store → Option (D × Store) := fun p => match p.1 with
  | .next => some (.non, p.2.2)
  | .ret d => some (d, p.2.2)
  | _ => none
/-- a body of m parameters and n slots more -/
def bodyD (m n : Nat) (b : DenS) : FD := fun ds st => if ds.length = m then (b (ds.map some ++ List.replicate n none) st).bind outD else none
/-- the promise of a def -/
def spD (c : C) (g : FD) : Sp := fun vs H Q _ => ∃ F io st ds d st', SRel c F io st H ∧ Reps c io F vs ds ∧ g ds st = some (d, st') ∧
  ∀ v F' io' H', Grow F io H F' io' H' → SRel c F' io' st' H' → Rep c io' F' v d → Q v H'

/-! ### what has been made is data -/
mutual
def res1 (g : Nat → Option D) : D → Option D
  | .tup ds => (res1s g ds).map .tup
  | .lst ds => (res1s g ds).map .lst
  | .dic t ks vs => (res1s g vs).map (.dic t ks)
  | .ref n => g n
  | .non => some .non
  | .bl b => some (.bl b)
  | .int i => some (.int i)
  | .str x => some (.str x)
  | .scr ns => some (.scr ns)
def res1s (g : Nat → Option D) : List D → Option (List D)
  | [] => some []
  | d :: ds => (res1 g d).bind fun e => (res1s g ds).map (e :: ·)
end
def resN (st : Store) (base : Nat) : Nat → Nat → Option D
  | 0, n => if n < base then some (.ref n) else none
  | k + 1, n => if n < base then some (.ref n) else match st[n]? with
    | some (.lst ds) => (res1s (resN st base k) ds).map .lst
    | some (.dic t ks vs) => (res1s (resN st base k) vs).map (.dic t ks)
    | _ => none
def resO (g : Nat → Option D) : SObj → Option SObj
  | .lst ds => (res1s g ds).map .lst
  | .dic t ks vs => (res1s g vs).map (.dic t ks)
  | .ins c ns vs => (res1s g vs).map (.ins c ns)
def resSt (g : Nat → Option D) : Store → Option Store
  | [] => some []
  | o :: st => (resO g o).bind fun o' => (resSt g st).map (o' :: ·)
def frzOut (base : Nat) (p : D × Store) : Option (D × Store) :=
  (res1 (resN p.2 base p.2.length) p.1).bind fun d => (resSt (resN p.2 base p.2.length) (p.2.take base)).map fun st' => (d, st')
def frzD (b : FD) : FD := fun ds st => (b ds st).bind (frzOut st.length)

section
variable {c : C} {F F1 F' H1 : Hp} {io io1 : List Addr}
mutual
theorem key_rep (s : Sub F1 F') : ∀ {d : D} {v : V}, Rep c io1 F1 v d → (nkey d).isSome = true → Rep c io F' v d
  | .non, _, r, _ => by cases r; exact .non
  | .bl _, _, r, _ => by cases r; exact .bl _
  | .int _, _, r, _ => by cases r; exact .int _
  | .str _, _, r, _ => by cases r; exact .str _
  | .tup ds, _, r, h => by
    cases r with
    | tup h1 k1 =>
      refine .tup (Sub.sqT s h1) (keys_rep s k1 ?_)
      unfold nkey at h
      simpa using h
  | .lst _, _, _, h => by cases h
  | .dic _ _ _, _, _, h => by cases h
  | .ref _, _, _, h => by cases h
  | .scr _, _, _, h => by cases h
theorem keys_rep (s : Sub F1 F') : ∀ {ds : List D} {vs : List V}, Reps c io1 F1 vs ds → (nkeys ds).isSome = true → Reps c io F' vs ds
  | [], _, .nil, _ => .nil
  | d :: ds, _, .cons r k, h => by
    unfold nkeys at h
    cases h1 : nkey d with
    | none => rw [h1] at h; cases h
    | some q =>
      rw [h1] at h
      exact .cons (key_rep s r (by rw [h1]; rfl)) (keys_rep s k (by simpa using h))
end
theorem keys_all (s : Sub F1 F') : ∀ {ks : List D} {vs : List V} {kvs : List (NestedKey × Addr × V)}, Reps c io1 F1 vs ks → ks.map nkey = kvs.map (fun p => some p.1) → Reps c io F' vs ks
  | [], _, _, .nil, _ => .nil
  | d :: ds, _, [], .cons r k, h => by cases h
  | d :: ds, _, p :: ps, .cons r k, h => by
    simp only [List.map_cons, List.cons.injEq] at h
    exact .cons (key_rep s r (by rw [h.1]; rfl)) (keys_all s k h.2)
mutual
theorem res_rep {g : Nat → Option D} (s : Sub F1 F') (hg : ∀ (n : Nat) (a : Addr) (d : D), io1[n]? = some a → g n = some d → Rep c io F' (.ref a) d) : ∀ {d d' : D} {v : V}, Rep c io1 F1 v d → res1 g d = some d' → Rep c io F' v d'
  | .non, _, _, r, h => by cases h; cases r; exact .non
  | .bl _, _, _, r, h => by cases h; cases r; exact .bl _
  | .int _, _, _, r, h => by cases h; cases r; exact .int _
  | .str _, _, _, r, h => by cases h; cases r; exact .str _
  | .scr _, _, _, r, h => by
    cases h
    cases r with
    | scr h1 => exact .scr (Sub.sqL s h1)
  | .tup ds, _, _, r, h => by
    cases r with
    | tup h1 k1 =>
      obtain ⟨es, h2, rfl⟩ := Option.map_eq_some_iff.mp h
      exact .tup (Sub.sqT s h1) (res_reps s hg k1 h2)
  | .lst ds, _, _, r, h => by
    cases r with
    | lst h1 k1 =>
      obtain ⟨es, h2, rfl⟩ := Option.map_eq_some_iff.mp h
      exact .lst (s _ _ h1) (res_reps s hg k1 h2)
  | .dic t ks vs, _, _, r, h => by
    obtain ⟨es, h2, rfl⟩ := Option.map_eq_some_iff.mp h
    cases r with
    | dic h1 k n k1 => exact .dic (s _ _ h1) k n (res_reps s hg k1 h2)
    | dit h1 k n k1 k2 => exact .dit (s _ _ h1) k n (keys_all s k1 k) (res_reps s hg k2 h2)
  | .ref n, _, _, r, h => by
    cases r with
    | ref hn => exact hg n _ _ hn h
theorem res_reps {g : Nat → Option D} (s : Sub F1 F') (hg : ∀ (n : Nat) (a : Addr) (d : D), io1[n]? = some a → g n = some d → Rep c io F' (.ref a) d) : ∀ {ds ds' : List D} {vs : List V}, Reps c io1 F1 vs ds → res1s g ds = some ds' → Reps c io F' vs ds'
  | [], _, _, .nil, h => by cases h; exact .nil
  | d :: ds, _, _, .cons r k, h => by
    obtain ⟨e, h1, h⟩ := Option.bind_eq_some_iff.mp h
    obtain ⟨es, h2, rfl⟩ := Option.map_eq_some_iff.mp h
    exact .cons (res_rep s hg r h1) (res_reps s hg k h2)
end
theorem resN_rep {st1 : Store} (s : Sub F1 F') (base : Nat) (hio : ∀ n a, io1[n]? = some a → n < base → io[n]? = some a) (hF : ∀ n a u, io1[n]? = some a → ¬ n < base → H1 a = some u → F' a = some u)
    (hs : SRel c F1 io1 st1 H1) : ∀ (k n : Nat) (a : Addr) (d : D), io1[n]? = some a → resN st1 base k n = some d → Rep c io F' (.ref a) d
  | 0, n, a, d, hn, h => by
    unfold resN at h
    split at h
    · rename_i hl
      cases h
      exact .ref (hio n a hn hl)
    · cases h
  | k + 1, n, a, d, hn, h => by
    unfold resN at h
    split at h
    · rename_i hl
      cases h
      exact .ref (hio n a hn hl)
    · rename_i hl
      have ih := resN_rep s base hio hF hs k
      cases hso : st1[n]? with
      | none => rw [hso] at h; cases h
      | some so =>
        rw [hso] at h
        obtain ⟨_, q⟩ := hs.obj n a so hn hso
        cases so with
        | lst ds =>
          obtain ⟨es, h2, rfl⟩ := Option.map_eq_some_iff.mp h
          cases q with
          | lst e k1 => exact .lst (hF n a _ hn hl e) (res_reps s ih k1 h2)
        | dic t ks vs =>
          obtain ⟨es, h2, rfl⟩ := Option.map_eq_some_iff.mp h
          cases q with
          | dic e k n k1 => exact .dic (hF _ a _ hn hl e) k n (res_reps s ih k1 h2)
          | dit e k n k1 k2 => exact .dit (hF _ a _ hn hl e) k n (keys_all s k1 k) (res_reps s ih k2 h2)
        | ins _ _ _ => cases h
theorem resSt_get {g : Nat → Option D} : ∀ {st st' : Store}, resSt g st = some st' → st'.length = st.length ∧ ∀ (n : Nat) (o' : SObj), st'[n]? = some o' → ∃ o : SObj, st[n]? = some o ∧ resO g o = some o'
  | [], _, h => by cases h; exact ⟨rfl, fun n o' h => by simp at h⟩
  | o :: st, _, h => by
    obtain ⟨e, h1, h⟩ := Option.bind_eq_some_iff.mp h
    obtain ⟨es, h2, rfl⟩ := Option.map_eq_some_iff.mp h
    obtain ⟨l, r⟩ := resSt_get h2
    refine ⟨by simp [l], fun n o' hn => ?_⟩
    cases n with
    | zero => simp at hn; subst hn; exact ⟨o, rfl, h1⟩
    | succ n => simpa using r n o' (by simpa using hn)
end
open Classical in
theorem frz_ok {c : C} {F H F1 H1 : Hp} {io io1 : List Addr} {st st1 st' : Store} {v : V} {d d' : D} (s : SRel c F io st H) (g : Grow F io H F1 io1 H1) (s1 : SRel c F1 io1 st1 H1) (r : Rep c io1 F1 v d) (h : frzOut st.length (d, st1) = some (d', st')) :
    ∃ F', Grow F io H F' io H1 ∧ SRel c F' io st' H1 ∧ Rep c io F' v d' := by
  obtain ⟨more, hio⟩ := g.pre
  obtain ⟨e, h1, h⟩ := Option.bind_eq_some_iff.mp h
  obtain ⟨es, h2, h⟩ := Option.map_eq_some_iff.mp h
  cases h
  have hnd := s1.nd
  rw [hio] at hnd
  obtain ⟨nd1, nd2, nd3⟩ := List.nodup_append.mp hnd
  let F' : Hp := fun a => if a ∈ more then H1 a else F1 a
  have F'in : ∀ {a}, a ∈ more → F' a = H1 a := fun h => if_pos h
  have F'out : ∀ {a}, a ∉ more → F' a = F1 a := fun h => if_neg h
  have sub : Sub F1 F' := fun b o hb => by
    by_cases hm : b ∈ more
    · obtain ⟨u, _, q⟩ := s1.there (b := b) (by rw [hio]; exact List.mem_append_right _ hm)
      rw [hb] at q; cases q
    · rw [F'out hm]; exact hb
  have hlen := s.len
  have hio1 : ∀ n a, io1[n]? = some a → n < st.length → io[n]? = some a := fun n a hn hl => by
    rw [hio, List.getElem?_append_left (by omega)] at hn; exact hn
  have hio2 : ∀ n a, io1[n]? = some a → ¬ n < st.length → a ∈ more := fun n a hn hl => by
    rw [hio, List.getElem?_append_right (by omega)] at hn
    exact List.mem_of_getElem? hn
  have hg := resN_rep (F' := F') (io := io) sub st.length hio1 (fun n a u hn hl hu => by rw [F'in (hio2 n a hn hl)]; exact hu) s1 st1.length
  obtain ⟨hl', hget⟩ := resSt_get h2
  have hle : st.length ≤ st1.length := by
    rw [← s1.len, ← hlen, hio, List.length_append]; omega
  refine ⟨F', ⟨g.sub.trans sub, ⟨[], by simp⟩, g.keep, g.there, fun b o hb => ?_, fun b hb => .inl hb⟩, ⟨fun b o hb => ?_, ?_, fun n a o hn ho => ?_, nd1⟩, res_rep sub hg r h1⟩
  · by_cases hm : b ∈ more
    · rcases g.newI b (by rw [hio]; exact List.mem_append_right _ hm) with z | z
      · exact absurd rfl (nd3 b z b hm)
      · exact .inr z
    · rw [F'out hm] at hb; exact g.newF b o hb
  · by_cases hm : b ∈ more
    · rw [F'in hm] at hb; exact hb
    · rw [F'out hm] at hb; exact s1.sub b o hb
  · rw [hl', List.length_take, hlen]; exact (Nat.min_eq_left hle).symm
  · obtain ⟨o1, ho1, hr⟩ := hget n o ho
    have hnl : n < st.length := by
      rw [← hlen]; exact (List.getElem?_eq_some_iff.mp hn).1
    rw [List.getElem?_take, if_pos hnl] at ho1
    have hn1 : io1[n]? = some a := by
      rw [hio, List.getElem?_append_left (by omega)]; exact hn
    have ham : a ∉ more := fun z => nd3 a (List.mem_of_getElem? hn) a z rfl
    obtain ⟨q1, q2⟩ := s1.obj n a o1 hn1 ho1
    refine ⟨by rw [F'out ham]; exact q1, ?_⟩
    cases q2 with
    | lst e k =>
      obtain ⟨es', h3, rfl⟩ := Option.map_eq_some_iff.mp hr
      exact .lst e (res_reps sub hg k h3)
    | dic e k n k1 =>
      obtain ⟨es', h3, rfl⟩ := Option.map_eq_some_iff.mp hr
      exact .dic e k n (res_reps sub hg k1 h3)
    | dit e k n k1 k2 =>
      obtain ⟨es', h3, rfl⟩ := Option.map_eq_some_iff.mp hr
      exact .dit e k n (keys_all sub k1 k) (res_reps sub hg k2 h3)
    | ins e nm k =>
      obtain ⟨es', h3, rfl⟩ := Option.map_eq_some_iff.mp hr
      exact .ins e nm (res_reps sub hg k h3)

/-! ### defs -/
section
variable {P : Program} {w : World} {K : PySem.W.Frag} {mg : Str → Option Value} {base : Heap}
theorem FnG.frz {k : Nat} {f : Addr} {fd : FuncData} {ps : List Str} {b : FD} (h : FnG P w K mg base CX0 k f fd ps (spD ⟨K, w⟩ b)) : FnG P w K mg base CX0 k f fd ps (spD ⟨K, w⟩ (frzD b)) := by
  refine h.imp fun vs H Q E q => ?_
  obtain ⟨F, io, st, ds, d, st', s, r, e, q⟩ := q
  obtain ⟨⟨d1, st1⟩, h1, h2⟩ := Option.bind_eq_some_iff.mp e
  refine ⟨F, io, st, ds, d1, st1, s, r, h1, fun v F1 io1 H1 g s1 r1 => ?_⟩
  obtain ⟨F', g', s', r'⟩ := frz_ok s g s1 r1 h2
  exact q v F' io H1 g' s' r'
theorem FnG.less {k : Nat} {f : Addr} {fd : FuncData} {ps : List Str} {b b' : FD} (h : FnG P w K mg base CX0 k f fd ps (spD ⟨K, w⟩ b)) (hb : ∀ ds st r, b' ds st = some r → b ds st = some r) : FnG P w K mg base CX0 k f fd ps (spD ⟨K, w⟩ b') := by
  refine h.imp fun vs H Q E q => ?_
  obtain ⟨F, io, st, ds, d, st', s, r, e, q⟩ := q
  exact ⟨F, io, st, ds, d, st', s, r, hb _ _ _ e, q⟩
theorem FnG.never {k : Nat} {f : Addr} {fd : FuncData} {ps : List Str} : FnG P w K mg base CX0 k f fd ps (spD ⟨K, w⟩ fun _ _ => none) := by
  refine ⟨fun vs H Q E q => ?_, fun A outer s H args us vs Q E hr he hb hv q => ?_⟩
  · obtain ⟨F, io, st, ds, d, st', s, r, e, q⟩ := q
    cases e
  · obtain ⟨F, io, st, ds, d, st', s, r, e, q⟩ := q
    cases e
theorem start_rel {c : C} {io : List Addr} {F : Hp} {vs : List V} {ds : List D} (N : List Str) (r : Reps c io F vs ds) : ERel c io F (ds.map some ++ List.replicate (N.length - ds.length) none) (L2.start N vs) := by
  have hl := r.length
  refine ⟨by simp [L2.start, hl], fun i d h => ?_⟩
  by_cases hi : i < ds.length
  · rw [List.getElem?_append_left (by simpa using hi), List.getElem?_map] at h
    cases h1 : ds[i]? with
    | none => rw [h1] at h; cases h
    | some e =>
      rw [h1] at h
      have h := Option.some.inj (Option.some.inj h)
      subst h
      obtain ⟨v, hv, rv⟩ := r.get h1
      refine ⟨v, ?_, rv⟩
      unfold L2.start
      rw [List.getElem?_append_left (by rw [List.length_map]; omega), List.getElem?_map, hv]
      rfl
  · rw [List.getElem?_append_right (by simpa using hi)] at h
    rw [List.getElem?_replicate] at h
    split at h <;> cases h
theorem ok_fn {x qual : Str} {st : Stmt} {f : Addr} {fd : FuncData} {N ps : List Str} {k : Nat} {b : DenS} (F : Fun K x qual st f fd) (S : FnScope N ps (defScope st))
    (hb : ∀ (cdv : Value) (A : Around) (outer : List PySem.Env) (s : Shared) (H : Hp) (E : XK), RoomG k (A.deeper (envOfC qual (defScope st) s.heap.objs.size f cdv)) →
      DSs (cxOf CX0 P w K mg base N qual (defScope st) f cdv A outer s H E).nox (defBody st) b) : FnG P w K mg base CX0 (k + 1) f fd ps (spD ⟨K, w⟩ (bodyD ps.length (N.length - ps.length) b)) := by
  obtain ⟨oc, od, kV, doc, pm, an, cdv, ct, osl, rfl, lk, hcd⟩ := F.ex
  refine FnG.of lk hcd S (fun vs H Q E q => ?_) fun A outer s H vs Q E hr q => ⟨_, PSs.nox (hb cdv A outer s H E hr), ?_⟩
  · obtain ⟨F, io, st, ds, d, st', s, r, e, q⟩ := q
    unfold bodyD at e
    split at e
    · rename_i l
      rw [r.length, l]
    · cases e
  · obtain ⟨F, io, st, ds, d, st', s, r, e, q⟩ := q
    unfold bodyD at e
    split at e
    case isFalse => cases e
    rename_i l
    obtain ⟨⟨fl, env, st1⟩, h1, h2⟩ := Option.bind_eq_some_iff.mp e
    rw [← l] at h1
    refine ⟨F, io, _, st, fl, env, st1, ⟨s, start_rel N r⟩, h1, fun v σ' F1 io1 H1 g hh rr => ?_⟩
    cases fl with
    | next => cases h2; exact q .non F1 io1 H1 g hh.s .non
    | ret e => cases h2; exact q v F1 io1 H1 g hh.s rr
    | brk => cases h2
    | cont => cases h2
end
/-- a call of a def -/
def dCallF (g : FD) (a : DenA) : Den := fun env st => (a env st).bind fun p => g p.1 p.2
section
variable {X : Cx} {e : Expr} {es : List Expr} {p pos : Pos} {x : Str} {a : DenA}
theorem de_call {k : Nat} {f : Addr} {fd : FuncData} {ps : List Str} {g : FD} (F : FnG X.prog X.w X.K X.mg X.base CX0 k f fd ps (spD (cOf X) g)) (hr : RoomG k X.A) (hm : X.mg x = some (.ref f)) (hk : PySem.W.keepIn X.K (.ref f) = true) (hb : Binds X.K fd ps []) (ha : DA X (e :: es) a) (hg : Gl X x := by rfl)
    (hdb : (x == ("__debug__" : Str)) = false := by decide) (he : starEach (e :: es) X.env = (false, eval e X.env) :: starEach es X.env := by rfl) (hpl : (backTo pos (starEach es X.env)).any (·.1) = false := by rfl) : DE X (.Call (.Name x p) (e :: es) [] pos) (dCallF g a) := by
  refine PE.imp (pe_callG (E := E0) F hr hg hm hk hb pass0 ha hdb he hpl) fun σ H Q h => ?_
  obtain ⟨F, io, env, st, d, st', hh, hd, q⟩ := h
  obtain ⟨⟨xs, st1⟩, h1, hd⟩ := Option.bind_eq_some_iff.mp hd
  refine ⟨F, io, env, st, xs, st1, hh, h1, fun vs F1 io1 H1 g1 s1 r1 => ?_⟩
  exact ⟨F1, io1, st1, xs, d, st', s1, r1, hd, fun z F2 io2 H2 g2 s2 r2 => q z F2 io2 H2 (g1.trans g2) s2 r2⟩
theorem de_call0 {k : Nat} {f : Addr} {fd : FuncData} {ps : List Str} {g : FD} (F : FnG X.prog X.w X.K X.mg X.base CX0 k f fd ps (spD (cOf X) g)) (hr : RoomG k X.A) (hm : X.mg x = some (.ref f)) (hk : PySem.W.keepIn X.K (.ref f) = true) (hb : Binds X.K fd ps []) (hg : Gl X x := by rfl)
    (hdb : (x == ("__debug__" : Str)) = false := by decide) : DE X (.Call (.Name x p) [] [] pos) (dCallF g aNil) := by
  refine PE.imp (pe_callG0 (E := E0) F hr hg hm hk hb pass0 hdb) fun σ H Q h => ?_
  obtain ⟨F, io, env, st, d, st', hh, hd, q⟩ := h
  exact ⟨F, io, st, [], d, st', hh.s, .nil, hd, q⟩
end
end DL
set_option Elab.async false
set_option linter.all false
set_option maxRecDepth 100000
set_option maxHeartbeats 4000000
/-! DL12: list and sorted of anything; dicts. -/
namespace DL
open PySem PySem.Spec PyProof.Rows L2

def dicOf (st : Store) : D → Option (Bool × List D × List D)
  | .dic t ks vs => some (t, ks, vs)
  | .ref n => (match st[n]? with
    | some (.dic t ks vs) => some (t, ks, vs)
    | _ => none)
  | _ => none
theorem vals_at : ∀ {vs : List V} {us : List Value}, vs.length = us.length → (∀ (j : Nat) (u : Value), us[j]? = some u → ∃ x, vs[j]? = some x ∧ RelV x u) → Vals vs us
  | [], [], _, _ => .nil
  | v :: vs, u :: us, hl, h => by
    obtain ⟨x, e, r⟩ := h 0 u rfl
    cases e
    exact .cons r (vals_at (by simpa using hl) fun j w hw => by simpa using h (j + 1) w (by simpa using hw))
  | [], _ :: _, hl, _ => by simp at hl
  | _ :: _, [], hl, _ => by simp at hl
theorem key_V {c : C} {io : List Addr} {F : Hp} {v : V} {d : D} {k : Key} (h : keyOf d = some k) (r : Rep c io F v d) : v = kV k := by
  cases d with
  | int i => cases r; cases h; rfl
  | str x => cases r; cases h; rfl
  | _ => cases h
theorem keys_V {c : C} {io : List Addr} {F : Hp} : ∀ {ks : List D} {kvs : List (Key × V)}, ks.map keyOf = kvs.map (fun p => some p.1) → Reps c io F (kvs.map fun p => kV p.1) ks
  | [], [], _ => .nil
  | d :: ds, p :: ps, h => by
    simp only [List.map_cons, List.cons.injEq] at h
    refine .cons ?_ (keys_V h.2)
    have h1 := h.1
    cases d with
    | int i =>
      have e : Sum.inl i = p.1 := Option.some.inj h1
      show Rep c io F (kV p.1) _
      rw [← e]; exact .int i
    | str x =>
      have e : Sum.inr (strOf x) = p.1 := Option.some.inj h1
      show Rep c io F (kV p.1) _
      rw [← e]; exact .str x
    | _ => cases h1
  | [], _ :: _, h => by cases h
  | _ :: _, [], h => by cases h
theorem Paired.ix {α β : Type} {R : α → β → Prop} : ∀ {xs : List α} {ys : List β}, Paired R xs ys → ∀ {j : Nat} {y : β}, ys[j]? = some y → ∃ x, xs[j]? = some x ∧ R x y
  | _, _, .nil, _, _, h => by simp at h
  | _, _, .cons r _, 0, _, h => by simp at h; subst h; exact ⟨_, rfl, r⟩
  | _, _, .cons _ t, j + 1, _, h => by
    obtain ⟨x, e, r⟩ := Paired.ix t (j := j) (by simpa using h)
    exact ⟨x, by simpa using e, r⟩
theorem Pairs.ix {P : Program} {w : World} {K : Type} [DecidableEq K] {knd : KeyKind P w K} : ∀ {es : List DictEntry} {kvs : List (K × Value)}, PySem.Pairs (knd := knd) es kvs → ∀ {j : Nat} {e : DictEntry}, es[j]? = some e → ∃ k x, kvs[j]? = some (k, x) ∧ knd.is k e.key = true ∧ e.val = x
  | _, _, .nil, _, _, h => by simp at h
  | _, _, .cons h1 h2 _, 0, _, h => by simp at h; subst h; exact ⟨_, _, rfl, h1, h2⟩
  | _, _, .cons _ _ t, j + 1, _, h => by
    obtain ⟨k, x, e, r⟩ := Pairs.ix t (j := j) (by simpa using h)
    exact ⟨k, x, by simpa using e, r⟩
section
variable {X : Cx} {pins : List (Addr × Obj)} {σ : L2.St} {H F : Hp} {io : List Addr} {st : Store} {s : Shared} {v : V} {x : D}
theorem raw_dK {a : Addr} {kvs : List (Key × V)} {ks vs : List D} (I : Inv X pins σ H s) (h : H a = some (.dK kvs)) (hk : ks.map keyOf = kvs.map (fun p => some p.1)) (rv : Reps (cOf X) io F (kvs.map (·.2)) vs) :
    ∃ o es ep kv vv, s.heap.get? a = some o ∧ o.ExactDict ∧ o.data = .dict es ep ∧ (a == sysModules) = false ∧ es.size ≤ sizeLine ∧ Vals kv (es.toList.map (·.key)) ∧ Reps (cOf X) io F kv ks ∧ Vals vv (es.toList.map (·.val)) ∧ Reps (cOf X) io F vv vs := by
  obtain ⟨z, lo, us, rel, o, es, ep, ho, hx, hd, _, pr, nd⟩ := (show ObjOk X.prog X.w H s.heap a (.dK kvs) from I.hok a _ h)
  have l1 : es.toList.length = us.length := pr.length
  have l2 : kvs.length = us.length := rel.length
  refine ⟨o, es, ep, kvs.map fun p => kV p.1, kvs.map (·.2), ho, hx, hd, lo, by rw [← Array.length_toList]; omega, vals_at (by simp; rw [← Array.length_toList]; omega) fun j u hj => ?_, keys_V hk, vals_at (by simp; rw [← Array.length_toList]; omega) fun j u hj => ?_, rv⟩
  · rw [List.getElem?_map] at hj
    obtain ⟨e, he, rfl⟩ := Option.map_eq_some_iff.mp hj
    obtain ⟨k, y, hy, hk2, _⟩ := Pairs.ix pr he
    obtain ⟨p, hp, r1, _⟩ := Paired.ix rel hy
    refine ⟨kV p.1, by rw [List.getElem?_map, hp]; rfl, ?_⟩
    have hk3 : keyIs p.1 e.key = true := by rw [r1]; exact hk2
    exact relV_key hk3
  · rw [List.getElem?_map] at hj
    obtain ⟨e, he, rfl⟩ := Option.map_eq_some_iff.mp hj
    obtain ⟨k, y, hy, _, hv⟩ := Pairs.ix pr he
    obtain ⟨p, hp, _, r2⟩ := Paired.ix rel hy
    exact ⟨p.2, by rw [List.getElem?_map, hp]; rfl, by rw [hv]; exact r2⟩
theorem raw_dT {a : Addr} {kvs : List (NestedKey × Addr × V)} {ks vs : List D} (I : Inv X pins σ H s) (h : H a = some (dT X.w a kvs)) (rk : Reps (cOf X) io F (kvs.map fun p => .ref p.2.1) ks) (rv : Reps (cOf X) io F (kvs.map fun p => p.2.2) vs) :
    ∃ o es ep kv vv, s.heap.get? a = some o ∧ o.ExactDict ∧ o.data = .dict es ep ∧ (a == sysModules) = false ∧ es.size ≤ sizeLine ∧ Vals kv (es.toList.map (·.key)) ∧ Reps (cOf X) io F kv ks ∧ Vals vv (es.toList.map (·.val)) ∧ Reps (cOf X) io F vv vs := by
  obtain ⟨⟨o, es, ep, ho, hx, hd, lo, z, pr⟩, _⟩ := (show ObjOk X.prog X.w H s.heap a (dT X.w a kvs) from I.hok a _ h)
  have l1 : kvs.length = es.toList.length := Paired.length pr
  refine ⟨o, es, ep, kvs.map fun p => .ref p.2.1, kvs.map fun p => p.2.2, ho, hx, hd, lo, by rw [← Array.length_toList]; omega, vals_at (by simp; rw [← Array.length_toList]; omega) fun j u hj => ?_, rk, vals_at (by simp; rw [← Array.length_toList]; omega) fun j u hj => ?_, rv⟩
  · rw [List.getElem?_map] at hj
    obtain ⟨e, he, rfl⟩ := Option.map_eq_some_iff.mp hj
    obtain ⟨p, hp, _, r2, _⟩ := Paired.ix pr he
    exact ⟨.ref p.2.1, by rw [List.getElem?_map, hp]; rfl, r2⟩
  · rw [List.getElem?_map] at hj
    obtain ⟨e, he, rfl⟩ := Option.map_eq_some_iff.mp hj
    obtain ⟨p, hp, _, _, r3⟩ := Paired.ix pr he
    exact ⟨p.2.2, by rw [List.getElem?_map, hp]; rfl, r3⟩
theorem dic_raw {t : Bool} {ks vs : List D} (I : Inv X pins σ H s) (sr : SRel (cOf X) F io st H) (r : Rep (cOf X) io F v x) (h : dicOf st x = some (t, ks, vs)) :
    ∃ a o es ep kv vv, v = .ref a ∧ s.heap.get? a = some o ∧ o.ExactDict ∧ o.data = .dict es ep ∧ (a == sysModules) = false ∧ es.size ≤ sizeLine ∧ Vals kv (es.toList.map (·.key)) ∧ Reps (cOf X) io F kv ks ∧ Vals vv (es.toList.map (·.val)) ∧ Reps (cOf X) io F vv vs := by
  cases x with
  | dic t' ks' vs' =>
    cases h
    cases r with
    | dic h1 k n k1 => obtain ⟨o, es, ep, kv, vv, r⟩ := raw_dK I (sr.sub _ _ h1) k k1; exact ⟨_, o, es, ep, kv, vv, rfl, r⟩
    | dit h1 k n k1 k2 => obtain ⟨o, es, ep, kv, vv, r⟩ := raw_dT I (sr.sub _ _ h1) k1 k2; exact ⟨_, o, es, ep, kv, vv, rfl, r⟩
  | ref n =>
    cases r with
    | ref hn =>
      cases hs : st[n]? with
      | none => simp only [dicOf, hs] at h; cases h
      | some so =>
        obtain ⟨_, q⟩ := sr.obj n _ so hn hs
        cases so with
        | dic t' ks' vs' =>
          simp only [dicOf, hs] at h
          cases h
          cases q with
          | dic h1 k n k1 => obtain ⟨o, es, ep, kv, vv, r⟩ := raw_dK I h1 k k1; exact ⟨_, o, es, ep, kv, vv, rfl, r⟩
          | dit h1 k n k1 k2 => obtain ⟨o, es, ep, kv, vv, r⟩ := raw_dT I h1 k1 k2; exact ⟨_, o, es, ep, kv, vv, rfl, r⟩
        | _ => simp only [dicOf, hs] at h; cases h
  | _ => cases h
end

/-! ### list(x) -/
/-- the items of anything -/
def allOf (st : Store) (x : D) : Option (List D) := match dicOf st x with
  | some p => some p.2.1
  | none => (match x with
    | .str z => if z.length ≤ 16777216 then some (strItems z) else none
    | .scr ns => some (ns.map .int)
    | _ => seqOf st x)
def fListA (st : Store) (x : D) : Option D := (allOf st x).map .lst
def fListAR : FC := fun st ds => match ds with
  | [x] => (allOf st x).map fun es => (.ref st.length, st ++ [.lst es])
  | _ => none
theorem items_vals {P : Nat → Value → Prop} {acc : Array Value} {n : Nat} {vs : List V} (h : ItemsOf P acc n) (hl : vs.length = n) (hP : ∀ j u, P j u → ∃ x, vs[j]? = some x ∧ RelV x u) : Vals vs acc.toList :=
  vals_at (by rw [hl, ← h.1]; simp) fun j u hj => hP j u (h.2 j u (by rw [← Array.getElem?_toList]; exact hj))
section
variable {X : Cx}
/-- list of anything, the new list told -/
theorem list_any (hc : X.calm = true) {pins : List (Addr × Obj)} {σ : L2.St} {H F : Hp} {io : List Addr} {st : Store} {s : Shared} {v : V} {us : List Value} {x : D} {ds : List D} {Q : VK} (I : Inv X pins σ H s) (rv : Vals [v] us) (sr : SRel (cOf X) F io st H) (r : Rep (cOf X) io F v x) (h : allOf st x = some ds)
    (q : ∀ l xs, H l = none → Reps (cOf X) io F xs ds → Q (.ref l) (upd H l (.lst xs))) : wpAny (model X.prog X.w) X.A (call (.type "list") us) (EP X pins σ Q) X.xe s := by
  unfold allOf at h
  cases hd : dicOf st x with
  | some p =>
    rw [hd] at h
    cases h
    obtain ⟨t, ks, vs⟩ := p
    obtain ⟨a, o, es, ep, kv, vv, rfl, ho, hx, hdat, lo, hz, k1, k2, _⟩ := dic_raw I sr r hd
    rw [Vals.ref1 rv]
    have hl := k1.length
    simp only [List.length_map, Array.length_toList] at hl
    refine PySem.W.kdl_call (kdl_raw lo hx hdat) (I.ok.hd hc) ho hz fun h' tk acc' c' kp e it => ?_
    have hv : Vals kv acc'.toList := items_vals it hl fun j u hu => by
      obtain ⟨en, he, rfl⟩ := hu
      exact paired_get' k1 (i := j) (v := en.key) (by rw [List.getElem?_map, Array.getElem?_toList, he]; rfl)
    refine ⟨.ref s.heap.objs.size, _, I.laid (t' := tk) (o := .lst kv) kp (Nat.le_refl _) ⟨by rw [hl]; exact hz, acc'.toList, c', hv, by rw [Array.toArray_toList]; exact e⟩, rfl, q _ _ (I.hok.fresh (Nat.le_refl _)) k2⟩
  | none =>
    rw [hd] at h
    have old : ∀ {ds : List D}, seqOf st x = some ds → (∀ l xs, H l = none → Reps (cOf X) io F xs ds → Q (.ref l) (upd H l (.lst xs))) → wpAny (model X.prog X.w) X.A (call (.type "list") us) (EP X pins σ Q) X.xe s := fun {ds} h1 q => by
      obtain ⟨a, xs, rfl, h3, k1⟩ := seqOf_seq sr r h1
      exact call_list_of pins s σ H _ us Q I rv ⟨a, xs, rfl, h3, fun l hl => q l xs hl k1⟩
    cases x with
    | str z =>
      dsimp only at h
      split at h
      · rename_i hz
        cases h
        cases r
        obtain ⟨u, rfl, t, rfl⟩ := vals1 rv
        have hz2 : (strOf z).cps.size = z.length := by simp [strOf]
        refine call_list_str (hn := by rw [hz2, sizeLine_eq]; exact hz) (I.ok.hd hc) (strOf z) t fun h' tk acc' c' kp e it => ?_
        have hl : (z.map fun c => V.str ⟨#[c]⟩).length = (strOf z).cps.size := by rw [hz2, List.length_map]
        have hv : Vals (z.map fun c => V.str ⟨#[c]⟩) acc'.toList := items_vals it hl fun j u hu => by
          obtain ⟨c, t, h1, rfl⟩ := hu
          refine ⟨.str ⟨#[c]⟩, ?_, t, rfl⟩
          have : z[j]? = some c := by simpa [strOf] using h1
          rw [List.getElem?_map, this]; rfl
        exact ⟨.ref s.heap.objs.size, _, I.laid (t' := tk) (o := .lst (z.map fun c => V.str ⟨#[c]⟩)) kp (Nat.le_refl _) ⟨by rw [hl, hz2, sizeLine_eq]; exact hz, acc'.toList, c', hv, by rw [Array.toArray_toList]; exact e⟩, rfl, q _ _ (I.hok.fresh (Nat.le_refl _)) (Reps.chars z)⟩
      · cases h
    | scr ns =>
      cases h
      cases r with
      | scr h1 => exact call_list_of pins s σ H _ us Q I rv ⟨_, _, rfl, .inl (Sub.sqL sr.sub h1), fun l hl => q l _ hl (Reps.ints ns)⟩
    | tup _ => exact old h q
    | lst _ => exact old h q
    | ref _ => exact old h q
    | dic _ _ _ => exact old h q
    | non => exact old h q
    | bl _ => exact old h q
    | int _ => exact old h q
theorem c_listA (hc : X.calm = true) : CallR X (.type "list") (rC (cOf X) (pure1 fListA)) := cr1 fun pins s σ H x us Q F io st dx d I r sr r1 e q => by
  obtain ⟨ds, h1, e⟩ := Option.map_eq_some_iff.mp e
  cases e
  refine list_any hc I r sr r1 h1 fun l xs hl k1 => ?_
  obtain ⟨g, s2, r⟩ := fin_lst sr k1 hl
  exact q _ _ _ g s2 r
theorem c_listAR (hc : X.calm = true) : CallR X (.type "list") (rC (cOf X) fListAR) := by
  intro pins s σ H xs us Q I r hq
  obtain ⟨F, io, st, ds, d, st', sr, rs, e, q⟩ := hq
  match ds, rs, e with
  | [dx], .cons r1 .nil, e =>
    obtain ⟨es, h1, e⟩ := Option.map_eq_some_iff.mp e
    cases e
    refine list_any hc I r sr r1 h1 fun l xs hl k1 => ?_
    obtain ⟨g, s2, r⟩ := fin_lstR sr k1 hl
    exact q _ _ _ _ g s2 r
  | [], _, e => cases e
  | _ :: _ :: _, _, e => cases e
end

/-! ### sorted of a dict -/
section
variable {prog : Program} {w : World} {A : Around} {E : Value → Shared → Prop} {s : Shared}
theorem sorted_src {T : String} {r d : Addr} {n : Nat} {P : Nat → Value → Prop} {OK : Heap → Prop} {Q : Value → Shared → Prop} (K : PySem.W.KdlSrc prog w T r d n P OK) (hh : A.handled = none) (hok : OK s.heap) (hn : n ≤ sizeLine)
    (h : ∀ (h' : Heap) (tk : Nat) (acc : Array Value), (∀ b o, s.heap.get? b = some o → h'.get? b = some o) → ItemsOf P acc n →
      wpAny (model prog w) A.in1 (call (.builtin "list.sort") [.ref h'.objs.size]) (fun _ s' => Q (.ref h'.objs.size) s') E { s with heap := h'.push (seqObj "list" acc.toList.toArray 0), toks := tk }) :
    wpAny (model prog w) A (call (.builtin "sorted") [.ref r]) Q E s := by
  refine Calls.call_function_entry PyProof.Rows.kind_sorted PyProof.Rows.plain_sorted PyProof.Rows.entry_sorted (PyProof.Rows.args_sorted1 _) ?_
  unfold Builtin.«sorted»
  refine wpAny_bind (m := checkCount "sorted" 1 1 _) (wpAny_pure ?_)
  refine wpAny_bind (PySem.W.kdu_collect (A := A.in1) K hh hok hn fun h' tk acc hk hacc => ?_)
  refine wpAny_bind (wpAny_newList ?_ (by rw [Array.length_toList, hacc.1]; exact hn))
  refine wpAny_bind (wpAny_holding (wpAny_mono (h h' tk acc hk hacc) (fun _ s' x => ?_) fun _ _ e => e))
  exact wpAny_pure ⟨_, rfl, x⟩
end
/-- a new list at the heap's end is sorted -/
theorem sort_new {X : Cx} {pins : List (Addr × Obj)} {σ : L2.St} {H F : Hp} {io : List Addr} {st : Store} {s : Shared} {A : Around} {xs : List V} {its : List Value} {ds : List D} {Q : Value → Shared → Prop} {E : Value → Shared → Prop} (I : Inv X pins σ H s) (sr : SRel (cOf X) F io st H) (rv : Vals xs its) (k1 : Reps (cOf X) io F xs ds)
    (hu : A.units + 60 < cLine) (hok : sortOk ds = true)
    (h : ∀ (out : List Value) (ys : List V), Vals ys out → Reps (cOf X) io F ys (ds.mergeSort dle) → ys.length = ds.length → Q .none { s with heap := sortedHeap (s.heap.push (seqObj "list" its.toArray 0)) s.heap.objs.size its (List.toArray out) }) :
    wpAny (model X.prog X.w) A (call (.builtin "list.sort") [.ref s.heap.objs.size]) Q E { s with heap := s.heap.push (seqObj "list" its.toArray 0) } := by
  unfold sortOk at hok
  simp only [Bool.and_eq_true, decide_eq_true_eq, Bool.or_eq_true, List.all_eq_true] at hok
  obtain ⟨⟨⟨⟨o1, o2⟩, o3⟩, o4⟩, o5⟩ := hok
  have hlen := k1.length
  have hE := each_pairs (X := X) k1 rv
  have hzl : (xs.zip ds).length = ds.length := by rw [List.length_zip, hlen]; omega
  have hmem : ∀ p ∈ xs.zip ds, p.2 ∈ ds := fun p hp => (List.of_mem_zip hp).2
  have hread : PySem.W.EachIs (fun v (b : V × D) => ∃ as, Reads s.heap v (toPy b.2) as) its (xs.zip ds) := by
    have gen : ∀ {us : List Value} {ps : List (V × D)}, (∀ p ∈ ps, p.2 ∈ ds) → PySem.W.EachIs (fun u (p : V × D) => RelV p.1 u ∧ Rep (cOf X) io F p.1 p.2) us ps → PySem.W.EachIs (fun v (b : V × D) => ∃ as, Reads s.heap v (toPy b.2) as) us ps := by
      intro us ps hp he
      induction he with
      | nil => exact .nil
      | cons h t ih =>
        refine .cons ?_ (ih fun p hp' => hp p (List.mem_cons_of_mem _ hp'))
        exact Dp.reads I _ _ _ (h.2.dp sr.sub (pls_mem o1 _ (hp _ List.mem_cons_self))) h.1
    exact gen hmem hE
  have hal : ∀ x ∈ (xs.zip ds).map (fun b : V × D => toPy b.2), ∀ y ∈ (xs.zip ds).map (fun b : V × D => toPy b.2), PySem.W.alike x y = true := fun x hx y hy => by
    obtain ⟨p, hp, rfl⟩ := List.mem_map.mp hx
    obtain ⟨p', hp', rfl⟩ := List.mem_map.mp hy
    exact o3 _ (hmem p hp) _ (hmem p' hp')
  have hk : PySem.W.Sortable ((xs.zip ds).map fun b : V × D => toPy b.2) := by
    rcases o4 with o4 | o4
    · refine .inl fun x hx => ?_
      obtain ⟨p, hp, rfl⟩ := List.mem_map.mp hx
      have := o4 _ (hmem p hp)
      cases hp2 : p.2 with
      | tup es =>
        rw [hp2] at this
        cases es with
        | nil => cases this
        | cons z zs => exact ⟨_, _, rfl⟩
      | _ => rw [hp2] at this; cases this
    · refine .inr fun x hx => ?_
      obtain ⟨p, hp, rfl⟩ := List.mem_map.mp hx
      exact noTup_spec (o4 _ (hmem p hp)) (pls_mem o1 _ (hmem p hp))
  have ho : (s.heap.push (seqObj "list" its.toArray 0)).get? s.heap.objs.size = some (seqObj "list" its.toArray 0) := Heap.get?_push_size _ rfl
  have hr2 : PySem.W.EachIs (fun v (b : V × D) => ∃ as, Reads (PySem.W.sortingHeap (s.heap.push (seqObj "list" its.toArray 0)) s.heap.objs.size its) v (toPy b.2) as) its (xs.zip ds) :=
    hread.mono fun _ _ ⟨as, r⟩ => ⟨as, PyProof.Rows.Reads.keeps (fun b o e => PySem.W.sortingHeap_old (Nat.ne_of_lt (Heap.lt_size e)) (Heap.get?_push_of_some _ e)) r⟩
  refine wpAny_call_entry PyProof.Rows.slot_list_sort ⟨_, ho, rfl⟩ PyProof.Rows.entry_list_sort (PySem.W.list_sort_vals (s := { s with heap := s.heap.push (seqObj "list" its.toArray 0) })
    (κ := PySem.W.dataKind (PySem.W.sortingHeap (s.heap.push (seqObj "list" its.toArray 0)) s.heap.objs.size its) ((xs.zip ds).map fun b : V × D => toPy b.2)) ho
    (PySem.W.SortsAt.data (s := { s with heap := PySem.W.sortingHeap (s.heap.push (seqObj "list" its.toArray 0)) s.heap.objs.size its })
      (PySem.W.each_map (R := fun v d => ∃ as, Reads (PySem.W.sortingHeap (s.heap.push (seqObj "list" its.toArray 0)) s.heap.objs.size its) v d as) (fun b : V × D => toPy b.2) hr2) hal hk
      (PySem.W.bound_map fun b hb => ?_)) (by rw [hE.length, hzl, sizeLine_eq]; exact o5) ⟨.none, rfl, ?_⟩) (PyProof.Rows.args_list_sort _)
  · have h1 := deps_mem o2 _ (hmem b hb)
    have h2 := depth_toPy b.2
    show A.units + 1 + (toPy b.2).depth < cLine
    omega
  · obtain ⟨v1, v2⟩ := pairs_out (PySem.W.sortVals_data (R := fun u (p : V × D) => RelV p.1 u ∧ Rep (cOf X) io F p.1 p.2) false hE hr2 hal)
    have hsort : ((xs.zip ds).mergeSort (PySem.W.dataLe false fun b : V × D => toPy b.2)).map (·.2) = ds.mergeSort dle := by
      have hz2 : (xs.zip ds).map (·.2) = ds := by
        rw [List.map_snd_zip (by omega)]
      rw [List.map_mergeSort (f := fun p : V × D => p.2) (s := dle) (fun a _ b _ => by rfl), hz2]
    rw [hsort] at v2
    exact h _ _ v1 v2 (by rw [v2.length, List.length_mergeSort])
def fSortedA (st : Store) (x : D) : Option D := match dicOf st x with
  | some p => if sortOk p.2.1 = true then some (.lst (p.2.1.mergeSort dle)) else none
  | none => fSorted st x
section
variable {X : Cx}
/-- what the sorted list at the heap's end is -/
theorem sorted_fin {pins : List (Addr × Obj)} {σ : L2.St} {H F : Hp} {io : List Addr} {st : Store} {s : Shared} {its out : List Value} {ys : List V} {ds : List D} {Q : VK} (I : Inv X pins σ H s) (sr : SRel (cOf X) F io st H) (v1 : Vals ys out) (v2 : Reps (cOf X) io F ys ds) (hl : ys.length ≤ sizeLine)
    (q : ∀ (z : V) F' H', Grow F io H F' io H' → SRel (cOf X) F' io st H' → Rep (cOf X) io F' z (.lst ds) → Q z H') :
    EP X pins σ Q (.ref s.heap.objs.size) { s with heap := sortedHeap (s.heap.push (seqObj "list" its.toArray 0)) s.heap.objs.size its (List.toArray out) } := by
  have ho : (s.heap.push (seqObj "list" its.toArray 0)).get? s.heap.objs.size = some (seqObj "list" its.toArray 0) := Heap.get?_push_size _ rfl
  obtain ⟨ep, he⟩ := PyProof.Rows.sortedHeap_at (vs := its) (out := List.toArray out) ho
  have hfree := I.hok.fresh (Nat.le_refl s.heap.objs.size)
  obtain ⟨g, s2, r3⟩ := fin_lst (p := s.heap.objs.size) sr v2 hfree
  refine ⟨.ref _, upd H s.heap.objs.size (.lst ys), I.laid (t' := s.toks) (fun b u e => ?_) (Nat.le_refl _) ⟨hl, out, ep, v1, by simpa using he⟩, rfl, q _ _ _ g s2 r3⟩
  have hlt := Heap.lt_size e
  rw [PyProof.Rows.sortedHeap_old (Nat.ne_of_lt hlt) (by rw [Heap.size_push]; exact Nat.lt_succ_of_lt hlt)]
  exact Heap.get?_push_of_some _ e
theorem c_sortedA (hc : X.calm = true) (hu : X.A.units + 64 < cLine) : CallR X (.builtin "sorted") (rC (cOf X) (pure1 fSortedA)) := cr1 fun pins s σ H x us Q F io st dx d I r sr r1 e q => by
  unfold fSortedA at e
  cases hd : dicOf st dx with
  | none =>
    rw [hd] at e
    exact c_sorted hu pins s σ H [x] us Q I r ⟨F, io, st, [dx], d, st, sr, .one r1, by show (fSorted st dx).map _ = _; rw [show fSorted st dx = some d from e]; rfl, fun z F' io' H' g s2 r2 => by
      obtain ⟨m, hm⟩ := g.pre
      have hl : io'.length = io.length := by rw [s2.len, sr.len]
      have : io' = io := by
        rw [hm, List.length_append] at hl
        have : m = [] := List.length_eq_zero_iff.mp (by omega)
        rw [hm, this, List.append_nil]
      subst this
      exact q z F' H' g s2 r2⟩
  | some p =>
    rw [hd] at e
    obtain ⟨t, ks, vs⟩ := p
    dsimp only at e
    split at e
    · rename_i hok
      cases e
      obtain ⟨a, o, es, ep, kv, vv, rfl, ho, hx, hdat, lo, hz, k1, k2, _⟩ := dic_raw I sr r1 hd
      rw [Vals.ref1 r]
      have hl := k1.length
      simp only [List.length_map, Array.length_toList] at hl
      refine sorted_src (kdl_raw lo hx hdat) (I.ok.hd hc) ho hz fun h' tk acc kp it => ?_
      have hv : Vals kv acc.toList := items_vals it hl fun j u hu => by
        obtain ⟨en, he, rfl⟩ := hu
        exact paired_get' k1 (i := j) (v := en.key) (by rw [List.getElem?_map, Array.getElem?_toList, he]; rfl)
      have I1 : Inv X pins σ H { s with heap := h', toks := tk } := I.kept kp
      refine sort_new (s := { s with heap := h', toks := tk }) I1 sr hv k2 (by show X.A.units + 1 + 60 < cLine; omega) hok fun out ys v1 v2 hy => ?_
      refine sorted_fin (s := { s with heap := h', toks := tk }) I1 sr v1 v2 ?_ q
      rw [hy, ← k2.length, hl]; exact hz
    · cases e
end
end DL
set_option Elab.async false
set_option linter.all false
set_option maxRecDepth 100000
set_option maxHeartbeats 4000000
/-! DL13: dicts are made, written, read. -/
namespace DL
open PySem PySem.Spec PyProof.Rows L2

/-! ### keys of any kind -/
section
variable {X : Cx} {pins : List (Addr × Obj)} {σ : L2.St} {H F : Hp} {io : List Addr} {st : Store} {s : Shared}
mutual
theorem nest_is (I : Inv X pins σ H s) (sr : SRel (cOf X) F io st H) : ∀ {d : D} {v : V} {u : Value} {k : NestedKey}, Rep (cOf X) io F v d → RelV v u → nkey d = some k → NestedIs s.heap k u
  | .non, _, _, _, r, rv, h => by cases r; cases h; cases rv; exact .none
  | .bl b, _, _, _, r, rv, h => by cases r; cases h; cases rv; exact .bool rfl
  | .int i, _, _, _, r, rv, h => by cases r; cases h; obtain ⟨t, rfl⟩ := rv; exact .int i t
  | .str x, _, _, _, r, rv, h => by cases r; cases h; obtain ⟨t, rfl⟩ := rv; exact .text _ t
  | .tup ds, _, _, _, r, rv, h => by
    obtain ⟨ks, h1, rfl⟩ := Option.map_eq_some_iff.mp (show (nkeys ds).map NestedKey.tup = some _ from h)
    cases r with
    | tup h2 k1 =>
      cases rv
      obtain ⟨its, rv, p, hz⟩ := I.tuple (Sub.sqT sr.sub h2)
      have p' : s.heap.IsTuple _ its.toArray := p
      obtain ⟨o, e1, e2, n, e3⟩ := p'
      exact .tup e1 e2 e3 (by simpa using nests_are I sr k1 rv h1)
  | .lst _, _, _, _, _, _, h => by cases h
  | .dic _ _ _, _, _, _, _, _, h => by cases h
  | .ref _, _, _, _, _, _, h => by cases h
  | .scr _, _, _, _, _, _, h => by cases h
theorem nests_are (I : Inv X pins σ H s) (sr : SRel (cOf X) F io st H) : ∀ {ds : List D} {vs : List V} {us : List Value} {ks : List NestedKey}, Reps (cOf X) io F vs ds → Vals vs us → nkeys ds = some ks → NestedAll s.heap ks us
  | [], _, _, _, .nil, rv, h => by cases h; cases rv; exact .nil
  | d :: ds, _, _, _, .cons r k, rv, h => by
    cases rv with
    | cons rv rvs =>
      unfold nkeys at h
      obtain ⟨k1, h1, h⟩ := Option.bind_eq_some_iff.mp h
      obtain ⟨ks, h2, rfl⟩ := Option.map_eq_some_iff.mp h
      exact .cons (nest_is I sr r rv h1) (nests_are I sr k rvs h2)
end
end
theorem nkey_tup {d : D} {k : NestedKey} (h : nkey d = some k) {c : C} {io : List Addr} {F : Hp} {b : Addr} (r : Rep c io F (.ref b) d) : ∃ ks, k = .tup ks := by
  cases d with
  | tup ds => obtain ⟨ks, _, rfl⟩ := Option.map_eq_some_iff.mp (show (nkeys ds).map NestedKey.tup = some _ from h); exact ⟨ks, rfl⟩
  | non => cases r
  | bl _ => cases r
  | int _ => cases r
  | str _ => cases r
  | _ => cases h

/-! ### a place is written, read -/
section
variable {α : Type} [DecidableEq α]
def putG (f : D → Option α) (ks vs : List D) (i v : D) : List D × List D :=
  if (ks.any fun k => decide (f k = f i)) = true then (ks, List.zipWith (fun k x => if f k = f i then v else x) ks vs) else (ks ++ [i], vs ++ [v])
def getG (f : D → Option α) (ks vs : List D) (i : D) : Option D := ((ks.zip vs).find? fun p => decide (f p.1 = f i)).map (·.2)
def hasG (f : D → Option α) (ks : List D) (i : D) : Bool := ks.any fun k => decide (f k = f i)
theorem put_rel {c : C} {io : List Addr} {F : Hp} {β : Type} {f : D → Option α} {g : β → V} {h : β → β} {i dv : D} {k : α} {v : V} (hk : f i = some k) (rv : Rep c io F v dv) (hv : ∀ b, g (h b) = v) :
    ∀ {ks vs : List D} {kvs : List (α × β)}, ks.map f = kvs.map (fun p => some p.1) → Reps c io F (kvs.map fun p => g p.2) vs →
      Reps c io F ((kvs.map fun p => if p.1 = k then (p.1, h p.2) else p).map fun p => g p.2) (List.zipWith (fun q x => if f q = f i then dv else x) ks vs)
  | [], [], [], _, _ => .nil
  | q :: ks, x :: vs, p :: kvs, e, .cons r rs => by
    simp only [List.map_cons, List.cons.injEq] at e
    refine .cons ?_ (put_rel hk rv hv e.2 rs)
    show Rep c io F (g (if p.1 = k then (p.1, h p.2) else p).2) (if f q = f i then dv else x)
    rw [e.1, hk]
    by_cases hp : p.1 = k
    · rw [if_pos hp, if_pos (by rw [hp])]
      show Rep c io F (g (h p.2)) dv
      rw [hv]; exact rv
    · rw [if_neg hp, if_neg (fun z => hp (Option.some.inj z))]
      exact r
  | [], _ :: _, p :: _, e, _ => by cases e
  | _ :: _, _, [], e, _ => by cases e
  | [], _, _ :: _, e, _ => by cases e
theorem any_rel {β : Type} {f : D → Option α} {i : D} {k : α} (hk : f i = some k) : ∀ {ks : List D} {kvs : List (α × β)}, ks.map f = kvs.map (fun p => some p.1) → (ks.any fun q => decide (f q = f i)) = kvs.any fun p => decide (p.1 = k)
  | [], [], _ => rfl
  | q :: ks, p :: kvs, e => by
    simp only [List.map_cons, List.cons.injEq] at e
    rw [List.any_cons, List.any_cons, any_rel hk e.2, e.1, hk]
    congr 1
    simp
  | [], _ :: _, e => by cases e
  | _ :: _, [], e => by cases e
theorem get_rel {c : C} {io : List Addr} {F : Hp} {β : Type} {f : D → Option α} {g : β → V} {i : D} {k : α} (hk : f i = some k) :
    ∀ {ks vs : List D} {kvs : List (α × β)}, ks.map f = kvs.map (fun p => some p.1) → Reps c io F (kvs.map fun p => g p.2) vs → ∀ {d : D}, getG f ks vs i = some d →
      ∃ b, (kvs.find? fun p => decide (p.1 = k)).map (·.2) = some b ∧ Rep c io F (g b) d
  | [], [], [], _, _, d, h => by simp [getG] at h
  | q :: ks, x :: vs, p :: kvs, e, .cons r rs, d, h => by
    simp only [List.map_cons, List.cons.injEq] at e
    unfold getG at h
    rw [List.zip_cons_cons, List.find?_cons] at h
    rw [List.find?_cons]
    by_cases hp : p.1 = k
    · rw [decide_eq_true (by rw [e.1, hk, hp])] at h
      rw [decide_eq_true hp]
      cases h
      exact ⟨p.2, rfl, r⟩
    · rw [decide_eq_false (by rw [e.1, hk]; exact fun z => hp (Option.some.inj z))] at h
      rw [decide_eq_false hp]
      exact get_rel hk e.2 rs h
  | [], _ :: _, p :: _, e, _, _, _ => by cases e
  | _ :: _, _, [], e, _, _, _ => by cases e
  | [], _, _ :: _, e, _, _, _ => by cases e
end
/-- what a key is, by the kind of the dict -/
def roomK (ks : List D) : Bool := decide (ks.length < 16777216)
def shallow (k : NestedKey) : Bool := decide (k.depth ≤ 8)
def shK (d : D) : Bool := match nkey d with
  | some k => shallow k
  | none => false
def isTupD : D → Bool
  | .tup _ => true
  | _ => false
def putD (t : Bool) (ks vs : List D) (i v : D) : Option (List D × List D) := match t with
  | false => (match keyOf i with
    | some _ => if roomK ks = true then some (putG keyOf ks vs i v) else none
    | none => none)
  | true => (match nkey i with
    | some k => if (roomK ks && shallow k && isTupD i && ks.all shK) = true then some (putG nkey ks vs i v) else none
    | none => none)
def setD (st : Store) (o i v : D) : Option Store := match o with
  | .ref n => (match st[n]? with
    | some (.lst ds) => (match i with
      | .int k => (ixN ds.length k).map fun j => st.set n (.lst (ds.set j v))
      | _ => none)
    | some (.dic t ks vs) => (putD t ks vs i v).map fun p => st.set n (.dic t p.1 p.2)
    | _ => none)
  | _ => none
def rSetA (c : C) : TSet := fun o i v H Q => ∃ F io st dO di dv st', SRel c F io st H ∧ Rep c io F o dO ∧ Rep c io F i di ∧ Rep c io F v dv ∧ setD st dO di dv = some st' ∧
  ∀ H', Grow F io H F io H' → SRel c F io st' H' → Q H'
theorem nodup_put {κ : Type} [DecidableEq κ] (kvs : List (κ × V)) (k : κ) (v : V) (hn : (kvs.map (·.1)).Nodup) : ((putK kvs k v).map (·.1)).Nodup := by
  unfold putK
  split
  · rw [List.map_map]
    have : ((fun x => x.1) ∘ fun kv : κ × V => if kv.1 = k then (kv.1, v) else kv) = fun x => x.1 := by
      funext p
      simp only [Function.comp]
      split <;> rfl
    rw [this]; exact hn
  · rename_i h
    rw [List.map_append, List.nodup_append]
    refine ⟨hn, by simp, fun a ha b hb => ?_⟩
    have : b = k := by simpa using hb
    subst this
    intro e
    subst e
    apply h
    obtain ⟨p, hp, rfl⟩ := List.mem_map.mp ha
    exact List.any_eq_true.mpr ⟨p, hp, decide_eq_true rfl⟩
theorem dK_put {c : C} {io : List Addr} {F : Hp} {ks vs : List D} {kvs : List (Key × V)} {i dv : D} {k : Key} {v : V} (hk : keyOf i = some k) (e : ks.map keyOf = kvs.map (fun p => some p.1)) (nd : (kvs.map (·.1)).Nodup) (rs : Reps c io F (kvs.map (·.2)) vs) (rv : Rep c io F v dv) :
    (putG keyOf ks vs i dv).1.map keyOf = (putK kvs k v).map (fun p => some p.1) ∧ ((putK kvs k v).map (·.1)).Nodup ∧ Reps c io F ((putK kvs k v).map (·.2)) (putG keyOf ks vs i dv).2 := by
  refine ⟨?_, nodup_put kvs k v nd, ?_⟩
  · unfold putG putK
    rw [any_rel hk e]
    split
    · rw [e, List.map_map]
      apply List.map_congr_left
      intro p _
      simp only [Function.comp]
      split <;> rfl
    · simp [e, hk]
  · unfold putG putK
    rw [any_rel hk e]
    split
    · exact put_rel (g := fun x => x) (h := fun _ => v) hk rv (fun _ => rfl) e rs
    · rw [List.map_append]
      exact rs.append (.one rv)
def putT (kvs : List (NestedKey × Addr × V)) (k : NestedKey) (a : Addr) (v : V) : List (NestedKey × Addr × V) :=
  if (kvs.any fun p => decide (p.1 = k)) = true then kvs.map (fun p => if p.1 = k then (p.1, p.2.1, v) else p) else kvs ++ [(k, a, v)]
theorem nodup_putT (kvs : List (NestedKey × Addr × V)) (k : NestedKey) (a : Addr) (v : V) (hn : (kvs.map (·.1)).Nodup) : ((putT kvs k a v).map (·.1)).Nodup := by
  unfold putT
  split
  · rw [List.map_map]
    have : ((fun x => x.1) ∘ fun kv : NestedKey × Addr × V => if kv.1 = k then (kv.1, kv.2.1, v) else kv) = fun x => x.1 := by
      funext p
      simp only [Function.comp]
      split <;> rfl
    rw [this]; exact hn
  · rename_i h
    rw [List.map_append, List.nodup_append]
    refine ⟨hn, by simp, fun a ha b hb => ?_⟩
    have : b = k := by simpa using hb
    subst this
    intro e
    subst e
    apply h
    obtain ⟨p, hp, rfl⟩ := List.mem_map.mp ha
    exact List.any_eq_true.mpr ⟨p, hp, decide_eq_true rfl⟩
theorem dT_put {c : C} {io : List Addr} {F : Hp} {ks vs : List D} {kvs : List (NestedKey × Addr × V)} {i dv : D} {k : NestedKey} {b : Addr} {v : V} (hk : nkey i = some k) (e : ks.map nkey = kvs.map (fun p => some p.1)) (nd : (kvs.map (·.1)).Nodup) (rk : Reps c io F (kvs.map fun p => .ref p.2.1) ks) (rs : Reps c io F (kvs.map fun p => p.2.2) vs) (ri : Rep c io F (.ref b) i) (rv : Rep c io F v dv) :
    (putG nkey ks vs i dv).1.map nkey = (putT kvs k b v).map (fun p => some p.1) ∧ ((putT kvs k b v).map (·.1)).Nodup ∧ Reps c io F ((putT kvs k b v).map fun p => .ref p.2.1) (putG nkey ks vs i dv).1 ∧ Reps c io F ((putT kvs k b v).map fun p => p.2.2) (putG nkey ks vs i dv).2 := by
  refine ⟨?_, nodup_putT kvs k b v nd, ?_, ?_⟩
  · unfold putG putT
    rw [any_rel hk e]
    split
    · rw [e, List.map_map]
      apply List.map_congr_left
      intro p _
      simp only [Function.comp]
      split <;> rfl
    · simp [e, hk]
  · unfold putG putT
    rw [any_rel hk e]
    split
    · rw [List.map_map]
      have : ((fun p : NestedKey × Addr × V => V.ref p.2.1) ∘ fun p : NestedKey × Addr × V => if p.1 = k then (p.1, p.2.1, v) else p) = fun p => V.ref p.2.1 := by
        funext p
        simp only [Function.comp]
        split <;> rfl
      rw [this]; exact rk
    · rw [List.map_append]
      exact rk.append (.one ri)
  · unfold putG putT
    rw [any_rel hk e]
    split
    · exact put_rel (g := fun x : Addr × V => x.2) (h := fun x => (x.1, v)) hk rv (fun _ => rfl) e rs
    · rw [List.map_append]
      exact rs.append (.one rv)
theorem zip_entries {P : Program} {w : World} : ∀ {kvs : List (NestedKey × Addr × V)} {l : List DictEntry}, Paired (fun (p : NestedKey × Addr × V) (e : DictEntry) => e.hash = p.1.hash w ∧ e.key = .ref p.2.1 ∧ RelV p.2.2 e.val) kvs l →
    l = ((kvs.zip l).map fun q => (q.1.1, q.1.2.1, q.2.val)).map (entryOfKey (nestedKind P w)) ∧ ((kvs.zip l).map fun q => (q.1.1, q.1.2.1, q.2.val)).map (·.1) = kvs.map (·.1) ∧
      Paired (fun (p : NestedKey × Addr × V) (x : NestedKey × Addr × Value) => p.1 = x.1 ∧ p.2.1 = x.2.1 ∧ RelV p.2.2 x.2.2) kvs ((kvs.zip l).map fun q => (q.1.1, q.1.2.1, q.2.val))
  | [], [], _ => ⟨rfl, rfl, .nil⟩
  | p :: ps, q :: qs, .cons r t => by
    obtain ⟨i1, i2, i3⟩ := zip_entries (P := P) t
    obtain ⟨r1, r2, r3⟩ := r
    obtain ⟨qh, qk, qv⟩ := q
    simp only at r1 r2 r3
    subst r1 r2
    refine ⟨?_, ?_, ?_⟩
    · rw [List.zip_cons_cons, List.map_cons, List.map_cons, ← i1]; rfl
    · rw [List.zip_cons_cons, List.map_cons, List.map_cons, i2]; rfl
    · rw [List.zip_cons_cons, List.map_cons]
      exact .cons ⟨rfl, rfl, r3⟩ i3
theorem sh_all {ks : List D} {kvs : List (NestedKey × Addr × V)} (e : ks.map nkey = kvs.map (fun p => some p.1)) (h : ks.all shK = true) : ∀ p ∈ kvs, shallow p.1 = true := fun p hp => by
  obtain ⟨j, hj⟩ := List.mem_iff_getElem?.mp hp
  have h1 : (ks.map nkey)[j]? = some (some p.1) := by rw [e, List.getElem?_map, hj]; rfl
  rw [List.getElem?_map] at h1
  obtain ⟨d, hd, he⟩ := Option.map_eq_some_iff.mp h1
  have h2 := List.all_eq_true.mp h d (List.mem_of_getElem? hd)
  unfold shK at h2
  rw [he] at h2
  exact h2
section
variable {X : Cx}
/-- the library's word for a dict with nested keys -/
theorem dT_ofH {pins : List (Addr × Obj)} {σ : L2.St} {H F : Hp} {io : List Addr} {st : Store} {s : Shared} {a : Addr} {kvs : List (NestedKey × Addr × V)} {ks : List D} (I : Inv X pins σ H s) (sr : SRel (cOf X) F io st H) (h : H a = some (dT X.w a kvs)) (e : ks.map nkey = kvs.map (fun p => some p.1)) (nd : (kvs.map (·.1)).Nodup) (rk : Reps (cOf X) io F (kvs.map fun p => .ref p.2.1) ks) (hsh : ∀ p ∈ kvs, shallow p.1 = true) :
    (a == sysModules) = false ∧ kvs.length ≤ sizeLine ∧ ∃ xs : List (NestedKey × Addr × Value), s.heap.DictOfH (nestedKind X.prog X.w) a xs ∧ Paired (fun (p : NestedKey × Addr × V) (x : NestedKey × Addr × Value) => p.1 = x.1 ∧ p.2.1 = x.2.1 ∧ RelV p.2.2 x.2.2) kvs xs := by
  obtain ⟨⟨o, es, ep, ho, hx, hd, lo, z, pr⟩, _⟩ := (show ObjOk X.prog X.w H s.heap a (dT X.w a kvs) from I.hok a _ h)
  obtain ⟨z1, z2, z3⟩ := zip_entries (P := X.prog) pr
  refine ⟨lo, z, _, ⟨o, es, ep, ho, hx, hd, z1, ?_, by rw [z2]; exact nd⟩, z3⟩
  intro x hx
  obtain ⟨q, hq, rfl⟩ := List.mem_map.mp hx
  have hp : q.1 ∈ kvs := (List.of_mem_zip hq).1
  obtain ⟨j, hj⟩ := List.mem_iff_getElem?.mp hp
  have h1 : (kvs.map fun p => V.ref p.2.1)[j]? = some (V.ref q.1.2.1) := by rw [List.getElem?_map, hj]; rfl
  obtain ⟨d, hd2, rd⟩ := rk.get' h1
  have h2 : nkey d = some q.1.1 := by
    have : (ks.map nkey)[j]? = some (nkey d) := by rw [List.getElem?_map, hd2]; rfl
    rw [e, List.getElem?_map, hj] at this
    exact (Option.some.inj this).symm
  exact ⟨nest_is I sr rd rfl h2, of_decide_eq_true (hsh _ hp)⟩
theorem dTAt_of {w : World} {h : Heap} {a : Addr} {kvs : List (NestedKey × Addr × V)} {xs : List (NestedKey × Addr × Value)} {P : Program} (x : h.DictOfH (nestedKind P w) a xs) (lo : (a == sysModules) = false) (hz : kvs.length ≤ sizeLine)
    (r : Paired (fun (p : NestedKey × Addr × V) (x : NestedKey × Addr × Value) => p.1 = x.1 ∧ p.2.1 = x.2.1 ∧ RelV p.2.2 x.2.2) kvs xs) : DTAt w a kvs h := by
  obtain ⟨o, es, ep, ho, hx, hd, he, h1, h2⟩ := x
  refine ⟨o, es, ep, ho, hx, hd, lo, hz, ?_⟩
  rw [he]
  clear hd he hz h1 h2
  induction r with
  | nil => exact .nil
  | @cons p q ps qs r t ih =>
    rw [List.map_cons]
    refine .cons ⟨?_, ?_, r.2.2⟩ ih
    · show q.1.hash w = p.1.hash w
      rw [r.1]
    · show Value.ref q.2.1 = Value.ref p.2.1
      rw [r.2.1]
theorem ext_ok {P : Program} {w : World} {H : Hp} {h : Heap} {a : Addr} {kvs : List (NestedKey × Addr × V)} (x : DTAt w a kvs h) : ObjOk P w H h a (dT w a kvs) := by
  have ⟨o, _, _, ho, _⟩ := x
  exact ⟨x, ⟨o, ho⟩, fun h1 h2 y k => let ⟨o, es, ep, ho, r⟩ := y; ⟨o, es, ep, k o ho, r⟩⟩
theorem stored_rel {kvs : List (NestedKey × Addr × V)} {xs : List (NestedKey × Addr × Value)} {k : NestedKey} {b : Addr} {v : V} {u : Value} (rv : RelV v u)
    (r : Paired (fun (p : NestedKey × Addr × V) (x : NestedKey × Addr × Value) => p.1 = x.1 ∧ p.2.1 = x.2.1 ∧ RelV p.2.2 x.2.2) kvs xs) : Paired (fun (p : NestedKey × Addr × V) (x : NestedKey × Addr × Value) => p.1 = x.1 ∧ p.2.1 = x.2.1 ∧ RelV p.2.2 x.2.2) (putT kvs k b v) (storedH xs k b u) := by
  have hany : (kvs.any fun p => decide (p.1 = k)) = (atKey xs k).isSome := by
    clear rv
    induction r with
    | nil => rfl
    | @cons p q ps qs r t ih =>
      rw [List.any_cons, ih]
      unfold atKey
      rw [List.find?_cons, r.1]
      by_cases hq : q.1 = k
      · rw [decide_eq_true hq]; rfl
      · rw [decide_eq_false hq]; rfl
  unfold putT storedH
  rw [hany]
  split
  · clear hany
    induction r with
    | nil => exact .nil
    | @cons p q ps qs r t ih =>
      rw [List.map_cons, List.map_cons]
      rename_i hs
      refine .cons ?_ ?_
      · unfold putAt
        rw [r.1]
        split
        · exact ⟨rfl, r.2.1, rv⟩
        · exact r
      · clear ih hs
        induction t with
        | nil => exact .nil
        | @cons p q ps qs r t ih =>
          rw [List.map_cons, List.map_cons]
          refine .cons ?_ ih
          unfold putAt
          rw [r.1]
          split
          · exact ⟨rfl, r.2.1, rv⟩
          · exact r
  · rename_i hno
    clear hany hno
    induction r with
    | nil => exact .cons ⟨rfl, rfl, rv⟩ .nil
    | cons r t ih => exact .cons r ih
theorem set_any (hu : X.A.units + 64 < cLine) : PSet X (rSetA (cOf X)) := by
  intro pins s σ H o i v ov iv u Q I ro ri rv h
  obtain ⟨F, io, st, dO, di, dv, st', sr, r1, r2, r3, e, q⟩ := h
  unfold setD at e
  cases dO with
  | ref n =>
    cases r1 with
    | ref hn =>
      rename_i a
      cases hs : st[n]? with
      | none => simp only [hs] at e; cases e
      | some so =>
        obtain ⟨z1, z2⟩ := sr.obj n a so hn hs
        have hmem := List.mem_of_getElem? hn
        cases so with
        | lst ds =>
          simp only [hs] at e
          cases di with
          | int k =>
            obtain ⟨j, h3, e⟩ := Option.map_eq_some_iff.mp e
            cases e
            cases r2
            cases z2 with
            | lst e1 k1 =>
              rename_i xs
              refine set_list pins s σ H (.ref a) (.int k) v ov iv u Q I ro ri rv ⟨a, xs, k, j, rfl, rfl, e1, by rw [k1.length]; exact h3, ?_⟩
              exact q _ (Grow.write hmem) (sr.write hn (so := .lst (ds.set j dv)) (.lst upd_same (Reps.set r3 j k1)))
          | _ => cases e
        | dic t ks vs =>
          simp only [hs] at e
          obtain ⟨p, h3, e⟩ := Option.map_eq_some_iff.mp e
          cases e
          cases t with
          | false =>
            unfold putD at h3
            cases hk : keyOf di with
            | none => rw [hk] at h3; cases h3
            | some k =>
              rw [hk] at h3
              dsimp only at h3
              split at h3
              · rename_i hroom
                cases h3
                cases z2 with
                | dic e1 ek nd rs =>
                  rename_i kvs
                  have hkv := key_V hk r2
                  subst hkv
                  cases ro
                  obtain ⟨p1, p2, p3⟩ := dK_put (v := v) hk ek nd rs r3
                  have hl : kvs.length < sizeLine := by
                    have h1 := congrArg List.length ek
                    rw [List.length_map, List.length_map] at h1
                    have h2 := of_decide_eq_true hroom
                    rw [sizeLine_eq]; omega
                  refine d_setItem (by omega) I (DPut.k (v := v) e1 hl) ri rv fun s' I' => ⟨_, I', q _ (Grow.write hmem) (sr.write hn (so := .dic false _ _) (.dic upd_same p1 p2 p3))⟩
              · cases h3
          | true =>
            unfold putD at h3
            cases hk : nkey di with
            | none => rw [hk] at h3; cases h3
            | some k =>
              rw [hk] at h3
              dsimp only at h3
              split at h3
              · rename_i hroom
                cases h3
                simp only [Bool.and_eq_true] at hroom
                obtain ⟨⟨⟨hr1, hr2⟩, hr3⟩, hr4⟩ := hroom
                cases z2 with
                | dit e1 ek nd rk rs =>
                  rename_i kvs
                  cases di with
                  | tup ds =>
                    cases r2 with
                    | tup h2 k2 =>
                      rename_i b xs2
                      have r2 : Rep (cOf X) io F (.ref b) (.tup ds) := .tup h2 k2
                      cases ro
                      cases ri
                      obtain ⟨lo, hz, xs, hD, hP⟩ := dT_ofH I sr e1 ek nd rk (sh_all ek hr4)
                      obtain ⟨p1, p2, p3, p4⟩ := dT_put (v := v) hk ek nd rk rs r2 r3
                      have hl : xs.length ≤ sizeLine := by rw [← Paired.length hP]; exact hz
                      have hlp : (putT kvs k b v).length ≤ sizeLine := by
                        have h1 := congrArg List.length ek
                        rw [List.length_map, List.length_map] at h1
                        have h2 := of_decide_eq_true hr1
                        rw [sizeLine_eq]
                        unfold putT
                        split
                        · rw [List.length_map]; omega
                        · rw [List.length_append, List.length_singleton]; omega
                      refine wpAny_setItem_heap (knd := nestedKind X.prog X.w) (hsz := hl) (by show X.A.units + 1 + 8 < cLine; omega) ⟨nest_is I sr r2 rfl hk, of_decide_eq_true hr2⟩ hD fun h' hD' sb => ?_
                      have hAt : DTAt X.w a (putT kvs k b v) h' := dTAt_of hD' lo hlp (stored_rel rv hP)
                      have ⟨o', _, _, ho', _⟩ := hAt
                      refine ⟨_, d_write (t' := s.toks + (nestedKind X.prog X.w).draws k) I (by rw [e1]; trivial) sb ⟨o', ho'⟩ (ext_ok (H := upd H a (dT X.w a (putT kvs k b v))) hAt), q _ (Grow.write hmem) (sr.write hn (so := .dic true _ _) (.dit upd_same p1 p2 p3 p4))⟩
                  | _ => cases hr3
              · cases h3
        | ins _ _ _ => simp only [hs] at e; cases e
  | _ => cases e
/-- o[i] = v -/
def gSub (dO dI : Den) : DenG := fun d env st => (dO env st).bind fun p => (dI env p.2).bind fun q => (setD q.2 p.1 q.1 d).map fun st' => (env, st')
variable {o i : Expr} {pos : Pos} {da db : Den}
theorem dg_sub {vs : List Nat} (hu : X.A.units + 64 < cLine) (ho : DE X o da) (hi : DE X i db) (ha : ∀ v, assign (.Subscript o i pos) X.env v = (do
      let ov ← holding [v] (eval o X.env)
      let iv ← holding [v, ov] (eval i X.env)
      standAt pos
      holding [v, ov, iv] (setItem ov iv v)
      release [v, ov, iv] []) := by intro _; rfl) : DG X vs (.Subscript o i pos) (gSub da db) := by
  refine PG.imp (pg_sub ho hi (set_any hu) ha) fun v σ H Q h => ?_
  obtain ⟨F, io, env, st, d, env', st', hh, r, e, q⟩ := h
  obtain ⟨⟨x, st1⟩, h1, e⟩ := Option.bind_eq_some_iff.mp e
  obtain ⟨⟨y, st2⟩, h2, e⟩ := Option.bind_eq_some_iff.mp e
  obtain ⟨st3, h3, e⟩ := Option.map_eq_some_iff.mp e
  cases e
  refine ⟨F, io, env, st, x, st1, hh, h1, fun v1 F1 io1 H1 g1 s1 r1 => ?_⟩
  refine ⟨F1, io1, env, st1, y, st2, hh.grow g1 s1, h2, fun v2 F2 io2 H2 g2 s2 r2 => ?_⟩
  refine ⟨F2, io2, st2, x, y, d, _, s2, r1.grow g2, r2, r.grow (g1.trans g2), h3, fun H' g3 s3 => ?_⟩
  exact q σ F2 io2 H' (g1.trans (g2.trans g3)) ⟨s3, ((hh.e.grow g1).grow g2).grow g3⟩ rfl

/-! ### {} -/
def dDict0 : Den := fun _ st => some (.dic false [] [], st)
def dDict0R (t : Bool) : Den := fun _ st => some (.ref st.length, st ++ [.dic t [] []])
theorem de_dict0 : DE X (.Dict [] [] pos) dDict0 := by
  refine PE.imp pe_dnewK fun σ H Q h => ?_
  obtain ⟨F, io, env, st, d, st', hh, e, q⟩ := h
  cases e
  intro p hp
  exact q _ _ _ _ (Grow.alloc hh.s hp) (hh.s.alloc hp) (.dic (kvs := []) upd_same rfl .nil .nil)
theorem de_dict0K : DE X (.Dict [] [] pos) (dDict0R false) := by
  refine PE.imp pe_dnewK fun σ H Q h => ?_
  obtain ⟨F, io, env, st, d, st', hh, e, q⟩ := h
  cases e
  intro p hp
  refine q _ _ _ _ (Grow.store hh.s hp) (hh.s.store hp (so := .dic false [] []) (.dic (kvs := []) upd_same rfl .nil .nil)) (.ref (by rw [← hh.s.len]; simp))
theorem de_dict0T : DE X (.Dict [] [] pos) (dDict0R true) := ⟨fun pins s σ H Q I h => by
  obtain ⟨F, io, env, st, d, st', hh, e, q⟩ := h
  cases e
  have hp := I.hok.fresh (Nat.le_refl s.heap.objs.size)
  have lo : (s.heap.objs.size == sysModules) = false := beq_eq_false_iff_ne.mpr (Ne.symm (Nat.ne_of_lt I.big))
  have hAt : DTAt X.w s.heap.objs.size [] (s.heap.push { cls := .type "dict", data := .dict #[] }) := ⟨_, #[], 0, Heap.get?_push_size _ rfl, ⟨rfl, rfl, rfl⟩, rfl, lo, Nat.zero_le _, .nil⟩
  exact wpAny_Dict_empty ⟨.ref s.heap.objs.size, _, I.laid (a := s.heap.objs.size) (o := dT X.w s.heap.objs.size []) (t' := s.toks) (fun _ _ q => Heap.get?_push_of_some _ q) (Nat.le_refl _) (ext_ok hAt), rfl,
    q _ _ _ _ (Grow.store hh.s hp) (hh.s.store hp (so := .dic true [] []) (.dit (kvs := []) upd_same rfl .nil .nil .nil)) (.ref (by rw [← hh.s.len]; simp))⟩⟩
end
end DL
set_option Elab.async false
set_option linter.all false
set_option maxRecDepth 100000
set_option maxHeartbeats 4000000
/-! DLZ: zip(x, y, strict=True), of two sources of one length. -/
namespace DL
open PySem PySem.Spec PyProof.Rows L2

abbrev IsZipS (h : Heap) (z TI TO : Addr) (f0 : Value) : Prop := h.get? z = some { cls := .type "zip", data := .fields #[f0, .bool false, .bool true, .ref TI, .ref TO] }
section
variable {prog : Program} {w : World} {A : Around} {E : Value → Shared → Prop} {s : Shared} {z TI TO i1 i2 : Addr} {fp1 fp2 : List Addr} {n i : Nat} {P1 P2 : Nat → Value → Prop} {St1 St2 : Nat → Heap → Prop} {a1 a2 : Value}
theorem nextOrEnd_item {it : Addr} {fp : List Addr} {P : Nat → Value → Prop} {St : Nat → Heap → Prop} {Q : Option Value → Shared → Prop} (D : Draws prog w A it fp n P St) (hi : i < n) (st : St i s.heap)
    (hQ : ∀ x h' tk, P i x → St (i + 1) h' → Heap.SameBut it s.heap h' → Q (some x) { s with heap := h', toks := tk }) : wpAny (model prog w) A (Builtin.SmallTypes.nextOrEnd (.ref it)) Q E s := by
  unfold Builtin.SmallTypes.nextOrEnd
  exact wpAny_bind (wpAny_attempt (D.item i s _ _ hi st fun x h' tk hx st' hs => wpAny_pure (hQ x h' tk hx st' hs)))
theorem nextOrEnd_end {it : Addr} {fp : List Addr} {P : Nat → Value → Prop} {St : Nat → Heap → Prop} {Q : Option Value → Shared → Prop} (D : Draws prog w A it fp n P St) (st : St n s.heap)
    (hQ : ∀ h', Heap.ExtBut it s.heap h' → Q none { s with heap := h' }) : wpAny (model prog w) A (Builtin.SmallTypes.nextOrEnd (.ref it)) Q E s := by
  unfold Builtin.SmallTypes.nextOrEnd
  refine wpAny_bind (wpAny_attempt (D.done s _ _ st fun h' e he hx => ?_))
  obtain ⟨o, ho, hc⟩ := hx
  refine wpAny_bind (wpAny_isInstance (T := "StopIteration") (b := true) ⟨o, ho, hc⟩ isSubtype_stop ?_)
  exact wpAny_pure (hQ h' he)
theorem zipS_item {Q : Value → Shared → Prop} (S : ZipSep2 z TI TO i1 i2 fp1 fp2) (D1 : Draws prog w A i1 fp1 n P1 St1) (D2 : Draws prog w A i2 fp2 n P2 St2)
    (hz : IsZipS s.heap z TI TO .none) (hTI : IsTupOf2 s.heap TI (.ref i1) (.ref i2)) (hTO : IsTupOf2 s.heap TO a1 a2) (st1 : St1 i s.heap) (st2 : St2 i s.heap) (hlt : i < n)
    (hQ : ∀ x1 x2 h' tk, P1 i x1 → P2 i x2 → IsZipS h' z TI TO (rawInt s.heap.objs.size) → IsTupOf2 h' TO x1 x2 → St1 (i + 1) h' → St2 (i + 1) h' → IsTupOf2 h' s.heap.objs.size x1 x2 → h'.objs.size = s.heap.objs.size + 1 →
      (∀ c o, c ≠ z → c ≠ TO → c ≠ i1 → c ≠ i2 → s.heap.get? c = some o → h'.get? c = some o) → Q (.ref s.heap.objs.size) { s with heap := h', toks := tk }) :
    wpAny (model prog w) A (Builtin.«zip.__next__» ⟨[.ref z], []⟩) (fun fin s' => ∃ v, fin = .done (.ret v) ∧ Q v s') E s := by
  obtain ⟨hp, g, d, tk0, os⟩ := s
  show wpAny _ _ (field (.ref z) 2 >>= _) _ _ _
  refine wpAny_bind (wpAny_field hz rfl (x := .bool true) rfl ?_)
  show wpAny _ _ (field (.ref z) 3 >>= _) _ _ _
  refine wpAny_bind (wpAny_field hz rfl (x := .ref TI) rfl ?_)
  refine wpAny_bind (wpAny_seqItems hTI rfl ?_)
  show wpAny _ _ (Builtin.SmallTypes.ownedTupleIsFree (.ref z) >>= _) _ _ _
  refine wpAny_bind ?_
  unfold Builtin.SmallTypes.ownedTupleIsFree
  refine wpAny_bind (wpAny_field hz rfl (x := .none) rfl (wpAny_pure ?_))
  simp only [if_true]
  refine wpAny_bind (wpAny_rule ?_)
  refine wpAny_bind (wpAny_field hz rfl (x := .ref TO) rfl ?_)
  refine wpAny_bind (wpAny_setField_rec hz (by simp) fun g0 hz0 hs0 => ?_)
  replace hz0 : IsZipS g0 z TI TO .ellipsis := hz0
  replace hs0 : Heap.SameBut z hp g0 := hs0
  refine wpAny_bind ?_
  simp only [List.zipIdx_cons, List.zipIdx_nil, List.forIn_cons, List.forIn_nil]
  refine wpAny_bind (wpAny_bind (wpAny_onRaise ?_))
  show wpAny _ _ (Builtin.SmallTypes.nextOrEnd (.ref i1)) _ _ ⟨g0, g, d, tk0, os⟩
  refine nextOrEnd_item D1 hlt (D1.over st1 hs0 S.zf1) fun x1 p1 tk1 hx1 sn1 hp1 => ?_
  replace hp1 : Heap.SameBut i1 g0 p1 := hp1
  have hU1 : IsTupOf2 p1 TO a1 a2 := hp1.extBut _ _ S.Ti1 (hs0.extBut _ _ S.TOz hTO)
  refine wpAny_bind (wpAny_seqItems (s := ⟨p1, g, d, tk1, os⟩) hU1 rfl ?_)
  refine wpAny_bind (updateSeq_IsTupOf2 (s := ⟨p1, g, d, tk1, os⟩) hU1 fun g1 hT1 hs1 => ?_)
  replace hT1 : IsTupOf2 g1 TO x1 a2 := hT1
  replace hs1 : Heap.SameBut TO p1 g1 := hs1
  refine wpAny_bind (wpAny_letGo (wpAny_pure ?_))
  refine wpAny_bind (wpAny_bind (wpAny_onRaise ?_))
  show wpAny _ _ (Builtin.SmallTypes.nextOrEnd (.ref i2)) _ _ ⟨g1, g, d, tk1, os⟩
  refine nextOrEnd_item D2 hlt (D2.over (D2.over (D2.over st2 hs0 S.zf2) hp1 S.sep1_2) hs1 S.Tf2) fun x2 p2 tk2 hx2 sn2 hp2 => ?_
  replace hp2 : Heap.SameBut i2 g1 p2 := hp2
  have hU2 : IsTupOf2 p2 TO x1 a2 := hp2.extBut _ _ S.Ti2 hT1
  refine wpAny_bind (wpAny_seqItems (s := ⟨p2, g, d, tk2, os⟩) hU2 rfl ?_)
  refine wpAny_bind (updateSeq_IsTupOf2 (s := ⟨p2, g, d, tk2, os⟩) hU2 fun g2 hT2 hs2 => ?_)
  replace hT2 : IsTupOf2 g2 TO x1 x2 := hT2
  replace hs2 : Heap.SameBut TO p2 g2 := hs2
  refine wpAny_bind (wpAny_letGo (wpAny_pure (wpAny_pure ?_)))
  refine wpAny_bind (wpAny_seqItems (s := ⟨g2, g, d, tk2, os⟩) hT2 rfl ?_)
  refine wpAny_bind (wpAny_newTuple ?_)
  have hsz : g2.objs.size = hp.objs.size := by rw [hs2.1, hp2.1, hs1.1, hp1.1, hs0.1]
  have hzz : IsZipS g2 z TI TO .ellipsis := (hs2.extBut _ _ S.TOz.symm (hp2.extBut _ _ S.zi2 (hs1.extBut _ _ S.TOz.symm (hp1.extBut _ _ S.zi1 hz0))))
  have hkk : ∀ c o, c ≠ z → c ≠ TO → c ≠ i1 → c ≠ i2 → hp.get? c = some o → g2.get? c = some o := fun c o cz cT c1 c2 e =>
    (hs2.extBut _ _ cT (hp2.extBut _ _ c2 (hs1.extBut _ _ cT (hp1.extBut _ _ c1 (hs0.extBut _ _ cz e)))))
  have hj1 : St1 (i + 1) g2 := (D1.over (D1.over (D1.over sn1 hs1 S.Tf1) hp2 S.sep2_1) hs2 S.Tf1)
  have hj2 : St2 (i + 1) g2 := (D2.over sn2 hs2 S.Tf2)
  have hzlt : z < g2.objs.size := Heap.lt_size hzz
  show wpAny _ _ (Builtin.SmallTypes.ownedTupleHandOut (.ref z) (.ref g2.objs.size) >>= _) _ _ ⟨g2.push { cls := .type "tuple", data := .seq #[x1, x2] }, g, d, tk2, os⟩
  refine wpAny_bind ?_
  unfold Builtin.SmallTypes.ownedTupleHandOut
  have hz₆ : IsZipS (g2.push { cls := .type "tuple", data := .seq #[x1, x2] }) z TI TO .ellipsis := Heap.get?_push_of_some _ hzz
  refine wpAny_bind (wpAny_setField_rec hz₆ (by simp) fun h₇ hz₇ hs₇ => ?_)
  replace hz₇ : IsZipS h₇ z TI TO (rawInt g2.objs.size) := hz₇
  refine wpAny_setField_rec hz₇ (by simp) fun h₈ hz₈ hs₈ => ?_
  replace hz₈ : IsZipS h₈ z TI TO (rawInt g2.objs.size) := hz₈
  replace hs₇ : Heap.SameBut z (g2.push { cls := .type "tuple", data := .seq #[x1, x2] }) h₇ := hs₇
  replace hs₈ : Heap.SameBut z h₇ h₈ := hs₈
  have up : ∀ c o, c ≠ z → g2.get? c = some o → h₈.get? c = some o := fun c o c1 e => hs₈.extBut _ _ c1 (hs₇.extBut _ _ c1 (Heap.get?_push_of_some _ e))
  have hT₈ : IsTupOf2 h₈ g2.objs.size x1 x2 := hs₈.extBut _ _ (Nat.ne_of_gt hzlt) (hs₇.extBut _ _ (Nat.ne_of_gt hzlt) (Heap.get?_push_size _ rfl))
  have hz8 : h₈.objs.size = g2.objs.size + 1 := by rw [hs₈.1, hs₇.1, Heap.size_push]
  rw [hsz] at hz₈ hT₈ hz8
  refine wpAny_pure ⟨_, rfl, ?_⟩
  show Q (.ref g2.objs.size) ⟨h₈, g, d, tk2, os⟩
  rw [hsz]
  exact hQ x1 x2 h₈ tk2 hx1 hx2 hz₈ (up _ _ S.TOz hT2) (D1.frame _ _ _ hj1 fun b hb o e => up b o (fun q => S.zf1 (q ▸ hb)) e) (D2.frame _ _ _ hj2 fun b hb o e => up b o (fun q => S.zf2 (q ▸ hb)) e) hT₈ hz8 fun c o cz cT c1 c2 e => up c o cz (hkk c o cz cT c1 c2 e)
theorem zipS_end {Q : PySem.Fin → Shared → Prop} (hh : A.handled = none) (S : ZipSep2 z TI TO i1 i2 fp1 fp2) (D1 : Draws prog w A i1 fp1 n P1 St1) (D2 : Draws prog w A i2 fp2 n P2 St2)
    (hz : IsZipS s.heap z TI TO .none) (hTI : IsTupOf2 s.heap TI (.ref i1) (.ref i2)) (hTO : IsTupOf2 s.heap TO a1 a2) (st1 : St1 n s.heap) (st2 : St2 n s.heap)
    (hE : ∀ h' tk e, (∀ c o, c ≠ z → c ≠ TO → c ≠ i1 → c ≠ i2 → s.heap.get? c = some o → h'.get? c = some o) → (∃ o, h'.get? e = some o ∧ o.cls = .type "StopIteration") → E (.ref e) { s with heap := h', toks := tk }) :
    wpAny (model prog w) A (Builtin.«zip.__next__» ⟨[.ref z], []⟩) Q E s := by
  obtain ⟨hp, g, d, tk0, os⟩ := s
  show wpAny _ _ (field (.ref z) 2 >>= _) _ _ _
  refine wpAny_bind (wpAny_field hz rfl (x := .bool true) rfl ?_)
  show wpAny _ _ (field (.ref z) 3 >>= _) _ _ _
  refine wpAny_bind (wpAny_field hz rfl (x := .ref TI) rfl ?_)
  refine wpAny_bind (wpAny_seqItems hTI rfl ?_)
  show wpAny _ _ (Builtin.SmallTypes.ownedTupleIsFree (.ref z) >>= _) _ _ _
  refine wpAny_bind ?_
  unfold Builtin.SmallTypes.ownedTupleIsFree
  refine wpAny_bind (wpAny_field hz rfl (x := .none) rfl (wpAny_pure ?_))
  simp only [if_true]
  refine wpAny_bind (wpAny_rule ?_)
  refine wpAny_bind (wpAny_field hz rfl (x := .ref TO) rfl ?_)
  refine wpAny_bind (wpAny_setField_rec hz (by simp) fun g0 hz0 hs0 => ?_)
  replace hz0 : IsZipS g0 z TI TO .ellipsis := hz0
  replace hs0 : Heap.SameBut z hp g0 := hs0
  refine wpAny_bind ?_
  simp only [List.zipIdx_cons, List.zipIdx_nil, List.forIn_cons, List.forIn_nil]
  refine wpAny_bind (wpAny_bind (wpAny_onRaise ?_))
  show wpAny _ _ (Builtin.SmallTypes.nextOrEnd (.ref i1)) _ _ ⟨g0, g, d, tk0, os⟩
  refine nextOrEnd_end D1 (D1.over st1 hs0 S.zf1) fun p1 hp1 => ?_
  replace hp1 : Heap.ExtBut i1 g0 p1 := hp1
  have hz1 : IsZipS p1 z TI TO .ellipsis := hp1 _ _ S.zi1 hz0
  refine wpAny_bind (wpAny_setField_rec (s := ⟨p1, g, d, tk0, os⟩) hz1 (by simp) fun g1 hz1' hs1 => ?_)
  replace hs1 : Heap.SameBut z p1 g1 := hs1
  have st2' : St2 n g1 := by
    have h0 := D2.over st2 hs0 S.zf2
    refine D2.frame _ _ _ h0 fun b hb o e => ?_
    exact hs1.extBut _ _ (fun q => S.zf2 (q ▸ hb)) (hp1 _ _ (fun q => S.sep1_2 (q ▸ hb)) e)
  refine wpAny_bind ?_
  refine wpAny_bind ?_
  rw [show (List.drop 1 [Value.ref i1, Value.ref i2]).zipIdx 1 = [(Value.ref i2, 1)] from rfl, List.forIn_cons]
  refine wpAny_bind ?_
  show wpAny _ _ (Builtin.SmallTypes.nextOrEnd (.ref i2) >>= _) _ _ ⟨g1, g, d, tk0, os⟩
  refine wpAny_bind (nextOrEnd_end (s := ⟨g1, g, d, tk0, os⟩) D2 st2' fun p2 hp2 => ?_)
  replace hp2 : Heap.ExtBut i2 g1 p2 := hp2
  rw [if_neg (by simp)]
  refine wpAny_pure ?_
  simp only [List.forIn_nil]
  refine wpAny_pure ?_
  refine wpAny_bind (wpAny_rule ?_)
  have hk : ∀ c o, c ≠ z → c ≠ TO → c ≠ i1 → c ≠ i2 → hp.get? c = some o → p2.get? c = some o := fun c o cz cT c1 c2 e =>
    hp2 _ _ c2 (hs1.extBut _ _ cz (hp1 _ _ c1 (hs0.extBut _ _ cz e)))
  unfold Builtin.SmallTypes.stopIteration
  show wpAny _ _ (newExc (.type "StopIteration") [] >>= _) _ _ _
  refine wpAny_bind ?_
  simp only [newExc, newTuple]
  refine wpAny_bind (wpAny_newObj_type ?_ (by size_fits))
  refine wpAny_bind (m := firstArgMember _ _) (wpAny_of_eq (a := Value.none) (by first | rfl | (simp only [firstArgMember]; rfl)) ?_)
  refine wpAny_newObj_type ?_ (by size_fits)
  simp only [raiseNew]
  refine wpAny_bind (wpAny_handled ?_)
  rw [hh]
  refine wpAny_bind (wpAny_pure (wpAny_throw ?_))
  exact hE _ tk0 _ (fun c o cz cT c1 c2 e => Heap.get?_push_of_some _ (Heap.get?_push_of_some _ (hk c o cz cT c1 c2 e))) ⟨_, Heap.get?_push_size _ rfl, rfl⟩
theorem next_zipS_item {Q : Option Value → Shared → Prop} (S : ZipSep2 z TI TO i1 i2 fp1 fp2) (D1 : Draws prog w A.in1 i1 fp1 n P1 St1) (D2 : Draws prog w A.in1 i2 fp2 n P2 St2)
    (hz : IsZipS s.heap z TI TO .none) (hTI : IsTupOf2 s.heap TI (.ref i1) (.ref i2)) (hTO : IsTupOf2 s.heap TO a1 a2) (st1 : St1 i s.heap) (st2 : St2 i s.heap) (hlt : i < n)
    (hQ : ∀ x1 x2 h' tk, P1 i x1 → P2 i x2 → IsZipS h' z TI TO (rawInt s.heap.objs.size) → IsTupOf2 h' TO x1 x2 → St1 (i + 1) h' → St2 (i + 1) h' → IsTupOf2 h' s.heap.objs.size x1 x2 → h'.objs.size = s.heap.objs.size + 1 →
      (∀ c o, c ≠ z → c ≠ TO → c ≠ i1 → c ≠ i2 → s.heap.get? c = some o → h'.get? c = some o) → Q (some (.ref s.heap.objs.size)) { s with heap := h', toks := tk }) :
    wpAny (model prog w) A (pyNext (.ref z)) Q E s := by
  have hT : s.TypeIs (.ref z) "zip" := ⟨_, hz, rfl⟩
  unfold pyNext
  exact wpAny_bind (wpAny_attempt (wpAny_callSpecial?_slot (name := Str.ofString "__next__") hT F.slot_zip_next
    (wpAny_call_entry F.slot_zip_next hT F.entry_zip_next
      (zipS_item S D1 D2 hz hTI hTO st1 st2 hlt fun x1 x2 h' tk y1 y2 b1 b2 d1 d2 b5 b6 b7 => wpAny_pure (hQ x1 x2 h' tk y1 y2 b1 b2 d1 d2 b5 b6 b7)) (F.args_zip_next_1 _))))
theorem next_zipS_end {Q : Option Value → Shared → Prop} (hh : A.handled = none) (S : ZipSep2 z TI TO i1 i2 fp1 fp2) (D1 : Draws prog w A.in1 i1 fp1 n P1 St1) (D2 : Draws prog w A.in1 i2 fp2 n P2 St2)
    (hz : IsZipS s.heap z TI TO .none) (hTI : IsTupOf2 s.heap TI (.ref i1) (.ref i2)) (hTO : IsTupOf2 s.heap TO a1 a2) (st1 : St1 n s.heap) (st2 : St2 n s.heap)
    (hQ : ∀ h' tk, (∀ c o, c ≠ z → c ≠ TO → c ≠ i1 → c ≠ i2 → s.heap.get? c = some o → h'.get? c = some o) → Q none { s with heap := h', toks := tk }) : wpAny (model prog w) A (pyNext (.ref z)) Q E s := by
  have hT : s.TypeIs (.ref z) "zip" := ⟨_, hz, rfl⟩
  unfold pyNext
  refine wpAny_bind (wpAny_attempt (wpAny_callSpecial?_slot (name := Str.ofString "__next__") hT F.slot_zip_next
    (wpAny_call_entry F.slot_zip_next hT F.entry_zip_next (zipS_end (A := A.in1) hh S D1 D2 hz hTI hTO st1 st2 fun h' tk e hk he => ?_) (F.args_zip_next_1 _))))
  obtain ⟨o, ho, hc⟩ := he
  refine wpAny_bind (wpAny_isInstance (T := "StopIteration") (b := true) ⟨o, ho, hc⟩ isSubtype_stop ?_)
  exact wpAny_pure (hQ _ _ hk)
theorem goS {elts : List Expr} {x1 : Nat} {pos : Pos} {T : Addr} {Q : Unit → Shared → Prop} (hz : IsZipS s.heap z TI TO (rawInt T))
    (hQ : ∀ h', IsZipS h' z TI TO .none → Heap.SameBut z s.heap h' → Q () { s with heap := h' }) :
    wpAny (model prog w) A (letOwnedTupleGo (.Tuple elts x1 pos) (.ref z) (.ref T)) Q E s := by
  unfold letOwnedTupleGo
  refine wpAny_bind (wpAny_load hz ?_)
  show wpAny _ _ (if (["enumerate", "zip", "dict_itemiterator", "dict_reverseitemiterator", "odict_iterator", "itertools.zip_longest", "itertools.pairwise"].contains "zip" &&
      (#[rawInt T, .bool false, .bool true, .ref TI, .ref TO] : Array Value)[0]? == some (rawInt T)) = true then _ else _) Q E s
  rw [if_pos (by simp)]
  refine wpAny_bind (wpAny_rule ?_)
  show wpAny _ _ (setField (.ref z) 0 .none) Q E s
  exact wpAny_setField_rec hz (by simp) fun h' hz' hs' => hQ h' hz' hs'
theorem iterS {f0 : Value} {Q : Value → Shared → Prop} (hz : IsZipS s.heap z TI TO f0) (h : Q (.ref z) s) : wpAny (model prog w) A (pyIter (.ref z)) Q E s := by
  have hT : s.TypeIs (.ref z) "zip" := ⟨_, hz, rfl⟩
  refine wpAny_pyIter_slot hT F.slot_zip_iter (wpAny_call_entry F.slot_zip_iter hT F.entry_zip_iter ?_ (F.args_zip_iter_1 _))
  show wpAny _ _ (ret (.ref z)) _ _ s
  exact wpAny_pure ⟨_, rfl, "zip", _, hT, F.slot_zip_next.lookup, h⟩
end
/-- the items of two sources of one length, in new pairs -/
def ItZS (K : PySem.W.Frag) (k1 k2 : Sk) : It :=
  ⟨fun i H => ∃ (xs ys : List V) (x y : V), k1.at K H xs ∧ k2.at K H ys ∧ xs[i]? = some x ∧ ys[i]? = some y ∧ xs.length = ys.length,
    fun i H v H' => ∃ T x y, v = .ref T ∧ H T = none ∧ H' = upd H T (.tup [x, y]) ∧ (∀ xs, k1.at K H xs → xs[i]? = some x) ∧ ∀ ys, k2.at K H ys → ys[i]? = some y,
    fun i H => ∃ xs ys : List V, k1.at K H xs ∧ k2.at K H ys ∧ xs.length = i ∧ ys.length = i⟩
theorem turn_zipS {P : Program} {w : World} {K : PySem.W.Frag} {elts : List Expr} {kk : Nat} {tpos : Pos} {k1 k2 : Sk} {N z TI TO i1 i2 : Addr} (hN1 : k1.lo N) (hN2 : k2.lo N) (D : ZApart N z TI TO i1 i2) :
    Turn P w K (.Tuple elts kk tpos) (ItZS K k1 k2) [z, TI, TO, i1, i2] z (fun i h => IsZipS h z TI TO .none ∧ IsTupOf2 h TI (.ref i1) (.ref i2) ∧ (∃ x y, IsTupOf2 h TO x y) ∧ k1.tn i1 i h ∧ k2.tn i2 i h) where
  mem := by simp
  obj := fun i h st c hc => by
    obtain ⟨hz, hTI, ⟨x, y, hTO⟩, t1, t2⟩ := st
    have e' : c = z ∨ c = TI ∨ c = TO ∨ c = i1 ∨ c = i2 := by simpa using hc
    rcases e' with q | q | q | q | q
    · rw [q]; exact ⟨_, hz, fun v q => nomatch q⟩
    · rw [q]; exact ⟨_, hTI, fun v q => nomatch q⟩
    · rw [q]; exact ⟨_, hTO, fun v q => nomatch q⟩
    · rw [q]; exact Sk.tn_obj t1
    · rw [q]; exact Sk.tn_obj t2
  keep := fun i h h' st k => by
    obtain ⟨hz, hTI, ⟨x, y, hTO⟩, h1, h2⟩ := st
    exact ⟨k z (by simp) _ hz, k TI (by simp) _ hTI, ⟨x, y, k TO (by simp) _ hTO⟩, Sk.tn_at h1 fun o q => k i1 (by simp) o q, Sk.tn_at h2 fun o q => k i2 (by simp) o q⟩
  item := by
    intro X hP hw hK hc i pins s σ H E I hf st hg
    subst hP hw hK
    obtain ⟨hz, hTI, ⟨x0, y0, hTO⟩, t1, t2⟩ := st
    obtain ⟨xs, ys, x, y, hqx, hqy, hx, hy, hlen⟩ := hg
    obtain ⟨fp1, St1, D1, s1, b1, m1, f1⟩ := Sk.draws I hqx hN1 D.h1 t1 X.A.in1 (I.ok.hd hc)
    obtain ⟨fp2, St2, D2, s2, b2, m2, f2⟩ := Sk.draws I hqy hN2 D.h2 t2 X.A.in1 (I.ok.hd hc)
    have l1 : i < xs.length := (List.getElem?_eq_some_iff.mp hx).1
    rw [← hlen] at D2
    have S := D.sep m1 m2 f1 f2
    refine next_zipS_item S D1 D2 hz hTI hTO s1 s2 l1 fun u1 u2 h' tk hp1 hp2 hz' hTO' s1' s2' hT2 hsz hk => ?_
    obtain ⟨x', hx', r1⟩ := hp1
    obtain ⟨y', hy', r2⟩ := hp2
    rw [hx] at hx'
    cases hx'
    rw [hy] at hy'
    cases hy'
    have hzl : z < s.heap.objs.size := Heap.lt_size hz
    refine ⟨_, rfl, goS (s := { s with heap := h', toks := tk }) hz' fun h'' z'' sb => ?_⟩
    have hT3 : IsTupOf2 h'' s.heap.objs.size u1 u2 := (sb.2 _ (Nat.ne_of_gt hzl)).trans hT2
    have new : ObjOk X.prog X.w (upd H s.heap.objs.size (.tup [x, y])) h'' s.heap.objs.size (.tup [x, y]) :=
      ⟨by show 2 ≤ sizeLine; decide, [u1, u2], .cons r1 (.cons r2 .nil), ⟨_, hT3, rfl, _, rfl⟩⟩
    have hold : ∀ b o, b ∉ [z, TI, TO, i1, i2] → s.heap.get? b = some o → h''.get? b = some o := fun b o hb q =>
      (sb.2 b (fun q' => hb (by simp [q']))).trans (hk b o (fun q' => hb (by simp [q'])) (fun q' => hb (by simp [q'])) (fun q' => hb (by simp [q'])) (fun q' => hb (by simp [q'])) q)
    have I1 : Inv X pins σ (upd H s.heap.objs.size (.tup [x, y])) { s with heap := h'', toks := tk } := I.turnedNew (ch := [z, TI, TO, i1, i2]) hold hf (Nat.le_refl _) new
    refine ⟨.ref s.heap.objs.size, _, I1, rfl, ⟨_, x, y, rfl, I.hok.fresh (Nat.le_refl _), rfl, fun l hl => by rw [Sk.inj I hqx hl]; exact hx, fun l hl => by rw [Sk.inj I hqy hl]; exact hy⟩, ⟨z'', ?_, ⟨u1, u2, ?_⟩, ?_, ?_⟩, fun c hcm => ?_⟩
    · exact (sb.2 _ S.TIz).trans (hk _ _ S.TIz S.TITO S.TIi1 S.TIi2 hTI)
    · exact (sb.2 _ S.TOz).trans hTO'
    · exact Sk.tn_at (b1 _ _ s1') fun o q => (sb.2 _ S.zi1.symm).trans q
    · exact Sk.tn_at (b2 _ _ s2') fun o q => (sb.2 _ S.zi2.symm).trans q
    · have hlt : c < s.heap.objs.size := by
        have e' : c = z ∨ c = TI ∨ c = TO ∨ c = i1 ∨ c = i2 := by simpa using hcm
        rcases e' with q | q | q | q | q
        · rw [q]; exact hzl
        · rw [q]; exact Heap.lt_size hTI
        · rw [q]; exact Heap.lt_size hTO
        · rw [q]; obtain ⟨_, e1, _⟩ := Sk.tn_obj t1; exact Heap.lt_size e1
        · rw [q]; obtain ⟨_, e2, _⟩ := Sk.tn_obj t2; exact Heap.lt_size e2
      rw [upd_ne (Nat.ne_of_lt hlt)]
      exact (hf c hcm).1
  done := by
    intro X hP hw hK hc i pins s σ H E I hf st hg
    subst hP hw hK
    obtain ⟨hz, hTI, ⟨x0, y0, hTO⟩, t1, t2⟩ := st
    obtain ⟨xs, ys, hqx, hqy, e1, e2⟩ := hg
    obtain ⟨fp1, St1, D1, s1, b1, m1, f1⟩ := Sk.draws I hqx hN1 D.h1 t1 X.A.in1 (I.ok.hd hc)
    obtain ⟨fp2, St2, D2, s2, b2, m2, f2⟩ := Sk.draws I hqy hN2 D.h2 t2 X.A.in1 (I.ok.hd hc)
    rw [e1] at D1
    rw [e2] at D2
    exact next_zipS_end (I.ok.hd hc) (D.sep m1 m2 f1 f2) D1 D2 hz hTI hTO s1 s2 fun h' tk hk => ⟨rfl, I.turnedL (t' := tk) (ch := [z, TI, TO, i1, i2]) (fun c o hb q =>
      hk c o (fun q' => hb (by simp [q'])) (fun q' => hb (by simp [q'])) (fun q' => hb (by simp [q'])) (fun q' => hb (by simp [q'])) q) hf⟩
  self := fun A i s Q E st h => iterS st.1 h

/-! ### the call -/
theorem typeCall_zipS (a b c : Value) : checkTypeCall "zip" ⟨[a, b], [(Str.ofString "strict", c)]⟩ = pure () := by kernel_rfl
theorem newCall_zipS (a b c : Value) : checkBuiltinCall "zip.__new__" ⟨[.type "zip", a, b], [(Str.ofString "strict", c)]⟩ = pure () := by kernel_rfl
theorem init_zipS (obj a b c : Value) : argsOk "object.__init__" ⟨[obj, a, b], [(Str.ofString "strict", c)]⟩ := by unfold argsOk; kernel_rfl
abbrev zsZ (h : Heap) (o1 o2 : Obj) : Heap := (gzO2 h o1 o2).push { cls := .type "zip", data := .fields #[.none, .bool false, .bool true, .ref ((h.push o1).push o2).objs.size, .ref (gzT2 h o1 o2).objs.size] }
set_option maxHeartbeats 8000000 in
theorem meets_zipS {v1 v2 : Value} {o1 o2 : Obj} {H1 H2 : Heap → Prop} (B1 : Begins v1 o1 H1) (B2 : Begins v2 o2 H2) :
    Meets (Builtin.«zip.__new__» ⟨[.type "zip", v1, v2], [(Str.ofString "strict", .bool true)]⟩) (fun _ R s => (H1 s.heap ∧ H2 s.heap) ∧
      R (.ok (.ret (.ref (gzO2 s.heap o1 o2).objs.size))) { s with heap := zsZ s.heap o1 o2 }) :=
  .of_wp fun prog w A R s h => by
    obtain ⟨hp, g, d, tk, os⟩ := s; obtain ⟨⟨h1, h2⟩, h⟩ := h
    have hsub := sub_zip
    have q1 : ∀ {A' : Around} {E : Value → Shared → Prop} {Q : Value → Shared → Prop}, Q (.ref hp.objs.size) ⟨(hp.push o1), g, d, tk, os⟩ → wpAny (model prog w) A' (pyIter v1) Q E ⟨hp, g, d, tk, os⟩ :=
      fun q => B1.iter prog w _ _ ⟨hp, g, d, tk, os⟩ _ (B1.keeps _ _ h1 fun b o' e => e) q
    have q2 : ∀ {A' : Around} {E : Value → Shared → Prop} {Q : Value → Shared → Prop}, Q (.ref (hp.push o1).objs.size) ⟨((hp.push o1).push o2), g, d, tk, os⟩ → wpAny (model prog w) A' (pyIter v2) Q E ⟨(hp.push o1), g, d, tk, os⟩ :=
      fun q => B2.iter prog w _ _ ⟨(hp.push o1), g, d, tk, os⟩ _ (B2.keeps _ _ h2 fun b o' e => (Heap.get?_push_of_some _ e)) q
    have e1 : (Str.ofString "strict" == ("strict" : Str)) = true := by decide +kernel
    have e2 : (Str.ofString "strict" != ("strict" : Str)) = false := by decide +kernel
    wp_walk using q1, q2, wpAny_truthy_bool
    exact ⟨_, rfl, h⟩
section
variable {prog : Program} {w : World} {A : Around} {E : Value → Shared → Prop} {s : Shared}
theorem zipS_begins {v1 v2 : Value} {o1 o2 : Obj} {H1 H2 : Heap → Prop} {Q : Value → Shared → Prop} (B1 : Begins v1 o1 H1) (B2 : Begins v2 o2 H2) (h1 : H1 s.heap) (h2 : H2 s.heap)
    (h : ∀ h', IsZipS h' (s.heap.objs.size + 4) (s.heap.objs.size + 2) (s.heap.objs.size + 3) .none → IsTupOf2 h' (s.heap.objs.size + 2) (.ref s.heap.objs.size) (.ref (s.heap.objs.size + 1)) →
      IsTupOf2 h' (s.heap.objs.size + 3) .none .none → h'.get? s.heap.objs.size = some o1 → h'.get? (s.heap.objs.size + 1) = some o2 → h'.objs.size = s.heap.objs.size + 5 →
      (∀ c o, s.heap.get? c = some o → h'.get? c = some o) → Q (.ref (s.heap.objs.size + 4)) { s with heap := h' }) :
    wpAny (model prog w) A (call (.type "zip") [v1, v2] [(Str.ofString "strict", .bool true)]) Q E s := by
  refine callType_newKw F.called_zip (by decide) (typeCall_zipS _ _ _) (newCall_zipS _ _ _) (fun obj => init_zipS obj _ _ _) F.entry_zip_new (meets_zipS B1 B2) ⟨⟨h1, h2⟩, ?_⟩
  have z1 : (s.heap.push o1).objs.size = s.heap.objs.size + 1 := by rw [Heap.size_push]
  have z2 : ((s.heap.push o1).push o2).objs.size = s.heap.objs.size + 2 := by rw [Heap.size_push, z1]
  have zT : (gzT2 s.heap o1 o2).objs.size = s.heap.objs.size + 3 := by rw [Heap.size_push, z2]
  have zO : (gzO2 s.heap o1 o2).objs.size = s.heap.objs.size + 4 := by rw [Heap.size_push, zT]
  have zZ : (zsZ s.heap o1 o2).objs.size = s.heap.objs.size + 5 := by rw [Heap.size_push, zO]
  have gZ : (zsZ s.heap o1 o2).get? (gzO2 s.heap o1 o2).objs.size = some { cls := .type "zip", data := .fields #[.none, .bool false, .bool true, .ref ((s.heap.push o1).push o2).objs.size, .ref (gzT2 s.heap o1 o2).objs.size] } := Heap.get?_push_size _ rfl
  have gO : (zsZ s.heap o1 o2).get? (gzT2 s.heap o1 o2).objs.size = some { cls := .type "tuple", data := .seq #[.none, .none] } := Heap.get?_push_of_some _ (Heap.get?_push_size _ rfl)
  have gT : (zsZ s.heap o1 o2).get? ((s.heap.push o1).push o2).objs.size = some { cls := .type "tuple", data := .seq #[.ref s.heap.objs.size, .ref (s.heap.push o1).objs.size] } := Heap.get?_push_of_some _ (Heap.get?_push_of_some _ (Heap.get?_push_size _ rfl))
  have g1 : (zsZ s.heap o1 o2).get? s.heap.objs.size = some o1 := Heap.get?_push_of_some _ (Heap.get?_push_of_some _ (Heap.get?_push_of_some _ (Heap.get?_push_of_some _ (Heap.get?_push_size _ B1.free))))
  have g2 : (zsZ s.heap o1 o2).get? (s.heap.push o1).objs.size = some o2 := Heap.get?_push_of_some _ (Heap.get?_push_of_some _ (Heap.get?_push_of_some _ (Heap.get?_push_size _ B2.free)))
  rw [zO, zT, z2] at gZ
  rw [zT] at gO
  rw [z2, z1] at gT
  rw [z1] at g2
  show _ ∧ _
  rw [zO]
  exact ⟨⟨_, gZ, rfl⟩, h _ gZ gT gO g1 g2 zZ fun c o e => Heap.get?_push_of_some _ (Heap.get?_push_of_some _ (Heap.get?_push_of_some _ (Heap.get?_push_of_some _ (Heap.get?_push_of_some _ e))))⟩
end
section
variable {M : Model} {A : Around} {E : Value → Shared → Prop} {s : Shared} {env : PySem.Env}
theorem callWith_typeKw {pos : Pos} {T : String} {e : Expr} {rest : List Expr} {kws : List Keyword} {Q : Value → Shared → Prop}
    (h : wpAny M A (spliced (backTo pos (starEach (e :: rest) env))) (fun vs s₁ => wpAny M A (evalAll ((backToKw pos (keywordEach kws env)).map (·.2)))
      (fun kvs s₂ => wpAny M A (call (.type T) vs (((backToKw pos (keywordEach kws env)).filterMap (·.1)).zip kvs)) Q E s₂) E s₁) E s)
    (he : backTo pos (starEach (e :: rest) env) = (false, eval e env) :: backTo pos (starEach rest env))
    (hplain : (backTo pos (starEach (e :: rest) env)).any (·.1) = false)
    (hall : (backToKw pos (keywordEach kws env)).all (·.1.isSome) = true)
    (hkw : (backToKw pos (keywordEach kws env)).any (·.1.isNone) = false) :
    wpAny M A (callWith pos (.type T) [] (backTo pos (starEach (e :: rest) env)) (backToKw pos (keywordEach kws env))) Q E s := by
  unfold callWith
  refine wpAny_bind (wpAny_holding (wpAny_mono (Q := fun (a : Args) s₁ => wpAny M A (call (.type T) a.pos a.kw) Q E s₁) ?_ (fun a s₁ h₁ => wpAny_bind (wpAny_standAt ?_)) fun _ _ x => x))
  · rw [he] at h ⊢
    exact evalArgs_kwB hall h
  · simp only [hplain, hkw, Bool.or_false]
    refine wpAny_bind (wpAny_pure ?_)
    exact wpAny_bind (wpAny_mono h₁ (fun r s₂ hr => wpAny_bind (wpAny_holding (wpAny_point (wpAny_pure hr)))) fun _ _ x => x)
end
def iZipSK (K : PySem.W.Frag) (ta : TA) : TI := fun σ H R => ta σ H fun vs H1 => ∃ v1 v2 f1 f2, vs = [v1, v2] ∧ SkV v1 f1 ∧ SkV v2 f2 ∧ ∀ t u, ∃ xs ys, (f1 t).at K H1 xs ∧ (f2 u).at K H1 ys ∧ R (ItZS K (f1 t) (f2 u)) H1
section
variable {X : Cx} {e e2 : Expr} {ta : TA} {p pos tpos kp cp : Pos} {elts : List Expr} {kk ck : Nat}
theorem pi_zipS (hg : Gl X "zip") (hm : X.mg "zip" = none) (ha : PA X [e, e2] ta)
    (he : backTo pos (starEach [e, e2] X.env) = (false, eval e X.env) :: backTo pos (starEach [e2] X.env) := by rfl) (hpl : (backTo pos (starEach [e, e2] X.env)).any (·.1) = false := by rfl)
    (hall : (backToKw pos (keywordEach [⟨some "strict", .Constant (.bool true) ck cp, kp⟩] X.env)).all (·.1.isSome) = true := by rfl) (hnone : (backToKw pos (keywordEach [⟨some "strict", .Constant (.bool true) ck cp, kp⟩] X.env)).any (·.1.isNone) = false := by rfl)
    (hks : (backToKw pos (keywordEach [⟨some "strict", .Constant (.bool true) ck cp, kp⟩] X.env)).filterMap (·.1) = [Str.ofString "strict"] := by rfl) :
    PI X (.Tuple elts kk tpos) (.Call (.Name "zip" p) [e, e2] [⟨some "strict", .Constant (.bool true) ck cp, kp⟩] pos) (iZipSK X.K ta) := by
  refine ⟨fun pins s σ H R I h => ?_⟩
  refine wpAny_Call_Name_kw (ld_blt I hg hm PyProof.Rows.boot_zip ?_)
  refine callWith_typeKw (thn (ha.run pos pins s σ H _ I h) fun us s1 ⟨vs, H1, I1, r1, q1⟩ => ?_) he hpl hall hnone
  have hk : PK X [⟨some "strict", .Constant (.bool true) ck cp, kp⟩] (tCons (tC (.bl true)) tNil) := pk_cons pe_bl pk_nil
  refine thn (hk.run pos pins s1 σ H1 (fun zs H2 => zs = [.bl true] ∧ H2 = H1) I1 ⟨rfl, rfl⟩) fun ws s2 ⟨zs, H2, I2, r2, ez, eH⟩ => ?_
  subst ez eH
  rw [hks]
  have ew : ws = [Value.bool true] := by
    cases r2 with
    | cons a b => cases b; cases a; rfl
  subst ew
  obtain ⟨v1, v2, g1, g2, ex, kf1, kf2, q⟩ := q1
  subst ex
  cases r1 with
  | cons r rr =>
    cases rr with
    | cons r' rr =>
      cases rr
      obtain ⟨t, rfl⟩ := kf1.of r
      obtain ⟨u, rfl⟩ := kf2.of r'
      obtain ⟨xs, ys, q1, q2, q3⟩ := q t u
      obtain ⟨Hc1, B1, h1, hN1⟩ := Sk.begins I2 q1
      obtain ⟨Hc2, B2, h2, hN2⟩ := Sk.begins I2 q2
      refine zipS_begins B1 B2 h1 h2 fun h' hz hTI hTO e1 e2 hsz hk => iterS hz ?_
      have I3 : Inv X pins σ _ { s2 with heap := h' } := I2.kept (t' := s2.toks) hk
      have fresh5 : ∀ c, c ∈ [s2.heap.objs.size + 4, s2.heap.objs.size + 2, s2.heap.objs.size + 3, s2.heap.objs.size, s2.heap.objs.size + 1] → FpOk X pins _ c := fun c hcm => by
        have e' : c = s2.heap.objs.size + 4 ∨ c = s2.heap.objs.size + 2 ∨ c = s2.heap.objs.size + 3 ∨ c = s2.heap.objs.size ∨ c = s2.heap.objs.size + 1 := by simpa using hcm
        have hle : s2.heap.objs.size ≤ c := by
          rcases e' with z | z | z | z | z <;> rw [z]
          · exact Nat.le_add_right _ _
          · exact Nat.le_add_right _ _
          · exact Nat.le_add_right _ _
          · exact Nat.le_refl _
          · exact Nat.le_add_right _ _
        exact I2.fpOk hle (I2.hok.fresh hle)
      have ap : ZApart s2.heap.objs.size (s2.heap.objs.size + 4) (s2.heap.objs.size + 2) (s2.heap.objs.size + 3) s2.heap.objs.size (s2.heap.objs.size + 1) :=
        ⟨Nat.le_add_right _ _, Nat.le_add_right _ _, Nat.le_add_right _ _, Nat.le_refl _, Nat.le_add_right _ _, by
          simp only [List.nodup_cons, List.mem_cons, List.not_mem_nil, or_false, not_or, List.nodup_nil, and_true, not_false_eq_true]
          generalize s2.heap.objs.size = n
          refine ⟨⟨?_, ?_, ?_, ?_⟩, ⟨?_, ?_, ?_⟩, ⟨?_, ?_⟩, ?_⟩ <;> (intro z; have z' : (_ : Nat) = _ := z; omega)⟩
      exact ⟨s2.heap.objs.size + 4, [s2.heap.objs.size + 4, s2.heap.objs.size + 2, s2.heap.objs.size + 3, s2.heap.objs.size, s2.heap.objs.size + 1], _, _, _, rfl, I3, turn_zipS hN1 hN2 ap, ⟨hz, hTI, ⟨_, _, hTO⟩, Sk.tn_new e1, Sk.tn_new e2⟩, fresh5, q3⟩
noncomputable def iZipS (a : DenA) : DenI := fun env st => (a env st).bind fun p => match p.1 with
  | [x, y] => (walkD p.2 x).bind fun w => (walkD p.2 y).bind fun u => if w.1.length = u.1.length then some ((zipD w.1 u.1, fun st => w.2 st && u.2 st), p.2) else none
  | _ => none
theorem serves_zipS {c : C} {F0 H0 : Hp} {io0 : List Addr} {ck ck' : Store → Bool} {ds es : List D} {k k' : Sk} (hlen : ds.length = es.length)
    (h : ∀ F io H st, Grow F0 io0 H0 F io H → SRel c F io st H → ck st = true → ∃ xs, k.at c.K H xs ∧ Reps c io F xs ds)
    (h' : ∀ F io H st, Grow F0 io0 H0 F io H → SRel c F io st H → ck' st = true → ∃ xs, k'.at c.K H xs ∧ Reps c io F xs es) : Serves c (ItZS c.K k k') (zipD ds es) (fun st => ck st && ck' st) F0 io0 H0 := by
  intro i F io st H g s hck
  obtain ⟨q1, q2⟩ := serves_zip h h' i F io st H g s hck
  rw [Bool.and_eq_true] at hck
  obtain ⟨xs, q, k1⟩ := h F io H st g s hck.1
  obtain ⟨ys, q', k2⟩ := h' F io H st g s hck.2
  have hl := k1.length
  have hl2 := k2.length
  have hle : (zipD ds es).length = min ds.length es.length := by simp [zipD]
  refine ⟨fun hi => ⟨xs, ys, q, q', by omega, by omega⟩, fun d hd => ?_⟩
  obtain ⟨⟨xs1, ys1, x, y, _, _, hx, hy⟩, q4⟩ := q2 d hd
  have hlt : i < min ds.length es.length := by rw [← hle]; exact (List.getElem?_eq_some_iff.mp hd).1
  exact ⟨⟨xs, ys, xs[i], ys[i], q, q', List.getElem?_eq_getElem (by omega), List.getElem?_eq_getElem (by omega), by omega⟩, q4⟩
theorem di_zipS {a : DenA} (hm : X.mg "zip" = none) (ha : DA X [e, e2] a) (hg : Gl X "zip" := by rfl)
    (he : backTo pos (starEach [e, e2] X.env) = (false, eval e X.env) :: backTo pos (starEach [e2] X.env) := by rfl) (hpl : (backTo pos (starEach [e, e2] X.env)).any (·.1) = false := by rfl)
    (hall : (backToKw pos (keywordEach [⟨some "strict", .Constant (.bool true) ck cp, kp⟩] X.env)).all (·.1.isSome) = true := by rfl) (hnone : (backToKw pos (keywordEach [⟨some "strict", .Constant (.bool true) ck cp, kp⟩] X.env)).any (·.1.isNone) = false := by rfl)
    (hks : (backToKw pos (keywordEach [⟨some "strict", .Constant (.bool true) ck cp, kp⟩] X.env)).filterMap (·.1) = [Str.ofString "strict"] := by rfl) :
    DI X (.Tuple elts kk tpos) (.Call (.Name "zip" p) [e, e2] [⟨some "strict", .Constant (.bool true) ck cp, kp⟩] pos) (iZipS a) := by
  refine PI.imp (pi_zipS hg hm ha he hpl hall hnone hks) fun σ H R h => ?_
  obtain ⟨F, io, env, st, ds, st', hh, hd, q⟩ := h
  obtain ⟨⟨xs, st1⟩, h1, hd⟩ := Option.bind_eq_some_iff.mp hd
  refine ⟨F, io, env, st, xs, st1, hh, h1, fun vs F1 io1 H1 g1 s1 r1 => ?_⟩
  match xs, r1, hd with
  | [x, y], .cons r (.cons r' .nil), hd =>
    obtain ⟨w, h2, hd⟩ := Option.bind_eq_some_iff.mp hd
    obtain ⟨w', h3, hd⟩ := Option.bind_eq_some_iff.mp hd
    split at hd
    · rename_i hlen
      cases hd
      obtain ⟨f, hf, hw⟩ := walk_at s1 r h2
      obtain ⟨f', hf', hw'⟩ := walk_at s1 r' h3
      refine ⟨_, _, f, f', rfl, hf, hf', fun t u => ?_⟩
      obtain ⟨ys, q1, _⟩ := hw t F1 io1 H1 st1 Grow.refl s1 (walk_now h2)
      obtain ⟨zs, q2, _⟩ := hw' u F1 io1 H1 st1 Grow.refl s1 (walk_now h3)
      exact ⟨ys, zs, q1, q2, q _ F1 io1 H1 g1 s1 (serves_zipS hlen (hw t) (hw' u))⟩
    · cases hd
  | [], _, hd => cases hd
  | [_], _, hd => cases hd
  | _ :: _ :: _ :: _, _, hd => cases hd
end
end DL
set_option Elab.async false
set_option linter.all false
set_option maxRecDepth 100000
set_option maxHeartbeats 4000000
/-! DLS: sets of numbers and texts, made of a list. -/
namespace DL
open PySem PySem.Spec PyProof.Rows L2

def GoodK (w : World) (e : Int × Value) (k : Key) : Prop := keyIs k e.2 = true ∧ e.1 = keyH w k
/-- the set at a: its keys by the places of its table -/
def SetK (w : World) (h : Heap) (a : Addr) (L : List Key) : Prop :=
  ∃ o es ep t, h.get? a = some o ∧ o.ExactSet ∧ o.data = .set es ep t ∧ Paired (GoodK w) es.toList L ∧ L.Nodup ∧
    es.size < scanBound ∧ t.fits es.size = true ∧ Ris t.place.toList ∧ (w.params.followText "set-order" = true ∨ t.led = true)
section
variable {P : Program} {w : World} {h h' : Heap} {a : Addr} {L : List Key}
theorem SetK.at (R : SetK w h a L) (k : ∀ o, h.get? a = some o → h'.get? a = some o) : SetK w h' a L := by
  obtain ⟨o, es, ep, t, ho, r⟩ := R
  exact ⟨o, es, ep, t, k o ho, r⟩
theorem goodK_scan {e : Int × Value} {k : Key} (g : GoodK w e k) : e.2.scannable = true := by
  rcases keyIs_shape g.1 with ⟨i, t, _, e2⟩ | ⟨x, t, _, e2⟩ <;> rw [e2] <;> rfl
theorem good_elemsK : ∀ {l : List (Int × Value)} {L : List Key}, Paired (GoodK w) l L → ElemsOf (mixKind P w) l
  | [], [], _ => fun e he => by cases he
  | x :: l, k :: L, .cons g t => fun e he => by
    rcases List.mem_cons.mp he with z | z
    · subst z
      exact ⟨⟨k, g.1, g.2⟩, goodK_scan g⟩
    · exact good_elemsK t e z
theorem goodK_mem : ∀ {l : List (Int × Value)} {L : List Key} (k : Key), Paired (GoodK w) l L → ((∃ e ∈ l, (mixKind P w).is k e.2 = true) ↔ k ∈ L)
  | [], [], k, _ => by simp
  | x :: l, q :: L, k, .cons g t => by
    have ih := goodK_mem k t
    rw [List.mem_cons, ← ih]
    constructor
    · rintro ⟨e, he, hk⟩
      rcases List.mem_cons.mp he with z | z
      · subst z
        exact .inl ((mixKind P w).inj _ _ _ hk g.1)
      · exact .inr ⟨e, z, hk⟩
    · rintro (z | ⟨e, he, hk⟩)
      · subst z
        exact ⟨x, List.mem_cons_self, g.1⟩
      · exact ⟨e, List.mem_cons_of_mem _ he, hk⟩
/-- entries in another order -/
theorem paired_perm {α β : Type} {R : α → β → Prop} {l l' : List α} (p : l'.Perm l) : ∀ {L : List β}, Paired R l L → ∃ L', Paired R l' L' ∧ L'.Perm L := by
  induction p with
  | nil => intro L r; exact ⟨L, r, List.Perm.refl _⟩
  | cons x _ ih =>
    intro L r
    cases r with
    | cons r t =>
      obtain ⟨L', h1, h2⟩ := ih t
      exact ⟨_, .cons r h1, h2.cons _⟩
  | swap x y l =>
    intro L r
    cases r with
    | cons r t =>
      cases t with
      | cons r2 t2 => exact ⟨_, .cons r2 (.cons r t2), List.Perm.swap _ _ _⟩
  | trans p1 p2 ih1 ih2 =>
    intro L r
    obtain ⟨L1, h1, h2⟩ := ih2 r
    obtain ⟨L2, h3, h4⟩ := ih1 h1
    exact ⟨L2, h3, h4.trans h2⟩
end
section
variable {P : Program} {w : World} {A : Around} {E : Value → Shared → Prop} {s : Shared} {a : Addr} {L : List Key}
theorem setK_tail {g : Bool → Sem Unit} (hg : ∀ (b : Bool) (s₁ : Shared) (Q' : Unit → Shared → Prop), Q' () s₁ → wpAny (model P w) A (g b) Q' E s₁)
    {o : Obj} {es : Array (Int × Value)} {ep : Nat} {t : SetTable} (ho : s.heap.get? a = some o) (hex : o.ExactSet) (hd : o.data = .set es ep t)
    {es1 : Array (Int × Value)} {t2 : SetTable} {L1 : List Key} (g1 : Paired (GoodK w) es1.toList L1) (nd1 : L1.Nodup)
    (hb1 : es1.size < scanBound) (hf2 : t2.fits es1.size = true) (hr : Ris t2.place.toList) (hl : w.params.followText "set-order" = true ∨ t2.led = true) {wasDummy : Bool} {R : Option Bool → Shared → Prop}
    (hR : ∀ h' L', Heap.SameBut a s.heap h' → SetK w h' a L' → L'.Perm L1 → R (some true) { s with heap := h' }) :
    wpAny (model P w) A (do
        storeSet a es1 t2
        if (!wasDummy && t2.tooFull) = true then do
            g (relayAll t2 es1 (SetTable.grown es1.size)).2.2
            storeSet a (relayAll t2 es1 (SetTable.grown es1.size)).1 (relayAll t2 es1 (SetTable.grown es1.size)).2.1
            pure (some true)
          else pure (some true)) R E s := by
  refine wpAny_bind (wpAny_storeSet_of ho hd ?_ (fits_of_scanBound hb1))
  have ho1 := store_at (es' := es1) (t' := t2) ho hd
  have sb1 := Heap.SameBut.update s.heap a (Obj.putSet es1 t2)
  split
  · have pm := relayAll_perm t2 es1 (SetTable.grown es1.size)
    have hf3 := relayAll_fits t2 es1 (SetTable.grown es1.size)
    have hr3 := relayAll_ris t2 es1 (SetTable.grown es1.size)
    have hl3 := relayAll_led t2 es1 (SetTable.grown es1.size)
    generalize relayAll t2 es1 (SetTable.grown es1.size) = Z at pm hf3 hr3 hl3 ⊢
    obtain ⟨es2, t3, gave⟩ := Z
    dsimp only at pm hf3 hr3 hl3 ⊢
    have hsz : es2.size = es1.size := by rw [← Array.length_toList, pm.length_eq, Array.length_toList]
    have hb2 : es2.size < scanBound := by rw [hsz]; exact hb1
    obtain ⟨L2, p1, p2⟩ := paired_perm pm g1
    refine wpAny_bind (hg _ _ _ ?_)
    refine wpAny_bind (wpAny_storeSet_of ho1 rfl ?_ (fits_of_scanBound hb2))
    have ho2 := store_at (es' := es2) (t' := t3) ho1 rfl
    refine wpAny_pure (hR _ L2 (sb1.trans (Heap.SameBut.update _ a _)) ?_ p2)
    exact ⟨_, es2, _, t3, ho2, hex, rfl, p1, p2.nodup_iff.mpr nd1, hb2, hf3, hr3, hl.imp id fun z => by rw [hl3]; exact z⟩
  · exact wpAny_pure (hR _ L1 sb1 ⟨_, es1, _, t2, ho1, hex, rfl, g1, nd1, hb1, hf2, hr, hl⟩ (List.Perm.refl _))
theorem setK_add {k : Key} {v : Value} {Q : Bool → Shared → Prop} (hkey : keyIs k v = true) (R : SetK w s.heap a L) (room : L.length + 1 < scanBound)
    (hQ : ∀ b h' L', Heap.SameBut a s.heap h' → SetK w h' a L' → (k ∈ L → L' = L) → (k ∉ L → L'.Perm (k :: L)) → Q b { s with heap := h' }) :
    wpAny (model P w) A (setAddHashed a v (keyH w k)) Q E s := by
  obtain ⟨o, es, ep, t, ho, hex, hd, g, nd, hb, hf, hr, hl⟩ := R
  have hlen : es.size = L.length := by rw [← Array.length_toList]; exact Paired.length g
  have hkey : (mixKind P w).is k v = true := hkey
  have hsc : v.scannable = true := by rcases keyIs_shape hkey with ⟨i, t, _, e2⟩ | ⟨x, t, _, e2⟩ <;> rw [e2] <;> rfl
  have hel : ElemsOf (mixKind P w) es.toList := good_elemsK g
  unfold setAddHashed setAddHashedIn
  refine wpAny_holding (wpAny_bind (wpAny_setState_of ho hd hf ?_))
  dsimp only
  rw [byScan_of hsc hb hel]
  simp only [↓reduceIte]
  unfold setAddByScan
  refine wpAny_bind ?_
  refine wpAny_bind (wpAny_rule ?_)
  refine wpAny_bind (wpAny_setScan_of hkey ho hd hf hel ?_)
  cases hfi : List.findIdx? (fun e => (mixKind P w).is k e.2) es.toList with
  | some j =>
    dsimp only
    obtain ⟨hj, pj, _⟩ := List.findIdx?_eq_some_iff_getElem.mp hfi
    have hm : k ∈ L := (goodK_mem (P := P) k g).mp ⟨es.toList[j], List.getElem_mem hj, pj⟩
    refine wpAny_pure (wpAny_pure ?_)
    exact hQ _ s.heap L (Heap.SameBut.refl a s.heap) ⟨o, es, ep, t, ho, hex, hd, g, nd, hb, hf, hr, hl⟩ (fun _ => rfl) fun z => absurd hm z
  | none =>
    dsimp only
    have hnk : k ∉ L := fun z => by
      obtain ⟨e, he, q⟩ := (goodK_mem (P := P) k g).mpr z
      have c := List.findIdx?_eq_none_iff.mp hfi e he
      rw [q] at c
      cases c
    have hgw : ∀ (b : Bool) {s₁ : Shared} {Q' : Unit → Shared → Prop}, Q' () s₁ → wpAny (model P w) A (match b with | true => rule "set.scan.the-table-gave-way" | false => pure ()) Q' E s₁ :=
      fun b s₁ Q' q => by cases b <;> first | exact wpAny_pure q | exact wpAny_rule q
    have pm := layNew_perm t es ((mixKind P w).hash k) v
    have hf1 := layNew_fits t es ((mixKind P w).hash k) v
    have hr1 := layNew_ris t es ((mixKind P w).hash k) v hr
    have hl1 := layNew_led t es ((mixKind P w).hash k) v
    change wpAny _ _ _ _ _ _
    generalize hZ : layNew t es ((mixKind P w).hash k) v = Z at pm hf1 hr1 hl1
    rw [show layNew t es (keyH w k) v = Z from hZ]
    obtain ⟨es1, t1, wasDummy, gave⟩ := Z
    dsimp only at pm hf1 hr1 hl1 ⊢
    rw [Array.toList_push] at pm
    have pc : es1.toList.Perm (((mixKind P w).hash k, v) :: es.toList) := pm.trans (List.perm_append_singleton _ _)
    obtain ⟨L1, g1, p1⟩ := paired_perm pc (.cons (⟨hkey, rfl⟩ : GoodK w ((mixKind P w).hash k, v) k) g)
    have nd1 : L1.Nodup := p1.nodup_iff.mpr (List.nodup_cons.mpr ⟨hnk, nd⟩)
    have hsz : es1.size = L.length + 1 := by rw [← Array.length_toList, pc.length_eq, List.length_cons, Array.length_toList, hlen]
    have hb1 : es1.size < scanBound := by rw [hsz]; exact room
    have hled : w.params.followText "set-order" = true ∨ t1.led = true := hl.imp id fun z => by rw [hl1]; exact z
    have fin : ∀ h' L', Heap.SameBut a s.heap h' → SetK w h' a L' → L'.Perm L1 → Q true { s with heap := h' } := fun h' L' sb r p =>
      hQ true h' L' sb r (fun z => absurd z hnk) fun _ => p.trans p1
    refine wpAny_bind (hgw _ ?_)
    split
    · refine wpAny_bind ?_
      rw [hashByValue_scannable 8 hsc]
      refine wpAny_pure ?_
      refine setK_tail ?_ ho hex hd g1 nd1 hb1 ?_ ?_ ?_ ?_
      · intro b s₁ Q' q; cases b <;> first | exact wpAny_pure q | exact wpAny_rule q
      · first | (split <;> first | exact hf1 | exact SetTable.fits_plain_off hf1) | exact hf1
      · first | (split <;> exact hr1) | exact hr1
      · first | (split <;> exact hled) | exact hled
      · intro h' L' sb r p; dsimp only; exact wpAny_pure (fin h' L' sb r p)
    · refine wpAny_bind (wpAny_pure ?_)
      simp only [↓reduceIte]
      refine setK_tail ?_ ho hex hd g1 nd1 hb1 hf1 hr1 hled ?_
      · intro b s₁ Q' q; cases b <;> first | exact wpAny_pure q | exact wpAny_rule q
      · intro h' L' sb r p; dsimp only; exact wpAny_pure (fin h' L' sb r p)
/-- the keys met first -/
def dedK (ks : List Key) : List Key := ks.foldl (fun acc k => if (acc.any fun x => decide (x = k)) = true then acc else k :: acc) []
theorem any_mem {l : List Key} {k : Key} : (l.any fun x => decide (x = k)) = true ↔ k ∈ l := by
  rw [List.any_eq_true]
  exact ⟨fun ⟨x, hx, h⟩ => by rw [← of_decide_eq_true h]; exact hx, fun h => ⟨k, h, decide_eq_true rfl⟩⟩
theorem dedK_step (ks : List Key) (k : Key) : dedK (ks ++ [k]) = if ((dedK ks).any fun x => decide (x = k)) = true then dedK ks else k :: dedK ks := by
  unfold dedK
  rw [List.foldl_append]
  rfl
theorem set_updateK {I : Addr} {fp wr : List Addr} {n : Nat} {Pv : Nat → Value → Prop} {St : Nat → Heap → Prop} {R : Result → Shared → Prop}
    (W : Walks P w A.in1 I fp wr n Pv St) (S : Addr) (hSf : S ∉ fp) (ks : List Key) (hn : n = ks.length) (hb : ks.length + 1 < scanBound) (hval : ∀ i v, Pv i v → ∃ k, ks[i]? = some k ∧ keyIs k v = true) :
    ∀ (m i : Nat) (s : Shared), n - i = m → i ≤ n → St i s.heap → (∃ L, SetK w s.heap S L ∧ L.Perm (dedK (ks.take i)) ∧ L.length ≤ i) →
      (∀ h' tk L, (∀ b o, b ∉ S :: wr → s.heap.get? b = some o → h'.get? b = some o) → SetK w h' S L → L.Perm (dedK ks) → R (.ok (.ret .none)) { s with heap := h', toks := tk }) →
      codeAny (model P w) A (.builtin "set.update.loop" ⟨[.ref S, .ref I], []⟩) R s := by
  have hSw : S ∉ wr := fun h => hSf (W.sub _ h)
  intro m
  induction m with
  | zero =>
    intro i s hk' hi hst ⟨L, hS, hp, hl⟩ hR
    have hin : i = n := by omega
    subst hin
    refine codeAny_builtin F.entry_set_update_loop ?_
    rw [Around.under_plainId F.plain_set_update_loop _]
    show wpAny _ A.in1 (pyNext (.ref I) >>= _) _ _ s
    refine wpAny_bind (W.done s _ _ hst fun h' tk hk => ?_)
    show wpAny _ A.in1 (ret Value.none) _ _ _
    have e : ks.take i = ks := List.take_of_length_le (by omega)
    rw [e] at hp
    exact wpAny_pure (hR h' tk L (fun b o hb e => hk b o (fun z => hb (List.mem_cons_of_mem _ z)) e) (hS.at fun o e => hk S o hSw e) hp)
  | succ m ih =>
    intro i s hk' hi hst ⟨L, hS, hp, hl⟩ hR
    have hlt : i < n := by omega
    refine codeAny_builtin F.entry_set_update_loop ?_
    rw [Around.under_plainId F.plain_set_update_loop _]
    show wpAny _ A.in1 (pyNext (.ref I) >>= _) _ _ s
    refine wpAny_bind (W.item i s _ _ hlt hst fun v h1 tk hP hst1 hk1 => ?_)
    obtain ⟨k, hz, hkv⟩ := hval i v hP
    have hS' : SetK w h1 S L := hS.at fun o e => hk1 S o hSw e
    show wpAny _ A.in1 (holding [v] (setAdd S v) >>= _) _ _ _
    refine wpAny_bind (wpAny_holding ?_)
    unfold setAdd
    refine wpAny_holding ?_
    refine wpAny_bind ((mixKind P w).pyHash (k := k) hkv ?_)
    refine setK_add hkv hS' (by omega) fun b h2 L2 hsb hS2 e1 e2 => ?_
    have hp2 : L2.Perm (dedK (ks.take (i + 1))) := by
      rw [List.take_add_one, hz]
      show L2.Perm (dedK (ks.take i ++ [k]))
      rw [dedK_step]
      by_cases hm : k ∈ L
      · rw [e1 hm, if_pos (any_mem.mpr (hp.mem_iff.mp hm))]; exact hp
      · rw [if_neg (fun z => hm (hp.mem_iff.mpr (any_mem.mp z)))]
        exact (e2 hm).trans (hp.cons k)
    have hl2 : L2.length ≤ i + 1 := by
      by_cases hm : k ∈ L
      · rw [e1 hm]; omega
      · rw [(e2 hm).length_eq, List.length_cons]; omega
    refine wpAny_pure ⟨plainId_quiet F.plain_set_update_loop _, ih (i + 1) _ (by omega) hlt (W.frame _ h1 _ hst1 fun b hb o e => ?_) ⟨L2, hS2, hp2, hl2⟩ fun h3 tk3 L3 hk3 hS3 hp3 => ?_⟩
    · rw [hsb.2 b (fun h : b = S => hSf (by rw [← h]; exact hb))]; exact e
    · refine hR h3 tk3 L3 (fun b o hb e => hk3 b o hb ?_) hS3 hp3
      rw [hsb.2 b (fun h : b = S => hb (by rw [h]; exact List.mem_cons_self))]
      exact hk1 b o (fun z => hb (List.mem_cons_of_mem _ z)) e
theorem setK_fresh {h : Heap} {a : Addr} (ho : h.get? a = some { cls := .type "set", dict := none, data := .set #[] 0 (.fresh 0 0 (!w.params.followText "set-order")) }) : SetK w h a [] :=
  ⟨_, #[], 0, _, ho, ⟨rfl, rfl, rfl⟩, rfl, .nil, List.nodup_nil, (by decide), (by rfl), List.Pairwise.nil, by
    show _ ∨ (!w.params.followText "set-order") = true
    cases w.params.followText "set-order"
    · exact .inr rfl
    · exact .inl rfl⟩
end
end DL
set_option Elab.async false
set_option linter.all false
set_option maxRecDepth 100000
set_option maxHeartbeats 8000000
/-! DLT: the order of data; sorted(set(list)). -/
namespace DL
open PySem PySem.Spec PyProof.Rows L2

theorem dle_total (a b : D) : (dle a b || dle b a) = true := by
  unfold dle dlt PySem.W.dataLt
  cases h : PyProof.Rows.lexLt PyProof.Rows.itemOrd (PySem.W.keyToks (toPy b)) (PySem.W.keyToks (toPy a)) with
  | false => rfl
  | true =>
    cases h2 : PyProof.Rows.lexLt PyProof.Rows.itemOrd (PySem.W.keyToks (toPy a)) (PySem.W.keyToks (toPy b)) with
    | false => rfl
    | true =>
      have := PyProof.Rows.lex_trans _ _ _ h h2
      rw [PyProof.Rows.lex_irrefl] at this
      cases this
theorem dle_trans (a b c : D) (h1 : dle a b = true) (h2 : dle b c = true) : dle a c = true := by
  unfold dle dlt PySem.W.dataLt at *
  simp only [Bool.not_eq_true'] at *
  cases h : PyProof.Rows.lexLt PyProof.Rows.itemOrd (PySem.W.keyToks (toPy c)) (PySem.W.keyToks (toPy a)) with
  | false => rfl
  | true =>
    rcases PyProof.Rows.lex_negTrans _ (PySem.W.keyToks (toPy b)) _ h with z | z
    · rw [z] at h2; cases h2
    · rw [z] at h1; cases h1
mutual
theorem eqv_alike : ∀ (x y : PyData), PySem.W.alike x y = true → PyData.eqv x y = true → x = y
  | .none, y, h, _ => by cases y <;> first | rfl | cases h
  | .bool b, y, h, e => by
    cases y with
    | bool c => simp [PyData.eqv] at e; rw [e]
    | _ => cases h
  | .int b, y, h, e => by
    cases y with
    | int c => simp [PyData.eqv] at e; rw [e]
    | _ => cases h
  | .str b, y, h, e => by
    cases y with
    | str c => simp [PyData.eqv] at e; rw [e]
    | _ => cases h
  | .list xs, y, h, e => by
    cases y with
    | list ys => rw [eqv_alikes xs ys (by simpa [PySem.W.alike] using h) (by simpa [PyData.eqv] using e)]
    | _ => cases h
  | .tuple xs, y, h, e => by
    cases y with
    | tuple ys => rw [eqv_alikes xs ys (by simpa [PySem.W.alike] using h) (by simpa [PyData.eqv] using e)]
    | _ => cases h
  | .dict _, y, h, _ => by cases y <;> cases h
theorem eqv_alikes : ∀ (xs ys : List PyData), PySem.W.alikeAll xs ys = true → PyData.eqvAll xs ys = true → xs = ys
  | [], [], _, _ => rfl
  | [], _ :: _, _, e => by simp [PyData.eqvAll] at e
  | _ :: _, [], _, e => by simp [PyData.eqvAll] at e
  | x :: xs, y :: ys, h, e => by
    simp only [PySem.W.alikeAll, Bool.and_eq_true] at h
    simp only [PyData.eqvAll, Bool.and_eq_true] at e
    rw [eqv_alike x y h.1 e.1, eqv_alikes xs ys h.2 e.2]
end
mutual
theorem toPy_inj : ∀ {x y : D}, pl x = true → pl y = true → toPy x = toPy y → x = y
  | .non, y, _, q, e => by cases y <;> simp [toPy] at e <;> first | rfl | (simp [pl] at q)
  | .bl b, y, _, q, e => by cases y <;> simp [toPy] at e; rw [e]
  | .int b, y, _, q, e => by cases y <;> simp [toPy] at e; rw [e]
  | .str b, y, _, q, e => by
    cases y with
    | str c => simp [toPy] at e; rw [strOf_inj e]
    | _ => simp [toPy] at e
  | .tup xs, y, p, q, e => by
    cases y with
    | tup ys =>
      simp only [toPy, PyData.tuple.injEq] at e
      rw [toPys_inj (by simpa [pl] using p) (by simpa [pl] using q) e]
    | _ => simp [toPy] at e
  | .lst xs, y, p, q, e => by
    cases y with
    | lst ys =>
      simp only [toPy, PyData.list.injEq] at e
      rw [toPys_inj (by simpa [pl] using p) (by simpa [pl] using q) e]
    | _ => simp [toPy] at e
  | .dic _ _ _, _, p, _, _ => by simp [pl] at p
  | .ref _, _, p, _, _ => by simp [pl] at p
  | .scr _, _, p, _, _ => by simp [pl] at p
theorem toPys_inj : ∀ {xs ys : List D}, pls xs = true → pls ys = true → toPys xs = toPys ys → xs = ys
  | [], [], _, _, _ => rfl
  | [], _ :: _, _, _, e => by simp [toPys] at e
  | _ :: _, [], _, _, e => by simp [toPys] at e
  | x :: xs, y :: ys, p, q, e => by
    simp only [pls, Bool.and_eq_true] at p q
    simp only [toPys, List.cons.injEq] at e
    rw [toPy_inj p.1 q.1 e.1, toPys_inj p.2 q.2 e.2]
end
theorem dle_antisymm {a b : D} (pa : pl a = true) (pb : pl b = true) (al : PySem.W.alike (toPy a) (toPy b) = true) (h1 : dle a b = true) (h2 : dle b a = true) : a = b := by
  unfold dle dlt PySem.W.dataLt at h1 h2
  simp only [Bool.not_eq_true'] at h1 h2
  have e := PyProof.Rows.lex_total _ _ h2 h1
  apply toPy_inj pa pb
  apply eqv_alike _ _ al
  cases q : PyData.eqv (toPy a) (toPy b) with
  | true => rfl
  | false =>
    exfalso
    have h3 := (PySem.W.toks_eqv _ _ al).2 q [] [.inl 0]
    rw [e, PySem.W.lex_pre, PyProof.Rows.lex_irrefl] at h3
    exact Bool.noConfusion (h3 : true = false)
/-- data that may be sorted have one sorted order -/
theorem sort_perm {ds es : List D} (h : sortOk ds = true) (p : ds.Perm es) : ds.mergeSort dle = es.mergeSort dle := by
  unfold sortOk at h
  simp only [Bool.and_eq_true, decide_eq_true_eq, Bool.or_eq_true, List.all_eq_true] at h
  obtain ⟨⟨⟨⟨o1, o2⟩, o3⟩, o4⟩, o5⟩ := h
  refine List.Perm.eq_of_pairwise (le := fun a b => dle a b = true) (fun a b ha hb h1 h2 => ?_) (List.pairwise_mergeSort dle_trans dle_total _) (List.pairwise_mergeSort dle_trans dle_total _)
    ((List.mergeSort_perm ds dle).trans (p.trans (List.mergeSort_perm es dle).symm))
  have ha' : a ∈ ds := (List.mergeSort_perm ds dle).mem_iff.mp ha
  have hb' : b ∈ ds := p.mem_iff.mpr ((List.mergeSort_perm es dle).mem_iff.mp hb)
  exact dle_antisymm (pls_mem o1 _ ha') (pls_mem o1 _ hb') (o3 _ ha' _ hb') h1 h2
section
variable {P : Program} {w : World} {A : Around} {E : Value → Shared → Prop} {s : Shared}
set_option maxHeartbeats 16000000 in
theorem call_set_listK {l : Addr} {items : Array Value} (ks : List Key) {Q : Value → Shared → Prop} (hh : A.handled = none) (hl : s.heap.IsList l items) (hsz : items.size = ks.length) (hit : ∀ (i : Nat) (v : Value), items[i]? = some v → ∃ k : Key, ks[i]? = some k ∧ keyIs k v = true) (hb : ks.length + 1 < scanBound)
    (h : ∀ (h' : Heap) (tk : Nat) (L : List Key), SetK w h' s.heap.objs.size L → L.Perm (dedK ks) → (∀ b o, s.heap.get? b = some o → h'.get? b = some o) → Q (.ref s.heap.objs.size) { s with heap := h', toks := tk }) :
    wpAny (model P w) A (call (.type "set") [.ref l]) Q E s := by
  obtain ⟨c, tl, hmro⟩ := F.called_set.mro
  have hmade := F.called_set.made
  have hsub := F.called_set.sub
  refine wpAny_call (codeAny_of_tree ?_)
  show wpAny _ _ (callAny (.type "set") _) _ _ _
  refine wpAny_pure ⟨Code.quiet_builtin _ (by decide +kernel), codeAny_builtin F.entry_type_call ?_⟩
  rw [Around.under_plain (weight_type_call_type "set" [.ref l] []) rfl]
  have h1 := F.called_set.notType
  have h2 := F.called_set.canCreate
  have hct := F.typeCall_set_1 (.ref l)
  repeat (any_goals (first | assumption | wp_step))
  refine codeAny_mono (code_set_led1 (.ref l) (E := E) (Q₁ := fun obj s₁ => obj = .ref s.heap.objs.size ∧ s₁ = { s with heap := s.heap.push { cls := .type "set", dict := none, data := .set #[] 0 (.fresh 0 0 (!w.params.followText "set-order")) } }) ⟨rfl, rfl⟩) fun r s₁ hr => ?_
  cases r with
  | error e => exact hr
  | ok fl =>
    cases fl with
    | ret obj =>
      obtain ⟨rfl, rfl⟩ := hr
      have hS : (s.heap.push { cls := .type "set", dict := none, data := .set #[] 0 (.fresh 0 0 (!w.params.followText "set-order")) }).get? s.heap.objs.size = some { cls := .type "set", dict := none, data := .set #[] 0 (.fresh 0 0 (!w.params.followText "set-order")) } := Heap.get?_push_size _ rfl
      have hT : Shared.TypeIs { s with heap := s.heap.push { cls := .type "set", dict := none, data := .set #[] 0 (.fresh 0 0 (!w.params.followText "set-order")) } } (.ref s.heap.objs.size) "set" := ⟨_, hS, rfl⟩
      have hli := F.called_set.init.lookup
      have hbi := F.called_set.init.bind (.ref s.heap.objs.size)
      repeat (any_goals (first | assumption | wp_step))
      refine codeAny_mono (codeAny_call_builtin (R := wants (fun r s₂ => r = .none ∧ ∃ h' tk L, s₂ = { s with heap := h', toks := tk } ∧ SetK w h' s.heap.objs.size L ∧ L.Perm (dedK ks) ∧
          (∀ b o, s.heap.get? b = some o → h'.get? b = some o)) E) F.called_set.init.plain F.entry_set_init (check_set_init_1 hT ?_)) fun r₂ s₂ hr₂ => ?_
      · obtain ⟨ol, hol, hcl, nl, hdl⟩ := hl
        obtain ⟨ocls, odict, odata, oslots⟩ := ol
        simp only at hcl hdl
        subst hcl; subst hdl
        have hol' : (s.heap.push { cls := .type "set", dict := none, data := .set #[] 0 (.fresh 0 0 (!w.params.followText "set-order")) }).get? l = some { cls := .type "list", dict := odict, data := .seq items nl, slots := oslots } := Heap.get?_push_of_some _ hol
        have hsls := F.sub_list_set
        have hslf := F.sub_list_frozenset
        have hne : (Value.type "list" == Value.type "dict") = false := by decide
        have hl1 : (s.heap.push { cls := .type "set", dict := none, data := .set #[] 0 (.fresh 0 0 (!w.params.followText "set-order")) }).IsList l items := ⟨_, hol', rfl, nl, rfl⟩
        unfold Builtin.«set.__init__» noKeywords Builtin.Frozenset.updateFrom
        generalize hPI : pyIter = PI
        wp_walk
        subst hPI
        refine wpAny_pyIter_list hl1 ?_
        refine wpAny_bind (wpAny_runValue ?_)
        have hlS : l < s.heap.objs.size := Heap.lt_size hol
        have hh3 : A.in1.in1.in1.handled = none := by simp [hh]
        have hneI : l ≠ (s.heap.push { cls := .type "set", dict := none, data := .set #[] 0 (.fresh 0 0 (!w.params.followText "set-order")) }).objs.size := by
          rw [Heap.size_push]; exact Nat.ne_of_lt (Nat.lt_succ_of_lt hlS)
        have hSf : s.heap.objs.size ∉ [(s.heap.push { cls := .type "set", dict := none, data := .set #[] 0 (.fresh 0 0 (!w.params.followText "set-order")) }).objs.size, l] := by
          rw [Heap.size_push]; simp only [List.mem_cons, List.mem_singleton, List.not_mem_nil, or_false, not_or]
          exact ⟨Nat.ne_of_lt (Nat.lt_succ_self _), Nat.ne_of_gt hlS⟩
        refine set_updateK (Walks.list hh3 _ l hneI items) s.heap.objs.size
          hSf ks hsz hb hit (items.size - 0) 0 _ (by omega) (Nat.zero_le _)
          ⟨⟨_, Heap.get?_push_size _ rfl, rfl, rfl⟩, (hl1.push _)⟩ ?hS0 ?hR
        case hS0 =>
          have hget : ((s.heap.push { cls := .type "set", dict := none, data := .set #[] 0 (.fresh 0 0 (!w.params.followText "set-order")) }).push { cls := .type "list_iterator", data := .fields #[.ref l, .int 0 0] }).get? s.heap.objs.size
              = some { cls := .type "set", dict := none, data := .set #[] 0 (.fresh 0 0 (!w.params.followText "set-order")) } := Heap.get?_push_of_some _ hS
          exact ⟨[], setK_fresh hget, List.Perm.refl _, Nat.le_refl _⟩
        case hR =>
          intro h' tk' L hk hS' hp
          show wpAny _ _ _ _ _ _
          refine wpAny_pure ?_
          show wpAny _ _ (ret Value.none) _ _ _
          refine wpAny_pure ⟨rfl, h', tk', L, rfl, hS', hp, fun b o e => ?_⟩
          have hb0 : b < s.heap.objs.size := Heap.lt_size e
          have hb1 : b ≠ s.heap.objs.size := Nat.ne_of_lt hb0
          have hb2 : b ≠ (s.heap.push { cls := .type "set", dict := none, data := .set #[] 0 (.fresh 0 0 (!w.params.followText "set-order")) }).objs.size := by
            rw [Heap.size_push]; exact Nat.ne_of_lt (Nat.lt_succ_of_lt hb0)
          exact hk b o (by simp only [List.mem_cons, List.mem_singleton, List.not_mem_nil, or_false, not_or]; exact ⟨hb1, hb2⟩) (Heap.get?_push_of_some _ (Heap.get?_push_of_some _ e))
      · cases r₂ with
        | error e => exact hr₂
        | ok fl₂ =>
          cases fl₂ with
          | ret r =>
            obtain ⟨rfl, h', tk, L, rfl, hS', hp', hk'⟩ := hr₂
            repeat (any_goals (first | assumption | wp_step))
            exact h _ _ _ hS' hp' hk'
          | _ => exact hr₂.elim
    | _ => exact hr.elim
end
/-- a set, tracked while it is walked -/
def setH (w : World) (a : Addr) (L : List Key) : HO := .ext fun h => SetK w h a L
def keyD : Key → D
  | .inl i => .int i
  | .inr x => .str x.cps.toList
def keysD : List D → Option (List Key)
  | [] => some []
  | d :: ds => (keyOf d).bind fun k => (keysD ds).map (k :: ·)
theorem keyD_of {d : D} {k : Key} (h : keyOf d = some k) : keyD k = d := by
  cases d with
  | int i => cases h; rfl
  | str x =>
    cases h
    show D.str (strOf x).cps.toList = .str x
    rw [cps_strOf]
  | _ => cases h
theorem keysD_map : ∀ {ds : List D} {ks : List Key}, keysD ds = some ks → ds = ks.map keyD ∧ ds.map keyOf = ks.map some
  | [], _, h => by cases h; exact ⟨rfl, rfl⟩
  | d :: ds, _, h => by
    obtain ⟨k, h1, h⟩ := Option.bind_eq_some_iff.mp h
    obtain ⟨ks, h2, rfl⟩ := Option.map_eq_some_iff.mp h
    obtain ⟨e1, e2⟩ := keysD_map h2
    exact ⟨by rw [List.map_cons, keyD_of h1, ← e1], by rw [List.map_cons, List.map_cons, h1, e2]⟩
theorem rep_key {c : C} {io : List Addr} {F : Hp} (k : Key) : Rep c io F (kV k) (keyD k) := by
  cases k with
  | inl i => exact .int i
  | inr x =>
    have := Rep.str (c := c) (io := io) (F := F) x.cps.toList
    rw [strOf_toList] at this
    exact this
theorem reps_keys {c : C} {io : List Addr} {F : Hp} : ∀ L : List Key, Reps c io F (L.map kV) (L.map keyD)
  | [] => .nil
  | k :: L => .cons (rep_key k) (reps_keys L)
def rSetL (c : C) : List V → Hp → VK → Prop := fun xs H Q => ∃ x F io st d ds ks, xs = [x] ∧ SRel c F io st H ∧ Rep c io F x d ∧ itemsOf st d = some ds ∧ keysD ds = some ks ∧ ks.length + 1 < 4096 ∧
  ∀ p L, H p = none → L.Perm (dedK ks) → Q (.ref p) (upd H p (setH c.w p L))
section
variable {X : Cx}
theorem keys_vals (P : Program) (w : World) {c : C} {io : List Addr} {F : Hp} : ∀ {ds : List D} {vs : List V} {us : List Value} {ks : List Key}, Reps c io F vs ds → Vals vs us → keysD ds = some ks → ∀ {i : Nat} {v : Value}, us[i]? = some v → ∃ k, ks[i]? = some k ∧ keyIs k v = true
  | [], _, _, _, .nil, rv, h, i, v, hv => by cases rv; simp at hv
  | d :: ds, _, _, _, .cons r k, .cons rv rvs, h, i, v, hv => by
    obtain ⟨q, h1, h⟩ := Option.bind_eq_some_iff.mp h
    obtain ⟨ks, h2, rfl⟩ := Option.map_eq_some_iff.mp h
    cases i with
    | zero =>
      simp at hv
      subst hv
      refine ⟨q, rfl, ?_⟩
      have e := key_V h1 r
      subst e
      exact kV_is (P := P) (w := w) rv
    | succ i => simpa using keys_vals P w k rvs h2 (i := i) (by simpa using hv)
end
end DL
set_option Elab.async false
set_option linter.all false
set_option maxRecDepth 100000
set_option maxHeartbeats 4000000
/-! DLU: set(list), sorted(set(list)), len(set(list)). -/
namespace DL
open PySem PySem.Spec PyProof.Rows L2

theorem all_perm {α : Type} {p : α → Bool} {l l' : List α} (h : l.Perm l') : l.all p = l'.all p := by
  cases e : l'.all p with
  | true => exact List.all_eq_true.mpr fun x hx => List.all_eq_true.mp e x (h.mem_iff.mp hx)
  | false =>
    cases e2 : l.all p with
    | false => rfl
    | true =>
      have : l'.all p = true := List.all_eq_true.mpr fun x hx => List.all_eq_true.mp e2 x (h.mem_iff.mpr hx)
      rw [e] at this; cases this
theorem pls_all : ∀ ds : List D, pls ds = ds.all pl
  | [] => rfl
  | d :: ds => by rw [pls, pls_all ds]; rfl
theorem deps_le : ∀ {ds : List D} {n : Nat}, deps ds ≤ n ↔ ∀ d ∈ ds, dep d ≤ n
  | [], n => by simp [deps]
  | d :: ds, n => by
    rw [deps, List.forall_mem_cons, ← deps_le (ds := ds)]
    omega
theorem sortOk_perm {ds es : List D} (h : sortOk ds = true) (p : ds.Perm es) : sortOk es = true := by
  unfold sortOk at *
  simp only [Bool.and_eq_true, decide_eq_true_eq, Bool.or_eq_true, List.all_eq_true] at *
  obtain ⟨⟨⟨⟨o1, o2⟩, o3⟩, o4⟩, o5⟩ := h
  refine ⟨⟨⟨⟨?_, ?_⟩, fun a ha b hb => o3 a (p.mem_iff.mpr ha) b (p.mem_iff.mpr hb)⟩, ?_⟩, by rw [← p.length_eq]; exact o5⟩
  · rw [pls_all] at *; rw [← all_perm p]; exact o1
  · exact deps_le.mpr fun d hd => deps_le.mp o2 d (p.mem_iff.mpr hd)
  · exact o4.imp (fun o d hd => o d (p.mem_iff.mpr hd)) (fun o d hd => o d (p.mem_iff.mpr hd))
section
variable {X : Cx}
theorem call_setL (hc : X.calm = true) : CallR X (.type "set") (rSetL (cOf X)) := by
  intro pins s σ H xs us Q I r hq
  obtain ⟨x, F, io, st, d, ds, ks, rfl, sr, r1, h1, h2, h3, q⟩ := hq
  obtain ⟨a, ys, rfl, h4, k1⟩ := itemsOf_list sr r1 h1
  obtain ⟨its, rv, hl, hz⟩ := I.list (.inl (.inl h4))
  rw [Vals.ref1 r]
  have hlen : its.toArray.size = ks.length := by
    have e1 := (keysD_map h2).2
    have e2 := congrArg List.length e1
    rw [List.length_map, List.length_map] at e2
    have e3 := rv.length
    have e4 := k1.length
    rw [List.size_toArray]; omega
  refine call_set_listK (items := its.toArray) ks (I.ok.hd hc) hl.isList hlen (fun i v hv => keys_vals X.prog X.w k1 rv h2 (by simpa using hv)) h3 fun h' tk L hS hp hk => ?_
  have hfree := I.hok.fresh (Nat.le_refl s.heap.objs.size)
  have ⟨o, _, _, _, ho, _⟩ := hS
  exact ⟨.ref _, upd H s.heap.objs.size (setH X.w s.heap.objs.size L), I.laid (t' := tk) hk (Nat.le_refl _) ⟨hS, ⟨o, ho⟩, fun h1 h2 p k => SetK.at p k⟩, rfl, q _ _ hfree hp⟩
/-- sorted of a fresh set -/
def rSortS (c : C) : List V → Hp → VK → Prop := fun xs H Q => ∃ F io st p L, xs = [.ref p] ∧ SRel c F io st H ∧ H p = some (setH c.w p L) ∧ sortOk (L.map keyD) = true ∧
  ∀ z F' H', Grow F io H F' io H' → SRel c F' io st H' → Rep c io F' z (.lst ((L.map keyD).mergeSort dle)) → Q z H'
theorem setK_vals {w : World} {h : Heap} {a : Addr} {L : List Key} (R : SetK w h a L) : ∃ o es ep t, h.get? a = some o ∧ o.ExactSet ∧ o.data = .set es ep t ∧ Vals (L.map kV) (es.toList.map (·.2)) ∧ es.size = L.length ∧ es.size < scanBound ∧ t.fits es.size = true ∧ Ris t.place.toList ∧ (w.params.followText "set-order" = true ∨ t.led = true) := by
  obtain ⟨o, es, ep, t, ho, hex, hd, g, nd, hb, hf, hr, hl⟩ := R
  refine ⟨o, es, ep, t, ho, hex, hd, ?_, by rw [← Array.length_toList]; exact g.length, hb, hf, hr, hl⟩
  have gen : ∀ {l : List (Int × Value)} {L : List Key}, Paired (GoodK w) l L → Vals (L.map kV) (l.map (·.2)) := by
    intro l
    induction l with
    | nil => intro L g; cases g; exact .nil
    | cons e l ih => intro L g; cases g with | cons g t => exact .cons (relV_key g.1) (ih t)
  exact gen g
theorem vals_perm {vs : List V} {us us' : List Value} (p : us'.Perm us) : Vals vs us → ∃ vs', Vals vs' us' ∧ vs'.Perm vs := by
  induction p generalizing vs with
  | nil => intro r; exact ⟨vs, r, List.Perm.refl _⟩
  | cons x _ ih =>
    intro r
    cases r with
    | cons r t =>
      obtain ⟨L', h1, h2⟩ := ih t
      exact ⟨_, .cons r h1, h2.cons _⟩
  | swap x y l =>
    intro r
    cases r with
    | cons r t =>
      cases t with
      | cons r2 t2 => exact ⟨_, .cons r2 (.cons r t2), List.Perm.swap _ _ _⟩
  | trans p1 p2 ih1 ih2 =>
    intro r
    obtain ⟨L1, h1, h2⟩ := ih2 r
    obtain ⟨L2, h3, h4⟩ := ih1 h1
    exact ⟨L2, h3, h4.trans h2⟩
theorem kV_perm {L : List Key} {vs : List V} (p : vs.Perm (L.map kV)) : ∃ L' : List Key, vs = L'.map kV ∧ L'.Perm L := by
  generalize hM : L.map kV = M at p
  induction p generalizing L with
  | nil => cases L with | nil => exact ⟨[], rfl, List.Perm.refl _⟩ | cons => cases hM
  | cons x _ ih =>
    cases L with
    | nil => cases hM
    | cons k L =>
      simp only [List.map_cons, List.cons.injEq] at hM
      obtain ⟨L', e, p⟩ := ih hM.2
      exact ⟨k :: L', by rw [List.map_cons, hM.1, e], p.cons _⟩
  | swap x y l =>
    match L, hM with
    | k :: j :: L, hM =>
      simp only [List.map_cons, List.cons.injEq] at hM
      exact ⟨j :: k :: L, by rw [List.map_cons, List.map_cons, hM.1, hM.2.1, hM.2.2], List.Perm.swap _ _ _⟩
  | trans p1 p2 ih1 ih2 =>
    obtain ⟨L1, e1, q1⟩ := ih2 hM
    obtain ⟨L2, e2, q2⟩ := ih1 e1.symm
    exact ⟨L2, e2, q2.trans q1⟩
theorem cr_sortS (hc : X.calm = true) (hu : X.A.units + 64 < cLine) : CallR X (.builtin "sorted") (rSortS (cOf X)) := by
  intro pins s σ H xs us Q I r hq
  obtain ⟨F, io, st, p, L, rfl, sr, hp, hok, q⟩ := hq
  rw [Vals.ref1 r]
  have R : SetK X.w s.heap p L := (I.hok p _ hp).1
  obtain ⟨o, es, ep, t, ho, hex, hd, hv, hsz, hb, hf, hr, hl⟩ := setK_vals R
  refine Calls.call_function_entry kind_sorted plain_sorted entry_sorted (args_sorted1 _) ?_
  unfold Builtin.«sorted»
  refine wpAny_bind (m := checkCount "sorted" 1 1 _) (wpAny_pure ?_)
  refine wpAny_bind (collect_set (A := X.A.in1) (I.ok.hd hc) ⟨o, ho, hex.1, hd⟩ hf hb hr hl fun s1 vs k1 hz g1 o1 pm => ?_)
  obtain ⟨ws, v1, p1⟩ := vals_perm pm hv
  obtain ⟨L', rfl, p2⟩ := kV_perm p1
  have hok' : sortOk (L'.map keyD) = true := sortOk_perm hok (p2.map _).symm
  have hvl : vs.length = L'.length := by rw [← v1.length, List.length_map]
  have hll := p2.length_eq
  refine wpAny_bind (wpAny_newList ?_ (by rw [hvl, hll, ← hsz]; exact fits_of_scanBound hb))
  have e1 : s1 = { s with heap := s1.heap, gens := s1.gens, drawn := s1.drawn, toks := s1.toks } := by
    cases s1
    cases s
    cases o1
    rfl
  have I1 : Inv X pins σ H { s with heap := s1.heap, gens := s1.gens, drawn := s1.drawn, toks := s1.toks } :=
    I.call (ch := []) (Un.kept k1) (I.hok.kept k1) (by rw [g1]; exact I.bare) (fun _ z => nomatch z)
  rw [← e1] at I1
  have hb2 : s.heap.objs.size = s.heap.objs.size := rfl
  refine wpAny_bind (wpAny_holding (wpAny_mono (Q := fun _ s' => EP X pins σ Q (.ref s1.heap.objs.size) s') (sort_new I1 sr v1 (reps_keys L') (by show X.A.units + 1 + 60 < cLine; omega) hok' fun out ys w1 w2 hy => ?_) (fun _ s' x => wpAny_pure ⟨_, rfl, x⟩) fun _ _ e => e))
  rw [sort_perm hok' (p2.map keyD)] at w2
  refine sorted_fin I1 sr w1 w2 ?_ q
  rw [hy, List.length_map, hll, ← hsz]; exact fits_of_scanBound hb
/-- the number of members -/
def rLenS (c : C) : List V → Hp → VK → Prop := fun xs H Q => ∃ p L, xs = [.ref p] ∧ H p = some (setH c.w p L) ∧ Q (.int L.length) H
theorem cr_lenS : CallR X (.builtin "len") (rLenS (cOf X)) := by
  intro pins s σ H xs us Q I r hq
  obtain ⟨p, L, rfl, hp, q⟩ := hq
  rw [Vals.ref1 r]
  have R : SetK X.w s.heap p L := (I.hok p _ hp).1
  obtain ⟨o, es, ep, t, ho, hex, hd, hv, hsz, hb, hf, hr, hl⟩ := setK_vals R
  refine call_len_set ho hex hd hf (by unfold scanBound at hb; omega) ⟨.int L.length, H, I.tok _, ⟨_, by rw [hsz]⟩, q⟩
/-- what a set is made of -/
def fSetK (st : Store) (x : D) : Option (List Key) := (itemsOf st x).bind fun ds => (keysD ds).bind fun ks => if ks.length + 1 < 4096 then some (dedK ks) else none
def dSortSet (a : Den) : Den := fun env st => (a env st).bind fun p => (fSetK p.2 p.1).bind fun ks => if sortOk (ks.map keyD) = true then some (.lst ((ks.map keyD).mergeSort dle), p.2) else none
def dLenSet (a : Den) : Den := fun env st => (a env st).bind fun p => (fSetK p.2 p.1).map fun ks => (.int ks.length, p.2)
end
section
variable {X : Cx} {e : Expr} {pos p pos2 p2 : Pos} {a : Den} {x y : Str}
/-- a new object that is forgotten at once -/
theorem Grow.forget {c : C} {F H : Hp} {io : List Addr} {st : Store} {q : Addr} {o : HO} (s : SRel c F io st H) (hp : H q = none) : Grow F io H F io (upd H q o) ∧ SRel c F io st (upd H q o) := by
  refine ⟨⟨Sub.refl _, ⟨[], by simp⟩, fun b u e _ => by rw [upd_ne (ne_of_none e hp)]; exact e, fun b u e => ⟨u, by rw [upd_ne (ne_of_none e hp)]; exact e⟩, fun b u e => .inl e, fun b h => .inl h⟩, ⟨fun b u e => by rw [upd_ne (ne_of_none (s.sub b u e) hp)]; exact s.sub b u e, s.len, fun n a ob h1 h2 => ?_, s.nd⟩⟩
  obtain ⟨q1, q2⟩ := s.obj n a ob h1 h2
  obtain ⟨u, hu⟩ := q2.some
  have hne : a ≠ q := ne_of_none hu hp
  refine ⟨q1, ?_⟩
  have := q2.mono (more := []) (Sub.refl _) (H' := upd H q o) fun u e => by rw [upd_ne hne]; exact e
  rwa [List.append_nil] at this
theorem de_sortSet (hc : X.calm = true) (hu : X.A.units + 64 < cLine) (hm : X.mg x = none) (hm2 : X.mg y = none) (ha : DE X e a) (hg : Gl X x := by rfl) (hg2 : Gl X y := by rfl) (hv : bootBuiltins x = some (.builtin "sorted") := by decide +kernel) (hv2 : bootBuiltins y = some (.type "set") := by decide +kernel)
    (hn : x ≠ "__name__" := by decide) (hn2 : y ≠ "__name__" := by decide) (hdb : (x == ("__debug__" : Str)) = false := by decide) (hdb2 : (y == ("__debug__" : Str)) = false := by decide)
    (he : starEach [e] X.env = (false, eval e X.env) :: starEach [] X.env := by rfl) (hpl : (backTo pos2 (starEach [] X.env)).any (·.1) = false := by rfl)
    (he2 : starEach [.Call (.Name y p2) [e] [] pos2] X.env = (false, eval (.Call (.Name y p2) [e] [] pos2) X.env) :: starEach [] X.env := by rfl) (hpl2 : (backTo pos (starEach [] X.env)).any (·.1) = false := by rfl) :
    DE X (.Call (.Name x p) [.Call (.Name y p2) [e] [] pos2] [] pos) (dSortSet a) := by
  have h0 := pe_callTy (p := p2) (pos := pos2) (call_setL (X := X) hc) hg2 hm2 hv2 (pa_cons ha pa_nil he) hn2 hdb2 he hpl
  refine PE.imp (pe_callB (p := p) (pos := pos) (cr_sortS (X := X) hc hu) hg hm hv (pa_cons h0 pa_nil he2) hn hdb he2 hpl2) fun σ H Q h => ?_
  obtain ⟨F, io, env, st, d, st', hh, h1, q⟩ := h
  obtain ⟨⟨d1, st1⟩, h2, h1⟩ := Option.bind_eq_some_iff.mp h1
  obtain ⟨ks, h3, h1⟩ := Option.bind_eq_some_iff.mp h1
  dsimp only at h1 h3
  split at h1
  · rename_i hok
    cases h1
    obtain ⟨ds, h4, h3⟩ := Option.bind_eq_some_iff.mp h3
    obtain ⟨ks0, h5, h3⟩ := Option.bind_eq_some_iff.mp h3
    split at h3
    · rename_i hlt
      cases h3
      refine ⟨F, io, env, st, d1, _, hh, h2, fun z F1 io1 H1 g1 s1 r1 => ⟨z, F1, io1, _, d1, ds, ks0, rfl, s1, r1, h4, h5, hlt, fun pp L hp hL => ?_⟩⟩
      obtain ⟨g2, s2⟩ := Grow.forget (o := setH X.w pp L) s1 hp
      refine ⟨F1, io1, _, pp, L, rfl, s2, upd_same, sortOk_perm hok (hL.map _).symm, fun z F' H' g3 s3 r3 => ?_⟩
      rw [sort_perm (sortOk_perm hok (hL.map _).symm) (hL.map keyD)] at r3
      exact q z F' io1 H' (g1.trans (g2.trans g3)) s3 r3
    · cases h3
  · cases h1
theorem de_lenSet (hc : X.calm = true) (hm : X.mg x = none) (hm2 : X.mg y = none) (ha : DE X e a) (hg : Gl X x := by rfl) (hg2 : Gl X y := by rfl) (hv : bootBuiltins x = some (.builtin "len") := by decide +kernel) (hv2 : bootBuiltins y = some (.type "set") := by decide +kernel)
    (hn : x ≠ "__name__" := by decide) (hn2 : y ≠ "__name__" := by decide) (hdb : (x == ("__debug__" : Str)) = false := by decide) (hdb2 : (y == ("__debug__" : Str)) = false := by decide)
    (he : starEach [e] X.env = (false, eval e X.env) :: starEach [] X.env := by rfl) (hpl : (backTo pos2 (starEach [] X.env)).any (·.1) = false := by rfl)
    (he2 : starEach [.Call (.Name y p2) [e] [] pos2] X.env = (false, eval (.Call (.Name y p2) [e] [] pos2) X.env) :: starEach [] X.env := by rfl) (hpl2 : (backTo pos (starEach [] X.env)).any (·.1) = false := by rfl) :
    DE X (.Call (.Name x p) [.Call (.Name y p2) [e] [] pos2] [] pos) (dLenSet a) := by
  have h0 := pe_callTy (p := p2) (pos := pos2) (call_setL (X := X) hc) hg2 hm2 hv2 (pa_cons ha pa_nil he) hn2 hdb2 he hpl
  refine PE.imp (pe_callB (p := p) (pos := pos) (cr_lenS (X := X)) hg hm hv (pa_cons h0 pa_nil he2) hn hdb he2 hpl2) fun σ H Q h => ?_
  obtain ⟨F, io, env, st, d, st', hh, h1, q⟩ := h
  obtain ⟨⟨d1, st1⟩, h2, h1⟩ := Option.bind_eq_some_iff.mp h1
  obtain ⟨ks, h3, h1⟩ := Option.map_eq_some_iff.mp h1
  dsimp only at h1 h3
  cases h1
  obtain ⟨ds, h4, h3⟩ := Option.bind_eq_some_iff.mp h3
  obtain ⟨ks0, h5, h3⟩ := Option.bind_eq_some_iff.mp h3
  split at h3
  · rename_i hlt
    cases h3
    refine ⟨F, io, env, st, d1, _, hh, h2, fun z F1 io1 H1 g1 s1 r1 => ⟨z, F1, io1, _, d1, ds, ks0, rfl, s1, r1, h4, h5, hlt, fun pp L hp hL => ?_⟩⟩
    obtain ⟨g2, s2⟩ := Grow.forget (o := setH X.w pp L) s1 hp
    refine ⟨pp, L, rfl, upd_same, ?_⟩
    have := q (.int L.length) F1 io1 _ (g1.trans g2) s2 (by rw [hL.length_eq]; exact .int _)
    exact this
  · cases h3
end
end DL
set_option Elab.async false
set_option linter.all false
set_option maxRecDepth 100000
set_option maxHeartbeats 4000000
/-! DLR: repr of data, dicts within them too. -/
namespace DL
open PySem PySem.Spec PyProof.Rows L2

/-- no dict of this heap is the library's own -/
def NoSys (h : Heap) : Prop := ∀ a o es n, h.get? a = some o → o.data = .dict es n → (a == sysModules) = false
section
variable {prog : Program} {w : World} {h₀ : Heap} (ns : NoSys h₀)
include ns
mutual
theorem reprK_data : ∀ {v : Value} {d : PyData} {as : List Addr}, Reads h₀ v d as → d.showable = true → d.shown.length ≤ sizeLine → ∃ bs, ReadAtMost h₀ d.depth bs ∧ ReprK prog w bs h₀ d.depth v d.shown
  | _, _, _, .none, _, _ => ⟨[], (fun _ h => nomatch h), by simp only [PyData.shown]; exact .of_is ReprIs.none _ _ _⟩
  | _, _, _, .bool b, _, _ => ⟨[], (fun _ h => nomatch h), by simp only [PyData.shown]; exact .of_is (ReprIs.bool b) _ _ _⟩
  | _, _, _, .int i t, hs, _ => ⟨[], (fun _ h => nomatch h), by simp only [PyData.shown]; exact .of_is (ReprIs.int t (by simpa [PyData.showable] using hs)) _ _ _⟩
  | _, _, _, .str x t, _, hz => ⟨[], (fun _ h => nomatch h), by simp only [PyData.shown]; exact .of_is (ReprIs.str x t (by simpa only [PyData.shown] using hz)) _ _ _⟩
  | _, _, _, .list (a := a) (vs := vs) (xs := xs) h1 h2 h3 h4, hs, hz => by
    have hz' : (listText (PyData.shownAll xs)).length ≤ sizeLine := by simpa only [PyData.shown] using hz
    obtain ⟨bs, hb, hk⟩ := reprAllK_data h4 (by simpa [PyData.showable] using hs) (fun t ht => Nat.le_trans (listText_mem_le ht) hz')
    have r : Reads h₀ (.ref a) (.list xs) _ := .list h1 h2 h3 h4
    have hna : a ∉ bs := not_mem_of_deeper r (by simp only [PyData.depth]; omega) hb
    refine ⟨a :: bs, ReadAtMost.cons r (by simp only [PyData.depth]; omega) hb, ?_⟩
    simp only [PyData.depth, PyData.shown]
    obtain ⟨l⟩ := vs
    cases l with
    | nil =>
      have h4' : ReadsAll h₀ [] xs _ := h4
      cases h4'
      simp only [PyData.shownAll, listText_nil]
      exact ReprK.listEmpty h1 h2 h3
    | cons x l => exact ReprK.list h1 h2 h3 hna (by simpa using hk.length_eq) (fun i y e => hk.item i y (by simpa using e))
  | _, _, _, .tuple (a := a) (xs := xs) h1 h2 h3 h4, hs, hz => by
    have hz' : (tupleText (PyData.shownAll xs)).length ≤ sizeLine := by simpa only [PyData.shown] using hz
    obtain ⟨bs, hb, hk⟩ := reprAllK_data h4 (by simpa [PyData.showable] using hs) (fun t ht => Nat.le_trans (tupleText_mem_le ht) hz')
    have r : Reads h₀ (.ref a) (.tuple xs) _ := .tuple h1 h2 h3 h4
    have hna : a ∉ bs := not_mem_of_deeper r (by simp only [PyData.depth]; omega) hb
    refine ⟨a :: bs, ReadAtMost.cons r (by simp only [PyData.depth]; omega) hb, ?_⟩
    simp only [PyData.depth, PyData.shown]
    exact ReprK.tuple h1 h2 h3 hna hk
  | _, _, _, .dict (a := a) (es := es) (kvs := kvs) h1 h2 h3 h4 h5, hs, hz => by
    have hz' : (dictText (PyData.shownKv kvs)).length ≤ sizeLine := by simpa only [PyData.shown] using hz
    obtain ⟨hs1, hs2⟩ := PyData.showableKv_split kvs (by simpa [PyData.showable] using hs)
    obtain ⟨b1, hb1, k1⟩ := reprAllK_data h4 hs1 (fun t ht => let ⟨p, hp, hl⟩ := PyData.shownKv_key_le kvs t ht; Nat.le_trans hl (Nat.le_trans (dictText_mem_le hp) hz'))
    obtain ⟨b2, hb2, k2⟩ := reprAllK_data h5 hs2 (fun t ht => let ⟨p, hp, hl⟩ := PyData.shownKv_val_le kvs t ht; Nat.le_trans hl (Nat.le_trans (dictText_mem_le hp) hz'))
    have r : Reads h₀ (.ref a) (.dict kvs) _ := .dict h1 h2 h3 h4 h5
    have hb : ReadAtMost h₀ (PyData.depthKv kvs) (b1 ++ b2) := (hb1.mono (PyData.depthAll_keys_le kvs)).append (hb2.mono (PyData.depthAll_vals_le kvs))
    have hna : a ∉ b1 ++ b2 := not_mem_of_deeper r (by simp only [PyData.depth]; omega) hb
    refine ⟨a :: (b1 ++ b2), ReadAtMost.cons r (by simp only [PyData.depth]; omega) hb, ?_⟩
    simp only [PyData.depth, PyData.shown, PyData.shownKv_eq]
    exact ReprK.dict h1 h2 h3 (ns _ _ _ _ h1 h3) hna (ReprEntriesK.of_two es.toList _ _
      (k1.more_le (fun b hb => List.mem_append_left _ hb) (PyData.depthAll_keys_le kvs)) (k2.more_le (fun b hb => List.mem_append_right _ hb) (PyData.depthAll_vals_le kvs)))
theorem reprAllK_data : ∀ {vs : List Value} {ds : List PyData} {as : List Addr}, ReadsAll h₀ vs ds as → PyData.showableAll ds = true → (∀ t ∈ PyData.shownAll ds, t.length ≤ sizeLine) →
    ∃ bs, ReadAtMost h₀ (PyData.depthAll ds) bs ∧ ReprAllK prog w bs h₀ (PyData.depthAll ds) vs (PyData.shownAll ds)
  | _, _, _, .nil, _, _ => ⟨[], (fun _ h => nomatch h), by simp only [PyData.shownAll]; exact .nil⟩
  | _, _, _, .cons (d := d) (ds := ds) r rs, hs, hz => by
    have hs' : d.showable = true ∧ PyData.showableAll ds = true := by simpa [PyData.showableAll] using hs
    obtain ⟨b1, hb1, k1⟩ := reprK_data r hs'.1 (hz _ (by simp only [PyData.shownAll]; exact List.mem_cons_self ..))
    obtain ⟨b2, hb2, k2⟩ := reprAllK_data rs hs'.2 (fun t ht => hz t (by simp only [PyData.shownAll]; exact List.mem_cons_of_mem _ ht))
    refine ⟨b1 ++ b2, ?_, ?_⟩
    · intro b hm
      simp only [PyData.depthAll]
      rcases List.mem_append.mp hm with hm | hm
      · obtain ⟨d', as', r', hd'⟩ := hb1 b hm
        exact ⟨d', as', r', Nat.le_trans hd' (Nat.le_max_left _ _)⟩
      · obtain ⟨d', as', r', hd'⟩ := hb2 b hm
        exact ⟨d', as', r', Nat.le_trans hd' (Nat.le_max_right _ _)⟩
    · simp only [PyData.depthAll, PyData.shownAll]
      exact .cons ((k1.more fun b hb => List.mem_append_left _ hb).level_le (Nat.le_max_left _ _)) (k2.more_le (fun b hb => List.mem_append_right _ hb) (Nat.le_max_right _ _))
end
theorem repr_any {A : Around} {E : Value → Shared → Prop} {s : Shared} {Q : Value → Shared → Prop} {v : Value} {d : PyData} {as : List Addr} (r : Reads h₀ v d as) (hs : d.showable = true) (hg : A.guards = some []) (hu : A.units + (d.depth + 1) < cLine) (hk0 : ∀ b o, h₀.get? b = some o → s.heap.get? b = some o)
    (hsz : d.shown.length ≤ sizeLine) (hQ : ∀ h' u tk, (∀ b o, s.heap.get? b = some o → h'.get? b = some o) → Q (.str d.shown u) { s with heap := h', toks := tk }) : wpAny (model prog w) A (call (.builtin "repr") [v]) Q E s := by
  have hu1 : A.units + 1 < cLine := by omega
  cases r with
  | none => exact PySem.P.repr_of_none (hQ s.heap _ _ fun _ _ e => e)
  | bool b => exact PySem.P.repr_of_bool (by have := hQ s.heap s.toks (s.toks + 1) fun _ _ e => e; simpa only [PyData.shown] using this)
  | int i t => exact PySem.P.repr_of_int (by simpa [PyData.showable] using hs) (hQ s.heap _ _ fun _ _ e => e)
  | str x t => exact PySem.P.repr_of_str (hQ s.heap _ _ fun _ _ e => e) (by simpa only [PyData.shown] using hsz)
  | list h1 h2 h3 h4 =>
    rename_i a o vs n xs bs₀
    have hz' : (listText (PyData.shownAll xs)).length ≤ sizeLine := by simpa only [PyData.shown] using hsz
    obtain ⟨bs, hb, hk⟩ := reprAllK_data (prog := prog) (w := w) ns h4 (by simpa [PyData.showable] using hs) (fun t ht => Nat.le_trans (listText_mem_le ht) hz')
    have hna : a ∉ bs := not_mem_of_deeper (.list h1 h2 h3 h4) (by simp only [PyData.depth]; omega) hb
    simp only [PyData.depth] at hu
    simp only [PyData.shown] at hQ
    refine call_repr_slot hu1 ⟨o, hk0 _ _ h1, h2⟩ F.slot_list_repr.toG ?_
    obtain ⟨l⟩ := vs
    cases l with
    | nil =>
      have h4' : ReadsAll h₀ [] xs _ := h4
      cases h4'
      simp only [PyData.shownAll, listText_nil] at hQ
      exact call_list_repr_empty ⟨o, hk0 _ _ h1, h2⟩ (hk0 _ _ h1) h3 ⟨_, _, rfl, hQ s.heap _ _ fun _ _ e => e⟩
    | cons x l =>
      exact call_list_reprK h1 h2 h3 hna (by simpa using hk.length_eq) (fun i y e => hk.item i y (by simpa using e)) hg (fun b _ => Clear.nil b) (by show A.units + 1 + _ < cLine; omega) hk0 (fun h' u tk hk => ⟨_, _, rfl, hQ h' u tk hk⟩) hz'
  | tuple h1 h2 h3 h4 =>
    rename_i a o vs n xs
    have hz' : (tupleText (PyData.shownAll xs)).length ≤ sizeLine := by simpa only [PyData.shown] using hsz
    obtain ⟨bs, hb, hk⟩ := reprAllK_data (prog := prog) (w := w) ns h4 (by simpa [PyData.showable] using hs) (fun t ht => Nat.le_trans (tupleText_mem_le ht) hz')
    have hna : a ∉ bs := not_mem_of_deeper (.tuple h1 h2 h3 h4) (by simp only [PyData.depth]; omega) hb
    simp only [PyData.depth] at hu
    simp only [PyData.shown] at hQ
    refine call_repr_slot hu1 ⟨o, hk0 _ _ h1, h2⟩ F.slot_tuple_repr ?_
    exact call_tuple_reprK h1 h2 h3 hna hk hg (fun b _ => Clear.nil b) (by show A.units + 1 + _ < cLine; omega) hk0 (fun h' u tk hk => ⟨_, _, rfl, hQ h' u tk hk⟩) hz'
  | dict h1 h2 h3 h4 h5 =>
    rename_i a o es n kvs as₁ bs₁
    have hz' : (dictText (PyData.shownKv kvs)).length ≤ sizeLine := by simpa only [PyData.shown] using hsz
    obtain ⟨hs1, hs2⟩ := PyData.showableKv_split kvs (by simpa [PyData.showable] using hs)
    obtain ⟨b1, hb1, k1⟩ := reprAllK_data (prog := prog) (w := w) ns h4 hs1 (fun t ht => let ⟨p, hp, hl⟩ := PyData.shownKv_key_le kvs t ht; Nat.le_trans hl (Nat.le_trans (dictText_mem_le hp) hz'))
    obtain ⟨b2, hb2, k2⟩ := reprAllK_data (prog := prog) (w := w) ns h5 hs2 (fun t ht => let ⟨p, hp, hl⟩ := PyData.shownKv_val_le kvs t ht; Nat.le_trans hl (Nat.le_trans (dictText_mem_le hp) hz'))
    have hb : ReadAtMost h₀ (PyData.depthKv kvs) (b1 ++ b2) := (hb1.mono (PyData.depthAll_keys_le kvs)).append (hb2.mono (PyData.depthAll_vals_le kvs))
    have hna : a ∉ b1 ++ b2 := not_mem_of_deeper (.dict h1 h2 h3 h4 h5) (by simp only [PyData.depth]; omega) hb
    simp only [PyData.depth] at hu
    simp only [PyData.shown, PyData.shownKv_eq] at hQ
    refine call_repr_slot hu1 ⟨o, hk0 _ _ h1, h2⟩ F.slot_dict_repr ?_
    exact call_dict_reprK h1 h2 h3 (ns _ _ _ _ h1 h3) hna (ReprEntriesK.of_two es.toList _ _
      (k1.more_le (fun b hb => List.mem_append_left _ hb) (PyData.depthAll_keys_le kvs)) (k2.more_le (fun b hb => List.mem_append_right _ hb) (PyData.depthAll_vals_le kvs))) hg (fun b _ => Clear.nil b) (by show A.units + 1 + _ < cLine; omega) hk0 (fun h' u tk hk => ⟨_, _, rfl, hQ h' u tk hk⟩) (by rw [← PyData.shownKv_eq]; exact hz')
end

mutual
/-- as the library's data, dicts too -/
def toPR : D → PyData
  | .non => .none
  | .bl b => .bool b
  | .int i => .int i
  | .str x => .str (strOf x)
  | .tup ds => .tuple (toPRs ds)
  | .lst ds => .list (toPRs ds)
  | .dic _ ks vs => .dict ((toPRs ks).zip (toPRs vs))
  | .ref _ => .none
  | .scr _ => .none
def toPRs : List D → List PyData
  | [] => []
  | d :: ds => toPR d :: toPRs ds
end
mutual
/-- no object of the store within -/
def plR : D → Bool
  | .tup ds => plRs ds
  | .lst ds => plRs ds
  | .dic _ ks vs => plRs ks && plRs vs && decide (ks.length = vs.length)
  | .ref _ => false
  | .scr _ => false
  | _ => true
def plRs : List D → Bool
  | [] => true
  | d :: ds => plR d && plRs ds
end
theorem toPRs_map : ∀ ds : List D, toPRs ds = ds.map toPR
  | [] => rfl
  | d :: ds => by rw [toPRs, toPRs_map ds]; rfl
section
variable {X : Cx} {pins : List (Addr × Obj)} {σ : L2.St} {H F : Hp} {io : List Addr} {st : Store} {s : Shared} {G : Heap}
mutual
theorem readsR (I : Inv X pins σ H s) (sr : SRel (cOf X) F io st H) (hG : ∀ b o, s.heap.get? b = some o → ((∀ es n, o.data ≠ .dict es n) ∨ (b == sysModules) = false) → G.get? b = some o) : ∀ (d : D) (v : V) (u : Value), Rep (cOf X) io F v d → plR d = true → RelV v u → ∃ as, Reads G u (toPR d) as
  | .non, _, _, h, _, r => by
    cases h
    cases r
    exact ⟨_, Reads.none⟩
  | .bl b, _, _, h, _, r => by
    cases h
    cases r
    exact ⟨_, Reads.bool b⟩
  | .int i, _, _, h, _, r => by
    cases h
    obtain ⟨t, rfl⟩ := r
    exact ⟨_, Reads.int i t⟩
  | .str x, _, _, h, _, r => by
    cases h
    obtain ⟨t, rfl⟩ := r
    exact ⟨_, Reads.str _ t⟩
  | .lst ds, _, _, h, p, r => by
    cases h with
    | lst hs ha =>
      cases r
      obtain ⟨its, rv, ⟨o, n, ho, hc, _, hd⟩, _⟩ := I.list (.inl (.inl (sr.sub _ _ hs)))
      obtain ⟨as, hr⟩ := readsRs I sr hG ds _ its ha (by simpa only [plR] using p) rv
      exact ⟨_, Reads.list (hG _ _ ho (.inl fun es n e => by rw [hd] at e; cases e)) hc hd hr⟩
  | .tup ds, _, _, h, p, r => by
    cases h with
    | tup hs ha =>
      cases r
      obtain ⟨its, rv, ⟨o, ho, hc, n, hd⟩, _⟩ := I.tuple (Sub.sqT sr.sub hs)
      obtain ⟨as, hr⟩ := readsRs I sr hG ds _ its ha (by simpa only [plR] using p) rv
      exact ⟨_, Reads.tuple (hG _ _ ho (.inl fun es n e => by rw [hd] at e; cases e)) hc hd hr⟩
  | .dic t ks vs, v, u, h, p, r => by
    simp only [plR, Bool.and_eq_true, decide_eq_true_eq] at p
    obtain ⟨a, o, es, ep, kv, vv, rfl, ho, hx, hdat, lo, hz, k1, k2, k3, k4⟩ := dic_raw I sr h (show dicOf st (.dic t ks vs) = some (t, ks, vs) from rfl)
    cases r
    obtain ⟨as, h1⟩ := readsRs I sr hG ks _ _ k2 p.1.1 k1
    obtain ⟨bs, h2⟩ := readsRs I sr hG vs _ _ k4 p.1.2 k3
    have hl : (toPRs ks).length = (toPRs vs).length := by rw [toPRs_map, toPRs_map, List.length_map, List.length_map]; exact p.2
    refine ⟨_, Reads.dict (kvs := (toPRs ks).zip (toPRs vs)) (as := as) (bs := bs) (hG _ _ ho (.inr lo)) hx.1 hdat ?_ ?_⟩
    · rw [List.map_fst_zip (by omega)]; exact h1
    · rw [List.map_snd_zip (by omega)]; exact h2
  | .ref _, _, _, _, p, _ => by cases p
  | .scr _, _, _, _, p, _ => by cases p
theorem readsRs (I : Inv X pins σ H s) (sr : SRel (cOf X) F io st H) (hG : ∀ b o, s.heap.get? b = some o → ((∀ es n, o.data ≠ .dict es n) ∨ (b == sysModules) = false) → G.get? b = some o) : ∀ (ds : List D) (vs : List V) (us : List Value), Reps (cOf X) io F vs ds → plRs ds = true → Vals vs us → ∃ as, ReadsAll G us (toPRs ds) as
  | [], _, _, h, _, r => by
    cases h
    cases r
    exact ⟨_, ReadsAll.nil⟩
  | d :: ds, _, _, h, p, r => by
    simp only [plRs, Bool.and_eq_true] at p
    cases h with
    | cons h1 h2 =>
      cases r with
      | cons r1 r2 =>
        obtain ⟨as, q1⟩ := readsR I sr hG d _ _ h1 p.1 r1
        obtain ⟨bs, q2⟩ := readsRs I sr hG ds _ _ h2 p.2 r2
        exact ⟨_, ReadsAll.cons q1 q2⟩
end
end
/-- what repr shows -/
def shownD (d : D) : Str := PyData.shown (toPR d)
def reprOk (d : D) : Bool := plR d && PyData.showable (toPR d) && decide ((toPR d).depth ≤ 60) && decide ((shownD d).length ≤ 16777216)
def fRepr (_ : Store) (d : D) : Option D := if reprOk d = true then some (.str (shownD d).cps.toList) else none
theorem c_repr {X : Cx} (hu : X.A.units + 64 < cLine) (hg : X.A.guards = some []) : CallR X (.builtin "repr") (rC (cOf X) (pure1 fRepr)) := cr1 fun pins s σ H x us Q F io st dx d I r sr r1 e q => by
  unfold fRepr at e
  split at e
  · rename_i hok
    cases e
    unfold reprOk at hok
    simp only [Bool.and_eq_true, decide_eq_true_eq] at hok
    obtain ⟨⟨⟨o1, o2⟩, o3⟩, o4⟩ := hok
    obtain ⟨G, g1, g2⟩ := L2.restrict s.heap fun b => match s.heap.get? b with
      | some o => (match o.data with
        | .dict _ _ => !(b == sysModules)
        | _ => true)
      | none => true
    have hG : ∀ b o, s.heap.get? b = some o → ((∀ es n, o.data ≠ .dict es n) ∨ (b == sysModules) = false) → G.get? b = some o := fun b o e h => by
      rw [g1 b ?_]; exact e
      rw [e]
      dsimp only
      split
      · rename_i es n hd
        rcases h with h | h
        · exact absurd hd (h _ _)
        · rw [h]; rfl
      · rfl
    have hk : ∀ b o, G.get? b = some o → s.heap.get? b = some o := fun b o e => by
      cases hp : (match s.heap.get? b with
      | some o => (match o.data with
        | .dict _ _ => !(b == sysModules)
        | _ => true)
      | none => true : Bool) with
      | true => rw [← g1 b hp]; exact e
      | false => rw [g2 b hp] at e; cases e
    have hns : NoSys G := fun a o es n e hd => by
      have e2 := hk _ _ e
      cases ha : (a == sysModules) with
      | false => rfl
      | true =>
        have := g2 a (by rw [e2]; dsimp only; rw [hd]; dsimp only; rw [ha]; rfl)
        rw [this] at e; cases e
    cases r with
    | cons rx rt =>
      cases rt
      obtain ⟨as, rr⟩ := readsR I sr hG dx x _ r1 o1 rx
      refine repr_any hns rr o2 hg (by omega) hk (by rw [sizeLine_eq]; exact o4) fun h' u tk hk2 => ?_
      refine ⟨.str (shownD dx), H, I.kept hk2, ⟨u, rfl⟩, q _ F H Grow.refl sr ?_⟩
      have := Rep.str (c := cOf X) (io := io) (F := F) (shownD dx).cps.toList
      rwa [strOf_toList] at this
  · cases e
end DL
set_option Elab.async false
set_option linter.all false
set_option maxRecDepth 100000
set_option maxHeartbeats 4000000
/-! DLV: comparison of lists of the store, list(range), constants of the module. -/
namespace DL
open PySem PySem.Spec PyProof.Rows L2

/-- a list of the store, as it is now -/
def flat (st : Store) : D → D
  | .ref n => (match st[n]? with
    | some (.lst ds) => .lst ds
    | _ => .ref n)
  | d => d
def fEqR : F2 := fun st x y => fEq st (flat st x) (flat st y)
def fNeR : F2 := fun st x y => fNe st (flat st x) (flat st y)
theorem flat_dp {c : C} {F H : Hp} {io : List Addr} {st : Store} {v : V} {d : D} (s : SRel c F io st H) (r : Rep c io F v d) (p : pl (flat st d) = true) : Dp c.K H v (toPy (flat st d)) := by
  cases d with
  | ref n =>
    cases r with
    | ref hn =>
      unfold flat at p ⊢
      cases hs : st[n]? with
      | none => simp only [hs] at p; cases p
      | some o =>
        cases o with
        | lst es =>
          simp only [hs] at p ⊢
          obtain ⟨_, ho⟩ := s.obj n _ _ hn hs
          cases ho with
          | lst h1 k1 => exact .lst (.inl (.inl h1)) (Reps.dp s.sub k1 (by simpa only [pl] using p))
        | _ => simp only [hs] at p; cases p
  | _ => exact r.dp s.sub p
section
variable {X : Cx}
theorem o_eqR (hu : X.A.units + 64 < cLine) : OpR X (compareOp .Eq) (r2 (cOf X) fEqR) := opr fun pins s σ H x y v u Q F io st dx dy d I rx ry sr r1 r2 e q => by
  have e' : (if cmpOk (flat st dx) (flat st dy) = true then some (D.bl (deq (flat st dx) (flat st dy))) else none) = some d := e
  split at e'
  · rename_i hl
    cases e'
    obtain ⟨p1, p2, hr⟩ := cmpOk_room hl hu
    obtain ⟨as, q1⟩ := Dp.reads I _ x v (flat_dp sr r1 p1) rx
    obtain ⟨bs, q2⟩ := Dp.reads I _ y u (flat_dp sr r2 p2) ry
    exact PySem.SeqAt.eq_plain q1 q2 (plain_toPy _ p1) (plain_toPy _ p2) hr ⟨.bl _, H, I, rfl, q _ F H Grow.refl sr (.bl _)⟩
  · cases e'
theorem o_neR (hu : X.A.units + 64 < cLine) : OpR X (compareOp .NotEq) (r2 (cOf X) fNeR) := opr fun pins s σ H x y v u Q F io st dx dy d I rx ry sr r1 r2 e q => by
  have e' : (if cmpOk (flat st dx) (flat st dy) = true then some (D.bl (!deq (flat st dx) (flat st dy))) else none) = some d := e
  split at e'
  · rename_i hl
    cases e'
    obtain ⟨p1, p2, hr⟩ := cmpOk_room hl hu
    obtain ⟨as, q1⟩ := Dp.reads I _ x v (flat_dp sr r1 p1) rx
    obtain ⟨bs, q2⟩ := Dp.reads I _ y u (flat_dp sr r2 p2) ry
    exact PySem.SeqAt.ne_plain q1 q2 (plain_toPy _ p1) (plain_toPy _ p2) hr ⟨.bl _, H, I, rfl, q _ F H Grow.refl sr (.bl _)⟩
  · cases e'
/-! ### list(range(..)) -/
theorem rgV_ints (a b : Int) : rgV a b = ((List.range (b - a).toNat).map fun (k : Nat) => a + (k : Int)).map V.int := by
  apply List.ext_getElem?
  intro i
  unfold rgV
  simp [Function.comp_def]
def intsL (ns : List Int) : List D := ns.map D.int
def rgD (a b : Int) : List D := intsL ((List.range (b - a).toNat).map fun (k : Nat) => a + (k : Int))
def rgOk (a b : Int) : Bool := decide (-(2 ^ 62) ≤ a) && decide (a < 2 ^ 62) && decide (-(2 ^ 62) ≤ b) && decide (b < 2 ^ 62) && decide ((b - a).toNat ≤ 2 ^ 24)
theorem rgOk_of {a b : Int} (h : rgOk a b = true) : RgOk a b := by
  unfold rgOk at h
  simp only [Bool.and_eq_true, decide_eq_true_eq] at h
  exact ⟨h.1.1.1.1, h.1.1.1.2, h.1.1.2, h.1.2, h.2⟩
def fin1 (d : List D) (st : Store) : D × Store := (.lst d, st)
def finR (d : List D) (st : Store) : D × Store := (.ref st.length, st ++ [.lst d])
def dLR1 (g : List D → Store → D × Store) (da : Den) : Den := fun env st => (da env st).bind fun p => match p.1 with
  | .int n => if rgOk 0 n = true then some (g (rgD 0 n) p.2) else none
  | _ => none
def dLR2 (g : List D → Store → D × Store) (da db : Den) : Den := fun env st => (da env st).bind fun p => (db env p.2).bind fun q => match p.1, q.1 with
  | .int m, .int n => if rgOk m n = true then some (g (rgD m n) q.2) else none
  | _, _ => none
variable {a b : Expr} {da db : Den} {p p2 pos pos2 : Pos}
theorem reps_rg {c : C} {io : List Addr} {F : Hp} (a b : Int) : Reps c io F (rgV a b) (rgD a b) := by
  rw [rgV_ints]; exact reps_ints _
theorem de_lr1 (hc : X.calm = true) (hm : X.mg "list" = none) (hm2 : X.mg "range" = none) (ha : DE X a da) (hg : Gl X "list" := by rfl) (hg2 : Gl X "range" := by rfl) (n1 : starEach [a] X.env = (false, eval a X.env) :: starEach [] X.env := by rfl)
    (n2 : starEach [.Call (.Name "range" p2) [a] [] pos2] X.env = (false, eval (.Call (.Name "range" p2) [a] [] pos2) X.env) :: starEach [] X.env := by rfl) : DE X (.Call (.Name "list" p) [.Call (.Name "range" p2) [a] [] pos2] [] pos) (dLR1 fin1 da) :=
  PE.imp (pe_listRg hc hg hm (prg_1 hg2 hm2 ha n1) n2) fun σ H Q h => by
    obtain ⟨F, io, env, st, d, st', hh, h1, q⟩ := h
    obtain ⟨⟨d1, st1⟩, h2, h1⟩ := Option.bind_eq_some_iff.mp h1
    dsimp only at h1
    split at h1
    · rename_i n
      split at h1
      · rename_i hok
        cases h1
        refine ⟨F, io, env, st, _, _, hh, h2, fun z F1 io1 H1 g1 s1 r1 => ?_⟩
        cases r1
        refine ⟨n, rfl, rgOk_of hok, fun pp hp => ?_⟩
        obtain ⟨g2, s2, r2⟩ := fin_lst s1 (reps_rg 0 n) hp
        exact q _ _ _ _ (g1.trans g2) s2 r2
      · cases h1
    · cases h1
theorem de_lr1R (hc : X.calm = true) (hm : X.mg "list" = none) (hm2 : X.mg "range" = none) (ha : DE X a da) (hg : Gl X "list" := by rfl) (hg2 : Gl X "range" := by rfl) (n1 : starEach [a] X.env = (false, eval a X.env) :: starEach [] X.env := by rfl)
    (n2 : starEach [.Call (.Name "range" p2) [a] [] pos2] X.env = (false, eval (.Call (.Name "range" p2) [a] [] pos2) X.env) :: starEach [] X.env := by rfl) : DE X (.Call (.Name "list" p) [.Call (.Name "range" p2) [a] [] pos2] [] pos) (dLR1 finR da) :=
  PE.imp (pe_listRg hc hg hm (prg_1 hg2 hm2 ha n1) n2) fun σ H Q h => by
    obtain ⟨F, io, env, st, d, st', hh, h1, q⟩ := h
    obtain ⟨⟨d1, st1⟩, h2, h1⟩ := Option.bind_eq_some_iff.mp h1
    dsimp only at h1
    split at h1
    · rename_i n
      split at h1
      · rename_i hok
        cases h1
        refine ⟨F, io, env, st, _, _, hh, h2, fun z F1 io1 H1 g1 s1 r1 => ?_⟩
        cases r1
        refine ⟨n, rfl, rgOk_of hok, fun pp hp => ?_⟩
        obtain ⟨g2, s2, r2⟩ := fin_lstR s1 (reps_rg 0 n) hp
        exact q _ _ _ _ (g1.trans g2) s2 r2
      · cases h1
    · cases h1
theorem de_lr2 (hc : X.calm = true) (hm : X.mg "list" = none) (hm2 : X.mg "range" = none) (ha : DE X a da) (hb : DE X b db) (hg : Gl X "list" := by rfl) (hg2 : Gl X "range" := by rfl) (n1 : starEach [a, b] X.env = (false, eval a X.env) :: starEach [b] X.env := by rfl)
    (n3 : starEach [b] X.env = (false, eval b X.env) :: starEach [] X.env := by rfl) (n4 : (backTo pos2 (starEach [b] X.env)).any (·.1) = false := by rfl)
    (n2 : starEach [.Call (.Name "range" p2) [a, b] [] pos2] X.env = (false, eval (.Call (.Name "range" p2) [a, b] [] pos2) X.env) :: starEach [] X.env := by rfl) : DE X (.Call (.Name "list" p) [.Call (.Name "range" p2) [a, b] [] pos2] [] pos) (dLR2 fin1 da db) :=
  PE.imp (pe_listRg hc hg hm (prg_2 hg2 hm2 ha hb n1 n3 n4) n2) fun σ H Q h => by
    obtain ⟨F, io, env, st, d, st', hh, h1, q⟩ := h
    obtain ⟨⟨d1, st1⟩, h2, h1⟩ := Option.bind_eq_some_iff.mp h1
    obtain ⟨⟨d2, st2⟩, h3, h1⟩ := Option.bind_eq_some_iff.mp h1
    dsimp only at h1 h3
    cases d1 with
    | int m =>
      cases d2 with
      | int n =>
        have h1 : (if rgOk m n = true then some (fin1 (rgD m n) st2) else none) = some (d, st') := h1
        split at h1
        · rename_i hok
          cases h1
          refine ⟨F, io, env, st, _, _, hh, h2, fun z F1 io1 H1 g1 s1 r1 => ?_⟩
          cases r1
          refine ⟨F1, io1, env, _, _, _, hh.grow g1 s1, h3, fun z2 F2 io2 H2 g2 s2 r2 => ?_⟩
          cases r2
          refine ⟨m, n, rfl, rfl, rgOk_of hok, fun pp hp => ?_⟩
          obtain ⟨g3, s3, r3⟩ := fin_lst s2 (reps_rg m n) hp
          exact q _ _ _ _ ((g1.trans g2).trans g3) s3 r3
        · cases h1
      | _ => cases h1
    | _ => cases d2 <;> cases h1
/-- a constant of the module -/
structure GC (P : Program) (w : World) (K : PySem.W.Frag) (mg : Str → Option Value) (x : Str) (d : D) : Prop where
  ex : ∃ v u, mg x = some u ∧ RelV v u ∧ ∀ io F, Rep ⟨K, w⟩ io F v d
theorem de_gc {x : Str} {d : D} (h : GC X.prog X.w X.K X.mg x d) (hg : Gl X x := by rfl) (hd : (x == ("__debug__" : Str)) = false := by decide) : DE X (.Name x pos) (dC d) := by
  obtain ⟨v, u, e, r, k⟩ := h.ex
  exact de_tC (pe_glob hg e r hd) fun io F => k io F
end
end DL
set_option Elab.async false
set_option linter.all false
set_option maxRecDepth 100000
set_option maxHeartbeats 4000000
/-! DLW: defs with what their names mean; += . -/
namespace DL
open PySem PySem.Spec PyProof.Rows L2

/-- the def x keeps the promise g -/
structure OkF (P : Program) (w : World) (K : PySem.W.Frag) (mg : Str → Option Value) (base : Heap) (x : Str) (ps : List Str) (k : Nat) (g : FD) : Prop where
  ex : ∃ f fd, FnG P w K mg base CX0 k f fd ps (spD ⟨K, w⟩ g) ∧ mg x = some (.ref f) ∧ PySem.W.keepIn K (.ref f) = true ∧ Binds K fd ps []
/-- the def x stands in the module, its text is st -/
structure DefAt (K : PySem.W.Frag) (mg : Str → Option Value) (x : Str) (st : Stmt) (ps : List Str) : Prop where
  ex : ∃ f fd, Fun K x x st f fd ∧ mg x = some (.ref f) ∧ Binds K fd ps []
section
variable {P : Program} {w : World} {K : PySem.W.Frag} {mg : Str → Option Value} {base : Heap} {x : Str} {st : Stmt} {ps N : List Str} {k : Nat} {b : DenS} {g : FD}
theorem okf (D : DefAt K mg x st ps) (S : FnScope N ps (defScope st))
    (hb : ∀ (cdv : Value) (A : Around) (outer : List PySem.Env) (s : Shared) (H : Hp) (E : XK) (f : Addr), RoomG k (cxOf CX0 P w K mg base N x (defScope st) f cdv A outer s H E).nox.A →
      DSs (cxOf CX0 P w K mg base N x (defScope st) f cdv A outer s H E).nox (defBody st) b) : OkF P w K mg base x ps (k + 1) (bodyD ps.length (N.length - ps.length) b) := by
  obtain ⟨f, fd, F, hm, hB⟩ := D.ex
  exact ⟨f, fd, ok_fn F S (fun cdv A outer s H E hr => hb cdv A outer s H E f hr), hm, F.kp, hB⟩
theorem okf_never (D : DefAt K mg x st ps) : OkF P w K mg base x ps k (fun _ _ => none) := by
  obtain ⟨f, fd, F, hm, hB⟩ := D.ex
  exact ⟨f, fd, FnG.never, hm, F.kp, hB⟩
theorem OkF.frz (h : OkF P w K mg base x ps k g) : OkF P w K mg base x ps k (frzD g) := by
  obtain ⟨f, fd, F, r⟩ := h.ex
  exact ⟨f, fd, F.frz, r⟩
theorem OkF.less {g' : FD} (h : OkF P w K mg base x ps k g) (hb : ∀ ds st r, g' ds st = some r → g ds st = some r) : OkF P w K mg base x ps k g' := by
  obtain ⟨f, fd, F, r⟩ := h.ex
  exact ⟨f, fd, F.less hb, r⟩
end
section
variable {X : Cx} {e : Expr} {es : List Expr} {p pos : Pos} {x : Str} {a : DenA} {ps : List Str} {k j : Nat} {g : FD}
theorem de_fun (h : OkF X.prog X.w X.K X.mg X.base x ps j g) (hr : RoomG k X.A) (ha : DA X (e :: es) a) (hj : j ≤ k := by decide) (hg : Gl X x := by rfl)
    (hdb : (x == ("__debug__" : Str)) = false := by decide) (he : starEach (e :: es) X.env = (false, eval e X.env) :: starEach es X.env := by rfl) (hpl : (backTo pos (starEach es X.env)).any (·.1) = false := by rfl) : DE X (.Call (.Name x p) (e :: es) [] pos) (dCallF g a) := by
  obtain ⟨f, fd, F, hm, hk, hB⟩ := h.ex
  exact de_call F (hr.mono hj) hm hk hB ha hg hdb he hpl
theorem de_fun0 (h : OkF X.prog X.w X.K X.mg X.base x ps j g) (hr : RoomG k X.A) (hj : j ≤ k := by decide) (hg : Gl X x := by rfl)
    (hdb : (x == ("__debug__" : Str)) = false := by decide) : DE X (.Call (.Name x p) [] [] pos) (dCallF g aNil) := by
  obtain ⟨f, fd, F, hm, hk, hB⟩ := h.ex
  exact de_call0 F (hr.mono hj) hm hk hB hg hdb
theorem hu_of (hr : RoomG k X.A) : X.A.units + 64 < cLine := by have := hr.room.un; omega
/-- += of numbers and texts -/
def fIAdd : F2 := fun _ x y => match x, y with
  | .int i, .int j => some (.int (i + j))
  | .str i, .str j => if i.length + j.length ≤ 16777216 then some (.str (i ++ j)) else none
  | _, _ => none
theorem o_iadd : OpR X (inplaceOp .Add) (r2 (cOf X) fIAdd) := opr fun pins s σ H x y v u Q F io st dx dy d I rx ry sr r1 r2 e q => by
  cases dx <;> cases dy <;> first | (cases e; done) | skip
  · cases e
    cases r1
    cases r2
    exact iop_add pins s σ H _ _ v u Q I rx ry ⟨_, _, rfl, rfl, q _ F H Grow.refl sr (.int _)⟩
  · rename_i i j
    have e' : (if i.length + j.length ≤ 16777216 then some (D.str (i ++ j)) else none) = some d := e
    split at e'
    · rename_i hl
      cases e'
      cases r1
      cases r2
      refine iop_add_str pins s σ H _ _ v u Q I rx ry ⟨_, _, rfl, rfl, by rw [strOf_len, strOf_len, sizeLine_eq]; exact hl, ?_⟩
      have h := q (.str (strOf (i ++ j))) F H Grow.refl sr (.str _)
      have e3 : strOf i ++ strOf j = strOf (i ++ j) := by
        show (⟨i.toArray ++ j.toArray⟩ : Str) = ⟨(i ++ j).toArray⟩
        simp
      rw [e3]; exact h
    · cases e'
end
section
variable {X : Cx} {elt tg iter : Expr} {ifs : List Expr} {scope : Scope} {own : List (Str × Nat)} {pos spos : Pos} {di : DenI} {g : DenG} {tt : DenT} {te : Den} {vs : List Nat}
theorem de_cm (hi : DI X tg iter di) (ok : BlkOk X.N X.env.scope scope own) (hv : own.map (·.2) = vs) (hN : X.N.Nodup)
    (hg : ∀ (s : Shared) (H : Hp) (C : Addr) (cl : List (Str × Addr)) (fp : List Addr), DG (X.blk s H scope (compEnvC scope cl C X.env) fp) vs tg g) (ht : ∀ (s : Shared) (H : Hp) (C : Addr) (cl : List (Str × Addr)) (fp : List Addr), DTs (X.blk s H scope (compEnvC scope cl C X.env) fp) ifs tt)
    (he : ∀ (s : Shared) (H : Hp) (C : Addr) (cl : List (Str × Addr)) (fp : List Addr), DE (X.blk s H scope (compEnvC scope cl C X.env) fp) elt te) (hc : X.calm = true := by rfl) (hs : ∀ x, foldedSetIterable iter X.env x = pure x := by intro _; rfl) :
    DE X (.ListComp elt [⟨tg, iter, ifs, 0⟩] scope pos) (dComp di g tt te vs) := by
  subst hv
  exact de_comp hc hN hi ok hg ht he hs
theorem de_cmR (hi : DI X tg iter di) (ok : BlkOk X.N X.env.scope scope own) (hv : own.map (·.2) = vs) (hN : X.N.Nodup)
    (hg : ∀ (s : Shared) (H : Hp) (C : Addr) (cl : List (Str × Addr)) (fp : List Addr), DG (X.blk s H scope (compEnvC scope cl C X.env) fp) vs tg g) (ht : ∀ (s : Shared) (H : Hp) (C : Addr) (cl : List (Str × Addr)) (fp : List Addr), DTs (X.blk s H scope (compEnvC scope cl C X.env) fp) ifs tt)
    (he : ∀ (s : Shared) (H : Hp) (C : Addr) (cl : List (Str × Addr)) (fp : List Addr), DE (X.blk s H scope (compEnvC scope cl C X.env) fp) elt te) (hc : X.calm = true := by rfl) (hs : ∀ x, foldedSetIterable iter X.env x = pure x := by intro _; rfl) :
    DE X (.ListComp elt [⟨tg, iter, ifs, 0⟩] scope pos) (dCompR di g tt te vs) := by
  subst hv
  exact de_compR hc hN hi ok hg ht he hs
variable {i : Nat} {y : Str} {py : Pos}
theorem ds_cm (hy : X.N[i]? = some y) (hyl : X.env.scope.names.lookup y = some .local) (hsw : swapsWith (.ListComp elt [⟨tg, iter, ifs, 0⟩] scope pos) (some (.Name y py)) spos.line X.env = pure true) (hi : DI X tg iter di) (ok : BlkOk X.N X.env.scope scope own) (hv : own.map (·.2) = vs) (hN : X.N.Nodup)
    (hg : ∀ (s : Shared) (H : Hp) (C : Addr) (cl : List (Str × Addr)) (fp : List Addr), DG (X.blk s H scope (compEnvC scope cl C X.env) fp) vs tg g) (ht : ∀ (s : Shared) (H : Hp) (C : Addr) (cl : List (Str × Addr)) (fp : List Addr), DTs (X.blk s H scope (compEnvC scope cl C X.env) fp) ifs tt)
    (he : ∀ (s : Shared) (H : Hp) (C : Addr) (cl : List (Str × Addr)) (fp : List Addr), DE (X.blk s H scope (compEnvC scope cl C X.env) fp) elt te) (hc : X.calm = true := by rfl) (hs : ∀ x, foldedSetIterable iter X.env x = pure x := by intro _; rfl) :
    DS X (.Assign [.Name y py] (.ListComp elt [⟨tg, iter, ifs, 0⟩] scope pos) spos) (sSet i (dComp di g tt te vs)) := by
  subst hv
  exact ds_setComp hc hN hi ok hg ht he hy hyl hsw hs
theorem ds_cmR (hy : X.N[i]? = some y) (hyl : X.env.scope.names.lookup y = some .local) (hsw : swapsWith (.ListComp elt [⟨tg, iter, ifs, 0⟩] scope pos) (some (.Name y py)) spos.line X.env = pure true) (hi : DI X tg iter di) (ok : BlkOk X.N X.env.scope scope own) (hv : own.map (·.2) = vs) (hN : X.N.Nodup)
    (hg : ∀ (s : Shared) (H : Hp) (C : Addr) (cl : List (Str × Addr)) (fp : List Addr), DG (X.blk s H scope (compEnvC scope cl C X.env) fp) vs tg g) (ht : ∀ (s : Shared) (H : Hp) (C : Addr) (cl : List (Str × Addr)) (fp : List Addr), DTs (X.blk s H scope (compEnvC scope cl C X.env) fp) ifs tt)
    (he : ∀ (s : Shared) (H : Hp) (C : Addr) (cl : List (Str × Addr)) (fp : List Addr), DE (X.blk s H scope (compEnvC scope cl C X.env) fp) elt te) (hc : X.calm = true := by rfl) (hs : ∀ x, foldedSetIterable iter X.env x = pure x := by intro _; rfl) :
    DS X (.Assign [.Name y py] (.ListComp elt [⟨tg, iter, ifs, 0⟩] scope pos) spos) (sSet i (dCompR di g tt te vs)) := by
  subst hv
  exact ds_setCompR hc hN hi ok hg ht he hy hyl hsw hs
end
/-- x[::-1], a list of the store too -/
def fRevS (st : Store) (x : D) : Option D := match x with
  | .tup ds => some (.tup ds.reverse)
  | x => (itemsOf st x).map fun ds => .lst ds.reverse
def dRevS (da : Den) : Den := fun env st => (da env st).bind fun p => (fRevS p.2 p.1).map fun d => (d, p.2)
theorem de_revS {X : Cx} {e : Expr} {da : Den} {k : Nat} {p1 p2 p3 pos : Pos} (he : DE X e da) : DE X (.Subscript e (.Slice none none (some (.UnaryOp .USub (.Constant (.int 1) k p1) p2)) p3) pos) (dRevS da) := by
  refine PE.imp (pe_revA he) fun σ H Q h => ?_
  obtain ⟨F, io, env, st, d, st', hh, hd, q⟩ := h
  unfold dRevS at hd
  obtain ⟨⟨x, st1⟩, h1, hd⟩ := Option.bind_eq_some_iff.mp hd
  obtain ⟨z, h2, hd⟩ := Option.map_eq_some_iff.mp hd
  obtain ⟨e1, e2⟩ := Prod.mk.inj hd
  subst e1
  subst e2
  refine ⟨F, io, env, st, x, _, hh, h1, fun v F1 io1 H1 g1 s1 r1 => ?_⟩
  have gen : (itemsOf st1 x).map (fun ds => D.lst ds.reverse) = some z → ∃ a xs, v = V.ref a ∧ ((SqL X.K H1 a xs ∧ ∀ p, H1 p = none → Q (.ref p) (upd H1 p (.lst xs.reverse))) ∨ (SqT X.K H1 a xs ∧ ∀ p, H1 p = none → Q (.ref p) (upd H1 p (.tup xs.reverse)))) := fun h2 => by
    obtain ⟨ds, h3, rfl⟩ := Option.map_eq_some_iff.mp h2
    obtain ⟨a, xs, rfl, h4, k2⟩ := itemsOf_list s1 r1 h3
    refine ⟨_, _, rfl, .inl ⟨.inl (.inl h4), fun p hp => ?_⟩⟩
    obtain ⟨g, s2, r⟩ := fin_lst s1 k2.reverse hp
    exact q _ _ _ _ (g1.trans g) s2 r
  cases x with
  | tup ds =>
    cases h2
    cases r1 with
    | tup k1 k2 =>
      refine ⟨_, _, rfl, .inr ⟨Sub.sqT s1.sub k1, fun p hp => ?_⟩⟩
      obtain ⟨g, s2, r⟩ := fin_tup s1 k2.reverse hp
      exact q _ _ _ _ (g1.trans g) s2 r
  | _ => exact gen h2
end DL
set_option Elab.async false
set_option linter.all false
set_option maxRecDepth 100000
set_option maxHeartbeats 4000000
/-! DLH: the end: facts of the top by a Hook, the law's walk where no repr is under way. -/
namespace DL
open PySem PySem.Spec PyProof.Rows L2
abbrev AlX : Type := He.AlD × Bool
def obsX (fa : List He.Fa) (fn : List He.DefD) (ex : PySem.W.Frag → Bool) (K : PySem.W.Frag) : AlX := (He.obsD fa fn K, ex K)
def valX (fn : List He.DefD) : AlX := (He.valD fn, true)
def SaysX (fa : List He.Fa) (fn : List He.DefD) (ex : PySem.W.Frag → Bool) (K : PySem.W.Frag) : Prop := obsX fa fn ex K = valX fn
def obsXG (n : Nat) (fa : List He.Fa) (fn : List He.DefD) (ex : PySem.W.Frag → Bool) (g : Addr → Option Obj) : AlX := obsX fa fn ex (He.frG g (He.asD g n))
def hookX (n : Nat) (fa : List He.Fa) (fn : List He.DefD) (ex : PySem.W.Frag → Bool) : PySem.W.Hook where
  α := AlX
  obs := fun s => obsXG n fa fn ex s.heap.get?
  val := fun _ => valX fn
  says := fun _ h => ∃ K : PySem.W.Frag, K.In h ∧ SaysX fa fn ex K
  of := fun _ _ e => ⟨_, He.frG_in, e⟩
  keeps := fun _ _ _ ⟨K, hK, c⟩ k => ⟨K, PySem.W.Frag.In.keeps hK k, c⟩
theorem obsXG_eq {n : Nat} {fa : List He.Fa} {fn : List He.DefD} {ex : PySem.W.Frag → Bool} {g : Addr → Option Obj} {s : Shared} (h : ∀ a, g a = s.heap.get? a) : obsXG n fa fn ex g = (hookX n fa fn ex).obs s := by
  have e : g = s.heap.get? := funext h
  rw [e]
  rfl
section
variable {fa : List He.Fa} {fn : List He.DefD} {ex : PySem.W.Frag → Bool} {K : PySem.W.Frag} {h : Heap} {mg : Str → Option Value} {P : Program} {w : World}
theorem SaysX.d (c : SaysX fa fn ex K) : He.SaysD fa fn K := congrArg Prod.fst c
theorem SaysX.x (c : SaysX fa fn ex K) : ex K = true := congrArg Prod.snd c
def dfd (x : Str) (st : Stmt) : He.DefD := ⟨(x, none), x, x, defArgs st, defBody st, defScope st, [], []⟩
theorem fun_of {x : Str} {st : Stmt} {f : Addr} {fd : FuncData} (F : FunD K x x (defArgs st) (defBody st) (defScope st) [] [] f fd) : Fun K x x st f fd := by
  obtain ⟨oc, od, dV, kV, doc, pm, an, cdv, ct, osl, rfl, lk, hcd, hD, hK⟩ := F.ex
  rcases hD with ⟨_, rfl⟩ | ⟨e, _⟩
  · exact ⟨⟨oc, od, kV, doc, pm, an, cdv, ct, osl, rfl, lk, hcd⟩, F.kp⟩
  · exact absurd rfl e
theorem defAt_of (X : K.In h) (G : h.Ns mainGlobals mg) (c : SaysX fa fn ex K) (i j : Nat) {x : Str} {st : Stmt} {ps : List Str} (hd : fn[i]? = some (dfd x st)) (hj : fa[j]? = some (.glo x))
    (hb : ∀ (kV doc pm : Value) (an : Option Addr) (cdv ct : Value) (us : List Value), us.length = ps.length → bindArgs (PySem.W.fnOf x x (defArgs st) (defBody st) (defScope st) .none kV doc pm an cdv ct) ⟨us, []⟩ = pure (ps.zip us)) : DefAt K mg x st ps := by
  obtain ⟨fd, F⟩ := c.d.def_ i hd
  have F2 := fun_of F
  exact ⟨_, fd, F2, He.glo_ok X G (c.d.fact j hj), F2.binds hb⟩
theorem free_of (X : K.In h) (G : h.Ns mainGlobals mg) (c : SaysX fa fn ex K) (j : Nat) {x : Str} (hj : fa[j]? = some (.free x)) : mg x = none := He.free_ok X G (c.d.fact j hj)
theorem gc_int (X : K.In h) (G : h.Ns mainGlobals mg) (c : SaysX fa fn ex K) (j : Nat) {x : Str} {i : Int} (hj : fa[j]? = some (.int x i)) : GC P w K mg x (.int i) := by
  obtain ⟨t, e⟩ := He.int_ok X G (c.d.fact j hj)
  exact ⟨.int i, _, e, ⟨t, rfl⟩, fun io F => .int i⟩
theorem gc_str (X : K.In h) (G : h.Ns mainGlobals mg) (c : SaysX fa fn ex K) (j : Nat) {x z : Str} (l : List Nat) (hl : strOf l = z) (hj : fa[j]? = some (.str x z)) : GC P w K mg x (.str l) := by
  obtain ⟨t, e⟩ := He.str_ok X G (c.d.fact j hj)
  subst hl
  exact ⟨.str (strOf l), _, e, ⟨t, rfl⟩, fun io F => .str l⟩
/-- a tuple of ints -/
theorem gc_tup (X : K.In h) (G : h.Ns mainGlobals mg) (c : SaysX fa fn ex K) (j : Nat) {x : Str} (ns : List Int) (hj : fa[j]? = some (.glo x)) (ht : He.tupB K x (ns.map He.Dv.int) = true) : GC P w K mg x (.tup (ns.map D.int)) := by
  refine ⟨.ref (He.ga K x), _, He.glo_ok X G (c.d.fact j hj), rfl, fun io F => ?_⟩
  have h1 := He.tupB_ok ht F
  rw [List.map_map] at h1
  refine .tup h1 ?_
  clear h1 ht hj
  induction ns with
  | nil => exact .nil
  | cons n ns ih => exact .cons (.int n) ih
/-- the law's promise, by its meaning -/
theorem law_sp {g : FD} {c : C} {ns : List Int} {H : Hp} {a : Addr} {st' : Store} (hg : g [.scr ns] [] = some (.bl true, st')) (hS : SqL c.K H a (ns.map V.int)) : spD c g [.ref a] H (fun v _ => v = .bl true) fun _ _ _ => False := by
  refine ⟨H, [], [], [.scr ns], .bl true, st', ⟨fun _ _ h => h, rfl, fun n a o h => ?_, .nil⟩, .cons (.scr hS) .nil, hg, fun v F' io' H' _ _ r => ?_⟩
  · simp at h
  · cases r; rfl
theorem walk_ofGE {l : PySem.W.OpenLaw} {n k : Nat} {q : Program} {loose : List Str} {XP : (Str → Option Value) → Heap → Prop} {YP : World → Heap → Prop} {d : DefRec} {x : Str} {g : FD}
    (hn : l.most = some n) (hn2 : n ≤ sizeLine) (hdf : d.params.defaults = []) (hr : Room k callerA)
    (F : ∀ (w : World) (mg : Str → Option Value) (h : Heap), YP w h → h.Ns mainGlobals mg →
      ∃ K : PySem.W.Frag, K.In h ∧ ∀ base : Heap, OkF l.prog w K mg base d.name [x] k g)
    (hg : ∀ ns : List Int, ns.length ≤ n → ∃ st', g [.scr ns] [] = some (.bl true, st')) :
    PySem.W.WalkO q loose XP YP l.row.toRowW d [] (fun f vs => PySem.call f vs) := by
  refine Att.attach_callB hn hdf fun w s₀ s₁ mg mb fa o pm cd doc a vs ns G Y ho hd hcd hmg hobj hints hlen hbits hgen => ?_
  obtain ⟨K, KX, hF⟩ := F w mg _ Y G.T.g
  obtain ⟨st', e⟩ := hg ns hlen
  refine law_callG (sp := spD ⟨K, w⟩ g) (x := x) KX G.T.g G.T.b G.T.builtins G.T.nolimit hgen hobj hints (Nat.le_trans hlen hn2) hr (fun base _ _ => ?_) fun H hO hS => law_sp e hS
  obtain ⟨f, fd, h1, h2, h3, h4⟩ := (hF base).ex
  have e2 := hmg.symm.trans h2
  cases e2
  exact ⟨fd, h1, h4⟩
end
end DL
set_option Elab.async false
set_option linter.all false
set_option maxRecDepth 100000
set_option maxHeartbeats 4000000
/-! PL0: denotations evaluated. -/
namespace DL
open PySem

mutual
/-- all refs are below n -/
def bel (n : Nat) : D → Bool
  | .tup ds => bels n ds
  | .lst ds => bels n ds
  | .dic _ _ vs => bels n vs
  | .ref k => decide (k < n)
  | _ => true
def bels (n : Nat) : List D → Bool
  | [] => true
  | d :: ds => bel n d && bels n ds
end
def belO (n : Nat) : SObj → Bool
  | .lst ds => bels n ds
  | .dic _ _ vs => bels n vs
  | .ins _ _ vs => bels n vs
/-- a store whose objects hold nothing from elsewhere -/
def clS (st : Store) : Bool := st.all (belO st.length)
section
variable {n m base k : Nat} {st st1 : Store} {d : D} {ds : List D}
mutual
theorem bel_mono (h : n ≤ m) : ∀ {d : D}, bel n d = true → bel m d = true
  | .tup ds, q => bels_mono h (ds := ds) q
  | .lst ds, q => bels_mono h (ds := ds) q
  | .dic _ _ vs, q => bels_mono h (ds := vs) q
  | .ref k, q => by simp only [bel, decide_eq_true_eq] at *; omega
  | .non, _ => rfl
  | .bl _, _ => rfl
  | .int _, _ => rfl
  | .str _, _ => rfl
  | .scr _, _ => rfl
theorem bels_mono (h : n ≤ m) : ∀ {ds : List D}, bels n ds = true → bels m ds = true
  | [], _ => rfl
  | d :: ds, q => by
    simp only [bels, Bool.and_eq_true] at *
    exact ⟨bel_mono h q.1, bels_mono h q.2⟩
end
mutual
theorem res_id {g : Nat → Option D} (hg : ∀ k, k < n → g k = some (.ref k)) : ∀ {d : D}, bel n d = true → res1 g d = some d
  | .tup ds, q => by rw [res1, ress_id hg (ds := ds) q]; rfl
  | .lst ds, q => by rw [res1, ress_id hg (ds := ds) q]; rfl
  | .dic _ _ vs, q => by rw [res1, ress_id hg (ds := vs) q]; rfl
  | .ref k, q => hg k (by simpa [bel] using q)
  | .non, _ => rfl
  | .bl _, _ => rfl
  | .int _, _ => rfl
  | .str _, _ => rfl
  | .scr _, _ => rfl
theorem ress_id {g : Nat → Option D} (hg : ∀ k, k < n → g k = some (.ref k)) : ∀ {ds : List D}, bels n ds = true → res1s g ds = some ds
  | [], _ => rfl
  | d :: ds, q => by
    simp only [bels, Bool.and_eq_true] at q
    rw [res1s, res_id hg q.1, ress_id hg q.2]
    rfl
end
theorem resN_lt (h : n < base) : resN st base k n = some (.ref n) := by
  cases k <;> simp [resN, h]
theorem resSt_id {g : Nat → Option D} (hg : ∀ k, k < n → g k = some (.ref k)) : ∀ {st : Store}, st.all (belO n) = true → resSt g st = some st
  | [], _ => rfl
  | o :: st, q => by
    simp only [List.all_cons, Bool.and_eq_true] at q
    have h1 : resO g o = some o := by
      cases o with
      | lst ds => rw [resO, ress_id hg (ds := ds) q.1]; rfl
      | dic t ks vs => rw [resO, ress_id hg (ds := vs) q.1]; rfl
      | ins c ns vs => rw [resO, ress_id hg (ds := vs) q.1]; rfl
    rw [resSt, h1, resSt_id hg q.2]
    rfl
/-- a def leaves: what it has made is gone or data -/
theorem frz_go {b : FD} {old new : Store} {d d' : D} (h : b ds st = some (d, old ++ new)) (hl : old.length = st.length) (hc : clS old = true) (hd : res1 (resN (old ++ new) st.length (old ++ new).length) d = some d') : frzD b ds st = some (d', old) := by
  unfold frzD
  rw [h]
  show frzOut st.length (d, old ++ new) = _
  unfold frzOut
  rw [hd]
  show (resSt _ ((old ++ new).take st.length)).map _ = _
  rw [← hl, List.take_left, resSt_id (n := old.length) (fun k hk => resN_lt hk) hc]
  rfl
theorem frz_id {b : FD} {d : D} (h : b ds st = some (d, st1)) (hl : st1.length = st.length) (hc : clS st1 = true) (hd : bel st.length d = true) : frzD b ds st = some (d, st1) := by
  have := frz_go (b := b) (ds := ds) (st := st) (old := st1) (new := []) (d := d) (d' := d) (by rw [List.append_nil]; exact h) hl hc (res_id (fun k hk => resN_lt hk) hd)
  exact this
theorem frz_new {b : FD} {old new : Store} {d : D} (h : b ds st = some (d, old ++ new)) (hl : old.length = st.length) (hc : clS old = true) (hd : bel st.length d = true) : frzD b ds st = some (d, old) :=
  frz_go h hl hc (res_id (fun k hk => resN_lt hk) hd)
/-- a new list is handed out -/
theorem frz_lst {b : FD} {old new : Store} {k : Nat} (h : b ds st = some (.ref k, old ++ new)) (hl : old.length = st.length) (hc : clS old = true) {es : List D} (hk : (old ++ new)[k]? = some (.lst es)) (hkl : st.length ≤ k) (hd : bels st.length es = true) : frzD b ds st = some (.lst es, old) := by
  refine frz_go h hl hc ?_
  have hlt : 0 < (old ++ new).length := by
    have := (List.getElem?_eq_some_iff.mp hk).1
    omega
  obtain ⟨j, hj⟩ : ∃ j, (old ++ new).length = j + 1 := ⟨_, (Nat.succ_pred_eq_of_pos hlt).symm⟩
  rw [hj, res1, resN, if_neg (by omega), hk]
  simp only
  rw [ress_id (fun k hk => resN_lt hk) hd]
  rfl
end
/-! ### the combinators -/
/-- a loop's body with its target; two checks at once -/
def forB (g : DenG) (b : DenS) : D → DL.Env → Store → Option (Fl × DL.Env × Store) := fun d e s => (g d e s).bind fun q => b q.1 q.2
def andS (f g : Store → Bool) : Store → Bool := fun st => f st && g st
section
variable {env : DL.Env} {st : Store} {a b c : Den} {x y z : D} {r : DenA} {t u : DenT} {s1 s2 : DenS} {g : DenG} {di : DenI}
@[simp] theorem ev_var (i : Nat) : dVar i env st = (match env[i]? with | some (some d) => some (d, st) | _ => none) := rfl
@[simp] theorem ev_c (d : D) : dC d env st = some (d, st) := rfl
@[simp] theorem ev_op (f : F2) : dOp2 f a b env st = (a env st).bind fun p => (b env p.2).bind fun q => (f q.2 p.1 q.1).map fun d => (d, q.2) := rfl
@[simp] theorem ev_anil : aNil env st = some ([], st) := rfl
@[simp] theorem ev_acons : aCons a r env st = (a env st).bind fun p => (r env p.2).map fun q => (p.1 :: q.1, q.2) := rfl
@[simp] theorem ev_call (f : FC) : dCall f r env st = (r env st).bind fun p => f p.2 p.1 := rfl
@[simp] theorem ev_fun (g : FD) : dCallF g r env st = (r env st).bind fun p => g p.1 p.2 := rfl
@[simp] theorem ev_p1 (f : Store → D → Option D) : pure1 f st [x] = (f st x).map fun d => (d, st) := rfl
@[simp] theorem ev_p2 (f : Store → D → D → Option D) : pure2 f st [x, y] = (f st x y).map fun d => (d, st) := rfl
@[simp] theorem ev_tup : dTup r env st = (r env st).bind fun p => if p.1.length ≤ 16777216 then some (.tup p.1, p.2) else none := rfl
@[simp] theorem ev_lst : dLst r env st = (r env st).bind fun p => if p.1.length ≤ 16777216 then some (.lst p.1, p.2) else none := rfl
@[simp] theorem ev_lstR : dLstR r env st = (r env st).bind fun p => if p.1.length ≤ 16777216 then some (.ref p.2.length, p.2 ++ [.lst p.1]) else none := rfl
@[simp] theorem ev_asB : asB a env st = (a env st).bind fun p => match p.1 with
  | .bl b => some (b, p.2)
  | _ => none := rfl
@[simp] theorem ev_chain (f g : F2) : dChain f g a b c env st = (a env st).bind fun p => (b env p.2).bind fun q => (f q.2 p.1 q.1).bind fun r => match r with
  | .bl true => (c env q.2).bind fun w => (g w.2 q.1 w.1).map fun d => (d, w.2)
  | .bl false => some (.bl false, q.2)
  | _ => none := rfl
@[simp] theorem ev_and : dAnd a b env st = (a env st).bind fun p => match p.1 with
  | .bl true => b env p.2
  | .bl false => some (.bl false, p.2)
  | _ => none := rfl
@[simp] theorem ev_or : dOr a b env st = (a env st).bind fun p => match p.1 with
  | .bl true => some (.bl true, p.2)
  | .bl false => b env p.2
  | _ => none := rfl
@[simp] theorem ev_not : dNot a env st = (a env st).bind fun p => match p.1 with
  | .bl b => some (.bl (!b), p.2)
  | _ => none := rfl
@[simp] theorem ev_neg : dNeg a env st = (a env st).bind fun p => match p.1 with
  | .int i => some (.int (-i), p.2)
  | _ => none := rfl
@[simp] theorem ev_if : dIf t a b env st = (t env st).bind fun p => if p.1 = true then a env p.2 else b env p.2 := rfl
@[simp] theorem ev_tand : tAndD t u env st = (t env st).bind fun p => if p.1 = true then u env p.2 else some (false, p.2) := rfl
@[simp] theorem ev_tor : tOrD t u env st = (t env st).bind fun p => if p.1 = true then some (true, p.2) else u env p.2 := rfl
@[simp] theorem ev_tnot : tNotD t env st = (t env st).map fun p => (!p.1, p.2) := rfl
@[simp] theorem ev_tru : tTru a env st = (a env st).bind fun p => (truD p.2 p.1).map fun b => (b, p.2) := rfl
@[simp] theorem ev_isi (U : TyN) : dIsi U a env st = (a env st).bind fun p => (tyD p.2 p.1).map fun T => (.bl (isA T U), p.2) := rfl
@[simp] theorem ev_isi2 (U W : TyN) : dIsi2 U W a env st = (a env st).bind fun p => (tyD p.2 p.1).map fun T => (.bl (isA T U || isA T W), p.2) := rfl
@[simp] theorem ev_sl (l h : DenP) : dSl a l h env st = (a env st).bind fun p => (l env p.2).bind fun l => (h env l.2).bind fun u => (fSl u.2 p.1 l.1 u.1).map fun d => (d, u.2) := rfl
@[simp] theorem ev_pnone : pNone env st = some (none, st) := rfl
@[simp] theorem ev_psome : pSome a env st = (a env st).bind fun p => match p.1 with
  | .int i => some (some i, p.2)
  | _ => none := rfl
@[simp] theorem ev_rev : dRev a env st = (a env st).bind fun p => (fRev p.1).map fun d => (d, p.2) := rfl
@[simp] theorem ev_revS : dRevS a env st = (a env st).bind fun p => (fRevS p.2 p.1).map fun d => (d, p.2) := rfl
@[simp] theorem revS_tup (ds : List D) : fRevS st (.tup ds) = some (.tup ds.reverse) := rfl
@[simp] theorem revS_lst (ds : List D) : fRevS st (.lst ds) = some (.lst ds.reverse) := rfl
@[simp] theorem revS_ref (n : Nat) : fRevS st (.ref n) = (itemsOf st (.ref n)).map fun ds => .lst ds.reverse := rfl
@[simp] theorem ev_meth0 (T : Ty) (f : FM) : dMeth0 T f a env st = (a env st).bind fun p => if tyOk T p.2 p.1 = true then f p.2 p.1 [] else none := rfl
@[simp] theorem ev_meth (T : Ty) (f : FM) : dMeth T f a r env st = (a env st).bind fun p => if tyOk T p.2 p.1 = true then (r env p.2).bind fun q => f q.2 p.1 q.1 else none := rfl
@[simp] theorem ev_snext : sNext env st = some (.next, env, st) := rfl
@[simp] theorem ev_seq : sSeq s1 s2 env st = (s1 env st).bind fun p => match p.1 with
  | .next => s2 p.2.1 p.2.2
  | f => some (f, p.2.1, p.2.2) := by
  unfold sSeq; rfl
@[simp] theorem ev_sret : sRet a env st = (a env st).map fun p => (.ret p.1, env, p.2) := rfl
@[simp] theorem ev_sretN : sRetN env st = some (.ret .non, env, st) := rfl
@[simp] theorem ev_sbrk : sBreak env st = some (.brk, env, st) := rfl
@[simp] theorem ev_scont : sCont env st = some (.cont, env, st) := rfl
@[simp] theorem ev_sdrop : sDrop a env st = (a env st).map fun p => (.next, env, p.2) := rfl
@[simp] theorem ev_sset (i : Nat) : sSet i a env st = (a env st).map fun p => (.next, env.set i (some p.1), p.2) := rfl
@[simp] theorem ev_sasg : sAsg a g env st = (a env st).bind fun p => (g p.1 env p.2).map fun q => (.next, q.1, q.2) := rfl
@[simp] theorem ev_sif : sIf t s1 s2 env st = (t env st).bind fun p => if p.1 = true then s1 env p.2 else s2 env p.2 := rfl
@[simp] theorem ev_saug (i : Nat) (f : F2) : sAug i f a env st = (match env[i]? with
  | some (some y) => (a env st).bind fun p => (f p.2 y p.1).map fun z => (.next, env.set i (some z), p.2)
  | _ => none) := by
  unfold sAug; rfl
@[simp] theorem ev_spar (i j : Nat) : sPar i j r env st = (r env st).bind fun p => match p.1 with
  | [x, y] => some (.next, (env.set i (some x)).set j (some y), p.2)
  | _ => none := by
  unfold sPar; rfl
@[simp] theorem ev_spar3 (i j k : Nat) : sPar3 i j k r env st = (r env st).bind fun p => match p.1 with
  | [x, y, z] => some (.next, ((env.set i (some x)).set j (some y)).set k (some z), p.2)
  | _ => none := by
  unfold sPar3; rfl
@[simp] theorem ev_sfor : sFor di g s1 env st = (di env st).bind fun p => forL p.1.2 (forB g s1) p.1.1 env p.2 := rfl
@[simp] theorem ev_forB : forB g s1 x env st = (g x env st).bind fun q => s1 q.1 q.2 := rfl
@[simp] theorem ev_andS (f g : Store → Bool) : andS f g st = (f st && g st) := rfl
@[simp] theorem ev_gn (i : Nat) : gN i x env st = some (env.set i (some x), st) := rfl
@[simp] theorem ev_gsnil : gsNil [] env st = some (env, st) := rfl
@[simp] theorem ev_gscons (gs : List D → DL.Env → Store → Option (DL.Env × Store)) (xs : List D) : gsCons g gs (x :: xs) env st = (g x env st).bind fun p => gs xs p.1 p.2 := rfl
@[simp] theorem ev_gun (n : Nat) (gs : List D → DL.Env → Store → Option (DL.Env × Store)) : gUn n gs x env st = (seqOf st x).bind fun ds => if ds.length = n then gs ds env st else none := rfl
@[simp] theorem ev_gsub : gSub a b x env st = (a env st).bind fun p => (b env p.2).bind fun q => (setD q.2 p.1 q.1 x).map fun st' => (env, st') := rfl
@[simp] theorem ev_iof : iOf a env st = (a env st).bind fun p => (walkD p.2 p.1).map fun w => (w, p.2) := rfl
@[simp] theorem ev_irng (f : List D → Option (List D × (Store → Bool))) : iRng f r env st = (r env st).bind fun p => (f p.1).map fun w => (w, p.2) := rfl
@[simp] theorem ev_ienum : iEnum r env st = (r env st).bind fun p => match p.1 with
  | [x] => (walkD p.2 x).map fun w => ((enumD w.1, w.2), p.2)
  | _ => none := rfl
@[simp] theorem ev_izip : iZip r env st = (r env st).bind fun p => match p.1 with
  | [x, y] => (walkD p.2 x).bind fun w => (walkD p.2 y).map fun u => ((zipD w.1 u.1, andS w.2 u.2), p.2)
  | _ => none := rfl
@[simp] theorem ev_izipS : iZipS r env st = (r env st).bind fun p => match p.1 with
  | [x, y] => (walkD p.2 x).bind fun w => (walkD p.2 y).bind fun u => if w.1.length = u.1.length then some ((zipD w.1 u.1, andS w.2 u.2), p.2) else none
  | _ => none := rfl
@[simp] theorem ev_comp (te : Den) (vs : List Nat) : dComp di g t te vs env st = (di env st).bind fun p => (compL p.1.2 g t te (wipeE env vs) p.1.1 p.2).bind fun r => if r.1.length ≤ 16777216 then some (.lst r.1, r.2) else none := rfl
@[simp] theorem ev_compR (te : Den) (vs : List Nat) : dCompR di g t te vs env st = (di env st).bind fun p => (compL p.1.2 g t te (wipeE env vs) p.1.1 p.2).bind fun r => if r.1.length ≤ 16777216 then some (.ref r.2.length, r.2 ++ [.lst r.1]) else none := rfl
@[simp] theorem ev_tyes : tYesD env st = some (true, st) := rfl
@[simp] theorem ev_dict0 : dDict0 env st = some (.dic false [] [], st) := rfl
@[simp] theorem ev_dict0R (k : Bool) : dDict0R k env st = some (.ref st.length, st ++ [.dic k [] []]) := rfl
@[simp] theorem ev_sortSet : dSortSet a env st = (a env st).bind fun p => (fSetK p.2 p.1).bind fun ks => if sortOk (ks.map keyD) = true then some (.lst ((ks.map keyD).mergeSort dle), p.2) else none := rfl
@[simp] theorem ev_lenSet : dLenSet a env st = (a env st).bind fun p => (fSetK p.2 p.1).map fun ks => (.int ks.length, p.2) := rfl
@[simp] theorem ev_lr1 (f : List D → Store → D × Store) : dLR1 f a env st = (a env st).bind fun p => match p.1 with
  | .int n => if rgOk 0 n = true then some (f (rgD 0 n) p.2) else none
  | _ => none := rfl
@[simp] theorem ev_body (m n : Nat) (ds : List D) : bodyD m n s1 ds st = if ds.length = m then (s1 (ds.map some ++ List.replicate n none) st).bind outD else none := rfl
@[simp] theorem ev_outN (e : DL.Env) : outD (.next, e, st) = some (.non, st) := rfl
@[simp] theorem ev_outR (e : DL.Env) : outD (.ret x, e, st) = some (x, st) := rfl
@[simp] theorem ev_wipe0 : wipeE env [] = env := rfl
@[simp] theorem ev_wipe (v : Nat) (vs : List Nat) : wipeE env (v :: vs) = (wipeE env vs).set v none := rfl
/-! ### operations -/
@[simp] theorem ad_int (i j : Int) : fAdd st (.int i) (.int j) = some (.int (i + j)) := rfl
@[simp] theorem ad_str (i j : List Nat) : fAdd st (.str i) (.str j) = if i.length + j.length ≤ 16777216 then some (.str (i ++ j)) else none := rfl
@[simp] theorem ad_tup (i j : List D) : fAdd st (.tup i) (.tup j) = if i.length + j.length ≤ 16777216 then some (.tup (i ++ j)) else none := rfl
@[simp] theorem ad_lst (i j : List D) : fAdd st (.lst i) (.lst j) = if i.length + j.length ≤ 16777216 then some (.lst (i ++ j)) else none := rfl
@[simp] theorem iad_int (i j : Int) : fIAdd st (.int i) (.int j) = some (.int (i + j)) := rfl
@[simp] theorem su_int (i j : Int) : fSub st (.int i) (.int j) = some (.int (i - j)) := rfl
@[simp] theorem mu_int (i j : Int) : fMul st (.int i) (.int j) = if (small64 i || small64 j) = true then some (.int (i * j)) else none := rfl
@[simp] theorem di_int (i j : Int) : fDiv st (.int i) (.int j) = if 0 < j ∧ j < 1073741824 then some (.int (i / j)) else none := rfl
@[simp] theorem mo_int (i j : Int) : fMod st (.int i) (.int j) = if 0 < j then some (.int (i % j)) else none := rfl
@[simp] theorem po_int (i j : Int) : fPow st (.int i) (.int j) = if 0 ≤ j ∧ j ≤ 1000000 ∧ small64 i = true then some (.int (i ^ j.toNat)) else none := rfl
@[simp] theorem lt_int (i j : Int) : fLt st (.int i) (.int j) = some (.bl (decide (i < j))) := rfl
@[simp] theorem gt_int (i j : Int) : fGt st (.int i) (.int j) = some (.bl (decide (j < i))) := rfl
@[simp] theorem le_int (i j : Int) : fLe st (.int i) (.int j) = some (.bl (decide (i ≤ j))) := rfl
@[simp] theorem ge_int (i j : Int) : fGe st (.int i) (.int j) = some (.bl (decide (j ≤ i))) := rfl
@[simp] theorem isN (x : D) : fIsN st x .non = some (.bl (isNon x)) := rfl
@[simp] theorem notN (x : D) : fNotN st x .non = some (.bl (!isNon x)) := rfl
@[simp] theorem flat_id {x : D} (h : ∀ n, x ≠ .ref n) : flat st x = x := by
  cases x <;> first | rfl | exact absurd rfl (h _)
theorem eqR_of {x y : D} (hx : ∀ n, x ≠ .ref n) (hy : ∀ n, y ≠ .ref n) (h : cmpOk x y = true) : fEqR st x y = some (.bl (deq x y)) := by
  show fEq st (flat st x) (flat st y) = _
  rw [flat_id hx, flat_id hy]
  show (if cmpOk x y = true then _ else _) = _
  rw [if_pos h]
theorem neR_of {x y : D} (hx : ∀ n, x ≠ .ref n) (hy : ∀ n, y ≠ .ref n) (h : cmpOk x y = true) : fNeR st x y = some (.bl (!deq x y)) := by
  show fNe st (flat st x) (flat st y) = _
  rw [flat_id hx, flat_id hy]
  show (if cmpOk x y = true then _ else _) = _
  rw [if_pos h]
theorem deq_int (i j : Int) : deq (.int i) (.int j) = decide (i = j) := by
  show (i == j) = _
  rfl
theorem deq_str (i j : List Nat) : deq (.str i) (.str j) = decide (i = j) := by
  show (strOf i == strOf j) = _
  by_cases h : i = j
  · subst h; simp
  · rw [decide_eq_false h]
    exact beq_eq_false_iff_ne.mpr fun e => h (strOf_inj e)
theorem deq_bl (i j : Bool) : deq (.bl i) (.bl j) = (i == j) := rfl
@[simp] theorem eq_int (i j : Int) : fEqR st (.int i) (.int j) = some (.bl (decide (i = j))) := by
  rw [eqR_of (by intro; nofun) (by intro; nofun) rfl, deq_int]
@[simp] theorem ne_int (i j : Int) : fNeR st (.int i) (.int j) = some (.bl (!decide (i = j))) := by
  rw [neR_of (by intro; nofun) (by intro; nofun) rfl, deq_int]
@[simp] theorem eq_str (i j : List Nat) : fEqR st (.str i) (.str j) = some (.bl (decide (i = j))) := by
  rw [eqR_of (by intro; nofun) (by intro; nofun) rfl, deq_str]
@[simp] theorem ne_str (i j : List Nat) : fNeR st (.str i) (.str j) = some (.bl (!decide (i = j))) := by
  rw [neR_of (by intro; nofun) (by intro; nofun) rfl, deq_str]
@[simp] theorem eq_bl (i j : Bool) : fEqR st (.bl i) (.bl j) = some (.bl (i == j)) := by
  rw [eqR_of (by intro; nofun) (by intro; nofun) rfl, deq_bl]
@[simp] theorem ne_bl (i j : Bool) : fNeR st (.bl i) (.bl j) = some (.bl (!(i == j))) := by
  rw [neR_of (by intro; nofun) (by intro; nofun) rfl, deq_bl]
@[simp] theorem ix_tup (ds : List D) (i : Int) : fIx st (.tup ds) (.int i) = L2.atI ds i := rfl
@[simp] theorem ix_lst (ds : List D) (i : Int) : fIx st (.lst ds) (.int i) = L2.atI ds i := rfl
@[simp] theorem sl_tup (ds : List D) (l h : Option Int) : fSl st (.tup ds) l h = some (.tup (cutL ds l h)) := rfl
@[simp] theorem sl_lst (ds : List D) (l h : Option Int) : fSl st (.lst ds) l h = some (.lst (cutL ds l h)) := rfl
@[simp] theorem sl_str (z : List Nat) (l h : Option Int) : fSl st (.str z) l h = if z.length ≤ 16777216 then some (.str (cutL z l h)) else none := rfl
@[simp] theorem sl_scr (z : List Int) (l h : Option Int) : fSl st (.scr z) l h = some (.lst ((cutL z l h).map .int)) := rfl
@[simp] theorem le_tup (ds : List D) : fLen st (.tup ds) = some (.int ds.length) := rfl
@[simp] theorem le_lst (ds : List D) : fLen st (.lst ds) = some (.int ds.length) := rfl
@[simp] theorem le_str (ds : List Nat) : fLen st (.str ds) = if ds.length ≤ 16777216 then some (.int ds.length) else none := rfl
@[simp] theorem in_int (i : Int) : fInt st (.int i) = some (.int i) := rfl
@[simp] theorem in_bl (i : Bool) : fInt st (.bl i) = some (.int (if i then 1 else 0)) := rfl
@[simp] theorem mi_int (i j : Int) : fMin2 st (.int i) (.int j) = some (.int (min i j)) := by
  show some (D.int (if j < i then j else i)) = _
  congr 2; omega
@[simp] theorem ma_int (i j : Int) : fMax2 st (.int i) (.int j) = some (.int (max i j)) := by
  show some (D.int (if j > i then j else i)) = _
  congr 2; omega
@[simp] theorem tr_bl (b : Bool) : truD st (.bl b) = some b := rfl
@[simp] theorem tr_int (i : Int) : truD st (.int i) = some (i != 0) := rfl
@[simp] theorem so_tup (ds : List D) : seqOf st (.tup ds) = some ds := rfl
@[simp] theorem so_lst (ds : List D) : seqOf st (.lst ds) = some ds := rfl
@[simp] theorem it_lst (ds : List D) : itemsOf st (.lst ds) = some ds := rfl
@[simp] theorem wa_tup (ds : List D) : walkD st (.tup ds) = some (ds, yesS) := rfl
@[simp] theorem wa_lst (ds : List D) : walkD st (.lst ds) = some (ds, yesS) := rfl
@[simp] theorem wa_str (ds : List Nat) : walkD st (.str ds) = some (strItems ds, yesS) := rfl
@[simp] theorem wa_scr (ds : List Int) : walkD st (.scr ds) = some (ds.map .int, yesS) := rfl
@[simp] theorem ty_non : tyD st .non = some .non := rfl
@[simp] theorem ty_bl (b : Bool) : tyD st (.bl b) = some .bl := rfl
@[simp] theorem ty_int (b : Int) : tyD st (.int b) = some .int := rfl
@[simp] theorem ty_str (b : List Nat) : tyD st (.str b) = some .str := rfl
@[simp] theorem ty_tup (b : List D) : tyD st (.tup b) = some .tup := rfl
@[simp] theorem ty_lst (b : List D) : tyD st (.lst b) = some .lst := rfl
@[simp] theorem ty_dic (t : Bool) (b c : List D) : tyD st (.dic t b c) = some .dic := rfl
@[simp] theorem at_nil {α : Type} (i : Int) : L2.atI ([] : List α) i = none := by
  unfold L2.atI L2.ixN
  simp
theorem at_nat {α : Type} {xs : List α} {n : Nat} {x : α} (h : xs[n]? = some x) : L2.atI xs (n : Int) = some x := by
  have := (List.getElem?_eq_some_iff.mp h).1
  unfold L2.atI L2.ixN
  rw [if_pos (by omega), if_pos (by omega)]
  simpa using h
@[simp] theorem at_0 {α : Type} (x : α) (xs : List α) : L2.atI (x :: xs) 0 = some x := at_nat (n := 0) rfl
@[simp] theorem at_1 {α : Type} (x y : α) (xs : List α) : L2.atI (x :: y :: xs) 1 = some y := at_nat (n := 1) rfl
@[simp] theorem at_2 {α : Type} (x y z : α) (xs : List α) : L2.atI (x :: y :: z :: xs) 2 = some z := at_nat (n := 2) rfl
@[simp] theorem fo_nil (ck : Store → Bool) (f : D → DL.Env → Store → Option (Fl × DL.Env × Store)) : forL ck f [] env st = if ck st = true then some (.next, env, st) else none := rfl
theorem fo_cons (ck : Store → Bool) (f : D → DL.Env → Store → Option (Fl × DL.Env × Store)) (d : D) (ds : List D) : forL ck f (d :: ds) env st = if ck st = true then (f d env st).bind fun p => match p.1 with
    | .next => forL ck f ds p.2.1 p.2.2
    | .cont => forL ck f ds p.2.1 p.2.2
    | .brk => some (.next, p.2.1, p.2.2)
    | .ret v => some (.ret v, p.2.1, p.2.2)
    else none := by
  rw [forL] <;> rfl
end
end DL
namespace DL
section
variable {env : DL.Env} {st : Store} {x y z : D} {n : Nat}
@[simp] theorem ix_ref (i : Int) : fIx st (.ref n) (.int i) = (match st[n]? with
  | some (.lst ds) => L2.atI ds i
  | _ => none) := rfl
@[simp] theorem ix_str (z : List Nat) (i : Int) : fIx st (.str z) (.int i) = if z.length ≤ 16777216 then (L2.atI z i).map fun c => .str [c] else none := rfl
@[simp] theorem le_ref : fLen st (.ref n) = (match st[n]? with
  | some (.lst ds) => some (.int ds.length)
  | _ => none) := rfl
@[simp] theorem mutOf_ref : mutOf st (.ref n) = (match st[n]? with
  | some (.lst ds) => some (n, ds)
  | _ => none) := rfl
@[simp] theorem itemsOf_ref : itemsOf st (.ref n) = (match st[n]? with
  | some (.lst ds) => some ds
  | _ => none) := rfl
@[simp] theorem seqOf_ref : seqOf st (.ref n) = (match st[n]? with
  | some (.lst ds) => some ds
  | _ => none) := rfl
@[simp] theorem walkD_ref : walkD st (.ref n) = (match st[n]? with
  | some (.lst ds) => some (ds, sameS n ds)
  | _ => none) := rfl
@[simp] theorem tyOk_list : tyOk .list st x = (itemsOf st x).isSome := rfl
@[simp] theorem tyOk_str (z : List Nat) : tyOk .str st (.str z) = true := rfl
@[simp] theorem mApp_ev : mAppend st x [y] = (mutOf st x).bind fun p => if p.2.length < 16777216 then some (.non, st.set p.1 (.lst (p.2 ++ [y]))) else none := rfl
@[simp] theorem mPop_ev : mPop st x [] = (mutOf st x).bind fun p => (p.2.getLast?).map fun y => (y, st.set p.1 (.lst p.2.dropLast)) := rfl
@[simp] theorem mPopAt_ev (i : Int) : mPopAt st x [.int i] = (mutOf st x).bind fun p => if 0 ≤ i ∧ i < 9223372036854775808 then (p.2[i.toNat]?).map fun y => (y, st.set p.1 (.lst (p.2.eraseIdx i.toNat))) else none := rfl
@[simp] theorem setD_ref : setD st (.ref n) x y = (match st[n]? with
    | some (.lst ds) => (match x with
      | .int k => (L2.ixN ds.length k).map fun j => st.set n (.lst (ds.set j y))
      | _ => none)
    | some (.dic t ks vs) => (putD t ks vs x y).map fun p => st.set n (.dic t p.1 p.2)
    | _ => none) := rfl
end
end DL
set_option Elab.async false
set_option linter.all false
set_option maxRecDepth 100000
set_option maxHeartbeats 4000000
/-! PL1: denotations asked backwards: Wp o Q, the pen. -/
namespace DL
open PySem
/-- there is a result, and it is so -/
def Wp {β : Type} (o : Option β) (Q : β → Prop) : Prop := ∃ b, o = some b ∧ Q b
section
variable {β γ : Type} {Q Q' : β → Prop} {o o' : Option β}
theorem wp_of {b : β} (h : o = some b) (q : Q b) : Wp o Q := ⟨b, h, q⟩
theorem Wp.mono (h : Wp o Q) (k : ∀ b, Q b → Q' b) : Wp o Q' := by
  obtain ⟨b, e, q⟩ := h
  exact ⟨b, e, k b q⟩
theorem wp_congr (h : o = o') : Wp o Q = Wp o' Q := by rw [h]
theorem bind_congr1 {p p' : Option γ} {f : γ → Option β} (h : p = p') : p.bind f = p'.bind f := by rw [h]
theorem map_congr1 {p p' : Option γ} {f : γ → β} (h : p = p') : p.map f = p'.map f := by rw [h]
@[simp] theorem wp_some (b : β) : Wp (some b) Q ↔ Q b := ⟨fun ⟨_, e, q⟩ => by cases e; exact q, fun q => ⟨b, rfl, q⟩⟩
@[simp] theorem wp_none : Wp (none : Option β) Q ↔ False := ⟨fun ⟨_, e, _⟩ => (by cases e), False.elim⟩
theorem wp_bind (p : Option γ) (f : γ → Option β) : Wp (p.bind f) Q ↔ Wp p fun g => Wp (f g) Q := by
  constructor
  · rintro ⟨b, e, q⟩
    obtain ⟨g, h1, h2⟩ := Option.bind_eq_some_iff.mp e
    exact ⟨g, h1, b, h2, q⟩
  · rintro ⟨g, h1, b, h2, q⟩
    exact ⟨b, Option.bind_eq_some_iff.mpr ⟨g, h1, h2⟩, q⟩
theorem wp_map (p : Option γ) (f : γ → β) : Wp (p.map f) Q ↔ Wp p fun g => Q (f g) := by
  constructor
  · rintro ⟨b, e, q⟩
    obtain ⟨g, h1, rfl⟩ := Option.map_eq_some_iff.mp e
    exact ⟨g, h1, q⟩
  · rintro ⟨g, h1, q⟩
    exact ⟨_, Option.map_eq_some_iff.mpr ⟨g, h1, rfl⟩, q⟩
@[simp] theorem wp_guard {c : Prop} [Decidable c] : Wp (if c then o else none) Q ↔ c ∧ Wp o Q := by
  by_cases h : c <;> simp [h]
theorem wp_ite {c : Prop} [Decidable c] (h1 : c → Wp o Q) (h2 : ¬ c → Wp o' Q) : Wp (if c then o else o') Q := by
  by_cases h : c
  · rw [if_pos h]; exact h1 h
  · rw [if_neg h]; exact h2 h
theorem wp_eq {b : β} : Wp o (fun r => r = b) ↔ o = some b := ⟨fun ⟨_, e, q⟩ => by rw [e, q], fun e => ⟨b, e, rfl⟩⟩
end
/-! ### a def is left -/
theorem wp_frz {g : FD} {ds : List D} {st : Store} {Q : D × Store → Prop} (h : Wp (g ds st) fun r => Wp (frzOut st.length r) Q) : Wp (frzD g ds st) Q := by
  unfold frzD
  rw [wp_bind]
  exact h
theorem out_new {old new : Store} {base : Nat} {d : D} (hl : old.length = base) (hc : clS old = true) (hd : bel base d = true) : frzOut base (d, old ++ new) = some (d, old) := by
  unfold frzOut
  rw [res_id (fun k hk => resN_lt hk) hd]
  show (resSt _ ((old ++ new).take base)).map _ = _
  rw [← hl, List.take_left, resSt_id (n := old.length) (fun k hk => resN_lt hk) hc]
  rfl
theorem out_id {st : Store} {base : Nat} {d : D} (hl : st.length = base) (hc : clS st = true) (hd : bel base d = true) : frzOut base (d, st) = some (d, st) := by
  have := out_new (new := []) hl hc hd
  rwa [List.append_nil] at this
theorem out_lst {old new : Store} {base k : Nat} {es : List D} (hl : old.length = base) (hc : clS old = true) (hk : (old ++ new)[k]? = some (.lst es)) (hkl : base ≤ k) (hd : bels base es = true) : frzOut base (.ref k, old ++ new) = some (.lst es, old) := by
  unfold frzOut
  have hlt : 0 < (old ++ new).length := by
    have := (List.getElem?_eq_some_iff.mp hk).1
    omega
  obtain ⟨j, hj⟩ : ∃ j, (old ++ new).length = j + 1 := ⟨_, (Nat.succ_pred_eq_of_pos hlt).symm⟩
  have e : res1 (resN (old ++ new) base (old ++ new).length) (.ref k) = some (.lst es) := by
    rw [hj, res1, resN, if_neg (by omega), hk]
    simp only
    rw [ress_id (fun k hk => resN_lt hk) hd]
    rfl
  rw [e]
  show (resSt _ ((old ++ new).take base)).map _ = _
  rw [← hl, List.take_left, resSt_id (n := old.length) (fun k hk => resN_lt hk) hc]
  rfl
/-! ### lists of refs, closed parts -/
theorem bels_mem {n : Nat} : ∀ {ds : List D}, bels n ds = true → ∀ d ∈ ds, bel n d = true
  | d :: ds, h, x, hx => by
    simp only [bels, Bool.and_eq_true] at h
    rcases List.mem_cons.mp hx with rfl | hx
    · exact h.1
    · exact bels_mem h.2 x hx
theorem bels_of {n : Nat} : ∀ {ds : List D}, (∀ d ∈ ds, bel n d = true) → bels n ds = true
  | [], _ => rfl
  | d :: ds, h => by
    rw [bels, h d List.mem_cons_self, bels_of fun x hx => h x (List.mem_cons_of_mem _ hx)]; rfl
theorem bels_map {α : Type} {n : Nat} {f : α → D} (h : ∀ a, bel n (f a) = true) (as : List α) : bels n (as.map f) = true :=
  bels_of fun d hd => by
    obtain ⟨a, _, rfl⟩ := List.mem_map.mp hd
    exact h a
@[simp] theorem bels_append {n : Nat} : ∀ (xs ys : List D), bels n (xs ++ ys) = (bels n xs && bels n ys)
  | [], ys => by simp [bels]
  | x :: xs, ys => by simp [bels, bels_append xs ys, Bool.and_assoc]
@[simp] theorem bels_nil (n : Nat) : bels n [] = true := rfl
@[simp] theorem bels_cons (n : Nat) (d : D) (ds : List D) : bels n (d :: ds) = (bel n d && bels n ds) := rfl
@[simp] theorem bel_non (n : Nat) : bel n .non = true := rfl
@[simp] theorem bel_bl (n : Nat) (b : Bool) : bel n (.bl b) = true := rfl
@[simp] theorem bel_int (n : Nat) (i : Int) : bel n (.int i) = true := rfl
@[simp] theorem bel_str (n : Nat) (z : List Nat) : bel n (.str z) = true := rfl
@[simp] theorem bel_scr (n : Nat) (z : List Int) : bel n (.scr z) = true := rfl
@[simp] theorem bel_tup (n : Nat) (ds : List D) : bel n (.tup ds) = bels n ds := rfl
@[simp] theorem bel_lst (n : Nat) (ds : List D) : bel n (.lst ds) = bels n ds := rfl
@[simp] theorem bel_dic (n : Nat) (t : Bool) (ks vs : List D) : bel n (.dic t ks vs) = bels n vs := rfl
@[simp] theorem bel_ref (n k : Nat) : bel n (.ref k) = decide (k < n) := rfl
@[simp] theorem belO_lst (n : Nat) (ds : List D) : belO n (.lst ds) = bels n ds := rfl
@[simp] theorem belO_dic (n : Nat) (t : Bool) (ks vs : List D) : belO n (.dic t ks vs) = bels n vs := rfl
@[simp] theorem belO_ins (n : Nat) (c : Nat) (ns : List Str) (vs : List D) : belO n (.ins c ns vs) = bels n vs := rfl
theorem all_mono {n m : Nat} {s : Store} (hn : n ≤ m) (h : s.all (belO n) = true) : s.all (belO m) = true :=
  List.all_eq_true.mpr fun o ho => by
    have := List.all_eq_true.mp h o ho
    cases o with
    | lst ds => exact bels_mono (ds := ds) hn this
    | dic t ks vs => exact bels_mono (ds := vs) hn this
    | ins c ns vs => exact bels_mono (ds := vs) hn this
/-! ### the pen -/
structure Pn where
  cells : List Int
  at' : Nat
  v : Nat
def penS (q : Pn) : Store := [.lst (q.cells.map .int), .lst [.ref 0, .int q.at', .int q.v]]
/-- the store behind the pen holds nothing from elsewhere -/
def clM (more : Store) : Prop := more.all (belO (more.length + 2)) = true
theorem clM_nil : clM [] := rfl
theorem clM_app {more news : Store} (h : clM more) (hn : news.all (belO (more.length + news.length + 2)) = true) : clM (more ++ news) := by
  unfold clM at *
  rw [List.all_append, List.length_append, hn, all_mono (by omega) h]
  rfl
section
variable {q q' : Pn} {more : Store}
@[simp] theorem pen_len : (penS q).length = 2 := rfl
theorem pen_bel {n : Nat} (h : 1 ≤ n) : (penS q).all (belO n) = true := by
  have : ∀ c : List Int, bels n (c.map .int) = true := fun c => bels_map (fun _ => rfl) c
  simp [penS, this]; omega
theorem pen_cl (h : clM more) : clS (penS q ++ more) = true := by
  unfold clS
  have e : (penS q ++ more).length = more.length + 2 := by simp; omega
  rw [List.all_append, e, pen_bel (by omega), h]; rfl
theorem pen_app_len : (penS q ++ more).length = more.length + 2 := by simp; omega
@[simp high] theorem pen_get {n : Nat} : (penS q ++ more)[n + 2]? = more[n]? := rfl
@[simp high] theorem pen_get' {n : Nat} : (penS q ++ more)[2 + n]? = more[n]? := by rw [Nat.add_comm]; rfl
@[simp high] theorem pen_get1 : (penS q ++ more)[1]? = some (.lst [.ref 0, .int q.at', .int q.v]) := rfl
@[simp high] theorem pen_set {n : Nat} {o : SObj} : (penS q ++ more).set (n + 2) o = penS q ++ more.set n o := rfl
@[simp high] theorem pen_set' {n : Nat} {o : SObj} : (penS q ++ more).set (2 + n) o = penS q ++ more.set n o := by rw [Nat.add_comm]; rfl
@[simp high] theorem app_get {r : Store} {k : Nat} : (more ++ r)[more.length + k]? = r[k]? := by
  rw [List.getElem?_append_right (by omega)]
  congr 1; omega
@[simp high] theorem app_get0 {r : Store} : (more ++ r)[more.length]? = r[0]? := app_get (k := 0)
@[simp high] theorem app_set {r : Store} {k : Nat} {o : SObj} : (more ++ r).set (more.length + k) o = more ++ r.set k o := by
  rw [List.set_append_right _ _ (by omega)]
  congr 2; omega
@[simp high] theorem app_set0 {r : Store} {o : SObj} : (more ++ r).set more.length o = more ++ r.set 0 o := app_set (k := 0)
theorem pen_outN {base : Nat} {new : Store} {d : D} {Q : D × Store → Prop} (hc : clM more) (hb : base = more.length + 2) (hd : bel (more.length + 2) d = true) (k : Q (d, penS q ++ more)) : Wp (frzOut base (d, penS q ++ (more ++ new))) Q := by
  subst hb
  rw [← List.append_assoc, out_new (by simp; omega) (pen_cl hc) hd]
  exact (wp_some _).mpr k
theorem pen_out {base : Nat} {d : D} {Q : D × Store → Prop} (hc : clM more) (hb : base = more.length + 2) (hd : bel (more.length + 2) d = true) (k : Q (d, penS q ++ more)) : Wp (frzOut base (d, penS q ++ more)) Q := by
  have := pen_outN (new := []) hc hb hd k
  rwa [List.append_nil] at this
theorem pen_outL {base n m : Nat} {new : Store} {es : List D} {Q : D × Store → Prop} (hc : clM more) (hb : base = more.length + 2) (hm : m = n + 2) (hk : (more ++ new)[n]? = some (.lst es)) (hn : more.length ≤ n) (hd : bels (more.length + 2) es = true) (k : Q (.lst es, penS q ++ more)) : Wp (frzOut base (.ref m, penS q ++ (more ++ new))) Q := by
  subst hb hm
  rw [← List.append_assoc, out_lst (es := es) (by simp; omega) (pen_cl hc) (by rw [List.append_assoc, pen_get]; exact hk) (by omega) hd]
  exact (wp_some _).mpr k
end
/-! ### loops -/
theorem wp_for {ck : Store → Bool} {f : D → DL.Env → Store → Option (Fl × DL.Env × Store)} {Q : Fl × DL.Env × Store → Prop} (I : List D → DL.Env → Store → Prop) :
    ∀ (ds : List D) (env : DL.Env) (st : Store), I ds env st → (∀ env st, I [] env st → ck st = true ∧ Q (.next, env, st)) →
    (∀ d ds env st, I (d :: ds) env st → ck st = true ∧ Wp (f d env st) fun r => ((r.1 = .next ∨ r.1 = .cont) ∧ I ds r.2.1 r.2.2) ∨ (r.1 = .brk ∧ Q (.next, r.2)) ∨ (∃ v, r.1 = .ret v ∧ Q r)) → Wp (forL ck f ds env st) Q
  | [], env, st, i, h0, _ => by
    obtain ⟨a, b⟩ := h0 env st i
    rw [fo_nil, if_pos a]
    exact (wp_some _).mpr b
  | d :: ds, env, st, i, h0, hs => by
    obtain ⟨a, r, e, h⟩ := hs d ds env st i
    rw [fo_cons, if_pos a, e]
    obtain ⟨fl, env', st'⟩ := r
    rcases h with ⟨h1, h2⟩ | ⟨h1, h2⟩ | ⟨v, h1, h2⟩
    · rcases h1 with h1 | h1 <;> simp only at h1 <;> subst h1 <;> exact wp_for I ds env' st' h2 h0 hs
    · simp only at h1; subst h1; exact (wp_some _).mpr h2
    · simp only at h1; subst h1; exact (wp_some _).mpr h2
/-- a comprehension -/
theorem wp_comp {ck : Store → Bool} {g : DenG} {tt : DenT} {te : Den} {envW : DL.Env} {Q : List D × Store → Prop} (I : List D → List D → Store → Prop) :
    ∀ (ds ys : List D) (st : Store), I ds ys st → (∀ ys st, I [] ys st → ck st = true ∧ Q (ys, st)) →
    (∀ d ds ys st, I (d :: ds) ys st → ck st = true ∧ Wp (g d envW st) fun r => Wp (tt r.1 r.2) fun t => if t.1 = true then Wp (te r.1 t.2) fun y => I ds (ys ++ [y.1]) y.2 else I ds ys t.2) →
    Wp (compL ck g tt te envW ds st) fun r => Q (ys ++ r.1, r.2)
  | [], ys, st, i, h0, _ => by
    obtain ⟨a, b⟩ := h0 ys st i
    rw [compL, if_pos a]
    exact (wp_some _).mpr (by simpa using b)
  | d :: ds, ys, st, i, h0, hs => by
    obtain ⟨a, r, e1, t, e2, h⟩ := hs d ds ys st i
    rw [compL, if_pos a, e1]
    simp only [Option.bind_some, e2]
    obtain ⟨t1, t2⟩ := t
    cases t1 with
    | true =>
      obtain ⟨y, e3, h⟩ := (by simpa using h : Wp (te r.1 t2) fun y => I ds (ys ++ [y.1]) y.2)
      have ih := wp_comp I ds (ys ++ [y.1]) y.2 h h0 hs
      obtain ⟨z, e4, h4⟩ := ih
      simp only [if_true, e3, Option.bind_some, e4, Option.map_some]
      exact (wp_some _).mpr (by simpa using h4)
    | false =>
      have h : I ds ys t2 := by simpa using h
      exact wp_comp I ds ys t2 h h0 hs
end DL
set_option Elab.async false
set_option linter.all false
set_option maxRecDepth 100000
set_option maxHeartbeats 4000000
/-! PL2: denotations asked backwards, step by step: what is left is told by constants. -/
namespace DL
open PySem
abbrev Qd := D × Store → Prop
abbrev Qs := Fl × DL.Env × Store → Prop
abbrev Qa := List D × Store → Prop
abbrev Qb := Bool × Store → Prop
abbrev Qe := DL.Env × Store → Prop
def kMk {α : Type} (Q : α × Store → Prop) (st : Store) : α → Prop := fun d => Q (d, st)
def kVar (Q : Qd) (st : Store) : Option (Option D) → Prop
  | some (some d) => Q (d, st)
  | _ => False
def kOp2 (f : F2) (x : D) (Q : Qd) : Qd := fun p => Wp (f p.2 x p.1) (kMk Q p.2)
def kOp1 (f : F2) (b : Den) (env : DL.Env) (Q : Qd) : Qd := fun p => Wp (b env p.2) (kOp2 f p.1 Q)
def kCons2 (x : D) (Q : Qa) : Qa := fun p => Q (x :: p.1, p.2)
def kCons1 (r : DenA) (env : DL.Env) (Q : Qa) : Qd := fun p => Wp (r env p.2) (kCons2 p.1 Q)
def kCall (f : FC) (Q : Qd) : Qa := fun p => Wp (f p.2 p.1) Q
def kFun (g : FD) (Q : Qd) : Qa := fun p => Wp (g p.1 p.2) Q
def kTup (Q : Qd) : Qa := fun p => p.1.length ≤ 16777216 ∧ Q (.tup p.1, p.2)
def kLst (Q : Qd) : Qa := fun p => p.1.length ≤ 16777216 ∧ Q (.lst p.1, p.2)
def kLstR (Q : Qd) : Qa := fun p => p.1.length ≤ 16777216 ∧ Q (.ref p.2.length, p.2 ++ [.lst p.1])
def kB (Q : Qb) : Qd := fun p => match p.1 with
  | .bl b => Q (b, p.2)
  | _ => False
def kCh3 (g : F2) (y : D) (Q : Qd) : Qd := fun p => Wp (g p.2 y p.1) (kMk Q p.2)
def kCh2 (g : F2) (c : Den) (env : DL.Env) (y : D) (st : Store) (Q : Qd) : D → Prop
  | .bl true => Wp (c env st) (kCh3 g y Q)
  | .bl false => Q (.bl false, st)
  | _ => False
def kCh1 (f g : F2) (c : Den) (env : DL.Env) (x : D) (Q : Qd) : Qd := fun p => Wp (f p.2 x p.1) (kCh2 g c env p.1 p.2 Q)
def kCh0 (f g : F2) (b c : Den) (env : DL.Env) (Q : Qd) : Qd := fun p => Wp (b env p.2) (kCh1 f g c env p.1 Q)
def kAnd (b : Den) (env : DL.Env) (Q : Qd) : Qd := fun p => match p.1 with
  | .bl true => Wp (b env p.2) Q
  | .bl false => Q (.bl false, p.2)
  | _ => False
def kOr (b : Den) (env : DL.Env) (Q : Qd) : Qd := fun p => match p.1 with
  | .bl true => Q (.bl true, p.2)
  | .bl false => Wp (b env p.2) Q
  | _ => False
def kNot (Q : Qd) : Qd := fun p => match p.1 with
  | .bl b => Q (.bl (!b), p.2)
  | _ => False
def kNeg (Q : Qd) : Qd := fun p => match p.1 with
  | .int i => Q (.int (-i), p.2)
  | _ => False
def kIf (a b : Den) (env : DL.Env) (Q : Qd) : Qb := fun p => if p.1 = true then Wp (a env p.2) Q else Wp (b env p.2) Q
def kTAnd (u : DenT) (env : DL.Env) (Q : Qb) : Qb := fun p => if p.1 = true then Wp (u env p.2) Q else Q (false, p.2)
def kTOr (u : DenT) (env : DL.Env) (Q : Qb) : Qb := fun p => if p.1 = true then Q (true, p.2) else Wp (u env p.2) Q
def kTNot (Q : Qb) : Qb := fun p => Q (!p.1, p.2)
def kTru (Q : Qb) : Qd := fun p => Wp (truD p.2 p.1) (kMk Q p.2)
def kIsi (U : TyN) (Q : Qd) : Qd := fun p => Wp (tyD p.2 p.1) fun T => Q (.bl (isA T U), p.2)
def kIsi2 (U W : TyN) (Q : Qd) : Qd := fun p => Wp (tyD p.2 p.1) fun T => Q (.bl (isA T U || isA T W), p.2)
def kSl3 (x : D) (l : Option Int) (Q : Qd) : Option Int × Store → Prop := fun p => Wp (fSl p.2 x l p.1) (kMk Q p.2)
def kSl2 (h : DenP) (env : DL.Env) (x : D) (Q : Qd) : Option Int × Store → Prop := fun p => Wp (h env p.2) (kSl3 x p.1 Q)
def kSl1 (l h : DenP) (env : DL.Env) (Q : Qd) : Qd := fun p => Wp (l env p.2) (kSl2 h env p.1 Q)
def kSome (Q : Option Int × Store → Prop) : Qd := fun p => match p.1 with
  | .int i => Q (some i, p.2)
  | _ => False
def kRev (Q : Qd) : Qd := fun p => Wp (fRev p.1) (kMk Q p.2)
def kRevS (Q : Qd) : Qd := fun p => Wp (fRevS p.2 p.1) (kMk Q p.2)
def kMeth0 (T : Ty) (f : FM) (Q : Qd) : Qd := fun p => tyOk T p.2 p.1 = true ∧ Wp (f p.2 p.1 []) Q
def kMeth2 (f : FM) (x : D) (Q : Qd) : Qa := fun q => Wp (f q.2 x q.1) Q
def kMeth1 (T : Ty) (f : FM) (r : DenA) (env : DL.Env) (Q : Qd) : Qd := fun p => tyOk T p.2 p.1 = true ∧ Wp (r env p.2) (kMeth2 f p.1 Q)
def kSeq (s : DenS) (Q : Qs) : Qs := fun p => match p.1 with
  | .next => Wp (s p.2.1 p.2.2) Q
  | f => Q (f, p.2.1, p.2.2)
def kRet (env : DL.Env) (Q : Qs) : Qd := fun p => Q (.ret p.1, env, p.2)
def kDrop (env : DL.Env) (Q : Qs) : Qd := fun p => Q (.next, env, p.2)
def kSet (i : Nat) (env : DL.Env) (Q : Qs) : Qd := fun p => Q (.next, env.set i (some p.1), p.2)
def kNx (Q : Qs) : Qe := fun p => Q (.next, p.1, p.2)
def kAsg (g : DenG) (env : DL.Env) (Q : Qs) : Qd := fun p => Wp (g p.1 env p.2) (kNx Q)
def kSIf (a b : DenS) (env : DL.Env) (Q : Qs) : Qb := fun p => if p.1 = true then Wp (a env p.2) Q else Wp (b env p.2) Q
def kAug2 (i : Nat) (f : F2) (y : D) (env : DL.Env) (Q : Qs) : Qd := fun p => Wp (f p.2 y p.1) fun z => Q (.next, env.set i (some z), p.2)
def kAug (i : Nat) (f : F2) (a : Den) (env : DL.Env) (st : Store) (Q : Qs) : Option (Option D) → Prop
  | some (some y) => Wp (a env st) (kAug2 i f y env Q)
  | _ => False
def kPar (i j : Nat) (env : DL.Env) (Q : Qs) : Qa := fun p => match p.1 with
  | [x, y] => Q (.next, (env.set i (some x)).set j (some y), p.2)
  | _ => False
def kPar3 (i j l : Nat) (env : DL.Env) (Q : Qs) : Qa := fun p => match p.1 with
  | [x, y, z] => Q (.next, ((env.set i (some x)).set j (some y)).set l (some z), p.2)
  | _ => False
abbrev Qi := (List D × (Store → Bool)) × Store → Prop
def kFor (g : DenG) (b : DenS) (env : DL.Env) (Q : Qs) : Qi := fun p => Wp (forL p.1.2 (forB g b) p.1.1 env p.2) Q
def kForB (b : DenS) (Q : Qs) : Qe := fun p => Wp (b p.1 p.2) Q
def kUn (n : Nat) (gs : List D → DL.Env → Store → Option (DL.Env × Store)) (env : DL.Env) (st : Store) (Q : Qe) : List D → Prop := fun ds => ds.length = n ∧ Wp (gs ds env st) Q
def kGs (gs : List D → DL.Env → Store → Option (DL.Env × Store)) (xs : List D) (Q : Qe) : Qe := fun p => Wp (gs xs p.1 p.2) Q
def kSub2 (x o : D) (env : DL.Env) (Q : Qe) : Qd := fun p => Wp (setD p.2 o p.1 x) fun st' => Q (env, st')
def kSub1 (b : Den) (x : D) (env : DL.Env) (Q : Qe) : Qd := fun p => Wp (b env p.2) (kSub2 x p.1 env Q)
def kOf (Q : Qi) : Qd := fun p => Wp (walkD p.2 p.1) (kMk Q p.2)
def kRng (f : List D → Option (List D × (Store → Bool))) (Q : Qi) : Qa := fun p => Wp (f p.1) (kMk Q p.2)
def kEnum (Q : Qi) : Qa := fun p => match p.1 with
  | [x] => Wp (walkD p.2 x) fun w => Q ((enumD w.1, w.2), p.2)
  | _ => False
def kZip (Q : Qi) : Qa := fun p => match p.1 with
  | [x, y] => Wp (walkD p.2 x) fun w => Wp (walkD p.2 y) fun u => Q ((zipD w.1 u.1, andS w.2 u.2), p.2)
  | _ => False
def kZipS (Q : Qi) : Qa := fun p => match p.1 with
  | [x, y] => Wp (walkD p.2 x) fun w => Wp (walkD p.2 y) fun u => w.1.length = u.1.length ∧ Q ((zipD w.1 u.1, andS w.2 u.2), p.2)
  | _ => False
def kComp (g : DenG) (t : DenT) (te : Den) (envW : DL.Env) (Q : Qd) : Qi := fun p => Wp (compL p.1.2 g t te envW p.1.1 p.2) (kLst Q)
def kCompR (g : DenG) (t : DenT) (te : Den) (envW : DL.Env) (Q : Qd) : Qi := fun p => Wp (compL p.1.2 g t te envW p.1.1 p.2) (kLstR Q)
def kSortSet (Q : Qd) : Qd := fun p => Wp (fSetK p.2 p.1) fun ks => sortOk (ks.map keyD) = true ∧ Q (.lst ((ks.map keyD).mergeSort dle), p.2)
def kLenSet (Q : Qd) : Qd := fun p => Wp (fSetK p.2 p.1) fun ks => Q (.int ks.length, p.2)
def kLR1 (f : List D → Store → D × Store) (Q : Qd) : Qd := fun p => match p.1 with
  | .int n => rgOk 0 n = true ∧ Q (f (rgD 0 n) p.2)
  | _ => False
def kLR2b (f : List D → Store → D × Store) (x : D) (Q : Qd) : Qd := fun q => match x, q.1 with
  | .int m, .int n => rgOk m n = true ∧ Q (f (rgD m n) q.2)
  | _, _ => False
def kLR2 (f : List D → Store → D × Store) (b : Den) (env : DL.Env) (Q : Qd) : Qd := fun p => Wp (b env p.2) (kLR2b f p.1 Q)
def kOut (Q : Qd) : Qs := fun p => Wp (outD p) Q
def kLoop (ck : Store → Bool) (f : D → DL.Env → Store → Option (Fl × DL.Env × Store)) (ds : List D) (Q : Qs) : Qs := fun p => match p.1 with
  | .next => Wp (forL ck f ds p.2.1 p.2.2) Q
  | .cont => Wp (forL ck f ds p.2.1 p.2.2) Q
  | .brk => Q (.next, p.2.1, p.2.2)
  | .ret v => Q (.ret v, p.2.1, p.2.2)
def kWh2 (c : DenT) (b : DenS) (n : Nat) (Q : Qs) : Qs := fun q => match q.1 with
  | .next => Wp (whileL c b n q.2.1 q.2.2) Q
  | .cont => Wp (whileL c b n q.2.1 q.2.2) Q
  | .brk => Q (.next, q.2.1, q.2.2)
  | .ret v => Q (.ret v, q.2.1, q.2.2)
def kWh (c : DenT) (b : DenS) (n : Nat) (env : DL.Env) (Q : Qs) : Qb := fun p => if p.1 = true then Wp (b env p.2) (kWh2 c b n Q) else Q (.next, env, p.2)
def kCm3 (ck : Store → Bool) (g : DenG) (t : DenT) (te : Den) (envW : DL.Env) (ds : List D) (y : D) (Q : Qa) : Qa := fun r => Q (y :: r.1, r.2)
def kCm2 (ck : Store → Bool) (g : DenG) (t : DenT) (te : Den) (envW : DL.Env) (ds : List D) (Q : Qa) : Qd := fun y => Wp (compL ck g t te envW ds y.2) (kCm3 ck g t te envW ds y.1 Q)
def kCm1 (ck : Store → Bool) (g : DenG) (t : DenT) (te : Den) (envW : DL.Env) (ds : List D) (env : DL.Env) (Q : Qa) : Qb := fun b => if b.1 = true then Wp (te env b.2) (kCm2 ck g t te envW ds Q) else Wp (compL ck g t te envW ds b.2) Q
def kCm0 (ck : Store → Bool) (g : DenG) (t : DenT) (te : Den) (envW : DL.Env) (ds : List D) (Q : Qa) : Qe := fun q => Wp (t q.1 q.2) (kCm1 ck g t te envW ds q.1 Q)
section
variable {env envW : DL.Env} {st : Store} {a b c : Den} {x y z : D} {xs ds : List D} {r : DenA} {t u : DenT} {s1 s2 : DenS} {g : DenG} {di : DenI} {f f' : F2} {bo : Bool} {p : Prop} {n : Nat} {ck : Store → Bool}
variable {Q : Qd} {Qs' : Qs} {Qa' : Qa} {Qb' : Qb} {Qe' : Qe} {Qi' : Qi} {Qp : Option Int × Store → Prop}
theorem wp_if_none {α β : Type} {c : Prop} [Decidable c] {o : Option β} {Q : β → Prop} : Wp (if c then o else none) Q ↔ c ∧ Wp o Q := wp_guard
@[simp ↓] theorem w_some {β : Type} {Q : β → Prop} (b : β) : Wp (some b) Q ↔ Q b := wp_some b
@[simp] theorem k_mk {α : Type} (Q : α × Store → Prop) (d : α) : kMk Q st d ↔ Q (d, st) := Iff.rfl
@[simp ↓] theorem w_var (i : Nat) : Wp (dVar i env st) Q ↔ kVar Q st env[i]? := by
  rw [ev_var]
  cases h : env[i]? with
  | none => simp [kVar]
  | some o => cases o <;> simp [kVar]
@[simp] theorem k_var : kVar Q st (some (some x)) ↔ Q (x, st) := Iff.rfl
@[simp ↓] theorem w_c (d : D) : Wp (dC d env st) Q ↔ Q (d, st) := by rw [ev_c, wp_some]
@[simp ↓] theorem w_op : Wp (dOp2 f a b env st) Q ↔ Wp (a env st) (kOp1 f b env Q) := by
  rw [ev_op]; simp only [wp_bind, wp_map]; rfl
@[simp] theorem k_op1 : kOp1 f b env Q (x, st) ↔ Wp (b env st) (kOp2 f x Q) := Iff.rfl
@[simp] theorem k_op2 : kOp2 f x Q (y, st) ↔ Wp (f st x y) (kMk Q st) := Iff.rfl
@[simp ↓] theorem w_anil : Wp (aNil env st) Qa' ↔ Qa' ([], st) := by rw [ev_anil, wp_some]
@[simp ↓] theorem w_acons : Wp (aCons a r env st) Qa' ↔ Wp (a env st) (kCons1 r env Qa') := by
  rw [ev_acons]; simp only [wp_bind, wp_map]; rfl
@[simp] theorem k_cons1 : kCons1 r env Qa' (x, st) ↔ Wp (r env st) (kCons2 x Qa') := Iff.rfl
@[simp] theorem k_cons2 : kCons2 x Qa' (xs, st) ↔ Qa' (x :: xs, st) := Iff.rfl
@[simp ↓] theorem w_call (f : FC) : Wp (dCall f r env st) Q ↔ Wp (r env st) (kCall f Q) := by
  rw [ev_call]; simp only [wp_bind]; rfl
@[simp] theorem k_call (f : FC) : kCall f Q (xs, st) ↔ Wp (f st xs) Q := Iff.rfl
@[simp ↓] theorem w_p1 (f : Store → D → Option D) : Wp (pure1 f st [x]) Q ↔ Wp (f st x) (kMk Q st) := by rw [ev_p1, wp_map]; rfl
@[simp ↓] theorem w_p2 (f : Store → D → D → Option D) : Wp (pure2 f st [x, y]) Q ↔ Wp (f st x y) (kMk Q st) := by rw [ev_p2, wp_map]; rfl
@[simp ↓] theorem w_fun (g : FD) : Wp (dCallF g r env st) Q ↔ Wp (r env st) (kFun g Q) := by
  rw [ev_fun]; simp only [wp_bind]; rfl
@[simp] theorem k_fun (g : FD) : kFun g Q (xs, st) ↔ Wp (g xs st) Q := Iff.rfl
@[simp ↓] theorem w_tup : Wp (dTup r env st) Q ↔ Wp (r env st) (kTup Q) := by
  rw [ev_tup]; simp only [wp_bind, wp_guard, wp_some]; rfl
@[simp] theorem k_tup : kTup Q (xs, st) ↔ xs.length ≤ 16777216 ∧ Q (.tup xs, st) := Iff.rfl
@[simp ↓] theorem w_lst : Wp (dLst r env st) Q ↔ Wp (r env st) (kLst Q) := by
  rw [ev_lst]; simp only [wp_bind, wp_guard, wp_some]; rfl
@[simp] theorem k_lst : kLst Q (xs, st) ↔ xs.length ≤ 16777216 ∧ Q (.lst xs, st) := Iff.rfl
@[simp ↓] theorem w_lstR : Wp (dLstR r env st) Q ↔ Wp (r env st) (kLstR Q) := by
  rw [ev_lstR]; simp only [wp_bind, wp_guard, wp_some]; rfl
@[simp] theorem k_lstR : kLstR Q (xs, st) ↔ xs.length ≤ 16777216 ∧ Q (.ref st.length, st ++ [.lst xs]) := Iff.rfl
@[simp ↓] theorem w_asB : Wp (asB a env st) Qb' ↔ Wp (a env st) (kB Qb') := by
  rw [ev_asB, wp_bind]
  have : (fun p : D × Store => Wp (match p.1 with | .bl b => some (b, p.2) | _ => none) Qb') = kB Qb' := by
    funext ⟨d, s⟩
    cases d <;> simp [kB]
  rw [← this] <;> rfl
@[simp] theorem k_b : kB Qb' (.bl bo, st) ↔ Qb' (bo, st) := Iff.rfl
@[simp ↓] theorem w_chain : Wp (dChain f f' a b c env st) Q ↔ Wp (a env st) (kCh0 f f' b c env Q) := by
  rw [ev_chain]; simp only [wp_bind]
  refine Iff.of_eq (congrArg _ (funext fun p => congrArg _ (funext fun q => congrArg _ (funext fun r => ?_))))
  cases r with
  | bl k => cases k <;> simp [kCh2, wp_bind, wp_map] <;> rfl
  | _ => simp [kCh2]
@[simp] theorem k_ch0 : kCh0 f f' b c env Q (x, st) ↔ Wp (b env st) (kCh1 f f' c env x Q) := Iff.rfl
@[simp] theorem k_ch1 : kCh1 f f' c env x Q (y, st) ↔ Wp (f st x y) (kCh2 f' c env y st Q) := Iff.rfl
@[simp] theorem k_ch2t : kCh2 f' c env y st Q (.bl true) ↔ Wp (c env st) (kCh3 f' y Q) := Iff.rfl
@[simp] theorem k_ch2f : kCh2 f' c env y st Q (.bl false) ↔ Q (.bl false, st) := Iff.rfl
@[simp] theorem k_ch2d [Decidable p] : kCh2 f' c env y st Q (.bl (decide p)) ↔ (p → Wp (c env st) (kCh3 f' y Q)) ∧ (¬ p → Q (.bl false, st)) := by
  by_cases h : p <;> simp [h]
@[simp] theorem k_ch3 : kCh3 f' y Q (z, st) ↔ Wp (f' st y z) (kMk Q st) := Iff.rfl
@[simp ↓] theorem w_and : Wp (dAnd a b env st) Q ↔ Wp (a env st) (kAnd b env Q) := by
  rw [ev_and, wp_bind]
  refine Iff.of_eq (congrArg _ (funext fun p => ?_))
  obtain ⟨d, s⟩ := p
  cases d with
  | bl k => cases k <;> simp [kAnd]
  | _ => simp [kAnd]
@[simp] theorem k_andt : kAnd b env Q (.bl true, st) ↔ Wp (b env st) Q := Iff.rfl
@[simp] theorem k_andf : kAnd b env Q (.bl false, st) ↔ Q (.bl false, st) := Iff.rfl
@[simp] theorem k_andd [Decidable p] : kAnd b env Q (.bl (decide p), st) ↔ (p → Wp (b env st) Q) ∧ (¬ p → Q (.bl false, st)) := by
  by_cases h : p <;> simp [h]
@[simp ↓] theorem w_or : Wp (dOr a b env st) Q ↔ Wp (a env st) (kOr b env Q) := by
  rw [ev_or, wp_bind]
  refine Iff.of_eq (congrArg _ (funext fun p => ?_))
  obtain ⟨d, s⟩ := p
  cases d with
  | bl k => cases k <;> simp [kOr]
  | _ => simp [kOr]
@[simp] theorem k_ort : kOr b env Q (.bl true, st) ↔ Q (.bl true, st) := Iff.rfl
@[simp] theorem k_orf : kOr b env Q (.bl false, st) ↔ Wp (b env st) Q := Iff.rfl
@[simp] theorem k_ord [Decidable p] : kOr b env Q (.bl (decide p), st) ↔ (p → Q (.bl true, st)) ∧ (¬ p → Wp (b env st) Q) := by
  by_cases h : p <;> simp [h]
@[simp ↓] theorem w_not : Wp (dNot a env st) Q ↔ Wp (a env st) (kNot Q) := by
  rw [ev_not, wp_bind]
  refine Iff.of_eq (congrArg _ (funext fun p => ?_))
  obtain ⟨d, s⟩ := p
  cases d <;> simp [kNot]
@[simp] theorem k_not : kNot Q (.bl bo, st) ↔ Q (.bl (!bo), st) := Iff.rfl
@[simp ↓] theorem w_neg : Wp (dNeg a env st) Q ↔ Wp (a env st) (kNeg Q) := by
  rw [ev_neg, wp_bind]
  refine Iff.of_eq (congrArg _ (funext fun p => ?_))
  obtain ⟨d, s⟩ := p
  cases d <;> simp [kNeg]
@[simp] theorem k_neg (i : Int) : kNeg Q (.int i, st) ↔ Q (.int (-i), st) := Iff.rfl
theorem ite_wp {β : Type} {o o' : Option β} {Q : β → Prop} {c : Prop} [Decidable c] : Wp (if c then o else o') Q ↔ if c then Wp o Q else Wp o' Q := by
  by_cases h : c <;> simp [h]
@[simp ↓] theorem w_if : Wp (dIf t a b env st) Q ↔ Wp (t env st) (kIf a b env Q) := by
  rw [ev_if, wp_bind]
  exact Iff.of_eq (congrArg _ (funext fun p => propext ite_wp))
@[simp] theorem k_ift : kIf a b env Q (true, st) ↔ Wp (a env st) Q := Iff.of_eq (if_pos rfl)
@[simp] theorem k_iff : kIf a b env Q (false, st) ↔ Wp (b env st) Q := Iff.of_eq (if_neg Bool.false_ne_true)
@[simp] theorem k_ifd [Decidable p] : kIf a b env Q (decide p, st) ↔ (p → Wp (a env st) Q) ∧ (¬ p → Wp (b env st) Q) := by
  by_cases h : p <;> simp [h]
@[simp ↓] theorem w_tand : Wp (tAndD t u env st) Qb' ↔ Wp (t env st) (kTAnd u env Qb') := by
  rw [ev_tand, wp_bind]
  exact Iff.of_eq (congrArg _ (funext fun p => propext (by rw [ite_wp, wp_some]; rfl)))
@[simp] theorem k_tandt : kTAnd u env Qb' (true, st) ↔ Wp (u env st) Qb' := Iff.of_eq (if_pos rfl)
@[simp] theorem k_tandf : kTAnd u env Qb' (false, st) ↔ Qb' (false, st) := Iff.of_eq (if_neg Bool.false_ne_true)
@[simp] theorem k_tandd [Decidable p] : kTAnd u env Qb' (decide p, st) ↔ (p → Wp (u env st) Qb') ∧ (¬ p → Qb' (false, st)) := by
  by_cases h : p <;> simp [h]
@[simp ↓] theorem w_tor : Wp (tOrD t u env st) Qb' ↔ Wp (t env st) (kTOr u env Qb') := by
  rw [ev_tor, wp_bind]
  exact Iff.of_eq (congrArg _ (funext fun p => propext (by rw [ite_wp, wp_some]; rfl)))
@[simp] theorem k_tort : kTOr u env Qb' (true, st) ↔ Qb' (true, st) := Iff.of_eq (if_pos rfl)
@[simp] theorem k_torf : kTOr u env Qb' (false, st) ↔ Wp (u env st) Qb' := Iff.of_eq (if_neg Bool.false_ne_true)
@[simp] theorem k_tord [Decidable p] : kTOr u env Qb' (decide p, st) ↔ (p → Qb' (true, st)) ∧ (¬ p → Wp (u env st) Qb') := by
  by_cases h : p <;> simp [h]
@[simp ↓] theorem w_tnot : Wp (tNotD t env st) Qb' ↔ Wp (t env st) (kTNot Qb') := by
  rw [ev_tnot, wp_map]; rfl
@[simp] theorem k_tnot : kTNot Qb' (bo, st) ↔ Qb' (!bo, st) := Iff.rfl
@[simp ↓] theorem w_tru : Wp (tTru a env st) Qb' ↔ Wp (a env st) (kTru Qb') := by
  rw [ev_tru]; simp only [wp_bind, wp_map]; rfl
@[simp] theorem k_tru : kTru Qb' (x, st) ↔ Wp (truD st x) (kMk Qb' st) := Iff.rfl
@[simp ↓] theorem w_isi (U : TyN) : Wp (dIsi U a env st) Q ↔ Wp (a env st) (kIsi U Q) := by
  rw [ev_isi]; simp only [wp_bind, wp_map]; rfl
@[simp] theorem k_isi (U : TyN) : kIsi U Q (x, st) ↔ Wp (tyD st x) fun T => Q (.bl (isA T U), st) := Iff.rfl
@[simp ↓] theorem w_isi2 (U W : TyN) : Wp (dIsi2 U W a env st) Q ↔ Wp (a env st) (kIsi2 U W Q) := by
  rw [ev_isi2]; simp only [wp_bind, wp_map]; rfl
@[simp] theorem k_isi2 (U W : TyN) : kIsi2 U W Q (x, st) ↔ Wp (tyD st x) fun T => Q (.bl (isA T U || isA T W), st) := Iff.rfl
@[simp ↓] theorem w_sl (l h : DenP) : Wp (dSl a l h env st) Q ↔ Wp (a env st) (kSl1 l h env Q) := by
  rw [ev_sl]; simp only [wp_bind, wp_map]; rfl
@[simp] theorem k_sl1 (l h : DenP) : kSl1 l h env Q (x, st) ↔ Wp (l env st) (kSl2 h env x Q) := Iff.rfl
@[simp] theorem k_sl2 (h : DenP) (i : Option Int) : kSl2 h env x Q (i, st) ↔ Wp (h env st) (kSl3 x i Q) := Iff.rfl
@[simp] theorem k_sl3 (i j : Option Int) : kSl3 x i Q (j, st) ↔ Wp (fSl st x i j) (kMk Q st) := Iff.rfl
@[simp ↓] theorem w_pnone : Wp (pNone env st) Qp ↔ Qp (none, st) := by rw [ev_pnone, wp_some]
@[simp ↓] theorem w_psome : Wp (pSome a env st) Qp ↔ Wp (a env st) (kSome Qp) := by
  rw [ev_psome, wp_bind]
  refine Iff.of_eq (congrArg _ (funext fun p => ?_))
  obtain ⟨d, s⟩ := p
  cases d <;> simp [kSome]
@[simp] theorem k_psome (i : Int) : kSome Qp (.int i, st) ↔ Qp (some i, st) := Iff.rfl
@[simp ↓] theorem w_rev : Wp (dRev a env st) Q ↔ Wp (a env st) (kRev Q) := by
  rw [ev_rev]; simp only [wp_bind, wp_map]; rfl
@[simp] theorem k_rev : kRev Q (x, st) ↔ Wp (fRev x) (kMk Q st) := Iff.rfl
@[simp ↓] theorem w_revS : Wp (dRevS a env st) Q ↔ Wp (a env st) (kRevS Q) := by
  rw [ev_revS]; simp only [wp_bind, wp_map]; rfl
@[simp] theorem k_revS : kRevS Q (x, st) ↔ Wp (fRevS st x) (kMk Q st) := Iff.rfl
@[simp ↓] theorem w_meth0 (T : Ty) (m : FM) : Wp (dMeth0 T m a env st) Q ↔ Wp (a env st) (kMeth0 T m Q) := by
  rw [ev_meth0]; simp only [wp_bind, wp_guard]; rfl
@[simp] theorem k_meth0 (T : Ty) (m : FM) : kMeth0 T m Q (x, st) ↔ tyOk T st x = true ∧ Wp (m st x []) Q := Iff.rfl
@[simp ↓] theorem w_meth (T : Ty) (m : FM) : Wp (dMeth T m a r env st) Q ↔ Wp (a env st) (kMeth1 T m r env Q) := by
  rw [ev_meth]; simp only [wp_bind, wp_guard]; rfl
@[simp] theorem k_meth1 (T : Ty) (m : FM) : kMeth1 T m r env Q (x, st) ↔ tyOk T st x = true ∧ Wp (r env st) (kMeth2 m x Q) := Iff.rfl
@[simp] theorem k_meth2 (m : FM) : kMeth2 m x Q (xs, st) ↔ Wp (m st x xs) Q := Iff.rfl
@[simp ↓] theorem w_snext : Wp (sNext env st) Qs' ↔ Qs' (.next, env, st) := by rw [ev_snext, wp_some]
@[simp ↓] theorem w_seq : Wp (sSeq s1 s2 env st) Qs' ↔ Wp (s1 env st) (kSeq s2 Qs') := by
  rw [ev_seq, wp_bind]
  refine Iff.of_eq (congrArg _ (funext fun p => ?_))
  obtain ⟨fl, e, s⟩ := p
  cases fl <;> simp [kSeq]
@[simp] theorem k_seq : kSeq s2 Qs' (.next, env, st) ↔ Wp (s2 env st) Qs' := Iff.rfl
@[simp] theorem k_seqR : kSeq s2 Qs' (.ret x, env, st) ↔ Qs' (.ret x, env, st) := Iff.rfl
@[simp] theorem k_seqB : kSeq s2 Qs' (.brk, env, st) ↔ Qs' (.brk, env, st) := Iff.rfl
@[simp] theorem k_seqC : kSeq s2 Qs' (.cont, env, st) ↔ Qs' (.cont, env, st) := Iff.rfl
@[simp ↓] theorem w_sret : Wp (sRet a env st) Qs' ↔ Wp (a env st) (kRet env Qs') := by
  rw [ev_sret, wp_map]; rfl
@[simp] theorem k_sret : kRet env Qs' (x, st) ↔ Qs' (.ret x, env, st) := Iff.rfl
@[simp ↓] theorem w_sretN : Wp (sRetN env st) Qs' ↔ Qs' (.ret .non, env, st) := by rw [ev_sretN, wp_some]
@[simp ↓] theorem w_sbrk : Wp (sBreak env st) Qs' ↔ Qs' (.brk, env, st) := by rw [ev_sbrk, wp_some]
@[simp ↓] theorem w_scont : Wp (sCont env st) Qs' ↔ Qs' (.cont, env, st) := by rw [ev_scont, wp_some]
@[simp ↓] theorem w_sdrop : Wp (sDrop a env st) Qs' ↔ Wp (a env st) (kDrop env Qs') := by
  rw [ev_sdrop, wp_map]; rfl
@[simp] theorem k_sdrop : kDrop env Qs' (x, st) ↔ Qs' (.next, env, st) := Iff.rfl
@[simp ↓] theorem w_sset (i : Nat) : Wp (sSet i a env st) Qs' ↔ Wp (a env st) (kSet i env Qs') := by
  rw [ev_sset, wp_map]; rfl
@[simp] theorem k_sset (i : Nat) : kSet i env Qs' (x, st) ↔ Qs' (.next, env.set i (some x), st) := Iff.rfl
@[simp ↓] theorem w_sasg : Wp (sAsg a g env st) Qs' ↔ Wp (a env st) (kAsg g env Qs') := by
  rw [ev_sasg]; simp only [wp_bind, wp_map]; rfl
@[simp] theorem k_sasg : kAsg g env Qs' (x, st) ↔ Wp (g x env st) (kNx Qs') := Iff.rfl
@[simp] theorem k_nx : kNx Qs' (env, st) ↔ Qs' (.next, env, st) := Iff.rfl
@[simp ↓] theorem w_sif : Wp (sIf t s1 s2 env st) Qs' ↔ Wp (t env st) (kSIf s1 s2 env Qs') := by
  rw [ev_sif, wp_bind]
  exact Iff.of_eq (congrArg _ (funext fun p => propext ite_wp))
@[simp] theorem k_sift : kSIf s1 s2 env Qs' (true, st) ↔ Wp (s1 env st) Qs' := Iff.of_eq (if_pos rfl)
@[simp] theorem k_siff : kSIf s1 s2 env Qs' (false, st) ↔ Wp (s2 env st) Qs' := Iff.of_eq (if_neg Bool.false_ne_true)
@[simp] theorem k_sifd [Decidable p] : kSIf s1 s2 env Qs' (decide p, st) ↔ (p → Wp (s1 env st) Qs') ∧ (¬ p → Wp (s2 env st) Qs') := by
  by_cases h : p <;> simp [h]
@[simp ↓] theorem w_saug (i : Nat) : Wp (sAug i f a env st) Qs' ↔ kAug i f a env st Qs' env[i]? := by
  rw [ev_saug]
  cases h : env[i]? with
  | none => simp [kAug]
  | some o =>
    cases o with
    | none => simp [kAug]
    | some y => simp only [wp_bind, wp_map, kAug]; rfl
@[simp] theorem k_aug (i : Nat) : kAug i f a env st Qs' (some (some y)) ↔ Wp (a env st) (kAug2 i f y env Qs') := Iff.rfl
@[simp] theorem k_aug2 (i : Nat) : kAug2 i f y env Qs' (x, st) ↔ Wp (f st y x) fun z => Qs' (.next, env.set i (some z), st) := Iff.rfl
@[simp ↓] theorem w_spar (i j : Nat) : Wp (sPar i j r env st) Qs' ↔ Wp (r env st) (kPar i j env Qs') := by
  rw [ev_spar, wp_bind]
  refine Iff.of_eq (congrArg _ (funext fun p => ?_))
  obtain ⟨l, s⟩ := p
  match l with
  | [] => simp [kPar]
  | [x] => simp [kPar]
  | [x, y] => simp [kPar]
  | x :: y :: z :: w => simp [kPar]
@[simp] theorem k_par (i j : Nat) : kPar i j env Qs' ([x, y], st) ↔ Qs' (.next, (env.set i (some x)).set j (some y), st) := Iff.rfl
@[simp ↓] theorem w_spar3 (i j l : Nat) : Wp (sPar3 i j l r env st) Qs' ↔ Wp (r env st) (kPar3 i j l env Qs') := by
  rw [ev_spar3, wp_bind]
  refine Iff.of_eq (congrArg _ (funext fun p => ?_))
  obtain ⟨l, s⟩ := p
  match l with
  | [] => simp [kPar3]
  | [x] => simp [kPar3]
  | [x, y] => simp [kPar3]
  | [x, y, z] => simp [kPar3]
  | x :: y :: z :: w :: v => simp [kPar3]
@[simp] theorem k_par3 (i j l : Nat) : kPar3 i j l env Qs' ([x, y, z], st) ↔ Qs' (.next, ((env.set i (some x)).set j (some y)).set l (some z), st) := Iff.rfl
@[simp ↓] theorem w_sfor : Wp (sFor di g s1 env st) Qs' ↔ Wp (di env st) (kFor g s1 env Qs') := by
  rw [ev_sfor, wp_bind]; rfl
@[simp] theorem k_for : kFor g s1 env Qs' ((ds, ck), st) ↔ Wp (forL ck (forB g s1) ds env st) Qs' := Iff.rfl
@[simp ↓] theorem w_forB : Wp (forB g s1 x env st) Qs' ↔ Wp (g x env st) (kForB s1 Qs') := by
  rw [ev_forB, wp_bind]; rfl
@[simp] theorem k_forB : kForB s1 Qs' (env, st) ↔ Wp (s1 env st) Qs' := Iff.rfl
@[simp ↓] theorem w_gn (i : Nat) : Wp (gN i x env st) Qe' ↔ Qe' (env.set i (some x), st) := by rw [ev_gn, wp_some]
@[simp ↓] theorem w_gsnil : Wp (gsNil [] env st) Qe' ↔ Qe' (env, st) := by rw [ev_gsnil, wp_some]
@[simp ↓] theorem w_gscons (gs : List D → DL.Env → Store → Option (DL.Env × Store)) : Wp (gsCons g gs (x :: xs) env st) Qe' ↔ Wp (g x env st) (kGs gs xs Qe') := by
  rw [ev_gscons, wp_bind]; rfl
@[simp] theorem k_gs (gs : List D → DL.Env → Store → Option (DL.Env × Store)) : kGs gs xs Qe' (env, st) ↔ Wp (gs xs env st) Qe' := Iff.rfl
@[simp ↓] theorem w_gun (gs : List D → DL.Env → Store → Option (DL.Env × Store)) : Wp (gUn n gs x env st) Qe' ↔ Wp (seqOf st x) (kUn n gs env st Qe') := by
  rw [ev_gun]; simp only [wp_bind, wp_guard]; rfl
@[simp] theorem k_un (gs : List D → DL.Env → Store → Option (DL.Env × Store)) : kUn n gs env st Qe' ds ↔ ds.length = n ∧ Wp (gs ds env st) Qe' := Iff.rfl
@[simp ↓] theorem w_gsub : Wp (gSub a b x env st) Qe' ↔ Wp (a env st) (kSub1 b x env Qe') := by
  rw [ev_gsub]; simp only [wp_bind, wp_map]; rfl
@[simp] theorem k_sub1 : kSub1 b x env Qe' (y, st) ↔ Wp (b env st) (kSub2 x y env Qe') := Iff.rfl
@[simp] theorem k_sub2 : kSub2 x y env Qe' (z, st) ↔ Wp (setD st y z x) fun st' => Qe' (env, st') := Iff.rfl
@[simp ↓] theorem w_iof : Wp (iOf a env st) Qi' ↔ Wp (a env st) (kOf Qi') := by
  rw [ev_iof]; simp only [wp_bind, wp_map]; rfl
@[simp] theorem k_of : kOf Qi' (x, st) ↔ Wp (walkD st x) (kMk Qi' st) := Iff.rfl
@[simp ↓] theorem w_irng (rf : List D → Option (List D × (Store → Bool))) : Wp (iRng rf r env st) Qi' ↔ Wp (r env st) (kRng rf Qi') := by
  rw [ev_irng]; simp only [wp_bind, wp_map]; rfl
@[simp] theorem k_rng (rf : List D → Option (List D × (Store → Bool))) : kRng rf Qi' (xs, st) ↔ Wp (rf xs) (kMk Qi' st) := Iff.rfl
@[simp ↓] theorem w_ienum : Wp (iEnum r env st) Qi' ↔ Wp (r env st) (kEnum Qi') := by
  rw [ev_ienum, wp_bind]
  refine Iff.of_eq (congrArg _ (funext fun p => ?_))
  obtain ⟨l, s⟩ := p
  match l with
  | [] => simp [kEnum]
  | [x] => simp only [wp_map, kEnum]
  | x :: y :: z => simp [kEnum]
@[simp] theorem k_enum : kEnum Qi' ([x], st) ↔ Wp (walkD st x) fun w => Qi' ((enumD w.1, w.2), st) := Iff.rfl
@[simp ↓] theorem w_izip : Wp (iZip r env st) Qi' ↔ Wp (r env st) (kZip Qi') := by
  rw [ev_izip, wp_bind]
  refine Iff.of_eq (congrArg _ (funext fun p => ?_))
  obtain ⟨l, s⟩ := p
  match l with
  | [] => simp [kZip]
  | [x] => simp [kZip]
  | [x, y] => simp only [wp_bind, wp_map, kZip]
  | x :: y :: z :: w => simp [kZip]
@[simp] theorem k_zip : kZip Qi' ([x, y], st) ↔ Wp (walkD st x) fun w => Wp (walkD st y) fun u => Qi' ((zipD w.1 u.1, andS w.2 u.2), st) := Iff.rfl
@[simp ↓] theorem w_izipS : Wp (iZipS r env st) Qi' ↔ Wp (r env st) (kZipS Qi') := by
  rw [ev_izipS, wp_bind]
  refine Iff.of_eq (congrArg _ (funext fun p => ?_))
  obtain ⟨l, s⟩ := p
  match l with
  | [] => simp [kZipS]
  | [x] => simp [kZipS]
  | [x, y] => simp only [wp_bind, wp_guard, wp_some, kZipS]
  | x :: y :: z :: w => simp [kZipS]
@[simp] theorem k_zipS : kZipS Qi' ([x, y], st) ↔ Wp (walkD st x) fun w => Wp (walkD st y) fun u => w.1.length = u.1.length ∧ Qi' ((zipD w.1 u.1, andS w.2 u.2), st) := Iff.rfl
@[simp ↓] theorem w_comp (te : Den) (vs : List Nat) : Wp (dComp di g t te vs env st) Q ↔ Wp (di env st) (kComp g t te (wipeE env vs) Q) := by
  rw [ev_comp]; simp only [wp_bind, wp_guard, wp_some]; rfl
@[simp] theorem k_comp (te : Den) : kComp g t te envW Q ((ds, ck), st) ↔ Wp (compL ck g t te envW ds st) (kLst Q) := Iff.rfl
@[simp ↓] theorem w_compR (te : Den) (vs : List Nat) : Wp (dCompR di g t te vs env st) Q ↔ Wp (di env st) (kCompR g t te (wipeE env vs) Q) := by
  rw [ev_compR]; simp only [wp_bind, wp_guard, wp_some]; rfl
@[simp] theorem k_compR (te : Den) : kCompR g t te envW Q ((ds, ck), st) ↔ Wp (compL ck g t te envW ds st) (kLstR Q) := Iff.rfl
@[simp ↓] theorem w_tyes : Wp (tYesD env st) Qb' ↔ Qb' (true, st) := by rw [ev_tyes, wp_some]
@[simp ↓] theorem w_dict0 : Wp (dDict0 env st) Q ↔ Q (.dic false [] [], st) := by rw [ev_dict0, wp_some]
@[simp ↓] theorem w_dict0R (k : Bool) : Wp (dDict0R k env st) Q ↔ Q (.ref st.length, st ++ [.dic k [] []]) := by rw [ev_dict0R, wp_some]
@[simp ↓] theorem w_sortSet : Wp (dSortSet a env st) Q ↔ Wp (a env st) (kSortSet Q) := by
  rw [ev_sortSet]; simp only [wp_bind, wp_guard, wp_some]; rfl
@[simp] theorem k_sortSet : kSortSet Q (x, st) ↔ Wp (fSetK st x) fun ks => sortOk (ks.map keyD) = true ∧ Q (.lst ((ks.map keyD).mergeSort dle), st) := Iff.rfl
@[simp ↓] theorem w_lenSet : Wp (dLenSet a env st) Q ↔ Wp (a env st) (kLenSet Q) := by
  rw [ev_lenSet]; simp only [wp_bind, wp_map]; rfl
@[simp] theorem k_lenSet : kLenSet Q (x, st) ↔ Wp (fSetK st x) fun ks => Q (.int ks.length, st) := Iff.rfl
@[simp ↓] theorem w_lr1 (lf : List D → Store → D × Store) : Wp (dLR1 lf a env st) Q ↔ Wp (a env st) (kLR1 lf Q) := by
  rw [ev_lr1, wp_bind]
  refine Iff.of_eq (congrArg _ (funext fun p => ?_))
  obtain ⟨d, s⟩ := p
  cases d with
  | int n => simp only [wp_guard, wp_some, kLR1]
  | _ => simp [kLR1]
@[simp] theorem k_lr1 (lf : List D → Store → D × Store) (i : Int) : kLR1 lf Q (.int i, st) ↔ rgOk 0 i = true ∧ Q (lf (rgD 0 i) st) := Iff.rfl
@[simp ↓] theorem w_body (m n : Nat) : Wp (bodyD m n s1 ds st) Q ↔ ds.length = m ∧ Wp (s1 (ds.map some ++ List.replicate n none) st) (kOut Q) := by
  rw [ev_body, wp_guard, wp_bind]; rfl
@[simp] theorem k_outN : kOut Q (.next, env, st) ↔ Q (.non, st) := by
  show Wp (outD _) Q ↔ _
  rw [ev_outN, wp_some]
@[simp] theorem k_outR : kOut Q (.ret x, env, st) ↔ Q (x, st) := by
  show Wp (outD _) Q ↔ _
  rw [ev_outR, wp_some]
theorem w_fnil (h : D → DL.Env → Store → Option (Fl × DL.Env × Store)) : Wp (forL ck h [] env st) Qs' ↔ ck st = true ∧ Qs' (.next, env, st) := by
  rw [fo_nil, wp_guard, wp_some]
theorem w_fcons (h : D → DL.Env → Store → Option (Fl × DL.Env × Store)) : Wp (forL ck h (x :: ds) env st) Qs' ↔ ck st = true ∧ Wp (h x env st) (kLoop ck h ds Qs') := by
  rw [fo_cons, wp_guard, wp_bind]
  refine and_congr Iff.rfl (Iff.of_eq (congrArg _ (funext fun p => ?_)))
  obtain ⟨fl, e, s⟩ := p
  cases fl <;> simp [kLoop]
@[simp] theorem k_loopN (h : D → DL.Env → Store → Option (Fl × DL.Env × Store)) : kLoop ck h ds Qs' (.next, env, st) ↔ Wp (forL ck h ds env st) Qs' := Iff.rfl
@[simp] theorem k_loopC (h : D → DL.Env → Store → Option (Fl × DL.Env × Store)) : kLoop ck h ds Qs' (.cont, env, st) ↔ Wp (forL ck h ds env st) Qs' := Iff.rfl
@[simp] theorem k_loopB (h : D → DL.Env → Store → Option (Fl × DL.Env × Store)) : kLoop ck h ds Qs' (.brk, env, st) ↔ Qs' (.next, env, st) := Iff.rfl
@[simp] theorem k_loopR (h : D → DL.Env → Store → Option (Fl × DL.Env × Store)) : kLoop ck h ds Qs' (.ret x, env, st) ↔ Qs' (.ret x, env, st) := Iff.rfl
theorem w_while : Wp (whileL t s1 (n + 1) env st) Qs' ↔ Wp (t env st) (kWh t s1 n env Qs') := by
  rw [whileL, wp_bind]
  refine Iff.of_eq (congrArg _ (funext fun p => ?_))
  unfold kWh
  rw [ite_wp, wp_bind, wp_some]
  congr 1
  refine congrArg _ (funext fun q => ?_)
  obtain ⟨fl, e, s⟩ := q
  cases fl <;> simp [kWh2]
@[simp] theorem k_wht : kWh t s1 n env Qs' (true, st) ↔ Wp (s1 env st) (kWh2 t s1 n Qs') := Iff.of_eq (if_pos rfl)
@[simp] theorem k_whf : kWh t s1 n env Qs' (false, st) ↔ Qs' (.next, env, st) := Iff.of_eq (if_neg Bool.false_ne_true)
@[simp] theorem k_whd [Decidable p] : kWh t s1 n env Qs' (decide p, st) ↔ (p → Wp (s1 env st) (kWh2 t s1 n Qs')) ∧ (¬ p → Qs' (.next, env, st)) := by
  by_cases h : p <;> simp [h]
@[simp] theorem k_wh2 : kWh2 t s1 n Qs' (.next, env, st) ↔ Wp (whileL t s1 n env st) Qs' := Iff.rfl
theorem w_cnil (te : Den) : Wp (compL ck g t te envW [] st) Qa' ↔ ck st = true ∧ Qa' ([], st) := by
  rw [compL, wp_guard, wp_some]
theorem w_ccons (te : Den) : Wp (compL ck g t te envW (x :: ds) st) Qa' ↔ ck st = true ∧ Wp (g x envW st) (kCm0 ck g t te envW ds Qa') := by
  rw [compL, wp_guard, wp_bind]
  refine and_congr Iff.rfl (Iff.of_eq (congrArg _ (funext fun p => ?_)))
  unfold kCm0
  rw [wp_bind]
  refine congrArg _ (funext fun q => ?_)
  unfold kCm1
  rw [ite_wp, wp_bind]
  congr 1
  refine congrArg _ (funext fun y => ?_)
  unfold kCm2
  rw [wp_map]
  rfl
@[simp] theorem k_cm0 (te : Den) : kCm0 ck g t te envW ds Qa' (env, st) ↔ Wp (t env st) (kCm1 ck g t te envW ds env Qa') := Iff.rfl
@[simp] theorem k_cm1t (te : Den) : kCm1 ck g t te envW ds env Qa' (true, st) ↔ Wp (te env st) (kCm2 ck g t te envW ds Qa') := Iff.of_eq (if_pos rfl)
@[simp] theorem k_cm1f (te : Den) : kCm1 ck g t te envW ds env Qa' (false, st) ↔ Wp (compL ck g t te envW ds st) Qa' := Iff.of_eq (if_neg Bool.false_ne_true)
@[simp] theorem k_cm1d [Decidable p] (te : Den) : kCm1 ck g t te envW ds env Qa' (decide p, st) ↔ (p → Wp (te env st) (kCm2 ck g t te envW ds Qa')) ∧ (¬ p → Wp (compL ck g t te envW ds st) Qa') := by
  by_cases h : p <;> simp [h]
@[simp] theorem k_cm2 (te : Den) : kCm2 ck g t te envW ds Qa' (x, st) ↔ Wp (compL ck g t te envW ds st) (kCm3 ck g t te envW ds x Qa') := Iff.rfl
@[simp] theorem k_cm3 (te : Den) : kCm3 ck g t te envW ds x Qa' (xs, st) ↔ Qa' (x :: xs, st) := Iff.rfl
end
end DL
namespace DL
@[simp] theorem ref_comm (n : Nat) : D.ref (2 + n) = D.ref (n + 2) := by rw [Nat.add_comm]
theorem wp_set {β : Type} {o o' : Option β} {Q : β → Prop} (h : o = o') (k : Wp o' Q) : Wp o Q := by rw [h]; exact k
end DL
set_option Elab.async false
set_option linter.all false
set_option maxRecDepth 100000
set_option maxHeartbeats 4000000
/-! PL3: order, sorted lists, sets of keys. -/
namespace DL
open PySem PyProof.Rows
theorem dlt_irrefl (a : D) : dlt a a = false := lex_irrefl (O := itemOrd) _
theorem dle_toks {a b : D} (h1 : dle a b = true) (h2 : dle b a = true) : PySem.W.keyToks (toPy a) = PySem.W.keyToks (toPy b) := by
  unfold dle dlt PySem.W.dataLt at *
  exact lex_total (O := itemOrd) _ _ (by simpa using h2) (by simpa using h1)
theorem sorted_dle (ds : List D) : (ds.mergeSort dle).Pairwise fun a b => dle a b = true :=
  List.pairwise_mergeSort (fun a b c => dle_trans a b c) (fun a b => dle_total a b) ds
/-- two sorted lists of the same are alike -/
theorem sorted_uniq : ∀ {xs ys : List D}, xs.Pairwise (fun a b => dle a b = true) → ys.Pairwise (fun a b => dle a b = true) → (∀ a ∈ xs, ∀ b ∈ xs, dle a b = true → dle b a = true → a = b) → xs.Perm ys → xs = ys
  | [], ys, _, _, _, p => by simpa using p.length_eq.symm
  | x :: xs, [], _, _, _, p => by simpa using p.length_eq
  | x :: xs, y :: ys, h1, h2, ha, p => by
    obtain ⟨a1, a2⟩ := List.pairwise_cons.mp h1
    obtain ⟨b1, b2⟩ := List.pairwise_cons.mp h2
    have hy : y ∈ x :: xs := p.mem_iff.mpr List.mem_cons_self
    have hx : x ∈ y :: ys := p.mem_iff.mp List.mem_cons_self
    have exy : x = y := by
      rcases List.mem_cons.mp hy with e | hy'
      · exact e.symm
      · rcases List.mem_cons.mp hx with e | hx'
        · exact e
        · exact ha x List.mem_cons_self y hy (a1 y hy') (b1 x hx')
    subst exy
    rw [sorted_uniq a2 b2 (fun a h b h' => ha a (List.mem_cons_of_mem _ h) b (List.mem_cons_of_mem _ h')) (List.perm_cons x |>.mp p)]
theorem dlt_int (a b : Int) : dlt (.int a) (.int b) = decide (a < b) := by
  show lexLt itemOrd [.inl a] [.inl b] = _
  rw [lex_cons]
  show (decide (a < b) || (!decide (b < a) && lexLt itemOrd [] [])) = _
  rw [lex_irrefl]
  simp
theorem dle_int (a b : Int) : dle (.int a) (.int b) = decide (a ≤ b) := by
  unfold dle
  rw [dlt_int]
  by_cases h : a ≤ b
  · simp [h]
  · simp [h]; omega
theorem mergeSort_ints (ns : List Int) : (ns.map D.int).mergeSort dle = (ns.mergeSort fun a b => decide (a ≤ b)).map D.int :=
  (List.map_mergeSort (f := D.int) (r := fun a b : Int => decide (a ≤ b)) (s := dle) (fun a _ b _ => (dle_int a b).symm)).symm
theorem alike_ints (a b : Int) : PySem.W.alike (toPy (.int a)) (toPy (.int b)) = true := rfl
theorem pls_ints : ∀ ns : List Int, pls (ns.map .int) = true
  | [] => rfl
  | n :: ns => by rw [List.map_cons, pls, pls_ints ns]; rfl
theorem deps_ints : ∀ ns : List Int, deps (ns.map .int) = 0
  | [] => rfl
  | n :: ns => by rw [List.map_cons, deps, deps_ints ns]; rfl
theorem sortOk_ints {ns : List Int} (h : ns.length ≤ 16777216) : sortOk (ns.map .int) = true := by
  unfold sortOk
  rw [pls_ints, deps_ints, List.length_map, decide_eq_true h]
  simp [List.all_map, noTup, Function.comp_def, alike_ints, toPy, PySem.W.alike]
theorem sorted_ints {st : Store} {ns : List Int} (h : ns.length ≤ 16777216) : fSortedA st (.lst (ns.map .int)) = some (.lst ((ns.mergeSort fun a b => decide (a ≤ b)).map .int)) := by
  show fSorted st (.lst (ns.map .int)) = _
  unfold fSorted
  rw [it_lst]
  show (if sortOk (ns.map .int) = true then some (D.lst ((ns.map D.int).mergeSort dle)) else none) = _
  rw [if_pos (sortOk_ints h), mergeSort_ints]
theorem sortedI (ns : List Int) : (ns.mergeSort fun a b => decide (a ≤ b)).Pairwise (· ≤ ·) := by
  have := List.pairwise_mergeSort (le := fun a b : Int => decide (a ≤ b)) (fun a b c h1 h2 => by simp at *; omega) (fun a b => by simp; omega) ns
  exact this.imp fun h => of_decide_eq_true h
/-! ### sets of keys -/
theorem nd_of {α β : Type} {f : α → β} {l : List α} (h : (l.map f).Nodup) : l.Nodup := (List.pairwise_map.mp h).imp fun h e => h (congrArg f e)
theorem nd_map {α β : Type} {f : α → β} (inj : ∀ a b, f a = f b → a = b) {l : List α} (h : l.Nodup) : (l.map f).Nodup := List.pairwise_map.mpr (h.imp fun h e => h (inj _ _ e))
theorem rev_ind {α : Type} {P : List α → Prop} (h0 : P []) (h1 : ∀ l a, P l → P (l ++ [a])) : ∀ l, P l := fun l => by
  rw [← List.reverse_reverse l]
  induction l.reverse with
  | nil => exact h0
  | cons a l ih => rw [List.reverse_cons]; exact h1 _ _ ih
theorem dedK_mem (ks : List L2.Key) : ∀ k, k ∈ dedK ks ↔ k ∈ ks := by
  refine rev_ind (P := fun ks => ∀ k, k ∈ dedK ks ↔ k ∈ ks) (fun k => Iff.rfl) (fun ks a ih => ?_) ks
  · intro k
    rw [dedK_step]
    split
    · rename_i h
      have := any_mem.mp h
      rw [ih, List.mem_append, List.mem_singleton]
      exact ⟨.inl, fun h => h.elim id fun e => by rw [e]; exact (ih a).mp this⟩
    · rw [List.mem_cons, ih, List.mem_append, List.mem_singleton]
      exact ⟨fun h => h.elim .inr .inl, fun h => h.elim .inr .inl⟩
theorem dedK_nodup (ks : List L2.Key) : (dedK ks).Nodup := by
  refine rev_ind (P := fun ks => (dedK ks).Nodup) .nil (fun ks a ih => ?_) ks
  · rw [dedK_step]
    split
    · exact ih
    · rename_i h
      exact List.nodup_cons.mpr ⟨fun z => h (any_mem.mpr z), ih⟩
theorem dedK_len (ks : List L2.Key) : (dedK ks).length ≤ ks.length := by
  refine rev_ind (P := fun ks => (dedK ks).length ≤ ks.length) (Nat.le_refl _) (fun ks a ih => ?_) ks
  · rw [dedK_step, List.length_append, List.length_singleton]
    split
    · omega
    · rw [List.length_cons]; omega
/-- a sign as a text -/
def sg (c : Nat) : D := .str [c]
theorem sg_inj {a b : Nat} (h : sg a = sg b) : a = b := by
  unfold sg at h
  injection h with h
  simpa using h
theorem keysD_sg : ∀ cs : List Nat, keysD (cs.map sg) = some (cs.map fun c => (.inr (strOf [c]) : L2.Key))
  | [] => rfl
  | c :: cs => by rw [List.map_cons, keysD, keysD_sg cs]; rfl
theorem pls_sg : ∀ cs : List Nat, pls (cs.map sg) = true
  | [] => rfl
  | n :: ns => by rw [List.map_cons, pls, pls_sg ns]; rfl
theorem deps_sg : ∀ cs : List Nat, deps (cs.map sg) = 0
  | [] => rfl
  | n :: ns => by rw [List.map_cons, deps, deps_sg ns]; rfl
theorem sortOk_sg {cs : List Nat} (h : cs.length ≤ 16777216) : sortOk (cs.map sg) = true := by
  unfold sortOk
  rw [pls_sg, deps_sg, List.length_map, decide_eq_true h]
  simp [List.all_map, noTup, Function.comp_def, toPy, PySem.W.alike, sg]
theorem dle_sg {a b : Nat} (h1 : dle (sg a) (sg b) = true) (h2 : dle (sg b) (sg a) = true) : a = b := by
  have h : ([Sum.inr (strOf [a]).cps.toList] : List (Int ⊕ List Nat)) = [Sum.inr (strOf [b]).cps.toList] := dle_toks h1 h2
  simp [cps_strOf] at h
  exact h
/-- sorted(set(..)) of signs -/
theorem sgs_all {P : Nat → Prop} : ∀ {ys : List D}, (∀ y ∈ ys, ∃ c, P c ∧ y = sg c) → ∃ cs : List Nat, ys = cs.map sg ∧ ∀ c ∈ cs, P c
  | [], _ => ⟨[], rfl, by simp⟩
  | y :: ys, h => by
    obtain ⟨c, hc, rfl⟩ := h y List.mem_cons_self
    obtain ⟨cs, rfl, k⟩ := sgs_all (ys := ys) fun y hy => h y (List.mem_cons_of_mem _ hy)
    exact ⟨c :: cs, rfl, fun x hx => by
      rcases List.mem_cons.mp hx with rfl | hx
      · exact hc
      · exact k x hx⟩
/-- the sorted list of the signs in cs -/
def SSet (cs ds : List Nat) : Prop := ds.Nodup ∧ (∀ c, c ∈ ds ↔ c ∈ cs) ∧ ds.length ≤ cs.length ∧ (ds.map sg).Pairwise fun a b => dle a b = true
theorem SSet.uniq {cs ds es : List Nat} (h1 : SSet cs ds) (h2 : SSet cs es) : ds = es := by
  have hp : ds.Perm es := (List.perm_ext_iff_of_nodup h1.1 h2.1).mpr fun a => (h1.2.1 a).trans (h2.2.1 a).symm
  have := sorted_uniq h1.2.2.2 h2.2.2.2 (fun a ha b hb l1 l2 => by
    obtain ⟨x, _, rfl⟩ := List.mem_map.mp ha
    obtain ⟨y, _, rfl⟩ := List.mem_map.mp hb
    rw [dle_sg l1 l2]) (hp.map sg)
  exact List.map_inj_right (fun a b h => sg_inj h) |>.mp this
theorem set_sg {st : Store} {x : D} {cs : List Nat} {Q : D × Store → Prop} (hx : itemsOf st x = some (cs.map sg)) (h : cs.length ≤ 4000) (k : ∀ ds : List Nat, SSet cs ds → Q (.lst (ds.map sg), st)) : Wp (fSetK st x) fun ks => sortOk (ks.map keyD) = true ∧ Q (.lst ((ks.map keyD).mergeSort dle), st) := by
  unfold fSetK
  rw [hx]
  show Wp ((keysD (cs.map sg)).bind fun ks => if ks.length + 1 < 4096 then some (dedK ks) else none) _
  rw [keysD_sg]
  show Wp (if (cs.map fun c => (.inr (strOf [c]) : L2.Key)).length + 1 < 4096 then some (dedK (cs.map fun c => (.inr (strOf [c]) : L2.Key))) else none) _
  rw [wp_guard, wp_some, List.length_map]
  refine ⟨by omega, ?_⟩
  have hm := dedK_mem (cs.map fun c => (.inr (strOf [c]) : L2.Key))
  have hn := dedK_nodup (cs.map fun c => (.inr (strOf [c]) : L2.Key))
  have hl := dedK_len (cs.map fun c => (.inr (strOf [c]) : L2.Key))
  rw [List.length_map] at hl
  generalize dedK (cs.map fun c => (.inr (strOf [c]) : L2.Key)) = ks at hm hn hl
  obtain ⟨es, rfl⟩ : ∃ es : List Nat, ks = es.map fun c => (.inr (strOf [c]) : L2.Key) := by
    have : ∀ ks : List L2.Key, (∀ k ∈ ks, ∃ c : Nat, k = .inr (strOf [c])) → ∃ es : List Nat, ks = es.map fun c => (.inr (strOf [c]) : L2.Key) := by
      intro ks
      induction ks with
      | nil => intro _; exact ⟨[], rfl⟩
      | cons k ks ih =>
        intro h
        obtain ⟨c, rfl⟩ := h k List.mem_cons_self
        obtain ⟨es, rfl⟩ := ih fun k hk => h k (List.mem_cons_of_mem _ hk)
        exact ⟨c :: es, rfl⟩
    exact this ks fun k hk => by
      obtain ⟨c, _, e⟩ := List.mem_map.mp ((hm k).mp hk)
      exact ⟨c, e.symm⟩
  have inj : ∀ a b : Nat, (Sum.inr (strOf [a]) : L2.Key) = .inr (strOf [b]) → a = b := fun a b h => by
    have := strOf_inj (Sum.inr.inj h)
    simpa using this
  have hes : (es.map fun c => (.inr (strOf [c]) : L2.Key)).map keyD = es.map sg := by
    rw [List.map_map]
    exact List.map_congr_left fun c _ => by
      show D.str (strOf [c]).cps.toList = _
      rw [cps_strOf]; rfl
  rw [hes]
  rw [List.length_map] at hl
  refine ⟨sortOk_sg (by omega), ?_⟩
  obtain ⟨ds, hds, _⟩ := sgs_all (P := fun _ => True) (ys := (es.map sg).mergeSort dle) fun y hy => by
    obtain ⟨c, _, e⟩ := List.mem_map.mp (List.mem_mergeSort.mp hy)
    exact ⟨c, trivial, e.symm⟩
  have hp : (ds.map sg).Perm (es.map sg) := by rw [← hds]; exact List.mergeSort_perm _ _
  have hp2 : ds.Perm es := by
    have mm : ∀ c, c ∈ ds ↔ c ∈ es := fun c => by
      have := hp.mem_iff (a := sg c)
      rw [List.mem_map, List.mem_map] at this
      constructor
      · intro h
        obtain ⟨z, hz, e⟩ := this.mp ⟨c, h, rfl⟩
        rw [← sg_inj e]; exact hz
      · intro h
        obtain ⟨z, hz, e⟩ := this.mpr ⟨c, h, rfl⟩
        rw [← sg_inj e]; exact hz
    have n1 : es.Nodup := nd_of hn
    have n2 : (ds.map sg).Nodup := hp.nodup_iff.mpr (nd_map (fun a b h => sg_inj h) n1)
    exact (List.perm_ext_iff_of_nodup (nd_of n2) n1).mpr mm
  rw [hds]
  refine k ds ⟨hp2.nodup_iff.mpr (nd_of hn), fun c => ?_, by rw [hp2.length_eq]; exact hl, by rw [← hds]; exact sorted_dle _⟩
  rw [hp2.mem_iff]
  have := hm (.inr (strOf [c]))
  rw [List.mem_map, List.mem_map] at this
  constructor
  · intro h
    obtain ⟨z, hz, e⟩ := this.mp ⟨c, h, rfl⟩
    rw [← inj _ _ e]; exact hz
  · intro h
    obtain ⟨z, hz, e⟩ := this.mpr ⟨c, h, rfl⟩
    rw [← inj _ _ e]; exact hz
end DL
set_option Elab.async false
set_option linter.all false
set_option maxRecDepth 100000
set_option maxHeartbeats 4000000
/-! PL4: dicts whose keys stand for a set; counting. -/
namespace DL
open PySem
/-- keys that tuples of data make -/
structure KeyEnc {α : Type} (enc : α → D) : Prop where
  key : ∀ a, ∃ k, nkey (enc a) = some k
  inj : ∀ a b, nkey (enc a) = nkey (enc b) → a = b
  sh : ∀ a, shK (enc a) = true
  tup : ∀ a, isTupD (enc a) = true
section
variable {α : Type} [DecidableEq α]
def addL (L : List α) (a : α) : List α := if a ∈ L then L else L ++ [a]
theorem mem_addL {L : List α} {a b : α} : b ∈ addL L a ↔ b ∈ L ∨ b = a := by
  unfold addL
  split
  · rename_i h
    exact ⟨.inl, fun h2 => h2.elim id fun e => by rw [e]; exact h⟩
  · rw [List.mem_append, List.mem_singleton]
theorem nodup_addL {L : List α} {a : α} (h : L.Nodup) : (addL L a).Nodup := by
  unfold addL
  split
  · exact h
  · rename_i hn
    exact List.nodup_append.mpr ⟨h, by simp, fun x hx y hy e => by
      rw [List.mem_singleton] at hy
      rw [e, hy] at hx
      exact hn hx⟩
def addAll (L : List α) (as : List α) : List α := as.foldl addL L
theorem mem_addAll : ∀ {as : List α} {L : List α} {b : α}, b ∈ addAll L as ↔ b ∈ L ∨ b ∈ as
  | [], L, b => by simp [addAll]
  | a :: as, L, b => by
    have := mem_addAll (as := as) (L := addL L a) (b := b)
    unfold addAll at *
    rw [List.foldl_cons, this, mem_addL, List.mem_cons, or_assoc]
theorem nodup_addAll : ∀ {as : List α} {L : List α}, L.Nodup → (addAll L as).Nodup
  | [], L, h => h
  | a :: as, L, h => by
    unfold addAll
    rw [List.foldl_cons]
    exact nodup_addAll (as := as) (nodup_addL h)
/-- the dict whose keys are L -/
def setO (enc : α → D) (L : List α) : SObj := .dic true (L.map enc) (L.map fun _ => .bl true)
theorem set_dict {enc : α → D} (K : KeyEnc enc) {st : Store} {n : Nat} {L : List α} {a : α} (h : st[n]? = some (setO enc L)) (hl : L.length < 16777216) : setD st (.ref n) (enc a) (.bl true) = some (st.set n (setO enc (addL L a))) := by
  obtain ⟨k, hk⟩ := K.key a
  rw [setD_ref, h]
  have hp : putD true (L.map enc) (L.map fun _ => .bl true) (enc a) (.bl true) = some ((addL L a).map enc, (addL L a).map fun _ => .bl true) := by
    unfold putD
    simp only [hk]
    have hsh := K.sh a
    unfold shK at hsh
    rw [hk] at hsh
    have h1 : (roomK (L.map enc) && shallow k && isTupD (enc a) && (L.map enc).all shK) = true := by
      have h2 : roomK (L.map enc) = true := by unfold roomK; rw [List.length_map]; exact decide_eq_true hl
      have h3 : (L.map enc).all shK = true := List.all_eq_true.mpr fun d hd => by
        obtain ⟨b, _, rfl⟩ := List.mem_map.mp hd
        exact K.sh b
      rw [h2, h3, K.tup a]
      simpa using hsh
    rw [h1]
    show some (putG nkey (L.map enc) (L.map fun _ => .bl true) (enc a) (.bl true)) = _
    unfold putG
    have ha : ((L.map enc).any fun k => decide (nkey k = nkey (enc a))) = decide (a ∈ L) := by
      rw [Bool.eq_iff_iff, List.any_eq_true, decide_eq_true_eq]
      constructor
      · rintro ⟨d, hd, e⟩
        obtain ⟨b, hb, rfl⟩ := List.mem_map.mp hd
        have := K.inj b a (of_decide_eq_true e)
        rwa [this] at hb
      · intro hm
        exact ⟨enc a, List.mem_map.mpr ⟨a, hm, rfl⟩, decide_eq_true rfl⟩
    rw [ha]
    unfold addL
    by_cases hm : a ∈ L
    · simp only [hm, decide_true, if_true]
      congr 2
      clear ha h1 h hl hm
      induction L with
      | nil => rfl
      | cons b L ih =>
        simp only [List.map_cons, List.zipWith_cons_cons, ite_self, ih]
    · simp only [hm, decide_false, Bool.false_eq_true, if_false, List.map_append, List.map_cons, List.map_nil]
  show Option.map _ (putD true (L.map enc) (L.map fun _ => .bl true) (enc a) (.bl true)) = _
  rw [hp]
  rfl
theorem dicOf_set {enc : α → D} {st : Store} {n : Nat} {L : List α} (h : st[n]? = some (setO enc L)) : dicOf st (.ref n) = some (true, L.map enc, L.map fun _ => .bl true) := by
  show (match st[n]? with
    | some (SObj.dic t ks vs) => some (t, ks, vs)
    | _ => none) = _
  rw [h]
  rfl
theorem list_set {enc : α → D} {st : Store} {n : Nat} {L : List α} (h : st[n]? = some (setO enc L)) : fListA st (.ref n) = some (.lst (L.map enc)) := by
  unfold fListA allOf
  rw [dicOf_set h]
  rfl
theorem sorted_set {enc : α → D} {st : Store} {n : Nat} {L : List α} (h : st[n]? = some (setO enc L)) (ho : sortOk (L.map enc) = true) : fSortedA st (.ref n) = some (.lst ((L.map enc).mergeSort dle)) := by
  unfold fSortedA
  rw [dicOf_set h]
  show (if sortOk (L.map enc) = true then _ else _) = _
  rw [if_pos ho]
theorem sort_map {β : Type} {enc : β → D} (L : List β) : ∃ M : List β, (L.map enc).mergeSort dle = M.map enc ∧ M.Perm L := by
  refine ⟨L.mergeSort fun a b => dle (enc a) (enc b), ?_, List.mergeSort_perm _ _⟩
  exact (List.map_mergeSort (f := enc) (r := fun a b => dle (enc a) (enc b)) (s := dle) (fun a _ b _ => rfl)).symm
end
theorem nodup_le {α : Type} [DecidableEq α] : ∀ {xs ys : List α}, xs.Nodup → (∀ x ∈ xs, x ∈ ys) → xs.length ≤ ys.length
  | [], ys, _, _ => by simp
  | x :: xs, ys, h, k => by
    obtain ⟨h1, h2⟩ := List.nodup_cons.mp h
    have hx := k x List.mem_cons_self
    have ih := nodup_le (ys := ys.erase x) h2 fun z hz => (List.mem_erase_of_ne fun e => h1 (by rw [← e]; exact hz)).mpr (k z (List.mem_cons_of_mem _ hz))
    rw [List.length_erase_of_mem hx] at ih
    have : 0 < ys.length := List.length_pos_of_mem hx
    rw [List.length_cons]; omega
end DL
set_option Elab.async false
set_option linter.all false
set_option maxRecDepth 100000
set_option maxHeartbeats 4000000
/-! PL5: values that repr shows. -/
namespace DL
open PySem
mutual
/-- no object of the store, ints up to m, short texts; the one dict is the empty one -/
def vl (m : Nat) : D → Bool
  | .non => true
  | .bl _ => true
  | .int i => decide (i.natAbs ≤ m)
  | .str x => decide (x.length ≤ 1000) && x.all fun c => decide (c < 1000)
  | .tup ds => vls m ds
  | .lst ds => vls m ds
  | .dic _ ks vs => ks.isEmpty && vs.isEmpty
  | .ref _ => false
  | .scr _ => false
def vls (m : Nat) : List D → Bool
  | [] => true
  | d :: ds => vl m d && vls m ds
end
mutual
/-- how much of it there is -/
def wt : D → Nat
  | .str x => 10 * x.length + 2
  | .tup ds => wts ds + 3
  | .lst ds => wts ds + 3
  | _ => 30
def wts : List D → Nat
  | [] => 0
  | d :: ds => wt d + 2 + wts ds
end
abbrev M20 : Nat := 100000000000000000000
theorem int_shown {i : Int} (h : i.natAbs ≤ M20) : (PyData.shown (.int i)).length ≤ 30 ∧ PyData.showable (.int i) = true := by
  have h1 : i.natAbs < 10 ^ 21 := Nat.lt_of_le_of_lt h (by decide)
  have h2 := int_text_length_le10 (k := 21) (by decide) h1
  refine ⟨?_, ?_⟩
  · show (Str.ofString (toString i)).length ≤ 30
    rw [ofString_length]; omega
  · show decide (i.natAbs.log2 < 1920) = true
    refine decide_eq_true ?_
    by_cases h0 : i.natAbs = 0
    · rw [h0]; decide
    · exact (Nat.log2_lt h0).mpr (Nat.lt_of_lt_of_le h1 (Nat.le_trans (show 10 ^ 21 ≤ 2 ^ 100 by decide) (Nat.pow_le_pow_right (by decide) (by decide))))
theorem join_le (ts : List Str) : (Str.join ", " ts).length ≤ piled ts := by
  by_cases h : ts = []
  · subst h; decide
  · have := join_length_add ts h; omega
theorem tupleText_le (ts : List Str) : (tupleText ts).length ≤ piled ts + 3 := by
  unfold tupleText
  rw [strLen_append, strLen_append]
  have h1 := join_le ts
  have e1 : ((("(" : String) : Str)).length = 1 := rfl
  have e3 : (((if ts.length == 1 then ",)" else ")" : String) : Str)).length ≤ 2 := by split <;> decide
  rw [e1]; omega
theorem textFrom_le : ∀ (ts : List Str) (k : Nat) (acc : Str), (textFrom k acc ts).length ≤ acc.length + piled ts
  | [], k, acc => by show acc.length ≤ _; omega
  | t :: ts, k, acc => by
    have := textFrom_le ts (k + 1) (acc ++ (if k > 0 then ", " else "" : String) ++ t)
    rw [strLen_append, strLen_append] at this
    have e : (((if k > 0 then ", " else "" : String) : Str)).length ≤ 2 := by split <;> decide
    rw [piled_cons]
    show (textFrom (k + 1) (acc ++ (if k > 0 then ", " else "" : String) ++ t) ts).length ≤ _
    omega
theorem listText_le (ts : List Str) : (listText ts).length ≤ piled ts + 3 := by
  unfold listText
  rw [strLen_append]
  have h1 := textFrom_le ts 0 "["
  have e1 : ((("[" : String) : Str)).length = 1 := rfl
  have e2 : ((("]" : String) : Str)).length = 1 := rfl
  rw [e1] at h1; rw [e2]; omega
mutual
theorem shown_le {m : Nat} (hm : m ≤ M20) : ∀ {d : D}, vl m d = true → plR d = true ∧ PyData.showable (toPR d) = true ∧ (PyData.shown (toPR d)).length ≤ wt d ∧ (toPR d).depth ≤ dep d + 1
  | .non, _ => ⟨rfl, rfl, by decide, Nat.zero_le _⟩
  | .bl b, _ => ⟨rfl, rfl, by cases b <;> decide, Nat.zero_le _⟩
  | .int i, h => by
    have := int_shown (i := i) (Nat.le_trans (of_decide_eq_true h) hm)
    exact ⟨rfl, this.2, this.1, Nat.zero_le _⟩
  | .str x, h => by
    simp only [vl, Bool.and_eq_true, decide_eq_true_eq] at h
    refine ⟨rfl, rfl, ?_, Nat.zero_le _⟩
    show (reprText (strOf x)).length ≤ 10 * x.length + 2
    have := StrLaws.reprText_len (strOf x) fun c hc => by
      rw [cps_strOf] at hc
      have := of_decide_eq_true (List.all_eq_true.mp h.2 c hc)
      have e : (16 : Nat) ^ 8 = 4294967296 := by decide
      omega
    rwa [strOf_len] at this
  | .tup ds, h => by
    obtain ⟨h1, h2, h3, h4⟩ := showns_le hm (ds := ds) h
    refine ⟨h1, h2, Nat.le_trans (tupleText_le _) (Nat.add_le_add_right h3 3), ?_⟩
    show PyData.depthAll (toPRs ds) + 1 ≤ deps ds + 1 + 1
    omega
  | .lst ds, h => by
    obtain ⟨h1, h2, h3, h4⟩ := showns_le hm (ds := ds) h
    refine ⟨h1, h2, Nat.le_trans (listText_le _) (Nat.add_le_add_right h3 3), ?_⟩
    show PyData.depthAll (toPRs ds) + 1 ≤ deps ds + 1 + 1
    omega
  | .dic t ks vs, h => by
    simp only [vl, Bool.and_eq_true, List.isEmpty_iff] at h
    obtain ⟨rfl, rfl⟩ := h
    refine ⟨rfl, rfl, ?_, ?_⟩
    · show (dictText []).length ≤ 30
      decide
    · show PyData.depthKv [] + 1 ≤ _
      simp [PyData.depthKv]
  | .ref _, h => by cases h
  | .scr _, h => by cases h
theorem showns_le {m : Nat} (hm : m ≤ M20) : ∀ {ds : List D}, vls m ds = true → plRs ds = true ∧ PyData.showableAll (toPRs ds) = true ∧ piled (PyData.shownAll (toPRs ds)) ≤ wts ds ∧ PyData.depthAll (toPRs ds) ≤ deps ds + 1
  | [], _ => ⟨rfl, rfl, Nat.zero_le _, Nat.zero_le _⟩
  | d :: ds, h => by
    simp only [vls, Bool.and_eq_true] at h
    obtain ⟨a1, a2, a3, a4⟩ := shown_le hm h.1
    obtain ⟨b1, b2, b3, b4⟩ := showns_le hm h.2
    refine ⟨?_, ?_, ?_, ?_⟩
    · rw [plRs, a1, b1]; rfl
    · show (PyData.showable (toPR d) && PyData.showableAll (toPRs ds)) = true
      rw [a2, b2]; rfl
    · show piled (PyData.shown (toPR d) :: PyData.shownAll (toPRs ds)) ≤ _
      rw [piled_cons, wts]; omega
    · show max (toPR d).depth (PyData.depthAll (toPRs ds)) ≤ max (dep d) (deps ds) + 1
      omega
end
theorem reprOk_vl {m : Nat} {d : D} (hm : m ≤ M20) (h : vl m d = true) (hd : dep d ≤ 40) (hw : wt d ≤ 16777216) : reprOk d = true := by
  obtain ⟨h1, h2, h3, h4⟩ := shown_le hm h
  unfold reprOk shownD
  rw [h1, h2, decide_eq_true (show (toPR d).depth ≤ 60 by omega), decide_eq_true (Nat.le_trans h3 hw)]
  rfl
theorem repr_ev {m : Nat} {st : Store} {d : D} (hm : m ≤ M20) (h : vl m d = true) (hd : dep d ≤ 40) (hw : wt d ≤ 16777216) : ∃ x : List Nat, fRepr st d = some (.str x) := by
  unfold fRepr
  rw [if_pos (reprOk_vl hm h hd hw)]
  exact ⟨_, rfl⟩
section
variable {m : Nat}
theorem vls_iff : ∀ {ds : List D}, vls m ds = true ↔ ∀ d ∈ ds, vl m d = true
  | [] => by simp [vls]
  | d :: ds => by
    simp only [vls, Bool.and_eq_true, vls_iff (ds := ds), List.mem_cons]
    exact ⟨fun h x hx => hx.elim (fun e => by rw [e]; exact h.1) (h.2 x), fun h => ⟨h d (.inl rfl), fun x hx => h x (.inr hx)⟩⟩
mutual
theorem vl_mono {m n : Nat} (h : m ≤ n) : ∀ {d : D}, vl m d = true → vl n d = true
  | .non, _ => rfl
  | .bl b, _ => rfl
  | .int i, q => by
    have := of_decide_eq_true q
    exact decide_eq_true (Nat.le_trans this h)
  | .str x, q => q
  | .tup ds, q => vls_mono h (ds := ds) q
  | .lst ds, q => vls_mono h (ds := ds) q
  | .dic t ks vs, q => q
  | .ref _, q => by cases q
  | .scr _, q => by cases q
theorem vls_mono {m n : Nat} (h : m ≤ n) : ∀ {ds : List D}, vls m ds = true → vls n ds = true
  | [], _ => rfl
  | d :: ds, q => by
    simp only [vls, Bool.and_eq_true] at *
    exact ⟨vl_mono h q.1, vls_mono h q.2⟩
end
@[simp] theorem wts_append : ∀ xs ys : List D, wts (xs ++ ys) = wts xs + wts ys
  | [], ys => by simp [wts]
  | x :: xs, ys => by
    rw [List.cons_append, wts, wts, wts_append xs ys]; omega
theorem wts_take_drop (xs : List D) (k : Nat) : wts (xs.take k) + wts (xs.drop k) = wts xs := by
  rw [← wts_append, List.take_append_drop]
theorem wts_reverse : ∀ xs : List D, wts xs.reverse = wts xs
  | [] => rfl
  | x :: xs => by
    rw [List.reverse_cons, wts_append, wts_reverse xs]
    simp [wts]; omega
theorem wts_mem : ∀ {xs : List D} {x : D}, x ∈ xs → wt x + 2 ≤ wts xs
  | y :: ys, x, h => by
    rw [wts]
    rcases List.mem_cons.mp h with rfl | h
    · omega
    · have := wts_mem h; omega
mutual
theorem vl_bel {n : Nat} : ∀ {d : D}, vl m d = true → bel n d = true
  | .non, _ => rfl
  | .bl b, _ => rfl
  | .int i, q => rfl
  | .str x, q => rfl
  | .tup ds, q => vls_bel (ds := ds) q
  | .lst ds, q => vls_bel (ds := ds) q
  | .dic t ks vs, q => by
    simp only [vl, Bool.and_eq_true, List.isEmpty_iff] at q
    obtain ⟨rfl, rfl⟩ := q
    rfl
  | .ref _, q => by cases q
  | .scr _, q => by cases q
theorem vls_bel {n : Nat} : ∀ {ds : List D}, vls m ds = true → bels n ds = true
  | [], _ => rfl
  | d :: ds, q => by
    simp only [vls, Bool.and_eq_true] at q
    rw [bels, vl_bel q.1, vls_bel q.2]; rfl
end
end
end DL
set_option Elab.async false
set_option linter.all false
set_option maxRecDepth 100000
set_option maxHeartbeats 4000000
namespace K82
open PySem PySem.Spec PyProof.Rows L2 DL
def top (i : Nat) : Stmt := PySem.Challenge.pw_reelsplice_k82_watches_and_reaches.main.body.getD i (.Pass ⟨0, 0, 0, 0⟩)
structure All (K : PySem.W.Frag) (mg : Str → Option Value) : Prop where
  d_u_law_open : DefAt K mg "_law_open" (top 30) ["script"]
  d_u_law_spread : DefAt K mg "_law_spread" (top 31) ["cell", "at"]
  d_u_law_take : DefAt K mg "_law_take" (top 32) ["pen", "amount"]
  d_u_law_one_of : DefAt K mg "_law_one_of" (top 34) ["pen", "some"]
  d_u_law_wide_stock : DefAt K mg "_law_wide_stock" (top 57) ["pen"]
  d_u_law_first : DefAt K mg "_law_first" (top 41) ["stock"]
  d_u_law_left : DefAt K mg "_law_left" (top 39) ["reel", "run"]
  d_u_law_run_on : DefAt K mg "_law_run_on" (top 40) ["reel", "run", "place"]
  d_u_law_rows_of : DefAt K mg "_law_rows_of" (top 47) ["stock", "cut"]
  d_u_law_letters : DefAt K mg "_law_letters" (top 38) []
  d_u_law_draw_stock : DefAt K mg "_law_draw_stock" (top 48) ["pen", "most"]
  d_u_law_draw_cut : DefAt K mg "_law_draw_cut" (top 49) ["pen", "stock"]
  d_u_law_draw_watch : DefAt K mg "_law_draw_watch" (top 50) ["pen", "most"]
  d_u_law_draw_frame : DefAt K mg "_law_draw_frame" (top 51) ["pen", "sign"]
  d_u_law_draw_head : DefAt K mg "_law_draw_head" (top 52) ["pen", "stock", "cut"]
  d_u_law_same : DefAt K mg "_law_same" (top 33) ["found", "due"]
  d_still_to_come : DefAt K mg "still_to_come" (top 25) ["reel", "run"]
  d_reach : DefAt K mg "reach" (top 26) ["stock", "row"]
  d_u_law_totals : DefAt K mg "_law_totals" (top 43) ["reel", "run"]
  d_u_law_reach : DefAt K mg "_law_reach" (top 44) ["stock", "row"]
  d_u_law_odd : DefAt K mg "_law_odd" (top 36) ["pen"]
  d_u_law_bent : DefAt K mg "_law_bent" (top 37) ["pen", "value"]
  d_u_law_edges : DefAt K mg "_law_edges" (top 55) []
  d_u_law_near : DefAt K mg "_law_near" (top 56) ["pen", "watch"]
  d_first_row_of : DefAt K mg "first_row_of" (top 19) ["case"]
  d_kept_after : DefAt K mg "kept_after" (top 18) ["case", "k", "kept", "reel"]
  d_last_frame : DefAt K mg "last_frame" (top 16) ["saying"]
  d_holds : DefAt K mg "holds" (top 17) ["saying", "reel", "kept"]
  d_fits : DefAt K mg "fits" (top 10) ["sign", "frame"]
  d_left_out : DefAt K mg "left_out" (top 13) ["reel", "run"]
  d_run_after : DefAt K mg "run_after" (top 14) ["reel", "run", "place"]
  d_steps_from : DefAt K mg "steps_from" (top 20) ["case", "k", "row"]
  d_layers : DefAt K mg "layers" (top 21) ["case"]
  d_case_of : DefAt K mg "case_of" (top 27) ["watch", "head"]
  d_lengths : DefAt K mg "lengths" (top 28) ["watch", "head"]
  d_u_law_lengths : DefAt K mg "_law_lengths" (top 46) ["watch", "rows"]
  d_is_integer : DefAt K mg "is_integer" (top 6) ["value", "low", "high"]
  d_are_letters : DefAt K mg "are_letters" (top 7) ["value"]
  d_is_reel : DefAt K mg "is_reel" (top 8) ["value"]
  d_is_stock : DefAt K mg "is_stock" (top 9) ["value"]
  d_is_watch : DefAt K mg "is_watch" (top 24) ["value"]
  d_u_law_between : DefAt K mg "_law_between" (top 35) ["value", "low", "high"]
  d_u_law_is_reel : DefAt K mg "_law_is_reel" (top 53) ["value"]
  d_u_law_is_watch : DefAt K mg "_law_is_watch" (top 54) ["value"]
  d_u_law_steps : DefAt K mg "_law_steps" (top 42) ["stock", "frame", "row"]
  d_u_law_layers : DefAt K mg "_law_layers" (top 45) ["stock", "head"]
  d_law : DefAt K mg "law" (top 58) ["script"]
  n_all : mg "all" = none
  n_bool : mg "bool" = none
  n_enumerate : mg "enumerate" = none
  n_int : mg "int" = none
  n_isinstance : mg "isinstance" = none
  n_len : mg "len" = none
  n_list : mg "list" = none
  n_max : mg "max" = none
  n_min : mg "min" = none
  n_range : mg "range" = none
  n_repr : mg "repr" = none
  n_set : mg "set" = none
  n_sorted : mg "sorted" = none
  n_str : mg "str" = none
  n_sum : mg "sum" = none
  n_tuple : mg "tuple" = none
  n_zip : mg "zip" = none
  EMPTY_RUN : ∀ (P : Program) (w : World), GC P w K mg "EMPTY_RUN" (D.tup [(D.int 0), (D.int (-1)), (D.int 0)])
  LETTERS : ∀ (P : Program) (w : World), GC P w K mg "LETTERS" (D.str [97, 98, 99, 100, 101, 102, 103, 104, 105, 106, 107, 108, 109, 110, 111, 112, 113, 114, 115, 116, 117, 118, 119, 120, 121, 122])
  MOST_FRAMES : ∀ (P : Program) (w : World), GC P w K mg "MOST_FRAMES" (D.int 16)
  MOST_PRODUCT : ∀ (P : Program) (w : World), GC P w K mg "MOST_PRODUCT" (D.int 600)
  MOST_REELS : ∀ (P : Program) (w : World), GC P w K mg "MOST_REELS" (D.int 4)
  MOST_SIGNS : ∀ (P : Program) (w : World), GC P w K mg "MOST_SIGNS" (D.int 10)
  MOST_WATCHED : ∀ (P : Program) (w : World), GC P w K mg "MOST_WATCHED" (D.int 100)
noncomputable section
variable {P : Program} {w : World} {K : PySem.W.Frag} {mg : Str → Option Value} {base : Heap}
abbrev s_u_law_open : Stmt := top 30
def N_u_law_open : List Str := ["script", "cells", "k", "cell"]
theorem sc_u_law_open : FnScope N_u_law_open ["script"] (defScope s_u_law_open) := ⟨rfl, rfl, rfl, by decide +kernel, rfl, by decide +kernel, by decide +kernel⟩
def b_u_law_open : DenS := (sSeq (sSet 1 (dCall (fListAR) (aCons (dSl (dVar 0) pNone (pSome (dC (D.int 12)))) aNil)))
  (sSeq (sFor (iEnum (aCons (dSl (dVar 0) (pSome (dC (D.int 12))) (pSome (dC (D.int 63)))) aNil)) (gUn 2 (gsCons (gN 2) (gsCons (gN 3) gsNil))) (sAsg (dOp2 fAdd (dOp2 fIx (dVar 1) (dOp2 fMod (dCall (pure1 fInt) (aCons (dVar 2) aNil)) (dC (D.int 12)))) (dVar 3)) (gSub (dVar 1) (dOp2 fMod (dCall (pure1 fInt) (aCons (dVar 2) aNil)) (dC (D.int 12))))))
  (sRet (dLstR (aCons (dVar 1) (aCons (dC (D.int 0)) (aCons (dC (D.int 0)) aNil)))))))
def den_u_law_open : FD := bodyD 1 3 b_u_law_open
theorem ok_u_law_open (c : All K mg) : OkF P w K mg base "_law_open" ["script"] 1 den_u_law_open := (okf c.d_u_law_open sc_u_law_open fun cdv A outer s H E f hr => by
  have hu := hu_of hr
  have nd : N_u_law_open.Nodup := sc_u_law_open.nd
  unfold b_u_law_open
  exact (dss_cons (ds_set (i := 1) (de_callT (c_listAR rfl) c.n_list (da_cons (de_slice (de_var 0) dp_none (dp_some (de_int))) da_nil)) rfl (by first | exact Or.inl rfl | exact Or.inr rfl) nd)
  (dss_cons (ds_for (vs := [2, 3]) (di_enum c.n_enumerate (da_cons (de_slice (de_var 0) (dp_some (de_int)) (dp_some (de_int))) da_nil)) (dg_tup (dgs_cons (dg_name (i := 2) rfl (by first | exact Or.inl rfl | exact Or.inr rfl)) (dgs_cons (dg_name (i := 3) rfl (by first | exact Or.inl rfl | exact Or.inr rfl)) dgs_nil))) (dss_one (ds_asg (vs := []) (de_op o_add (de_ix (de_var 1) (de_op o_mod (de_callT c_int c.n_int (da_cons (de_var 2) da_nil)) (de_int))) (de_var 3)) (dg_sub hu (de_var 1) (de_op o_mod (de_callT c_int c.n_int (da_cons (de_var 2) da_nil)) (de_int))))))
  (dss_one (ds_ret (de_lstR (da_cons (de_var 1) (da_cons (de_int) (da_cons (de_int) da_nil)))))))))
abbrev s_u_law_spread : Stmt := top 31
def N_u_law_spread : List Str := ["cell", "at", "primes", "u", "v", "w"]
theorem sc_u_law_spread : FnScope N_u_law_spread ["cell", "at"] (defScope s_u_law_spread) := ⟨rfl, rfl, rfl, by decide +kernel, rfl, by decide +kernel, by decide +kernel⟩
def b_u_law_spread : DenS := (sSeq (sIf (asB (dOp2 fGe (dVar 0) (dOp2 fPow (dC (D.int 10)) (dC (D.int 18))))) (sRet (dVar 0)) sNext)
  (sSeq (sSet 2 (dLst (aCons (dC (D.int 2147483629)) (aCons (dC (D.int 2147483587)) (aCons (dC (D.int 2147483579)) (aCons (dC (D.int 2147483563)) (aCons (dC (D.int 2147483549)) (aCons (dC (D.int 2147483543)) (aCons (dC (D.int 2147483497)) (aCons (dC (D.int 2147483489)) aNil))))))))))
  (sSeq (sSet 2 (dOp2 fAdd (dVar 2) (dLst (aCons (dC (D.int 2147483477)) (aCons (dC (D.int 2147483423)) (aCons (dC (D.int 2147483399)) (aCons (dC (D.int 2147483353)) (aCons (dC (D.int 2147483323)) aNil))))))))
  (sSeq (sSet 3 (dOp2 fAdd (dOp2 fAdd (dOp2 fMul (dOp2 fMod (dCall (pure1 fInt) (aCons (dVar 0) aNil)) (dC (D.int 1000000007))) (dOp2 fAdd (dOp2 fMul (dC (D.int 2)) (dVar 1)) (dC (D.int 69069)))) (dOp2 fMul (dVar 1) (dC (D.int 40503)))) (dC (D.int 977))))
  (sSeq (sSet 3 (dOp2 fMod (dCall (pure1 fInt) (aCons (dOp2 fPow (dVar 3) (dC (D.int 3))) aNil)) (dOp2 fIx (dVar 2) (dOp2 fMod (dCall (pure1 fInt) (aCons (dVar 1) aNil)) (dC (D.int 13))))))
  (sSeq (sSet 4 (dOp2 fMod (dCall (pure1 fInt) (aCons (dOp2 fPow (dOp2 fAdd (dOp2 fAdd (dOp2 fMul (dVar 3) (dOp2 fAdd (dVar 1) (dC (D.int 3)))) (dOp2 fMod (dCall (pure1 fInt) (aCons (dVar 0) aNil)) (dC (D.int 65537)))) (dC (D.int 5))) (dC (D.int 5))) aNil)) (dOp2 fIx (dVar 2) (dOp2 fMod (dCall (pure1 fInt) (aCons (dOp2 fAdd (dVar 1) (dC (D.int 5))) aNil)) (dC (D.int 13))))))
  (sSeq (sSet 5 (dOp2 fMod (dCall (pure1 fInt) (aCons (dOp2 fPow (dOp2 fAdd (dOp2 fAdd (dVar 4) (dOp2 fMod (dCall (pure1 fInt) (aCons (dVar 3) aNil)) (dC (D.int 1009)))) (dVar 1)) (dC (D.int 3))) aNil)) (dOp2 fIx (dVar 2) (dOp2 fMod (dCall (pure1 fInt) (aCons (dOp2 fAdd (dVar 1) (dC (D.int 7))) aNil)) (dC (D.int 13))))))
  (sRet (dOp2 fAdd (dOp2 fMul (dOp2 fAdd (dOp2 fMul (dVar 3) (dC (D.int 2147483647))) (dVar 4)) (dC (D.int 2147483647))) (dVar 5))))))))))
def den_u_law_spread : FD := frzD (bodyD 2 4 b_u_law_spread)
theorem ok_u_law_spread (c : All K mg) : OkF P w K mg base "_law_spread" ["cell", "at"] 1 den_u_law_spread := (okf c.d_u_law_spread sc_u_law_spread fun cdv A outer s H E f hr => by
  have hu := hu_of hr
  have nd : N_u_law_spread.Nodup := sc_u_law_spread.nd
  unfold b_u_law_spread
  exact (dss_cons (ds_if (dt_cmp o_ge (de_var 0) (de_op o_pow (de_int) (de_int))) (dss_one (ds_ret (de_var 0))) dss_nil)
  (dss_cons (ds_set (i := 2) (de_lst (da_cons (de_int) (da_cons (de_int) (da_cons (de_int) (da_cons (de_int) (da_cons (de_int) (da_cons (de_int) (da_cons (de_int) (da_cons (de_int) da_nil))))))))) rfl (by first | exact Or.inl rfl | exact Or.inr rfl) nd)
  (dss_cons (ds_set (i := 2) (de_op o_add (de_var 2) (de_lst (da_cons (de_int) (da_cons (de_int) (da_cons (de_int) (da_cons (de_int) (da_cons (de_int) da_nil))))))) rfl (by first | exact Or.inl rfl | exact Or.inr rfl) nd)
  (dss_cons (ds_set (i := 3) (de_op o_add (de_op o_add (de_op o_mul (de_op o_mod (de_callT c_int c.n_int (da_cons (de_var 0) da_nil)) (de_int)) (de_op o_add (de_op o_mul (de_int) (de_var 1)) (de_int))) (de_op o_mul (de_var 1) (de_int))) (de_int)) rfl (by first | exact Or.inl rfl | exact Or.inr rfl) nd)
  (dss_cons (ds_set (i := 3) (de_op o_mod (de_callT c_int c.n_int (da_cons (de_op o_pow (de_var 3) (de_int)) da_nil)) (de_ix (de_var 2) (de_op o_mod (de_callT c_int c.n_int (da_cons (de_var 1) da_nil)) (de_int)))) rfl (by first | exact Or.inl rfl | exact Or.inr rfl) nd)
  (dss_cons (ds_set (i := 4) (de_op o_mod (de_callT c_int c.n_int (da_cons (de_op o_pow (de_op o_add (de_op o_add (de_op o_mul (de_var 3) (de_op o_add (de_var 1) (de_int))) (de_op o_mod (de_callT c_int c.n_int (da_cons (de_var 0) da_nil)) (de_int))) (de_int)) (de_int)) da_nil)) (de_ix (de_var 2) (de_op o_mod (de_callT c_int c.n_int (da_cons (de_op o_add (de_var 1) (de_int)) da_nil)) (de_int)))) rfl (by first | exact Or.inl rfl | exact Or.inr rfl) nd)
  (dss_cons (ds_set (i := 5) (de_op o_mod (de_callT c_int c.n_int (da_cons (de_op o_pow (de_op o_add (de_op o_add (de_var 4) (de_op o_mod (de_callT c_int c.n_int (da_cons (de_var 3) da_nil)) (de_int))) (de_var 1)) (de_int)) da_nil)) (de_ix (de_var 2) (de_op o_mod (de_callT c_int c.n_int (da_cons (de_op o_add (de_var 1) (de_int)) da_nil)) (de_int)))) rfl (by first | exact Or.inl rfl | exact Or.inr rfl) nd)
  (dss_one (ds_ret (de_op o_add (de_op o_mul (de_op o_add (de_op o_mul (de_var 3) (de_int)) (de_var 4)) (de_int)) (de_var 5)))))))))))).frz
abbrev s_u_law_take : Stmt := top 32
def N_u_law_take : List Str := ["pen", "amount", "at", "cell", "found"]
theorem sc_u_law_take : FnScope N_u_law_take ["pen", "amount"] (defScope s_u_law_take) := ⟨rfl, rfl, rfl, by decide +kernel, rfl, by decide +kernel, by decide +kernel⟩
def b_u_law_take : DenS := (sSeq (sIf (asB (dOp2 fLt (dOp2 fIx (dVar 0) (dC (D.int 2))) (dVar 1))) (sSeq (sSet 2 (dOp2 fIx (dVar 0) (dC (D.int 1))))
  (sSeq (sSet 3 (dC (D.int 0)))
  (sSeq (sIf (asB (dOp2 fLt (dVar 2) (dCall (pure1 fLen) (aCons (dOp2 fIx (dVar 0) (dC (D.int 0))) aNil)))) (sSet 3 (dOp2 fIx (dOp2 fIx (dVar 0) (dC (D.int 0))) (dVar 2))) (sIf (asB (dOp2 fGt (dCall (pure1 fLen) (aCons (dOp2 fIx (dVar 0) (dC (D.int 0))) aNil)) (dC (D.int 0)))) (sSet 3 (dOp2 fMod (dCall (pure1 fInt) (aCons (dOp2 fIx (dOp2 fIx (dVar 0) (dC (D.int 0))) (dOp2 fMod (dCall (pure1 fInt) (aCons (dOp2 fAdd (dOp2 fMul (dVar 2) (dC (D.int 5))) (dC (D.int 3))) aNil)) (dCall (pure1 fLen) (aCons (dOp2 fIx (dVar 0) (dC (D.int 0))) aNil)))) aNil)) (dOp2 fAdd (dOp2 fPow (dC (D.int 10)) (dC (D.int 17))) (dVar 2)))) sNext))
  (sSeq (sAsg (dOp2 fAdd (dVar 2) (dC (D.int 1))) (gSub (dVar 0) (dC (D.int 1))))
  (sAsg (dCallF den_u_law_spread (aCons (dVar 3) (aCons (dVar 2) aNil))) (gSub (dVar 0) (dC (D.int 2)))))))) sNext)
  (sSeq (sSet 4 (dOp2 fMod (dCall (pure1 fInt) (aCons (dOp2 fIx (dVar 0) (dC (D.int 2))) aNil)) (dVar 1)))
  (sSeq (sAsg (dOp2 fDiv (dOp2 fIx (dVar 0) (dC (D.int 2))) (dVar 1)) (gSub (dVar 0) (dC (D.int 2))))
  (sRet (dVar 4)))))
def den_u_law_take : FD := frzD (bodyD 2 3 b_u_law_take)
theorem ok_u_law_take (c : All K mg) : OkF P w K mg base "_law_take" ["pen", "amount"] 2 den_u_law_take := (okf c.d_u_law_take sc_u_law_take fun cdv A outer s H E f hr => by
  have hu := hu_of hr
  have nd : N_u_law_take.Nodup := sc_u_law_take.nd
  unfold b_u_law_take
  exact (dss_cons (ds_if (dt_cmp (o_lt hu) (de_ix (de_var 0) (de_int)) (de_var 1)) (dss_cons (ds_set (i := 2) (de_ix (de_var 0) (de_int)) rfl (by first | exact Or.inl rfl | exact Or.inr rfl) nd)
  (dss_cons (ds_set (i := 3) (de_int) rfl (by first | exact Or.inl rfl | exact Or.inr rfl) nd)
  (dss_cons (ds_if (dt_cmp (o_lt hu) (de_var 2) (de_callB c_len c.n_len (da_cons (de_ix (de_var 0) (de_int)) da_nil))) (dss_one (ds_set (i := 3) (de_ix (de_ix (de_var 0) (de_int)) (de_var 2)) rfl (by first | exact Or.inl rfl | exact Or.inr rfl) nd)) (dss_one (ds_if (dt_cmp o_gt (de_callB c_len c.n_len (da_cons (de_ix (de_var 0) (de_int)) da_nil)) (de_int)) (dss_one (ds_set (i := 3) (de_op o_mod (de_callT c_int c.n_int (da_cons (de_ix (de_ix (de_var 0) (de_int)) (de_op o_mod (de_callT c_int c.n_int (da_cons (de_op o_add (de_op o_mul (de_var 2) (de_int)) (de_int)) da_nil)) (de_callB c_len c.n_len (da_cons (de_ix (de_var 0) (de_int)) da_nil)))) da_nil)) (de_op o_add (de_op o_pow (de_int) (de_int)) (de_var 2))) rfl (by first | exact Or.inl rfl | exact Or.inr rfl) nd)) dss_nil)))
  (dss_cons (ds_asg (vs := []) (de_op o_add (de_var 2) (de_int)) (dg_sub hu (de_var 0) (de_int)))
  (dss_one (ds_asg (vs := []) (de_fun (ok_u_law_spread c) hr (da_cons (de_var 3) (da_cons (de_var 2) da_nil))) (dg_sub hu (de_var 0) (de_int)))))))) dss_nil)
  (dss_cons (ds_set (i := 4) (de_op o_mod (de_callT c_int c.n_int (da_cons (de_ix (de_var 0) (de_int)) da_nil)) (de_var 1)) rfl (by first | exact Or.inl rfl | exact Or.inr rfl) nd)
  (dss_cons (ds_asg (vs := []) (de_op o_div (de_ix (de_var 0) (de_int)) (de_var 1)) (dg_sub hu (de_var 0) (de_int)))
  (dss_one (ds_ret (de_var 4))))))).frz
abbrev s_u_law_one_of : Stmt := top 34
def N_u_law_one_of : List Str := ["pen", "some"]
theorem sc_u_law_one_of : FnScope N_u_law_one_of ["pen", "some"] (defScope s_u_law_one_of) := ⟨rfl, rfl, rfl, by decide +kernel, rfl, by decide +kernel, by decide +kernel⟩
def b_u_law_one_of : DenS := (sRet (dOp2 fIx (dVar 1) (dCallF den_u_law_take (aCons (dVar 0) (aCons (dCall (pure1 fLen) (aCons (dVar 1) aNil)) aNil)))))
def den_u_law_one_of : FD := frzD (bodyD 2 0 b_u_law_one_of)
theorem ok_u_law_one_of (c : All K mg) : OkF P w K mg base "_law_one_of" ["pen", "some"] 3 den_u_law_one_of := (okf c.d_u_law_one_of sc_u_law_one_of fun cdv A outer s H E f hr => by
  have hu := hu_of hr
  have nd : N_u_law_one_of.Nodup := sc_u_law_one_of.nd
  unfold b_u_law_one_of
  exact (dss_one (ds_ret (de_ix (de_var 1) (de_fun (ok_u_law_take c) hr (da_cons (de_var 0) (da_cons (de_callB c_len c.n_len (da_cons (de_var 1) da_nil)) da_nil))))))).frz
abbrev s_u_law_wide_stock : Stmt := top 57
def N_u_law_wide_stock : List Str := ["pen", "one", "other", "some", "turn", "again"]
theorem sc_u_law_wide_stock : FnScope N_u_law_wide_stock ["pen"] (defScope s_u_law_wide_stock) := ⟨rfl, rfl, rfl, by decide +kernel, rfl, by decide +kernel, by decide +kernel⟩
def b_u_law_wide_stock : DenS := (sSeq (sAsg (dComp (iRng rng1 (aCons (dC (D.int 2)) aNil)) (gN 4) tYesD (dMeth .str mJoin (dC (D.str [])) (aCons (dComp (iRng rng1 (aCons (dC (D.int 10)) aNil)) (gN 5) tYesD (dCallF den_u_law_one_of (aCons (dVar 0) (aCons (dC (D.str [97, 98, 99])) aNil))) [5]) aNil)) [4]) (gUn 2 (gsCons (gN 1) (gsCons (gN 2) gsNil))))
  (sSeq (sSet 3 (dLst (aCons (dTup (aCons (dTup (aCons (dVar 1) (aCons (dC (D.int 2)) (aCons (dC (D.bl false)) aNil)))) (aCons (dTup (aCons (dVar 2) (aCons (dC (D.int 1)) (aCons (dC (D.bl false)) aNil)))) aNil))) (aCons (dTup (aCons (dTup (aCons (dVar 1) (aCons (dC (D.int 0)) (aCons (dC (D.bl true)) aNil)))) (aCons (dTup (aCons (dVar 2) (aCons (dC (D.int 2)) (aCons (dC (D.bl false)) aNil)))) aNil))) aNil))))
  (sSeq (sSet 3 (dOp2 fAdd (dVar 3) (dLst (aCons (dTup (aCons (dTup (aCons (dVar 1) (aCons (dC (D.int 9)) (aCons (dC (D.bl false)) aNil)))) (aCons (dTup (aCons (dSl (dVar 2) pNone (pSome (dC (D.int 6)))) (aCons (dC (D.int 0)) (aCons (dC (D.bl false)) aNil)))) aNil))) (aCons (dTup (aCons (dTup (aCons (dVar 1) (aCons (dC (D.int 1)) (aCons (dC (D.bl true)) aNil)))) (aCons (dTup (aCons (dSl (dVar 2) pNone (pSome (dC (D.int 5)))) (aCons (dC (D.int 2)) (aCons (dC (D.bl false)) aNil)))) aNil))) aNil)))))
  (sRet (dCallF den_u_law_one_of (aCons (dVar 0) (aCons (dOp2 fAdd (dVar 3) (dLst (aCons (dTup (aCons (dTup (aCons (dSl (dVar 1) pNone (pSome (dC (D.int 4)))) (aCons (dC (D.int 4)) (aCons (dC (D.bl true)) aNil)))) (aCons (dTup (aCons (dSl (dVar 2) pNone (pSome (dC (D.int 3)))) (aCons (dC (D.int 0)) (aCons (dC (D.bl true)) aNil)))) (aCons (dTup (aCons (dSl (dVar 2) pNone (pSome (dC (D.int 2)))) (aCons (dC (D.int 0)) (aCons (dC (D.bl false)) aNil)))) aNil)))) aNil))) aNil)))))))
def den_u_law_wide_stock : FD := frzD (bodyD 1 5 b_u_law_wide_stock)
theorem ok_u_law_wide_stock (c : All K mg) : OkF P w K mg base "_law_wide_stock" ["pen"] 4 den_u_law_wide_stock := (okf c.d_u_law_wide_stock sc_u_law_wide_stock fun cdv A outer s H E f hr => by
  have hu := hu_of hr
  have nd : N_u_law_wide_stock.Nodup := sc_u_law_wide_stock.nd
  unfold b_u_law_wide_stock
  exact (dss_cons (ds_asg (vs := [1, 2]) (de_cm (di_range1 c.n_range (da_cons (de_int) da_nil)) (blkOk_by (own := [("turn", 4)]) (by rfl)) rfl nd (fun _ _ _ _ _ => (dg_name (i := 4) rfl (by first | exact Or.inl rfl | exact Or.inr rfl))) (fun _ _ _ _ _ => dts_nil) (fun _ _ _ _ _ => (de_meth (T := .str) PySem.F.plainAttrs_str PySem.F.slot_str_join PySem.F.type_str_join m_join (de_str []) (da_cons (de_cm (di_range1 c.n_range (da_cons (de_int) da_nil)) (blkOk_by (own := [("again", 5)]) (by rfl)) rfl nd (fun _ _ _ _ _ => (dg_name (i := 5) rfl (by first | exact Or.inl rfl | exact Or.inr rfl))) (fun _ _ _ _ _ => dts_nil) (fun _ _ _ _ _ => (de_fun (ok_u_law_one_of c) hr (da_cons (de_var 0) (da_cons (de_str [97, 98, 99]) da_nil))))) da_nil)))) (dg_tup (dgs_cons (dg_name (i := 1) rfl (by first | exact Or.inl rfl | exact Or.inr rfl)) (dgs_cons (dg_name (i := 2) rfl (by first | exact Or.inl rfl | exact Or.inr rfl)) dgs_nil))))
  (dss_cons (ds_set (i := 3) (de_lst (da_cons (de_tup (da_cons (de_tup (da_cons (de_var 1) (da_cons (de_int) (da_cons (de_bl) da_nil)))) (da_cons (de_tup (da_cons (de_var 2) (da_cons (de_int) (da_cons (de_bl) da_nil)))) da_nil))) (da_cons (de_tup (da_cons (de_tup (da_cons (de_var 1) (da_cons (de_int) (da_cons (de_bl) da_nil)))) (da_cons (de_tup (da_cons (de_var 2) (da_cons (de_int) (da_cons (de_bl) da_nil)))) da_nil))) da_nil))) rfl (by first | exact Or.inl rfl | exact Or.inr rfl) nd)
  (dss_cons (ds_set (i := 3) (de_op o_add (de_var 3) (de_lst (da_cons (de_tup (da_cons (de_tup (da_cons (de_var 1) (da_cons (de_int) (da_cons (de_bl) da_nil)))) (da_cons (de_tup (da_cons (de_slice (de_var 2) dp_none (dp_some (de_int))) (da_cons (de_int) (da_cons (de_bl) da_nil)))) da_nil))) (da_cons (de_tup (da_cons (de_tup (da_cons (de_var 1) (da_cons (de_int) (da_cons (de_bl) da_nil)))) (da_cons (de_tup (da_cons (de_slice (de_var 2) dp_none (dp_some (de_int))) (da_cons (de_int) (da_cons (de_bl) da_nil)))) da_nil))) da_nil)))) rfl (by first | exact Or.inl rfl | exact Or.inr rfl) nd)
  (dss_one (ds_ret (de_fun (ok_u_law_one_of c) hr (da_cons (de_var 0) (da_cons (de_op o_add (de_var 3) (de_lst (da_cons (de_tup (da_cons (de_tup (da_cons (de_slice (de_var 1) dp_none (dp_some (de_int))) (da_cons (de_int) (da_cons (de_bl) da_nil)))) (da_cons (de_tup (da_cons (de_slice (de_var 2) dp_none (dp_some (de_int))) (da_cons (de_int) (da_cons (de_bl) da_nil)))) (da_cons (de_tup (da_cons (de_slice (de_var 2) dp_none (dp_some (de_int))) (da_cons (de_int) (da_cons (de_bl) da_nil)))) da_nil)))) da_nil))) da_nil))))))))).frz
abbrev s_u_law_first : Stmt := top 41
def N_u_law_first : List Str := ["stock", "reel"]
theorem sc_u_law_first : FnScope N_u_law_first ["stock"] (defScope s_u_law_first) := ⟨rfl, rfl, rfl, by decide +kernel, rfl, by decide +kernel, by decide +kernel⟩
def b_u_law_first : DenS := (sRet (dTup (aCons (dCall (pure1 fTuple) (aCons (dComp (iOf (dVar 0)) (gN 1) tYesD (dTup (aCons (dC (D.int 0)) (aCons (dNeg (dC (D.int 1))) (aCons (dC (D.int 0)) aNil)))) [1]) aNil)) (aCons (dTup aNil) aNil))))
def den_u_law_first : FD := frzD (bodyD 1 1 b_u_law_first)
theorem ok_u_law_first (c : All K mg) : OkF P w K mg base "_law_first" ["stock"] 1 den_u_law_first := (okf c.d_u_law_first sc_u_law_first fun cdv A outer s H E f hr => by
  have hu := hu_of hr
  have nd : N_u_law_first.Nodup := sc_u_law_first.nd
  unfold b_u_law_first
  exact (dss_one (ds_ret (de_tup (da_cons (de_callT c_tuple c.n_tuple (da_cons (de_cm (di_of (de_var 0)) (blkOk_by (own := [("reel", 1)]) (by rfl)) rfl nd (fun _ _ _ _ _ => (dg_name (i := 1) rfl (by first | exact Or.inl rfl | exact Or.inr rfl))) (fun _ _ _ _ _ => dts_nil) (fun _ _ _ _ _ => (de_tup (da_cons (de_int) (da_cons (de_neg (de_int)) (da_cons (de_int) da_nil)))))) da_nil)) (da_cons (de_tup da_nil) da_nil)))))).frz
abbrev s_u_law_left : Stmt := top 39
def N_u_law_left : List Str := ["reel", "run", "signs", "loss", "turns", "used", "last", "way"]
theorem sc_u_law_left : FnScope N_u_law_left ["reel", "run"] (defScope s_u_law_left) := ⟨rfl, rfl, rfl, by decide +kernel, rfl, by decide +kernel, by decide +kernel⟩
def b_u_law_left : DenS := (sSeq (sAsg (dVar 0) (gUn 3 (gsCons (gN 2) (gsCons (gN 3) (gsCons (gN 4) gsNil)))))
  (sSeq (sAsg (dVar 1) (gUn 3 (gsCons (gN 5) (gsCons (gN 6) (gsCons (gN 7) gsNil)))))
  (sSeq (sIf (asB (dOp2 fEqR (dVar 5) (dC (D.int 0)))) (sRet (dC (D.int 0))) sNext)
  (sSeq (sIf (asB (dOp2 fEqR (dVar 5) (dC (D.int 1)))) (sRet (dIf (tTru (dVar 4)) (dCall (pure2 fMin2) (aCons (dVar 6) (aCons (dOp2 fSub (dOp2 fSub (dCall (pure1 fLen) (aCons (dVar 2) aNil)) (dC (D.int 1))) (dVar 6)) aNil))) (dVar 6))) sNext)
  (sRet (dIf (asB (dOp2 fEqR (dVar 7) (dC (D.int 1)))) (dOp2 fSub (dOp2 fAdd (dVar 6) (dC (D.int 1))) (dVar 5)) (dOp2 fSub (dOp2 fSub (dCall (pure1 fLen) (aCons (dVar 2) aNil)) (dVar 6)) (dVar 5))))))))
def den_u_law_left : FD := frzD (bodyD 2 6 b_u_law_left)
theorem ok_u_law_left (c : All K mg) : OkF P w K mg base "_law_left" ["reel", "run"] 1 den_u_law_left := (okf c.d_u_law_left sc_u_law_left fun cdv A outer s H E f hr => by
  have hu := hu_of hr
  have nd : N_u_law_left.Nodup := sc_u_law_left.nd
  unfold b_u_law_left
  exact (dss_cons (ds_asg (vs := [2, 3, 4]) (de_var 0) (dg_tup (dgs_cons (dg_name (i := 2) rfl (by first | exact Or.inl rfl | exact Or.inr rfl)) (dgs_cons (dg_name (i := 3) rfl (by first | exact Or.inl rfl | exact Or.inr rfl)) (dgs_cons (dg_name (i := 4) rfl (by first | exact Or.inl rfl | exact Or.inr rfl)) dgs_nil)))))
  (dss_cons (ds_asg (vs := [5, 6, 7]) (de_var 1) (dg_tup (dgs_cons (dg_name (i := 5) rfl (by first | exact Or.inl rfl | exact Or.inr rfl)) (dgs_cons (dg_name (i := 6) rfl (by first | exact Or.inl rfl | exact Or.inr rfl)) (dgs_cons (dg_name (i := 7) rfl (by first | exact Or.inl rfl | exact Or.inr rfl)) dgs_nil)))))
  (dss_cons (ds_if (dt_cmp (o_eqR hu) (de_var 5) (de_int)) (dss_one (ds_ret (de_int))) dss_nil)
  (dss_cons (ds_if (dt_cmp (o_eqR hu) (de_var 5) (de_int)) (dss_one (ds_ret (de_if (dt_tru (de_var 4)) (de_callB (c_min2 rfl) c.n_min (da_cons (de_var 6) (da_cons (de_op o_sub (de_op o_sub (de_callB c_len c.n_len (da_cons (de_var 2) da_nil)) (de_int)) (de_var 6)) da_nil))) (de_var 6)))) dss_nil)
  (dss_one (ds_ret (de_if (dt_cmp (o_eqR hu) (de_var 7) (de_int)) (de_op o_sub (de_op o_add (de_var 6) (de_int)) (de_var 5)) (de_op o_sub (de_op o_sub (de_callB c_len c.n_len (da_cons (de_var 2) da_nil)) (de_var 6)) (de_var 5)))))))))).frz
abbrev s_u_law_run_on : Stmt := top 40
def N_u_law_run_on : List Str := ["reel", "run", "place", "used", "last", "way", "found"]
theorem sc_u_law_run_on : FnScope N_u_law_run_on ["reel", "run", "place"] (defScope s_u_law_run_on) := ⟨rfl, rfl, rfl, by decide +kernel, rfl, by decide +kernel, by decide +kernel⟩
def b_u_law_run_on : DenS := (sSeq (sAsg (dVar 1) (gUn 3 (gsCons (gN 3) (gsCons (gN 4) (gsCons (gN 5) gsNil)))))
  (sSeq (sIf (asB (dOp2 fEqR (dVar 3) (dC (D.int 0)))) (sSet 6 (dTup (aCons (dC (D.int 1)) (aCons (dVar 2) (aCons (dC (D.int 0)) aNil))))) (sIf (asB (dOp2 fEqR (dVar 2) (dVar 4))) (sRet (dC D.non)) (sSeq (sSet 6 (dTup (aCons (dOp2 fAdd (dVar 3) (dC (D.int 1))) (aCons (dVar 2) (aCons (dIf (asB (dOp2 fGt (dVar 2) (dVar 4))) (dC (D.int 1)) (dNeg (dC (D.int 1)))) aNil)))))
  (sIf (tOrD (tAndD (asB (dOp2 fNeR (dVar 5) (dC (D.int 0)))) (asB (dOp2 fNeR (dOp2 fIx (dVar 6) (dC (D.int 2))) (dVar 5)))) (tAndD (asB (dOp2 fEqR (dOp2 fIx (dVar 6) (dC (D.int 2))) (dNeg (dC (D.int 1))))) (tNotD (tTru (dOp2 fIx (dVar 0) (dC (D.int 2))))))) (sRet (dC D.non)) sNext))))
  (sRet (dIf (asB (dOp2 fLe (dCallF den_u_law_left (aCons (dVar 0) (aCons (dVar 6) aNil))) (dOp2 fIx (dVar 0) (dC (D.int 1))))) (dVar 6) (dC D.non)))))
def den_u_law_run_on : FD := frzD (bodyD 3 4 b_u_law_run_on)
theorem ok_u_law_run_on (c : All K mg) : OkF P w K mg base "_law_run_on" ["reel", "run", "place"] 2 den_u_law_run_on := (okf c.d_u_law_run_on sc_u_law_run_on fun cdv A outer s H E f hr => by
  have hu := hu_of hr
  have nd : N_u_law_run_on.Nodup := sc_u_law_run_on.nd
  unfold b_u_law_run_on
  exact (dss_cons (ds_asg (vs := [3, 4, 5]) (de_var 1) (dg_tup (dgs_cons (dg_name (i := 3) rfl (by first | exact Or.inl rfl | exact Or.inr rfl)) (dgs_cons (dg_name (i := 4) rfl (by first | exact Or.inl rfl | exact Or.inr rfl)) (dgs_cons (dg_name (i := 5) rfl (by first | exact Or.inl rfl | exact Or.inr rfl)) dgs_nil)))))
  (dss_cons (ds_if (dt_cmp (o_eqR hu) (de_var 3) (de_int)) (dss_one (ds_set (i := 6) (de_tup (da_cons (de_int) (da_cons (de_var 2) (da_cons (de_int) da_nil)))) rfl (by first | exact Or.inl rfl | exact Or.inr rfl) nd)) (dss_one (ds_if (dt_cmp (o_eqR hu) (de_var 2) (de_var 4)) (dss_one (ds_ret (de_non))) (dss_cons (ds_set (i := 6) (de_tup (da_cons (de_op o_add (de_var 3) (de_int)) (da_cons (de_var 2) (da_cons (de_if (dt_cmp o_gt (de_var 2) (de_var 4)) (de_int) (de_neg (de_int))) da_nil)))) rfl (by first | exact Or.inl rfl | exact Or.inr rfl) nd)
  (dss_one (ds_if (dt_w (dw_or (dt_w (dw_and (dt_cmp (o_neR hu) (de_var 5) (de_int)) (dw_and1 (dt_cmp (o_neR hu) (de_ix (de_var 6) (de_int)) (de_var 5))))) (dw_or1 (dt_w (dw_and (dt_cmp (o_eqR hu) (de_ix (de_var 6) (de_int)) (de_neg (de_int))) (dw_and1 (dt_not (dt_tru (de_ix (de_var 0) (de_int)))))))))) (dss_one (ds_ret (de_non))) dss_nil))))))
  (dss_one (ds_ret (de_if (dt_cmp o_le (de_fun (ok_u_law_left c) hr (da_cons (de_var 0) (da_cons (de_var 6) da_nil))) (de_ix (de_var 0) (de_int))) (de_var 6) (de_non))))))).frz
abbrev s_u_law_rows_of : Stmt := top 47
def N_u_law_rows_of : List Str := ["stock", "cut", "rows", "r", "p", "row"]
theorem sc_u_law_rows_of : FnScope N_u_law_rows_of ["stock", "cut"] (defScope s_u_law_rows_of) := ⟨rfl, rfl, rfl, by decide +kernel, rfl, by decide +kernel, by decide +kernel⟩
def b_u_law_rows_of : DenS := (sSeq (sSet 2 (dLstR (aCons (dCallF den_u_law_first (aCons (dVar 0) aNil)) aNil)))
  (sSeq (sFor (iOf (dVar 1)) (gUn 2 (gsCons (gN 3) (gsCons (gN 4) gsNil))) (sSeq (sSet 5 (dOp2 fIx (dVar 2) (dNeg (dC (D.int 1)))))
  (sDrop (dMeth .list mAppend (dVar 2) (aCons (dTup (aCons (dOp2 fAdd (dOp2 fAdd (dSl (dOp2 fIx (dVar 5) (dC (D.int 0))) pNone (pSome (dVar 3))) (dTup (aCons (dCallF den_u_law_run_on (aCons (dOp2 fIx (dVar 0) (dVar 3)) (aCons (dOp2 fIx (dOp2 fIx (dVar 5) (dC (D.int 0))) (dVar 3)) (aCons (dVar 4) aNil)))) aNil))) (dSl (dOp2 fIx (dVar 5) (dC (D.int 0))) (pSome (dOp2 fAdd (dVar 3) (dC (D.int 1)))) pNone)) (aCons (dTup aNil) aNil))) aNil)))))
  (sRet (dVar 2))))
def den_u_law_rows_of : FD := frzD (bodyD 2 4 b_u_law_rows_of)
theorem ok_u_law_rows_of (c : All K mg) : OkF P w K mg base "_law_rows_of" ["stock", "cut"] 3 den_u_law_rows_of := (okf c.d_u_law_rows_of sc_u_law_rows_of fun cdv A outer s H E f hr => by
  have hu := hu_of hr
  have nd : N_u_law_rows_of.Nodup := sc_u_law_rows_of.nd
  unfold b_u_law_rows_of
  exact (dss_cons (ds_set (i := 2) (de_lstR (da_cons (de_fun (ok_u_law_first c) hr (da_cons (de_var 0) da_nil)) da_nil)) rfl (by first | exact Or.inl rfl | exact Or.inr rfl) nd)
  (dss_cons (ds_for (vs := [3, 4]) (di_of (de_var 1)) (dg_tup (dgs_cons (dg_name (i := 3) rfl (by first | exact Or.inl rfl | exact Or.inr rfl)) (dgs_cons (dg_name (i := 4) rfl (by first | exact Or.inl rfl | exact Or.inr rfl)) dgs_nil))) (dss_cons (ds_set (i := 5) (de_ix (de_var 2) (de_neg (de_int))) rfl (by first | exact Or.inl rfl | exact Or.inr rfl) nd)
  (dss_one (ds_expr (de_meth (T := .list) PySem.F.plainAttrs_list PySem.F.slot_list_append PySem.F.type_list_append m_append (de_var 2) (da_cons (de_tup (da_cons (de_op o_add (de_op o_add (de_slice (de_ix (de_var 5) (de_int)) dp_none (dp_some (de_var 3))) (de_tup (da_cons (de_fun (ok_u_law_run_on c) hr (da_cons (de_ix (de_var 0) (de_var 3)) (da_cons (de_ix (de_ix (de_var 5) (de_int)) (de_var 3)) (da_cons (de_var 4) da_nil)))) da_nil))) (de_slice (de_ix (de_var 5) (de_int)) (dp_some (de_op o_add (de_var 3) (de_int))) dp_none)) (da_cons (de_tup da_nil) da_nil))) da_nil))))))
  (dss_one (ds_ret (de_var 2)))))).frz
abbrev s_u_law_letters : Stmt := top 38
def N_u_law_letters : List Str := []
theorem sc_u_law_letters : FnScope N_u_law_letters [] (defScope s_u_law_letters) := ⟨rfl, rfl, rfl, by decide +kernel, rfl, by decide +kernel, by decide +kernel⟩
def b_u_law_letters : DenS := (sRet (dC (D.str [97, 98, 99, 100, 101, 102, 103, 104, 105, 106, 107, 108, 109, 110, 111, 112, 113, 114, 115, 116, 117, 118, 119, 120, 121, 122])))
def den_u_law_letters : FD := frzD (bodyD 0 0 b_u_law_letters)
theorem ok_u_law_letters (c : All K mg) : OkF P w K mg base "_law_letters" [] 1 den_u_law_letters := (okf c.d_u_law_letters sc_u_law_letters fun cdv A outer s H E f hr => by
  have hu := hu_of hr
  have nd : N_u_law_letters.Nodup := sc_u_law_letters.nd
  unfold b_u_law_letters
  exact (dss_one (ds_ret (de_str [97, 98, 99, 100, 101, 102, 103, 104, 105, 106, 107, 108, 109, 110, 111, 112, 113, 114, 115, 116, 117, 118, 119, 120, 121, 122])))).frz
abbrev s_u_law_draw_stock : Stmt := top 48
def N_u_law_draw_stock : List Str := ["pen", "most", "count", "product", "found", "is_plain", "r", "later", "room", "left", "some", "many", "loss", "worth", "ways", "turns", "own", "letters", "stock", "again"]
theorem sc_u_law_draw_stock : FnScope N_u_law_draw_stock ["pen", "most"] (defScope s_u_law_draw_stock) := ⟨rfl, rfl, rfl, by decide +kernel, rfl, by decide +kernel, by decide +kernel⟩
def b_u_law_draw_stock : DenS := (sSeq (sAsg (dTup (aCons (dCallF den_u_law_one_of (aCons (dVar 0) (aCons (dLst (aCons (dC (D.int 1)) (aCons (dC (D.int 2)) (aCons (dC (D.int 2)) (aCons (dC (D.int 2)) (aCons (dC (D.int 3)) (aCons (dC (D.int 3)) (aCons (dC (D.int 4)) aNil)))))))) aNil))) (aCons (dC (D.int 1)) (aCons (dLstR aNil) (aCons (dOp2 fEqR (dCallF den_u_law_take (aCons (dVar 0) (aCons (dC (D.int 2)) aNil))) (dC (D.int 0))) aNil))))) (gUn 4 (gsCons (gN 2) (gsCons (gN 3) (gsCons (gN 4) (gsCons (gN 5) gsNil))))))
  (sSeq (sFor (iRng rng1 (aCons (dVar 2) aNil)) (gN 6) (sSeq (sSet 7 (dOp2 fSub (dOp2 fSub (dVar 2) (dC (D.int 1))) (dVar 6)))
  (sSeq (sPar3 8 9 10 (aCons (dOp2 fDiv (dC (D.int 100)) (dOp2 fMul (dVar 3) (dOp2 fIx (dLst (aCons (dC (D.int 1)) (aCons (dC (D.int 2)) (aCons (dC (D.int 4)) (aCons (dC (D.int 8)) aNil))))) (dVar 7)))) (aCons (dOp2 fSub (dVar 1) (dVar 7)) (aCons (dLst aNil) aNil))))
  (sSeq (sFor (iRng rng2 (aCons (dC (D.int 1)) (aCons (dOp2 fAdd (dCall (pure2 fMin2) (aCons (dC (D.int 10)) (aCons (dVar 9) aNil))) (dC (D.int 1))) aNil))) (gN 11) (sFor (iRng rng1 (aCons (dIf (tTru (dVar 5)) (dC (D.int 1)) (dOp2 fAdd (dVar 11) (dC (D.int 1)))) aNil)) (gN 12) (sSeq (sSet 13 (dOp2 fMul (dVar 11) (dOp2 fAdd (dVar 12) (dC (D.int 1)))))
  (sSeq (sSet 14 (dOp2 fAdd (dOp2 fMul (dLst (aCons (dC (D.bl false)) aNil)) (dCall (pure1 fInt) (aCons (dOp2 fLt (dVar 13) (dVar 8)) aNil))) (dOp2 fMul (dLst (aCons (dC (D.bl true)) aNil)) (dCall (pure1 fInt) (aCons (dOp2 fLt (dOp2 fMul (dC (D.int 2)) (dVar 13)) (dVar 8)) aNil)))))
  (sSet 10 (dOp2 fAdd (dVar 10) (dComp (iOf (dVar 14)) (gN 15) tYesD (dTup (aCons (dVar 11) (aCons (dVar 12) (aCons (dVar 15) aNil)))) [15])))))))
  (sSeq (sAsg (dCallF den_u_law_one_of (aCons (dVar 0) (aCons (dVar 10) aNil))) (gUn 3 (gsCons (gN 11) (gsCons (gN 12) (gsCons (gN 15) gsNil)))))
  (sSeq (sSet 3 (dOp2 fMul (dVar 3) (dOp2 fAdd (dOp2 fMul (dOp2 fMul (dVar 11) (dOp2 fAdd (dVar 12) (dC (D.int 1)))) (dOp2 fAdd (dC (D.int 1)) (dCall (pure1 fInt) (aCons (dVar 15) aNil)))) (dC (D.int 1)))))
  (sSeq (sSet 1 (dOp2 fSub (dVar 1) (dVar 11)))
  (sSeq (sSet 16 (dSl (dCallF den_u_law_letters aNil) (pSome (dOp2 fAdd (dC (D.int 3)) (dOp2 fMul (dC (D.int 5)) (dVar 6)))) (pSome (dOp2 fAdd (dC (D.int 8)) (dOp2 fMul (dC (D.int 5)) (dVar 6))))))
  (sSeq (sSet 17 (dCallF den_u_law_one_of (aCons (dVar 0) (aCons (dLst (aCons (dC (D.str [97, 98])) (aCons (dC (D.str [97, 98, 99])) (aCons (dVar 16) (aCons (dVar 16) (aCons (dCallF den_u_law_letters aNil) aNil)))))) aNil))))
  (sDrop (dMeth .list mAppend (dVar 4) (aCons (dTup (aCons (dMeth .str mJoin (dC (D.str [])) (aCons (dComp (iRng rng1 (aCons (dVar 11) aNil)) (gN 19) tYesD (dCallF den_u_law_one_of (aCons (dVar 0) (aCons (dVar 17) aNil))) [19]) aNil)) (aCons (dVar 12) (aCons (dVar 15) aNil)))) aNil))))))))))))
  (sSeq (sSet 18 (dLstR aNil))
  (sSeq (whileL (asB (dOp2 fNeR (dVar 4) (dLst aNil))) (sDrop (dMeth .list mAppend (dVar 18) (aCons (dMeth .list mPopAt (dVar 4) (aCons (dCallF den_u_law_take (aCons (dVar 0) (aCons (dCall (pure1 fLen) (aCons (dVar 4) aNil)) aNil))) aNil)) aNil))) 8)
  (sRet (dCall (pure1 fTuple) (aCons (dVar 18) aNil)))))))
def den_u_law_draw_stock : FD := frzD (bodyD 2 18 b_u_law_draw_stock)
theorem ok_u_law_draw_stock (c : All K mg) : OkF P w K mg base "_law_draw_stock" ["pen", "most"] 4 den_u_law_draw_stock := (okf c.d_u_law_draw_stock sc_u_law_draw_stock fun cdv A outer s H E f hr => by
  have hu := hu_of hr
  have nd : N_u_law_draw_stock.Nodup := sc_u_law_draw_stock.nd
  unfold b_u_law_draw_stock
  exact (dss_cons (ds_asg (vs := [2, 3, 4, 5]) (de_tup (da_cons (de_fun (ok_u_law_one_of c) hr (da_cons (de_var 0) (da_cons (de_lst (da_cons (de_int) (da_cons (de_int) (da_cons (de_int) (da_cons (de_int) (da_cons (de_int) (da_cons (de_int) (da_cons (de_int) da_nil)))))))) da_nil))) (da_cons (de_int) (da_cons (de_lstR da_nil) (da_cons (de_cmp (o_eqR hu) (de_fun (ok_u_law_take c) hr (da_cons (de_var 0) (da_cons (de_int) da_nil))) (de_int)) da_nil))))) (dg_tup (dgs_cons (dg_name (i := 2) rfl (by first | exact Or.inl rfl | exact Or.inr rfl)) (dgs_cons (dg_name (i := 3) rfl (by first | exact Or.inl rfl | exact Or.inr rfl)) (dgs_cons (dg_name (i := 4) rfl (by first | exact Or.inl rfl | exact Or.inr rfl)) (dgs_cons (dg_name (i := 5) rfl (by first | exact Or.inl rfl | exact Or.inr rfl)) dgs_nil))))))
  (dss_cons (ds_for (vs := [6]) (di_range1 c.n_range (da_cons (de_var 2) da_nil)) (dg_name (i := 6) rfl (by first | exact Or.inl rfl | exact Or.inr rfl)) (dss_cons (ds_set (i := 7) (de_op o_sub (de_op o_sub (de_var 2) (de_int)) (de_var 6)) rfl (by first | exact Or.inl rfl | exact Or.inr rfl) nd)
  (dss_cons (ds_par3 (i := 8) (j := 9) (l := 10) (da_cons (de_op o_div (de_int) (de_op o_mul (de_var 3) (de_ix (de_lst (da_cons (de_int) (da_cons (de_int) (da_cons (de_int) (da_cons (de_int) da_nil))))) (de_var 7)))) (da_cons (de_op o_sub (de_var 1) (de_var 7)) (da_cons (de_lst da_nil) da_nil))) rfl rfl rfl (by decide) (by decide) (by decide) rfl rfl rfl rfl nd)
  (dss_cons (ds_for (vs := [11]) (di_range2 c.n_range (da_cons (de_int) (da_cons (de_op o_add (de_callB (c_min2 rfl) c.n_min (da_cons (de_int) (da_cons (de_var 9) da_nil))) (de_int)) da_nil))) (dg_name (i := 11) rfl (by first | exact Or.inl rfl | exact Or.inr rfl)) (dss_one (ds_for (vs := [12]) (di_range1 c.n_range (da_cons (de_if (dt_tru (de_var 5)) (de_int) (de_op o_add (de_var 11) (de_int))) da_nil)) (dg_name (i := 12) rfl (by first | exact Or.inl rfl | exact Or.inr rfl)) (dss_cons (ds_set (i := 13) (de_op o_mul (de_var 11) (de_op o_add (de_var 12) (de_int))) rfl (by first | exact Or.inl rfl | exact Or.inr rfl) nd)
  (dss_cons (ds_set (i := 14) (de_op o_add (de_op o_mul (de_lst (da_cons (de_bl) da_nil)) (de_callT c_int c.n_int (da_cons (de_cmp (o_lt hu) (de_var 13) (de_var 8)) da_nil))) (de_op o_mul (de_lst (da_cons (de_bl) da_nil)) (de_callT c_int c.n_int (da_cons (de_cmp (o_lt hu) (de_op o_mul (de_int) (de_var 13)) (de_var 8)) da_nil)))) rfl (by first | exact Or.inl rfl | exact Or.inr rfl) nd)
  (dss_one (ds_set (i := 10) (de_op o_add (de_var 10) (de_cm (di_of (de_var 14)) (blkOk_by (own := [("turns", 15)]) (by rfl)) rfl nd (fun _ _ _ _ _ => (dg_name (i := 15) rfl (by first | exact Or.inl rfl | exact Or.inr rfl))) (fun _ _ _ _ _ => dts_nil) (fun _ _ _ _ _ => (de_tup (da_cons (de_var 11) (da_cons (de_var 12) (da_cons (de_var 15) da_nil))))))) rfl (by first | exact Or.inl rfl | exact Or.inr rfl) nd)))))))
  (dss_cons (ds_asg (vs := [11, 12, 15]) (de_fun (ok_u_law_one_of c) hr (da_cons (de_var 0) (da_cons (de_var 10) da_nil))) (dg_tup (dgs_cons (dg_name (i := 11) rfl (by first | exact Or.inl rfl | exact Or.inr rfl)) (dgs_cons (dg_name (i := 12) rfl (by first | exact Or.inl rfl | exact Or.inr rfl)) (dgs_cons (dg_name (i := 15) rfl (by first | exact Or.inl rfl | exact Or.inr rfl)) dgs_nil)))))
  (dss_cons (ds_set (i := 3) (de_op o_mul (de_var 3) (de_op o_add (de_op o_mul (de_op o_mul (de_var 11) (de_op o_add (de_var 12) (de_int))) (de_op o_add (de_int) (de_callT c_int c.n_int (da_cons (de_var 15) da_nil)))) (de_int))) rfl (by first | exact Or.inl rfl | exact Or.inr rfl) nd)
  (dss_cons (ds_set (i := 1) (de_op o_sub (de_var 1) (de_var 11)) rfl (by first | exact Or.inl rfl | exact Or.inr rfl) nd)
  (dss_cons (ds_set (i := 16) (de_slice (de_fun0 (ok_u_law_letters c) hr) (dp_some (de_op o_add (de_int) (de_op o_mul (de_int) (de_var 6)))) (dp_some (de_op o_add (de_int) (de_op o_mul (de_int) (de_var 6))))) rfl (by first | exact Or.inl rfl | exact Or.inr rfl) nd)
  (dss_cons (ds_set (i := 17) (de_fun (ok_u_law_one_of c) hr (da_cons (de_var 0) (da_cons (de_lst (da_cons (de_str [97, 98]) (da_cons (de_str [97, 98, 99]) (da_cons (de_var 16) (da_cons (de_var 16) (da_cons (de_fun0 (ok_u_law_letters c) hr) da_nil)))))) da_nil))) rfl (by first | exact Or.inl rfl | exact Or.inr rfl) nd)
  (dss_one (ds_expr (de_meth (T := .list) PySem.F.plainAttrs_list PySem.F.slot_list_append PySem.F.type_list_append m_append (de_var 4) (da_cons (de_tup (da_cons (de_meth (T := .str) PySem.F.plainAttrs_str PySem.F.slot_str_join PySem.F.type_str_join m_join (de_str []) (da_cons (de_cm (di_range1 c.n_range (da_cons (de_var 11) da_nil)) (blkOk_by (own := [("again", 19)]) (by rfl)) rfl nd (fun _ _ _ _ _ => (dg_name (i := 19) rfl (by first | exact Or.inl rfl | exact Or.inr rfl))) (fun _ _ _ _ _ => dts_nil) (fun _ _ _ _ _ => (de_fun (ok_u_law_one_of c) hr (da_cons (de_var 0) (da_cons (de_var 17) da_nil))))) da_nil)) (da_cons (de_var 12) (da_cons (de_var 15) da_nil)))) da_nil)))))))))))))
  (dss_cons (ds_set (i := 18) (de_lstR da_nil) rfl (by first | exact Or.inl rfl | exact Or.inr rfl) nd)
  (dss_cons (ds_while 8 (dt_cmp (o_neR hu) (de_var 4) (de_lst da_nil)) (dss_one (ds_expr (de_meth (T := .list) PySem.F.plainAttrs_list PySem.F.slot_list_append PySem.F.type_list_append m_append (de_var 18) (da_cons (de_meth (T := .list) PySem.F.plainAttrs_list PySem.F.slot_list_pop PySem.F.type_list_pop m_popAt (de_var 4) (da_cons (de_fun (ok_u_law_take c) hr (da_cons (de_var 0) (da_cons (de_callB c_len c.n_len (da_cons (de_var 4) da_nil)) da_nil))) da_nil)) da_nil)))))
  (dss_one (ds_ret (de_callT c_tuple c.n_tuple (da_cons (de_var 18) da_nil))))))))).frz
abbrev s_u_law_draw_cut : Stmt := top 49
def N_u_law_draw_cut : List Str := ["pen", "stock", "rows", "cut", "r", "reel", "places", "again", "row", "p"]
theorem sc_u_law_draw_cut : FnScope N_u_law_draw_cut ["pen", "stock"] (defScope s_u_law_draw_cut) := ⟨rfl, rfl, rfl, by decide +kernel, rfl, by decide +kernel, by decide +kernel⟩
def b_u_law_draw_cut : DenS := (sSeq (sPar 2 3 (aCons (dLstR aNil) (aCons (dLstR aNil) aNil)))
  (sSeq (sFor (iEnum (aCons (dVar 1) aNil)) (gUn 2 (gsCons (gN 4) (gsCons (gN 5) gsNil))) (sSeq (sSet 6 (dLR1 finR (dCall (pure1 fLen) (aCons (dOp2 fIx (dVar 5) (dC (D.int 0))) aNil))))
  (sSeq (sFor (iRng rng1 (aCons (dCallF den_u_law_take (aCons (dVar 0) (aCons (dOp2 fAdd (dOp2 fIx (dVar 5) (dC (D.int 1))) (dC (D.int 1))) aNil))) aNil)) (gN 7) (sDrop (dMeth .list mPopAt (dVar 6) (aCons (dCallF den_u_law_take (aCons (dVar 0) (aCons (dCall (pure1 fLen) (aCons (dVar 6) aNil)) aNil))) aNil))))
  (sSeq (sIf (tAndD (tTru (dOp2 fIx (dVar 5) (dC (D.int 2)))) (asB (dOp2 fEqR (dCallF den_u_law_take (aCons (dVar 0) (aCons (dC (D.int 2)) aNil))) (dC (D.int 1))))) (sSet 6 (dRevS (dVar 6))) sNext)
  (sDrop (dMeth .list mAppend (dVar 2) (aCons (dCompR (iOf (dVar 6)) (gN 9) tYesD (dTup (aCons (dVar 4) (aCons (dVar 9) aNil))) [9]) aNil)))))))
  (sSeq (sFor (iRng rng1 (aCons (dCall (pure1 fSum) (aCons (dComp (iOf (dVar 2)) (gN 8) tYesD (dCall (pure1 fLen) (aCons (dVar 8) aNil)) [8]) aNil)) aNil)) (gN 7) (sSeq (sSet 8 (dCallF den_u_law_one_of (aCons (dVar 0) (aCons (dComp (iOf (dVar 2)) (gN 8) (asB (dOp2 fNeR (dVar 8) (dLst aNil))) (dVar 8) [8]) aNil))))
  (sDrop (dMeth .list mAppend (dVar 3) (aCons (dMeth .list mPopAt (dVar 8) (aCons (dC (D.int 0)) aNil)) aNil)))))
  (sRet (dVar 3)))))
def den_u_law_draw_cut : FD := frzD (bodyD 2 8 b_u_law_draw_cut)
theorem ok_u_law_draw_cut (c : All K mg) : OkF P w K mg base "_law_draw_cut" ["pen", "stock"] 4 den_u_law_draw_cut := (okf c.d_u_law_draw_cut sc_u_law_draw_cut fun cdv A outer s H E f hr => by
  have hu := hu_of hr
  have nd : N_u_law_draw_cut.Nodup := sc_u_law_draw_cut.nd
  unfold b_u_law_draw_cut
  exact (dss_cons (ds_par (i := 2) (j := 3) (da_cons (de_lstR da_nil) (da_cons (de_lstR da_nil) da_nil)) rfl rfl (by decide) rfl rfl rfl nd)
  (dss_cons (ds_for (vs := [4, 5]) (di_enum c.n_enumerate (da_cons (de_var 1) da_nil)) (dg_tup (dgs_cons (dg_name (i := 4) rfl (by first | exact Or.inl rfl | exact Or.inr rfl)) (dgs_cons (dg_name (i := 5) rfl (by first | exact Or.inl rfl | exact Or.inr rfl)) dgs_nil))) (dss_cons (ds_set (i := 6) (de_lr1R rfl c.n_list c.n_range (de_callB c_len c.n_len (da_cons (de_ix (de_var 5) (de_int)) da_nil))) rfl (by first | exact Or.inl rfl | exact Or.inr rfl) nd)
  (dss_cons (ds_for (vs := [7]) (di_range1 c.n_range (da_cons (de_fun (ok_u_law_take c) hr (da_cons (de_var 0) (da_cons (de_op o_add (de_ix (de_var 5) (de_int)) (de_int)) da_nil))) da_nil)) (dg_name (i := 7) rfl (by first | exact Or.inl rfl | exact Or.inr rfl)) (dss_one (ds_expr (de_meth (T := .list) PySem.F.plainAttrs_list PySem.F.slot_list_pop PySem.F.type_list_pop m_popAt (de_var 6) (da_cons (de_fun (ok_u_law_take c) hr (da_cons (de_var 0) (da_cons (de_callB c_len c.n_len (da_cons (de_var 6) da_nil)) da_nil))) da_nil)))))
  (dss_cons (ds_if (dt_w (dw_and (dt_tru (de_ix (de_var 5) (de_int))) (dw_and1 (dt_cmp (o_eqR hu) (de_fun (ok_u_law_take c) hr (da_cons (de_var 0) (da_cons (de_int) da_nil))) (de_int))))) (dss_one (ds_set (i := 6) (de_revS (de_var 6)) rfl (by first | exact Or.inl rfl | exact Or.inr rfl) nd)) dss_nil)
  (dss_one (ds_expr (de_meth (T := .list) PySem.F.plainAttrs_list PySem.F.slot_list_append PySem.F.type_list_append m_append (de_var 2) (da_cons (de_cmR (di_of (de_var 6)) (blkOk_by (own := [("p", 9)]) (by rfl)) rfl nd (fun _ _ _ _ _ => (dg_name (i := 9) rfl (by first | exact Or.inl rfl | exact Or.inr rfl))) (fun _ _ _ _ _ => dts_nil) (fun _ _ _ _ _ => (de_tup (da_cons (de_var 4) (da_cons (de_var 9) da_nil))))) da_nil))))))))
  (dss_cons (ds_for (vs := [7]) (di_range1 c.n_range (da_cons (de_callB (c_sum rfl) c.n_sum (da_cons (de_cm (di_of (de_var 2)) (blkOk_by (own := [("row", 8)]) (by rfl)) rfl nd (fun _ _ _ _ _ => (dg_name (i := 8) rfl (by first | exact Or.inl rfl | exact Or.inr rfl))) (fun _ _ _ _ _ => dts_nil) (fun _ _ _ _ _ => (de_callB c_len c.n_len (da_cons (de_var 8) da_nil)))) da_nil)) da_nil)) (dg_name (i := 7) rfl (by first | exact Or.inl rfl | exact Or.inr rfl)) (dss_cons (ds_set (i := 8) (de_fun (ok_u_law_one_of c) hr (da_cons (de_var 0) (da_cons (de_cm (di_of (de_var 2)) (blkOk_by (own := [("row", 8)]) (by rfl)) rfl nd (fun _ _ _ _ _ => (dg_name (i := 8) rfl (by first | exact Or.inl rfl | exact Or.inr rfl))) (fun _ _ _ _ _ => (dts_one (dt_cmp (o_neR hu) (de_var 8) (de_lst da_nil)))) (fun _ _ _ _ _ => (de_var 8))) da_nil))) rfl (by first | exact Or.inl rfl | exact Or.inr rfl) nd)
  (dss_one (ds_expr (de_meth (T := .list) PySem.F.plainAttrs_list PySem.F.slot_list_append PySem.F.type_list_append m_append (de_var 3) (da_cons (de_meth (T := .list) PySem.F.plainAttrs_list PySem.F.slot_list_pop PySem.F.type_list_pop m_popAt (de_var 8) (da_cons (de_int) da_nil)) da_nil))))))
  (dss_one (ds_ret (de_var 3))))))).frz
abbrev s_u_law_draw_watch : Stmt := top 50
def N_u_law_draw_watch : List Str := ["pen", "most", "stock", "cut", "way", "total", "some"]
theorem sc_u_law_draw_watch : FnScope N_u_law_draw_watch ["pen", "most"] (defScope s_u_law_draw_watch) := ⟨rfl, rfl, rfl, by decide +kernel, rfl, by decide +kernel, by decide +kernel⟩
def b_u_law_draw_watch : DenS := (sSeq (sSet 2 (dCallF den_u_law_draw_stock (aCons (dVar 0) (aCons (dVar 1) aNil))))
  (sSeq (sPar 3 4 (aCons (dCallF den_u_law_draw_cut (aCons (dVar 0) (aCons (dVar 2) aNil))) (aCons (dCallF den_u_law_take (aCons (dVar 0) (aCons (dC (D.int 6)) aNil))) aNil)))
  (sSeq (sPar 5 6 (aCons (dCall (pure2 fMin2) (aCons (dCall (pure1 fLen) (aCons (dVar 3) aNil)) (aCons (dC (D.int 16)) aNil))) (aCons (dLst (aCons (dC (D.int 0)) (aCons (dC (D.int 16)) aNil))) aNil)))
  (sSeq (sIf (asB (dOp2 fEqR (dVar 4) (dC (D.int 3)))) (sSet 6 (dLst (aCons (dVar 5) (aCons (dVar 5) aNil)))) (sIf (asB (dOp2 fEqR (dVar 4) (dC (D.int 4)))) (sSet 6 (dLst (aCons (dOp2 fSub (dVar 5) (dCall (pure2 fMin2) (aCons (dVar 5) (aCons (dCallF den_u_law_take (aCons (dVar 0) (aCons (dC (D.int 3)) aNil))) aNil)))) (aCons (dCall (pure2 fMin2) (aCons (dC (D.int 16)) (aCons (dOp2 fAdd (dVar 5) (dCallF den_u_law_take (aCons (dVar 0) (aCons (dC (D.int 3)) aNil)))) aNil))) aNil)))) (sIf (asB (dOp2 fEqR (dVar 4) (dC (D.int 5)))) (sSet 6 (dCall (pure1 fSortedA) (aCons (dLst (aCons (dCallF den_u_law_take (aCons (dVar 0) (aCons (dC (D.int 17)) aNil))) (aCons (dCallF den_u_law_take (aCons (dVar 0) (aCons (dC (D.int 17)) aNil))) aNil))) aNil))) sNext)))
  (sRet (dTup (aCons (dTup (aCons (dVar 2) (aCons (dOp2 fIx (dVar 6) (dC (D.int 0))) (aCons (dOp2 fIx (dVar 6) (dC (D.int 1))) aNil)))) (aCons (dVar 3) aNil))))))))
def den_u_law_draw_watch : FD := frzD (bodyD 2 5 b_u_law_draw_watch)
theorem ok_u_law_draw_watch (c : All K mg) : OkF P w K mg base "_law_draw_watch" ["pen", "most"] 5 den_u_law_draw_watch := (okf c.d_u_law_draw_watch sc_u_law_draw_watch fun cdv A outer s H E f hr => by
  have hu := hu_of hr
  have nd : N_u_law_draw_watch.Nodup := sc_u_law_draw_watch.nd
  unfold b_u_law_draw_watch
  exact (dss_cons (ds_set (i := 2) (de_fun (ok_u_law_draw_stock c) hr (da_cons (de_var 0) (da_cons (de_var 1) da_nil))) rfl (by first | exact Or.inl rfl | exact Or.inr rfl) nd)
  (dss_cons (ds_par (i := 3) (j := 4) (da_cons (de_fun (ok_u_law_draw_cut c) hr (da_cons (de_var 0) (da_cons (de_var 2) da_nil))) (da_cons (de_fun (ok_u_law_take c) hr (da_cons (de_var 0) (da_cons (de_int) da_nil))) da_nil)) rfl rfl (by decide) rfl rfl rfl nd)
  (dss_cons (ds_par (i := 5) (j := 6) (da_cons (de_callB (c_min2 rfl) c.n_min (da_cons (de_callB c_len c.n_len (da_cons (de_var 3) da_nil)) (da_cons (de_int) da_nil))) (da_cons (de_lst (da_cons (de_int) (da_cons (de_int) da_nil))) da_nil)) rfl rfl (by decide) rfl rfl rfl nd)
  (dss_cons (ds_if (dt_cmp (o_eqR hu) (de_var 4) (de_int)) (dss_one (ds_set (i := 6) (de_lst (da_cons (de_var 5) (da_cons (de_var 5) da_nil))) rfl (by first | exact Or.inl rfl | exact Or.inr rfl) nd)) (dss_one (ds_if (dt_cmp (o_eqR hu) (de_var 4) (de_int)) (dss_one (ds_set (i := 6) (de_lst (da_cons (de_op o_sub (de_var 5) (de_callB (c_min2 rfl) c.n_min (da_cons (de_var 5) (da_cons (de_fun (ok_u_law_take c) hr (da_cons (de_var 0) (da_cons (de_int) da_nil))) da_nil)))) (da_cons (de_callB (c_min2 rfl) c.n_min (da_cons (de_int) (da_cons (de_op o_add (de_var 5) (de_fun (ok_u_law_take c) hr (da_cons (de_var 0) (da_cons (de_int) da_nil)))) da_nil))) da_nil))) rfl (by first | exact Or.inl rfl | exact Or.inr rfl) nd)) (dss_one (ds_if (dt_cmp (o_eqR hu) (de_var 4) (de_int)) (dss_one (ds_set (i := 6) (de_callB (c_sortedA rfl hu) c.n_sorted (da_cons (de_lst (da_cons (de_fun (ok_u_law_take c) hr (da_cons (de_var 0) (da_cons (de_int) da_nil))) (da_cons (de_fun (ok_u_law_take c) hr (da_cons (de_var 0) (da_cons (de_int) da_nil))) da_nil))) da_nil)) rfl (by first | exact Or.inl rfl | exact Or.inr rfl) nd)) dss_nil)))))
  (dss_one (ds_ret (de_tup (da_cons (de_tup (da_cons (de_var 2) (da_cons (de_ix (de_var 6) (de_int)) (da_cons (de_ix (de_var 6) (de_int)) da_nil)))) (da_cons (de_var 3) da_nil)))))))))).frz
abbrev s_u_law_draw_frame : Stmt := top 51
def N_u_law_draw_frame : List Str := ["pen", "sign", "way", "letters", "again"]
theorem sc_u_law_draw_frame : FnScope N_u_law_draw_frame ["pen", "sign"] (defScope s_u_law_draw_frame) := ⟨rfl, rfl, rfl, by decide +kernel, rfl, by decide +kernel, by decide +kernel⟩
def b_u_law_draw_frame : DenS := (sSeq (sPar 2 3 (aCons (dCallF den_u_law_take (aCons (dVar 0) (aCons (dC (D.int 12)) aNil))) (aCons (dLst (aCons (dVar 1) aNil)) aNil)))
  (sSeq (sIf (asB (dOp2 fEqR (dVar 2) (dC (D.int 0)))) (sRet (dC (D.str [63]))) sNext)
  (sSeq (sIf (asB (dOp2 fLt (dVar 2) (dC (D.int 4)))) (sSet 3 (dOp2 fAdd (dLst (aCons (dVar 1) aNil)) (dComp (iRng rng1 (aCons (dVar 2) aNil)) (gN 4) tYesD (dCallF den_u_law_one_of (aCons (dVar 0) (aCons (dC (D.str [97, 98, 99, 100, 101, 102, 103, 104, 105])) aNil))) [4]))) (sIf (asB (dOp2 fEqR (dVar 2) (dC (D.int 4)))) (sSet 3 (dIf (asB (dOp2 fGt (dCallF den_u_law_take (aCons (dVar 0) (aCons (dC (D.int 3)) aNil))) (dC (D.int 0)))) (dLst (aCons (dCallF den_u_law_one_of (aCons (dVar 0) (aCons (dCallF den_u_law_letters aNil) aNil))) aNil)) (dLst aNil))) (sIf (asB (dOp2 fEqR (dVar 2) (dC (D.int 5)))) (sSet 3 (dOp2 fAdd (dLst (aCons (dVar 1) aNil)) (dSl (dCall (pure1 fListA) (aCons (dCallF den_u_law_letters aNil) aNil)) (pSome (dCallF den_u_law_take (aCons (dVar 0) (aCons (dC (D.int 26)) aNil)))) pNone))) sNext)))
  (sRet (dMeth .str mJoin (dC (D.str [])) (aCons (dSortSet (dVar 3)) aNil))))))
def den_u_law_draw_frame : FD := frzD (bodyD 2 3 b_u_law_draw_frame)
theorem ok_u_law_draw_frame (c : All K mg) : OkF P w K mg base "_law_draw_frame" ["pen", "sign"] 4 den_u_law_draw_frame := (okf c.d_u_law_draw_frame sc_u_law_draw_frame fun cdv A outer s H E f hr => by
  have hu := hu_of hr
  have nd : N_u_law_draw_frame.Nodup := sc_u_law_draw_frame.nd
  unfold b_u_law_draw_frame
  exact (dss_cons (ds_par (i := 2) (j := 3) (da_cons (de_fun (ok_u_law_take c) hr (da_cons (de_var 0) (da_cons (de_int) da_nil))) (da_cons (de_lst (da_cons (de_var 1) da_nil)) da_nil)) rfl rfl (by decide) rfl rfl rfl nd)
  (dss_cons (ds_if (dt_cmp (o_eqR hu) (de_var 2) (de_int)) (dss_one (ds_ret (de_str [63]))) dss_nil)
  (dss_cons (ds_if (dt_cmp (o_lt hu) (de_var 2) (de_int)) (dss_one (ds_set (i := 3) (de_op o_add (de_lst (da_cons (de_var 1) da_nil)) (de_cm (di_range1 c.n_range (da_cons (de_var 2) da_nil)) (blkOk_by (own := [("again", 4)]) (by rfl)) rfl nd (fun _ _ _ _ _ => (dg_name (i := 4) rfl (by first | exact Or.inl rfl | exact Or.inr rfl))) (fun _ _ _ _ _ => dts_nil) (fun _ _ _ _ _ => (de_fun (ok_u_law_one_of c) hr (da_cons (de_var 0) (da_cons (de_str [97, 98, 99, 100, 101, 102, 103, 104, 105]) da_nil)))))) rfl (by first | exact Or.inl rfl | exact Or.inr rfl) nd)) (dss_one (ds_if (dt_cmp (o_eqR hu) (de_var 2) (de_int)) (dss_one (ds_set (i := 3) (de_if (dt_cmp o_gt (de_fun (ok_u_law_take c) hr (da_cons (de_var 0) (da_cons (de_int) da_nil))) (de_int)) (de_lst (da_cons (de_fun (ok_u_law_one_of c) hr (da_cons (de_var 0) (da_cons (de_fun0 (ok_u_law_letters c) hr) da_nil))) da_nil)) (de_lst da_nil)) rfl (by first | exact Or.inl rfl | exact Or.inr rfl) nd)) (dss_one (ds_if (dt_cmp (o_eqR hu) (de_var 2) (de_int)) (dss_one (ds_set (i := 3) (de_op o_add (de_lst (da_cons (de_var 1) da_nil)) (de_slice (de_callT (c_listA rfl) c.n_list (da_cons (de_fun0 (ok_u_law_letters c) hr) da_nil)) (dp_some (de_fun (ok_u_law_take c) hr (da_cons (de_var 0) (da_cons (de_int) da_nil)))) dp_none)) rfl (by first | exact Or.inl rfl | exact Or.inr rfl) nd)) dss_nil)))))
  (dss_one (ds_ret (de_meth (T := .str) PySem.F.plainAttrs_str PySem.F.slot_str_join PySem.F.type_str_join m_join (de_str []) (da_cons (de_sortSet rfl hu c.n_sorted c.n_set (de_var 3)) da_nil)))))))).frz
abbrev s_u_law_draw_head : Stmt := top 52
def N_u_law_draw_head : List Str := ["pen", "stock", "cut", "many", "head", "r", "p"]
theorem sc_u_law_draw_head : FnScope N_u_law_draw_head ["pen", "stock", "cut"] (defScope s_u_law_draw_head) := ⟨rfl, rfl, rfl, by decide +kernel, rfl, by decide +kernel, by decide +kernel⟩
def b_u_law_draw_head : DenS := (sSeq (sSet 3 (dCallF den_u_law_take (aCons (dVar 0) (aCons (dOp2 fAdd (dCall (pure2 fMin2) (aCons (dCall (pure1 fLen) (aCons (dVar 2) aNil)) (aCons (dC (D.int 16)) aNil))) (dC (D.int 1))) aNil))))
  (sSeq (sSet 4 (dCall (pure1 fTuple) (aCons (dComp (iOf (dSl (dVar 2) pNone (pSome (dVar 3)))) (gUn 2 (gsCons (gN 5) (gsCons (gN 6) gsNil))) tYesD (dCallF den_u_law_draw_frame (aCons (dVar 0) (aCons (dOp2 fIx (dOp2 fIx (dOp2 fIx (dVar 1) (dVar 5)) (dC (D.int 0))) (dVar 6)) aNil))) [5, 6]) aNil)))
  (sRet (dIf (tAndD (asB (dOp2 fEqR (dCallF den_u_law_take (aCons (dVar 0) (aCons (dC (D.int 8)) aNil))) (dC (D.int 0)))) (asB (dOp2 fLt (dVar 3) (dC (D.int 16))))) (dOp2 fAdd (dVar 4) (dTup (aCons (dC (D.str [63])) aNil))) (dVar 4)))))
def den_u_law_draw_head : FD := frzD (bodyD 3 4 b_u_law_draw_head)
theorem ok_u_law_draw_head (c : All K mg) : OkF P w K mg base "_law_draw_head" ["pen", "stock", "cut"] 5 den_u_law_draw_head := (okf c.d_u_law_draw_head sc_u_law_draw_head fun cdv A outer s H E f hr => by
  have hu := hu_of hr
  have nd : N_u_law_draw_head.Nodup := sc_u_law_draw_head.nd
  unfold b_u_law_draw_head
  exact (dss_cons (ds_set (i := 3) (de_fun (ok_u_law_take c) hr (da_cons (de_var 0) (da_cons (de_op o_add (de_callB (c_min2 rfl) c.n_min (da_cons (de_callB c_len c.n_len (da_cons (de_var 2) da_nil)) (da_cons (de_int) da_nil))) (de_int)) da_nil))) rfl (by first | exact Or.inl rfl | exact Or.inr rfl) nd)
  (dss_cons (ds_set (i := 4) (de_callT c_tuple c.n_tuple (da_cons (de_cm (di_of (de_slice (de_var 2) dp_none (dp_some (de_var 3)))) (blkOk_by (own := [("r", 5), ("p", 6)]) (by rfl)) rfl nd (fun _ _ _ _ _ => (dg_tup (dgs_cons (dg_name (i := 5) rfl (by first | exact Or.inl rfl | exact Or.inr rfl)) (dgs_cons (dg_name (i := 6) rfl (by first | exact Or.inl rfl | exact Or.inr rfl)) dgs_nil)))) (fun _ _ _ _ _ => dts_nil) (fun _ _ _ _ _ => (de_fun (ok_u_law_draw_frame c) hr (da_cons (de_var 0) (da_cons (de_ix (de_ix (de_ix (de_var 1) (de_var 5)) (de_int)) (de_var 6)) da_nil))))) da_nil)) rfl (by first | exact Or.inl rfl | exact Or.inr rfl) nd)
  (dss_one (ds_ret (de_if (dt_w (dw_and (dt_cmp (o_eqR hu) (de_fun (ok_u_law_take c) hr (da_cons (de_var 0) (da_cons (de_int) da_nil))) (de_int)) (dw_and1 (dt_cmp (o_lt hu) (de_var 3) (de_int))))) (de_op o_add (de_var 4) (de_tup (da_cons (de_str [63]) da_nil))) (de_var 4))))))).frz
abbrev s_u_law_same : Stmt := top 33
def N_u_law_same : List Str := ["found", "due", "one", "other"]
theorem sc_u_law_same : FnScope N_u_law_same ["found", "due"] (defScope s_u_law_same) := ⟨rfl, rfl, rfl, by decide +kernel, rfl, by decide +kernel, by decide +kernel⟩
def b_u_law_same (g : FD) : DenS := (sSeq (sIf (tOrD (asB (dOp2 fIsN (dVar 1) (dC D.non))) (asB (dOp2 fIsN (dVar 0) (dC D.non)))) (sRet ((dAnd (dOp2 fIsN (dVar 1) (dC D.non)) (dOp2 fIsN (dVar 0) (dC D.non))))) sNext)
  (sSeq (sIf (tOrD (tTru (dIsi .bl (dVar 1))) (tTru (dIsi .bl (dVar 0)))) (sRet ((dAnd (dIsi .bl (dVar 1)) (dAnd (dIsi .bl (dVar 0)) (dOp2 fEqR (dVar 0) (dVar 1)))))) sNext)
  (sSeq (sIf (tTru (dIsi2 .int .str (dVar 1))) (sSeq (sIf (asB (dOp2 fNeR (dIsi .int (dVar 0)) (dIsi .int (dVar 1)))) (sRet (dC (D.bl false))) sNext)
  (sRet ((dAnd (dIsi2 .int .str (dVar 0)) (dOp2 fEqR (dVar 0) (dVar 1)))))) sNext)
  (sSeq (sIf (tOrD (asB (dOp2 fNeR (dIsi .tup (dVar 1)) (dIsi .tup (dVar 0)))) (asB (dOp2 fNeR (dIsi .lst (dVar 1)) (dIsi .lst (dVar 0))))) (sRet (dC (D.bl false))) sNext)
  (sSeq (sIf (asB (dOp2 fNeR (dCall (pure1 fLen) (aCons (dVar 0) aNil)) (dCall (pure1 fLen) (aCons (dVar 1) aNil)))) (sRet (dC (D.bl false))) sNext)
  (sRet (dOp2 fNotIn (dC (D.bl false)) (dComp (iZip (aCons (dVar 0) (aCons (dVar 1) aNil))) (gUn 2 (gsCons (gN 2) (gsCons (gN 3) gsNil))) tYesD (dCallF g (aCons (dVar 2) (aCons (dVar 3) aNil))) [2, 3]))))))))
def rec_u_law_same : Nat → FD
  | 0 => fun _ _ => none
  | n + 1 => frzD (bodyD 2 2 (b_u_law_same (rec_u_law_same n)))
theorem ok_rec_u_law_same (c : All K mg) : ∀ n, OkF P w K mg base "_law_same" ["found", "due"] (0 + n) (rec_u_law_same n)
  | 0 => okf_never c.d_u_law_same
  | n + 1 => (okf c.d_u_law_same sc_u_law_same fun cdv A outer s H E f hr => by
    have hg := ok_rec_u_law_same c n
    have hr : RoomG (0 + n) _ := hr
    have hu := hu_of hr
    have nd : N_u_law_same.Nodup := sc_u_law_same.nd
    unfold b_u_law_same
    exact (dss_cons (ds_if (dt_w (dw_or (dt_cmp o_isN (de_var 1) (de_non)) (dw_or1 (dt_cmp o_isN (de_var 0) (de_non))))) (dss_one (ds_ret ((de_and (de_cmp o_isN (de_var 1) (de_non)) (de_one (de_cmp o_isN (de_var 0) (de_non))))))) dss_nil)
  (dss_cons (ds_if (dt_w (dw_or (dt_tru (de_isi c.n_isinstance c.n_bool (de_var 1))) (dw_or1 (dt_tru (de_isi c.n_isinstance c.n_bool (de_var 0)))))) (dss_one (ds_ret ((de_and (de_isi c.n_isinstance c.n_bool (de_var 1)) (de_and (de_isi c.n_isinstance c.n_bool (de_var 0)) (de_one (de_cmp (o_eqR hu) (de_var 0) (de_var 1)))))))) dss_nil)
  (dss_cons (ds_if (dt_tru (de_isi2 c.n_isinstance c.n_int c.n_str (de_var 1))) (dss_cons (ds_if (dt_cmp (o_neR hu) (de_isi c.n_isinstance c.n_int (de_var 0)) (de_isi c.n_isinstance c.n_int (de_var 1))) (dss_one (ds_ret (de_bl))) dss_nil)
  (dss_one (ds_ret ((de_and (de_isi2 c.n_isinstance c.n_int c.n_str (de_var 0)) (de_one (de_cmp (o_eqR hu) (de_var 0) (de_var 1)))))))) dss_nil)
  (dss_cons (ds_if (dt_w (dw_or (dt_cmp (o_neR hu) (de_isi c.n_isinstance c.n_tuple (de_var 1)) (de_isi c.n_isinstance c.n_tuple (de_var 0))) (dw_or1 (dt_cmp (o_neR hu) (de_isi c.n_isinstance c.n_list (de_var 1)) (de_isi c.n_isinstance c.n_list (de_var 0)))))) (dss_one (ds_ret (de_bl))) dss_nil)
  (dss_cons (ds_if (dt_cmp (o_neR hu) (de_callB c_len c.n_len (da_cons (de_var 0) da_nil)) (de_callB c_len c.n_len (da_cons (de_var 1) da_nil))) (dss_one (ds_ret (de_bl))) dss_nil)
  (dss_one (ds_ret (de_cmp (o_notIn hu) (de_bl) (de_cm (di_zip c.n_zip (da_cons (de_var 0) (da_cons (de_var 1) da_nil))) (blkOk_by (own := [("one", 2), ("other", 3)]) (by rfl)) rfl nd (fun _ _ _ _ _ => (dg_tup (dgs_cons (dg_name (i := 2) rfl (by first | exact Or.inl rfl | exact Or.inr rfl)) (dgs_cons (dg_name (i := 3) rfl (by first | exact Or.inl rfl | exact Or.inr rfl)) dgs_nil)))) (fun _ _ _ _ _ => dts_nil) (fun _ _ _ _ _ => (de_fun (hj := by omega) hg hr (da_cons (de_var 2) (da_cons (de_var 3) da_nil)))))))))))))).frz
def den_u_law_same : FD := rec_u_law_same 8
theorem ok_u_law_same (c : All K mg) : OkF P w K mg base "_law_same" ["found", "due"] 8 den_u_law_same := ok_rec_u_law_same c 8
abbrev s_still_to_come : Stmt := top 25
def N_still_to_come : List Str := ["reel", "run", "signs", "loss", "turns", "used", "last", "way", "behind"]
theorem sc_still_to_come : FnScope N_still_to_come ["reel", "run"] (defScope s_still_to_come) := ⟨rfl, rfl, rfl, by decide +kernel, rfl, by decide +kernel, by decide +kernel⟩
def b_still_to_come : DenS := (sSeq (sAsg (dVar 0) (gUn 3 (gsCons (gN 2) (gsCons (gN 3) (gsCons (gN 4) gsNil)))))
  (sSeq (sAsg (dVar 1) (gUn 3 (gsCons (gN 5) (gsCons (gN 6) (gsCons (gN 7) gsNil)))))
  (sSeq (sSet 8 (dOp2 fSub (dOp2 fSub (dCall (pure1 fLen) (aCons (dVar 2) aNil)) (dC (D.int 1))) (dVar 6)))
  (sSeq (sIf (asB (dOp2 fEqR (dVar 7) (dNeg (dC (D.int 1))))) (sRet (dVar 6)) sNext)
  (sSeq (sIf (tAndD (asB (dOp2 fEqR (dVar 5) (dC (D.int 1)))) (tTru (dVar 4))) (sRet (dCall (pure2 fMax2) (aCons (dIf (asB (dOp2 fLe (dVar 6) (dVar 3))) (dVar 8) (dC (D.int 0))) (aCons (dIf (asB (dOp2 fLe (dVar 8) (dVar 3))) (dVar 6) (dC (D.int 0))) aNil)))) sNext)
  (sRet (dVar 8)))))))
def den_still_to_come : FD := frzD (bodyD 2 7 b_still_to_come)
theorem ok_still_to_come (c : All K mg) : OkF P w K mg base "still_to_come" ["reel", "run"] 1 den_still_to_come := (okf c.d_still_to_come sc_still_to_come fun cdv A outer s H E f hr => by
  have hu := hu_of hr
  have nd : N_still_to_come.Nodup := sc_still_to_come.nd
  unfold b_still_to_come
  exact (dss_cons (ds_asg (vs := [2, 3, 4]) (de_var 0) (dg_tup (dgs_cons (dg_name (i := 2) rfl (by first | exact Or.inl rfl | exact Or.inr rfl)) (dgs_cons (dg_name (i := 3) rfl (by first | exact Or.inl rfl | exact Or.inr rfl)) (dgs_cons (dg_name (i := 4) rfl (by first | exact Or.inl rfl | exact Or.inr rfl)) dgs_nil)))))
  (dss_cons (ds_asg (vs := [5, 6, 7]) (de_var 1) (dg_tup (dgs_cons (dg_name (i := 5) rfl (by first | exact Or.inl rfl | exact Or.inr rfl)) (dgs_cons (dg_name (i := 6) rfl (by first | exact Or.inl rfl | exact Or.inr rfl)) (dgs_cons (dg_name (i := 7) rfl (by first | exact Or.inl rfl | exact Or.inr rfl)) dgs_nil)))))
  (dss_cons (ds_set (i := 8) (de_op o_sub (de_op o_sub (de_callB c_len c.n_len (da_cons (de_var 2) da_nil)) (de_int)) (de_var 6)) rfl (by first | exact Or.inl rfl | exact Or.inr rfl) nd)
  (dss_cons (ds_if (dt_cmp (o_eqR hu) (de_var 7) (de_neg (de_int))) (dss_one (ds_ret (de_var 6))) dss_nil)
  (dss_cons (ds_if (dt_w (dw_and (dt_cmp (o_eqR hu) (de_var 5) (de_int)) (dw_and1 (dt_tru (de_var 4))))) (dss_one (ds_ret (de_callB (c_max2 rfl) c.n_max (da_cons (de_if (dt_cmp o_le (de_var 6) (de_var 3)) (de_var 8) (de_int)) (da_cons (de_if (dt_cmp o_le (de_var 8) (de_var 3)) (de_var 6) (de_int)) da_nil))))) dss_nil)
  (dss_one (ds_ret (de_var 8))))))))).frz
abbrev s_reach : Stmt := top 26
def N_reach : List Str := ["stock", "row", "lowest", "highest", "reel", "run"]
theorem sc_reach : FnScope N_reach ["stock", "row"] (defScope s_reach) := ⟨rfl, rfl, rfl, by decide +kernel, rfl, by decide +kernel, by decide +kernel⟩
def b_reach : DenS := (sSeq (sAsg (dTup (aCons (dC (D.int 0)) (aCons (dC (D.int 0)) aNil))) (gUn 2 (gsCons (gN 2) (gsCons (gN 3) gsNil))))
  (sSeq (sFor (iZipS (aCons (dVar 0) (aCons (dOp2 fIx (dVar 1) (dC (D.int 0))) aNil))) (gUn 2 (gsCons (gN 4) (gsCons (gN 5) gsNil))) (sSeq (sAug 2 fIAdd (dCall (pure2 fMax2) (aCons (dOp2 fIx (dVar 5) (dC (D.int 0))) (aCons (dOp2 fSub (dCall (pure1 fLen) (aCons (dOp2 fIx (dVar 4) (dC (D.int 0))) aNil)) (dOp2 fIx (dVar 4) (dC (D.int 1)))) aNil))))
  (sAug 3 fIAdd (dOp2 fAdd (dOp2 fIx (dVar 5) (dC (D.int 0))) (dCallF den_still_to_come (aCons (dVar 4) (aCons (dVar 5) aNil)))))))
  (sRet (dTup (aCons (dVar 2) (aCons (dVar 3) aNil))))))
def den_reach : FD := frzD (bodyD 2 4 b_reach)
theorem ok_reach (c : All K mg) : OkF P w K mg base "reach" ["stock", "row"] 2 den_reach := (okf c.d_reach sc_reach fun cdv A outer s H E f hr => by
  have hu := hu_of hr
  have nd : N_reach.Nodup := sc_reach.nd
  unfold b_reach
  exact (dss_cons (ds_asg (vs := [2, 3]) (de_tup (da_cons (de_int) (da_cons (de_int) da_nil))) (dg_tup (dgs_cons (dg_name (i := 2) rfl (by first | exact Or.inl rfl | exact Or.inr rfl)) (dgs_cons (dg_name (i := 3) rfl (by first | exact Or.inl rfl | exact Or.inr rfl)) dgs_nil))))
  (dss_cons (ds_for (vs := [4, 5]) (di_zipS c.n_zip (da_cons (de_var 0) (da_cons (de_ix (de_var 1) (de_int)) da_nil))) (dg_tup (dgs_cons (dg_name (i := 4) rfl (by first | exact Or.inl rfl | exact Or.inr rfl)) (dgs_cons (dg_name (i := 5) rfl (by first | exact Or.inl rfl | exact Or.inr rfl)) dgs_nil))) (dss_cons (ds_aug (i := 2) o_iadd (de_callB (c_max2 rfl) c.n_max (da_cons (de_ix (de_var 5) (de_int)) (da_cons (de_op o_sub (de_callB c_len c.n_len (da_cons (de_ix (de_var 4) (de_int)) da_nil)) (de_ix (de_var 4) (de_int))) da_nil))) rfl (by first | exact Or.inl rfl | exact Or.inr rfl) nd)
  (dss_one (ds_aug (i := 3) o_iadd (de_op o_add (de_ix (de_var 5) (de_int)) (de_fun (ok_still_to_come c) hr (da_cons (de_var 4) (da_cons (de_var 5) da_nil)))) rfl (by first | exact Or.inl rfl | exact Or.inr rfl) nd))))
  (dss_one (ds_ret (de_tup (da_cons (de_var 2) (da_cons (de_var 3) da_nil)))))))).frz
abbrev s_u_law_totals : Stmt := top 43
def N_u_law_totals : List Str := ["reel", "run", "signs", "loss", "turns", "used", "last", "way", "sides", "found", "side", "more"]
theorem sc_u_law_totals : FnScope N_u_law_totals ["reel", "run"] (defScope s_u_law_totals) := ⟨rfl, rfl, rfl, by decide +kernel, rfl, by decide +kernel, by decide +kernel⟩
def b_u_law_totals : DenS := (sSeq (sAsg (dVar 0) (gUn 3 (gsCons (gN 2) (gsCons (gN 3) (gsCons (gN 4) gsNil)))))
  (sSeq (sAsg (dVar 1) (gUn 3 (gsCons (gN 5) (gsCons (gN 6) (gsCons (gN 7) gsNil)))))
  (sSeq (sPar 8 9 (aCons (dLstR aNil) (aCons (dLst aNil) aNil)))
  (sSeq (sIf (asB (dOp2 fNeR (dVar 7) (dNeg (dC (D.int 1))))) (sDrop (dMeth .list mAppend (dVar 8) (aCons (dOp2 fSub (dOp2 fSub (dCall (pure1 fLen) (aCons (dVar 2) aNil)) (dC (D.int 1))) (dVar 6)) aNil))) sNext)
  (sSeq (sIf (tOrD (asB (dOp2 fEqR (dVar 7) (dNeg (dC (D.int 1))))) (tAndD (asB (dOp2 fEqR (dVar 5) (dC (D.int 1)))) (tTru (dVar 4)))) (sDrop (dMeth .list mAppend (dVar 8) (aCons (dVar 6) aNil))) sNext)
  (sSeq (sFor (iOf (dVar 8)) (gN 10) (sSet 9 (dOp2 fAdd (dVar 9) (dComp (iRng rng1 (aCons (dOp2 fAdd (dVar 10) (dC (D.int 1))) aNil)) (gN 11) (asB (dOp2 fLe (dOp2 fSub (dOp2 fSub (dCall (pure1 fLen) (aCons (dVar 2) aNil)) (dVar 5)) (dVar 11)) (dVar 3))) (dOp2 fAdd (dVar 5) (dVar 11)) [11]))))
  (sRet (dVar 9))))))))
def den_u_law_totals : FD := frzD (bodyD 2 10 b_u_law_totals)
theorem ok_u_law_totals (c : All K mg) : OkF P w K mg base "_law_totals" ["reel", "run"] 1 den_u_law_totals := (okf c.d_u_law_totals sc_u_law_totals fun cdv A outer s H E f hr => by
  have hu := hu_of hr
  have nd : N_u_law_totals.Nodup := sc_u_law_totals.nd
  unfold b_u_law_totals
  exact (dss_cons (ds_asg (vs := [2, 3, 4]) (de_var 0) (dg_tup (dgs_cons (dg_name (i := 2) rfl (by first | exact Or.inl rfl | exact Or.inr rfl)) (dgs_cons (dg_name (i := 3) rfl (by first | exact Or.inl rfl | exact Or.inr rfl)) (dgs_cons (dg_name (i := 4) rfl (by first | exact Or.inl rfl | exact Or.inr rfl)) dgs_nil)))))
  (dss_cons (ds_asg (vs := [5, 6, 7]) (de_var 1) (dg_tup (dgs_cons (dg_name (i := 5) rfl (by first | exact Or.inl rfl | exact Or.inr rfl)) (dgs_cons (dg_name (i := 6) rfl (by first | exact Or.inl rfl | exact Or.inr rfl)) (dgs_cons (dg_name (i := 7) rfl (by first | exact Or.inl rfl | exact Or.inr rfl)) dgs_nil)))))
  (dss_cons (ds_par (i := 8) (j := 9) (da_cons (de_lstR da_nil) (da_cons (de_lst da_nil) da_nil)) rfl rfl (by decide) rfl rfl rfl nd)
  (dss_cons (ds_if (dt_cmp (o_neR hu) (de_var 7) (de_neg (de_int))) (dss_one (ds_expr (de_meth (T := .list) PySem.F.plainAttrs_list PySem.F.slot_list_append PySem.F.type_list_append m_append (de_var 8) (da_cons (de_op o_sub (de_op o_sub (de_callB c_len c.n_len (da_cons (de_var 2) da_nil)) (de_int)) (de_var 6)) da_nil)))) dss_nil)
  (dss_cons (ds_if (dt_w (dw_or (dt_cmp (o_eqR hu) (de_var 7) (de_neg (de_int))) (dw_or1 (dt_w (dw_and (dt_cmp (o_eqR hu) (de_var 5) (de_int)) (dw_and1 (dt_tru (de_var 4)))))))) (dss_one (ds_expr (de_meth (T := .list) PySem.F.plainAttrs_list PySem.F.slot_list_append PySem.F.type_list_append m_append (de_var 8) (da_cons (de_var 6) da_nil)))) dss_nil)
  (dss_cons (ds_for (vs := [10]) (di_of (de_var 8)) (dg_name (i := 10) rfl (by first | exact Or.inl rfl | exact Or.inr rfl)) (dss_one (ds_set (i := 9) (de_op o_add (de_var 9) (de_cm (di_range1 c.n_range (da_cons (de_op o_add (de_var 10) (de_int)) da_nil)) (blkOk_by (own := [("more", 11)]) (by rfl)) rfl nd (fun _ _ _ _ _ => (dg_name (i := 11) rfl (by first | exact Or.inl rfl | exact Or.inr rfl))) (fun _ _ _ _ _ => (dts_one (dt_cmp o_le (de_op o_sub (de_op o_sub (de_callB c_len c.n_len (da_cons (de_var 2) da_nil)) (de_var 5)) (de_var 11)) (de_var 3)))) (fun _ _ _ _ _ => (de_op o_add (de_var 5) (de_var 11))))) rfl (by first | exact Or.inl rfl | exact Or.inr rfl) nd)))
  (dss_one (ds_ret (de_var 9)))))))))).frz
abbrev s_u_law_reach : Stmt := top 44
def N_u_law_reach : List Str := ["stock", "row", "rows", "reel", "run", "some"]
theorem sc_u_law_reach : FnScope N_u_law_reach ["stock", "row"] (defScope s_u_law_reach) := ⟨rfl, rfl, rfl, by decide +kernel, rfl, by decide +kernel, by decide +kernel⟩
def b_u_law_reach : DenS := (sSeq (sSet 2 (dComp (iZip (aCons (dVar 0) (aCons (dOp2 fIx (dVar 1) (dC (D.int 0))) aNil))) (gUn 2 (gsCons (gN 3) (gsCons (gN 4) gsNil))) tYesD (dCallF den_u_law_totals (aCons (dVar 3) (aCons (dVar 4) aNil))) [3, 4]))
  (sRet (dTup (aCons (dCall (pure1 fSum) (aCons (dComp (iOf (dVar 2)) (gN 5) tYesD (dCall (pure1 fMinL) (aCons (dVar 5) aNil)) [5]) aNil)) (aCons (dCall (pure1 fSum) (aCons (dComp (iOf (dVar 2)) (gN 5) tYesD (dCall (pure1 fMaxL) (aCons (dVar 5) aNil)) [5]) aNil)) aNil)))))
def den_u_law_reach : FD := frzD (bodyD 2 4 b_u_law_reach)
theorem ok_u_law_reach (c : All K mg) : OkF P w K mg base "_law_reach" ["stock", "row"] 2 den_u_law_reach := (okf c.d_u_law_reach sc_u_law_reach fun cdv A outer s H E f hr => by
  have hu := hu_of hr
  have nd : N_u_law_reach.Nodup := sc_u_law_reach.nd
  unfold b_u_law_reach
  exact (dss_cons (ds_cm rfl rfl rfl (di_zip c.n_zip (da_cons (de_var 0) (da_cons (de_ix (de_var 1) (de_int)) da_nil))) (blkOk_by (own := [("reel", 3), ("run", 4)]) (by rfl)) rfl nd (fun _ _ _ _ _ => (dg_tup (dgs_cons (dg_name (i := 3) rfl (by first | exact Or.inl rfl | exact Or.inr rfl)) (dgs_cons (dg_name (i := 4) rfl (by first | exact Or.inl rfl | exact Or.inr rfl)) dgs_nil)))) (fun _ _ _ _ _ => dts_nil) (fun _ _ _ _ _ => (de_fun (ok_u_law_totals c) hr (da_cons (de_var 3) (da_cons (de_var 4) da_nil)))))
  (dss_one (ds_ret (de_tup (da_cons (de_callB (c_sum rfl) c.n_sum (da_cons (de_cm (di_of (de_var 2)) (blkOk_by (own := [("some", 5)]) (by rfl)) rfl nd (fun _ _ _ _ _ => (dg_name (i := 5) rfl (by first | exact Or.inl rfl | exact Or.inr rfl))) (fun _ _ _ _ _ => dts_nil) (fun _ _ _ _ _ => (de_callB (c_minL rfl) c.n_min (da_cons (de_var 5) da_nil)))) da_nil)) (da_cons (de_callB (c_sum rfl) c.n_sum (da_cons (de_cm (di_of (de_var 2)) (blkOk_by (own := [("some", 5)]) (by rfl)) rfl nd (fun _ _ _ _ _ => (dg_name (i := 5) rfl (by first | exact Or.inl rfl | exact Or.inr rfl))) (fun _ _ _ _ _ => dts_nil) (fun _ _ _ _ _ => (de_callB (c_maxL rfl) c.n_max (da_cons (de_var 5) da_nil)))) da_nil)) da_nil))))))).frz
abbrev s_u_law_odd : Stmt := top 36
def N_u_law_odd : List Str := ["pen", "some"]
theorem sc_u_law_odd : FnScope N_u_law_odd ["pen"] (defScope s_u_law_odd) := ⟨rfl, rfl, rfl, by decide +kernel, rfl, by decide +kernel, by decide +kernel⟩
def b_u_law_odd : DenS := (sSeq (sSet 1 (dLst (aCons (dC D.non) (aCons (dC (D.bl true)) (aCons (dC (D.bl false)) (aCons (dC (D.int 0)) (aCons (dC (D.int 1)) (aCons (dNeg (dC (D.int 1))) (aCons (dC (D.int 2)) (aCons (dC (D.int 17)) (aCons (dOp2 fPow (dC (D.int 10)) (dC (D.int 20))) (aCons (dC (D.str [])) (aCons (dC (D.str [63])) (aCons (dC (D.str [97])) (aCons (dC (D.str [98, 97])) (aCons (dC (D.str [65])) (aCons (dTup aNil) (aCons (dLst aNil) (aCons (dDict0) (aCons (dTup (aCons (dC (D.int 0)) aNil)) (aCons (dTup (aCons (dC (D.int 0)) (aCons (dC (D.int 1)) aNil))) (aCons (dLst (aCons (dC (D.int 0)) aNil)) aNil))))))))))))))))))))))
  (sRet (dCallF den_u_law_one_of (aCons (dVar 0) (aCons (dOp2 fAdd (dVar 1) (dLst (aCons (dTup (aCons (dTup (aCons (dC (D.int 0)) (aCons (dC (D.int 1)) aNil))) aNil)) (aCons (dTup (aCons (dC (D.int 0)) (aCons (dC (D.int 0)) aNil))) (aCons (dTup (aCons (dC (D.str [97])) (aCons (dC (D.int 0)) (aCons (dC (D.bl false)) aNil)))) (aCons (dTup (aCons (dTup (aCons (dC (D.str [97, 98])) (aCons (dC (D.int 1)) (aCons (dC (D.bl false)) aNil)))) aNil)) (aCons (dTup (aCons (dTup (aCons (dC (D.int 0)) (aCons (dNeg (dC (D.int 1))) (aCons (dC (D.int 0)) aNil)))) aNil)) (aCons (dTup (aCons (dC (D.int 1)) (aCons (dC (D.int 0)) (aCons (dC (D.int 0)) aNil)))) aNil)))))))) aNil)))))
def den_u_law_odd : FD := frzD (bodyD 1 1 b_u_law_odd)
theorem ok_u_law_odd (c : All K mg) : OkF P w K mg base "_law_odd" ["pen"] 4 den_u_law_odd := (okf c.d_u_law_odd sc_u_law_odd fun cdv A outer s H E f hr => by
  have hu := hu_of hr
  have nd : N_u_law_odd.Nodup := sc_u_law_odd.nd
  unfold b_u_law_odd
  exact (dss_cons (ds_set (i := 1) (de_lst (da_cons (de_non) (da_cons (de_bl) (da_cons (de_bl) (da_cons (de_int) (da_cons (de_int) (da_cons (de_neg (de_int)) (da_cons (de_int) (da_cons (de_int) (da_cons (de_op o_pow (de_int) (de_int)) (da_cons (de_str []) (da_cons (de_str [63]) (da_cons (de_str [97]) (da_cons (de_str [98, 97]) (da_cons (de_str [65]) (da_cons (de_tup da_nil) (da_cons (de_lst da_nil) (da_cons (de_dict0) (da_cons (de_tup (da_cons (de_int) da_nil)) (da_cons (de_tup (da_cons (de_int) (da_cons (de_int) da_nil))) (da_cons (de_lst (da_cons (de_int) da_nil)) da_nil))))))))))))))))))))) rfl (by first | exact Or.inl rfl | exact Or.inr rfl) nd)
  (dss_one (ds_ret (de_fun (ok_u_law_one_of c) hr (da_cons (de_var 0) (da_cons (de_op o_add (de_var 1) (de_lst (da_cons (de_tup (da_cons (de_tup (da_cons (de_int) (da_cons (de_int) da_nil))) da_nil)) (da_cons (de_tup (da_cons (de_int) (da_cons (de_int) da_nil))) (da_cons (de_tup (da_cons (de_str [97]) (da_cons (de_int) (da_cons (de_bl) da_nil)))) (da_cons (de_tup (da_cons (de_tup (da_cons (de_str [97, 98]) (da_cons (de_int) (da_cons (de_bl) da_nil)))) da_nil)) (da_cons (de_tup (da_cons (de_tup (da_cons (de_int) (da_cons (de_neg (de_int)) (da_cons (de_int) da_nil)))) da_nil)) (da_cons (de_tup (da_cons (de_int) (da_cons (de_int) (da_cons (de_int) da_nil)))) da_nil)))))))) da_nil))))))).frz
abbrev s_u_law_bent : Stmt := top 37
def N_u_law_bent : List Str := ["pen", "value", "k", "way", "some"]
theorem sc_u_law_bent : FnScope N_u_law_bent ["pen", "value"] (defScope s_u_law_bent) := ⟨rfl, rfl, rfl, by decide +kernel, rfl, by decide +kernel, by decide +kernel⟩
def b_u_law_bent (g : FD) : DenS := (sSeq (sIf (tAndD (tTru (dIsi .int (dVar 1))) (tAndD (tNotD (tTru (dIsi .bl (dVar 1)))) (asB (dOp2 fGt (dCallF den_u_law_take (aCons (dVar 0) (aCons (dC (D.int 3)) aNil))) (dC (D.int 0)))))) (sRet (dCallF den_u_law_one_of (aCons (dVar 0) (aCons (dLst (aCons (dOp2 fAdd (dVar 1) (dC (D.int 1))) (aCons (dOp2 fSub (dVar 1) (dC (D.int 1))) (aCons (dIf (asB (dChain fLe fLt (dC (D.int 0)) (dVar 1) (dC (D.int 2)))) (dOp2 fEqR (dVar 1) (dC (D.int 1))) (dNeg (dVar 1))) aNil)))) aNil)))) sNext)
  (sSeq (sIf (tOrD (tNotD (tTru (dIsi .tup (dVar 1)))) (tOrD (asB (dOp2 fEqR (dVar 1) (dTup aNil))) (asB (dOp2 fEqR (dCallF den_u_law_take (aCons (dVar 0) (aCons (dC (D.int 9)) aNil))) (dC (D.int 0)))))) (sRet (dCallF den_u_law_odd (aCons (dVar 0) aNil))) sNext)
  (sSeq (sPar 2 3 (aCons (dCallF den_u_law_take (aCons (dVar 0) (aCons (dCall (pure1 fLen) (aCons (dVar 1) aNil)) aNil))) (aCons (dCallF den_u_law_take (aCons (dVar 0) (aCons (dC (D.int 13)) aNil))) aNil)))
  (sSeq (sIf (asB (dOp2 fLt (dVar 3) (dC (D.int 8)))) (sRet (dOp2 fAdd (dOp2 fAdd (dSl (dVar 1) pNone (pSome (dVar 2))) (dTup (aCons (dCallF g (aCons (dVar 0) (aCons (dOp2 fIx (dVar 1) (dVar 2)) aNil))) aNil))) (dSl (dVar 1) (pSome (dOp2 fAdd (dVar 2) (dC (D.int 1)))) pNone))) sNext)
  (sSeq (sSet 4 (dLst (aCons (dOp2 fAdd (dSl (dVar 1) pNone (pSome (dVar 2))) (dSl (dVar 1) (pSome (dOp2 fAdd (dVar 2) (dC (D.int 1)))) pNone)) (aCons (dOp2 fAdd (dOp2 fAdd (dSl (dVar 1) pNone (pSome (dVar 2))) (dTup (aCons (dOp2 fIx (dVar 1) (dVar 2)) aNil))) (dSl (dVar 1) (pSome (dVar 2)) pNone)) (aCons (dCall (pure1 fListA) (aCons (dVar 1) aNil)) (aCons (dRevS (dVar 1)) (aCons (dOp2 fMul (dVar 1) (dC (D.int 2))) aNil)))))))
  (sRet (dOp2 fIx (dVar 4) (dOp2 fSub (dVar 3) (dC (D.int 8))))))))))
def rec_u_law_bent : Nat → FD
  | 0 => fun _ _ => none
  | n + 1 => frzD (bodyD 2 3 (b_u_law_bent (rec_u_law_bent n)))
theorem ok_rec_u_law_bent (c : All K mg) : ∀ n, OkF P w K mg base "_law_bent" ["pen", "value"] (4 + n) (rec_u_law_bent n)
  | 0 => okf_never c.d_u_law_bent
  | n + 1 => (okf c.d_u_law_bent sc_u_law_bent fun cdv A outer s H E f hr => by
    have hg := ok_rec_u_law_bent c n
    have hr : RoomG (4 + n) _ := hr
    have hu := hu_of hr
    have nd : N_u_law_bent.Nodup := sc_u_law_bent.nd
    unfold b_u_law_bent
    exact (dss_cons (ds_if (dt_w (dw_and (dt_tru (de_isi c.n_isinstance c.n_int (de_var 1))) (dw_and (dt_not (dt_tru (de_isi c.n_isinstance c.n_bool (de_var 1)))) (dw_and1 (dt_cmp o_gt (de_fun (hj := by omega) (ok_u_law_take c) hr (da_cons (de_var 0) (da_cons (de_int) da_nil))) (de_int)))))) (dss_one (ds_ret (de_fun (hj := by omega) (ok_u_law_one_of c) hr (da_cons (de_var 0) (da_cons (de_lst (da_cons (de_op o_add (de_var 1) (de_int)) (da_cons (de_op o_sub (de_var 1) (de_int)) (da_cons (de_if (dt_chain o_le (o_lt hu) (de_int) (de_var 1) (de_int)) (de_cmp (o_eqR hu) (de_var 1) (de_int)) (de_neg (de_var 1))) da_nil)))) da_nil))))) dss_nil)
  (dss_cons (ds_if (dt_w (dw_or (dt_not (dt_tru (de_isi c.n_isinstance c.n_tuple (de_var 1)))) (dw_or (dt_cmp (o_eqR hu) (de_var 1) (de_tup da_nil)) (dw_or1 (dt_cmp (o_eqR hu) (de_fun (hj := by omega) (ok_u_law_take c) hr (da_cons (de_var 0) (da_cons (de_int) da_nil))) (de_int)))))) (dss_one (ds_ret (de_fun (hj := by omega) (ok_u_law_odd c) hr (da_cons (de_var 0) da_nil)))) dss_nil)
  (dss_cons (ds_par (i := 2) (j := 3) (da_cons (de_fun (hj := by omega) (ok_u_law_take c) hr (da_cons (de_var 0) (da_cons (de_callB c_len c.n_len (da_cons (de_var 1) da_nil)) da_nil))) (da_cons (de_fun (hj := by omega) (ok_u_law_take c) hr (da_cons (de_var 0) (da_cons (de_int) da_nil))) da_nil)) rfl rfl (by decide) rfl rfl rfl nd)
  (dss_cons (ds_if (dt_cmp (o_lt hu) (de_var 3) (de_int)) (dss_one (ds_ret (de_op o_add (de_op o_add (de_slice (de_var 1) dp_none (dp_some (de_var 2))) (de_tup (da_cons (de_fun (hj := by omega) hg hr (da_cons (de_var 0) (da_cons (de_ix (de_var 1) (de_var 2)) da_nil))) da_nil))) (de_slice (de_var 1) (dp_some (de_op o_add (de_var 2) (de_int))) dp_none)))) dss_nil)
  (dss_cons (ds_set (i := 4) (de_lst (da_cons (de_op o_add (de_slice (de_var 1) dp_none (dp_some (de_var 2))) (de_slice (de_var 1) (dp_some (de_op o_add (de_var 2) (de_int))) dp_none)) (da_cons (de_op o_add (de_op o_add (de_slice (de_var 1) dp_none (dp_some (de_var 2))) (de_tup (da_cons (de_ix (de_var 1) (de_var 2)) da_nil))) (de_slice (de_var 1) (dp_some (de_var 2)) dp_none)) (da_cons (de_callT (c_listA rfl) c.n_list (da_cons (de_var 1) da_nil)) (da_cons (de_revS (de_var 1)) (da_cons (de_op o_mul (de_var 1) (de_int)) da_nil)))))) rfl (by first | exact Or.inl rfl | exact Or.inr rfl) nd)
  (dss_one (ds_ret (de_ix (de_var 4) (de_op o_sub (de_var 3) (de_int))))))))))).frz
def den_u_law_bent : FD := rec_u_law_bent 8
theorem ok_u_law_bent (c : All K mg) : OkF P w K mg base "_law_bent" ["pen", "value"] 12 den_u_law_bent := ok_rec_u_law_bent c 8
abbrev s_u_law_edges : Stmt := top 55
def N_u_law_edges : List Str := ["some"]
theorem sc_u_law_edges : FnScope N_u_law_edges [] (defScope s_u_law_edges) := ⟨rfl, rfl, rfl, by decide +kernel, rfl, by decide +kernel, by decide +kernel⟩
def b_u_law_edges : DenS := (sSeq (sSet 0 (dLst (aCons (dTup (aCons (dTup (aCons (dC (D.str [97, 98, 99, 100, 101, 102, 103])) (aCons (dC (D.int 6)) (aCons (dC (D.bl false)) aNil)))) (aCons (dTup (aCons (dC (D.str [97])) (aCons (dC (D.int 0)) (aCons (dC (D.bl false)) aNil)))) aNil))) (aCons (dTup (aCons (dTup (aCons (dC (D.str [97, 98, 99, 100, 101, 102, 103, 104, 105])) (aCons (dC (D.int 0)) (aCons (dC (D.bl false)) aNil)))) (aCons (dTup (aCons (dC (D.str [97, 97, 97, 97, 97, 97, 97, 97, 97])) (aCons (dC (D.int 0)) (aCons (dC (D.bl false)) aNil)))) aNil))) aNil))))
  (sSeq (sSet 0 (dOp2 fAdd (dVar 0) (dLst (aCons (dTup (aCons (dTup (aCons (dC (D.str [97, 98, 99, 100, 101])) (aCons (dC (D.int 4)) (aCons (dC (D.bl true)) aNil)))) (aCons (dTup (aCons (dC (D.str [97])) (aCons (dC (D.int 0)) (aCons (dC (D.bl false)) aNil)))) aNil))) (aCons (dTup (aCons (dTup (aCons (dC (D.str [97, 98, 99, 100, 101, 102, 103, 104, 105, 106])) (aCons (dC (D.int 9)) (aCons (dC (D.bl false)) aNil)))) aNil)) (aCons (dTup (aCons (dTup (aCons (dC (D.str [97, 98, 99, 100, 101, 102, 103, 104, 105, 106])) (aCons (dC (D.int 8)) (aCons (dC (D.bl false)) aNil)))) aNil)) aNil))))))
  (sSeq (sSet 0 (dOp2 fAdd (dVar 0) (dLst (aCons (dOp2 fMul (dTup (aCons (dTup (aCons (dC (D.str [97])) (aCons (dC (D.int 1)) (aCons (dC (D.bl false)) aNil)))) aNil)) (dC (D.int 4))) (aCons (dOp2 fMul (dTup (aCons (dTup (aCons (dC (D.str [97])) (aCons (dC (D.int 0)) (aCons (dC (D.bl false)) aNil)))) aNil)) (dC (D.int 5))) (aCons (dTup (aCons (dTup (aCons (dC (D.str [97, 98, 99, 100, 101, 102, 103, 104, 105, 106, 107])) (aCons (dC (D.int 0)) (aCons (dC (D.bl false)) aNil)))) aNil)) (aCons (dTup (aCons (dTup (aCons (dC (D.str [])) (aCons (dC (D.int 0)) (aCons (dC (D.bl false)) aNil)))) aNil)) (aCons (dTup aNil) aNil))))))))
  (sRet (dOp2 fAdd (dVar 0) (dLst (aCons (dTup (aCons (dTup (aCons (dC (D.str [97, 98, 99, 100])) (aCons (dC (D.int 4)) (aCons (dC (D.bl false)) aNil)))) (aCons (dTup (aCons (dC (D.str [97, 98, 99])) (aCons (dC (D.int 0)) (aCons (dC (D.bl false)) aNil)))) aNil))) (aCons (dTup (aCons (dTup (aCons (dC (D.str [97, 98, 99, 100])) (aCons (dC (D.int 4)) (aCons (dC (D.bl false)) aNil)))) (aCons (dTup (aCons (dC (D.str [97, 98, 99, 100])) (aCons (dC (D.int 0)) (aCons (dC (D.bl false)) aNil)))) aNil))) (aCons (dTup (aCons (dTup (aCons (dC (D.str [98])) (aCons (dC (D.int 2)) (aCons (dC (D.bl true)) aNil)))) aNil)) aNil)))))))))
def den_u_law_edges : FD := frzD (bodyD 0 1 b_u_law_edges)
theorem ok_u_law_edges (c : All K mg) : OkF P w K mg base "_law_edges" [] 1 den_u_law_edges := (okf c.d_u_law_edges sc_u_law_edges fun cdv A outer s H E f hr => by
  have hu := hu_of hr
  have nd : N_u_law_edges.Nodup := sc_u_law_edges.nd
  unfold b_u_law_edges
  exact (dss_cons (ds_set (i := 0) (de_lst (da_cons (de_tup (da_cons (de_tup (da_cons (de_str [97, 98, 99, 100, 101, 102, 103]) (da_cons (de_int) (da_cons (de_bl) da_nil)))) (da_cons (de_tup (da_cons (de_str [97]) (da_cons (de_int) (da_cons (de_bl) da_nil)))) da_nil))) (da_cons (de_tup (da_cons (de_tup (da_cons (de_str [97, 98, 99, 100, 101, 102, 103, 104, 105]) (da_cons (de_int) (da_cons (de_bl) da_nil)))) (da_cons (de_tup (da_cons (de_str [97, 97, 97, 97, 97, 97, 97, 97, 97]) (da_cons (de_int) (da_cons (de_bl) da_nil)))) da_nil))) da_nil))) rfl (by first | exact Or.inl rfl | exact Or.inr rfl) nd)
  (dss_cons (ds_set (i := 0) (de_op o_add (de_var 0) (de_lst (da_cons (de_tup (da_cons (de_tup (da_cons (de_str [97, 98, 99, 100, 101]) (da_cons (de_int) (da_cons (de_bl) da_nil)))) (da_cons (de_tup (da_cons (de_str [97]) (da_cons (de_int) (da_cons (de_bl) da_nil)))) da_nil))) (da_cons (de_tup (da_cons (de_tup (da_cons (de_str [97, 98, 99, 100, 101, 102, 103, 104, 105, 106]) (da_cons (de_int) (da_cons (de_bl) da_nil)))) da_nil)) (da_cons (de_tup (da_cons (de_tup (da_cons (de_str [97, 98, 99, 100, 101, 102, 103, 104, 105, 106]) (da_cons (de_int) (da_cons (de_bl) da_nil)))) da_nil)) da_nil))))) rfl (by first | exact Or.inl rfl | exact Or.inr rfl) nd)
  (dss_cons (ds_set (i := 0) (de_op o_add (de_var 0) (de_lst (da_cons (de_op o_mul (de_tup (da_cons (de_tup (da_cons (de_str [97]) (da_cons (de_int) (da_cons (de_bl) da_nil)))) da_nil)) (de_int)) (da_cons (de_op o_mul (de_tup (da_cons (de_tup (da_cons (de_str [97]) (da_cons (de_int) (da_cons (de_bl) da_nil)))) da_nil)) (de_int)) (da_cons (de_tup (da_cons (de_tup (da_cons (de_str [97, 98, 99, 100, 101, 102, 103, 104, 105, 106, 107]) (da_cons (de_int) (da_cons (de_bl) da_nil)))) da_nil)) (da_cons (de_tup (da_cons (de_tup (da_cons (de_str []) (da_cons (de_int) (da_cons (de_bl) da_nil)))) da_nil)) (da_cons (de_tup da_nil) da_nil))))))) rfl (by first | exact Or.inl rfl | exact Or.inr rfl) nd)
  (dss_one (ds_ret (de_op o_add (de_var 0) (de_lst (da_cons (de_tup (da_cons (de_tup (da_cons (de_str [97, 98, 99, 100]) (da_cons (de_int) (da_cons (de_bl) da_nil)))) (da_cons (de_tup (da_cons (de_str [97, 98, 99]) (da_cons (de_int) (da_cons (de_bl) da_nil)))) da_nil))) (da_cons (de_tup (da_cons (de_tup (da_cons (de_str [97, 98, 99, 100]) (da_cons (de_int) (da_cons (de_bl) da_nil)))) (da_cons (de_tup (da_cons (de_str [97, 98, 99, 100]) (da_cons (de_int) (da_cons (de_bl) da_nil)))) da_nil))) (da_cons (de_tup (da_cons (de_tup (da_cons (de_str [98]) (da_cons (de_int) (da_cons (de_bl) da_nil)))) da_nil)) da_nil))))))))))).frz
abbrev s_u_law_near : Stmt := top 56
def N_u_law_near : List Str := ["pen", "watch", "way", "k", "signs", "loss", "turns", "odd", "low", "high", "j", "sign"]
theorem sc_u_law_near : FnScope N_u_law_near ["pen", "watch"] (defScope s_u_law_near) := ⟨rfl, rfl, rfl, by decide +kernel, rfl, by decide +kernel, by decide +kernel⟩
def b_u_law_near : DenS := (sSeq (sPar 2 3 (aCons (dCallF den_u_law_take (aCons (dVar 0) (aCons (dC (D.int 6)) aNil))) (aCons (dCallF den_u_law_take (aCons (dVar 0) (aCons (dCall (pure1 fLen) (aCons (dOp2 fIx (dVar 1) (dC (D.int 0))) aNil)) aNil))) aNil)))
  (sSeq (sAsg (dOp2 fIx (dOp2 fIx (dVar 1) (dC (D.int 0))) (dVar 3)) (gUn 3 (gsCons (gN 4) (gsCons (gN 5) (gsCons (gN 6) gsNil)))))
  (sSeq (sIf (asB (dOp2 fEqR (dVar 2) (dC (D.int 0)))) (sRet (dTup (aCons (dCallF den_u_law_one_of (aCons (dVar 0) (aCons (dCallF den_u_law_edges aNil) aNil))) (aCons (dC (D.int 0)) (aCons (dC (D.int 16)) aNil))))) sNext)
  (sSeq (sIf (asB (dOp2 fEqR (dVar 2) (dC (D.int 1)))) (sSeq (sSet 7 (dLst (aCons (dTup (aCons (dC (D.int 0)) (aCons (dC (D.int 0)) aNil))) (aCons (dTup (aCons (dC (D.int 16)) (aCons (dC (D.int 16)) aNil))) (aCons (dTup (aCons (dC (D.int 0)) (aCons (dC (D.int 17)) aNil))) (aCons (dTup (aCons (dNeg (dC (D.int 1))) (aCons (dC (D.int 16)) aNil))) (aCons (dTup (aCons (dC (D.int 17)) (aCons (dC (D.int 17)) aNil))) (aCons (dTup (aCons (dC (D.int 5)) (aCons (dC (D.int 4)) aNil))) (aCons (dTup (aCons (dC (D.int 4)) (aCons (dC (D.int 5)) aNil))) (aCons (dTup (aCons (dC (D.bl true)) (aCons (dC (D.int 16)) aNil))) (aCons (dTup (aCons (dC (D.int 0)) (aCons (dC (D.bl true)) aNil))) (aCons (dTup (aCons (dC (D.int 1)) (aCons (dC (D.int 1)) aNil))) (aCons (dTup (aCons (dC D.non) (aCons (dC (D.int 3)) aNil))) aNil)))))))))))))
  (sSeq (sAsg (dCallF den_u_law_one_of (aCons (dVar 0) (aCons (dVar 7) aNil))) (gUn 2 (gsCons (gN 8) (gsCons (gN 9) gsNil))))
  (sRet (dTup (aCons (dOp2 fIx (dVar 1) (dC (D.int 0))) (aCons (dVar 8) (aCons (dVar 9) aNil))))))) sNext)
  (sSeq (sIf (asB (dOp2 fEqR (dVar 2) (dC (D.int 2)))) (sSeq (sSet 7 (dLst (aCons (dTup (aCons (dVar 4) (aCons (dCall (pure1 fLen) (aCons (dVar 4) aNil)) (aCons (dVar 6) aNil)))) (aCons (dTup (aCons (dVar 4) (aCons (dOp2 fAdd (dCall (pure1 fLen) (aCons (dVar 4) aNil)) (dC (D.int 1))) (aCons (dVar 6) aNil)))) (aCons (dTup (aCons (dVar 4) (aCons (dNeg (dC (D.int 1))) (aCons (dVar 6) aNil)))) (aCons (dTup (aCons (dVar 4) (aCons (dVar 5) (aCons (dNot (dVar 6)) aNil)))) aNil))))))
  (sSeq (sSet 7 (dOp2 fAdd (dVar 7) (dLst (aCons (dTup (aCons (dVar 4) (aCons (dVar 5) (aCons (dCall (pure1 fInt) (aCons (dVar 6) aNil)) aNil)))) (aCons (dTup (aCons (dVar 4) (aCons (dOp2 fEqR (dVar 5) (dC (D.int 1))) (aCons (dVar 6) aNil)))) (aCons (dTup (aCons (dOp2 fAdd (dVar 4) (dC (D.str [97]))) (aCons (dVar 5) (aCons (dVar 6) aNil)))) (aCons (dTup (aCons (dVar 4) (aCons (dVar 5) aNil))) aNil)))))))
  (sSeq (sSet 7 (dOp2 fAdd (dVar 7) (dLst (aCons (dTup (aCons (dOp2 fAdd (dVar 4) (dC (D.str [65]))) (aCons (dVar 5) (aCons (dVar 6) aNil)))) (aCons (dTup (aCons (dCall (pure1 fListA) (aCons (dVar 4) aNil)) (aCons (dVar 5) (aCons (dVar 6) aNil)))) (aCons (dLst (aCons (dVar 4) (aCons (dVar 5) (aCons (dVar 6) aNil)))) (aCons (dTup (aCons (dVar 4) (aCons (dC D.non) (aCons (dVar 6) aNil)))) aNil)))))))
  (sSeq (sSet 7 (dOp2 fAdd (dVar 7) (dLst (aCons (dTup (aCons (dSl (dVar 4) (pSome (dC (D.int 1))) pNone) (aCons (dVar 5) (aCons (dVar 6) aNil)))) (aCons (dTup (aCons (dOp2 fAdd (dVar 4) (dC (D.str [63]))) (aCons (dVar 5) (aCons (dVar 6) aNil)))) (aCons (dTup (aCons (dVar 4) (aCons (dVar 5) (aCons (dVar 6) (aCons (dC (D.int 0)) aNil))))) aNil))))))
  (sSeq (sSet 10 (dCallF den_u_law_take (aCons (dVar 0) (aCons (dCall (pure1 fLen) (aCons (dVar 4) aNil)) aNil))))
  (sSeq (sSet 7 (dOp2 fAdd (dVar 7) (dComp (iOf (dCall (pure1 fListA) (aCons (dC (D.str [65, 63, 123, 49, 32, 95, 90])) aNil))) (gN 11) tYesD (dTup (aCons (dOp2 fAdd (dOp2 fAdd (dSl (dVar 4) pNone (pSome (dVar 10))) (dVar 11)) (dSl (dVar 4) (pSome (dOp2 fAdd (dVar 10) (dC (D.int 1)))) pNone)) (aCons (dVar 5) (aCons (dVar 6) aNil)))) [11])))
  (sRet (dTup (aCons (dOp2 fAdd (dOp2 fAdd (dSl (dOp2 fIx (dVar 1) (dC (D.int 0))) pNone (pSome (dVar 3))) (dTup (aCons (dCallF den_u_law_one_of (aCons (dVar 0) (aCons (dVar 7) aNil))) aNil))) (dSl (dOp2 fIx (dVar 1) (dC (D.int 0))) (pSome (dOp2 fAdd (dVar 3) (dC (D.int 1)))) pNone)) (aCons (dOp2 fIx (dVar 1) (dC (D.int 1))) (aCons (dOp2 fIx (dVar 1) (dC (D.int 2))) aNil))))))))))) sNext)
  (sSeq (sIf (asB (dOp2 fEqR (dVar 2) (dC (D.int 3)))) (sRet (dCallF den_u_law_one_of (aCons (dVar 0) (aCons (dLst (aCons (dCall (pure1 fListA) (aCons (dVar 1) aNil)) (aCons (dSl (dVar 1) pNone (pSome (dC (D.int 2)))) (aCons (dOp2 fAdd (dVar 1) (dTup (aCons (dC (D.int 0)) aNil))) (aCons (dTup (aCons (dCall (pure1 fListA) (aCons (dOp2 fIx (dVar 1) (dC (D.int 0))) aNil)) (aCons (dC (D.int 0)) (aCons (dC (D.int 16)) aNil)))) (aCons (dOp2 fIx (dVar 1) (dC (D.int 0))) (aCons (dRevS (dVar 1)) aNil))))))) aNil)))) sNext)
  (sRet (dIf (asB (dOp2 fEqR (dVar 2) (dC (D.int 4)))) (dCallF den_u_law_bent (aCons (dVar 0) (aCons (dVar 1) aNil))) (dCallF den_u_law_odd (aCons (dVar 0) aNil))))))))))
def den_u_law_near : FD := frzD (bodyD 2 10 b_u_law_near)
theorem ok_u_law_near (c : All K mg) : OkF P w K mg base "_law_near" ["pen", "watch"] 13 den_u_law_near := (okf c.d_u_law_near sc_u_law_near fun cdv A outer s H E f hr => by
  have hu := hu_of hr
  have nd : N_u_law_near.Nodup := sc_u_law_near.nd
  unfold b_u_law_near
  exact (dss_cons (ds_par (i := 2) (j := 3) (da_cons (de_fun (ok_u_law_take c) hr (da_cons (de_var 0) (da_cons (de_int) da_nil))) (da_cons (de_fun (ok_u_law_take c) hr (da_cons (de_var 0) (da_cons (de_callB c_len c.n_len (da_cons (de_ix (de_var 1) (de_int)) da_nil)) da_nil))) da_nil)) rfl rfl (by decide) rfl rfl rfl nd)
  (dss_cons (ds_asg (vs := [4, 5, 6]) (de_ix (de_ix (de_var 1) (de_int)) (de_var 3)) (dg_tup (dgs_cons (dg_name (i := 4) rfl (by first | exact Or.inl rfl | exact Or.inr rfl)) (dgs_cons (dg_name (i := 5) rfl (by first | exact Or.inl rfl | exact Or.inr rfl)) (dgs_cons (dg_name (i := 6) rfl (by first | exact Or.inl rfl | exact Or.inr rfl)) dgs_nil)))))
  (dss_cons (ds_if (dt_cmp (o_eqR hu) (de_var 2) (de_int)) (dss_one (ds_ret (de_tup (da_cons (de_fun (ok_u_law_one_of c) hr (da_cons (de_var 0) (da_cons (de_fun0 (ok_u_law_edges c) hr) da_nil))) (da_cons (de_int) (da_cons (de_int) da_nil)))))) dss_nil)
  (dss_cons (ds_if (dt_cmp (o_eqR hu) (de_var 2) (de_int)) (dss_cons (ds_set (i := 7) (de_lst (da_cons (de_tup (da_cons (de_int) (da_cons (de_int) da_nil))) (da_cons (de_tup (da_cons (de_int) (da_cons (de_int) da_nil))) (da_cons (de_tup (da_cons (de_int) (da_cons (de_int) da_nil))) (da_cons (de_tup (da_cons (de_neg (de_int)) (da_cons (de_int) da_nil))) (da_cons (de_tup (da_cons (de_int) (da_cons (de_int) da_nil))) (da_cons (de_tup (da_cons (de_int) (da_cons (de_int) da_nil))) (da_cons (de_tup (da_cons (de_int) (da_cons (de_int) da_nil))) (da_cons (de_tup (da_cons (de_bl) (da_cons (de_int) da_nil))) (da_cons (de_tup (da_cons (de_int) (da_cons (de_bl) da_nil))) (da_cons (de_tup (da_cons (de_int) (da_cons (de_int) da_nil))) (da_cons (de_tup (da_cons (de_non) (da_cons (de_int) da_nil))) da_nil)))))))))))) rfl (by first | exact Or.inl rfl | exact Or.inr rfl) nd)
  (dss_cons (ds_asg (vs := [8, 9]) (de_fun (ok_u_law_one_of c) hr (da_cons (de_var 0) (da_cons (de_var 7) da_nil))) (dg_tup (dgs_cons (dg_name (i := 8) rfl (by first | exact Or.inl rfl | exact Or.inr rfl)) (dgs_cons (dg_name (i := 9) rfl (by first | exact Or.inl rfl | exact Or.inr rfl)) dgs_nil))))
  (dss_one (ds_ret (de_tup (da_cons (de_ix (de_var 1) (de_int)) (da_cons (de_var 8) (da_cons (de_var 9) da_nil)))))))) dss_nil)
  (dss_cons (ds_if (dt_cmp (o_eqR hu) (de_var 2) (de_int)) (dss_cons (ds_set (i := 7) (de_lst (da_cons (de_tup (da_cons (de_var 4) (da_cons (de_callB c_len c.n_len (da_cons (de_var 4) da_nil)) (da_cons (de_var 6) da_nil)))) (da_cons (de_tup (da_cons (de_var 4) (da_cons (de_op o_add (de_callB c_len c.n_len (da_cons (de_var 4) da_nil)) (de_int)) (da_cons (de_var 6) da_nil)))) (da_cons (de_tup (da_cons (de_var 4) (da_cons (de_neg (de_int)) (da_cons (de_var 6) da_nil)))) (da_cons (de_tup (da_cons (de_var 4) (da_cons (de_var 5) (da_cons (de_not (de_var 6)) da_nil)))) da_nil))))) rfl (by first | exact Or.inl rfl | exact Or.inr rfl) nd)
  (dss_cons (ds_set (i := 7) (de_op o_add (de_var 7) (de_lst (da_cons (de_tup (da_cons (de_var 4) (da_cons (de_var 5) (da_cons (de_callT c_int c.n_int (da_cons (de_var 6) da_nil)) da_nil)))) (da_cons (de_tup (da_cons (de_var 4) (da_cons (de_cmp (o_eqR hu) (de_var 5) (de_int)) (da_cons (de_var 6) da_nil)))) (da_cons (de_tup (da_cons (de_op o_add (de_var 4) (de_str [97])) (da_cons (de_var 5) (da_cons (de_var 6) da_nil)))) (da_cons (de_tup (da_cons (de_var 4) (da_cons (de_var 5) da_nil))) da_nil)))))) rfl (by first | exact Or.inl rfl | exact Or.inr rfl) nd)
  (dss_cons (ds_set (i := 7) (de_op o_add (de_var 7) (de_lst (da_cons (de_tup (da_cons (de_op o_add (de_var 4) (de_str [65])) (da_cons (de_var 5) (da_cons (de_var 6) da_nil)))) (da_cons (de_tup (da_cons (de_callT (c_listA rfl) c.n_list (da_cons (de_var 4) da_nil)) (da_cons (de_var 5) (da_cons (de_var 6) da_nil)))) (da_cons (de_lst (da_cons (de_var 4) (da_cons (de_var 5) (da_cons (de_var 6) da_nil)))) (da_cons (de_tup (da_cons (de_var 4) (da_cons (de_non) (da_cons (de_var 6) da_nil)))) da_nil)))))) rfl (by first | exact Or.inl rfl | exact Or.inr rfl) nd)
  (dss_cons (ds_set (i := 7) (de_op o_add (de_var 7) (de_lst (da_cons (de_tup (da_cons (de_slice (de_var 4) (dp_some (de_int)) dp_none) (da_cons (de_var 5) (da_cons (de_var 6) da_nil)))) (da_cons (de_tup (da_cons (de_op o_add (de_var 4) (de_str [63])) (da_cons (de_var 5) (da_cons (de_var 6) da_nil)))) (da_cons (de_tup (da_cons (de_var 4) (da_cons (de_var 5) (da_cons (de_var 6) (da_cons (de_int) da_nil))))) da_nil))))) rfl (by first | exact Or.inl rfl | exact Or.inr rfl) nd)
  (dss_cons (ds_set (i := 10) (de_fun (ok_u_law_take c) hr (da_cons (de_var 0) (da_cons (de_callB c_len c.n_len (da_cons (de_var 4) da_nil)) da_nil))) rfl (by first | exact Or.inl rfl | exact Or.inr rfl) nd)
  (dss_cons (ds_set (i := 7) (de_op o_add (de_var 7) (de_cm (di_of (de_callT (c_listA rfl) c.n_list (da_cons (de_str [65, 63, 123, 49, 32, 95, 90]) da_nil))) (blkOk_by (own := [("sign", 11)]) (by rfl)) rfl nd (fun _ _ _ _ _ => (dg_name (i := 11) rfl (by first | exact Or.inl rfl | exact Or.inr rfl))) (fun _ _ _ _ _ => dts_nil) (fun _ _ _ _ _ => (de_tup (da_cons (de_op o_add (de_op o_add (de_slice (de_var 4) dp_none (dp_some (de_var 10))) (de_var 11)) (de_slice (de_var 4) (dp_some (de_op o_add (de_var 10) (de_int))) dp_none)) (da_cons (de_var 5) (da_cons (de_var 6) da_nil))))))) rfl (by first | exact Or.inl rfl | exact Or.inr rfl) nd)
  (dss_one (ds_ret (de_tup (da_cons (de_op o_add (de_op o_add (de_slice (de_ix (de_var 1) (de_int)) dp_none (dp_some (de_var 3))) (de_tup (da_cons (de_fun (ok_u_law_one_of c) hr (da_cons (de_var 0) (da_cons (de_var 7) da_nil))) da_nil))) (de_slice (de_ix (de_var 1) (de_int)) (dp_some (de_op o_add (de_var 3) (de_int))) dp_none)) (da_cons (de_ix (de_var 1) (de_int)) (da_cons (de_ix (de_var 1) (de_int)) da_nil)))))))))))) dss_nil)
  (dss_cons (ds_if (dt_cmp (o_eqR hu) (de_var 2) (de_int)) (dss_one (ds_ret (de_fun (ok_u_law_one_of c) hr (da_cons (de_var 0) (da_cons (de_lst (da_cons (de_callT (c_listA rfl) c.n_list (da_cons (de_var 1) da_nil)) (da_cons (de_slice (de_var 1) dp_none (dp_some (de_int))) (da_cons (de_op o_add (de_var 1) (de_tup (da_cons (de_int) da_nil))) (da_cons (de_tup (da_cons (de_callT (c_listA rfl) c.n_list (da_cons (de_ix (de_var 1) (de_int)) da_nil)) (da_cons (de_int) (da_cons (de_int) da_nil)))) (da_cons (de_ix (de_var 1) (de_int)) (da_cons (de_revS (de_var 1)) da_nil))))))) da_nil))))) dss_nil)
  (dss_one (ds_ret (de_if (dt_cmp (o_eqR hu) (de_var 2) (de_int)) (de_fun (ok_u_law_bent c) hr (da_cons (de_var 0) (da_cons (de_var 1) da_nil))) (de_fun (ok_u_law_odd c) hr (da_cons (de_var 0) da_nil)))))))))))).frz
abbrev s_first_row_of : Stmt := top 19
def N_first_row_of : List Str := ["case", "reel"]
theorem sc_first_row_of : FnScope N_first_row_of ["case"] (defScope s_first_row_of) := ⟨rfl, rfl, rfl, by decide +kernel, rfl, by decide +kernel, by decide +kernel⟩
def b_first_row_of : DenS := (sRet (dTup (aCons (dCall (pure1 fTuple) (aCons (dComp (iOf (dOp2 fIx (dVar 0) (dC (D.int 0)))) (gN 1) tYesD (dC (D.tup [(D.int 0), (D.int (-1)), (D.int 0)])) [1]) aNil)) (aCons (dTup aNil) aNil))))
def den_first_row_of : FD := frzD (bodyD 1 1 b_first_row_of)
theorem ok_first_row_of (c : All K mg) : OkF P w K mg base "first_row_of" ["case"] 1 den_first_row_of := (okf c.d_first_row_of sc_first_row_of fun cdv A outer s H E f hr => by
  have hu := hu_of hr
  have nd : N_first_row_of.Nodup := sc_first_row_of.nd
  unfold b_first_row_of
  exact (dss_one (ds_ret (de_tup (da_cons (de_callT c_tuple c.n_tuple (da_cons (de_cm (di_of (de_ix (de_var 0) (de_int))) (blkOk_by (own := [("reel", 1)]) (by rfl)) rfl nd (fun _ _ _ _ _ => (dg_name (i := 1) rfl (by first | exact Or.inl rfl | exact Or.inr rfl))) (fun _ _ _ _ _ => dts_nil) (fun _ _ _ _ _ => (de_gc (c.EMPTY_RUN _ _)))) da_nil)) (da_cons (de_tup da_nil) da_nil)))))).frz
abbrev s_kept_after : Stmt := top 18
def den_kept_after : FD := fun _ _ => none
theorem ok_kept_after (c : All K mg) : OkF P w K mg base "kept_after" ["case", "k", "kept", "reel"] 1 den_kept_after := okf_never c.d_kept_after
abbrev s_last_frame : Stmt := top 16
def den_last_frame : FD := fun _ _ => none
theorem ok_last_frame (c : All K mg) : OkF P w K mg base "last_frame" ["saying"] 1 den_last_frame := okf_never c.d_last_frame
abbrev s_holds : Stmt := top 17
def den_holds : FD := fun _ _ => none
theorem ok_holds (c : All K mg) : OkF P w K mg base "holds" ["saying", "reel", "kept"] 1 den_holds := okf_never c.d_holds
abbrev s_fits : Stmt := top 10
def N_fits : List Str := ["sign", "frame"]
theorem sc_fits : FnScope N_fits ["sign", "frame"] (defScope s_fits) := ⟨rfl, rfl, rfl, by decide +kernel, rfl, by decide +kernel, by decide +kernel⟩
def b_fits : DenS := (sRet ((dOr (dOp2 fEqR (dVar 1) (dC (D.str [63]))) (dOp2 fIn (dVar 0) (dVar 1)))))
def den_fits : FD := frzD (bodyD 2 0 b_fits)
theorem ok_fits (c : All K mg) : OkF P w K mg base "fits" ["sign", "frame"] 1 den_fits := (okf c.d_fits sc_fits fun cdv A outer s H E f hr => by
  have hu := hu_of hr
  have nd : N_fits.Nodup := sc_fits.nd
  unfold b_fits
  exact (dss_one (ds_ret ((de_or (de_cmp (o_eqR hu) (de_var 1) (de_str [63])) (de_one (de_cmp (o_in hu) (de_var 0) (de_var 1)))))))).frz
abbrev s_left_out : Stmt := top 13
def N_left_out : List Str := ["reel", "run", "signs", "loss", "turns", "used", "last", "way"]
theorem sc_left_out : FnScope N_left_out ["reel", "run"] (defScope s_left_out) := ⟨rfl, rfl, rfl, by decide +kernel, rfl, by decide +kernel, by decide +kernel⟩
def b_left_out : DenS := (sSeq (sAsg (dVar 0) (gUn 3 (gsCons (gN 2) (gsCons (gN 3) (gsCons (gN 4) gsNil)))))
  (sSeq (sAsg (dVar 1) (gUn 3 (gsCons (gN 5) (gsCons (gN 6) (gsCons (gN 7) gsNil)))))
  (sSeq (sIf (asB (dOp2 fEqR (dVar 5) (dC (D.int 0)))) (sRet (dC (D.int 0))) sNext)
  (sSeq (sIf (asB (dOp2 fEqR (dVar 5) (dC (D.int 1)))) (sRet (dIf (tTru (dVar 4)) (dCall (pure2 fMin2) (aCons (dVar 6) (aCons (dOp2 fSub (dOp2 fSub (dCall (pure1 fLen) (aCons (dVar 2) aNil)) (dC (D.int 1))) (dVar 6)) aNil))) (dVar 6))) sNext)
  (sRet (dIf (asB (dOp2 fEqR (dVar 7) (dC (D.int 1)))) (dOp2 fSub (dOp2 fAdd (dVar 6) (dC (D.int 1))) (dVar 5)) (dOp2 fSub (dOp2 fSub (dCall (pure1 fLen) (aCons (dVar 2) aNil)) (dVar 6)) (dVar 5))))))))
def den_left_out : FD := frzD (bodyD 2 6 b_left_out)
theorem ok_left_out (c : All K mg) : OkF P w K mg base "left_out" ["reel", "run"] 1 den_left_out := (okf c.d_left_out sc_left_out fun cdv A outer s H E f hr => by
  have hu := hu_of hr
  have nd : N_left_out.Nodup := sc_left_out.nd
  unfold b_left_out
  exact (dss_cons (ds_asg (vs := [2, 3, 4]) (de_var 0) (dg_tup (dgs_cons (dg_name (i := 2) rfl (by first | exact Or.inl rfl | exact Or.inr rfl)) (dgs_cons (dg_name (i := 3) rfl (by first | exact Or.inl rfl | exact Or.inr rfl)) (dgs_cons (dg_name (i := 4) rfl (by first | exact Or.inl rfl | exact Or.inr rfl)) dgs_nil)))))
  (dss_cons (ds_asg (vs := [5, 6, 7]) (de_var 1) (dg_tup (dgs_cons (dg_name (i := 5) rfl (by first | exact Or.inl rfl | exact Or.inr rfl)) (dgs_cons (dg_name (i := 6) rfl (by first | exact Or.inl rfl | exact Or.inr rfl)) (dgs_cons (dg_name (i := 7) rfl (by first | exact Or.inl rfl | exact Or.inr rfl)) dgs_nil)))))
  (dss_cons (ds_if (dt_cmp (o_eqR hu) (de_var 5) (de_int)) (dss_one (ds_ret (de_int))) dss_nil)
  (dss_cons (ds_if (dt_cmp (o_eqR hu) (de_var 5) (de_int)) (dss_one (ds_ret (de_if (dt_tru (de_var 4)) (de_callB (c_min2 rfl) c.n_min (da_cons (de_var 6) (da_cons (de_op o_sub (de_op o_sub (de_callB c_len c.n_len (da_cons (de_var 2) da_nil)) (de_int)) (de_var 6)) da_nil))) (de_var 6)))) dss_nil)
  (dss_one (ds_ret (de_if (dt_cmp (o_eqR hu) (de_var 7) (de_int)) (de_op o_sub (de_op o_add (de_var 6) (de_int)) (de_var 5)) (de_op o_sub (de_op o_sub (de_callB c_len c.n_len (da_cons (de_var 2) da_nil)) (de_var 6)) (de_var 5)))))))))).frz
abbrev s_run_after : Stmt := top 14
def N_run_after : List Str := ["reel", "run", "place", "used", "last", "way", "found"]
theorem sc_run_after : FnScope N_run_after ["reel", "run", "place"] (defScope s_run_after) := ⟨rfl, rfl, rfl, by decide +kernel, rfl, by decide +kernel, by decide +kernel⟩
def b_run_after : DenS := (sSeq (sAsg (dVar 1) (gUn 3 (gsCons (gN 3) (gsCons (gN 4) (gsCons (gN 5) gsNil)))))
  (sSeq (sIf (asB (dOp2 fEqR (dVar 3) (dC (D.int 0)))) (sSet 6 (dTup (aCons (dC (D.int 1)) (aCons (dVar 2) (aCons (dC (D.int 0)) aNil))))) (sIf (tOrD (asB (dOp2 fEqR (dVar 2) (dVar 4))) (tOrD (asB (dOp2 fLt (dOp2 fMul (dVar 5) (dOp2 fSub (dVar 2) (dVar 4))) (dC (D.int 0)))) (tAndD (asB (dOp2 fLt (dVar 2) (dVar 4))) (tNotD (tTru (dOp2 fIx (dVar 0) (dC (D.int 2)))))))) (sRet (dC D.non)) (sSet 6 (dTup (aCons (dOp2 fAdd (dVar 3) (dC (D.int 1))) (aCons (dVar 2) (aCons (dIf (asB (dOp2 fGt (dVar 2) (dVar 4))) (dC (D.int 1)) (dNeg (dC (D.int 1)))) aNil)))))))
  (sRet (dIf (asB (dOp2 fLe (dCallF den_left_out (aCons (dVar 0) (aCons (dVar 6) aNil))) (dOp2 fIx (dVar 0) (dC (D.int 1))))) (dVar 6) (dC D.non)))))
def den_run_after : FD := frzD (bodyD 3 4 b_run_after)
theorem ok_run_after (c : All K mg) : OkF P w K mg base "run_after" ["reel", "run", "place"] 2 den_run_after := (okf c.d_run_after sc_run_after fun cdv A outer s H E f hr => by
  have hu := hu_of hr
  have nd : N_run_after.Nodup := sc_run_after.nd
  unfold b_run_after
  exact (dss_cons (ds_asg (vs := [3, 4, 5]) (de_var 1) (dg_tup (dgs_cons (dg_name (i := 3) rfl (by first | exact Or.inl rfl | exact Or.inr rfl)) (dgs_cons (dg_name (i := 4) rfl (by first | exact Or.inl rfl | exact Or.inr rfl)) (dgs_cons (dg_name (i := 5) rfl (by first | exact Or.inl rfl | exact Or.inr rfl)) dgs_nil)))))
  (dss_cons (ds_if (dt_cmp (o_eqR hu) (de_var 3) (de_int)) (dss_one (ds_set (i := 6) (de_tup (da_cons (de_int) (da_cons (de_var 2) (da_cons (de_int) da_nil)))) rfl (by first | exact Or.inl rfl | exact Or.inr rfl) nd)) (dss_one (ds_if (dt_w (dw_or (dt_cmp (o_eqR hu) (de_var 2) (de_var 4)) (dw_or (dt_cmp (o_lt hu) (de_op o_mul (de_var 5) (de_op o_sub (de_var 2) (de_var 4))) (de_int)) (dw_or1 (dt_w (dw_and (dt_cmp (o_lt hu) (de_var 2) (de_var 4)) (dw_and1 (dt_not (dt_tru (de_ix (de_var 0) (de_int))))))))))) (dss_one (ds_ret (de_non))) (dss_one (ds_set (i := 6) (de_tup (da_cons (de_op o_add (de_var 3) (de_int)) (da_cons (de_var 2) (da_cons (de_if (dt_cmp o_gt (de_var 2) (de_var 4)) (de_int) (de_neg (de_int))) da_nil)))) rfl (by first | exact Or.inl rfl | exact Or.inr rfl) nd)))))
  (dss_one (ds_ret (de_if (dt_cmp o_le (de_fun (ok_left_out c) hr (da_cons (de_var 0) (da_cons (de_var 6) da_nil))) (de_ix (de_var 0) (de_int))) (de_var 6) (de_non))))))).frz
abbrev s_steps_from : Stmt := top 20
def N_steps_from : List Str := ["case", "k", "row", "runs", "kept", "found", "ending", "number", "reel", "later", "place", "sign", "run", "saying"]
theorem sc_steps_from : FnScope N_steps_from ["case", "k", "row"] (defScope s_steps_from) := ⟨rfl, rfl, rfl, by decide +kernel, rfl, by decide +kernel, by decide +kernel⟩
def b_steps_from : DenS := (sSeq (sAsg (dVar 2) (gUn 2 (gsCons (gN 3) (gsCons (gN 4) gsNil))))
  (sSeq (sPar 5 6 (aCons (dLstR aNil) (aCons (dComp (iOf (dOp2 fIx (dVar 0) (dC (D.int 2)))) (gN 13) (asB (dOp2 fEqR (dCallF den_last_frame (aCons (dVar 13) aNil)) (dVar 1))) (dVar 13) [13]) aNil)))
  (sSeq (sFor (iEnum (aCons (dOp2 fIx (dVar 0) (dC (D.int 0))) aNil)) (gUn 2 (gsCons (gN 7) (gsCons (gN 8) gsNil))) (sIf (tOrD (asB (dOp2 fEqR (dVar 6) (dLst aNil))) (tTru (dCall (pure1 fAll) (aCons (dComp (iOf (dVar 6)) (gN 13) tYesD (dCallF den_holds (aCons (dVar 13) (aCons (dVar 7) (aCons (fun _ _ => none) aNil)))) [13]) aNil)))) (sSeq (sSet 9 (dIf (asB (dOp2 fNeR (dOp2 fIx (dVar 0) (dC (D.int 2))) (dTup aNil))) (dCallF den_kept_after (aCons (dVar 0) (aCons (dVar 1) (aCons (dVar 4) (aCons (dVar 7) aNil))))) (dTup aNil)))
  (sFor (iEnum (aCons (dOp2 fIx (dVar 8) (dC (D.int 0))) aNil)) (gUn 2 (gsCons (gN 10) (gsCons (gN 11) gsNil))) (sSeq (sSet 12 (dIf (tTru (dCallF den_fits (aCons (dVar 11) (aCons (dOp2 fIx (dOp2 fIx (dVar 0) (dC (D.int 1))) (dVar 1)) aNil)))) (dCallF den_run_after (aCons (dVar 8) (aCons (dOp2 fIx (dVar 3) (dVar 7)) (aCons (dVar 10) aNil)))) (dC D.non)))
  (sIf (asB (dOp2 fNotN (dVar 12) (dC D.non))) (sDrop (dMeth .list mAppend (dVar 5) (aCons (dTup (aCons (dVar 7) (aCons (dVar 10) (aCons (dTup (aCons (dOp2 fAdd (dOp2 fAdd (dSl (dVar 3) pNone (pSome (dVar 7))) (dTup (aCons (dVar 12) aNil))) (dSl (dVar 3) (pSome (dOp2 fAdd (dVar 7) (dC (D.int 1)))) pNone)) (aCons (dVar 9) aNil))) aNil)))) aNil))) sNext)))) sNext))
  (sRet (dVar 5)))))
def den_steps_from : FD := frzD (bodyD 3 11 b_steps_from)
theorem ok_steps_from (c : All K mg) : OkF P w K mg base "steps_from" ["case", "k", "row"] 3 den_steps_from := (okf c.d_steps_from sc_steps_from fun cdv A outer s H E f hr => by
  have hu := hu_of hr
  have nd : N_steps_from.Nodup := sc_steps_from.nd
  unfold b_steps_from
  exact (dss_cons (ds_asg (vs := [3, 4]) (de_var 2) (dg_tup (dgs_cons (dg_name (i := 3) rfl (by first | exact Or.inl rfl | exact Or.inr rfl)) (dgs_cons (dg_name (i := 4) rfl (by first | exact Or.inl rfl | exact Or.inr rfl)) dgs_nil))))
  (dss_cons (ds_par (i := 5) (j := 6) (da_cons (de_lstR da_nil) (da_cons (de_cm (di_of (de_ix (de_var 0) (de_int))) (blkOk_by (own := [("saying", 13)]) (by rfl)) rfl nd (fun _ _ _ _ _ => (dg_name (i := 13) rfl (by first | exact Or.inl rfl | exact Or.inr rfl))) (fun _ _ _ _ _ => (dts_one (dt_cmp (o_eqR hu) (de_fun (ok_last_frame c) hr (da_cons (de_var 13) da_nil)) (de_var 1)))) (fun _ _ _ _ _ => (de_var 13))) da_nil)) rfl rfl (by decide) rfl rfl rfl nd)
  (dss_cons (ds_for (vs := [7, 8]) (di_enum c.n_enumerate (da_cons (de_ix (de_var 0) (de_int)) da_nil)) (dg_tup (dgs_cons (dg_name (i := 7) rfl (by first | exact Or.inl rfl | exact Or.inr rfl)) (dgs_cons (dg_name (i := 8) rfl (by first | exact Or.inl rfl | exact Or.inr rfl)) dgs_nil))) (dss_one (ds_if (dt_w (dw_or (dt_cmp (o_eqR hu) (de_var 6) (de_lst da_nil)) (dw_or1 (dt_tru (de_callB (c_all rfl) c.n_all (da_cons (de_cm (di_of (de_var 6)) (blkOk_by (own := [("saying", 13)]) (by rfl)) rfl nd (fun _ _ _ _ _ => (dg_name (i := 13) rfl (by first | exact Or.inl rfl | exact Or.inr rfl))) (fun _ _ _ _ _ => dts_nil) (fun _ _ _ _ _ => (de_fun (ok_holds c) hr (da_cons (de_var 13) (da_cons (de_var 7) (da_cons de_never da_nil)))))) da_nil)))))) (dss_cons (ds_set (i := 9) (de_if (dt_cmp (o_neR hu) (de_ix (de_var 0) (de_int)) (de_tup da_nil)) (de_fun (ok_kept_after c) hr (da_cons (de_var 0) (da_cons (de_var 1) (da_cons (de_var 4) (da_cons (de_var 7) da_nil))))) (de_tup da_nil)) rfl (by first | exact Or.inl rfl | exact Or.inr rfl) nd)
  (dss_one (ds_for (vs := [10, 11]) (di_enum c.n_enumerate (da_cons (de_ix (de_var 8) (de_int)) da_nil)) (dg_tup (dgs_cons (dg_name (i := 10) rfl (by first | exact Or.inl rfl | exact Or.inr rfl)) (dgs_cons (dg_name (i := 11) rfl (by first | exact Or.inl rfl | exact Or.inr rfl)) dgs_nil))) (dss_cons (ds_set (i := 12) (de_if (dt_tru (de_fun (ok_fits c) hr (da_cons (de_var 11) (da_cons (de_ix (de_ix (de_var 0) (de_int)) (de_var 1)) da_nil)))) (de_fun (ok_run_after c) hr (da_cons (de_var 8) (da_cons (de_ix (de_var 3) (de_var 7)) (da_cons (de_var 10) da_nil)))) (de_non)) rfl (by first | exact Or.inl rfl | exact Or.inr rfl) nd)
  (dss_one (ds_if (dt_cmp o_notN (de_var 12) (de_non)) (dss_one (ds_expr (de_meth (T := .list) PySem.F.plainAttrs_list PySem.F.slot_list_append PySem.F.type_list_append m_append (de_var 5) (da_cons (de_tup (da_cons (de_var 7) (da_cons (de_var 10) (da_cons (de_tup (da_cons (de_op o_add (de_op o_add (de_slice (de_var 3) dp_none (dp_some (de_var 7))) (de_tup (da_cons (de_var 12) da_nil))) (de_slice (de_var 3) (dp_some (de_op o_add (de_var 7) (de_int))) dp_none)) (da_cons (de_var 9) da_nil))) da_nil)))) da_nil)))) dss_nil)))))) dss_nil)))
  (dss_one (ds_ret (de_var 5))))))).frz
abbrev s_layers : Stmt := top 21
def N_layers : List Str := ["case", "found", "k", "later", "row", "reel", "place", "other"]
theorem sc_layers : FnScope N_layers ["case"] (defScope s_layers) := ⟨rfl, rfl, rfl, by decide +kernel, rfl, by decide +kernel, by decide +kernel⟩
def b_layers : DenS := (sSeq (sSet 1 (dLstR (aCons (dLst (aCons (dCallF den_first_row_of (aCons (dVar 0) aNil)) aNil)) aNil)))
  (sSeq (sFor (iRng rng1 (aCons (dCall (pure1 fLen) (aCons (dOp2 fIx (dVar 0) (dC (D.int 1))) aNil)) aNil)) (gN 2) (sSeq (sSet 3 (dDict0R true))
  (sSeq (sFor (iOf (dOp2 fIx (dVar 1) (dNeg (dC (D.int 1))))) (gN 4) (sFor (iOf (dCallF den_steps_from (aCons (dVar 0) (aCons (dVar 2) (aCons (dVar 4) aNil))))) (gUn 3 (gsCons (gN 5) (gsCons (gN 6) (gsCons (gN 7) gsNil)))) (sAsg (dC (D.bl true)) (gSub (dVar 3) (dVar 7)))))
  (sDrop (dMeth .list mAppend (dVar 1) (aCons (dCall (pure1 fSortedA) (aCons (dVar 3) aNil)) aNil))))))
  (sRet (dVar 1))))
def den_layers : FD := frzD (bodyD 1 7 b_layers)
theorem ok_layers (c : All K mg) : OkF P w K mg base "layers" ["case"] 4 den_layers := (okf c.d_layers sc_layers fun cdv A outer s H E f hr => by
  have hu := hu_of hr
  have nd : N_layers.Nodup := sc_layers.nd
  unfold b_layers
  exact (dss_cons (ds_set (i := 1) (de_lstR (da_cons (de_lst (da_cons (de_fun (ok_first_row_of c) hr (da_cons (de_var 0) da_nil)) da_nil)) da_nil)) rfl (by first | exact Or.inl rfl | exact Or.inr rfl) nd)
  (dss_cons (ds_for (vs := [2]) (di_range1 c.n_range (da_cons (de_callB c_len c.n_len (da_cons (de_ix (de_var 0) (de_int)) da_nil)) da_nil)) (dg_name (i := 2) rfl (by first | exact Or.inl rfl | exact Or.inr rfl)) (dss_cons (ds_set (i := 3) (de_dict0T) rfl (by first | exact Or.inl rfl | exact Or.inr rfl) nd)
  (dss_cons (ds_for (vs := [4]) (di_of (de_ix (de_var 1) (de_neg (de_int)))) (dg_name (i := 4) rfl (by first | exact Or.inl rfl | exact Or.inr rfl)) (dss_one (ds_for (vs := [5, 6, 7]) (di_of (de_fun (ok_steps_from c) hr (da_cons (de_var 0) (da_cons (de_var 2) (da_cons (de_var 4) da_nil))))) (dg_tup (dgs_cons (dg_name (i := 5) rfl (by first | exact Or.inl rfl | exact Or.inr rfl)) (dgs_cons (dg_name (i := 6) rfl (by first | exact Or.inl rfl | exact Or.inr rfl)) (dgs_cons (dg_name (i := 7) rfl (by first | exact Or.inl rfl | exact Or.inr rfl)) dgs_nil)))) (dss_one (ds_asg (vs := []) (de_bl) (dg_sub hu (de_var 3) (de_var 7)))))))
  (dss_one (ds_expr (de_meth (T := .list) PySem.F.plainAttrs_list PySem.F.slot_list_append PySem.F.type_list_append m_append (de_var 1) (da_cons (de_callB (c_sortedA rfl hu) c.n_sorted (da_cons (de_var 3) da_nil)) da_nil)))))))
  (dss_one (ds_ret (de_var 1)))))).frz
abbrev s_case_of : Stmt := top 27
def N_case_of : List Str := ["watch", "head"]
theorem sc_case_of : FnScope N_case_of ["watch", "head"] (defScope s_case_of) := ⟨rfl, rfl, rfl, by decide +kernel, rfl, by decide +kernel, by decide +kernel⟩
def b_case_of : DenS := (sRet (dTup (aCons (dOp2 fIx (dVar 0) (dC (D.int 0))) (aCons (dVar 1) (aCons (dTup aNil) aNil)))))
def den_case_of : FD := frzD (bodyD 2 0 b_case_of)
theorem ok_case_of (c : All K mg) : OkF P w K mg base "case_of" ["watch", "head"] 1 den_case_of := (okf c.d_case_of sc_case_of fun cdv A outer s H E f hr => by
  have hu := hu_of hr
  have nd : N_case_of.Nodup := sc_case_of.nd
  unfold b_case_of
  exact (dss_one (ds_ret (de_tup (da_cons (de_ix (de_var 0) (de_int)) (da_cons (de_var 1) (da_cons (de_tup da_nil) da_nil))))))).frz
abbrev s_lengths : Stmt := top 28
def N_lengths : List Str := ["watch", "head", "found", "row", "lowest", "highest", "total"]
theorem sc_lengths : FnScope N_lengths ["watch", "head"] (defScope s_lengths) := ⟨rfl, rfl, rfl, by decide +kernel, rfl, by decide +kernel, by decide +kernel⟩
def b_lengths : DenS := (sSeq (sSet 2 (dDict0R false))
  (sSeq (sFor (iOf (dOp2 fIx (dCallF den_layers (aCons (dCallF den_case_of (aCons (dVar 0) (aCons (dVar 1) aNil))) aNil)) (dNeg (dC (D.int 1))))) (gN 3) (sSeq (sAsg (dCallF den_reach (aCons (dOp2 fIx (dVar 0) (dC (D.int 0))) (aCons (dVar 3) aNil))) (gUn 2 (gsCons (gN 4) (gsCons (gN 5) gsNil))))
  (sFor (iRng rng2 (aCons (dCall (pure2 fMax2) (aCons (dVar 4) (aCons (dOp2 fIx (dVar 0) (dC (D.int 1))) aNil))) (aCons (dOp2 fAdd (dCall (pure2 fMin2) (aCons (dVar 5) (aCons (dOp2 fIx (dVar 0) (dC (D.int 2))) aNil))) (dC (D.int 1))) aNil))) (gN 6) (sAsg (dC (D.bl true)) (gSub (dVar 2) (dVar 6))))))
  (sRet (dCall (pure1 fSortedA) (aCons (dVar 2) aNil)))))
def den_lengths : FD := frzD (bodyD 2 5 b_lengths)
theorem ok_lengths (c : All K mg) : OkF P w K mg base "lengths" ["watch", "head"] 5 den_lengths := (okf c.d_lengths sc_lengths fun cdv A outer s H E f hr => by
  have hu := hu_of hr
  have nd : N_lengths.Nodup := sc_lengths.nd
  unfold b_lengths
  exact (dss_cons (ds_set (i := 2) (de_dict0K) rfl (by first | exact Or.inl rfl | exact Or.inr rfl) nd)
  (dss_cons (ds_for (vs := [3]) (di_of (de_ix (de_fun (ok_layers c) hr (da_cons (de_fun (ok_case_of c) hr (da_cons (de_var 0) (da_cons (de_var 1) da_nil))) da_nil)) (de_neg (de_int)))) (dg_name (i := 3) rfl (by first | exact Or.inl rfl | exact Or.inr rfl)) (dss_cons (ds_asg (vs := [4, 5]) (de_fun (ok_reach c) hr (da_cons (de_ix (de_var 0) (de_int)) (da_cons (de_var 3) da_nil))) (dg_tup (dgs_cons (dg_name (i := 4) rfl (by first | exact Or.inl rfl | exact Or.inr rfl)) (dgs_cons (dg_name (i := 5) rfl (by first | exact Or.inl rfl | exact Or.inr rfl)) dgs_nil))))
  (dss_one (ds_for (vs := [6]) (di_range2 c.n_range (da_cons (de_callB (c_max2 rfl) c.n_max (da_cons (de_var 4) (da_cons (de_ix (de_var 0) (de_int)) da_nil))) (da_cons (de_op o_add (de_callB (c_min2 rfl) c.n_min (da_cons (de_var 5) (da_cons (de_ix (de_var 0) (de_int)) da_nil))) (de_int)) da_nil))) (dg_name (i := 6) rfl (by first | exact Or.inl rfl | exact Or.inr rfl)) (dss_one (ds_asg (vs := []) (de_bl) (dg_sub hu (de_var 2) (de_var 6))))))))
  (dss_one (ds_ret (de_callB (c_sortedA rfl hu) c.n_sorted (da_cons (de_var 2) da_nil))))))).frz
abbrev s_u_law_lengths : Stmt := top 46
def N_u_law_lengths : List Str := ["watch", "rows", "found", "row", "low", "high", "total"]
theorem sc_u_law_lengths : FnScope N_u_law_lengths ["watch", "rows"] (defScope s_u_law_lengths) := ⟨rfl, rfl, rfl, by decide +kernel, rfl, by decide +kernel, by decide +kernel⟩
def b_u_law_lengths : DenS := (sSeq (sSet 2 (dDict0R false))
  (sSeq (sFor (iOf (dVar 1)) (gN 3) (sSeq (sAsg (dCallF den_u_law_reach (aCons (dOp2 fIx (dVar 0) (dC (D.int 0))) (aCons (dVar 3) aNil))) (gUn 2 (gsCons (gN 4) (gsCons (gN 5) gsNil))))
  (sFor (iRng rng2 (aCons (dCall (pure2 fMax2) (aCons (dVar 4) (aCons (dOp2 fIx (dVar 0) (dC (D.int 1))) aNil))) (aCons (dOp2 fAdd (dCall (pure2 fMin2) (aCons (dVar 5) (aCons (dOp2 fIx (dVar 0) (dC (D.int 2))) aNil))) (dC (D.int 1))) aNil))) (gN 6) (sAsg (dC (D.bl true)) (gSub (dVar 2) (dVar 6))))))
  (sRet (dCall (pure1 fSortedA) (aCons (dVar 2) aNil)))))
def den_u_law_lengths : FD := frzD (bodyD 2 5 b_u_law_lengths)
theorem ok_u_law_lengths (c : All K mg) : OkF P w K mg base "_law_lengths" ["watch", "rows"] 3 den_u_law_lengths := (okf c.d_u_law_lengths sc_u_law_lengths fun cdv A outer s H E f hr => by
  have hu := hu_of hr
  have nd : N_u_law_lengths.Nodup := sc_u_law_lengths.nd
  unfold b_u_law_lengths
  exact (dss_cons (ds_set (i := 2) (de_dict0K) rfl (by first | exact Or.inl rfl | exact Or.inr rfl) nd)
  (dss_cons (ds_for (vs := [3]) (di_of (de_var 1)) (dg_name (i := 3) rfl (by first | exact Or.inl rfl | exact Or.inr rfl)) (dss_cons (ds_asg (vs := [4, 5]) (de_fun (ok_u_law_reach c) hr (da_cons (de_ix (de_var 0) (de_int)) (da_cons (de_var 3) da_nil))) (dg_tup (dgs_cons (dg_name (i := 4) rfl (by first | exact Or.inl rfl | exact Or.inr rfl)) (dgs_cons (dg_name (i := 5) rfl (by first | exact Or.inl rfl | exact Or.inr rfl)) dgs_nil))))
  (dss_one (ds_for (vs := [6]) (di_range2 c.n_range (da_cons (de_callB (c_max2 rfl) c.n_max (da_cons (de_var 4) (da_cons (de_ix (de_var 0) (de_int)) da_nil))) (da_cons (de_op o_add (de_callB (c_min2 rfl) c.n_min (da_cons (de_var 5) (da_cons (de_ix (de_var 0) (de_int)) da_nil))) (de_int)) da_nil))) (dg_name (i := 6) rfl (by first | exact Or.inl rfl | exact Or.inr rfl)) (dss_one (ds_asg (vs := []) (de_bl) (dg_sub hu (de_var 2) (de_var 6))))))))
  (dss_one (ds_ret (de_callB (c_sortedA rfl hu) c.n_sorted (da_cons (de_var 2) da_nil))))))).frz
abbrev s_is_integer : Stmt := top 6
def N_is_integer : List Str := ["value", "low", "high"]
theorem sc_is_integer : FnScope N_is_integer ["value", "low", "high"] (defScope s_is_integer) := ⟨rfl, rfl, rfl, by decide +kernel, rfl, by decide +kernel, by decide +kernel⟩
def b_is_integer : DenS := (sRet ((dAnd (dIsi .int (dVar 0)) (dAnd (dNot (dIsi .bl (dVar 0))) (dChain fLe fLe (dVar 1) (dVar 0) (dVar 2))))))
def den_is_integer : FD := frzD (bodyD 3 0 b_is_integer)
theorem ok_is_integer (c : All K mg) : OkF P w K mg base "is_integer" ["value", "low", "high"] 1 den_is_integer := (okf c.d_is_integer sc_is_integer fun cdv A outer s H E f hr => by
  have hu := hu_of hr
  have nd : N_is_integer.Nodup := sc_is_integer.nd
  unfold b_is_integer
  exact (dss_one (ds_ret ((de_and (de_isi c.n_isinstance c.n_int (de_var 0)) (de_and (de_not (de_isi c.n_isinstance c.n_bool (de_var 0))) (de_one (de_chain o_le o_le (de_var 1) (de_var 0) (de_var 2))))))))).frz
abbrev s_are_letters : Stmt := top 7
def N_are_letters : List Str := ["value", "sign"]
theorem sc_are_letters : FnScope N_are_letters ["value"] (defScope s_are_letters) := ⟨rfl, rfl, rfl, by decide +kernel, rfl, by decide +kernel, by decide +kernel⟩
def b_are_letters : DenS := (sRet ((dAnd (dIsi .str (dVar 0)) (dCall (pure1 fAll) (aCons (dComp (iOf (dVar 0)) (gN 1) tYesD (dOp2 fIn (dVar 1) (dC (D.str [97, 98, 99, 100, 101, 102, 103, 104, 105, 106, 107, 108, 109, 110, 111, 112, 113, 114, 115, 116, 117, 118, 119, 120, 121, 122]))) [1]) aNil)))))
def den_are_letters : FD := frzD (bodyD 1 1 b_are_letters)
theorem ok_are_letters (c : All K mg) : OkF P w K mg base "are_letters" ["value"] 1 den_are_letters := (okf c.d_are_letters sc_are_letters fun cdv A outer s H E f hr => by
  have hu := hu_of hr
  have nd : N_are_letters.Nodup := sc_are_letters.nd
  unfold b_are_letters
  exact (dss_one (ds_ret ((de_and (de_isi c.n_isinstance c.n_str (de_var 0)) (de_one (de_callB (c_all rfl) c.n_all (da_cons (de_cm (di_of (de_var 0)) (blkOk_by (own := [("sign", 1)]) (by rfl)) rfl nd (fun _ _ _ _ _ => (dg_name (i := 1) rfl (by first | exact Or.inl rfl | exact Or.inr rfl))) (fun _ _ _ _ _ => dts_nil) (fun _ _ _ _ _ => (de_cmp (o_in hu) (de_var 1) (de_gc (c.LETTERS _ _))))) da_nil)))))))).frz
abbrev s_is_reel : Stmt := top 8
def N_is_reel : List Str := ["value", "signs", "loss", "turns"]
theorem sc_is_reel : FnScope N_is_reel ["value"] (defScope s_is_reel) := ⟨rfl, rfl, rfl, by decide +kernel, rfl, by decide +kernel, by decide +kernel⟩
def b_is_reel : DenS := (sSeq (sIf (tOrD (tNotD (tTru (dIsi .tup (dVar 0)))) (tOrD (asB (dOp2 fNeR (dCall (pure1 fLen) (aCons (dVar 0) aNil)) (dC (D.int 3)))) (tNotD (tTru (dCallF den_are_letters (aCons (dOp2 fIx (dVar 0) (dC (D.int 0))) aNil)))))) (sRet (dC (D.bl false))) sNext)
  (sSeq (sAsg (dVar 0) (gUn 3 (gsCons (gN 1) (gsCons (gN 2) (gsCons (gN 3) gsNil)))))
  (sRet ((dAnd (dChain fLe fLe (dC (D.int 1)) (dCall (pure1 fLen) (aCons (dVar 1) aNil)) (dC (D.int 10))) (dAnd (dCallF den_is_integer (aCons (dVar 2) (aCons (dC (D.int 0)) (aCons (dCall (pure1 fLen) (aCons (dVar 1) aNil)) aNil)))) (dIsi .bl (dVar 3))))))))
def den_is_reel : FD := frzD (bodyD 1 3 b_is_reel)
theorem ok_is_reel (c : All K mg) : OkF P w K mg base "is_reel" ["value"] 2 den_is_reel := (okf c.d_is_reel sc_is_reel fun cdv A outer s H E f hr => by
  have hu := hu_of hr
  have nd : N_is_reel.Nodup := sc_is_reel.nd
  unfold b_is_reel
  exact (dss_cons (ds_if (dt_w (dw_or (dt_not (dt_tru (de_isi c.n_isinstance c.n_tuple (de_var 0)))) (dw_or (dt_cmp (o_neR hu) (de_callB c_len c.n_len (da_cons (de_var 0) da_nil)) (de_int)) (dw_or1 (dt_not (dt_tru (de_fun (ok_are_letters c) hr (da_cons (de_ix (de_var 0) (de_int)) da_nil)))))))) (dss_one (ds_ret (de_bl))) dss_nil)
  (dss_cons (ds_asg (vs := [1, 2, 3]) (de_var 0) (dg_tup (dgs_cons (dg_name (i := 1) rfl (by first | exact Or.inl rfl | exact Or.inr rfl)) (dgs_cons (dg_name (i := 2) rfl (by first | exact Or.inl rfl | exact Or.inr rfl)) (dgs_cons (dg_name (i := 3) rfl (by first | exact Or.inl rfl | exact Or.inr rfl)) dgs_nil)))))
  (dss_one (ds_ret ((de_and (de_chain o_le o_le (de_int) (de_callB c_len c.n_len (da_cons (de_var 1) da_nil)) (de_gc (c.MOST_SIGNS _ _))) (de_and (de_fun (ok_is_integer c) hr (da_cons (de_var 2) (da_cons (de_int) (da_cons (de_callB c_len c.n_len (da_cons (de_var 1) da_nil)) da_nil)))) (de_one (de_isi c.n_isinstance c.n_bool (de_var 3))))))))))).frz
abbrev s_is_stock : Stmt := top 9
def N_is_stock : List Str := ["value", "product", "signs", "loss", "turns", "reel"]
theorem sc_is_stock : FnScope N_is_stock ["value"] (defScope s_is_stock) := ⟨rfl, rfl, rfl, by decide +kernel, rfl, by decide +kernel, by decide +kernel⟩
def b_is_stock : DenS := (sSeq (sIf (tOrD (tNotD (tTru (dIsi .tup (dVar 0)))) (tOrD (tNotD (asB (dChain fLe fLe (dC (D.int 1)) (dCall (pure1 fLen) (aCons (dVar 0) aNil)) (dC (D.int 4))))) (tNotD (tTru (dCall (pure1 fAll) (aCons (dComp (iOf (dVar 0)) (gN 5) tYesD (dCallF den_is_reel (aCons (dVar 5) aNil)) [5]) aNil)))))) (sRet (dC (D.bl false))) sNext)
  (sSeq (sSet 1 (dC (D.int 1)))
  (sSeq (sFor (iOf (dVar 0)) (gUn 3 (gsCons (gN 2) (gsCons (gN 3) (gsCons (gN 4) gsNil)))) (sSet 1 (dOp2 fMul (dOp2 fMul (dOp2 fMul (dVar 1) (dCall (pure1 fLen) (aCons (dVar 2) aNil))) (dOp2 fAdd (dVar 3) (dC (D.int 1)))) (dIf (tTru (dVar 4)) (dC (D.int 2)) (dC (D.int 1))))))
  (sRet (dOp2 fLe (dVar 1) (dC (D.int 600)))))))
def den_is_stock : FD := frzD (bodyD 1 5 b_is_stock)
theorem ok_is_stock (c : All K mg) : OkF P w K mg base "is_stock" ["value"] 3 den_is_stock := (okf c.d_is_stock sc_is_stock fun cdv A outer s H E f hr => by
  have hu := hu_of hr
  have nd : N_is_stock.Nodup := sc_is_stock.nd
  unfold b_is_stock
  exact (dss_cons (ds_if (dt_w (dw_or (dt_not (dt_tru (de_isi c.n_isinstance c.n_tuple (de_var 0)))) (dw_or (dt_not (dt_chain o_le o_le (de_int) (de_callB c_len c.n_len (da_cons (de_var 0) da_nil)) (de_gc (c.MOST_REELS _ _)))) (dw_or1 (dt_not (dt_tru (de_callB (c_all rfl) c.n_all (da_cons (de_cm (di_of (de_var 0)) (blkOk_by (own := [("reel", 5)]) (by rfl)) rfl nd (fun _ _ _ _ _ => (dg_name (i := 5) rfl (by first | exact Or.inl rfl | exact Or.inr rfl))) (fun _ _ _ _ _ => dts_nil) (fun _ _ _ _ _ => (de_fun (ok_is_reel c) hr (da_cons (de_var 5) da_nil)))) da_nil)))))))) (dss_one (ds_ret (de_bl))) dss_nil)
  (dss_cons (ds_set (i := 1) (de_int) rfl (by first | exact Or.inl rfl | exact Or.inr rfl) nd)
  (dss_cons (ds_for (vs := [2, 3, 4]) (di_of (de_var 0)) (dg_tup (dgs_cons (dg_name (i := 2) rfl (by first | exact Or.inl rfl | exact Or.inr rfl)) (dgs_cons (dg_name (i := 3) rfl (by first | exact Or.inl rfl | exact Or.inr rfl)) (dgs_cons (dg_name (i := 4) rfl (by first | exact Or.inl rfl | exact Or.inr rfl)) dgs_nil)))) (dss_one (ds_set (i := 1) (de_op o_mul (de_op o_mul (de_op o_mul (de_var 1) (de_callB c_len c.n_len (da_cons (de_var 2) da_nil))) (de_op o_add (de_var 3) (de_int))) (de_if (dt_tru (de_var 4)) (de_int) (de_int))) rfl (by first | exact Or.inl rfl | exact Or.inr rfl) nd)))
  (dss_one (ds_ret (de_cmp o_le (de_var 1) (de_gc (c.MOST_PRODUCT _ _))))))))).frz
abbrev s_is_watch : Stmt := top 24
def N_is_watch : List Str := ["value", "stock", "least", "most", "product", "signs", "loss", "turns"]
theorem sc_is_watch : FnScope N_is_watch ["value"] (defScope s_is_watch) := ⟨rfl, rfl, rfl, by decide +kernel, rfl, by decide +kernel, by decide +kernel⟩
def b_is_watch : DenS := (sSeq (sIf (tOrD (tNotD (tTru (dIsi .tup (dVar 0)))) (tOrD (asB (dOp2 fNeR (dCall (pure1 fLen) (aCons (dVar 0) aNil)) (dC (D.int 3)))) (tNotD (tTru (dCallF den_is_stock (aCons (dOp2 fIx (dVar 0) (dC (D.int 0))) aNil)))))) (sRet (dC (D.bl false))) sNext)
  (sSeq (sAsg (dVar 0) (gUn 3 (gsCons (gN 1) (gsCons (gN 2) (gsCons (gN 3) gsNil)))))
  (sSeq (sSet 4 (dC (D.int 1)))
  (sSeq (sFor (iOf (dVar 1)) (gUn 3 (gsCons (gN 5) (gsCons (gN 6) (gsCons (gN 7) gsNil)))) (sSet 4 (dOp2 fMul (dVar 4) (dOp2 fAdd (dOp2 fMul (dOp2 fMul (dCall (pure1 fLen) (aCons (dVar 5) aNil)) (dOp2 fAdd (dVar 6) (dC (D.int 1)))) (dIf (tTru (dVar 7)) (dC (D.int 2)) (dC (D.int 1)))) (dC (D.int 1))))))
  (sSeq (sIf (tOrD (asB (dOp2 fGt (dVar 4) (dC (D.int 100)))) (tNotD (tTru (dCallF den_is_integer (aCons (dVar 2) (aCons (dC (D.int 0)) (aCons (dC (D.int 16)) aNil))))))) (sRet (dC (D.bl false))) sNext)
  (sRet (dCallF den_is_integer (aCons (dVar 3) (aCons (dVar 2) (aCons (dC (D.int 16)) aNil))))))))))
def den_is_watch : FD := frzD (bodyD 1 7 b_is_watch)
theorem ok_is_watch (c : All K mg) : OkF P w K mg base "is_watch" ["value"] 4 den_is_watch := (okf c.d_is_watch sc_is_watch fun cdv A outer s H E f hr => by
  have hu := hu_of hr
  have nd : N_is_watch.Nodup := sc_is_watch.nd
  unfold b_is_watch
  exact (dss_cons (ds_if (dt_w (dw_or (dt_not (dt_tru (de_isi c.n_isinstance c.n_tuple (de_var 0)))) (dw_or (dt_cmp (o_neR hu) (de_callB c_len c.n_len (da_cons (de_var 0) da_nil)) (de_int)) (dw_or1 (dt_not (dt_tru (de_fun (ok_is_stock c) hr (da_cons (de_ix (de_var 0) (de_int)) da_nil)))))))) (dss_one (ds_ret (de_bl))) dss_nil)
  (dss_cons (ds_asg (vs := [1, 2, 3]) (de_var 0) (dg_tup (dgs_cons (dg_name (i := 1) rfl (by first | exact Or.inl rfl | exact Or.inr rfl)) (dgs_cons (dg_name (i := 2) rfl (by first | exact Or.inl rfl | exact Or.inr rfl)) (dgs_cons (dg_name (i := 3) rfl (by first | exact Or.inl rfl | exact Or.inr rfl)) dgs_nil)))))
  (dss_cons (ds_set (i := 4) (de_int) rfl (by first | exact Or.inl rfl | exact Or.inr rfl) nd)
  (dss_cons (ds_for (vs := [5, 6, 7]) (di_of (de_var 1)) (dg_tup (dgs_cons (dg_name (i := 5) rfl (by first | exact Or.inl rfl | exact Or.inr rfl)) (dgs_cons (dg_name (i := 6) rfl (by first | exact Or.inl rfl | exact Or.inr rfl)) (dgs_cons (dg_name (i := 7) rfl (by first | exact Or.inl rfl | exact Or.inr rfl)) dgs_nil)))) (dss_one (ds_set (i := 4) (de_op o_mul (de_var 4) (de_op o_add (de_op o_mul (de_op o_mul (de_callB c_len c.n_len (da_cons (de_var 5) da_nil)) (de_op o_add (de_var 6) (de_int))) (de_if (dt_tru (de_var 7)) (de_int) (de_int))) (de_int))) rfl (by first | exact Or.inl rfl | exact Or.inr rfl) nd)))
  (dss_cons (ds_if (dt_w (dw_or (dt_cmp o_gt (de_var 4) (de_gc (c.MOST_WATCHED _ _))) (dw_or1 (dt_not (dt_tru (de_fun (ok_is_integer c) hr (da_cons (de_var 2) (da_cons (de_int) (da_cons (de_gc (c.MOST_FRAMES _ _)) da_nil))))))))) (dss_one (ds_ret (de_bl))) dss_nil)
  (dss_one (ds_ret (de_fun (ok_is_integer c) hr (da_cons (de_var 3) (da_cons (de_var 2) (da_cons (de_gc (c.MOST_FRAMES _ _)) da_nil)))))))))))).frz
abbrev s_u_law_between : Stmt := top 35
def N_u_law_between : List Str := ["value", "low", "high"]
theorem sc_u_law_between : FnScope N_u_law_between ["value", "low", "high"] (defScope s_u_law_between) := ⟨rfl, rfl, rfl, by decide +kernel, rfl, by decide +kernel, by decide +kernel⟩
def b_u_law_between : DenS := (sRet ((dAnd (dIsi .int (dVar 0)) (dAnd (dNot (dIsi .bl (dVar 0))) (dChain fLe fLe (dVar 1) (dVar 0) (dVar 2))))))
def den_u_law_between : FD := frzD (bodyD 3 0 b_u_law_between)
theorem ok_u_law_between (c : All K mg) : OkF P w K mg base "_law_between" ["value", "low", "high"] 1 den_u_law_between := (okf c.d_u_law_between sc_u_law_between fun cdv A outer s H E f hr => by
  have hu := hu_of hr
  have nd : N_u_law_between.Nodup := sc_u_law_between.nd
  unfold b_u_law_between
  exact (dss_one (ds_ret ((de_and (de_isi c.n_isinstance c.n_int (de_var 0)) (de_and (de_not (de_isi c.n_isinstance c.n_bool (de_var 0))) (de_one (de_chain o_le o_le (de_var 1) (de_var 0) (de_var 2))))))))).frz
abbrev s_u_law_is_reel : Stmt := top 53
def N_u_law_is_reel : List Str := ["value", "sign"]
theorem sc_u_law_is_reel : FnScope N_u_law_is_reel ["value"] (defScope s_u_law_is_reel) := ⟨rfl, rfl, rfl, by decide +kernel, rfl, by decide +kernel, by decide +kernel⟩
def b_u_law_is_reel : DenS := (sSeq (sIf (tOrD (tNotD (tTru (dIsi .tup (dVar 0)))) (tOrD (asB (dOp2 fNeR (dCall (pure1 fLen) (aCons (dVar 0) aNil)) (dC (D.int 3)))) (tNotD (tTru (dIsi .str (dOp2 fIx (dVar 0) (dC (D.int 0)))))))) (sRet (dC (D.bl false))) sNext)
  (sSeq (sIf (tOrD (asB (dOp2 fNeR (dComp (iOf (dOp2 fIx (dVar 0) (dC (D.int 0)))) (gN 1) (asB (dOp2 fNotIn (dVar 1) (dCall (pure1 fListA) (aCons (dCallF den_u_law_letters aNil) aNil)))) (dVar 1) [1]) (dLst aNil))) (tNotD (asB (dChain fLe fLe (dC (D.int 1)) (dCall (pure1 fLen) (aCons (dOp2 fIx (dVar 0) (dC (D.int 0))) aNil)) (dC (D.int 10)))))) (sRet (dC (D.bl false))) sNext)
  (sRet ((dAnd (dCallF den_u_law_between (aCons (dOp2 fIx (dVar 0) (dC (D.int 1))) (aCons (dC (D.int 0)) (aCons (dCall (pure1 fLen) (aCons (dOp2 fIx (dVar 0) (dC (D.int 0))) aNil)) aNil)))) (dIsi .bl (dOp2 fIx (dVar 0) (dC (D.int 2)))))))))
def den_u_law_is_reel : FD := frzD (bodyD 1 1 b_u_law_is_reel)
theorem ok_u_law_is_reel (c : All K mg) : OkF P w K mg base "_law_is_reel" ["value"] 2 den_u_law_is_reel := (okf c.d_u_law_is_reel sc_u_law_is_reel fun cdv A outer s H E f hr => by
  have hu := hu_of hr
  have nd : N_u_law_is_reel.Nodup := sc_u_law_is_reel.nd
  unfold b_u_law_is_reel
  exact (dss_cons (ds_if (dt_w (dw_or (dt_not (dt_tru (de_isi c.n_isinstance c.n_tuple (de_var 0)))) (dw_or (dt_cmp (o_neR hu) (de_callB c_len c.n_len (da_cons (de_var 0) da_nil)) (de_int)) (dw_or1 (dt_not (dt_tru (de_isi c.n_isinstance c.n_str (de_ix (de_var 0) (de_int))))))))) (dss_one (ds_ret (de_bl))) dss_nil)
  (dss_cons (ds_if (dt_w (dw_or (dt_cmp (o_neR hu) (de_cm (di_of (de_ix (de_var 0) (de_int))) (blkOk_by (own := [("sign", 1)]) (by rfl)) rfl nd (fun _ _ _ _ _ => (dg_name (i := 1) rfl (by first | exact Or.inl rfl | exact Or.inr rfl))) (fun _ _ _ _ _ => (dts_one (dt_cmp (o_notIn hu) (de_var 1) (de_callT (c_listA rfl) c.n_list (da_cons (de_fun0 (ok_u_law_letters c) hr) da_nil))))) (fun _ _ _ _ _ => (de_var 1))) (de_lst da_nil)) (dw_or1 (dt_not (dt_chain o_le o_le (de_int) (de_callB c_len c.n_len (da_cons (de_ix (de_var 0) (de_int)) da_nil)) (de_int)))))) (dss_one (ds_ret (de_bl))) dss_nil)
  (dss_one (ds_ret ((de_and (de_fun (ok_u_law_between c) hr (da_cons (de_ix (de_var 0) (de_int)) (da_cons (de_int) (da_cons (de_callB c_len c.n_len (da_cons (de_ix (de_var 0) (de_int)) da_nil)) da_nil)))) (de_one (de_isi c.n_isinstance c.n_bool (de_ix (de_var 0) (de_int))))))))))).frz
abbrev s_u_law_is_watch : Stmt := top 54
def N_u_law_is_watch : List Str := ["value", "product", "signs", "loss", "turns", "reel"]
theorem sc_u_law_is_watch : FnScope N_u_law_is_watch ["value"] (defScope s_u_law_is_watch) := ⟨rfl, rfl, rfl, by decide +kernel, rfl, by decide +kernel, by decide +kernel⟩
def b_u_law_is_watch : DenS := (sSeq (sIf (tOrD (tNotD (tTru (dIsi .tup (dVar 0)))) (tOrD (asB (dOp2 fNeR (dCall (pure1 fLen) (aCons (dVar 0) aNil)) (dC (D.int 3)))) (tNotD (tTru (dIsi .tup (dOp2 fIx (dVar 0) (dC (D.int 0)))))))) (sRet (dC (D.bl false))) sNext)
  (sSeq (sIf (tOrD (tNotD (asB (dChain fLe fLe (dC (D.int 1)) (dCall (pure1 fLen) (aCons (dOp2 fIx (dVar 0) (dC (D.int 0))) aNil)) (dC (D.int 4))))) (asB (dOp2 fIn (dC (D.bl false)) (dComp (iOf (dOp2 fIx (dVar 0) (dC (D.int 0)))) (gN 5) tYesD (dCallF den_u_law_is_reel (aCons (dVar 5) aNil)) [5])))) (sRet (dC (D.bl false))) sNext)
  (sSeq (sSet 1 (dC (D.int 1)))
  (sSeq (sFor (iOf (dOp2 fIx (dVar 0) (dC (D.int 0)))) (gUn 3 (gsCons (gN 2) (gsCons (gN 3) (gsCons (gN 4) gsNil)))) (sSet 1 (dOp2 fMul (dVar 1) (dOp2 fAdd (dOp2 fMul (dOp2 fMul (dCall (pure1 fLen) (aCons (dVar 2) aNil)) (dOp2 fAdd (dVar 3) (dC (D.int 1)))) (dIf (tTru (dVar 4)) (dC (D.int 2)) (dC (D.int 1)))) (dC (D.int 1))))))
  (sRet ((dAnd (dOp2 fLe (dVar 1) (dC (D.int 100))) (dAnd (dCallF den_u_law_between (aCons (dOp2 fIx (dVar 0) (dC (D.int 1))) (aCons (dC (D.int 0)) (aCons (dC (D.int 16)) aNil)))) (dCallF den_u_law_between (aCons (dOp2 fIx (dVar 0) (dC (D.int 2))) (aCons (dOp2 fIx (dVar 0) (dC (D.int 1))) (aCons (dC (D.int 16)) aNil))))))))))))
def den_u_law_is_watch : FD := frzD (bodyD 1 5 b_u_law_is_watch)
theorem ok_u_law_is_watch (c : All K mg) : OkF P w K mg base "_law_is_watch" ["value"] 3 den_u_law_is_watch := (okf c.d_u_law_is_watch sc_u_law_is_watch fun cdv A outer s H E f hr => by
  have hu := hu_of hr
  have nd : N_u_law_is_watch.Nodup := sc_u_law_is_watch.nd
  unfold b_u_law_is_watch
  exact (dss_cons (ds_if (dt_w (dw_or (dt_not (dt_tru (de_isi c.n_isinstance c.n_tuple (de_var 0)))) (dw_or (dt_cmp (o_neR hu) (de_callB c_len c.n_len (da_cons (de_var 0) da_nil)) (de_int)) (dw_or1 (dt_not (dt_tru (de_isi c.n_isinstance c.n_tuple (de_ix (de_var 0) (de_int))))))))) (dss_one (ds_ret (de_bl))) dss_nil)
  (dss_cons (ds_if (dt_w (dw_or (dt_not (dt_chain o_le o_le (de_int) (de_callB c_len c.n_len (da_cons (de_ix (de_var 0) (de_int)) da_nil)) (de_int))) (dw_or1 (dt_cmp (o_in hu) (de_bl) (de_cm (di_of (de_ix (de_var 0) (de_int))) (blkOk_by (own := [("reel", 5)]) (by rfl)) rfl nd (fun _ _ _ _ _ => (dg_name (i := 5) rfl (by first | exact Or.inl rfl | exact Or.inr rfl))) (fun _ _ _ _ _ => dts_nil) (fun _ _ _ _ _ => (de_fun (ok_u_law_is_reel c) hr (da_cons (de_var 5) da_nil)))))))) (dss_one (ds_ret (de_bl))) dss_nil)
  (dss_cons (ds_set (i := 1) (de_int) rfl (by first | exact Or.inl rfl | exact Or.inr rfl) nd)
  (dss_cons (ds_for (vs := [2, 3, 4]) (di_of (de_ix (de_var 0) (de_int))) (dg_tup (dgs_cons (dg_name (i := 2) rfl (by first | exact Or.inl rfl | exact Or.inr rfl)) (dgs_cons (dg_name (i := 3) rfl (by first | exact Or.inl rfl | exact Or.inr rfl)) (dgs_cons (dg_name (i := 4) rfl (by first | exact Or.inl rfl | exact Or.inr rfl)) dgs_nil)))) (dss_one (ds_set (i := 1) (de_op o_mul (de_var 1) (de_op o_add (de_op o_mul (de_op o_mul (de_callB c_len c.n_len (da_cons (de_var 2) da_nil)) (de_op o_add (de_var 3) (de_int))) (de_if (dt_tru (de_var 4)) (de_int) (de_int))) (de_int))) rfl (by first | exact Or.inl rfl | exact Or.inr rfl) nd)))
  (dss_one (ds_ret ((de_and (de_cmp o_le (de_var 1) (de_int)) (de_and (de_fun (ok_u_law_between c) hr (da_cons (de_ix (de_var 0) (de_int)) (da_cons (de_int) (da_cons (de_int) da_nil)))) (de_one (de_fun (ok_u_law_between c) hr (da_cons (de_ix (de_var 0) (de_int)) (da_cons (de_ix (de_var 0) (de_int)) (da_cons (de_int) da_nil))))))))))))))).frz
abbrev s_u_law_steps : Stmt := top 42
def N_u_law_steps : List Str := ["stock", "frame", "row", "found", "r", "reel", "p", "sign", "run"]
theorem sc_u_law_steps : FnScope N_u_law_steps ["stock", "frame", "row"] (defScope s_u_law_steps) := ⟨rfl, rfl, rfl, by decide +kernel, rfl, by decide +kernel, by decide +kernel⟩
def b_u_law_steps : DenS := (sSeq (sSet 3 (dLstR aNil))
  (sSeq (sFor (iEnum (aCons (dVar 0) aNil)) (gUn 2 (gsCons (gN 4) (gsCons (gN 5) gsNil))) (sFor (iEnum (aCons (dOp2 fIx (dVar 5) (dC (D.int 0))) aNil)) (gUn 2 (gsCons (gN 6) (gsCons (gN 7) gsNil))) (sSeq (sSet 8 (dIf (tOrD (asB (dOp2 fEqR (dVar 1) (dC (D.str [63])))) (asB (dOp2 fIn (dVar 7) (dVar 1)))) (dCallF den_u_law_run_on (aCons (dVar 5) (aCons (dOp2 fIx (dOp2 fIx (dVar 2) (dC (D.int 0))) (dVar 4)) (aCons (dVar 6) aNil)))) (dC D.non)))
  (sIf (asB (dOp2 fNotN (dVar 8) (dC D.non))) (sDrop (dMeth .list mAppend (dVar 3) (aCons (dTup (aCons (dVar 4) (aCons (dVar 6) (aCons (dTup (aCons (dOp2 fAdd (dOp2 fAdd (dSl (dOp2 fIx (dVar 2) (dC (D.int 0))) pNone (pSome (dVar 4))) (dTup (aCons (dVar 8) aNil))) (dSl (dOp2 fIx (dVar 2) (dC (D.int 0))) (pSome (dOp2 fAdd (dVar 4) (dC (D.int 1)))) pNone)) (aCons (dTup aNil) aNil))) aNil)))) aNil))) sNext))))
  (sRet (dVar 3))))
def den_u_law_steps : FD := frzD (bodyD 3 6 b_u_law_steps)
theorem ok_u_law_steps (c : All K mg) : OkF P w K mg base "_law_steps" ["stock", "frame", "row"] 3 den_u_law_steps := (okf c.d_u_law_steps sc_u_law_steps fun cdv A outer s H E f hr => by
  have hu := hu_of hr
  have nd : N_u_law_steps.Nodup := sc_u_law_steps.nd
  unfold b_u_law_steps
  exact (dss_cons (ds_set (i := 3) (de_lstR da_nil) rfl (by first | exact Or.inl rfl | exact Or.inr rfl) nd)
  (dss_cons (ds_for (vs := [4, 5]) (di_enum c.n_enumerate (da_cons (de_var 0) da_nil)) (dg_tup (dgs_cons (dg_name (i := 4) rfl (by first | exact Or.inl rfl | exact Or.inr rfl)) (dgs_cons (dg_name (i := 5) rfl (by first | exact Or.inl rfl | exact Or.inr rfl)) dgs_nil))) (dss_one (ds_for (vs := [6, 7]) (di_enum c.n_enumerate (da_cons (de_ix (de_var 5) (de_int)) da_nil)) (dg_tup (dgs_cons (dg_name (i := 6) rfl (by first | exact Or.inl rfl | exact Or.inr rfl)) (dgs_cons (dg_name (i := 7) rfl (by first | exact Or.inl rfl | exact Or.inr rfl)) dgs_nil))) (dss_cons (ds_set (i := 8) (de_if (dt_w (dw_or (dt_cmp (o_eqR hu) (de_var 1) (de_str [63])) (dw_or1 (dt_cmp (o_in hu) (de_var 7) (de_var 1))))) (de_fun (ok_u_law_run_on c) hr (da_cons (de_var 5) (da_cons (de_ix (de_ix (de_var 2) (de_int)) (de_var 4)) (da_cons (de_var 6) da_nil)))) (de_non)) rfl (by first | exact Or.inl rfl | exact Or.inr rfl) nd)
  (dss_one (ds_if (dt_cmp o_notN (de_var 8) (de_non)) (dss_one (ds_expr (de_meth (T := .list) PySem.F.plainAttrs_list PySem.F.slot_list_append PySem.F.type_list_append m_append (de_var 3) (da_cons (de_tup (da_cons (de_var 4) (da_cons (de_var 6) (da_cons (de_tup (da_cons (de_op o_add (de_op o_add (de_slice (de_ix (de_var 2) (de_int)) dp_none (dp_some (de_var 4))) (de_tup (da_cons (de_var 8) da_nil))) (de_slice (de_ix (de_var 2) (de_int)) (dp_some (de_op o_add (de_var 4) (de_int))) dp_none)) (da_cons (de_tup da_nil) da_nil))) da_nil)))) da_nil)))) dss_nil))))))
  (dss_one (ds_ret (de_var 3)))))).frz
abbrev s_u_law_layers : Stmt := top 45
def N_u_law_layers : List Str := ["stock", "head", "found", "frame", "later", "row", "r", "p", "other"]
theorem sc_u_law_layers : FnScope N_u_law_layers ["stock", "head"] (defScope s_u_law_layers) := ⟨rfl, rfl, rfl, by decide +kernel, rfl, by decide +kernel, by decide +kernel⟩
def b_u_law_layers : DenS := (sSeq (sSet 2 (dLstR (aCons (dLst (aCons (dCallF den_u_law_first (aCons (dVar 0) aNil)) aNil)) aNil)))
  (sSeq (sFor (iOf (dVar 1)) (gN 3) (sSeq (sSet 4 (dDict0R true))
  (sSeq (sFor (iOf (dOp2 fIx (dVar 2) (dNeg (dC (D.int 1))))) (gN 5) (sFor (iOf (dCallF den_u_law_steps (aCons (dVar 0) (aCons (dVar 3) (aCons (dVar 5) aNil))))) (gUn 3 (gsCons (gN 6) (gsCons (gN 7) (gsCons (gN 8) gsNil)))) (sAsg (dC (D.bl true)) (gSub (dVar 4) (dVar 8)))))
  (sDrop (dMeth .list mAppend (dVar 2) (aCons (dCall (pure1 fListA) (aCons (dVar 4) aNil)) aNil))))))
  (sRet (dVar 2))))
def den_u_law_layers : FD := frzD (bodyD 2 7 b_u_law_layers)
theorem ok_u_law_layers (c : All K mg) : OkF P w K mg base "_law_layers" ["stock", "head"] 4 den_u_law_layers := (okf c.d_u_law_layers sc_u_law_layers fun cdv A outer s H E f hr => by
  have hu := hu_of hr
  have nd : N_u_law_layers.Nodup := sc_u_law_layers.nd
  unfold b_u_law_layers
  exact (dss_cons (ds_set (i := 2) (de_lstR (da_cons (de_lst (da_cons (de_fun (ok_u_law_first c) hr (da_cons (de_var 0) da_nil)) da_nil)) da_nil)) rfl (by first | exact Or.inl rfl | exact Or.inr rfl) nd)
  (dss_cons (ds_for (vs := [3]) (di_of (de_var 1)) (dg_name (i := 3) rfl (by first | exact Or.inl rfl | exact Or.inr rfl)) (dss_cons (ds_set (i := 4) (de_dict0T) rfl (by first | exact Or.inl rfl | exact Or.inr rfl) nd)
  (dss_cons (ds_for (vs := [5]) (di_of (de_ix (de_var 2) (de_neg (de_int)))) (dg_name (i := 5) rfl (by first | exact Or.inl rfl | exact Or.inr rfl)) (dss_one (ds_for (vs := [6, 7, 8]) (di_of (de_fun (ok_u_law_steps c) hr (da_cons (de_var 0) (da_cons (de_var 3) (da_cons (de_var 5) da_nil))))) (dg_tup (dgs_cons (dg_name (i := 6) rfl (by first | exact Or.inl rfl | exact Or.inr rfl)) (dgs_cons (dg_name (i := 7) rfl (by first | exact Or.inl rfl | exact Or.inr rfl)) (dgs_cons (dg_name (i := 8) rfl (by first | exact Or.inl rfl | exact Or.inr rfl)) dgs_nil)))) (dss_one (ds_asg (vs := []) (de_bl) (dg_sub hu (de_var 4) (de_var 8)))))))
  (dss_one (ds_expr (de_meth (T := .list) PySem.F.plainAttrs_list PySem.F.slot_list_append PySem.F.type_list_append m_append (de_var 2) (da_cons (de_callT (c_listA rfl) c.n_list (da_cons (de_var 4) da_nil)) da_nil)))))))
  (dss_one (ds_ret (de_var 2)))))).frz
abbrev s_law : Stmt := top 58
def N_law : List Str := ["script", "pen", "wide", "row", "turn", "watch", "cut", "value", "text", "head", "again"]
theorem sc_law : FnScope N_law ["script"] (defScope s_law) := ⟨rfl, rfl, rfl, by decide +kernel, rfl, by decide +kernel, by decide +kernel⟩
def b_law : DenS := (sSeq (sSet 1 (dCallF den_u_law_open (aCons (dVar 0) aNil)))
  (sSeq (sSet 2 (dCallF den_u_law_wide_stock (aCons (dVar 1) aNil)))
  (sSeq (sFor (iOf (dSl (dCallF den_u_law_rows_of (aCons (dVar 2) (aCons (dCallF den_u_law_draw_cut (aCons (dVar 1) (aCons (dVar 2) aNil))) aNil))) pNone (pSome (dC (D.int 17))))) (gN 3) (sIf (tNotD (tTru (dCallF den_u_law_same (aCons (dCallF den_reach (aCons (dVar 2) (aCons (dVar 3) aNil))) (aCons (dCallF den_u_law_reach (aCons (dVar 2) (aCons (dVar 3) aNil))) aNil))))) (sRet (dC (D.bl false))) sNext))
  (sSeq (sFor (iRng rng1 (aCons (dC (D.int 3)) aNil)) (gN 4) (sSeq (sAsg (dCallF den_u_law_draw_watch (aCons (dVar 1) (aCons (dC (D.int 40)) aNil))) (gUn 2 (gsCons (gN 5) (gsCons (gN 6) gsNil))))
  (sSeq (sFor (iOf (dOp2 fAdd (dLst (aCons (dVar 5) aNil)) (dComp (iRng rng1 (aCons (dC (D.int 9)) aNil)) (gN 10) tYesD (dCallF den_u_law_near (aCons (dVar 1) (aCons (dVar 5) aNil))) [10]))) (gN 7) (sSeq (sSet 8 (dCall (pure1 fRepr) (aCons (dVar 7) aNil)))
  (sIf (tOrD (tNotD (tTru (dCallF den_u_law_same (aCons (dCallF den_is_watch (aCons (dVar 7) aNil)) (aCons (dCallF den_u_law_is_watch (aCons (dVar 7) aNil)) aNil))))) (asB (dOp2 fNeR (dCall (pure1 fRepr) (aCons (dVar 7) aNil)) (dVar 8)))) (sRet (dC (D.bl false))) sNext)))
  (sSeq (sFor (iOf (dSl (dCallF den_u_law_rows_of (aCons (dOp2 fIx (dVar 5) (dC (D.int 0))) (aCons (dVar 6) aNil))) pNone (pSome (dC (D.int 17))))) (gN 3) (sIf (tNotD (tTru (dCallF den_u_law_same (aCons (dCallF den_reach (aCons (dOp2 fIx (dVar 5) (dC (D.int 0))) (aCons (dVar 3) aNil))) (aCons (dCallF den_u_law_reach (aCons (dOp2 fIx (dVar 5) (dC (D.int 0))) (aCons (dVar 3) aNil))) aNil))))) (sRet (dC (D.bl false))) sNext))
  (sSeq (sSet 9 (dCallF den_u_law_draw_head (aCons (dVar 1) (aCons (dOp2 fIx (dVar 5) (dC (D.int 0))) (aCons (dVar 6) aNil)))))
  (sIf (tNotD (tTru (dCallF den_u_law_same (aCons (dCallF den_lengths (aCons (dVar 5) (aCons (dVar 9) aNil))) (aCons (dCallF den_u_law_lengths (aCons (dVar 5) (aCons (dOp2 fIx (dCallF den_u_law_layers (aCons (dOp2 fIx (dVar 5) (dC (D.int 0))) (aCons (dVar 9) aNil))) (dNeg (dC (D.int 1)))) aNil))) aNil))))) (sRet (dC (D.bl false))) sNext))))))
  (sRet (dC (D.bl true)))))))
def den_law : FD := frzD (bodyD 1 10 b_law)
theorem ok_law (c : All K mg) : OkF P w K mg base "law" ["script"] 14 den_law := (okf c.d_law sc_law fun cdv A outer s H E f hr => by
  have hu := hu_of hr
  have nd : N_law.Nodup := sc_law.nd
  unfold b_law
  exact (dss_cons (ds_set (i := 1) (de_fun (ok_u_law_open c) hr (da_cons (de_var 0) da_nil)) rfl (by first | exact Or.inl rfl | exact Or.inr rfl) nd)
  (dss_cons (ds_set (i := 2) (de_fun (ok_u_law_wide_stock c) hr (da_cons (de_var 1) da_nil)) rfl (by first | exact Or.inl rfl | exact Or.inr rfl) nd)
  (dss_cons (ds_for (vs := [3]) (di_of (de_slice (de_fun (ok_u_law_rows_of c) hr (da_cons (de_var 2) (da_cons (de_fun (ok_u_law_draw_cut c) hr (da_cons (de_var 1) (da_cons (de_var 2) da_nil))) da_nil))) dp_none (dp_some (de_int)))) (dg_name (i := 3) rfl (by first | exact Or.inl rfl | exact Or.inr rfl)) (dss_one (ds_if (dt_not (dt_tru (de_fun (ok_u_law_same c) hr (da_cons (de_fun (ok_reach c) hr (da_cons (de_var 2) (da_cons (de_var 3) da_nil))) (da_cons (de_fun (ok_u_law_reach c) hr (da_cons (de_var 2) (da_cons (de_var 3) da_nil))) da_nil))))) (dss_one (ds_ret (de_bl))) dss_nil)))
  (dss_cons (ds_for (vs := [4]) (di_range1 c.n_range (da_cons (de_int) da_nil)) (dg_name (i := 4) rfl (by first | exact Or.inl rfl | exact Or.inr rfl)) (dss_cons (ds_asg (vs := [5, 6]) (de_fun (ok_u_law_draw_watch c) hr (da_cons (de_var 1) (da_cons (de_int) da_nil))) (dg_tup (dgs_cons (dg_name (i := 5) rfl (by first | exact Or.inl rfl | exact Or.inr rfl)) (dgs_cons (dg_name (i := 6) rfl (by first | exact Or.inl rfl | exact Or.inr rfl)) dgs_nil))))
  (dss_cons (ds_for (vs := [7]) (di_of (de_op o_add (de_lst (da_cons (de_var 5) da_nil)) (de_cm (di_range1 c.n_range (da_cons (de_int) da_nil)) (blkOk_by (own := [("again", 10)]) (by rfl)) rfl nd (fun _ _ _ _ _ => (dg_name (i := 10) rfl (by first | exact Or.inl rfl | exact Or.inr rfl))) (fun _ _ _ _ _ => dts_nil) (fun _ _ _ _ _ => (de_fun (ok_u_law_near c) hr (da_cons (de_var 1) (da_cons (de_var 5) da_nil))))))) (dg_name (i := 7) rfl (by first | exact Or.inl rfl | exact Or.inr rfl)) (dss_cons (ds_set (i := 8) (de_callB (c_repr hu hr.gd) c.n_repr (da_cons (de_var 7) da_nil)) rfl (by first | exact Or.inl rfl | exact Or.inr rfl) nd)
  (dss_one (ds_if (dt_w (dw_or (dt_not (dt_tru (de_fun (ok_u_law_same c) hr (da_cons (de_fun (ok_is_watch c) hr (da_cons (de_var 7) da_nil)) (da_cons (de_fun (ok_u_law_is_watch c) hr (da_cons (de_var 7) da_nil)) da_nil))))) (dw_or1 (dt_cmp (o_neR hu) (de_callB (c_repr hu hr.gd) c.n_repr (da_cons (de_var 7) da_nil)) (de_var 8))))) (dss_one (ds_ret (de_bl))) dss_nil))))
  (dss_cons (ds_for (vs := [3]) (di_of (de_slice (de_fun (ok_u_law_rows_of c) hr (da_cons (de_ix (de_var 5) (de_int)) (da_cons (de_var 6) da_nil))) dp_none (dp_some (de_int)))) (dg_name (i := 3) rfl (by first | exact Or.inl rfl | exact Or.inr rfl)) (dss_one (ds_if (dt_not (dt_tru (de_fun (ok_u_law_same c) hr (da_cons (de_fun (ok_reach c) hr (da_cons (de_ix (de_var 5) (de_int)) (da_cons (de_var 3) da_nil))) (da_cons (de_fun (ok_u_law_reach c) hr (da_cons (de_ix (de_var 5) (de_int)) (da_cons (de_var 3) da_nil))) da_nil))))) (dss_one (ds_ret (de_bl))) dss_nil)))
  (dss_cons (ds_set (i := 9) (de_fun (ok_u_law_draw_head c) hr (da_cons (de_var 1) (da_cons (de_ix (de_var 5) (de_int)) (da_cons (de_var 6) da_nil)))) rfl (by first | exact Or.inl rfl | exact Or.inr rfl) nd)
  (dss_one (ds_if (dt_not (dt_tru (de_fun (ok_u_law_same c) hr (da_cons (de_fun (ok_lengths c) hr (da_cons (de_var 5) (da_cons (de_var 9) da_nil))) (da_cons (de_fun (ok_u_law_lengths c) hr (da_cons (de_var 5) (da_cons (de_ix (de_fun (ok_u_law_layers c) hr (da_cons (de_ix (de_var 5) (de_int)) (da_cons (de_var 9) da_nil))) (de_neg (de_int))) da_nil))) da_nil))))) (dss_one (ds_ret (de_bl))) dss_nil)))))))
  (dss_one (ds_ret (de_bl)))))))).frz
end
end K82
set_option Elab.async false
set_option linter.all false
set_option maxRecDepth 100000
set_option maxHeartbeats 4000000
namespace K82
open PySem DL
theorem s64 {i : Int} (h1 : -18446744073709551616 < i) (h2 : i < 18446744073709551616) : small64 i = true := decide_eq_true ⟨h1, h2⟩
theorem at_lt {α : Type} {xs : List α} {i : Int} (h0 : 0 ≤ i) (h : i < xs.length) : ∃ x, xs[i.toNat]? = some x ∧ L2.atI xs i = some x := by
  have : i.toNat < xs.length := by omega
  refine ⟨_, List.getElem?_eq_getElem this, ?_⟩
  have := at_nat (List.getElem?_eq_getElem this)
  rwa [Int.toNat_of_nonneg h0] at this
theorem at_mem {α : Type} {xs : List α} {i : Int} (h0 : 0 ≤ i) (h : i < xs.length) : ∃ x ∈ xs, L2.atI xs i = some x := by
  obtain ⟨x, h1, h2⟩ := at_lt h0 h
  exact ⟨x, List.mem_of_getElem? h1, h2⟩
def primesL : List Int := [2147483629, 2147483587, 2147483579, 2147483563, 2147483549, 2147483543, 2147483497, 2147483489, 2147483477, 2147483423, 2147483399, 2147483353, 2147483323]
theorem prime_at (i : Int) : ∃ p : Int, 0 < p ∧ p < 2147483648 ∧ L2.atI (primesL.map D.int) (i % 13) = some (.int p) := by
  obtain ⟨x, hx, e⟩ := at_mem (xs := primesL.map D.int) (i := i % 13) (by omega) (by show i % 13 < 13; omega)
  obtain ⟨p, hp, rfl⟩ := List.mem_map.mp hx
  have h : ∀ p ∈ primesL, 0 < p ∧ p < 2147483648 := by decide
  exact ⟨p, (h p hp).1, (h p hp).2, e⟩
theorem spread_eq {cell at' : Int} {st : Store} (hc : clS st = true) (h0 : 0 ≤ at') (h1 : at' ≤ 1000000) : ∃ r : Int, 0 ≤ r ∧ den_u_law_spread [.int cell, .int at'] st = some (.int r, st) := by
  by_cases hb : 1000000000000000000 ≤ cell
  · refine ⟨cell, by omega, frz_id ?_ rfl hc rfl⟩
    simp [b_u_law_spread, hb, s64]
  · obtain ⟨p1, a1, b1, e1⟩ := prime_at at'
    obtain ⟨p2, a2, b2, e2⟩ := prime_at (at' + 5)
    obtain ⟨p3, a3, b3, e3⟩ := prime_at (at' + 7)
    have c1 : 0 ≤ cell % 1000000007 ∧ cell % 1000000007 < 1000000007 := by omega
    have c2 : 0 ≤ cell % 65537 ∧ cell % 65537 < 65537 := by omega
    have m1 : 0 ≤ cell % 1000000007 * (2 * at' + 69069) := Int.mul_nonneg c1.1 (by omega)
    have m2 : cell % 1000000007 * (2 * at' + 69069) ≤ 1000000007 * 2069069 := Int.mul_le_mul (by omega) (by omega) (by omega) (by omega)
    have g1 : small64 (2 * at' + 69069) = true := s64 (by omega) (by omega)
    have g2 : small64 (cell % 1000000007 * (2 * at' + 69069) + at' * 40503 + 977) = true := s64 (by omega) (by omega)
    obtain ⟨u, hu⟩ : ∃ u : Int, u = (cell % 1000000007 * (2 * at' + 69069) + at' * 40503 + 977) ^ 3 % p1 := ⟨_, rfl⟩
    have hu1 : 0 ≤ u ∧ u < p1 := by rw [hu]; exact ⟨Int.emod_nonneg _ (by omega), Int.emod_lt_of_pos _ a1⟩
    have m3 : 0 ≤ u * (at' + 3) := Int.mul_nonneg hu1.1 (by omega)
    have m4 : u * (at' + 3) ≤ 2147483648 * 1000003 := Int.mul_le_mul (by omega) (by omega) (by omega) (by omega)
    have g3 : small64 (at' + 3) = true := s64 (by omega) (by omega)
    have g4 : small64 (u * (at' + 3) + cell % 65537 + 5) = true := s64 (by omega) (by omega)
    obtain ⟨v, hv⟩ : ∃ v : Int, v = (u * (at' + 3) + cell % 65537 + 5) ^ 5 % p2 := ⟨_, rfl⟩
    have hv1 : 0 ≤ v ∧ v < p2 := by rw [hv]; exact ⟨Int.emod_nonneg _ (by omega), Int.emod_lt_of_pos _ a2⟩
    have g5 : small64 (v + u % 1009 + at') = true := s64 (by omega) (by omega)
    obtain ⟨w, hw⟩ : ∃ w : Int, w = (v + u % 1009 + at') ^ 3 % p3 := ⟨_, rfl⟩
    have hw1 : 0 ≤ w := by rw [hw]; exact Int.emod_nonneg _ (by omega)
    simp [primesL] at e1 e2 e3
    refine ⟨(u * 2147483647 + v) * 2147483647 + w, by have := Int.mul_nonneg (show 0 ≤ u * 2147483647 + v by omega) (show (0 : Int) ≤ 2147483647 by decide); omega, frz_id ?_ rfl hc rfl⟩
    simp [b_u_law_spread, hb, s64, g1, g2, e1, a1, ← hu, g3, g4, e2, a2, ← hv, g5, e3, a3, ← hw]
end K82
set_option Elab.async false
set_option linter.all false
set_option maxRecDepth 100000
set_option maxHeartbeats 4000000
namespace K82
open PySem DL
/-- the pen: its cells, where it stands (at most a), what is left of the number at hand -/
inductive Pen (a : Int) : Store → Prop
  | mk (cells : List Int) (at' v : Int) : 0 ≤ at' → at' ≤ a → 0 ≤ v → Pen a [.lst (cells.map .int), .lst [.ref 0, .int at', .int v]]
theorem Pen.mono {a b : Int} {st : Store} (h : Pen a st) (l : a ≤ b) : Pen b st := by
  cases h with
  | mk c t v h1 h2 h3 => exact .mk c t v h1 (by omega) h3
theorem Pen.len {a : Int} {st : Store} (h : Pen a st) : st.length = 2 := by cases h; rfl
theorem bels_ints : ∀ (n : Nat) (c : List Int), bels n (c.map .int) = true
  | n, [] => rfl
  | n, x :: c => by rw [List.map_cons, bels, bels_ints n c]; rfl
theorem cl_split {a b : Store} (h : clS (a ++ b) = true) : b.all (belO (a ++ b).length) = true := by
  unfold clS at h
  rw [List.all_append, Bool.and_eq_true] at h
  exact h.2
theorem Pen.cl {a b : Int} {st st' more : Store} (h : Pen a st) (h' : Pen b st') (c : clS (st ++ more) = true) : clS (st' ++ more) = true := by
  have e : (st' ++ more).length = (st ++ more).length := by rw [List.length_append, List.length_append, h.len, h'.len]
  unfold clS
  rw [List.all_append, e, cl_split c, Bool.and_true]
  cases h' with
  | mk c t v h1 h2 h3 =>
    have : 2 ≤ (st ++ more).length := by rw [List.length_append, h.len]; omega
    simp only [List.all_cons, List.all_nil, belO, bels_ints, bels, bel, Bool.and_true, Bool.true_and, decide_eq_true_eq]
    omega
theorem take_eq {a m : Int} {st more : Store} (h : Pen a st) (ha : a ≤ 900000) (hc : clS (st ++ more) = true) (h1 : 1 ≤ m) (h2 : m < 1073741824) :
    ∃ (x : Int) (st' : Store), 0 ≤ x ∧ x < m ∧ Pen (a + 1) st' ∧ den_u_law_take [.ref 1, .int m] (st ++ more) = some (.int x, st' ++ more) := by
  obtain ⟨cells, t, v, q1, q2, q3⟩ := h
  have hp : Pen a [.lst (cells.map .int), .lst [.ref 0, .int t, .int v]] := ⟨cells, t, v, q1, q2, q3⟩
  by_cases hv : v < m
  · have hc1 : clS ([.lst (cells.map .int), .lst [.ref 0, .int (t + 1), .int v]] ++ more) = true := hp.cl (b := t + 1) ⟨cells, t + 1, v, by omega, by omega, q3⟩ hc
    have fz : ∀ r : Int, 0 ≤ r → bodyD 2 3 b_u_law_take [.ref 1, .int m] ([.lst (cells.map .int), .lst [.ref 0, .int t, .int v]] ++ more) = some (.int (r % m), [.lst (cells.map .int), .lst [.ref 0, .int (t + 1), .int (r / m)]] ++ more) →
        den_u_law_take [.ref 1, .int m] ([.lst (cells.map .int), .lst [.ref 0, .int t, .int v]] ++ more) = some (.int (r % m), [.lst (cells.map .int), .lst [.ref 0, .int (t + 1), .int (r / m)]] ++ more) := fun r r0 h =>
      frz_id h (by simp) (hp.cl ⟨cells, t + 1, r / m, by omega, Int.le_refl _, Int.ediv_nonneg r0 (by omega)⟩ hc) rfl
    have fin2 : ∀ cell : Int, (∀ r : Int, den_u_law_spread [.int cell, .int t] ([.lst (cells.map .int), .lst [.ref 0, .int (t + 1), .int v]] ++ more) = some (.int r, [.lst (cells.map .int), .lst [.ref 0, .int (t + 1), .int v]] ++ more) →
        bodyD 2 3 b_u_law_take [.ref 1, .int m] ([.lst (cells.map .int), .lst [.ref 0, .int t, .int v]] ++ more) = some (.int (r % m), [.lst (cells.map .int), .lst [.ref 0, .int (t + 1), .int (r / m)]] ++ more)) →
        ∃ (x : Int) (st' : Store), 0 ≤ x ∧ x < m ∧ Pen (a + 1) st' ∧ den_u_law_take [.ref 1, .int m] ([.lst (cells.map .int), .lst [.ref 0, .int t, .int v]] ++ more) = some (.int x, st' ++ more) := fun cell k => by
      obtain ⟨r, r0, hr⟩ := spread_eq (cell := cell) hc1 q1 (by omega)
      exact ⟨r % m, _, Int.emod_nonneg _ (by omega), Int.emod_lt_of_pos _ (by omega), ⟨cells, t + 1, r / m, by omega, by omega, Int.ediv_nonneg r0 (by omega)⟩, fz r r0 (k r hr)⟩
    by_cases c1 : t < cells.length
    · obtain ⟨x, hx, e⟩ := at_lt (xs := cells.map D.int) q1 (by simpa using c1)
      obtain ⟨c, hcm, rfl⟩ : ∃ c, cells[t.toNat]? = some c ∧ x = D.int c := by
        rw [List.getElem?_map] at hx
        obtain ⟨c, h1, h2⟩ := Option.map_eq_some_iff.mp hx
        exact ⟨c, h1, h2.symm⟩
      refine fin2 c fun r hr => ?_
      have hr' : den_u_law_spread [.int c, .int t] (.lst (cells.map .int) :: .lst [.ref 0, .int (t + 1), .int v] :: more) = some (.int r, .lst (cells.map .int) :: .lst [.ref 0, .int (t + 1), .int v] :: more) := hr
      simp [b_u_law_take, hv, L2.ixN, c1, e, hr', show 0 < m by omega, h2]
    · by_cases c2 : 0 < cells.length
      · obtain ⟨x, hx, e⟩ := at_lt (xs := cells.map D.int) (i := (t * 5 + 3) % cells.length) (Int.emod_nonneg _ (by omega)) (by rw [List.length_map]; exact Int.emod_lt_of_pos _ (by omega))
        obtain ⟨c, hcm, rfl⟩ : ∃ c, cells[((t * 5 + 3) % cells.length).toNat]? = some c ∧ x = D.int c := by
          rw [List.getElem?_map] at hx
          obtain ⟨c, h1, h2⟩ := Option.map_eq_some_iff.mp hx
          exact ⟨c, h1, h2.symm⟩
        refine fin2 (c % (100000000000000000 + t)) fun r hr => ?_
        have hr' : den_u_law_spread [.int (c % (100000000000000000 + t)), .int t] (.lst (cells.map .int) :: .lst [.ref 0, .int (t + 1), .int v] :: more) = some (.int r, .lst (cells.map .int) :: .lst [.ref 0, .int (t + 1), .int v] :: more) := hr
        simp [b_u_law_take, hv, L2.ixN, c1, c2, e, hr', show 0 < m by omega, h2, s64, show 0 < 100000000000000000 + t by omega]
      · refine fin2 0 fun r hr => ?_
        have hr' : den_u_law_spread [.int 0, .int t] (.lst (cells.map .int) :: .lst [.ref 0, .int (t + 1), .int v] :: more) = some (.int r, .lst (cells.map .int) :: .lst [.ref 0, .int (t + 1), .int v] :: more) := hr
        have c3 : cells = [] := List.length_eq_zero_iff.mp (by omega)
        subst c3
        simp [b_u_law_take, hv, L2.ixN, hr', show 0 < m by omega, h2] at hr' ⊢
        simp [hr', show ¬ t < 0 by omega, h2, show 0 < m by omega, L2.ixN]
  · refine ⟨v % m, [.lst (cells.map .int), .lst [.ref 0, .int t, .int (v / m)]], Int.emod_nonneg _ (by omega), Int.emod_lt_of_pos _ (by omega), ⟨cells, t, v / m, q1, by omega, Int.ediv_nonneg q3 (by omega)⟩, ?_⟩
    refine frz_id ?_ (by simp) (hp.cl ⟨cells, t, v / m, q1, q2, Int.ediv_nonneg q3 (by omega)⟩ hc) rfl
    simp [b_u_law_take, hv, L2.ixN, show 0 < m by omega, h2]
end K82
set_option Elab.async false
set_option linter.all false
set_option maxRecDepth 100000
set_option maxHeartbeats 4000000
namespace K82
open PySem DL
theorem one_gen {a : Int} {st more : Store} {L : D} {n : Nat} (h : Pen a st) (ha : a ≤ 900000) (hc : clS (st ++ more) = true) (h1 : 1 ≤ n) (h2 : n ≤ 16777216)
    (hl : ∀ st' : Store, Pen (a + 1) st' → fLen (st ++ more) L = some (.int n)) (P : D → Prop) (hx : ∀ (st' : Store) (i : Int), Pen (a + 1) st' → 0 ≤ i → i < n → ∃ x, P x ∧ bel (st ++ more).length x = true ∧ fIx (st' ++ more) L (.int i) = some x) :
    ∃ (x : D) (st' : Store), P x ∧ Pen (a + 1) st' ∧ den_u_law_one_of [.ref 1, L] (st ++ more) = some (x, st' ++ more) := by
  obtain ⟨i, st', i0, i1, p, e⟩ := take_eq (m := n) h ha hc (by omega) (by omega)
  obtain ⟨x, px, bx, ex⟩ := hx st' i p i0 i1
  refine ⟨x, st', px, p, frz_id ?_ (by rw [List.length_append, List.length_append, p.len, h.len]) (h.cl p hc) bx⟩
  simp [b_u_law_one_of, hl st' p, e, ex]
/-- one of a list -/
theorem one_lst {a : Int} {st more : Store} {xs : List D} (h : Pen a st) (ha : a ≤ 900000) (hc : clS (st ++ more) = true) (h1 : xs ≠ []) (h2 : xs.length ≤ 16777216) (hb : bels (st ++ more).length xs = true) :
    ∃ (x : D) (st' : Store), x ∈ xs ∧ Pen (a + 1) st' ∧ den_u_law_one_of [.ref 1, .lst xs] (st ++ more) = some (x, st' ++ more) := by
  refine one_gen (n := xs.length) h ha hc ?_ h2 (fun _ _ => rfl) (· ∈ xs) fun st' i p i0 i1 => ?_
  · cases xs with
    | nil => exact absurd rfl h1
    | cons => simp
  · obtain ⟨x, hx, e⟩ := at_mem i0 i1
    exact ⟨x, hx, bels_mem hb x hx, e⟩
/-- a sign of a text -/
theorem one_str {a : Int} {st more : Store} {z : List Nat} (h : Pen a st) (ha : a ≤ 900000) (hc : clS (st ++ more) = true) (h1 : z ≠ []) (h2 : z.length ≤ 16777216) :
    ∃ (c : Nat) (st' : Store), c ∈ z ∧ Pen (a + 1) st' ∧ den_u_law_one_of [.ref 1, .str z] (st ++ more) = some (.str [c], st' ++ more) := by
  obtain ⟨x, st', ⟨c, hc, rfl⟩, p, e⟩ := one_gen (n := z.length) (L := .str z) h ha hc (by cases z with | nil => exact absurd rfl h1 | cons => simp) h2 (fun _ _ => by simp [h2]) (fun x => ∃ c ∈ z, x = .str [c]) fun st' i p i0 i1 => by
    obtain ⟨c, hc, e⟩ := at_mem i0 i1
    exact ⟨_, ⟨c, hc, rfl⟩, rfl, by simp [h2, e]⟩
  exact ⟨c, st', hc, p, e⟩
def az : List Nat := [97, 98, 99, 100, 101, 102, 103, 104, 105, 106, 107, 108, 109, 110, 111, 112, 113, 114, 115, 116, 117, 118, 119, 120, 121, 122]
theorem letters_eq {st : Store} (hc : clS st = true) : den_u_law_letters [] st = some (.str az, st) := by
  refine frz_id ?_ rfl hc rfl
  simp [b_u_law_letters, az]
/-! ### a loop of draws -/
/-- a comprehension that draws: each turn costs at most c -/
theorem compL_draw {g : DenG} {tt : DenT} {te : Den} {envW : DL.Env} {more : Store} {c : Int} (c0 : 0 ≤ c) (P : D → Prop) : ∀ (ds : List D) {a : Int} {st : Store}, Pen a st → clS (st ++ more) = true →
    (∀ d ∈ ds, ∀ (b : Int) (st : Store), b ≤ a + c * ds.length - c → Pen b st → clS (st ++ more) = true → ∃ (e : DL.Env) (y : D) (st' : Store), P y ∧ Pen (b + c) st' ∧ g d envW (st ++ more) = some (e, st ++ more) ∧ tt e (st ++ more) = some (true, st ++ more) ∧ te e (st ++ more) = some (y, st' ++ more)) →
    ∃ (ys : List D) (st' : Store), ys.length = ds.length ∧ (∀ y ∈ ys, P y) ∧ Pen (a + c * ds.length) st' ∧ compL yesS g tt te envW ds (st ++ more) = some (ys, st' ++ more)
  | [], a, st, p, _, _ => ⟨[], st, rfl, (fun _ h => by cases h), by simpa using p, by simp [compL]⟩
  | d :: ds, a, st, p, hc, k => by
    have hl : ((d :: ds).length : Int) = ds.length + 1 := by simp
    have m0 : 0 ≤ c * ds.length := Int.mul_nonneg c0 (by omega)
    have hm : c * ((d :: ds).length : Int) = c * ds.length + c := by rw [hl, Int.mul_add, Int.mul_one]
    obtain ⟨e, y, st1, py, p1, e1, e2, e3⟩ := k d List.mem_cons_self a st (by omega) p hc
    obtain ⟨ys, st2, l2, P2, p2, e4⟩ := compL_draw c0 P ds p1 (p.cl p1 hc) fun d' hd b s hb => k d' (List.mem_cons_of_mem _ hd) b s (by omega)
    refine ⟨y :: ys, st2, by simp [l2], fun z hz => ?_, ?_, ?_⟩
    · rcases List.mem_cons.mp hz with rfl | hz
      · exact py
      · exact P2 z hz
    · rw [hm]
      have e5 : a + (c * ds.length + c) = a + c + c * ds.length := by omega
      rw [e5]; exact p2
    · rw [compL]
      simp [e1, e2, e3, e4]
end K82
set_option Elab.async false
set_option linter.all false
set_option maxRecDepth 100000
set_option maxHeartbeats 4000000
namespace K82
open PySem DL
theorem strsD_sg : ∀ cs : List Nat, strsD (cs.map sg) = some (cs.map fun c => [c])
  | [] => rfl
  | c :: cs => by rw [List.map_cons, sg, strsD, strsD_sg cs]; rfl
theorem join_nil : ∀ cs : List Nat, joinL [] (cs.map fun c => [c]) = cs
  | [] => rfl
  | c :: cs => by
    rw [List.map_cons, joinL]
    have : ∀ l : List Nat, ((l.map fun c => [c]).map (([] : List Nat) ++ ·)).flatten = l := by
      intro l
      induction l with
      | nil => rfl
      | cons x l ih => simp at ih ⊢; exact ih
    rw [this]; rfl
theorem sum_ones : ∀ cs : List Nat, ((cs.map fun c => [c]).map List.length).sum = cs.length
  | [] => rfl
  | c :: cs => by
    rw [List.map_cons, List.map_cons, List.sum_cons, sum_ones cs]
    simp; omega
theorem join_sg {st : Store} {cs : List Nat} (h : cs.length ≤ 16777216) : mJoin st (.str []) [.lst (cs.map sg)] = some (.str cs, st) := by
  show ((itemsOf st (.lst (cs.map sg))).bind fun es => (strsD es).bind fun ss => if (ss.map List.length).sum + ss.length * ([] : List Nat).length ≤ 16777216 then some (D.str (joinL [] ss), st) else none) = _
  rw [it_lst]
  show ((strsD (cs.map sg)).bind _) = _
  rw [strsD_sg]
  show (if _ then _ else _) = _
  rw [sum_ones, join_nil, if_pos (by simpa using h)]
theorem sgs_of {z : List Nat} : ∀ {ys : List D}, (∀ y ∈ ys, ∃ c ∈ z, y = sg c) → ∃ cs : List Nat, ys = cs.map sg ∧ ∀ c ∈ cs, c ∈ z
  | [], _ => ⟨[], rfl, by simp⟩
  | y :: ys, h => by
    obtain ⟨c, hc, rfl⟩ := h y List.mem_cons_self
    obtain ⟨cs, rfl, k⟩ := sgs_of (ys := ys) fun y hy => h y (List.mem_cons_of_mem _ hy)
    exact ⟨c :: cs, rfl, fun x hx => by
      rcases List.mem_cons.mp hx with rfl | hx
      · exact hc
      · exact k x hx⟩
theorem range_len (lo : Int) (n : Nat) : (rangeD lo n).length = n := by simp [rangeD]
/-! ### stocks -/
structure R where
  s : List Nat
  l : Int
  t : Bool
def R.d (r : R) : D := .tup [.str r.s, .int r.l, .bl r.t]
structure R.Ok (r : R) : Prop where
  pos : 1 ≤ r.s.length
  len : r.s.length ≤ 10
  l0 : 0 ≤ r.l
  l1 : r.l ≤ r.s.length
  cs : ∀ c ∈ r.s, c < 1000
def stockD (rs : List R) : D := .tup (rs.map R.d)
def Stock (rs : List R) : Prop := (∀ r ∈ rs, r.Ok) ∧ 1 ≤ rs.length ∧ rs.length ≤ 4
theorem cut_to {α : Type} (xs : List α) (n : Nat) : cutL xs none (some (n : Int)) = xs.take n := by
  unfold cutL HT.sIx
  simp only [Nat.sub_zero]
  rw [if_neg (by omega)]
  show (List.drop 0 xs).take (min n xs.length - 0) = _
  rw [List.drop_zero, Nat.sub_zero]
  by_cases h : n ≤ xs.length
  · rw [Nat.min_eq_left h]
  · rw [Nat.min_eq_right (by omega), List.take_length, List.take_of_length_le (by omega)]
@[simp] theorem cut_lit {α : Type} (xs : List α) (n : Nat) : cutL xs none (some (no_index (OfNat.ofNat n : Int))) = xs.take n := cut_to xs n
theorem bel_stock (n : Nat) (rs : List R) : bel n (stockD rs) = true := by
  show bels n (rs.map R.d) = true
  exact bels_of fun d hd => by
    obtain ⟨r, _, rfl⟩ := List.mem_map.mp hd
    rfl
theorem wide_eq {a : Int} {st more : Store} (h : Pen a st) (ha : a ≤ 800000) (hc : clS (st ++ more) = true) :
    ∃ (rs : List R) (st' : Store), Stock rs ∧ Pen (a + 21) st' ∧ den_u_law_wide_stock [.ref 1] (st ++ more) = some (stockD rs, st' ++ more) := by
  have hinner : ∀ (b : Int) (st : Store) (x : D), b ≤ 850000 → Pen b st → clS (st ++ more) = true → ∃ (cs : List Nat) (st' : Store), cs.length = 10 ∧ (∀ c ∈ cs, c < 1000) ∧ Pen (b + 10) st' ∧
      compL yesS (gN 5) tYesD (dCallF den_u_law_one_of (aCons (dVar 0) (aCons (dC (D.str [97, 98, 99])) aNil))) [some (D.ref 1), none, none, none, some x, none] (rangeD 0 10) (st ++ more) = some (cs.map sg, st' ++ more) := fun b st x hb p hc => by
    obtain ⟨ys, st1, l, P, p1, e⟩ := compL_draw (more := more) (c := 1) (g := gN 5) (tt := tYesD) (te := dCallF den_u_law_one_of (aCons (dVar 0) (aCons (dC (D.str [97, 98, 99])) aNil))) (envW := [some (D.ref 1), none, none, none, some x, none]) (by omega) (fun y => ∃ c ∈ [97, 98, 99], y = sg c) (rangeD 0 10) p hc fun d hd b' s hb' p' hc' => by
      rw [range_len] at hb'
      obtain ⟨c, s', hcm, p2, e⟩ := one_str (z := [97, 98, 99]) p' (by omega) hc' (by simp) (by simp)
      exact ⟨_, _, s', ⟨c, hcm, rfl⟩, p2, rfl, rfl, by simp [e, sg]⟩
    obtain ⟨cs, rfl, k⟩ := sgs_of P
    rw [range_len] at p1
    refine ⟨cs, st1, by rw [← List.length_map (f := sg), l, range_len], fun c hcm => ?_, p1, e⟩
    have := k c hcm
    simp at this
    omega
  obtain ⟨ys, st1, l, P, p1, e⟩ := compL_draw (more := more) (c := 10) (g := gN 4) (tt := tYesD) (te := dMeth .str mJoin (dC (D.str [])) (aCons (dComp (iRng rng1 (aCons (dC (D.int 10)) aNil)) (gN 5) tYesD (dCallF den_u_law_one_of (aCons (dVar 0) (aCons (dC (D.str [97, 98, 99])) aNil))) [5]) aNil))
    (envW := [some (D.ref 1), none, none, none, none, none]) (by omega) (fun y => ∃ cs : List Nat, y = .str cs ∧ cs.length = 10 ∧ ∀ c ∈ cs, c < 1000) (rangeD 0 2) h hc fun d hd b s hb p' hc' => by
      rw [range_len] at hb
      obtain ⟨cs, s', hl, hk, p2, e⟩ := hinner b s d (by omega) p' hc'
      refine ⟨_, _, s', ⟨cs, rfl, hl, hk⟩, p2, rfl, rfl, ?_⟩
      simp [rng1, small62, e, hl, join_sg (cs := cs)]
  rw [range_len] at l p1
  match ys, l, P, e with
  | [y1, y2], l, P, e =>
    obtain ⟨c1, rfl, l1, k1⟩ := P y1 (by simp)
    obtain ⟨c2, rfl, l2, k2⟩ := P y2 (by simp)
    obtain ⟨x, st2, hx, p2, e2⟩ := one_lst (xs := [[⟨c1, 2, false⟩, ⟨c2, 1, false⟩], [⟨c1, 0, true⟩, ⟨c2, 2, false⟩], [⟨c1, 9, false⟩, ⟨c2.take 6, 0, false⟩], [⟨c1, 1, true⟩, ⟨c2.take 5, 2, false⟩], [⟨c1.take 4, 4, true⟩, ⟨c2.take 3, 0, true⟩, ⟨c2.take 2, 0, false⟩]].map stockD) p1 (by omega) (h.cl p1 hc) (by simp) (by simp) rfl
    obtain ⟨rs, hrs, rfl⟩ := List.mem_map.mp hx
    refine ⟨rs, st2, ?_, p2.mono (by omega), frz_id ?_ (by rw [List.length_append, List.length_append, p2.len, h.len]) (h.cl p2 hc) ?_⟩
    · have kt : ∀ n, ∀ c ∈ c2.take n, c < 1000 := fun n c hm => k2 c (List.mem_of_mem_take hm)
      have kt1 : ∀ n, ∀ c ∈ c1.take n, c < 1000 := fun n c hm => k1 c (List.mem_of_mem_take hm)
      have ok : ∀ (z : List Nat) (l : Int) (t : Bool), 1 ≤ z.length → z.length ≤ 10 → 0 ≤ l → l ≤ z.length → (∀ c ∈ z, c < 1000) → R.Ok ⟨z, l, t⟩ := fun _ _ _ a b c d e => ⟨a, b, c, d, e⟩
      simp only [List.mem_cons, List.not_mem_nil, or_false] at hrs
      rcases hrs with rfl | rfl | rfl | rfl | rfl
      all_goals
        refine ⟨fun r hr => ?_, by simp, by simp⟩
        simp only [List.mem_cons, List.not_mem_nil, or_false] at hr
        rcases hr with rfl | rfl | rfl <;> refine ok _ _ _ ?_ ?_ ?_ ?_ ?_ <;> first | exact k1 | exact k2 | exact kt _ | exact kt1 _ | (simp [l1, l2]; done) | (simp [l1, l2]; omega)
    · simp [stockD, R.d] at e2
      simp [b_u_law_wide_stock, rng1, small62, e, cut_to, l1, l2, e2]
      simp [stockD]
    · exact bel_stock _ _
end K82
set_option Elab.async false
set_option linter.all false
set_option maxRecDepth 100000
set_option maxHeartbeats 4000000
namespace K82
open PySem DL
/-! ### runs -/
structure U where
  u : Int
  a : Int
  w : Int
  deriving DecidableEq
def U.d (x : U) : D := .tup [.int x.u, .int x.a, .int x.w]
def optU : Option U → D
  | some x => x.d
  | none => .non
def R.n (r : R) : Int := r.s.length
def R.left (r : R) (x : U) : Int := if x.u = 0 then 0 else if x.u = 1 then (if r.t then min x.a (r.n - 1 - x.a) else x.a) else if x.w = 1 then x.a + 1 - x.u else r.n - x.a - x.u
def R.fit (r : R) (f : U) : Option U := if r.left f ≤ r.l then some f else none
def R.on (r : R) (x : U) (p : Int) : Option U :=
  if x.u = 0 then r.fit ⟨1, p, 0⟩
  else if p = x.a then none
  else if x.a < p then (if x.w = -1 then none else r.fit ⟨x.u + 1, p, 1⟩)
  else if x.w = 1 ∨ r.t = false then none else r.fit ⟨x.u + 1, p, -1⟩
def W3 (x : U) : Prop := x.w = -1 ∨ x.w = 0 ∨ x.w = 1
section
variable {r : R} {x : U} {st : Store} {p : Int}
theorem left1_eq (hs : r.s.length ≤ 16777216) (hc : clS st = true) : den_left_out [r.d, x.d] st = some (.int (r.left x), st) := by
  obtain ⟨s, l, t⟩ := r
  obtain ⟨u, a, w⟩ := x
  refine frz_id ?_ rfl hc rfl
  simp only [R.d, U.d, R.left, R.n] at *
  by_cases h0 : u = 0
  · simp [b_left_out, h0]
  by_cases h1 : u = 1
  · cases t <;> simp [b_left_out, h1, hs]
  by_cases h2 : w = 1 <;> simp [b_left_out, h0, h1, h2, hs]
theorem left2_eq (hs : r.s.length ≤ 16777216) (hc : clS st = true) : den_u_law_left [r.d, x.d] st = some (.int (r.left x), st) := by
  obtain ⟨s, l, t⟩ := r
  obtain ⟨u, a, w⟩ := x
  refine frz_id ?_ rfl hc rfl
  simp only [R.d, U.d, R.left, R.n] at *
  by_cases h0 : u = 0
  · simp [b_u_law_left, h0]
  by_cases h1 : u = 1
  · cases t <;> simp [b_u_law_left, h1, hs]
  by_cases h2 : w = 1 <;> simp [b_u_law_left, h0, h1, h2, hs]
theorem optU_if (f : U) : (if r.left f ≤ r.l then f.d else D.non) = optU (r.fit f) := by
  unfold R.fit
  split <;> rfl
theorem bel_optU (n : Nat) (o : Option U) : bel n (optU o) = true := by
  cases o <;> rfl
theorem run_on_eq (hs : r.s.length ≤ 16777216) (hx : W3 x) (hc : clS st = true) : den_u_law_run_on [r.d, x.d, .int p] st = some (optU (r.on x p), st) := by
  have L : ∀ f : U, den_u_law_left [r.d, .tup [.int f.u, .int f.a, .int f.w]] st = some (.int (r.left f), st) := fun f => left2_eq (x := f) hs hc
  refine frz_id ?_ rfl hc (bel_optU _ _)
  obtain ⟨s, l, t⟩ := r
  obtain ⟨u, a, w⟩ := x
  unfold R.on
  simp only [R.d, U.d] at *
  by_cases h0 : u = 0
  · have L1 := L ⟨1, p, 0⟩
    simp only at L1
    by_cases hf : R.left ⟨s, l, t⟩ ⟨1, p, 0⟩ ≤ l <;> simp [b_u_law_run_on, h0, L1, R.fit, hf, optU, U.d]
  by_cases h1 : p = a
  · simp [b_u_law_run_on, h0, h1, optU]
  by_cases h2 : a < p
  · have L1 := L ⟨u + 1, p, 1⟩
    simp only at L1
    by_cases hf : R.left ⟨s, l, t⟩ ⟨u + 1, p, 1⟩ ≤ l <;> rcases hx with h | h | h <;> simp only at h <;> subst h <;> simp [b_u_law_run_on, h0, h1, h2, L1, R.fit, hf, optU, U.d]
  · have L1 := L ⟨u + 1, p, -1⟩
    simp only at L1
    by_cases hf : R.left ⟨s, l, t⟩ ⟨u + 1, p, -1⟩ ≤ l <;> rcases hx with h | h | h <;> simp only at h <;> subst h <;> cases t <;> simp [b_u_law_run_on, h0, h1, h2, L1, R.fit, hf, optU, U.d]
theorem run_after_eq (hs : r.s.length ≤ 16777216) (hx : W3 x) (hc : clS st = true) : den_run_after [r.d, x.d, .int p] st = some (optU (r.on x p), st) := by
  have L : ∀ f : U, den_left_out [r.d, .tup [.int f.u, .int f.a, .int f.w]] st = some (.int (r.left f), st) := fun f => left1_eq (x := f) hs hc
  refine frz_id ?_ rfl hc (bel_optU _ _)
  obtain ⟨s, l, t⟩ := r
  obtain ⟨u, a, w⟩ := x
  unfold R.on
  simp only [R.d, U.d] at *
  by_cases h0 : u = 0
  · have L1 := L ⟨1, p, 0⟩
    simp only at L1
    by_cases hf : R.left ⟨s, l, t⟩ ⟨1, p, 0⟩ ≤ l <;> simp [b_run_after, h0, L1, R.fit, hf, optU, U.d]
  by_cases h1 : p = a
  · simp [b_run_after, h0, h1, optU]
  by_cases h2 : a < p
  · have L1 := L ⟨u + 1, p, 1⟩
    simp only at L1
    have q1 : ¬ (p - a < 0) := by omega
    have q2 : a - p < 0 := by omega
    by_cases hf : R.left ⟨s, l, t⟩ ⟨u + 1, p, 1⟩ ≤ l <;> rcases hx with h | h | h <;> simp only at h <;> subst h <;> simp [b_run_after, h0, h1, h2, q1, q2, L1, R.fit, hf, optU, U.d, s64, show ¬ p < a by omega, Int.neg_mul]
  · have L1 := L ⟨u + 1, p, -1⟩
    simp only at L1
    have q1 : p - a < 0 := by omega
    have q2 : ¬ (a - p < 0) := by omega
    by_cases hf : R.left ⟨s, l, t⟩ ⟨u + 1, p, -1⟩ ≤ l <;> rcases hx with h | h | h <;> simp only at h <;> subst h <;> cases t <;> simp [b_run_after, h0, h1, h2, q1, q2, L1, R.fit, hf, optU, U.d, s64, show p < a by omega, Int.neg_mul]
end
end K82
set_option Elab.async false
set_option linter.all false
set_option maxRecDepth 100000
set_option maxHeartbeats 4000000
namespace K82
open PySem DL
/-- a comprehension without draws -/
theorem compL_pure {ck : Store → Bool} {g : DenG} {tt : DenT} {te : Den} {envW : DL.Env} {st : Store} (hck : ck st = true) (f : D → Option D) : ∀ (ds : List D),
    (∀ d ∈ ds, ∃ e : DL.Env, g d envW st = some (e, st) ∧ ((f d = none ∧ tt e st = some (false, st)) ∨ ∃ y, f d = some y ∧ tt e st = some (true, st) ∧ te e st = some (y, st))) →
    compL ck g tt te envW ds st = some (ds.filterMap f, st)
  | [], _ => by rw [compL, if_pos hck]; rfl
  | d :: ds, k => by
    obtain ⟨e, e1, e2⟩ := k d List.mem_cons_self
    have ih := compL_pure hck f ds fun d' hd => k d' (List.mem_cons_of_mem _ hd)
    rw [compL, if_pos hck, e1]
    rcases e2 with ⟨h1, h2⟩ | ⟨y, h1, h2, h3⟩
    · simp [h2, ih, h1]
    · simp [h2, h3, ih, h1]
/-- one without a condition -/
theorem compL_map {ck : Store → Bool} {g : DenG} {te : Den} {envW : DL.Env} {st : Store} (hck : ck st = true) (f : D → D) (ds : List D)
    (k : ∀ d ∈ ds, ∃ e : DL.Env, g d envW st = some (e, st) ∧ te e st = some (f d, st)) : compL ck g tYesD te envW ds st = some (ds.map f, st) := by
  rw [compL_pure hck (fun d => some (f d)) ds fun d hd => ?_]
  · simp
  · obtain ⟨e, e1, e2⟩ := k d hd
    exact ⟨e, e1, .inr ⟨_, rfl, rfl, e2⟩⟩
/-- a run that can come about -/
def R.Good (r : R) (x : U) : Prop := x = ⟨0, -1, 0⟩ ∨ (x.u = 1 ∧ x.w = 0 ∧ 0 ≤ x.a ∧ x.a < r.n ∧ r.left x ≤ r.l) ∨ (x.w = 1 ∧ 2 ≤ x.u ∧ x.u ≤ x.a + 1 ∧ x.a < r.n ∧ x.a + 1 - x.u ≤ r.l) ∨
  (x.w = -1 ∧ r.t = true ∧ 2 ≤ x.u ∧ x.u ≤ r.n - x.a ∧ 0 ≤ x.a ∧ r.n - x.a - x.u ≤ r.l)
theorem R.Good.w3 {r : R} {x : U} (h : r.Good x) : W3 x := by
  rcases h with rfl | h | h | h
  · exact .inr (.inl rfl)
  · exact .inr (.inl h.2.1)
  · exact .inr (.inr h.1)
  · exact .inl h.1
theorem on_good {r : R} {x y : U} {p : Int} (h : r.Good x) (p0 : 0 ≤ p) (p1 : p < r.n) (e : r.on x p = some y) : r.Good y := by
  have fit : ∀ {f : U}, r.fit f = some y → f = y ∧ r.left f ≤ r.l := fun {f} e => by
    unfold R.fit at e
    split at e
    · rename_i hl; exact ⟨Option.some.inj e, hl⟩
    · cases e
  unfold R.on at e
  split at e
  · obtain ⟨rfl, hl⟩ := fit e
    exact .inr (.inl ⟨rfl, rfl, p0, p1, hl⟩)
  rename_i u0
  split at e
  · cases e
  rename_i pa
  have xu : 1 ≤ x.u := by
    rcases h with rfl | h | h | h
    · exact absurd rfl u0
    · omega
    · omega
    · omega
  split at e
  · rename_i ap
    split at e
    · cases e
    rename_i w1
    obtain ⟨rfl, hl⟩ := fit e
    have hl' : p + 1 - (x.u + 1) ≤ r.l := by
      unfold R.left at hl
      simp only at hl
      rw [if_neg (by omega), if_neg (by omega), if_pos trivial] at hl
      exact hl
    refine .inr (.inr (.inl ⟨rfl, by show 2 ≤ x.u + 1; omega, ?_, p1, hl'⟩))
    show x.u + 1 ≤ p + 1
    rcases h with rfl | h | h | h
    · exact absurd rfl u0
    · omega
    · omega
    · exact absurd h.1 w1
  · rename_i ap
    split at e
    · cases e
    rename_i w1
    obtain ⟨rfl, hl⟩ := fit e
    have hl' : r.n - p - (x.u + 1) ≤ r.l := by
      unfold R.left at hl
      simp only at hl
      rw [if_neg (by omega), if_neg (by omega), if_neg (by omega)] at hl
      exact hl
    have ht : r.t = true := by
      cases hq : r.t with
      | true => rfl
      | false => exact absurd (.inr hq) w1
    refine .inr (.inr (.inr ⟨rfl, ht, by show 2 ≤ x.u + 1; omega, ?_, p0, hl'⟩))
    show x.u + 1 ≤ r.n - p
    rcases h with rfl | h | h | h
    · exact absurd rfl u0
    · omega
    · exact absurd (.inl h.1) w1
    · omega
/-! ### how far a reel can go -/
def R.still (r : R) (x : U) : Int := if x.w = -1 then x.a else if x.u = 1 ∧ r.t = true then max (if x.a ≤ r.l then r.n - 1 - x.a else 0) (if r.n - 1 - x.a ≤ r.l then x.a else 0) else r.n - 1 - x.a
def R.sides (r : R) (x : U) : List Int := (if x.w = -1 then [] else [r.n - 1 - x.a]) ++ (if x.w = -1 ∨ (x.u = 1 ∧ r.t = true) then [x.a] else [])
def R.part (r : R) (x : U) (side : Int) : List Int := ((List.range (side + 1).toNat).filter fun (m : Nat) => decide (r.n - x.u - (m : Int) ≤ r.l)).map fun (m : Nat) => x.u + (m : Int)
def R.tot (r : R) (x : U) : List Int := ((r.sides x).map (r.part x)).flatten
theorem mem_part {r : R} {x : U} {side y : Int} : y ∈ r.part x side ↔ ∃ m : Int, 0 ≤ m ∧ m ≤ side ∧ r.n - x.u - m ≤ r.l ∧ y = x.u + m := by
  unfold R.part
  constructor
  · intro h
    obtain ⟨m, hm, rfl⟩ := List.mem_map.mp h
    obtain ⟨h1, h2⟩ := List.mem_filter.mp hm
    have := List.mem_range.mp h1
    have := of_decide_eq_true h2
    exact ⟨m, by omega, by omega, by omega, rfl⟩
  · rintro ⟨m, m0, m1, m2, rfl⟩
    refine List.mem_map.mpr ⟨m.toNat, List.mem_filter.mpr ⟨List.mem_range.mpr (by omega), decide_eq_true (by omega)⟩, by omega⟩
theorem mem_tot {r : R} {x : U} {y : Int} : y ∈ r.tot x ↔ ∃ side ∈ r.sides x, ∃ m : Int, 0 ≤ m ∧ m ≤ side ∧ r.n - x.u - m ≤ r.l ∧ y = x.u + m := by
  unfold R.tot
  rw [List.mem_flatten]
  constructor
  · rintro ⟨l, hl, hy⟩
    obtain ⟨s, hs, rfl⟩ := List.mem_map.mp hl
    exact ⟨s, hs, mem_part.mp hy⟩
  · rintro ⟨s, hs, h⟩
    exact ⟨_, List.mem_map.mpr ⟨s, hs, rfl⟩, mem_part.mpr h⟩
theorem minI_is {ns : List Int} {m : Int} (h1 : m ∈ ns) (h2 : ∀ y ∈ ns, m ≤ y) : minI ns = some m := by
  cases ns with
  | nil => cases h1
  | cons n ns =>
    obtain ⟨q, q1, q2⟩ := foldMin ns n
    show some (ns.foldl min n) = some m
    congr 1
    have a1 : m ≤ ns.foldl min n := by
      rcases q with e | e
      · rw [e]; exact h2 _ List.mem_cons_self
      · exact h2 _ (List.mem_cons_of_mem _ e)
    have a2 : ns.foldl min n ≤ m := by
      rcases List.mem_cons.mp h1 with e | e
      · rw [e]; exact q1
      · exact q2 _ e
    omega
theorem maxI_is {ns : List Int} {m : Int} (h1 : m ∈ ns) (h2 : ∀ y ∈ ns, y ≤ m) : maxI ns = some m := by
  cases ns with
  | nil => cases h1
  | cons n ns =>
    obtain ⟨q, q1, q2⟩ := foldMax ns n
    show some (ns.foldl max n) = some m
    congr 1
    have a1 : ns.foldl max n ≤ m := by
      rcases q with e | e
      · rw [e]; exact h2 _ List.mem_cons_self
      · exact h2 _ (List.mem_cons_of_mem _ e)
    have a2 : m ≤ ns.foldl max n := by
      rcases List.mem_cons.mp h1 with e | e
      · rw [e]; exact q1
      · exact q2 _ e
    omega
theorem tot_min {r : R} {x : U} (ok : r.Ok) (h : r.Good x) : minI (r.tot x) = some (max x.u (r.n - r.l)) := by
  have hn : 1 ≤ r.n ∧ r.n ≤ 10 := ⟨by have := ok.pos; unfold R.n; omega, by have := ok.len; unfold R.n; omega⟩
  have hl0 := ok.l0
  have hl1 : r.l ≤ r.n := ok.l1
  refine minI_is (mem_tot.mpr ?_) fun y hy => ?_
  · unfold R.sides
    rcases h with rfl | ⟨h1, h2, h3, h4, h5⟩ | ⟨h1, h2, h3, h4, h5⟩ | ⟨h1, h2, h3, h4, h5, h6⟩
    · exact ⟨r.n - 1 - -1, by simp, max 0 (r.n - r.l), by omega, by omega, by simp only; omega, by simp only; omega⟩
    · unfold R.left at h5
      rw [if_neg (by omega), if_pos h1] at h5
      cases ht : r.t with
      | false =>
        rw [ht] at h5
        simp at h5
        exact ⟨r.n - 1 - x.a, by simp [h2], max 0 (r.n - r.l - x.u), by omega, by omega, by omega, by omega⟩
      | true =>
        rw [ht] at h5
        simp at h5
        by_cases q : x.a ≤ r.l
        · exact ⟨r.n - 1 - x.a, by simp [h2], max 0 (r.n - r.l - x.u), by omega, by omega, by omega, by omega⟩
        · exact ⟨x.a, by simp [h2, h1], max 0 (r.n - r.l - x.u), by omega, by omega, by omega, by omega⟩
    · exact ⟨r.n - 1 - x.a, by simp [h1], max 0 (r.n - r.l - x.u), by omega, by omega, by omega, by omega⟩
    · exact ⟨x.a, by simp [h1], max 0 (r.n - r.l - x.u), by omega, by omega, by omega, by omega⟩
  · obtain ⟨s, _, m, m0, m1, m2, rfl⟩ := mem_tot.mp hy
    omega
theorem tot_max {r : R} {x : U} (ok : r.Ok) (h : r.Good x) : maxI (r.tot x) = some (x.u + r.still x) := by
  have hn : 1 ≤ r.n ∧ r.n ≤ 10 := ⟨by have := ok.pos; unfold R.n; omega, by have := ok.len; unfold R.n; omega⟩
  have hl0 := ok.l0
  have hl1 : r.l ≤ r.n := ok.l1
  refine maxI_is (mem_tot.mpr ?_) fun y hy => ?_
  · unfold R.sides R.still
    rcases h with rfl | ⟨h1, h2, h3, h4, h5⟩ | ⟨h1, h2, h3, h4, h5⟩ | ⟨h1, h2, h3, h4, h5, h6⟩
    · exact ⟨r.n - 1 - -1, by simp, r.n, by omega, by omega, by simp only; omega, by simp⟩
    · unfold R.left at h5
      rw [if_neg (by omega), if_pos h1] at h5
      cases ht : r.t with
      | false =>
        rw [ht] at h5
        simp at h5
        exact ⟨r.n - 1 - x.a, by simp [h2], r.n - 1 - x.a, by omega, by omega, by omega, by simp [h2]⟩
      | true =>
        rw [ht] at h5
        simp at h5
        by_cases q : x.a ≤ r.l
        · by_cases q2 : r.n - 1 - x.a ≤ r.l ∧ r.n - 1 - x.a < x.a
          · exact ⟨x.a, by simp [h2, h1], x.a, by omega, by omega, by omega, by rw [if_neg (by omega), if_pos ⟨h1, rfl⟩, if_pos q, if_pos q2.1]; omega⟩
          · exact ⟨r.n - 1 - x.a, by simp [h2], r.n - 1 - x.a, by omega, by omega, by omega, by rw [if_neg (by omega), if_pos ⟨h1, rfl⟩, if_pos q]; split <;> omega⟩
        · exact ⟨x.a, by simp [h2, h1], x.a, by omega, by omega, by omega, by rw [if_neg (by omega), if_pos ⟨h1, rfl⟩, if_neg q, if_pos (by omega)]; omega⟩
    · exact ⟨r.n - 1 - x.a, by simp [h1], r.n - 1 - x.a, by omega, by omega, by omega, by rw [if_neg (by omega), if_neg (by omega)]⟩
    · exact ⟨x.a, by simp [h1], x.a, by omega, by omega, by omega, by rw [if_pos h1]⟩
  · obtain ⟨s, hs, m, m0, m1, m2, rfl⟩ := mem_tot.mp hy
    unfold R.sides at hs
    unfold R.still
    by_cases w1 : x.w = -1
    · simp [w1] at hs
      rw [if_pos w1]; omega
    · by_cases c : x.u = 1 ∧ r.t = true
      · simp [w1, c] at hs
        rw [if_neg w1, if_pos c]
        rcases hs with rfl | rfl <;> (split <;> split <;> omega)
      · simp only [w1, c, if_false, or_self, List.append_nil, List.mem_singleton] at hs
        rw [if_neg w1, if_neg c]; omega
section
variable {r : R} {x : U} {st : Store}
theorem still_eq (hs : r.s.length ≤ 16777216) (hc : clS st = true) : den_still_to_come [r.d, x.d] st = some (.int (r.still x), st) := by
  obtain ⟨s, l, t⟩ := r
  obtain ⟨u, a, w⟩ := x
  refine frz_id ?_ rfl hc rfl
  simp only [R.d, U.d, R.still, R.n] at *
  by_cases h0 : w = -1
  · simp [b_still_to_come, h0, hs]
  by_cases h1 : u = 1
  · cases t
    · simp [b_still_to_come, h0, h1, hs]
    · by_cases h2 : a ≤ l <;> by_cases h3 : (s.length : Int) - 1 - a ≤ l <;> simp [b_still_to_come, h0, h1, h2, h3, hs]
  · simp [b_still_to_come, h0, h1, hs]
def intsL' (ns : List Int) : List D := ns.map D.int
theorem rangeD_map (n : Nat) : rangeD 0 n = (List.range n).map fun (m : Nat) => D.int (m : Int) := by
  unfold rangeD
  exact List.map_congr_left fun m _ => by rw [Int.zero_add]
theorem range_filter {r : R} {u : Int} (n : Nat) : ((List.range n).map fun (m : Nat) => D.int (m : Int)).filterMap (fun d => match d with | .int m => if r.n - u - m ≤ r.l then some (.int (u + m)) else none | _ => none) =
    (((List.range n).filter fun (m : Nat) => decide (r.n - u - (m : Int) ≤ r.l)).map fun (m : Nat) => u + (m : Int)).map D.int := by
  rw [List.filterMap_map, List.map_map]
  induction List.range n with
  | nil => rfl
  | cons m l ih =>
    rw [List.filterMap_cons, List.filter_cons]
    by_cases h : r.n - u - (m : Int) ≤ r.l
    · simp only [Function.comp_apply, if_pos h, decide_eq_true h, if_true, List.map_cons]
      rw [ih]
    · simp only [Function.comp_apply, if_neg h, decide_eq_false h]
      rw [ih]; rfl
theorem totals_eq (ok : r.Ok) (h : r.Good x) (hc : clS st = true) : den_u_law_totals [r.d, x.d] st = some (.lst ((r.tot x).map D.int), st) := by
  have hn : 1 ≤ r.n ∧ r.n ≤ 10 := ⟨by have := ok.pos; unfold R.n; omega, by have := ok.len; unfold R.n; omega⟩
  have hs : r.s.length ≤ 16777216 := by have := ok.len; omega
  have comp : ∀ (side : Int) (e4 e8 e9 : Option D) (st1 : Store), -1 ≤ side → side < 100 → compL yesS (gN 11) (asB (dOp2 fLe (dOp2 fSub (dOp2 fSub (dCall (pure1 fLen) (aCons (dVar 2) aNil)) (dVar 5)) (dVar 11)) (dVar 3))) (dOp2 fAdd (dVar 5) (dVar 11))
      [some r.d, some x.d, some (.str r.s), some (.int r.l), e4, some (.int x.u), some (.int x.a), some (.int x.w), e8, e9, some (.int side), none] (rangeD 0 (side + 1).toNat) st1 = some ((r.part x side).map D.int, st1) := fun side e4 e8 e9 st1 _ _ => by
    rw [rangeD_map, compL_pure rfl (fun d => match d with | .int m => if r.n - x.u - m ≤ r.l then some (.int (x.u + m)) else none | _ => none) _ fun d hd => ?_, range_filter]
    · rfl
    · obtain ⟨m, hm, rfl⟩ := List.mem_map.mp hd
      refine ⟨_, rfl, ?_⟩
      by_cases q : r.n - x.u - (m : Int) ≤ r.l
      · refine .inr ⟨_, if_pos q, ?_, ?_⟩
        · unfold R.n at q; simp [hs, q]
        · simp
      · refine .inl ⟨if_neg q, ?_⟩
        unfold R.n at q; simp [hs, q]
  have plen : ∀ side : Int, side < 100 → (r.part x side).length ≤ 100 := fun side h => by
    unfold R.part
    rw [List.length_map]
    refine Nat.le_trans (List.length_filter_le _ _) ?_
    rw [List.length_range]; omega
  have go : ∀ sides : List Int, r.sides x = sides → (∀ z ∈ sides, -1 ≤ z ∧ z < 100) → den_u_law_totals [r.d, x.d] st = some (.lst ((r.tot x).map D.int), st) := fun sides hsd hz => by
    refine frz_new (new := [.lst (sides.map D.int)]) ?_ rfl hc (bels_ints _ _)
    have sl : ∀ (y z : SObj), (st ++ [y]).set st.length z = st ++ [z] := fun y z => by simp
    have sg : ∀ (y : SObj), (st ++ [y])[st.length]? = some y := fun y => by simp
    unfold R.tot
    unfold R.sides at hsd ⊢
    have g62 : ∀ z : Int, -1 ≤ z → z < 100 → small62 (z + 1) = true := fun z a b => small62_eq.mpr ⟨by omega, by omega⟩
    by_cases w1 : x.w = -1
    · simp only [w1, if_true, true_or, List.nil_append] at hsd ⊢
      subst hsd
      have := hz x.a (by simp)
      have c1 := comp x.a (some (.bl r.t)) (some (.ref st.length)) (some (.lst [])) (st ++ [.lst [.int x.a]]) this.1 this.2
      have l1 := plen x.a this.2
      simp [R.d, U.d, w1] at c1
      simp [b_u_law_totals, R.d, U.d, w1, sl, sg, fo_cons, sameS_eq, rng1, g62 x.a this.1 this.2, c1, show (r.part x x.a).length ≤ 16777216 by omega]
    · by_cases w2 : x.u = 1 ∧ r.t = true
      · simp only [w1, w2, if_true, if_false, false_or, and_self, List.singleton_append] at hsd ⊢
        subst hsd
        have z1 := hz (r.n - 1 - x.a) (by simp)
        have z2 := hz x.a (by simp)
        have c1 := comp (r.n - 1 - x.a) (some (.bl r.t)) (some (.ref st.length)) (some (.lst [])) (st ++ [.lst [.int (r.n - 1 - x.a), .int x.a]]) z1.1 z1.2
        have c2 := comp x.a (some (.bl r.t)) (some (.ref st.length)) (some (.lst ((r.part x (r.n - 1 - x.a)).map D.int))) (st ++ [.lst [.int (r.n - 1 - x.a), .int x.a]]) z2.1 z2.2
        have l1 := plen (r.n - 1 - x.a) z1.2
        have l2 := plen x.a z2.2
        have g1 := g62 _ z1.1 z1.2
        simp [R.d, U.d, w2] at c1 c2
        unfold R.n at g1
        simp only [R.n] at c1 c2 l1
        simp [b_u_law_totals, R.d, U.d, w1, w2, sl, sg, fo_cons, sameS_eq, rng1, g1, g62 x.a z2.1 z2.2, c1, c2, hs, show (r.part x x.a).length ≤ 16777216 by omega, R.n, show (r.part x ((r.s.length : Int) - 1 - x.a)).length ≤ 16777216 by omega,
          show (r.part x ((r.s.length : Int) - 1 - x.a)).length + (r.part x x.a).length ≤ 16777216 by omega]
      · simp only [w1, w2, if_false, or_self, List.append_nil] at hsd ⊢
        subst hsd
        have z1 := hz (r.n - 1 - x.a) (by simp)
        have c1 := comp (r.n - 1 - x.a) (some (.bl r.t)) (some (.ref st.length)) (some (.lst [])) (st ++ [.lst [.int (r.n - 1 - x.a)]]) z1.1 z1.2
        have l1 := plen (r.n - 1 - x.a) z1.2
        have g1 := g62 _ z1.1 z1.2
        simp [R.d, U.d] at c1
        unfold R.n at g1
        simp only [R.n] at c1 l1
        by_cases w3 : x.u = 1
        · have w4 : r.t = false := by
            cases q : r.t with
            | false => rfl
            | true => exact absurd ⟨w3, q⟩ w2
          simp [w3, w4] at c1
          simp [b_u_law_totals, R.d, U.d, w1, w3, w4, sl, sg, fo_cons, sameS_eq, rng1, g1, c1, hs, R.n, show (r.part x ((r.s.length : Int) - 1 - x.a)).length ≤ 16777216 by omega]
        · simp [b_u_law_totals, R.d, U.d, w1, w3, sl, sg, fo_cons, sameS_eq, rng1, g1, c1, hs, R.n, show (r.part x ((r.s.length : Int) - 1 - x.a)).length ≤ 16777216 by omega]
  refine go _ rfl fun z hz => ?_
  unfold R.sides at hz
  rcases h with rfl | ⟨h1, h2, h3, h4, h5⟩ | ⟨h1, h2, h3, h4, h5⟩ | ⟨h1, h2, h3, h4, h5, h6⟩
  · simp at hz; omega
  · simp [h1, h2] at hz; rcases hz with rfl | ⟨_, rfl⟩ <;> omega
  · simp [h1, show ¬ x.u = 1 by omega] at hz; omega
  · simp [h1] at hz; omega
end
end K82
set_option Elab.async false
set_option linter.all false
set_option maxRecDepth 100000
set_option maxHeartbeats 4000000
namespace K82
open PySem DL
theorem fo_next {ck : Store → Bool} {f : D → DL.Env → Store → Option (Fl × DL.Env × Store)} {d : D} {ds : List D} {env env' : DL.Env} {st st' : Store} (hck : ck st = true) (h : f d env st = some (.next, env', st')) : forL ck f (d :: ds) env st = forL ck f ds env' st' := by
  rw [fo_cons, if_pos hck, h]; rfl
def rowD (xs : List U) : D := .tup [.tup (xs.map U.d), .tup []]
def lowS (ps : List (R × U)) : Int := (ps.map fun p => max p.2.u (p.1.n - p.1.l)).sum
def highS (ps : List (R × U)) : Int := (ps.map fun p => p.2.u + p.1.still p.2).sum
def pd (p : R × U) : D := .tup [p.1.d, p.2.d]
theorem zipD_map (rs : List R) (xs : List U) : zipD (rs.map R.d) (xs.map U.d) = (rs.zip xs).map pd := by
  unfold zipD
  rw [List.zip_map, List.map_map]
  rfl
def reachD (ps : List (R × U)) : D := .tup [.int (lowS ps), .int (highS ps)]
def reachB : D → DL.Env → Store → Option (Fl × DL.Env × Store) := forB (gUn 2 (gsCons (gN 4) (gsCons (gN 5) gsNil))) (sSeq (sAug 2 fIAdd (dCall (pure2 fMax2) (aCons (dOp2 fIx (dVar 5) (dC (D.int 0))) (aCons (dOp2 fSub (dCall (pure1 fLen) (aCons (dOp2 fIx (dVar 4) (dC (D.int 0))) aNil)) (dOp2 fIx (dVar 4) (dC (D.int 1)))) aNil))))
      (sAug 3 fIAdd (dOp2 fAdd (dOp2 fIx (dVar 5) (dC (D.int 0))) (dCallF den_still_to_come (aCons (dVar 4) (aCons (dVar 5) aNil))))))
theorem reach_loop {A B : D} {st : Store} (hc : clS st = true) : ∀ (ps : List (R × U)) (lo hi : Int) (e4 e5 : Option D), (∀ p ∈ ps, p.1.s.length ≤ 16777216) →
    ∃ e4' e5' : Option D, forL (andS yesS yesS) reachB (ps.map pd) [some A, some B, some (.int lo), some (.int hi), e4, e5] st =
      some (.next, [some A, some B, some (.int (lo + lowS ps)), some (.int (hi + highS ps)), e4', e5'], st)
  | [], lo, hi, e4, e5, _ => ⟨e4, e5, by simp [lowS, highS]⟩
  | (r, x) :: ps, lo, hi, e4, e5, h => by
    have hs : r.s.length ≤ 16777216 := h (r, x) List.mem_cons_self
    obtain ⟨f4, f5, ih⟩ := reach_loop (A := A) (B := B) hc ps (lo + max x.u (r.n - r.l)) (hi + (x.u + r.still x)) (some r.d) (some x.d) fun p hp => h p (List.mem_cons_of_mem _ hp)
    refine ⟨f4, f5, ?_⟩
    have e1 := still_eq (r := r) (x := x) hs hc
    have a1 : lo + lowS ((r, x) :: ps) = lo + max x.u (r.n - r.l) + lowS ps := by simp [lowS]; omega
    have a2 : hi + highS ((r, x) :: ps) = hi + (x.u + r.still x) + highS ps := by simp [highS]; omega
    rw [a1, a2, List.map_cons, ← ih]
    refine fo_next rfl ?_
    simp only [R.d, U.d] at e1
    simp [reachB, pd, R.d, U.d, R.n, hs, e1]
theorem reach_eq {rs : List R} {xs : List U} {st : Store} (hc : clS st = true) (hl : rs.length = xs.length) (hs : ∀ r ∈ rs, r.s.length ≤ 16777216) : den_reach [stockD rs, rowD xs] st = some (reachD (rs.zip xs), st) := by
  refine frz_id ?_ rfl hc rfl
  obtain ⟨f4, f5, e⟩ := reach_loop (A := stockD rs) (B := rowD xs) hc (rs.zip xs) 0 0 none none fun p hp => hs p.1 (List.of_mem_zip hp).1
  simp only [stockD, rowD, reachB] at e
  simp [b_reach, stockD, rowD, hl, zipD_map, e, reachD]
theorem intsD_map : ∀ ns : List Int, intsD (ns.map D.int) = some ns
  | [] => rfl
  | n :: ns => by rw [List.map_cons, intsD, intsD_map ns]; rfl
@[simp] theorem sum_ev {st : Store} (ns : List Int) : fSum st (.lst (ns.map D.int)) = some (.int ns.sum) := by
  show ((itemsOf st (.lst (ns.map D.int))).bind fun ds => (intsD ds).map fun ns => D.int ns.sum) = _
  rw [it_lst]
  show (intsD _).map _ = _
  rw [intsD_map]; rfl
@[simp] theorem minL_ev {st : Store} (ns : List Int) : fMinL st (.lst (ns.map D.int)) = (minI ns).map D.int := by
  show ((itemsOf st (.lst (ns.map D.int))).bind fun ds => (intsD ds).bind fun ns => (minI ns).map D.int) = _
  rw [it_lst]
  show (intsD _).bind _ = _
  rw [intsD_map]; rfl
@[simp] theorem maxL_ev {st : Store} (ns : List Int) : fMaxL st (.lst (ns.map D.int)) = (maxI ns).map D.int := by
  show ((itemsOf st (.lst (ns.map D.int))).bind fun ds => (intsD ds).bind fun ns => (maxI ns).map D.int) = _
  rw [it_lst]
  show (intsD _).bind _ = _
  rw [intsD_map]; rfl
/-- one without a condition, over images -/
theorem compL_over {α : Type} {ck : Store → Bool} {g : DenG} {te : Den} {envW : DL.Env} {st : Store} (hck : ck st = true) (i f : α → D) : ∀ (as : List α),
    (∀ a ∈ as, ∃ e : DL.Env, g (i a) envW st = some (e, st) ∧ te e st = some (f a, st)) → compL ck g tYesD te envW (as.map i) st = some (as.map f, st)
  | [], _ => by rw [List.map_nil, compL, if_pos hck]; rfl
  | a :: as, k => by
    obtain ⟨e, e1, e2⟩ := k a List.mem_cons_self
    have ih := compL_over hck i f as fun a' ha => k a' (List.mem_cons_of_mem _ ha)
    rw [List.map_cons, compL, if_pos hck, e1]
    simp [e2, ih]
theorem law_reach_eq {rs : List R} {xs : List U} {st : Store} (hc : clS st = true) (hl : rs.length = xs.length) (ho : ∀ p ∈ rs.zip xs, p.1.Ok ∧ p.1.Good p.2) (h4 : rs.length ≤ 1000) : den_u_law_reach [stockD rs, rowD xs] st = some (reachD (rs.zip xs), st) := by
  refine frz_id ?_ rfl hc rfl
  have hz : (rs.zip xs).length ≤ 1000 := by rw [List.length_zip]; omega
  have c1 : compL (andS yesS yesS) (gUn 2 (gsCons (gN 3) (gsCons (gN 4) gsNil))) tYesD (dCallF den_u_law_totals (aCons (dVar 3) (aCons (dVar 4) aNil))) [some (stockD rs), some (rowD xs), none, none, none, none] ((rs.zip xs).map pd) st =
      some ((rs.zip xs).map fun p => .lst ((p.1.tot p.2).map D.int), st) :=
    compL_over rfl _ _ _ fun p hp => ⟨_, rfl, by simp [totals_eq (ho p hp).1 (ho p hp).2 hc]⟩
  have c2 : ∀ e2 : Option D, compL yesS (gN 5) tYesD (dCall (pure1 fMinL) (aCons (dVar 5) aNil)) [some (stockD rs), some (rowD xs), e2, none, none, none] ((rs.zip xs).map fun p => .lst ((p.1.tot p.2).map D.int)) st =
      some ((rs.zip xs).map fun p => D.int (max p.2.u (p.1.n - p.1.l)), st) := fun e2 =>
    compL_over rfl _ _ _ fun p hp => ⟨_, rfl, by simp [tot_min (ho p hp).1 (ho p hp).2]⟩
  have c3 : ∀ e2 : Option D, compL yesS (gN 5) tYesD (dCall (pure1 fMaxL) (aCons (dVar 5) aNil)) [some (stockD rs), some (rowD xs), e2, none, none, none] ((rs.zip xs).map fun p => .lst ((p.1.tot p.2).map D.int)) st =
      some ((rs.zip xs).map fun p => D.int (p.2.u + p.1.still p.2), st) := fun e2 =>
    compL_over rfl _ _ _ fun p hp => ⟨_, rfl, by simp [tot_max (ho p hp).1 (ho p hp).2]⟩
  have s1 : fSum st (.lst ((rs.zip xs).map fun p => D.int (max p.2.u (p.1.n - p.1.l)))) = some (.int (lowS (rs.zip xs))) := by
    have := sum_ev (st := st) ((rs.zip xs).map fun p => max p.2.u (p.1.n - p.1.l))
    rw [List.map_map] at this
    exact this
  have s2 : fSum st (.lst ((rs.zip xs).map fun p => D.int (p.2.u + p.1.still p.2))) = some (.int (highS (rs.zip xs))) := by
    have := sum_ev (st := st) ((rs.zip xs).map fun p => p.2.u + p.1.still p.2)
    rw [List.map_map] at this
    exact this
  have l1 : ∀ (f : R × U → D), ((rs.zip xs).map f).length ≤ 16777216 := fun f => by rw [List.length_map]; omega
  simp only [stockD, rowD] at c1 c2 c3
  have l2 : min rs.length xs.length ≤ 16777216 := by omega
  simp [b_u_law_reach, stockD, rowD, zipD_map, c1, c2, c3, s1, s2, reachD, l1, l2]
end K82
set_option Elab.async false
set_option linter.all false
set_option maxRecDepth 100000
set_option maxHeartbeats 4000000
namespace K82
open PySem DL
/-! ### rows along a cut -/
def U0 : U := ⟨0, -1, 0⟩
def first (rs : List R) : List U := rs.map fun _ => U0
def Fit (rs : List R) (xs : List U) : Prop := rs.length = xs.length ∧ ∀ p ∈ rs.zip xs, p.1.Good p.2
theorem fit_first (rs : List R) : Fit rs (first rs) := by
  refine ⟨by simp [first], fun p hp => ?_⟩
  have := (List.of_mem_zip hp).2
  obtain ⟨_, _, e⟩ := List.mem_map.mp this
  exact .inl e.symm
theorem Fit.get {rs : List R} {xs : List U} (h : Fit rs xs) {k : Nat} {r : R} {x : U} (h1 : rs[k]? = some r) (h2 : xs[k]? = some x) : r.Good x := by
  refine h.2 (r, x) (List.mem_of_getElem? (i := k) ?_)
  rw [List.getElem?_zip_eq_some]
  exact ⟨h1, h2⟩
theorem Fit.set {rs : List R} {xs : List U} (h : Fit rs xs) {k : Nat} {r : R} {y : U} (h1 : rs[k]? = some r) (g : r.Good y) : Fit rs (xs.set k y) := by
  refine ⟨by rw [List.length_set]; exact h.1, fun p hp => ?_⟩
  obtain ⟨j, hj⟩ := List.getElem?_of_mem hp
  rw [List.getElem?_zip_eq_some] at hj
  by_cases e : k = j
  · subst e
    rw [List.getElem?_set_self (by rw [← h.1]; exact (List.getElem?_eq_some_iff.mp h1).1)] at hj
    have e1 : p.1 = r := by rw [h1] at hj; exact (Option.some.inj hj.1).symm
    have e2 : p.2 = y := (Option.some.inj hj.2).symm
    rw [e1, e2]; exact g
  · rw [List.getElem?_set_ne e] at hj
    exact h.get hj.1 hj.2
/-- a cut that the runs xs allow -/
def Valid (rs : List R) : List U → List (Nat × Nat) → Prop
  | _, [] => True
  | xs, (k, p) :: cs => ∃ r x y, rs[k]? = some r ∧ xs[k]? = some x ∧ p < r.s.length ∧ r.on x p = some y ∧ Valid rs (xs.set k y) cs
/-- the rows along it -/
def rowsL (rs : List R) : List U → List (Nat × Nat) → List (List U)
  | xs, [] => [xs]
  | xs, (k, p) :: cs => xs :: (match rs[k]?, xs[k]? with
    | some r, some x => (match r.on x p with
      | some y => rowsL rs (xs.set k y) cs
      | none => [])
    | _, _ => [])
theorem rows_fit {rs : List R} : ∀ {cut : List (Nat × Nat)} {xs : List U}, Fit rs xs → Valid rs xs cut → ∀ zs ∈ rowsL rs xs cut, Fit rs zs
  | [], xs, f, _, zs, h => by
    rw [rowsL, List.mem_singleton] at h
    rw [h]; exact f
  | (k, p) :: cs, xs, f, v, zs, h => by
    obtain ⟨r, x, y, h1, h2, h3, h4, h5⟩ := v
    rw [rowsL, h1, h2] at h
    simp only [h4] at h
    rcases List.mem_cons.mp h with e | h
    · rw [e]; exact f
    · exact rows_fit (f.set h1 (on_good (f.get h1 h2) (by omega) (by unfold R.n; omega) h4)) h5 zs h
def cD (c : Nat × Nat) : D := .tup [.int c.1, .int c.2]
def cutD (cut : List (Nat × Nat)) : D := .lst (cut.map cD)
theorem bel_row (n : Nat) (xs : List U) : bel n (rowD xs) = true := by
  show (bels n (xs.map U.d) && (true && true)) = true
  rw [bels_map (f := U.d) (fun a => rfl)]; rfl
theorem first_eq {rs : List R} {st : Store} (hc : clS st = true) (hl : rs.length ≤ 1000) : den_u_law_first [stockD rs] st = some (rowD (first rs), st) := by
  have c1 : compL yesS (gN 1) tYesD (dTup (aCons (dC (D.int 0)) (aCons (dNeg (dC (D.int 1))) (aCons (dC (D.int 0)) aNil)))) [some (stockD rs), none] (rs.map R.d) st = some (rs.map fun _ => U0.d, st) :=
    compL_over rfl _ _ _ fun r hr => ⟨_, rfl, by simp [U0, U.d]⟩
  refine frz_id ?_ rfl hc (bel_row _ _)
  simp only [stockD] at c1
  have : (rs.map fun _ => U0.d).length ≤ 16777216 := by rw [List.length_map]; omega
  simp [b_u_law_first, stockD, c1, rowD, first, show rs.length ≤ 16777216 by omega, fTuple]
theorem at_last {α : Type} (xs : List α) (x : α) : L2.atI (xs ++ [x]) (-1) = some x := by
  unfold L2.atI L2.ixN
  rw [if_neg (by omega), if_pos (by simp; omega)]
  simp
  rw [show (-1 + ((xs.length : Int) + 1)).toNat = xs.length by omega]
  simp
theorem cut_from {α : Type} (xs : List α) (n : Nat) : cutL xs (some (n : Int)) none = xs.drop n := by
  unfold cutL HT.sIx
  simp only
  rw [if_neg (by omega)]
  by_cases h : n ≤ xs.length
  · rw [show min (Int.toNat n) xs.length = n by simp; omega]
    rw [List.take_of_length_le (by rw [List.length_drop]; omega)]
  · rw [show min (Int.toNat n) xs.length = xs.length by simp; omega]
    simp
    omega
theorem set_cut {α : Type} (xs : List α) (k : Nat) (y : α) (h : k < xs.length) : xs.take k ++ (y :: xs.drop (k + 1)) = xs.set k y := by
  rw [List.set_eq_take_append_cons_drop, if_pos h]
def rowsB : D → DL.Env → Store → Option (Fl × DL.Env × Store) := forB (gUn 2 (gsCons (gN 3) (gsCons (gN 4) gsNil))) (sSeq (sSet 5 (dOp2 fIx (dVar 2) (dNeg (dC (D.int 1)))))
  (sDrop (dMeth .list mAppend (dVar 2) (aCons (dTup (aCons (dOp2 fAdd (dOp2 fAdd (dSl (dOp2 fIx (dVar 5) (dC (D.int 0))) pNone (pSome (dVar 3))) (dTup (aCons (dCallF den_u_law_run_on (aCons (dOp2 fIx (dVar 0) (dVar 3)) (aCons (dOp2 fIx (dOp2 fIx (dVar 5) (dC (D.int 0))) (dVar 3)) (aCons (dVar 4) aNil)))) aNil))) (dSl (dOp2 fIx (dVar 5) (dC (D.int 0))) (pSome (dOp2 fAdd (dVar 3) (dC (D.int 1)))) pNone)) (aCons (dTup aNil) aNil))) aNil))))
theorem clS_snoc {st : Store} {ds : List D} (h : clS st = true) (hb : bels (st.length + 1) ds = true) : clS (st ++ [.lst ds]) = true := by
  unfold clS at *
  rw [List.all_append, List.length_append, List.length_singleton, List.all_cons, List.all_nil, Bool.and_true, Bool.and_eq_true]
  refine ⟨List.all_eq_true.mpr fun o ho => ?_, hb⟩
  have := List.all_eq_true.mp h o ho
  cases o with
  | lst ds => exact bels_mono (ds := ds) (Nat.le_succ _) this
  | dic t ks vs => exact bels_mono (ds := vs) (Nat.le_succ _) this
  | ins c ns vs => exact bels_mono (ds := vs) (Nat.le_succ _) this
theorem rows_loop {rs : List R} {B : D} {st : Store} (hc : clS st = true) (hl : rs.length ≤ 1000) (hs : ∀ r ∈ rs, r.s.length ≤ 16777216) : ∀ (cut : List (Nat × Nat)) (xs : List U) (acc : List D) (e3 e4 e5 : Option D),
    Fit rs xs → Valid rs xs cut → acc.length + cut.length ≤ 1000000 → bels (st.length + 1) acc = true →
    ∃ e3' e4' e5' : Option D, forL yesS rowsB (cut.map cD) [some (stockD rs), some B, some (.ref st.length), e3, e4, e5] (st ++ [.lst (acc ++ [rowD xs])]) =
      some (.next, [some (stockD rs), some B, some (.ref st.length), e3', e4', e5'], st ++ [.lst (acc ++ (rowsL rs xs cut).map rowD)])
  | [], xs, acc, e3, e4, e5, _, _, _, _ => ⟨e3, e4, e5, by simp [rowsL]⟩
  | (k, p) :: cs, xs, acc, e3, e4, e5, f, v, hlen, hb => by
    obtain ⟨r, x, y, h1, h2, h3, h4, h5⟩ := v
    have kx : k < xs.length := (List.getElem?_eq_some_iff.mp h2).1
    have hrm : r ∈ rs := List.mem_of_getElem? h1
    obtain ⟨f3, f4, f5, ih⟩ := rows_loop (B := B) hc hl hs cs (xs.set k y) (acc ++ [rowD xs]) (some (.int k)) (some (.int p)) (some (rowD xs)) (f.set h1 (on_good (f.get h1 h2) (by omega) (by unfold R.n; omega) h4)) h5 (by simp at hlen ⊢; omega)
      (bels_of fun d hd => by
        rcases List.mem_append.mp hd with q | q
        · exact bels_mem hb d q
        · rw [List.mem_singleton.mp q]; exact bel_row _ _)
    refine ⟨f3, f4, f5, ?_⟩
    have hcl : clS (st ++ [.lst (acc ++ [rowD xs])]) = true := clS_snoc hc (bels_of fun d hd => by
        rcases List.mem_append.mp hd with q | q
        · exact bels_mem hb d q
        · rw [List.mem_singleton.mp q]; exact bel_row _ _)
    have e1 := run_on_eq (r := r) (x := x) (p := p) (hs r hrm) (f.get h1 h2).w3 hcl
    rw [h4] at e1
    have i1 : L2.atI (rs.map R.d) (k : Int) = some r.d := at_nat (by rw [List.getElem?_map, h1]; rfl)
    have i2 : L2.atI (xs.map U.d) (k : Int) = some x.d := at_nat (by rw [List.getElem?_map, h2]; rfl)
    have hfit := f.1
    have c2 : cutL (xs.map U.d) (some ((k : Int) + 1)) none = (xs.drop (k + 1)).map U.d := by
      have := cut_from (xs.map U.d) (k + 1)
      rw [show ((k : Int) + 1) = ((k + 1 : Nat) : Int) by omega, this, List.map_drop]
    have c1 : cutL (xs.map U.d) none (some (k : Int)) = (xs.take k).map U.d := by rw [cut_to, List.map_take]
    have fin : (xs.take k).map U.d ++ (U.d y :: (xs.drop (k + 1)).map U.d) = (xs.set k y).map U.d := by
      rw [← set_cut xs k y kx, List.map_append, List.map_cons]
    have hrows : rowsL rs xs ((k, p) :: cs) = xs :: rowsL rs (xs.set k y) cs := by
      rw [rowsL, h1, h2]
      simp only [h4]
    rw [List.map_cons, hrows, List.map_cons]
    rw [show acc ++ rowD xs :: (rowsL rs (xs.set k y) cs).map rowD = (acc ++ [rowD xs]) ++ (rowsL rs (xs.set k y) cs).map rowD by simp, ← ih]
    refine fo_next rfl ?_
    simp only [optU, stockD, rowD] at e1
    have l1 : acc.length + 1 < 16777216 := by simp at hlen; omega
    have l2 : min k xs.length + 1 ≤ 16777216 := by omega
    have fin2 : (xs.map U.d).take k ++ (U.d y :: (xs.map U.d).drop (k + 1)) = (xs.map U.d).set k y.d := set_cut _ _ _ (by rw [List.length_map]; exact kx)
    have l3 : min k xs.length ≤ 16777215 := by omega
    have l4 : min k xs.length + (1 + (xs.length - (k + 1))) ≤ 16777216 := by omega
    have l5 : min k xs.length + 1 + (xs.length - (k + 1)) ≤ 16777216 := by omega
    simp [rowsB, cD, stockD, rowD, at_last, i1, i2, c1, c2, e1, fin2, l1, l3, l4, l5]
theorem rows_eq {rs : List R} {cut : List (Nat × Nat)} {st : Store} (hc : clS st = true) (hl : rs.length ≤ 1000) (hs : ∀ r ∈ rs, r.s.length ≤ 16777216) (hv : Valid rs (first rs) cut) (hcut : cut.length ≤ 100000) :
    den_u_law_rows_of [stockD rs, cutD cut] st = some (.lst ((rowsL rs (first rs) cut).map rowD), st) := by
  obtain ⟨f3, f4, f5, e⟩ := rows_loop (B := cutD cut) hc hl hs cut (first rs) [] none none none (fit_first rs) hv (by simp; omega) rfl
  have b : bels st.length ((rowsL rs (first rs) cut).map rowD) = true := bels_map (bel_row _) _
  refine frz_lst (new := [.lst ((rowsL rs (first rs) cut).map rowD)]) (k := st.length) ?_ rfl hc (by simp) (Nat.le_refl _) b
  have e1 := first_eq (rs := rs) hc hl
  simp only [stockD, cutD, rowsB, List.nil_append] at e e1
  simp [b_u_law_rows_of, stockD, cutD, e1, e]
end K82
set_option Elab.async false
set_option linter.all false
set_option maxRecDepth 100000
set_option maxHeartbeats 4000000
namespace K82
open PySem DL
theorem same_int {n : Nat} {i : Int} {st : Store} (hc : clS st = true) : rec_u_law_same (n + 1) [.int i, .int i] st = some (.bl true, st) := by
  refine frz_id ?_ rfl hc rfl
  simp [b_u_law_same, isNon, isA]
theorem same_bl {n : Nat} {i : Bool} {st : Store} (hc : clS st = true) : rec_u_law_same (n + 1) [.bl i, .bl i] st = some (.bl true, st) := by
  refine frz_id ?_ rfl hc rfl
  simp [b_u_law_same, isNon, isA]
theorem notin_trues {st : Store} (n : Nat) : fNotIn st (.bl false) (.lst (List.replicate n (.bl true))) = some (.bl true) := by
  have h1 : pls (List.replicate n (D.bl true)) = true := by
    induction n with
    | zero => rfl
    | succ n ih => rw [List.replicate_succ, pls, ih]; rfl
  have h2 : ((List.replicate n (D.bl true)).any fun y => deq y (.bl false)) = false := by
    induction n with
    | zero => rfl
    | succ n ih =>
      rw [List.replicate_succ, List.any_cons]
      have := ih (by rw [List.replicate_succ, pls] at h1; exact h1)
      rw [this]; rfl
  show (fInSeq (.bl false) (List.replicate n (.bl true))).map (fun b => D.bl (!b)) = _
  unfold fInSeq inOk
  rw [h1, h2]; rfl
theorem same_loop {n : Nat} {ds : List D} {st : Store} {env : DL.Env} (h : ∀ d ∈ ds, rec_u_law_same n [d, d] st = some (.bl true, st)) (f : DL.Env → D → DL.Env) (k : ∀ d ∈ ds, ∃ e, gUn 2 (gsCons (gN 2) (gsCons (gN 3) gsNil)) (.tup [d, d]) env st = some (e, st) ∧ (dCallF (rec_u_law_same n) (aCons (dVar 2) (aCons (dVar 3) aNil))) e st = rec_u_law_same n [d, d] st) :
    compL (andS yesS yesS) (gUn 2 (gsCons (gN 2) (gsCons (gN 3) gsNil))) tYesD (dCallF (rec_u_law_same n) (aCons (dVar 2) (aCons (dVar 3) aNil))) env (zipD ds ds) st = some (List.replicate ds.length (.bl true), st) := by
  have e : zipD ds ds = ds.map fun d => .tup [d, d] := by
    unfold zipD
    rw [List.zip_eq_zipWith, List.map_zipWith]
    induction ds with
    | nil => rfl
    | cons d ds ih =>
      rw [List.zipWith_cons_cons, List.map_cons, ih (fun d hd => h d (List.mem_cons_of_mem _ hd)) (fun d hd => k d (List.mem_cons_of_mem _ hd))]
  rw [e, compL_over rfl _ (fun _ => .bl true) ds fun d hd => by
    obtain ⟨e, e1, e2⟩ := k d hd
    exact ⟨e, e1, by rw [e2]; exact h d hd⟩]
  rw [List.map_const']
theorem same_tup {n : Nat} {ds : List D} {st : Store} (hc : clS st = true) (hl : ds.length ≤ 16777216) (h : ∀ d ∈ ds, rec_u_law_same n [d, d] st = some (.bl true, st)) : rec_u_law_same (n + 1) [.tup ds, .tup ds] st = some (.bl true, st) := by
  refine frz_id ?_ rfl hc rfl
  have e := same_loop (env := [some (.tup ds), some (.tup ds), none, none]) h (fun e _ => e) fun d hd => ⟨_, rfl, by simp⟩
  simp [b_u_law_same, isNon, isA, e, hl, notin_trues]
theorem same_lst {n : Nat} {ds : List D} {st : Store} (hc : clS st = true) (hl : ds.length ≤ 16777216) (h : ∀ d ∈ ds, rec_u_law_same n [d, d] st = some (.bl true, st)) : rec_u_law_same (n + 1) [.lst ds, .lst ds] st = some (.bl true, st) := by
  refine frz_id ?_ rfl hc rfl
  have e := same_loop (env := [some (.lst ds), some (.lst ds), none, none]) h (fun e _ => e) fun d hd => ⟨_, rfl, by simp⟩
  simp [b_u_law_same, isNon, isA, e, hl, notin_trues]
theorem same_reach {ps : List (R × U)} {st : Store} (hc : clS st = true) : den_u_law_same [reachD ps, reachD ps] st = some (.bl true, st) :=
  same_tup hc (by simp) fun d hd => by
    simp only [List.mem_cons, List.not_mem_nil, or_false] at hd
    rcases hd with rfl | rfl <;> exact same_int hc
theorem same_ints {ns : List Int} {st : Store} (hc : clS st = true) (hl : ns.length ≤ 16777216) : den_u_law_same [.lst (ns.map D.int), .lst (ns.map D.int)] st = some (.bl true, st) :=
  same_lst hc (by rw [List.length_map]; exact hl) fun d hd => by
    obtain ⟨i, _, rfl⟩ := List.mem_map.mp hd
    exact same_int hc
end K82
set_option Elab.async false
set_option linter.all false
set_option maxRecDepth 100000
set_option maxHeartbeats 4000000
namespace K82
open PySem DL
/-! ### places of a reel -/
structure Pl (n i : Nat) (ps : List Nat) : Prop where
  len : ps.length + i = n
  inc : ps.Pairwise (· < ·)
  lt : ∀ p ∈ ps, p < n
  up : ∀ j p : Nat, ps[j]? = some p → p ≤ j + i
theorem pl_range (n : Nat) : Pl n 0 (List.range n) := by
  refine ⟨by simp, List.pairwise_lt_range, fun p hp => List.mem_range.mp hp, fun j p h => ?_⟩
  rw [List.getElem?_range] at h
  · cases h; omega
  · have := (List.getElem?_eq_some_iff.mp h).1
    simpa using this
theorem pl_erase {n i : Nat} {ps : List Nat} (h : Pl n i ps) {m : Nat} (hm : m < ps.length) : Pl n (i + 1) (ps.eraseIdx m) := by
  refine ⟨by rw [List.length_eraseIdx, if_pos hm]; have := h.len; omega, h.inc.sublist (List.eraseIdx_sublist _ _), fun p hp => h.lt p (List.mem_of_mem_eraseIdx hp), fun j p hj => ?_⟩
  rw [List.getElem?_eraseIdx] at hj
  split at hj
  · have := h.up j p hj; omega
  · have := h.up (j + 1) p hj; omega
theorem inc_ge {ps : List Nat} (h : ps.Pairwise (· < ·)) : ∀ j p : Nat, ps[j]? = some p → j ≤ p := by
  intro j
  induction j with
  | zero => intro p _; omega
  | succ j ih =>
    intro p hp
    have hj : j + 1 < ps.length := (List.getElem?_eq_some_iff.mp hp).1
    have h1 := ih _ (List.getElem?_eq_getElem (show j < ps.length by omega))
    have h2 := List.pairwise_iff_getElem.mp h j (j + 1) (by omega) hj (by omega)
    have h3 : ps[j + 1] = p := Option.some.inj (by rw [← hp, List.getElem?_eq_getElem hj])
    omega
theorem left_up {r : R} {u a : Int} (h : 2 ≤ u) : r.left ⟨u, a, 1⟩ = a + 1 - u := by
  unfold R.left
  simp only
  rw [if_neg (by omega), if_neg (by omega), if_pos trivial]
theorem left_dn {r : R} {u a : Int} (h : 2 ≤ u) : r.left ⟨u, a, -1⟩ = r.n - a - u := by
  unfold R.left
  simp only
  rw [if_neg (by omega), if_neg (by omega), if_neg (by omega)]
theorem left_one {r : R} {a : Int} : r.left ⟨1, a, 0⟩ = if r.t then min a (r.n - 1 - a) else a := by
  unfold R.left
  simp only
  rw [if_neg (by omega), if_pos trivial]
/-- a row of places that a run allows -/
def SeqOk (r : R) : U → List Nat → Prop
  | _, [] => True
  | x, p :: ps => ∃ y, p < r.s.length ∧ r.on x p = some y ∧ SeqOk r y ps
theorem seq_up {r : R} {i : Nat} (hi : (i : Int) ≤ r.l) : ∀ (qs : List Nat) (j : Nat) (x : U), x.u = j → 1 ≤ j → x.w ≠ -1 → (∀ q ∈ qs, x.a < q) → qs.Pairwise (· < ·) → (∀ q ∈ qs, q < r.s.length) → (∀ m q : Nat, qs[m]? = some q → q ≤ m + j + i) → SeqOk r x qs
  | [], _, _, _, _, _, _, _, _, _ => trivial
  | q :: qs, j, x, e, hj, hw, ha, hp, hl, hu => by
    obtain ⟨hp1, hp2⟩ := List.pairwise_cons.mp hp
    have hq := ha q List.mem_cons_self
    have h0 := hu 0 q rfl
    refine ⟨⟨x.u + 1, q, 1⟩, hl q List.mem_cons_self, ?_, seq_up hi qs (j + 1) _ (by show x.u + 1 = _; rw [e]; omega) (by omega) (by simp) (fun z hz => by have := hp1 z hz; show (q : Int) < z; omega) hp2 (fun z hz => hl z (List.mem_cons_of_mem _ hz)) fun m z hz => by have := hu (m + 1) z (by simpa using hz); omega⟩
    unfold R.on
    rw [if_neg (by omega), if_neg (by omega), if_pos hq, if_neg hw]
    unfold R.fit
    rw [left_up (by omega), if_pos (by omega)]
theorem seq_down {r : R} {i : Nat} (ht : r.t = true) (hi : (i : Int) ≤ r.l) : ∀ (qs : List Nat) (j : Nat) (x : U), x.u = j → 1 ≤ j → x.w ≠ 1 → (∀ q ∈ qs, (q : Int) < x.a) → qs.Pairwise (· > ·) → (∀ q ∈ qs, q < r.s.length) → (∀ m q : Nat, qs[m]? = some q → r.s.length ≤ q + (m + 1) + j + i) → SeqOk r x qs
  | [], _, _, _, _, _, _, _, _, _ => trivial
  | q :: qs, j, x, e, hj, hw, ha, hp, hl, hu => by
    obtain ⟨hp1, hp2⟩ := List.pairwise_cons.mp hp
    have hq := ha q List.mem_cons_self
    have h0 := hu 0 q rfl
    refine ⟨⟨x.u + 1, q, -1⟩, hl q List.mem_cons_self, ?_, seq_down ht hi qs (j + 1) _ (by show x.u + 1 = _; rw [e]; omega) (by omega) (by simp) (fun z hz => by have := hp1 z hz; show (z : Int) < q; omega) hp2 (fun z hz => hl z (List.mem_cons_of_mem _ hz)) fun m z hz => by have := hu (m + 1) z (by simpa using hz); omega⟩
    unfold R.on
    rw [if_neg (by omega), if_neg (by omega), if_neg (by omega), if_neg (by rw [ht]; simp [hw])]
    unfold R.fit
    rw [left_dn (by omega), if_pos (by unfold R.n; omega)]
theorem seq_first {r : R} {qs : List Nat} {q : Nat} (hl : q < r.s.length) (hq : (q : Int) ≤ r.l ∨ (r.t = true ∧ r.n - 1 - q ≤ r.l)) (h : SeqOk r ⟨1, q, 0⟩ qs) : SeqOk r U0 (q :: qs) := by
  refine ⟨⟨1, q, 0⟩, hl, ?_, h⟩
  unfold R.on U0
  rw [if_pos rfl]
  unfold R.fit
  rw [left_one, if_pos ?_]
  rcases hq with hq | ⟨ht, hq⟩
  · split <;> omega
  · rw [if_pos ht]; omega
theorem pl_seq {r : R} {i : Nat} {ps : List Nat} (hi : (i : Int) ≤ r.l) (h : Pl r.s.length i ps) : SeqOk r U0 ps := by
  cases ps with
  | nil => trivial
  | cons q qs =>
    obtain ⟨hp1, hp2⟩ := List.pairwise_cons.mp h.inc
    have h0 := h.up 0 q rfl
    exact seq_first (h.lt q List.mem_cons_self) (.inl (by omega)) (seq_up hi qs 1 _ rfl (by omega) (by simp) (fun z hz => by have := hp1 z hz; show (q : Int) < z; omega) hp2 (fun z hz => h.lt z (List.mem_cons_of_mem _ hz)) fun m z hz => by have := h.up (m + 1) z (by simpa using hz); omega)
theorem pl_rev {r : R} {i : Nat} {ps : List Nat} (ht : r.t = true) (hi : (i : Int) ≤ r.l) (h : Pl r.s.length i ps) : SeqOk r U0 ps.reverse := by
  have hge := inc_ge h.inc
  have hlen := h.len
  have hdn : ∀ m q : Nat, ps.reverse[m]? = some q → r.s.length ≤ q + (m + 1) + i := fun m q hm => by
    have hml : m < ps.length := by have := (List.getElem?_eq_some_iff.mp hm).1; simpa using this
    rw [List.getElem?_reverse hml] at hm
    have := hge _ _ hm
    omega
  have hpw : ps.reverse.Pairwise (· > ·) := List.pairwise_reverse.mpr h.inc
  have hlt : ∀ q ∈ ps.reverse, q < r.s.length := fun q hq => h.lt q (List.mem_reverse.mp hq)
  cases he : ps.reverse with
  | nil => trivial
  | cons q qs =>
    rw [he] at hdn hpw hlt
    obtain ⟨hp1, hp2⟩ := List.pairwise_cons.mp hpw
    have h0 := hdn 0 q rfl
    exact seq_first (hlt q List.mem_cons_self) (.inr ⟨ht, by unfold R.n; omega⟩) (seq_down ht hi qs 1 _ rfl (by omega) (by simp) (fun z hz => by have := hp1 z hz; show (z : Int) < q; omega) hp2 (fun z hz => hlt z (List.mem_cons_of_mem _ hz)) fun m z hz => by have := hdn (m + 1) z (by simpa using hz); omega)
end K82
set_option Elab.async false
set_option linter.all false
set_option maxRecDepth 100000
set_option maxHeartbeats 4000000
namespace K82
open PySem DL
theorem gk {st more rest : Store} {o : SObj} (h : st.length = 2) : (st ++ (more ++ o :: rest))[more.length + 2]? = some o := by
  rw [List.getElem?_append_right (by omega), List.getElem?_append_right (by omega)]
  rw [show more.length + 2 - st.length - more.length = 0 by omega]
  rfl
theorem sk {st more rest : Store} {o o' : SObj} (h : st.length = 2) : (st ++ (more ++ o :: rest)).set (more.length + 2) o' = st ++ (more ++ o' :: rest) := by
  rw [List.set_append_right _ _ (by omega), List.set_append_right _ _ (by omega)]
  rw [show more.length + 2 - st.length - more.length = 0 by omega]
  rfl
def pI (p : Nat) : D := .int p
theorem erase_map {α β : Type} (f : α → β) : ∀ (xs : List α) (m : Nat), (xs.map f).eraseIdx m = (xs.eraseIdx m).map f
  | [], _ => rfl
  | x :: xs, 0 => rfl
  | x :: xs, m + 1 => by
    rw [List.map_cons, List.eraseIdx_cons_succ, List.eraseIdx_cons_succ, List.map_cons, erase_map f xs m]
theorem Pen.cls {a : Int} {st more : Store} (h : Pen a st) (hm : more.all (belO (more.length + 2)) = true) : clS (st ++ more) = true := by
  have e : (st ++ more).length = more.length + 2 := by rw [List.length_append, h.len]; omega
  unfold clS
  rw [List.all_append, e, hm, Bool.and_true]
  cases h with
  | mk c t v h1 h2 h3 =>
    simp only [List.all_cons, List.all_nil, belO, bels_ints, bels, bel, Bool.and_true, Bool.true_and, decide_eq_true_eq]
    omega
def popB : D → DL.Env → Store → Option (Fl × DL.Env × Store) := forB (gN 7) (sDrop (dMeth .list mPopAt (dVar 6) (aCons (dCallF den_u_law_take (aCons (dVar 0) (aCons (dCall (pure1 fLen) (aCons (dVar 6) aNil)) aNil))) aNil)))
theorem pop_loop {n : Nat} {more : Store} (hm : more.all (belO (more.length + 3)) = true) {e1 e2 e3 e4 e5 e8 e9 : Option D} (hn : n ≤ 1000) : ∀ (ds : List D) (i : Nat) (ps : List Nat) (a : Int) (st : Store) (e7 : Option D), Pen a st → a + ds.length ≤ 800000 → Pl n i ps → i + ds.length ≤ n →
    ∃ (ps' : List Nat) (e7' : Option D) (st' : Store), Pl n (i + ds.length) ps' ∧ Pen (a + ds.length) st' ∧
      forL yesS popB ds [some (.ref 1), e1, e2, e3, e4, e5, some (.ref (more.length + 2)), e7, e8, e9] (st ++ (more ++ [.lst (ps.map pI)])) =
        some (.next, [some (.ref 1), e1, e2, e3, e4, e5, some (.ref (more.length + 2)), e7', e8, e9], st' ++ (more ++ [.lst (ps'.map pI)]))
  | [], i, ps, a, st, e7, p, _, h, _ => ⟨ps, e7, st, h, by simpa using p, by simp⟩
  | d :: ds, i, ps, a, st, e7, p, ha, h, hi => by
    have hlen := h.len
    have hi' : i + (ds.length + 1) ≤ n := by simpa using hi
    have hcl : clS (st ++ (more ++ [.lst (ps.map pI)])) = true := p.cls (by
      rw [List.all_append, List.length_append, List.length_singleton, hm]
      show (true && (bels _ (ps.map pI) && true)) = true
      rw [bels_map (f := pI) (fun _ => rfl)]; rfl)
    obtain ⟨x, st1, x0, x1, p1, e⟩ := take_eq (m := ps.length) p (by omega) hcl (by omega) (by omega)
    have hx : x.toNat < ps.length := by omega
    have hal : a + (ds.length + 1 : Nat) ≤ 800000 := ha
    obtain ⟨ps', e7', st', h2, p2, ih⟩ := pop_loop hm (e1 := e1) (e2 := e2) (e3 := e3) (e4 := e4) (e5 := e5) (e8 := e8) (e9 := e9) hn ds (i + 1) (ps.eraseIdx x.toNat) (a + 1) st1 (some d) p1 (by omega) (pl_erase h hx) (by omega)
    refine ⟨ps', e7', st', ?_, ?_, ?_⟩
    · rw [show i + (d :: ds).length = i + 1 + ds.length by simp; omega]; exact h2
    · rw [show a + ((d :: ds).length : Nat) = a + 1 + ds.length by simp; omega]; exact p2
    · rw [← ih]
      refine fo_next rfl ?_
      have g1 : (st ++ (more ++ [.lst (ps.map pI)]))[more.length + 2]? = some (.lst (ps.map pI)) := gk p.len
      have g2 : (st1 ++ (more ++ [.lst (ps.map pI)]))[more.length + 2]? = some (.lst (ps.map pI)) := gk p1.len
      have s2 : ∀ o : SObj, (st1 ++ (more ++ [SObj.lst (ps.map pI)])).set (more.length + 2) o = st1 ++ (more ++ [o]) := fun o => sk p1.len
      have e5 : (ps.map pI)[x.toNat]? = some (pI ps[x.toNat]) := by rw [List.getElem?_map, List.getElem?_eq_getElem hx]; rfl
      have hb : x < 9223372036854775808 := by omega
      simp [popB, g1, e, g2, s2, x0, hb, erase_map, hx]
end K82
set_option Elab.async false
set_option linter.all false
set_option maxRecDepth 100000
set_option maxHeartbeats 4000000
namespace K82
open PySem DL
abbrev Ob := List Nat × List (Nat × Nat)
def flatO (os : List Ob) : Store := os.flatMap fun o => [.lst (o.1.map pI), .lst (o.2.map cD)]
def refsO (b : Nat) (n : Nat) : List D := (List.range n).map fun i => .ref (b + 2 * i + 1)
def W (more : Store) (os : List Ob) (cut : List (Nat × Nat)) : Store := more ++ (.lst (refsO (more.length + 4) os.length) :: .lst (cut.map cD) :: flatO os)
theorem flat_len : ∀ os : List Ob, (flatO os).length = 2 * os.length
  | [] => rfl
  | o :: os => by
    have := flat_len os
    unfold flatO at *
    rw [List.flatMap_cons, List.length_append, this]
    simp; omega
theorem flat_snoc (os : List Ob) (o : Ob) : flatO (os ++ [o]) = flatO os ++ [.lst (o.1.map pI), .lst (o.2.map cD)] := by
  unfold flatO; rw [List.flatMap_append]; rfl
theorem refs_snoc (b n : Nat) : refsO b (n + 1) = refsO b n ++ [.ref (b + 2 * n + 1)] := by
  unfold refsO; rw [List.range_succ, List.map_append]; rfl
theorem W_len (more : Store) (os : List Ob) (cut : List (Nat × Nat)) : (W more os cut).length = more.length + 2 + 2 * os.length := by
  unfold W
  rw [List.length_append, List.length_cons, List.length_cons, flat_len]
  omega
theorem bel_cD (n : Nat) (c : Nat × Nat) : bel n (cD c) = true := rfl
theorem flat_bel (n : Nat) : ∀ os : List Ob, (flatO os).all (belO n) = true
  | [] => rfl
  | o :: os => by
    have := flat_bel n os
    unfold flatO at *
    rw [List.flatMap_cons, List.all_append, this]
    show (bels n (o.1.map pI) && (bels n (o.2.map cD) && true)) && true = true
    rw [bels_map (f := pI) (fun _ => rfl), bels_map (bel_cD n)]; rfl
theorem refs_bel {b n m : Nat} (h : b + 2 * n ≤ m) : bels m (refsO b n) = true :=
  bels_of fun d hd => by
    obtain ⟨i, hi, rfl⟩ := List.mem_map.mp hd
    have := List.mem_range.mp hi
    simp only [bel, decide_eq_true_eq]
    omega
theorem W_bel {more : Store} {os : List Ob} {cut : List (Nat × Nat)} {m : Nat} (hm : more.all (belO m) = true) (h : more.length + 4 + 2 * os.length ≤ m) : (W more os cut).all (belO m) = true := by
  unfold W
  rw [List.all_append, hm]
  show (true && (bels m (refsO (more.length + 4) os.length) && (bels m (cut.map cD) && (flatO os).all (belO m)))) = true
  rw [refs_bel h, bels_map (bel_cD m), flat_bel]; rfl
theorem enum_pl (n : Nat) : rgD 0 (n : Int) = (List.range n).map pI := by
  unfold rgD intsL
  rw [List.map_map, show ((n : Int) - 0).toNat = n by omega]
  exact List.map_congr_left fun k _ => by
    show D.int (0 + (k : Int)) = _
    rw [Int.zero_add]; rfl
noncomputable def placeB : D → DL.Env → Store → Option (Fl × DL.Env × Store) := forB (gUn 2 (gsCons (gN 4) (gsCons (gN 5) gsNil))) (sSeq (sSet 6 (dLR1 finR (dCall (pure1 fLen) (aCons (dOp2 fIx (dVar 5) (dC (D.int 0))) aNil))))
  (sSeq (sFor (iRng rng1 (aCons (dCallF den_u_law_take (aCons (dVar 0) (aCons (dOp2 fAdd (dOp2 fIx (dVar 5) (dC (D.int 1))) (dC (D.int 1))) aNil))) aNil)) (gN 7) (sDrop (dMeth .list mPopAt (dVar 6) (aCons (dCallF den_u_law_take (aCons (dVar 0) (aCons (dCall (pure1 fLen) (aCons (dVar 6) aNil)) aNil))) aNil))))
  (sSeq (sIf (tAndD (tTru (dOp2 fIx (dVar 5) (dC (D.int 2)))) (asB (dOp2 fEqR (dCallF den_u_law_take (aCons (dVar 0) (aCons (dC (D.int 2)) aNil))) (dC (D.int 1))))) (sSet 6 (dRevS (dVar 6))) sNext)
  (sDrop (dMeth .list mAppend (dVar 2) (aCons (dCompR (iOf (dVar 6)) (gN 9) tYesD (dTup (aCons (dVar 4) (aCons (dVar 9) aNil))) [9]) aNil))))))
/-- the last part of a turn: the row is laid -/
theorem place_end {more : Store} {os : List Ob} {st : Store} (hst : st.length = 2) {j : Nat} {ps qs : List Nat} {e0 e1 e3 e5 e6 e7 e8 : Option D} (x6 : D) (h6 : e6 = some x6) (hw : ∀ S : Store, S = st ++ (W more os [] ++ [SObj.lst (ps.map pI)]) → ∃ ck : Store → Bool, walkD S x6 = some (qs.map pI, ck) ∧ ck S = true) (hq : qs.length ≤ 1000) (ho : os.length ≤ 1000) (hj : j = os.length) :
    sDrop (dMeth .list mAppend (dVar 2) (aCons (dCompR (iOf (dVar 6)) (gN 9) tYesD (dTup (aCons (dVar 4) (aCons (dVar 9) aNil))) [9]) aNil)) [e0, e1, some (.ref (more.length + 2)), e3, some (.int j), e5, e6, e7, e8, none] (st ++ (W more os [] ++ [SObj.lst (ps.map pI)])) =
      some (.next, [e0, e1, some (.ref (more.length + 2)), e3, some (.int j), e5, e6, e7, e8, none], st ++ W more (os ++ [(ps, qs.map fun p => (j, p))]) []) := by
  subst h6
  obtain ⟨ck, w1, w2⟩ := hw _ rfl
  have c1 : compL ck (gN 9) tYesD (dTup (aCons (dVar 4) (aCons (dVar 9) aNil))) [e0, e1, some (.ref (more.length + 2)), e3, some (.int j), e5, some x6, e7, e8, none] (qs.map pI) (st ++ (W more os [] ++ [SObj.lst (ps.map pI)])) = some (qs.map fun p => cD (j, p), st ++ (W more os [] ++ [SObj.lst (ps.map pI)])) :=
    compL_over w2 _ _ _ fun p hp => ⟨_, rfl, by simp [cD, pI]⟩
  have g1 : (st ++ (W more os [] ++ [SObj.lst (ps.map pI)]))[more.length + 2]? = some (SObj.lst (refsO (more.length + 4) os.length)) := by
    unfold W
    rw [List.append_assoc, List.cons_append]
    exact gk hst
  have g2 : ((st ++ (W more os [] ++ [SObj.lst (ps.map pI)])) ++ [SObj.lst (qs.map fun p => cD (j, p))])[more.length + 2]? = some (SObj.lst (refsO (more.length + 4) os.length)) := by
    unfold W
    rw [List.append_assoc, List.append_assoc, List.append_assoc, List.cons_append]
    exact gk hst
  have s2 : ∀ o : SObj, ((st ++ (W more os [] ++ [SObj.lst (ps.map pI)])) ++ [SObj.lst (qs.map fun p => cD (j, p))]).set (more.length + 2) o = st ++ (more ++ o :: ((SObj.lst [] :: flatO os) ++ [SObj.lst (ps.map pI), SObj.lst (qs.map fun p => cD (j, p))])) := fun o => by
    unfold W
    rw [List.append_assoc, List.append_assoc, List.append_assoc, List.cons_append]
    rw [sk hst]
    simp
  have hlenS : (st ++ (W more os [] ++ [SObj.lst (ps.map pI)])).length = more.length + 4 + 2 * os.length + 1 := by
    rw [List.length_append, List.length_append, W_len, hst, List.length_singleton]; omega
  have fin : st ++ W more (os ++ [(ps, qs.map fun p => (j, p))]) [] = st ++ (more ++ (SObj.lst (refsO (more.length + 4) os.length ++ [.ref (more.length + 4 + 2 * os.length + 1)]) :: ((SObj.lst [] :: flatO os) ++ [SObj.lst (ps.map pI), SObj.lst (qs.map fun p => cD (j, p))]))) := by
    unfold W
    rw [List.length_append, List.length_singleton, refs_snoc, flat_snoc]
    simp [List.map_map, Function.comp_def]
  rw [fin]
  have hr : (refsO (more.length + 4) os.length).length < 16777216 := by unfold refsO; rw [List.length_map, List.length_range]; omega
  rw [ev_sdrop, ev_meth, ev_var]
  simp only [List.getElem?_cons_succ, List.getElem?_cons_zero, Option.bind_some, tyOk_list, itemsOf_ref, g1, Option.isSome_some, if_true, ev_acons, ev_compR, ev_iof, ev_var, w1, Option.map_some, ev_wipe, ev_wipe0, List.set_cons_succ, List.set_cons_zero, c1, ev_anil]
  simp only [List.length_map, show qs.length ≤ 16777216 by omega, if_true, Option.bind_some, Option.map_some, mApp_ev, mutOf_ref, g2, hr, s2, hlenS]
end K82
set_option Elab.async false
set_option linter.all false
set_option maxRecDepth 100000
set_option maxHeartbeats 4000000
namespace K82
open PySem DL
theorem rg_ok {n : Nat} (h : n ≤ 1000) : rgOk 0 (n : Int) = true := by
  unfold rgOk
  have h1 : ((n : Int) - 0).toNat ≤ 2 ^ 24 := Nat.le_trans (show ((n : Int) - 0).toNat ≤ 1000 by omega) (by decide)
  have h2 : (n : Int) < 2 ^ 62 := Int.lt_of_le_of_lt (show (n : Int) ≤ 1000 by omega) (by decide)
  have h3 : -(2 ^ 62 : Int) ≤ n := Int.le_trans (show -(2 ^ 62 : Int) ≤ 0 by decide) (by omega)
  rw [decide_eq_true h1, decide_eq_true h2, decide_eq_true h3]
  rfl
theorem small_ok {x : Int} (h0 : 0 ≤ x) (h : x ≤ 100000) : small62 x = true :=
  small62_eq.mpr ⟨Int.le_trans (show -(2 ^ 62 : Int) ≤ 0 by decide) h0, Int.lt_of_le_of_lt h (by decide)⟩
theorem dlr_ev {a : Den} {env : DL.Env} {st st' : Store} {n : Nat} (ha : a env st = some (.int n, st')) (h : rgOk 0 (n : Int) = true) : dLR1 finR a env st = some (.ref st'.length, st' ++ [.lst ((List.range n).map pI)]) := by
  unfold dLR1
  rw [ha, Option.bind_some]
  show (if rgOk 0 (n : Int) = true then some (finR (rgD 0 n) st') else none) = _
  rw [if_pos h, enum_pl]
  rfl
theorem place_step {r : R} (ok : r.Ok) {more : Store} (hm : more.all (belO (more.length + 2)) = true) {os : List Ob} (ho : os.length ≤ 900) {a : Int} {st : Store} (p : Pen a st) (ha : a ≤ 700000) {e1 e3 e4 e5 e6 e7 e8 : Option D} :
    ∃ (ps qs : List Nat) (e6' e7' : Option D) (st' : Store), SeqOk r U0 qs ∧ qs.length ≤ 10 ∧ Pen (a + 13) st' ∧
      placeB (.tup [.int os.length, r.d]) [some (.ref 1), e1, some (.ref (more.length + 2)), e3, e4, e5, e6, e7, e8, none] (st ++ W more os []) =
        some (.next, [some (.ref 1), e1, some (.ref (more.length + 2)), e3, some (.int os.length), some r.d, e6', e7', e8, none], st' ++ W more (os ++ [(ps, qs.map fun p => (os.length, p))]) []) := by
  have hn := ok.len
  have hn1 := ok.pos
  have hl0 := ok.l0
  have hl1 := ok.l1
  have hW3 : (W more os []).all (belO ((W more os []).length + 3)) = true := W_bel (all_mono (by rw [W_len]; omega) hm) (by rw [W_len]; omega)
  have clP : ∀ {b : Int} {s : Store} (ps : List Nat), Pen b s → clS (s ++ (W more os [] ++ [SObj.lst (ps.map pI)])) = true := fun ps pp => pp.cls (by
    rw [List.all_append, List.length_append, List.length_singleton, hW3]
    show (true && (bels _ (ps.map pI) && true)) = true
    rw [bels_map (f := pI) (fun _ => rfl)]; rfl)
  obtain ⟨x, st1, x0, x1, p1, e⟩ := take_eq (m := r.l + 1) p (by omega) (clP (List.range r.s.length) p) (by omega) (by omega)
  obtain ⟨ps, f7, st2, h2, p2, l⟩ := pop_loop (n := r.s.length) (more := W more os []) hW3 (e1 := e1) (e2 := some (.ref (more.length + 2))) (e3 := e3) (e4 := some (.int os.length)) (e5 := some r.d) (e8 := e8) (e9 := none) (by omega) (rangeD 0 x.toNat) 0 (List.range r.s.length) (a + 1) st1 e7 p1 (by rw [range_len]; omega) (pl_range _) (by rw [range_len]; omega)
  rw [range_len, Nat.zero_add] at h2
  rw [range_len] at p2
  have hpl : ps.length ≤ 10 := by have := h2.len; omega
  have hWl : (st ++ W more os []).length = (W more os []).length + 2 := by rw [List.length_append, p.len]; omega
  have hx62 : small62 x = true := small_ok x0 (by omega)
  have hrg : rgOk 0 (r.s.length : Int) = true := rg_ok (by omega)
  have hxl : ((x.toNat : Nat) : Int) ≤ r.l := by omega
  have gk2 : ∀ s : Store, s.length = 2 → (s ++ (W more os [] ++ [SObj.lst (ps.map pI)]))[(W more os []).length + 2]? = some (.lst (ps.map pI)) := fun s hs => gk hs
  have walkR : ∀ s : Store, s.length = 2 → ∀ S : Store, S = s ++ (W more os [] ++ [SObj.lst (ps.map pI)]) → ∃ ck : Store → Bool, walkD S (.ref ((W more os []).length + 2)) = some (ps.map pI, ck) ∧ ck S = true := fun s hs S hS => by
    subst hS
    refine ⟨sameS ((W more os []).length + 2) (ps.map pI), ?_, sameS_eq.mpr (gk2 s hs)⟩
    rw [walkD_ref, gk2 s hs]
  -- the row as it is laid
  have key : ∀ (qs : List Nat) (x6 : D) (st3 : Store) (c : Int), SeqOk r U0 qs → qs.length ≤ 10 → Pen c st3 → c ≤ a + 13 → (∀ S : Store, S = st3 ++ (W more os [] ++ [SObj.lst (ps.map pI)]) → ∃ ck : Store → Bool, walkD S x6 = some (qs.map pI, ck) ∧ ck S = true) →
      (∀ b1 : DenS, b1 = sDrop (dMeth .list mAppend (dVar 2) (aCons (dCompR (iOf (dVar 6)) (gN 9) tYesD (dTup (aCons (dVar 4) (aCons (dVar 9) aNil))) [9]) aNil)) →
        (sSeq (sIf (tAndD (tTru (dOp2 fIx (dVar 5) (dC (D.int 2)))) (asB (dOp2 fEqR (dCallF den_u_law_take (aCons (dVar 0) (aCons (dC (D.int 2)) aNil))) (dC (D.int 1))))) (sSet 6 (dRevS (dVar 6))) sNext) b1)
          [some (.ref 1), e1, some (.ref (more.length + 2)), e3, some (.int os.length), some r.d, some (.ref ((W more os []).length + 2)), f7, e8, none] (st2 ++ (W more os [] ++ [SObj.lst (ps.map pI)])) =
        b1 [some (.ref 1), e1, some (.ref (more.length + 2)), e3, some (.int os.length), some r.d, some x6, f7, e8, none] (st3 ++ (W more os [] ++ [SObj.lst (ps.map pI)]))) →
      ∃ (ps qs : List Nat) (e6' e7' : Option D) (st' : Store), SeqOk r U0 qs ∧ qs.length ≤ 10 ∧ Pen (a + 13) st' ∧
        placeB (.tup [.int os.length, r.d]) [some (.ref 1), e1, some (.ref (more.length + 2)), e3, e4, e5, e6, e7, e8, none] (st ++ W more os []) =
          some (.next, [some (.ref 1), e1, some (.ref (more.length + 2)), e3, some (.int os.length), some r.d, e6', e7', e8, none], st' ++ W more (os ++ [(ps, qs.map fun p => (os.length, p))]) []) := fun qs x6 st3 c hs hq hp hc hwk hif => by
    refine ⟨ps, qs, some x6, f7, st3, hs, hq, hp.mono hc, ?_⟩
    have pe := place_end (more := more) (os := os) (st := st3) hp.len (j := os.length) (ps := ps) (qs := qs) (e0 := some (.ref 1)) (e1 := e1) (e3 := e3) (e5 := some r.d) (e7 := f7) (e8 := e8) x6 rfl hwk (by omega) (by omega) rfl
    rw [← pe, ← hif _ rfl]
    unfold placeB
    rw [ev_forB]
    generalize sSeq (sIf (tAndD (tTru (dOp2 fIx (dVar 5) (dC (D.int 2)))) (asB (dOp2 fEqR (dCallF den_u_law_take (aCons (dVar 0) (aCons (dC (D.int 2)) aNil))) (dC (D.int 1))))) (sSet 6 (dRevS (dVar 6))) sNext) (sDrop (dMeth .list mAppend (dVar 2) (aCons (dCompR (iOf (dVar 6)) (gN 9) tYesD (dTup (aCons (dVar 4) (aCons (dVar 9) aNil))) [9]) aNil))) = T
    simp only [popB] at l
    obtain ⟨s, lo, t⟩ := r
    simp only [R.d] at *
    have hs : s.length ≤ 16777216 := by omega
    have hst := p.len
    have hk : st.length + (W more os []).length = (W more os []).length + 2 := by omega
    have q1 : sSet 6 (dLR1 finR (dCall (pure1 fLen) (aCons (dOp2 fIx (dVar 5) (dC (D.int 0))) aNil))) [some (.ref 1), e1, some (.ref (more.length + 2)), e3, some (.int os.length), some (.tup [.str s, .int lo, .bl t]), e6, e7, e8, none] (st ++ W more os []) =
        some (.next, [some (.ref 1), e1, some (.ref (more.length + 2)), e3, some (.int os.length), some (.tup [.str s, .int lo, .bl t]), some (.ref ((W more os []).length + 2)), e7, e8, none], st ++ (W more os [] ++ [SObj.lst ((List.range s.length).map pI)])) := by
      rw [ev_sset, dlr_ev (n := s.length) (st' := st ++ W more os []) (by simp [hs]) hrg, List.length_append, hk, List.append_assoc]
      rfl
    have q2 : iRng rng1 (aCons (dCallF den_u_law_take (aCons (dVar 0) (aCons (dOp2 fAdd (dOp2 fIx (dVar 5) (dC (D.int 1))) (dC (D.int 1))) aNil))) aNil) [some (.ref 1), e1, some (.ref (more.length + 2)), e3, some (.int os.length), some (.tup [.str s, .int lo, .bl t]), some (.ref ((W more os []).length + 2)), e7, e8, none] (st ++ (W more os [] ++ [SObj.lst ((List.range s.length).map pI)])) =
        some ((rangeD 0 x.toNat, yesS), st1 ++ (W more os [] ++ [SObj.lst ((List.range s.length).map pI)])) := by
      simp only [ev_irng, ev_acons, ev_fun, ev_op, ev_var, ev_c, ev_anil, List.getElem?_cons_succ, List.getElem?_cons_zero, Option.bind_some, Option.map_some, ix_tup, at_1, ad_int, e, rng1, hx62, if_true]
    have q3 : gUn 2 (gsCons (gN 4) (gsCons (gN 5) gsNil)) (.tup [.int os.length, .tup [.str s, .int lo, .bl t]]) [some (.ref 1), e1, some (.ref (more.length + 2)), e3, e4, e5, e6, e7, e8, none] (st ++ W more os []) = some ([some (.ref 1), e1, some (.ref (more.length + 2)), e3, some (.int os.length), some (.tup [.str s, .int lo, .bl t]), e6, e7, e8, none], st ++ W more os []) := rfl
    rw [q3, Option.bind_some]
    dsimp only
    rw [ev_seq, q1, Option.bind_some]
    dsimp only
    rw [ev_seq, ev_sfor, q2, Option.bind_some]
    dsimp only
    rw [l]
    rfl
  have p2' : Pen (a + 1 + ((x.toNat : Nat) : Int)) st2 := p2
  cases ht : r.t with
  | false =>
    refine key ps _ st2 _ (pl_seq hxl h2) hpl p2' (by omega) (walkR st2 p2.len) fun b1 hb1 => ?_
    obtain ⟨s, lo, t⟩ := r
    simp only at ht
    subst ht
    generalize b1 = B
    simp [R.d]
  | true =>
    obtain ⟨y, st3, y0, y1, p3, e3⟩ := take_eq (m := 2) p2' (by omega) (clP ps p2') (by omega) (by omega)
    by_cases hy : y = 1
    · refine key ps.reverse (.lst (ps.reverse.map pI)) st3 _ (pl_rev ht hxl h2) (by rw [List.length_reverse]; exact hpl) p3 (by omega) (fun S hS => ⟨yesS, rfl, rfl⟩) fun b1 hb1 => ?_
      have g3 := gk2 st3 p3.len
      obtain ⟨s, lo, t⟩ := r
      simp only at ht
      subst ht hy
      generalize b1 = B
      simp [R.d, e3, g3]
    · refine key ps _ st3 _ (pl_seq hxl h2) hpl p3 (by omega) (walkR st3 p3.len) fun b1 hb1 => ?_
      obtain ⟨s, lo, t⟩ := r
      simp only at ht
      subst ht
      generalize b1 = B
      simp [R.d, e3, hy]
end K82
set_option Elab.async false
set_option linter.all false
set_option maxRecDepth 100000
set_option maxHeartbeats 4000000
namespace K82
open PySem DL
/-- the rows that have been laid, from the k-th reel on -/
def RowsOk (k : Nat) : List R → List Ob → Prop
  | [], [] => True
  | r :: rs, o :: os => (∃ qs : List Nat, o.2 = qs.map (fun p => (k, p)) ∧ SeqOk r U0 qs ∧ qs.length ≤ 10) ∧ RowsOk (k + 1) rs os
  | _, _ => False
def enumR (k : Nat) (rs : List R) : List D := ((rs.map R.d).zipIdx k).map fun p => .tup [.int (p.2 : Nat), p.1]
theorem place_loop {more : Store} (hm : more.all (belO (more.length + 2)) = true) {e1 e3 e8 : Option D} : ∀ (rs : List R) (os : List Ob) (a : Int) (st : Store) (e4 e5 e6 e7 : Option D), (∀ r ∈ rs, r.Ok) → os.length + rs.length ≤ 900 → Pen a st → a + 13 * rs.length ≤ 700000 →
    ∃ (news : List Ob) (e4' e5' e6' e7' : Option D) (st' : Store), RowsOk os.length rs news ∧ Pen (a + 13 * rs.length) st' ∧
      forL yesS placeB (enumR os.length rs) [some (.ref 1), e1, some (.ref (more.length + 2)), e3, e4, e5, e6, e7, e8, none] (st ++ W more os []) =
        some (.next, [some (.ref 1), e1, some (.ref (more.length + 2)), e3, e4', e5', e6', e7', e8, none], st' ++ W more (os ++ news) [])
  | [], os, a, st, e4, e5, e6, e7, _, _, p, _ => ⟨[], e4, e5, e6, e7, st, trivial, by simpa using p, by simp [enumR]⟩
  | r :: rs, os, a, st, e4, e5, e6, e7, ok, ho, p, ha => by
    have hl : ((r :: rs).length : Int) = rs.length + 1 := by simp
    have ho' : os.length + (rs.length + 1) ≤ 900 := ho
    obtain ⟨ps, qs, f6, f7, st1, h1, h2, p1, e⟩ := place_step (ok r List.mem_cons_self) hm (os := os) (by omega) p (by omega) (e1 := e1) (e3 := e3) (e4 := e4) (e5 := e5) (e6 := e6) (e7 := e7) (e8 := e8)
    obtain ⟨news, g4, g5, g6, g7, st2, q1, p2, ih⟩ := place_loop hm (e1 := e1) (e3 := e3) (e8 := e8) rs (os ++ [(ps, qs.map fun p => (os.length, p))]) (a + 13) st1 (some (.int os.length)) (some r.d) f6 f7 (fun z hz => ok z (List.mem_cons_of_mem _ hz)) (by simp; omega) p1 (by omega)
    refine ⟨(ps, qs.map fun p => (os.length, p)) :: news, g4, g5, g6, g7, st2, ⟨⟨qs, rfl, h1, h2⟩, ?_⟩, ?_, ?_⟩
    · simpa using q1
    · rw [show a + 13 * ((r :: rs).length : Int) = a + 13 + 13 * rs.length by omega]; exact p2
    · have e2 : enumR os.length (r :: rs) = .tup [.int os.length, r.d] :: enumR (os ++ [(ps, qs.map fun p => (os.length, p))]).length rs := by
        unfold enumR
        rw [List.map_cons, List.zipIdx_cons, List.map_cons, List.length_append, List.length_singleton]
      rw [e2, fo_next rfl e, ih]
      simp
end K82
set_option Elab.async false
set_option linter.all false
set_option maxRecDepth 100000
set_option maxHeartbeats 4000000
namespace K82
open PySem DL
theorem flat_get : ∀ (os : List Ob) (i : Nat) (o : Ob), os[i]? = some o → (flatO os)[2 * i + 1]? = some (.lst (o.2.map cD))
  | o :: os, 0, _, h => by cases h; rfl
  | o :: os, i + 1, q, h => by
    have ih := flat_get os i q (by simpa using h)
    unfold flatO at *
    rw [List.flatMap_cons, show 2 * (i + 1) + 1 = 2 * i + 1 + 1 + 1 by omega]
    exact ih
theorem flat_set : ∀ (os : List Ob) (i : Nat) (o : Ob) (row : List (Nat × Nat)), os[i]? = some o → (flatO os).set (2 * i + 1) (.lst (row.map cD)) = flatO (os.set i (o.1, row))
  | o :: os, 0, _, row, h => by cases h; rfl
  | o :: os, i + 1, q, row, h => by
    have ih := flat_set os i q row (by simpa using h)
    unfold flatO at *
    rw [List.flatMap_cons, show 2 * (i + 1) + 1 = 2 * i + 1 + 1 + 1 by omega, List.set_cons_succ, List.flatMap_cons, ← ih]
    rfl
theorem W_get {st more : Store} (hst : st.length = 2) {os : List Ob} {cut : List (Nat × Nat)} {i : Nat} {o : Ob} (h : os[i]? = some o) : (st ++ W more os cut)[more.length + 4 + 2 * i + 1]? = some (.lst (o.2.map cD)) := by
  unfold W
  rw [List.getElem?_append_right (by omega), List.getElem?_append_right (by omega)]
  rw [show more.length + 4 + 2 * i + 1 - st.length - more.length = 2 * i + 1 + 1 + 1 by omega]
  exact flat_get os i o h
theorem W_set {st more : Store} (hst : st.length = 2) {os : List Ob} {cut : List (Nat × Nat)} {i : Nat} {o : Ob} (h : os[i]? = some o) (row : List (Nat × Nat)) : (st ++ W more os cut).set (more.length + 4 + 2 * i + 1) (.lst (row.map cD)) = st ++ W more (os.set i (o.1, row)) cut := by
  unfold W
  rw [List.set_append_right _ _ (by omega), List.set_append_right _ _ (by omega)]
  rw [show more.length + 4 + 2 * i + 1 - st.length - more.length = 2 * i + 1 + 1 + 1 by omega, List.set_cons_succ, List.set_cons_succ, flat_set os i o row h, List.length_set]
theorem W_rows {st more : Store} (hst : st.length = 2) {os : List Ob} {cut : List (Nat × Nat)} : (st ++ W more os cut)[more.length + 2]? = some (.lst (refsO (more.length + 4) os.length)) := gk hst
theorem W_cut {st more : Store} (hst : st.length = 2) {os : List Ob} {cut : List (Nat × Nat)} : (st ++ W more os cut)[more.length + 3]? = some (.lst (cut.map cD)) := by
  unfold W
  rw [List.getElem?_append_right (by omega), List.getElem?_append_right (by omega)]
  rw [show more.length + 3 - st.length - more.length = 0 + 1 by omega]
  rfl
theorem W_setCut {st more : Store} (hst : st.length = 2) {os : List Ob} {cut : List (Nat × Nat)} (cut' : List (Nat × Nat)) : (st ++ W more os cut).set (more.length + 3) (.lst (cut'.map cD)) = st ++ W more os cut' := by
  unfold W
  rw [List.set_append_right _ _ (by omega), List.set_append_right _ _ (by omega)]
  rw [show more.length + 3 - st.length - more.length = 0 + 1 by omega]
  rfl
end K82
set_option Elab.async false
set_option linter.all false
set_option maxRecDepth 100000
set_option maxHeartbeats 4000000
namespace K82
open PySem DL
structure Rem (rs : List R) (xs : List U) (os : List Ob) : Prop where
  l1 : os.length = rs.length
  l2 : xs.length = rs.length
  row : ∀ (k : Nat) (r : R) (x : U) (o : Ob), rs[k]? = some r → xs[k]? = some x → os[k]? = some o → ∃ qs : List Nat, o.2 = qs.map (fun p => (k, p)) ∧ SeqOk r x qs
def total (os : List Ob) : Nat := (os.map fun o => o.2.length).sum
theorem total_set : ∀ (os : List Ob) (i : Nat) (o : Ob) (row : List (Nat × Nat)) (c : Nat × Nat), os[i]? = some o → o.2 = c :: row → total (os.set i (o.1, row)) + 1 = total os
  | o :: os, 0, _, row, c, h, e => by
    cases h
    unfold total
    simp [e]; omega
  | o :: os, i + 1, q, row, c, h, e => by
    have ih := total_set os i q row c (by simpa using h) e
    unfold total at *
    simp at *; omega
theorem total_pos {os : List Ob} (h : 0 < total os) : ∃ o ∈ os, o.2 ≠ [] := by
  induction os with
  | nil => exact absurd h (by simp [total])
  | cons o os ih =>
    by_cases e : o.2 = []
    · obtain ⟨q, hq, h2⟩ := ih (by unfold total at *; simpa [e] using h)
      exact ⟨q, List.mem_cons_of_mem _ hq, h2⟩
    · exact ⟨o, List.mem_cons_self, e⟩
theorem pls_map {α : Type} {f : α → D} (h : ∀ a, pl (f a) = true) : ∀ as : List α, pls (as.map f) = true
  | [] => rfl
  | a :: as => by rw [List.map_cons, pls, h a, pls_map h as]; rfl
theorem deq_nil (xs : List D) : deq (.lst xs) (.lst []) = xs.isEmpty := by
  cases xs <;> rfl
theorem ne_nil {st : Store} {n : Nat} {row : List (Nat × Nat)} (h : st[n]? = some (.lst (row.map cD))) : fNeR st (.ref n) (.lst []) = some (.bl (!row.isEmpty)) := by
  have e1 : flat st (.ref n) = .lst (row.map cD) := by unfold flat; simp only [h]
  show fNe st (flat st (.ref n)) (flat st (.lst [])) = _
  rw [e1]
  show (if cmpOk (.lst (row.map cD)) (.lst []) = true then some (D.bl (!deq (.lst (row.map cD)) (.lst []))) else none) = _
  have h2 : cmpOk (.lst (row.map cD)) (.lst []) = true := by
    show (pls (row.map cD) && true && _) = true
    rw [pls_map (f := cD) (fun _ => rfl)]
    show (true && true && (decide (dep (.lst (row.map cD)) ≤ 50) || true)) = true
    rw [Bool.or_true]; rfl
  rw [if_pos h2, deq_nil]
  cases row <;> rfl
noncomputable def pickB : D → DL.Env → Store → Option (Fl × DL.Env × Store) := forB (gN 7) (sSeq (sSet 8 (dCallF den_u_law_one_of (aCons (dVar 0) (aCons (dComp (iOf (dVar 2)) (gN 8) (asB (dOp2 fNeR (dVar 8) (dLst aNil))) (dVar 8) [8]) aNil))))
  (sDrop (dMeth .list mAppend (dVar 3) (aCons (dMeth .list mPopAt (dVar 8) (aCons (dC (D.int 0)) aNil)) aNil))))
def full (os : List Ob) (i : Nat) : Bool := match os[i]? with
  | some o => !o.2.isEmpty
  | none => false
theorem comp_rows {st more : Store} (hst : st.length = 2) {os : List Ob} {cut : List (Nat × Nat)} (env : DL.Env) (h8 : 8 < env.length) :
    compL (sameS (more.length + 2) (refsO (more.length + 4) os.length)) (gN 8) (asB (dOp2 fNeR (dVar 8) (dLst aNil))) (dVar 8) env (refsO (more.length + 4) os.length) (st ++ W more os cut) =
      some (((List.range os.length).filter (full os)).map (fun i => .ref (more.length + 4 + 2 * i + 1)), st ++ W more os cut) := by
  rw [compL_pure (sameS_eq.mpr (W_rows hst)) (fun d => match d with | .ref n => if full os ((n - (more.length + 4) - 1) / 2) = true then some (.ref n) else none | _ => none) _ fun d hd => ?_]
  · congr 2
    unfold refsO
    rw [List.filterMap_map]
    induction List.range os.length with
    | nil => rfl
    | cons i l ih =>
      rw [List.filterMap_cons, List.filter_cons]
      have e : (more.length + 4 + 2 * i + 1 - (more.length + 4) - 1) / 2 = i := by omega
      by_cases h : full os i = true
      · simp only [Function.comp_apply, e, h, if_true, List.map_cons, ih]
      · simp only [Function.comp_apply, e, h, ih]; rfl
  · obtain ⟨i, hi, rfl⟩ := List.mem_map.mp hd
    have hi := List.mem_range.mp hi
    have e : (more.length + 4 + 2 * i + 1 - (more.length + 4) - 1) / 2 = i := by omega
    have ho := List.getElem?_eq_getElem hi
    have g := W_get (more := more) hst (cut := cut) ho
    have n1 := ne_nil g
    refine ⟨_, rfl, ?_⟩
    have hf : full os i = !(os[i]).2.isEmpty := by unfold full; rw [ho]
    by_cases h : full os i = true
    · refine .inr ⟨.ref (more.length + 4 + 2 * i + 1), by simp only [e, h, if_true], ?_, ?_⟩
      · rw [hf] at h
        simp [h8, n1, h]
      · simp [h8]
    · refine .inl ⟨by simp only [e, h]; rfl, ?_⟩
      rw [hf] at h
      simp [h8, n1]
      simpa using h
end K82
set_option Elab.async false
set_option linter.all false
set_option maxRecDepth 100000
set_option maxHeartbeats 4000000
namespace K82
open PySem DL
theorem pick_loop {rs : List R} {more : Store} (hm : more.all (belO (more.length + 2)) = true) {e1 e4 e5 e6 e9 : Option D} : ∀ (ds : List D) (os : List Ob) (xs : List U) (cut : List (Nat × Nat)) (a : Int) (st : Store) (e7 e8 : Option D), ds.length = total os → Rem rs xs os → Pen a st → a + ds.length ≤ 700000 → os.length ≤ 900 → cut.length + ds.length ≤ 100000 →
    ∃ (rest : List (Nat × Nat)) (os' : List Ob) (e7' e8' : Option D) (st' : Store), Valid rs xs rest ∧ rest.length = ds.length ∧ Pen (a + ds.length) st' ∧
      forL yesS pickB ds [some (.ref 1), e1, some (.ref (more.length + 2)), some (.ref (more.length + 3)), e4, e5, e6, e7, e8, e9] (st ++ W more os cut) =
        some (.next, [some (.ref 1), e1, some (.ref (more.length + 2)), some (.ref (more.length + 3)), e4, e5, e6, e7', e8', e9], st' ++ W more os' (cut ++ rest))
  | [], os, xs, cut, a, st, e7, e8, _, _, p, _, _, _ => ⟨[], os, e7, e8, st, trivial, rfl, by simpa using p, by simp⟩
  | d :: ds, os, xs, cut, a, st, e7, e8, ht, hr, p, ha, ho, hc => by
    have ht' : ds.length + 1 = total os := ht
    have ha' : a + (ds.length + 1 : Nat) ≤ 700000 := ha
    have hc' : cut.length + (ds.length + 1) ≤ 100000 := hc
    obtain ⟨o0, ho0, hne⟩ := total_pos (os := os) (by omega)
    obtain ⟨k0, hk0⟩ := List.getElem?_of_mem ho0
    have hWl : (st ++ W more os cut).length = more.length + 4 + 2 * os.length := by rw [List.length_append, p.len, W_len]; omega
    have hcl : clS (st ++ W more os cut) = true := p.cls (W_bel (all_mono (by rw [W_len]; omega) hm) (by rw [W_len]; omega))
    have hfull0 : full os k0 = true := by unfold full; simp only [hk0]; cases q : o0.2 with | nil => exact absurd q hne | cons => rfl
    have hk0l : k0 < os.length := (List.getElem?_eq_some_iff.mp hk0).1
    obtain ⟨x, st1, hx, p1, e⟩ := one_lst (xs := ((List.range os.length).filter (full os)).map fun i => D.ref (more.length + 4 + 2 * i + 1)) p (by omega) hcl
      (by intro z; have := List.map_eq_nil_iff.mp z; have hmem : k0 ∈ (List.range os.length).filter (full os) := List.mem_filter.mpr ⟨List.mem_range.mpr hk0l, hfull0⟩; rw [this] at hmem; cases hmem)
      (by rw [List.length_map]; exact Nat.le_trans (List.length_filter_le _ _) (by rw [List.length_range]; omega))
      (bels_of fun d hd => by
        obtain ⟨i, hi, rfl⟩ := List.mem_map.mp hd
        have := List.mem_range.mp (List.mem_filter.mp hi).1
        simp only [bel, decide_eq_true_eq, hWl]; omega)
    obtain ⟨i, hi, rfl⟩ := List.mem_map.mp hx
    obtain ⟨hi1, hi2⟩ := List.mem_filter.mp hi
    have hil := List.mem_range.mp hi1
    have hoi := List.getElem?_eq_getElem hil
    unfold full at hi2
    simp only [hoi] at hi2
    obtain ⟨r, hri⟩ : ∃ r, rs[i]? = some r := ⟨_, List.getElem?_eq_getElem (by rw [← hr.l1]; exact hil)⟩
    obtain ⟨y, hyi⟩ : ∃ y, xs[i]? = some y := ⟨_, List.getElem?_eq_getElem (by rw [hr.l2, ← hr.l1]; exact hil)⟩
    obtain ⟨qs, hq, hs⟩ := hr.row i r y _ hri hyi hoi
    cases qs with
    | nil => rw [hq] at hi2; simp at hi2
    | cons q qs =>
      obtain ⟨z, hz1, hz2, hz3⟩ := hs
      have hrow : (os[i]).2 = (i, q) :: qs.map fun p => (i, p) := hq
      have ht2 := total_set os i _ (qs.map fun p => (i, p)) (i, q) hoi hrow
      have hr2 : Rem rs (xs.set i z) (os.set i ((os[i]).1, qs.map fun p => (i, p))) := by
        refine ⟨by rw [List.length_set]; exact hr.l1, by rw [List.length_set]; exact hr.l2, fun k r' x' o' h1 h2 h3 => ?_⟩
        by_cases e : i = k
        · subst e
          rw [List.getElem?_set_self hil] at h3
          rw [List.getElem?_set_self (by rw [hr.l2, ← hr.l1]; exact hil)] at h2
          cases h2; cases h3
          rw [hri] at h1; cases h1
          exact ⟨qs, rfl, hz3⟩
        · rw [List.getElem?_set_ne e] at h2 h3
          exact hr.row k r' x' o' h1 h2 h3
      obtain ⟨rest, os', f7, f8, st2, v, rl, p2, ih⟩ := pick_loop hm (e1 := e1) (e4 := e4) (e5 := e5) (e6 := e6) (e9 := e9) ds (os.set i ((os[i]).1, qs.map fun p => (i, p))) (xs.set i z) (cut ++ [(i, q)]) (a + 1) st1 (some d) (some (.ref (more.length + 4 + 2 * i + 1))) (by omega) hr2 p1 (by omega) (by rw [List.length_set]; exact ho) (by simp; omega)
      refine ⟨(i, q) :: rest, os', f7, f8, st2, ⟨r, y, z, hri, hyi, hz1, hz2, v⟩, by simp [rl], ?_, ?_⟩
      · rw [show a + ((d :: ds).length : Nat) = a + 1 + ds.length by simp; omega]; exact p2
      · rw [show cut ++ (i, q) :: rest = (cut ++ [(i, q)]) ++ rest by simp, ← ih]
        refine fo_next rfl ?_
        have cr := comp_rows (more := more) p.len (os := os) (cut := cut) [some (.ref 1), e1, some (.ref (more.length + 2)), some (.ref (more.length + 3)), e4, e5, e6, some d, none, e9] (by simp)
        have g1 := W_rows (more := more) p.len (os := os) (cut := cut)
        have g2 := W_get (more := more) p1.len (cut := cut) hoi
        have g3 := W_cut (more := more) p1.len (os := os) (cut := cut)
        have s1 := W_set (more := more) p1.len (cut := cut) hoi (qs.map fun p => (i, p))
        have g4 := W_cut (more := more) p1.len (os := os.set i ((os[i]).1, qs.map fun p => (i, p))) (cut := cut)
        have s2 := W_setCut (more := more) p1.len (os := os.set i ((os[i]).1, qs.map fun p => (i, p))) (cut := cut) (cut ++ [(i, q)])
        rw [hrow] at g2
        have fl : ((List.range os.length).filter (full os)).length ≤ 16777216 := Nat.le_trans (List.length_filter_le _ _) (by rw [List.length_range]; omega)
        have cl : cut.length < 16777216 := by omega
        have q1 : sSet 8 (dCallF den_u_law_one_of (aCons (dVar 0) (aCons (dComp (iOf (dVar 2)) (gN 8) (asB (dOp2 fNeR (dVar 8) (dLst aNil))) (dVar 8) [8]) aNil))) [some (.ref 1), e1, some (.ref (more.length + 2)), some (.ref (more.length + 3)), e4, e5, e6, some d, e8, e9] (st ++ W more os cut) =
            some (.next, [some (.ref 1), e1, some (.ref (more.length + 2)), some (.ref (more.length + 3)), e4, e5, e6, some d, some (.ref (more.length + 4 + 2 * i + 1)), e9], st1 ++ W more os cut) := by
          simp only [ev_sset, ev_fun, ev_acons, ev_var, ev_comp, ev_iof, ev_anil, List.getElem?_cons_succ, List.getElem?_cons_zero, Option.bind_some, Option.map_some, walkD_ref, g1, ev_wipe, ev_wipe0, List.set_cons_succ, List.set_cons_zero, cr, List.length_map, fl, if_true, e]
        have q2 : sDrop (dMeth .list mAppend (dVar 3) (aCons (dMeth .list mPopAt (dVar 8) (aCons (dC (D.int 0)) aNil)) aNil)) [some (.ref 1), e1, some (.ref (more.length + 2)), some (.ref (more.length + 3)), e4, e5, e6, some d, some (.ref (more.length + 4 + 2 * i + 1)), e9] (st1 ++ W more os cut) =
            some (.next, [some (.ref 1), e1, some (.ref (more.length + 2)), some (.ref (more.length + 3)), e4, e5, e6, some d, some (.ref (more.length + 4 + 2 * i + 1)), e9], st1 ++ W more (os.set i ((os[i]).1, qs.map fun p => (i, p))) (cut ++ [(i, q)])) := by
          simp only [ev_sdrop, ev_meth, ev_acons, ev_var, ev_c, ev_anil, List.getElem?_cons_succ, List.getElem?_cons_zero, Option.bind_some, Option.map_some, tyOk_list, itemsOf_ref, g2, g3, Option.isSome_some, if_true, mPopAt_ev, mutOf_ref]
          rw [if_pos (by omega)]
          simp only [Int.toNat_zero, List.map_cons, List.getElem?_cons_zero, Option.map_some, Option.bind_some, List.eraseIdx_cons_zero, s1, mApp_ev, mutOf_ref, g4, List.length_map, cl, if_true]
          rw [← s2, List.map_append]
          rfl
        unfold pickB
        rw [ev_forB, ev_gn, Option.bind_some]
        dsimp only [List.set_cons_succ, List.set_cons_zero]
        rw [ev_seq, q1, Option.bind_some]
        exact q2
end K82
set_option Elab.async false
set_option linter.all false
set_option maxRecDepth 100000
set_option maxHeartbeats 4000000
namespace K82
open PySem DL
theorem pen_of {q : Pn} {a : Int} (h : (q.at' : Int) ≤ a) : Pen a (penS q) := .mk q.cells q.at' q.v (by omega) h (by omega)
theorem Pen.pn {a : Int} {st : Store} (h : Pen a st) : ∃ q : Pn, st = penS q ∧ (q.at' : Int) ≤ a := by
  obtain ⟨c, t, v, h1, h2, h3⟩ := h
  refine ⟨⟨c, t.toNat, v.toNat⟩, ?_, ?_⟩
  · simp [penS, Int.toNat_of_nonneg h1, Int.toNat_of_nonneg h3]
  · show ((t.toNat : Nat) : Int) ≤ a
    omega
section
variable {q : Pn} {more : Store} {Q : D × Store → Prop}
theorem take_wp {m : Int} (ha : q.at' ≤ 900000) (hc : clM more) (h1 : 1 ≤ m) (h2 : m < 1073741824) (k : ∀ (x : Nat) (q' : Pn), (x : Int) < m → q'.at' ≤ q.at' + 1 → Q (.int x, penS q' ++ more)) : Wp (den_u_law_take [.ref 1, .int m] (penS q ++ more)) Q := by
  obtain ⟨x, st', x0, x1, p, e⟩ := take_eq (pen_of (q := q) (Int.le_refl _)) (by omega) (pen_cl hc) h1 h2
  obtain ⟨q', rfl, hq⟩ := p.pn
  have hx : x = ((x.toNat : Nat) : Int) := by omega
  rw [hx] at e
  exact wp_of e (k x.toNat q' (by omega) (by omega))
theorem one_wp {xs : List D} (ha : q.at' ≤ 900000) (hc : clM more) (h1 : xs ≠ []) (h2 : xs.length ≤ 16777216) (hb : bels (more.length + 2) xs = true) (k : ∀ x ∈ xs, ∀ q' : Pn, q'.at' ≤ q.at' + 1 → Q (x, penS q' ++ more)) : Wp (den_u_law_one_of [.ref 1, .lst xs] (penS q ++ more)) Q := by
  obtain ⟨x, st', hx, p, e⟩ := one_lst (pen_of (q := q) (Int.le_refl _)) (by omega) (pen_cl hc) h1 h2 (by rw [pen_app_len]; exact hb)
  obtain ⟨q', rfl, hq⟩ := p.pn
  exact wp_of e (k x hx q' (by omega))
theorem ones_wp {z : List Nat} (ha : q.at' ≤ 900000) (hc : clM more) (h1 : z ≠ []) (h2 : z.length ≤ 16777216) (k : ∀ c ∈ z, ∀ q' : Pn, q'.at' ≤ q.at' + 1 → Q (.str [c], penS q' ++ more)) : Wp (den_u_law_one_of [.ref 1, .str z] (penS q ++ more)) Q := by
  obtain ⟨c, st', hx, p, e⟩ := one_str (pen_of (q := q) (Int.le_refl _)) (by omega) (pen_cl hc) h1 h2
  obtain ⟨q', rfl, hq⟩ := p.pn
  exact wp_of e (k c hx q' (by omega))
end
end K82
set_option Elab.async false
set_option linter.all false
set_option maxRecDepth 100000
set_option maxHeartbeats 4000000
namespace K82
open PySem DL
theorem rows_get : ∀ (rs : List R) (os : List Ob) (k : Nat), RowsOk k rs os → os.length = rs.length ∧ ∀ (i : Nat) (r : R) (o : Ob), rs[i]? = some r → os[i]? = some o → ∃ qs : List Nat, o.2 = qs.map (fun p => (k + i, p)) ∧ SeqOk r U0 qs ∧ qs.length ≤ 10
  | [], [], k, _ => ⟨rfl, fun i r o h => by simp at h⟩
  | r :: rs, o :: os, k, h => by
    obtain ⟨h1, h2⟩ := h
    obtain ⟨l, ih⟩ := rows_get rs os (k + 1) h2
    refine ⟨by simp [l], fun i r' o' e1 e2 => ?_⟩
    cases i with
    | zero => cases e1; cases e2; simpa using h1
    | succ i =>
      have := ih i r' o' (by simpa using e1) (by simpa using e2)
      rwa [show k + 1 + i = k + (i + 1) by omega] at this
theorem total_le : ∀ os : List Ob, (∀ o ∈ os, o.2.length ≤ 10) → total os ≤ 10 * os.length
  | [], _ => by simp [total]
  | o :: os, h => by
    have h1 := h o List.mem_cons_self
    have ih := total_le os fun o ho => h o (List.mem_cons_of_mem _ ho)
    unfold total at *
    simp; omega
theorem rem_of {rs : List R} {os : List Ob} (h : RowsOk 0 rs os) : Rem rs (first rs) os ∧ total os ≤ 10 * rs.length := by
  obtain ⟨l, g⟩ := rows_get rs os 0 h
  refine ⟨⟨l, by simp [first], fun k r x o h1 h2 h3 => ?_⟩, ?_⟩
  · obtain ⟨qs, e, s, _⟩ := g k r o h1 h3
    have hx : x = U0 := by
      unfold first at h2
      rw [List.getElem?_map, h1] at h2
      exact (Option.some.inj h2).symm
    subst hx
    exact ⟨qs, by simpa using e, s⟩
  · rw [← l]
    refine total_le os fun o ho => ?_
    obtain ⟨i, hi⟩ := List.getElem?_of_mem ho
    have hl := (List.getElem?_eq_some_iff.mp hi).1
    obtain ⟨qs, e, _, h10⟩ := g i rs[i] o (List.getElem?_eq_getElem (by omega)) hi
    rw [e, List.length_map]; exact h10
theorem sum_range_get {os : List Ob} : (((List.range os.length).map fun i => (((os[i]?.map fun o => o.2.length).getD 0 : Nat) : Int))).sum = (total os : Int) := by
  have : ((List.range os.length).map fun i => (((os[i]?.map fun o => o.2.length).getD 0 : Nat) : Int)) = os.map fun o => (o.2.length : Int) := by
    apply List.ext_getElem?
    intro i
    by_cases h : i < os.length
    · simp [h]
    · simp [h]
  rw [this]
  clear this
  induction os with
  | nil => rfl
  | cons o os ih =>
    unfold total at *
    simp [ih]
theorem lens_eq {q : Pn} {more : Store} {os : List Ob} (ho : os.length ≤ 900) {env : DL.Env} (h8 : 8 < env.length) : compL (sameS (more.length + 2) (refsO (more.length + 4) os.length)) (gN 8) tYesD (dCall (pure1 fLen) (aCons (dVar 8) aNil)) env (refsO (more.length + 4) os.length) (penS q ++ W more os []) = some ((((List.range os.length).map fun i => (((os[i]?.map fun o => o.2.length).getD 0 : Nat) : Int))).map D.int, penS q ++ W more os []) := by
  rw [List.map_map]
  refine compL_over (sameS_eq.mpr (W_rows rfl)) _ _ _ fun i hi => ⟨_, rfl, ?_⟩
  have hi := List.mem_range.mp hi
  have g := W_get (st := penS q) (more := more) rfl (cut := []) (List.getElem?_eq_getElem hi)
  simp [h8, g, hi]
section
variable {q : Pn} {more : Store} {Q : D × Store → Prop}
theorem draw_cut_wp {rs : List R} (hs : Stock rs) (ha : q.at' ≤ 600000) (hc : clM more) (k : ∀ (cut : List (Nat × Nat)) (q' : Pn), Valid rs (first rs) cut → cut.length ≤ 40 → q'.at' ≤ q.at' + 100 → Q (cutD cut, penS q' ++ more)) : Wp (den_u_law_draw_cut [.ref 1, stockD rs] (penS q ++ more)) Q := by
  obtain ⟨ok, n1, n4⟩ := hs
  obtain ⟨news, e4, e5, e6, e7, st1, rk, p1, l1⟩ := place_loop (more := more) hc (e1 := some (stockD rs)) (e3 := some (.ref (more.length + 3))) (e8 := none) rs [] q.at' (penS q) none none none none ok (by simp; omega) (pen_of (Int.le_refl _)) (by omega)
  obtain ⟨rem, tl⟩ := rem_of rk
  have nl : news.length = rs.length := rem.l1
  obtain ⟨q1, rfl, hq1⟩ := p1.pn
  obtain ⟨rest, os', f7, f8, st2, v, rl, p2, l2⟩ := pick_loop (more := more) hc (e1 := some (stockD rs)) (e4 := e4) (e5 := e5) (e6 := e6) (e9 := none) (rangeD 0 (total news)) news (first rs) [] q1.at' (penS q1) e7 none (by simp [rangeD]) rem (pen_of (Int.le_refl _)) (by simp [rangeD]; omega) (by omega) (by simp [rangeD]; omega)
  obtain ⟨q2, rfl, hq2⟩ := p2.pn
  rw [range_len] at rl hq2
  have k2 := k rest q2 v (by omega) (by omega)
  have w0 : W more [] [] = more ++ [.lst [], .lst []] := rfl
  refine wp_frz ?_
  unfold b_u_law_draw_cut
  simp [stockD]
  refine wp_of (show forL _ _ _ _ _ = _ from l1) ?_
  obtain ⟨ns, hl, hsum, hnl⟩ : ∃ ns : List Int, compL (sameS (more.length + 2) (refsO (more.length + 4) news.length)) (gN 8) tYesD (dCall (pure1 fLen) (aCons (dVar 8) aNil)) [some (.ref 1), some (stockD rs), some (.ref (more.length + 2)), some (.ref (more.length + 3)), e4, e5, e6, e7, none, none] (refsO (more.length + 4) news.length) (penS q1 ++ W more news []) = some (ns.map D.int, penS q1 ++ W more news []) ∧ ns.sum = total news ∧ ns.length = news.length := ⟨_, lens_eq (by omega) (by simp), sum_range_get, by simp⟩
  have w1 : (W more news [])[more.length]? = some (.lst (refsO (more.length + 4) news.length)) := by simp [W]
  simp [w1]
  refine wp_of hl ?_
  simp [hsum, rng1, small_ok (x := (total news : Int)) (by omega) (by omega)]
  refine ⟨by omega, ?_⟩
  refine wp_of (show forL _ _ _ _ _ = _ from l2) ?_
  simp
  refine pen_outL (n := more.length + 1) (es := rest.map cD) hc (by omega) rfl (by simp) (by omega) (bels_map (fun _ => rfl) _) k2
end
end K82
set_option Elab.async false
set_option linter.all false
set_option maxRecDepth 100000
set_option maxHeartbeats 4000000
namespace K82
open PySem DL
section
variable {q : Pn} {more : Store}
/-- a comprehension that draws: each turn costs at most c -/
theorem comp_draw {g : DenG} {te : Den} {envW : DL.Env} {Q : List D × Store → Prop} (P : D → Prop) (c : Nat) : ∀ (ds : List D) (q : Pn) (A : Nat), q.at' + c * ds.length ≤ A →
    (∀ d ∈ ds, ∀ q' : Pn, q'.at' + c ≤ A → Wp (g d envW (penS q' ++ more)) fun r => Wp (te r.1 r.2) fun y => ∃ q'' : Pn, y.2 = penS q'' ++ more ∧ q''.at' ≤ q'.at' + c ∧ P y.1) →
    (∀ (ys : List D) (q' : Pn), ys.length = ds.length → (∀ y ∈ ys, P y) → q'.at' ≤ q.at' + c * ds.length → Q (ys, penS q' ++ more)) → Wp (compL yesS g tYesD te envW ds (penS q ++ more)) Q
  | [], q, A, _, _, k => by
    rw [w_cnil]
    exact ⟨rfl, k [] q rfl (by simp) (by simp)⟩
  | d :: ds, q, A, hA, hs, k => by
    rw [w_ccons]
    refine ⟨rfl, ?_⟩
    have hm : c * (d :: ds).length = c * ds.length + c := by rw [List.length_cons, Nat.mul_add, Nat.mul_one]
    rw [hm] at hA
    obtain ⟨⟨e, s1⟩, e1, ⟨y, s2⟩, e2, q2, h1, h2, h3⟩ := hs d List.mem_cons_self q (by omega)
    refine wp_of e1 ?_
    simp
    refine wp_of e2 ?_
    simp at h1 h3
    subst h1
    simp
    refine comp_draw P c ds q2 A (by omega) (fun d' hd q' hq => hs d' (List.mem_cons_of_mem _ hd) q' hq) fun ys q' l py hq => ?_
    simp
    refine k (y :: ys) q' (by simp [l]) (fun z hz => ?_) (by rw [hm]; omega)
    rcases List.mem_cons.mp hz with rfl | hz
    · exact h3
    · exact py z hz
theorem az_lt : ∀ c ∈ az, 97 ≤ c ∧ c < 123 := by decide
theorem letters_wp {st : Store} {Q : D × Store → Prop} (hc : clS st = true) (k : Q (.str az, st)) : Wp (den_u_law_letters [] st) Q := wp_of (letters_eq hc) k
/-- a text of drawn signs -/
theorem signs_draw {z : List Nat} {m i v : Nat} {envW : DL.Env} {Q : List D × Store → Prop} {q : Pn} (hz : z ≠ []) (hz2 : z.length ≤ 16777216) (hc : clM more) (hq : q.at' + m ≤ 900000) (h0 : (envW.set i (some (.ref 1)))[0]? = some (some (.ref 1))) 
    (k : ∀ (cs : List Nat) (q' : Pn), cs.length = m → (∀ c ∈ cs, c ∈ z) → q'.at' ≤ q.at' + m → Q (cs.map sg, penS q' ++ more)) (ds : List D) (hds : ds.length = m)
    (he : ∀ d : D, (envW.set i (some d))[0]? = some (some (.ref 1)) ∧ (envW.set i (some d))[v]? = some (some (.str z))) :
    Wp (compL yesS (gN i) tYesD (dCallF den_u_law_one_of (aCons (dVar 0) (aCons (dVar v) aNil))) envW ds (penS q ++ more)) Q := by
  refine comp_draw (fun y => ∃ c ∈ z, y = sg c) 1 ds q 900000 (by omega) (fun d _ q' hq' => ?_) fun ys q' l p hq' => ?_
  · obtain ⟨h1, h2⟩ := he d
    simp [h1, h2]
    refine ones_wp (by omega) hc hz hz2 fun c hcz q'' hq'' => ⟨q'', rfl, hq'', c, hcz, rfl⟩
  · obtain ⟨cs, rfl, kc⟩ := sgs_of p
    exact k cs q' (by rw [← hds, ← l, List.length_map]) kc (by omega)
end
/-! ### stocks that are drawn -/
def wI (r : R) : Int := r.n * (r.l + 1) * (if r.t then 2 else 1) + 1
def prodI : List Int → Int
  | [] => 1
  | x :: xs => x * prodI xs
theorem prodI_app : ∀ xs ys : List Int, prodI (xs ++ ys) = prodI xs * prodI ys
  | [], ys => by simp [prodI]
  | x :: xs, ys => by simp [prodI, prodI_app xs ys, Int.mul_assoc]
structure R.Ok2 (r : R) : Prop where
  ok : r.Ok
  az : ∀ c ∈ r.s, c ∈ K82.az
/-- what is drawn: at most so many signs, a product of at most 100 -/
structure Stk (most : Int) (rs : List R) : Prop where
  ok : ∀ r ∈ rs, r.Ok2
  n1 : 1 ≤ rs.length
  n4 : rs.length ≤ 4
  prod : prodI (rs.map wI) ≤ 100
  sum : (rs.map R.n).sum ≤ most
theorem Stk.stock {most : Int} {rs : List R} (h : Stk most rs) : Stock rs := ⟨fun r hr => (h.ok r hr).ok, h.n1, h.n4⟩
end K82
set_option Elab.async false
set_option linter.all false
set_option maxRecDepth 100000
set_option maxHeartbeats 4000000
namespace K82
open PySem DL
theorem rangeD_succ (lo : Int) (n : Nat) : rangeD lo (n + 1) = .int lo :: rangeD (lo + 1) n := by
  unfold rangeD
  rw [List.range_succ_eq_map, List.map_cons, List.map_map]
  congr 1
  · simp
  · refine List.map_congr_left fun k _ => ?_
    simp; omega
@[simp] theorem rangeD_zero (lo : Int) : rangeD lo 0 = [] := rfl
abbrev M3 := Int × Int × Bool
def mD (m : M3) : D := .tup [.int m.1, .int m.2.1, .bl m.2.2]
def MOk (room left : Int) (m : M3) : Prop := 1 ≤ m.1 ∧ m.1 ≤ 10 ∧ m.1 ≤ left ∧ 0 ≤ m.2.1 ∧ m.2.1 ≤ m.1 ∧ m.1 * (m.2.1 + 1) * (if m.2.2 then 2 else 1) < room
noncomputable def lossB : D → DL.Env → Store → Option (Fl × DL.Env × Store) := forB (gN 12) (sSeq (sSet 13 (dOp2 fMul (dVar 11) (dOp2 fAdd (dVar 12) (dC (D.int 1)))))
  (sSeq (sSet 14 (dOp2 fAdd (dOp2 fMul (dLst (aCons (dC (D.bl false)) aNil)) (dCall (pure1 fInt) (aCons (dOp2 fLt (dVar 13) (dVar 8)) aNil))) (dOp2 fMul (dLst (aCons (dC (D.bl true)) aNil)) (dCall (pure1 fInt) (aCons (dOp2 fLt (dOp2 fMul (dC (D.int 2)) (dVar 13)) (dVar 8)) aNil)))))
  (sSet 10 (dOp2 fAdd (dVar 10) (dComp (iOf (dVar 14)) (gN 15) tYesD (dTup (aCons (dVar 11) (aCons (dVar 12) (aCons (dVar 15) aNil)))) [15])))))
section
variable {st : Store} {Q : Qs} {e0 e1 e2 e3 e4 e5 e6 e7 e9 e15 e16 e17 e18 e19 : Option D} {room left : Int}
theorem mul_lst0 (b : D) : fMul st (.lst [b]) (.int 0) = some (.lst []) := rfl
theorem mul_lst1 (b : D) : fMul st (.lst [b]) (.int 1) = some (.lst [b]) := rfl
theorem loss_loop {many : Int} (h1 : 1 ≤ many) (h10 : many ≤ 10) (hl : many ≤ left) : ∀ (k : Nat) (i : Int) (xs : List M3) (a b c : Option D), 0 ≤ i → i + k ≤ many + 1 → (∀ m ∈ xs, MOk room left m) → xs.length + 2 * k ≤ 1000 →
    (∀ (xs' : List M3) (a b c : Option D), (∀ m ∈ xs', MOk room left m) → xs'.length ≤ xs.length + 2 * k → (xs ≠ [] ∨ (0 < k ∧ i = 0 ∧ 1 < room ∧ many = 1) → xs' ≠ []) →
      Q (.next, [e0, e1, e2, e3, e4, e5, e6, e7, some (.int room), e9, some (.lst (xs'.map mD)), some (.int many), a, b, c, e15, e16, e17, e18, e19], st)) →
    Wp (forL yesS lossB (rangeD i k) [e0, e1, e2, e3, e4, e5, e6, e7, some (.int room), e9, some (.lst (xs.map mD)), some (.int many), a, b, c, e15, e16, e17, e18, e19] st) Q
  | 0, i, xs, a, b, c, _, _, hx, hlen, k => by
    rw [rangeD_zero, w_fnil]
    exact ⟨rfl, k xs a b c hx (by omega) (fun h => by rcases h with h | h; exact h; omega)⟩
  | n + 1, i, xs, a, b, c, h0, hi, hx, hlen, k => by
    rw [rangeD_succ, w_fcons]
    refine ⟨rfl, ?_⟩
    have hn : (n + 1 : Nat) = (n : Int) + 1 := by omega
    have w0 : 0 ≤ many * (i + 1) := Int.mul_nonneg (by omega) (by omega)
    have g1 : small64 many = true := s64 (by omega) (by omega)
    have hw1 : many = 1 → i = 0 → many * (i + 1) = 1 := fun a b => by subst a b; rfl
    generalize hw : many * (i + 1) = w at w0 hw1
    have fin : ∀ news : List M3, (∀ m ∈ news, MOk room left m) → news.length ≤ 2 → (1 < room → many = 1 → i = 0 → news ≠ []) → ∀ a b c : Option D, Wp (forL yesS lossB (rangeD (i + 1) n) [e0, e1, e2, e3, e4, e5, e6, e7, some (.int room), e9, some (.lst ((xs ++ news).map mD)), some (.int many), a, b, c, e15, e16, e17, e18, e19] st) Q := fun news hnw l2 hne a b c => by
      refine loss_loop h1 h10 hl n (i + 1) (xs ++ news) a b c (by omega) (by omega) (fun m hm => ?_) (by rw [List.length_append]; omega) fun xs' a b c p1 p2 p3 => ?_
      · rcases List.mem_append.mp hm with h | h
        · exact hx m h
        · exact hnw m h
      · refine k xs' a b c p1 (by rw [List.length_append] at p2; omega) fun h => p3 (.inl ?_)
        rcases h with h | ⟨_, z1, z2, z3⟩
        · intro z; exact h (List.append_eq_nil_iff.mp z).1
        · intro z; exact hne z2 z3 z1 (List.append_eq_nil_iff.mp z).2
    have k1 : ∀ (t : Bool), w * (if t then 2 else 1) < room → MOk room left (many, i, t) := fun t ht => ⟨h1, h10, hl, h0, by show i ≤ many; omega, by show many * (i + 1) * _ < room; rw [hw]; exact ht⟩
    by_cases c1 : w < room
    · by_cases c2 : 2 * w < room
      · have f := fin [(many, i, false), (many, i, true)] (fun m hm => by simp at hm; rcases hm with rfl | rfl; exact k1 _ (by simpa using c1); exact k1 _ (by simp; omega)) (by simp) (by simp)
        unfold lossB at f ⊢
        simp [hw, g1, c1, c2, mul_lst1, show small64 2 = true from rfl, w_ccons, w_cnil, mD] at f ⊢
        exact ⟨by omega, f _ _ _⟩
      · have f := fin [(many, i, false)] (fun m hm => by simp at hm; subst hm; exact k1 _ (by simpa using c1)) (by simp) (by simp)
        unfold lossB at f ⊢
        simp [hw, g1, c1, c2, mul_lst1, mul_lst0, show small64 2 = true from rfl, w_ccons, w_cnil, mD] at f ⊢
        exact ⟨by omega, f _ _ _⟩
    · have c2 : ¬ 2 * w < room := by omega
      have f := fin [] (by simp) (by simp) (fun z1 z2 z3 => by have := hw1 z2 z3; omega)
      unfold lossB at f ⊢
      simp [hw, g1, c1, c2, mul_lst0, show small64 2 = true from rfl, w_ccons, w_cnil, mD] at f ⊢
      exact ⟨by omega, f _ _ _⟩
end
end K82
set_option Elab.async false
set_option linter.all false
set_option maxRecDepth 100000
set_option maxHeartbeats 4000000
namespace K82
open PySem DL
noncomputable def manyB : D → DL.Env → Store → Option (Fl × DL.Env × Store) := forB (gN 11) (sFor (iRng rng1 (aCons (dIf (tTru (dVar 5)) (dC (D.int 1)) (dOp2 fAdd (dVar 11) (dC (D.int 1)))) aNil)) (gN 12) (sSeq (sSet 13 (dOp2 fMul (dVar 11) (dOp2 fAdd (dVar 12) (dC (D.int 1)))))
  (sSeq (sSet 14 (dOp2 fAdd (dOp2 fMul (dLst (aCons (dC (D.bl false)) aNil)) (dCall (pure1 fInt) (aCons (dOp2 fLt (dVar 13) (dVar 8)) aNil))) (dOp2 fMul (dLst (aCons (dC (D.bl true)) aNil)) (dCall (pure1 fInt) (aCons (dOp2 fLt (dOp2 fMul (dC (D.int 2)) (dVar 13)) (dVar 8)) aNil)))))
  (sSet 10 (dOp2 fAdd (dVar 10) (dComp (iOf (dVar 14)) (gN 15) tYesD (dTup (aCons (dVar 11) (aCons (dVar 12) (aCons (dVar 15) aNil)))) [15]))))))
section
variable {st : Store} {Q : Qs} {e0 e1 e2 e3 e4 e6 e7 e9 e15 e16 e17 e18 e19 : Option D} {room left : Int} {plain : Bool}
theorem many_loop : ∀ (k : Nat) (i : Int) (xs : List M3) (e11 a b c : Option D), 1 ≤ i → i + k ≤ 11 → i + k ≤ left + 1 → (∀ m ∈ xs, MOk room left m) → xs.length + 22 * k ≤ 1000 →
    (∀ (xs' : List M3) (e11 a b c : Option D), (∀ m ∈ xs', MOk room left m) → xs'.length ≤ xs.length + 22 * k → (xs ≠ [] ∨ (0 < k ∧ i = 1 ∧ 1 < room) → xs' ≠ []) →
      Q (.next, [e0, e1, e2, e3, e4, some (.bl plain), e6, e7, some (.int room), e9, some (.lst (xs'.map mD)), e11, a, b, c, e15, e16, e17, e18, e19], st)) →
    Wp (forL yesS manyB (rangeD i k) [e0, e1, e2, e3, e4, some (.bl plain), e6, e7, some (.int room), e9, some (.lst (xs.map mD)), e11, a, b, c, e15, e16, e17, e18, e19] st) Q
  | 0, i, xs, e11, a, b, c, _, _, _, hx, hlen, k => by
    rw [rangeD_zero, w_fnil]
    exact ⟨rfl, k xs e11 a b c hx (by omega) (fun h => by rcases h with h | h; exact h; omega)⟩
  | n + 1, i, xs, e11, a, b, c, h0, hi, hl, hx, hlen, k => by
    rw [rangeD_succ, w_fcons]
    refine ⟨rfl, ?_⟩
    have hn : (n + 1 : Nat) = (n : Int) + 1 := by omega
    -- what the inner loop leaves
    have go : ∀ j : Nat, 0 < j → (j : Int) ≤ i + 1 → Wp (forL yesS lossB (rangeD 0 j) [e0, e1, e2, e3, e4, some (.bl plain), e6, e7, some (.int room), e9, some (.lst (xs.map mD)), some (.int i), a, b, c, e15, e16, e17, e18, e19] st) (kLoop yesS manyB (rangeD (i + 1) n) Q) := fun j j0 j1 => by
      refine loss_loop h0 (by omega) (by omega) j 0 xs a b c (by omega) (by omega) hx (by omega) fun xs' a' b' c' p1 p2 p3 => ?_
      rw [k_loopN]
      refine many_loop n (i + 1) xs' (some (.int i)) a' b' c' (by omega) (by omega) (by omega) p1 (by omega) fun xs2 f11 a2 b2 c2 r1 r2 r3 => ?_
      refine k xs2 f11 a2 b2 c2 r1 (by omega) fun h => r3 (.inl (p3 ?_))
      rcases h with h | ⟨_, z1, z2⟩
      · exact .inl h
      · exact .inr ⟨j0, rfl, z2, z1⟩
    unfold lossB at go
    rw [manyB]
    cases plain with
    | true =>
      have g := go 1 (by omega) (by omega)
      simp [rng1, small_ok (x := 1) (by omega) (by omega)]
      exact g
    | false =>
      have g := go (i + 1).toNat (by omega) (by omega)
      simp [rng1, small_ok (x := i + 1) (by omega) (by omega)]
      exact g
end
theorem own_ok (r : Nat) (h : r < 4) : ∃ z : List Nat, cutL az (some (3 + 5 * (r : Int))) (some (8 + 5 * (r : Int))) = z ∧ z ≠ [] ∧ z.length ≤ 26 ∧ ∀ c ∈ z, c ∈ az := by
  match r, h with
  | 0, _ => exact ⟨_, rfl, by decide, by decide, by decide⟩
  | 1, _ => exact ⟨_, rfl, by decide, by decide, by decide⟩
  | 2, _ => exact ⟨_, rfl, by decide, by decide, by decide⟩
  | 3, _ => exact ⟨_, rfl, by decide, by decide, by decide⟩
theorem pow_at (k : Nat) (h : k < 4) : ∃ w : Int, L2.atI [D.int 1, .int 2, .int 4, .int 8] (k : Int) = some (.int w) ∧ 1 ≤ w ∧ w ≤ 8 ∧ (2 : Int) ^ k = w := by
  match k, h with
  | 0, _ => exact ⟨1, rfl, by decide, by decide, rfl⟩
  | 1, _ => exact ⟨2, rfl, by decide, by decide, rfl⟩
  | 2, _ => exact ⟨4, rfl, by decide, by decide, rfl⟩
  | 3, _ => exact ⟨8, rfl, by decide, by decide, rfl⟩
end K82
set_option Elab.async false
set_option linter.all false
set_option maxRecDepth 100000
set_option maxHeartbeats 4000000
namespace K82
open PySem DL
noncomputable def stockB : D → DL.Env → Store → Option (Fl × DL.Env × Store) := forB (gN 6) (sSeq (sSet 7 (dOp2 fSub (dOp2 fSub (dVar 2) (dC (D.int 1))) (dVar 6)))
  (sSeq (sPar3 8 9 10 (aCons (dOp2 fDiv (dC (D.int 100)) (dOp2 fMul (dVar 3) (dOp2 fIx (dLst (aCons (dC (D.int 1)) (aCons (dC (D.int 2)) (aCons (dC (D.int 4)) (aCons (dC (D.int 8)) aNil))))) (dVar 7)))) (aCons (dOp2 fSub (dVar 1) (dVar 7)) (aCons (dLst aNil) aNil))))
  (sSeq (sFor (iRng rng2 (aCons (dC (D.int 1)) (aCons (dOp2 fAdd (dCall (pure2 fMin2) (aCons (dC (D.int 10)) (aCons (dVar 9) aNil))) (dC (D.int 1))) aNil))) (gN 11) (sFor (iRng rng1 (aCons (dIf (tTru (dVar 5)) (dC (D.int 1)) (dOp2 fAdd (dVar 11) (dC (D.int 1)))) aNil)) (gN 12) (sSeq (sSet 13 (dOp2 fMul (dVar 11) (dOp2 fAdd (dVar 12) (dC (D.int 1)))))
  (sSeq (sSet 14 (dOp2 fAdd (dOp2 fMul (dLst (aCons (dC (D.bl false)) aNil)) (dCall (pure1 fInt) (aCons (dOp2 fLt (dVar 13) (dVar 8)) aNil))) (dOp2 fMul (dLst (aCons (dC (D.bl true)) aNil)) (dCall (pure1 fInt) (aCons (dOp2 fLt (dOp2 fMul (dC (D.int 2)) (dVar 13)) (dVar 8)) aNil)))))
  (sSet 10 (dOp2 fAdd (dVar 10) (dComp (iOf (dVar 14)) (gN 15) tYesD (dTup (aCons (dVar 11) (aCons (dVar 12) (aCons (dVar 15) aNil)))) [15])))))))
  (sSeq (sAsg (dCallF den_u_law_one_of (aCons (dVar 0) (aCons (dVar 10) aNil))) (gUn 3 (gsCons (gN 11) (gsCons (gN 12) (gsCons (gN 15) gsNil)))))
  (sSeq (sSet 3 (dOp2 fMul (dVar 3) (dOp2 fAdd (dOp2 fMul (dOp2 fMul (dVar 11) (dOp2 fAdd (dVar 12) (dC (D.int 1)))) (dOp2 fAdd (dC (D.int 1)) (dCall (pure1 fInt) (aCons (dVar 15) aNil)))) (dC (D.int 1)))))
  (sSeq (sSet 1 (dOp2 fSub (dVar 1) (dVar 11)))
  (sSeq (sSet 16 (dSl (dCallF den_u_law_letters aNil) (pSome (dOp2 fAdd (dC (D.int 3)) (dOp2 fMul (dC (D.int 5)) (dVar 6)))) (pSome (dOp2 fAdd (dC (D.int 8)) (dOp2 fMul (dC (D.int 5)) (dVar 6))))))
  (sSeq (sSet 17 (dCallF den_u_law_one_of (aCons (dVar 0) (aCons (dLst (aCons (dC (D.str [97, 98])) (aCons (dC (D.str [97, 98, 99])) (aCons (dVar 16) (aCons (dVar 16) (aCons (dCallF den_u_law_letters aNil) aNil)))))) aNil))))
  (sDrop (dMeth .list mAppend (dVar 4) (aCons (dTup (aCons (dMeth .str mJoin (dC (D.str [])) (aCons (dComp (iRng rng1 (aCons (dVar 11) aNil)) (gN 19) tYesD (dCallF den_u_law_one_of (aCons (dVar 0) (aCons (dVar 17) aNil))) [19]) aNil)) (aCons (dVar 12) (aCons (dVar 15) aNil)))) aNil)))))))))))
theorem mem_mD {xs : List M3} {x : D} (h : x ∈ xs.map mD) : ∃ m ∈ xs, x = mD m := by
  obtain ⟨m, h1, h2⟩ := List.mem_map.mp h
  exact ⟨m, h1, h2.symm⟩
section
variable {more : Store} {Q : Qs} {count : Nat} {plain : Bool} {e18 : Option D} {M : Int}
theorem stock_loop (hc4 : count ≤ 4) (hc : clM more) : ∀ (k : Nat) (fs : List R) (q : Pn) (prod most : Int) (e6 e7 e8 e9 e10 e11 e12 e13 e14 e15 e16 e17 e19 : Option D), fs.length + k = count → (∀ r ∈ fs, r.Ok2) → prodI (fs.map wI) = prod → 1 ≤ prod → prod * 2 ^ k ≤ 100 → (k : Int) ≤ most → most ≤ 1000 → (fs.map R.n).sum + most ≤ M → q.at' + 20 * k ≤ 900000 →
    (∀ (fs' : List R) (q' : Pn) (e1 e3 e6 e7 e8 e9 e10 e11 e12 e13 e14 e15 e16 e17 e19 : Option D), fs'.length = count → (∀ r ∈ fs', r.Ok2) → prodI (fs'.map wI) ≤ 100 → (fs'.map R.n).sum ≤ M → q'.at' ≤ q.at' + 20 * k →
      Q (.next, [some (.ref 1), e1, some (.int count), e3, some (.ref (more.length + 2)), some (.bl plain), e6, e7, e8, e9, e10, e11, e12, e13, e14, e15, e16, e17, e18, e19], penS q' ++ (more ++ [.lst (fs'.map R.d)]))) →
    Wp (forL yesS stockB (rangeD fs.length k) [some (.ref 1), some (.int most), some (.int count), some (.int prod), some (.ref (more.length + 2)), some (.bl plain), e6, e7, e8, e9, e10, e11, e12, e13, e14, e15, e16, e17, e18, e19] (penS q ++ (more ++ [.lst (fs.map R.d)]))) Q
  | 0, fs, q, prod, most, e6, e7, e8, e9, e10, e11, e12, e13, e14, e15, e16, e17, e19, hl, ok, hp, hp1, hp2, hm, hm2, hs, hq, k => by
    rw [rangeD_zero, w_fnil]
    refine ⟨rfl, k fs q _ _ _ _ _ _ _ _ _ _ _ _ _ _ _ (by omega) ok (by rw [hp]; omega) (by omega) (by omega)⟩
  | n + 1, fs, q, prod, most, e6, e7, e8, e9, e10, e11, e12, e13, e14, e15, e16, e17, e19, hl, ok, hp, hp1, hp2, hm, hm2, hs, hq, k => by
    rw [rangeD_succ, w_fcons]
    refine ⟨rfl, ?_⟩
    obtain ⟨w, hw, w1, w8, wp⟩ := pow_at n (by omega)
    have hpw : prod * w * 2 ≤ 100 := by
      rw [Int.pow_succ, wp, ← Int.mul_assoc] at hp2
      exact hp2
    have hpw1 : 1 ≤ prod * w := by
      have := Int.mul_le_mul hp1 w1 (by omega) (by omega)
      omega
    have hlater : (count : Int) - 1 - fs.length = n := by omega
    have g1 : small64 prod = true := by
      have : prod ≤ prod * w := by
        have := Int.mul_le_mul_of_nonneg_left w1 (show 0 ≤ prod by omega)
        omega
      exact s64 (by omega) (by omega)
    have hmore : clM (more ++ [SObj.lst (fs.map R.d)]) := clM_app hc (by
      simp
      exact bels_map (fun _ => rfl) _)
    obtain ⟨own, ho, ho1, ho2, ho3⟩ := own_ok fs.length (by omega)
    generalize hroom : 100 / (prod * w) = room
    have hroom2 : 1 < room := by
      have : 2 ≤ 100 / (prod * w) := (Int.le_ediv_iff_mul_le (by omega)).mpr (by omega)
      omega
    have hroom3 : room * (prod * w) ≤ 100 := by rw [← hroom]; exact Int.ediv_mul_le _ (by omega)
    unfold stockB
    simp [hlater, hw, g1, show 0 < prod * w by omega, show prod * w < 1073741824 by omega, hroom, rng2]
    refine ⟨⟨small_ok (by omega) (by omega), small_ok (by omega) (by omega)⟩, ?_⟩
    refine many_loop (plain := plain) (left := most - n) _ 1 [] _ _ _ _ (by omega) (by omega) (by omega) (by simp) (by simp; omega) fun xs f11 f12 f13 f14 p1 p2 p3 => ?_
    simp at p2
    simp
    refine one_wp (by omega) hmore (by simpa using p3 (.inr ⟨by omega, rfl, hroom2⟩)) (by rw [List.length_map]; omega) (bels_map (fun _ => rfl) _) fun x hx q1 hq1 => ?_
    obtain ⟨⟨many, loss, turns⟩, hmem, rfl⟩ := mem_mD hx
    obtain ⟨m1, m2, m3, m4, m5, m6⟩ := p1 _ hmem
    simp only at m1 m2 m3 m4 m5 m6
    have g2 : small64 many = true := s64 (by omega) (by omega)
    have b0 : 0 ≤ many * (loss + 1) := Int.mul_nonneg (by omega) (by omega)
    have b1 : many * (loss + 1) ≤ 10 * 11 := Int.mul_le_mul (by omega) (by omega) (by omega) (by omega)
    have g3 : small64 (many * (loss + 1)) = true := s64 (by omega) (by omega)
    have hwI : ∀ cs : List Nat, (cs.length : Int) = many → wI ⟨cs, loss, turns⟩ = many * (loss + 1) * (1 + (if turns = true then 1 else 0)) + 1 := fun cs hcs => by
      unfold wI R.n
      simp only [hcs]
      cases turns <;> simp
    have hpr : ∀ z : Int, z = many * (loss + 1) * (1 + (if turns = true then 1 else 0)) → 1 ≤ prod * (z + 1) ∧ prod * (z + 1) * 2 ^ n ≤ 100 := fun z hz => by
      have z0 : 0 ≤ z := by rw [hz]; exact Int.mul_nonneg b0 (by split <;> omega)
      have z1 : z + 1 ≤ room := by
        have : z = many * (loss + 1) * (if turns = true then 2 else 1) := by rw [hz]; cases turns <;> simp
        rw [this]; omega
      refine ⟨?_, ?_⟩
      · have := Int.mul_le_mul hp1 (show 1 ≤ z + 1 by omega) (by omega) (by omega)
        omega
      · rw [wp]
        have e : prod * (z + 1) * w = (z + 1) * (prod * w) := by rw [Int.mul_comm prod, Int.mul_assoc]
        rw [e]
        have := Int.mul_le_mul_of_nonneg_right z1 (show 0 ≤ prod * w by omega)
        omega
    simp [mD, g1, g2, g3]
    refine letters_wp (pen_cl hmore) ?_
    simp [show small64 5 = true from rfl, show az.length = 26 from rfl, ho]
    refine letters_wp (pen_cl hmore) ?_
    simp
    have hstrs : ∀ x ∈ [D.str [97, 98], .str [97, 98, 99], .str own, .str own, .str az], ∃ z : List Nat, x = .str z ∧ z ≠ [] ∧ z.length ≤ 26 ∧ ∀ c ∈ z, c ∈ az := fun x hx => by
      simp only [List.mem_cons, List.not_mem_nil, or_false] at hx
      rcases hx with rfl | rfl | rfl | rfl | rfl
      · exact ⟨_, rfl, by decide, by decide, by decide⟩
      · exact ⟨_, rfl, by decide, by decide, by decide⟩
      · exact ⟨_, rfl, ho1, ho2, ho3⟩
      · exact ⟨_, rfl, ho1, ho2, ho3⟩
      · exact ⟨_, rfl, by decide, by decide, by decide⟩
    refine one_wp (by omega) hmore (by simp) (by simp) (by simp) fun x hx q2 hq2 => ?_
    obtain ⟨z, rfl, z1, z2, z3⟩ := hstrs x hx
    simp [rng1, small_ok (x := many) (by omega) (by omega)]
    refine signs_draw (m := many.toNat) z1 (by omega) hmore (by omega) rfl (fun cs q3 l3 hcs hq3 => ?_) _ (by simp [rangeD]) (fun d => ⟨rfl, rfl⟩)
    have hcs1 : (cs.length : Int) = many := by omega
    have w1' := hwI cs hcs1
    obtain ⟨pr1, pr2⟩ := hpr _ rfl
    simp [join_sg (cs := cs) (by omega)]
    refine ⟨by omega, by omega, ?_⟩
    have ih := stock_loop hc4 hc n (fs ++ [⟨cs, loss, turns⟩]) q3 (prod * (many * (loss + 1) * (1 + (if turns = true then 1 else 0)) + 1)) (most - many) (some (.int fs.length)) (some (.int n)) (some (.int room)) (some (.int (most - n))) (some (.lst (xs.map mD))) (some (.int many)) (some (.int loss)) f13 f14 (some (.bl turns)) (some (.str own)) (some (.str z)) e19 (by simp; omega)
      (fun r hr => by
        rcases List.mem_append.mp hr with h | h
        · exact ok r h
        · rw [List.mem_singleton] at h
          subst h
          exact ⟨⟨by show 1 ≤ cs.length; omega, by show cs.length ≤ 10; omega, m4, by show loss ≤ (cs.length : Int); omega, fun c hcc => by have := az_lt c (z3 c (hcs c hcc)); omega⟩, fun c hcc => z3 c (hcs c hcc)⟩)
      (by rw [List.map_append, prodI_app, hp]; simp [prodI, w1']) pr1 pr2 (by omega) (by omega)
      (by simp [R.n, hcs1]; omega) (by omega) (fun fs' q' e1 e3 e6 e7 e8 e9 e10 e11 e12 e13 e14 e15 e16 e17 e19 r1 r2 r3 r4 r5 => k fs' q' e1 e3 e6 e7 e8 e9 e10 e11 e12 e13 e14 e15 e16 e17 e19 r1 r2 r3 r4 (by omega))
    simp [R.d] at ih
    exact ih
end
end K82
set_option Elab.async false
set_option linter.all false
set_option maxRecDepth 100000
set_option maxHeartbeats 4000000
namespace K82
open PySem DL
theorem neR_nil {α : Type} {f : α → D} (hf : ∀ a, pl (f a) = true) {st : Store} {n : Nat} {xs : List α} (h : st[n]? = some (.lst (xs.map f))) : fNeR st (.ref n) (.lst []) = some (.bl (!xs.isEmpty)) := by
  have e1 : flat st (.ref n) = .lst (xs.map f) := by unfold flat; simp only [h]
  show fNe st (flat st (.ref n)) (flat st (.lst [])) = _
  rw [e1]
  show (if cmpOk (.lst (xs.map f)) (.lst []) = true then some (D.bl (!deq (.lst (xs.map f)) (.lst []))) else none) = _
  have h2 : cmpOk (.lst (xs.map f)) (.lst []) = true := by
    show (pls (xs.map f) && true && _) = true
    rw [pls_map hf]
    show (true && true && (decide (dep (.lst (xs.map f)) ≤ 50) || true)) = true
    rw [Bool.or_true]; rfl
  rw [if_pos h2, deq_nil]
  cases xs <;> rfl
theorem prodI_perm {xs ys : List Int} (h : xs.Perm ys) : prodI xs = prodI ys := by
  induction h with
  | nil => rfl
  | cons x _ ih => simp [prodI, ih]
  | swap x y l => simp [prodI, ← Int.mul_assoc, Int.mul_comm x y]
  | trans _ _ a b => rw [a, b]
theorem sumI_perm {xs ys : List Int} (h : xs.Perm ys) : xs.sum = ys.sum := by
  induction h with
  | nil => rfl
  | cons x _ ih => simp [ih]
  | swap x y l => simp; omega
  | trans _ _ a b => rw [a, b]
theorem popAt_wp {st : Store} {n x : Nat} {ds : List D} {Q : D × Store → Prop} (h : st[n]? = some (.lst ds)) (hx : x < ds.length) (hl : ds.length ≤ 16777216) (k : ∀ d, ds[x]? = some d → Q (d, st.set n (.lst (ds.eraseIdx x)))) : Wp (mPopAt st (.ref n) [.int x]) Q := by
  rw [mPopAt_ev, mutOf_ref, h]
  have h1 : 0 ≤ (x : Int) ∧ (x : Int) < 9223372036854775808 := ⟨by omega, Int.lt_of_lt_of_le (Int.ofNat_lt.mpr hx) (Int.le_trans (Int.ofNat_le.mpr hl) (by decide))⟩
  simp only [Option.bind_some, h1, and_self, if_true]
  rw [Int.toNat_natCast, List.getElem?_eq_getElem hx]
  exact (wp_some _).mpr (k _ (List.getElem?_eq_getElem hx))
theorem append_wp {st : Store} {n : Nat} {ds : List D} {x : D} {Q : D × Store → Prop} (h : st[n]? = some (.lst ds)) (hl : ds.length < 16777216) (k : Q (.non, st.set n (.lst (ds ++ [x])))) : Wp (mAppend st (.ref n) [x]) Q := by
  rw [mApp_ev, mutOf_ref, h]
  simp only [Option.bind_some, hl, if_true, wp_some]
  exact k
theorem erase_perm {α : Type} : ∀ (l : List α) (i : Nat) (h : i < l.length), (l[i] :: l.eraseIdx i).Perm l
  | x :: l, 0, _ => .refl _
  | x :: l, i + 1, h => by
    rw [List.eraseIdx_cons_succ, List.getElem_cons_succ]
    exact (List.Perm.swap _ _ _).trans ((erase_perm l i (by simpa using h)).cons x)
section
variable {more : Store} {Q : Qs} {e1 e2 e3 e5 e6 e7 e8 e9 e10 e11 e12 e13 e14 e15 e16 e17 e19 : Option D}
theorem perm_loop (hc : clM more) : ∀ (m : Nat) (fs ss : List R) (q : Pn), fs.length ≤ m → fs.length + ss.length ≤ 1000 → q.at' + fs.length ≤ 900000 →
    (∀ (ss' : List R) (q' : Pn), ss'.Perm (ss ++ fs) → q'.at' ≤ q.at' + fs.length → Q (.next, [some (.ref 1), e1, e2, e3, some (.ref (more.length + 2)), e5, e6, e7, e8, e9, e10, e11, e12, e13, e14, e15, e16, e17, some (.ref (more.length + 3)), e19], penS q' ++ (more ++ [.lst [], .lst (ss'.map R.d)]))) →
    Wp (whileL (asB (dOp2 fNeR (dVar 4) (dLst aNil))) (sDrop (dMeth .list mAppend (dVar 18) (aCons (dMeth .list mPopAt (dVar 4) (aCons (dCallF den_u_law_take (aCons (dVar 0) (aCons (dCall (pure1 fLen) (aCons (dVar 4) aNil)) aNil))) aNil)) aNil))) (m + 1) [some (.ref 1), e1, e2, e3, some (.ref (more.length + 2)), e5, e6, e7, e8, e9, e10, e11, e12, e13, e14, e15, e16, e17, some (.ref (more.length + 3)), e19] (penS q ++ (more ++ [.lst (fs.map R.d), .lst (ss.map R.d)]))) Q := fun m => by
  have nil : ∀ (m : Nat) (ss : List R) (q : Pn), (∀ (ss' : List R) (q' : Pn), ss'.Perm (ss ++ []) → q'.at' ≤ q.at' + 0 → Q (.next, [some (.ref 1), e1, e2, e3, some (.ref (more.length + 2)), e5, e6, e7, e8, e9, e10, e11, e12, e13, e14, e15, e16, e17, some (.ref (more.length + 3)), e19], penS q' ++ (more ++ [.lst [], .lst (ss'.map R.d)]))) →
    Wp (whileL (asB (dOp2 fNeR (dVar 4) (dLst aNil))) (sDrop (dMeth .list mAppend (dVar 18) (aCons (dMeth .list mPopAt (dVar 4) (aCons (dCallF den_u_law_take (aCons (dVar 0) (aCons (dCall (pure1 fLen) (aCons (dVar 4) aNil)) aNil))) aNil)) aNil))) (m + 1) [some (.ref 1), e1, e2, e3, some (.ref (more.length + 2)), e5, e6, e7, e8, e9, e10, e11, e12, e13, e14, e15, e16, e17, some (.ref (more.length + 3)), e19] (penS q ++ (more ++ [.lst [], .lst (ss.map R.d)]))) Q := fun m ss q k => by
    rw [w_while]
    have h1 := neR_nil (f := R.d) (fun _ => rfl) (xs := ([] : List R)) (st := penS q ++ (more ++ [SObj.lst [], SObj.lst (ss.map R.d)])) (n := more.length + 2) (by rw [pen_get, app_get0]; rfl)
    simp [h1]
    exact k ss q (by simp) (by omega)
  induction m with
  | zero =>
    intro fs ss q hm hl hq k
    cases fs with
    | nil => exact nil 0 ss q k
    | cons f fs => simp at hm
  | succ m ih0 =>
    intro fs ss q hm hl hq k
    cases fs with
    | nil => exact nil (m + 1) ss q k
    | cons f fs =>
      rw [w_while]
      have h1 := neR_nil (f := R.d) (fun _ => rfl) (xs := f :: fs) (st := penS q ++ (more ++ [SObj.lst ((f :: fs).map R.d), SObj.lst (ss.map R.d)])) (n := more.length + 2) (by rw [pen_get, app_get0]; rfl)
      have hmore : clM (more ++ [SObj.lst ((f :: fs).map R.d), SObj.lst (ss.map R.d)]) := clM_app hc (by
        simp only [List.all_cons, List.all_nil, belO_lst, bels_map (f := R.d) (fun _ => rfl), Bool.and_true])
      generalize hF : f :: fs = F at *
      have hF0 : 0 < F.length := by rw [← hF]; simp
      have hF1 : F.isEmpty = false := by rw [← hF]; rfl
      simp [h1, hF1]
      refine take_wp (by omega) hmore (by omega) (by omega) fun x q1 hx hq1 => ?_
      have hx' : x < F.length := by omega
      have hl2 : (ss.map R.d).length < 16777216 := by rw [List.length_map]; omega
      simp [-mPopAt_ev, -mApp_ev]
      refine popAt_wp (ds := F.map R.d) (by rw [pen_get, app_get0]; rfl) (by rw [List.length_map]; exact hx') (by rw [List.length_map]; omega) fun d hd => ?_
      have hd2 : d = (F[x]).d := by
        rw [List.getElem?_map, List.getElem?_eq_getElem hx'] at hd
        exact (Option.some.inj hd).symm
      subst hd2
      simp [-mPopAt_ev, -mApp_ev]
      refine append_wp (ds := ss.map R.d) (by rw [pen_get, app_get]; rfl) hl2 ?_
      simp [-mPopAt_ev, -mApp_ev, erase_map]
      have hel : (F.eraseIdx x).length + 1 = F.length := by rw [List.length_eraseIdx, if_pos hx']; omega
      have ih := ih0 (F.eraseIdx x) (ss ++ [F[x]]) q1 (by omega) (by simp; omega) (by omega) fun ss' q' hp hq' => k ss' q' (hp.trans ?_) (by omega)
      · simp at ih
        exact ih
      · rw [List.append_assoc]
        exact List.Perm.append_left ss (erase_perm F x hx')
end
section
variable {q : Pn} {more : Store} {Q : D × Store → Prop}
theorem draw_stock_wp {most : Int} (hm : 4 ≤ most) (hm2 : most ≤ 1000) (ha : q.at' ≤ 800000) (hc : clM more) (k : ∀ (rs : List R) (q' : Pn), Stk most rs → q'.at' ≤ q.at' + 100 → Q (stockD rs, penS q' ++ more)) : Wp (den_u_law_draw_stock [.ref 1, .int most] (penS q ++ more)) Q := by
  refine wp_frz ?_
  unfold b_u_law_draw_stock
  simp
  refine one_wp (by omega) hc (by simp) (by simp) (by simp) fun x hx q1 hq1 => ?_
  obtain ⟨count, rfl, c1, c4⟩ : ∃ count : Nat, x = .int count ∧ 1 ≤ count ∧ count ≤ 4 := by
    simp only [List.mem_cons, List.not_mem_nil, or_false] at hx
    rcases hx with rfl | rfl | rfl | rfl | rfl | rfl | rfl
    · exact ⟨1, rfl, by omega, by omega⟩
    · exact ⟨2, rfl, by omega, by omega⟩
    · exact ⟨2, rfl, by omega, by omega⟩
    · exact ⟨2, rfl, by omega, by omega⟩
    · exact ⟨3, rfl, by omega, by omega⟩
    · exact ⟨3, rfl, by omega, by omega⟩
    · exact ⟨4, rfl, by omega, by omega⟩
  have hmore : clM (more ++ [SObj.lst []]) := clM_app hc rfl
  simp
  refine take_wp (by omega) hmore (by omega) (by omega) fun y q2 hy hq2 => ?_
  simp [rng1, small_ok (x := (count : Int)) (by omega) (by omega)]
  have hpow : (1 : Int) * 2 ^ count ≤ 100 := by
    match count, c4 with
    | 0, _ => decide
    | 1, _ => decide
    | 2, _ => decide
    | 3, _ => decide
    | 4, _ => decide
  refine stock_loop (count := count) (plain := decide (y = 0)) (M := most) c4 hc count [] q2 1 most none none none none none none none none none none none none none (by simp) (by simp) rfl (by omega) hpow (by omega) (by omega) (by simp) (by omega) fun fs q3 e1 e3 e6 e7 e8 e9 e10 e11 e12 e13 e14 e15 e16 e17 e19 l1 ok pr su hq3 => ?_
  simp
  refine perm_loop hc 7 fs [] q3 (by omega) (by simp; omega) (by omega) fun ss q4 hp hq4 => ?_
  rw [List.nil_append] at hp
  simp [fTuple]
  refine pen_outN hc (by omega) (bel_stock _ ss) (k ss q4 ⟨fun r hr => ok r (hp.mem_iff.mp hr), by rw [hp.length_eq]; omega, by rw [hp.length_eq]; omega, by rw [prodI_perm (hp.map wI)]; exact pr, by rw [sumI_perm (hp.map R.n)]; exact su⟩ (by omega))
end
end K82
set_option Elab.async false
set_option linter.all false
set_option maxRecDepth 100000
set_option maxHeartbeats 4000000
namespace K82
open PySem DL
def watchD (rs : List R) (lo hi : Int) : D := .tup [stockD rs, .int lo, .int hi]
theorem bel_watch (n : Nat) (rs : List R) (lo hi : Int) : bel n (watchD rs lo hi) = true := by
  simp [watchD, bel_stock]
section
variable {q : Pn} {more : Store} {Q : D × Store → Prop}
theorem draw_watch_wp {most : Int} (hm : 4 ≤ most) (hm2 : most ≤ 1000) (ha : q.at' ≤ 500000) (hc : clM more)
    (k : ∀ (rs : List R) (cut : List (Nat × Nat)) (lo hi : Int) (q' : Pn), Stk most rs → Valid rs (first rs) cut → cut.length ≤ 40 → 0 ≤ lo → lo ≤ hi → hi ≤ 16 → q'.at' ≤ q.at' + 210 → Q (.tup [watchD rs lo hi, cutD cut], penS q' ++ more)) : Wp (den_u_law_draw_watch [.ref 1, .int most] (penS q ++ more)) Q := by
  refine wp_frz ?_
  unfold b_u_law_draw_watch
  simp
  refine draw_stock_wp hm hm2 (by omega) hc fun rs q1 hs hq1 => ?_
  simp
  refine draw_cut_wp hs.stock (by omega) hc fun cut q2 hv hcl hq2 => ?_
  simp
  refine take_wp (by omega) hc (by omega) (by omega) fun way q3 hw hq3 => ?_
  have fin : ∀ (lo hi : Int) (q' : Pn), 0 ≤ lo → lo ≤ hi → hi ≤ 16 → q'.at' ≤ q3.at' + 2 → Wp (frzOut (2 + more.length) (.tup [watchD rs lo hi, cutD cut], penS q' ++ more)) Q := fun lo hi q' h1 h2 h3 h4 =>
    pen_out hc (by omega) (by simp [bel_watch, cutD, bels_map (f := cD) (fun _ => rfl)]) (k rs cut lo hi q' hs hv hcl h1 h2 h3 (by omega))
  unfold watchD at fin
  simp [cutD] at fin ⊢
  generalize ht : min (cut.length : Int) 16 = total
  have t0 : 0 ≤ total ∧ total ≤ 16 := by omega
  by_cases w3 : way = 3
  · subst w3
    simp
    exact fin total total q3 (by omega) (by omega) (by omega) (by omega)
  by_cases w4 : way = 4
  · subst w4
    simp
    refine take_wp (by omega) hc (by omega) (by omega) fun x q4 hx hq4 => ?_
    simp
    refine take_wp (by omega) hc (by omega) (by omega) fun y q5 hy hq5 => ?_
    simp
    exact fin _ _ q5 (by omega) (by omega) (by omega) (by omega)
  by_cases w5 : way = 5
  · subst w5
    simp
    refine take_wp (by omega) hc (by omega) (by omega) fun x q4 hx hq4 => ?_
    simp
    refine take_wp (by omega) hc (by omega) (by omega) fun y q5 hy hq5 => ?_
    have e := sorted_ints (st := penS q5 ++ more) (ns := [(x : Int), y]) (by simp)
    have sp := sortedI [(x : Int), y]
    have pm : ([(x : Int), y].mergeSort fun a b => decide (a ≤ b)).Perm [(x : Int), y] := List.mergeSort_perm _ _
    generalize ([(x : Int), y].mergeSort fun a b => decide (a ≤ b)) = zs at e sp pm
    match zs, pm.length_eq with
    | [a, b], _ =>
      simp
      refine wp_of e ?_
      have ha := pm.mem_iff (a := a)
      have hb := pm.mem_iff (a := b)
      simp at ha hb sp
      simp
      exact fin a b q5 (by omega) sp (by omega) (by omega)
  · simp [show ¬ (way : Int) = 3 by omega, show ¬ (way : Int) = 4 by omega, show ¬ (way : Int) = 5 by omega]
    exact fin 0 16 q3 (by omega) (by omega) (by omega) (by omega)
end
end K82
set_option Elab.async false
set_option linter.all false
set_option maxRecDepth 100000
set_option maxHeartbeats 4000000
namespace K82
open PySem DL
/-- frames as they are drawn -/
def FOk (f : List Nat) : Prop := (f = [63] ∨ ∀ c ∈ f, c ∈ az) ∧ f.length ≤ 30
def headD (fs : List (List Nat)) : D := .tup (fs.map D.str)
section
variable {q : Pn} {more : Store} {Q : D × Store → Prop}
theorem join_set {env : DL.Env} {st : Store} {cs : List Nat} {K : Qs} (hl : cs.length ≤ 30) (hz : ∀ c ∈ cs, c ∈ az) (k : ∀ f, FOk f → K (.ret (.str f), env, st)) :
    Wp (fSetK st (.lst (cs.map sg))) fun ks => sortOk (ks.map keyD) = true ∧ Wp (mJoin st (.str []) [.lst ((ks.map keyD).mergeSort dle)]) (kRet env K) := by
  refine set_sg (st := st) (x := .lst (cs.map sg)) (cs := cs) (Q := fun p => Wp (mJoin p.2 (.str []) [p.1]) (kRet env K)) rfl (by omega) fun ds hs => ?_
  have hd := hs.2.2.1
  simp [join_sg (cs := ds) (by omega)]
  exact k ds ⟨.inr fun c hc => hz c ((hs.2.1 c).mp hc), by omega⟩
theorem draw_frame_wp {s : Nat} (hs : s ∈ az) (ha : q.at' ≤ 800000) (hc : clM more) (k : ∀ (f : List Nat) (q' : Pn), FOk f → q'.at' ≤ q.at' + 6 → Q (.str f, penS q' ++ more)) : Wp (den_u_law_draw_frame [.ref 1, .str [s]] (penS q ++ more)) Q := by
  refine wp_frz ?_
  unfold b_u_law_draw_frame
  simp
  refine take_wp (by omega) hc (by omega) (by omega) fun way q1 hw hq1 => ?_
  have fin : ∀ (f : List Nat) (q' : Pn), FOk f → q'.at' ≤ q1.at' + 5 → Wp (frzOut (2 + more.length) (.str f, penS q' ++ more)) Q := fun f q' h1 h2 => pen_out hc (by omega) rfl (k f q' h1 (by omega))
  have set1 : ∀ (cs : List Nat) (q' : Pn), cs.length ≤ 30 → (∀ c ∈ cs, c ∈ az) → q'.at' ≤ q1.at' + 5 → ∀ env : DL.Env, Wp (fSetK (penS q' ++ more) (.lst (cs.map sg))) fun ks => sortOk (ks.map keyD) = true ∧ Wp (mJoin (penS q' ++ more) (.str []) [.lst ((ks.map keyD).mergeSort dle)]) (kRet env (kOut fun r => Wp (frzOut (2 + more.length) r) Q)) := fun cs q' h1 h2 h3 env =>
    join_set h1 h2 fun f hf => by
      simp
      exact fin f q' hf h3
  by_cases w0 : way = 0
  · subst w0
    simp
    exact fin _ q1 ⟨.inl rfl, by simp⟩ (by omega)
  by_cases w4 : way < 4
  · have hw4 : (way : Int) < 4 := by omega
    simp [w0, hw4, rng1, small_ok (x := (way : Int)) (by omega) (by omega)]
    have z1 : ∀ c ∈ [97, 98, 99, 100, 101, 102, 103, 104, 105], c ∈ az := by decide
    have z2 : [97, 98, 99, 100, 101, 102, 103, 104, 105] ≠ [] := by decide
    have z3 : [97, 98, 99, 100, 101, 102, 103, 104, 105].length ≤ 16777216 := by decide
    generalize [97, 98, 99, 100, 101, 102, 103, 104, 105] = z at z1 z2 z3 ⊢
    refine comp_draw (fun y => ∃ c ∈ z, y = sg c) 1 (rangeD 0 way) q1 900000 (by rw [range_len]; omega) (fun d _ q' hq' => ?_) fun ys q' l p hq' => ?_
    · simp
      refine ones_wp (by omega) hc z2 z3 fun c hcz q'' hq'' => ⟨q'', rfl, hq'', c, hcz, rfl⟩
    · obtain ⟨cs, rfl, kc⟩ := sgs_of p
      rw [range_len] at hq'
      have hcl : cs.length = way := by rw [← List.length_map (f := sg), l, range_len]
      simp
      refine ⟨by omega, by omega, ?_⟩
      exact set1 (s :: cs) q' (by simp; omega) (fun c hcc => by
        rcases List.mem_cons.mp hcc with rfl | hcc
        · exact hs
        · exact z1 c (kc c hcc)) (by omega) _
  have hw4 : ¬ (way : Int) < 4 := by omega
  by_cases w5 : way = 4
  · subst w5
    simp
    refine take_wp (by omega) hc (by omega) (by omega) fun x q2 hx hq2 => ?_
    by_cases hx0 : x = 0
    · subst hx0
      simp
      exact set1 [] q2 (by simp) (by simp) (by omega) _
    · have : 0 < x := by omega
      simp [this]
      refine letters_wp (pen_cl hc) ?_
      simp
      refine ones_wp (by omega) hc (by decide) (by decide) fun c hcz q3 hq3 => ?_
      simp
      exact set1 [c] q3 (by simp) (by simpa using hcz) (by omega) _
  by_cases w6 : way = 5
  · subst w6
    simp
    refine letters_wp (pen_cl hc) ?_
    simp
    have e1 : fListA (penS q1 ++ more) (.str az) = some (.lst (az.map sg)) := rfl
    refine wp_of e1 ?_
    simp
    refine take_wp (by omega) hc (by omega) (by omega) fun x q2 hx hq2 => ?_
    have e2 : cutL (az.map sg) (some (x : Int)) none = (az.drop x).map sg := by rw [cut_from, List.map_drop]
    have e3 : az.length = 26 := rfl
    simp [e2]
    refine ⟨by omega, ?_⟩
    rw [← List.map_drop]
    exact set1 (s :: az.drop x) q2 (by simp; omega) (fun c hcc => by
      rcases List.mem_cons.mp hcc with rfl | hcc
      · exact hs
      · exact List.mem_of_mem_drop hcc) (by omega) _
  · simp [w0, hw4, show ¬ (way : Int) = 4 by omega, show ¬ (way : Int) = 5 by omega]
    exact set1 [s] q1 (by simp) (by simpa using hs) (by omega) _
/-- a cut's places are there -/
def PlOk (rs : List R) (cut : List (Nat × Nat)) : Prop := ∀ c ∈ cut, ∃ r, rs[c.1]? = some r ∧ c.2 < r.s.length
theorem valid_pl {rs : List R} : ∀ {cut : List (Nat × Nat)} {xs : List U}, Valid rs xs cut → PlOk rs cut
  | [], _, _ => fun c hc => by cases hc
  | (k, p) :: cs, xs, h => by
    obtain ⟨r, x, y, h1, h2, h3, h4, h5⟩ := h
    intro c hc
    rcases List.mem_cons.mp hc with rfl | hc
    · exact ⟨r, h1, h3⟩
    · exact valid_pl h5 c hc
theorem draw_head_wp {rs : List R} {cut : List (Nat × Nat)} (hok : ∀ r ∈ rs, r.Ok2) (hp : PlOk rs cut) (hl : cut.length ≤ 1000) (ha : q.at' ≤ 700000) (hc : clM more) (k : ∀ (fs : List (List Nat)) (q' : Pn), (∀ f ∈ fs, FOk f) → fs.length ≤ 16 → q'.at' ≤ q.at' + 100 → Q (headD fs, penS q' ++ more)) : Wp (den_u_law_draw_head [.ref 1, stockD rs, cutD cut] (penS q ++ more)) Q := by
  refine wp_frz ?_
  unfold b_u_law_draw_head
  simp [cutD, stockD]
  refine take_wp (by omega) hc (by omega) (by omega) fun many q1 hm hq1 => ?_
  have hm16 : many ≤ 16 := by omega
  simp [cut_to]
  rw [← List.map_take]
  refine comp_draw (fun y => ∃ f, FOk f ∧ y = .str f) 6 _ q1 800000 (by rw [List.length_map, List.length_take]; omega) (fun d hd q' hq' => ?_) fun ys q2 l p hq2 => ?_
  · obtain ⟨c, hcm, rfl⟩ := List.mem_map.mp hd
    obtain ⟨r, hr, hpl⟩ := hp c (List.mem_of_mem_take hcm)
    have i1 : L2.atI (rs.map R.d) (c.1 : Int) = some r.d := at_nat (by rw [List.getElem?_map, hr]; rfl)
    have i2 : L2.atI r.s (c.2 : Int) = some (r.s[c.2]) := at_nat (List.getElem?_eq_getElem hpl)
    have ro := hok r (List.mem_of_getElem? hr)
    have hrl : r.s.length ≤ 16777216 := by have := ro.ok.len; omega
    simp [cD, i1, R.d, i2, hrl]
    exact draw_frame_wp (ro.az _ (List.getElem_mem hpl)) (by omega) hc fun f q'' hf hq'' => ⟨q'', rfl, by omega, f, hf, rfl⟩
  · obtain ⟨fs, rfl, hfs⟩ : ∃ fs : List (List Nat), ys = fs.map D.str ∧ ∀ f ∈ fs, FOk f := by
      clear l hq2
      induction ys with
      | nil => exact ⟨[], rfl, by simp⟩
      | cons y ys ih =>
        obtain ⟨f, hf, rfl⟩ := p y List.mem_cons_self
        obtain ⟨fs, rfl, h2⟩ := ih fun z hz => p z (List.mem_cons_of_mem _ hz)
        exact ⟨f :: fs, rfl, fun z hz => by
          rcases List.mem_cons.mp hz with rfl | hz
          · exact hf
          · exact h2 z hz⟩
    have hfl : fs.length ≤ many := by rw [← List.length_map (f := D.str), l, List.length_map, List.length_take]; omega
    have hq2' : q2.at' ≤ q1.at' + 96 := by
      rw [List.length_map, List.length_take] at hq2
      omega
    have fin : ∀ (gs : List (List Nat)) (q' : Pn), (∀ f ∈ gs, FOk f) → gs.length ≤ 16 → q'.at' ≤ q2.at' + 1 → Wp (frzOut (2 + more.length) (.tup (gs.map D.str), penS q' ++ more)) Q := fun gs q' h1 h2 h3 =>
      pen_out hc (by omega) (by simp [bels_map (f := D.str) (fun _ => rfl)]) (k gs q' h1 h2 (by omega))
    simp [fTuple]
    refine ⟨by omega, ?_⟩
    refine take_wp (by omega) hc (by omega) (by omega) fun x q3 hx hq3 => ?_
    simp
    refine ⟨fun h => ⟨fun h2 => ⟨by omega, ?_⟩, fun h2 => ?_⟩, fun h => ?_⟩
    · have f := fin (fs ++ [[63]]) q3 (fun f hf => by
        rcases List.mem_append.mp hf with h | h
        · exact hfs f h
        · rw [List.mem_singleton.mp h]; exact ⟨.inl rfl, by simp⟩) (by simp; omega) (by omega)
      rw [List.map_append] at f
      exact f
    · exact fin fs q3 hfs (by omega) (by omega)
    · exact fin fs q3 hfs (by omega) (by omega)
end
end K82
set_option Elab.async false
set_option linter.all false
set_option maxRecDepth 100000
set_option maxHeartbeats 4000000
namespace K82
open PySem DL
/-! ### steps -/
@[simp] theorem ix_R0 {st : Store} (r : R) : fIx st r.d (.int 0) = some (.str r.s) := rfl
@[simp] theorem ix_R1 {st : Store} (r : R) : fIx st r.d (.int 1) = some (.int r.l) := rfl
@[simp] theorem ix_R2 {st : Store} (r : R) : fIx st r.d (.int 2) = some (.bl r.t) := rfl
@[simp] theorem ix_row0 {st : Store} (xs : List U) : fIx st (rowD xs) (.int 0) = some (.tup (xs.map U.d)) := rfl
@[simp] theorem so_row {st : Store} (xs : List U) : seqOf st (rowD xs) = some [.tup (xs.map U.d), .tup []] := rfl
@[simp] theorem ix_stock {st : Store} (rs : List R) (i : Int) : fIx st (stockD rs) (.int i) = L2.atI (rs.map R.d) i := rfl
@[simp] theorem wa_stock {st : Store} (rs : List R) : walkD st (stockD rs) = some (rs.map R.d, yesS) := rfl
def enumF (k : Nat) (ds : List D) : List D := (ds.zipIdx k).map fun p => .tup [.int (p.2 : Nat), p.1]
theorem enumF_zero (ds : List D) : enumD ds = enumF 0 ds := rfl
theorem enumF_cons (k : Nat) (d : D) (ds : List D) : enumF k (d :: ds) = .tup [.int k, d] :: enumF (k + 1) ds := by
  unfold enumF
  rw [List.zipIdx_cons, List.map_cons]
theorem enumF_nil (k : Nat) : enumF k [] = [] := rfl
theorem strItems_sg (z : List Nat) : strItems z = z.map sg := rfl
def fitB (f : List Nat) (c : Nat) : Bool := decide (f = [63]) || decide (c ∈ f)
theorem fits_eq {st : Store} (hc : clS st = true) (c : Nat) (f : List Nat) : den_fits [sg c, .str f] st = some (.bl (fitB f c), st) := by
  refine wp_eq.mp (wp_frz ?_)
  unfold b_fits
  have e : fIn st (sg c) (.str f) = some (.bl (decide (c ∈ f))) := rfl
  simp
  refine ⟨fun h => wp_of (out_id rfl hc rfl) ?_, fun h => ?_⟩
  · simp [fitB, h]
  · rw [e, wp_some]
    simp
    exact wp_of (out_id rfl hc rfl) (by simp [fitB, h])
abbrev S3 := Nat × Nat × List U
def sD (s : S3) : D := .tup [.int s.1, .int s.2.1, rowD s.2.2]
def stepAt (r : R) (f : List Nat) (xs : List U) (k : Nat) (x : U) (p c : Nat) : List S3 := match (if fitB f c = true then r.on x p else none) with
  | some y => [(k, p, xs.set k y)]
  | none => []
def goP (r : R) (f : List Nat) (xs : List U) (k : Nat) (x : U) : Nat → List Nat → List S3
  | _, [] => []
  | p, c :: cs => stepAt r f xs k x p c ++ goP r f xs k x (p + 1) cs
def goR (f : List Nat) (xs : List U) : Nat → List R → List S3
  | _, [] => []
  | k, r :: rs => goP r f xs k ((xs[k]?).getD U0) 0 r.s ++ goR f xs (k + 1) rs
def stepsL (rs : List R) (f : List Nat) (xs : List U) : List S3 := goR f xs 0 rs
theorem bel_sD (n : Nat) (s : S3) : bel n (sD s) = true := by
  simp [sD, bel_row]
theorem cl_snoc {st : Store} {es : List D} (hc : clS st = true) (h : bels (st.length + 1) es = true) : clS (st ++ [.lst es]) = true := clS_snoc hc h
theorem cut_row1 (xs : List U) (k : Nat) : cutL (xs.map U.d) none (some (k : Int)) = (xs.take k).map U.d := by rw [cut_to, List.map_take]
theorem cut_row2 (xs : List U) (k : Nat) : cutL (xs.map U.d) (some ((k : Int) + 1)) none = (xs.drop (k + 1)).map U.d := by
  have := cut_from (xs.map U.d) (k + 1)
  rw [show ((k : Int) + 1) = ((k + 1 : Nat) : Int) by omega, this, List.map_drop]
theorem row_set (xs : List U) (k : Nat) (y : U) (hk : k < xs.length) : (xs.take k).map U.d ++ (U.d y :: (xs.drop (k + 1)).map U.d) = (xs.set k y).map U.d := by
  rw [← set_cut xs k y hk, List.map_append, List.map_cons]
section
variable {st : Store} {Q : Qs} {r : R} {f : List Nat} {xs : List U} {k : Nat} {x : U} {rs : List R}
noncomputable def plB1 : DenS := (sSeq (sSet 12 (dIf (tTru (dCallF den_fits (aCons (dVar 11) (aCons (dOp2 fIx (dOp2 fIx (dVar 0) (dC (D.int 1))) (dVar 1)) aNil)))) (dCallF den_run_after (aCons (dVar 8) (aCons (dOp2 fIx (dVar 3) (dVar 7)) (aCons (dVar 10) aNil)))) (dC D.non)))
  (sIf (asB (dOp2 fNotN (dVar 12) (dC D.non))) (sDrop (dMeth .list mAppend (dVar 5) (aCons (dTup (aCons (dVar 7) (aCons (dVar 10) (aCons (dTup (aCons (dOp2 fAdd (dOp2 fAdd (dSl (dVar 3) pNone (pSome (dVar 7))) (dTup (aCons (dVar 12) aNil))) (dSl (dVar 3) (pSome (dOp2 fAdd (dVar 7) (dC (D.int 1)))) pNone)) (aCons (dVar 9) aNil))) aNil)))) aNil))) sNext))
theorem steps_places {fs : List (List Nat)} {at' : Nat} {e2 e4 e6 e13 : Option D} (hc : clS st = true) (hs : r.s.length ≤ 1000) (hx : xs[k]? = some x) (hl : xs.length ≤ 1000) (hw : W3 x) (hf : fs[at']? = some f) :
    ∀ (cs : List Nat) (p : Nat) (acc : List S3) (e10 e11 e12 : Option D), acc.length + cs.length ≤ 100000 →
    (∀ e10 e11 e12 : Option D, Q (.next, [some (.tup [stockD rs, headD fs, .tup []]), some (.int at'), e2, some (.tup (xs.map U.d)), e4, some (.ref st.length), e6, some (.int k), some r.d, some (.tup []), e10, e11, e12, e13], st ++ [.lst ((acc ++ goP r f xs k x p cs).map sD)])) →
    Wp (forL yesS (forB (gUn 2 (gsCons (gN 10) (gsCons (gN 11) gsNil))) plB1) (enumF p (cs.map sg)) [some (.tup [stockD rs, headD fs, .tup []]), some (.int at'), e2, some (.tup (xs.map U.d)), e4, some (.ref st.length), e6, some (.int k), some r.d, some (.tup []), e10, e11, e12, e13] (st ++ [.lst (acc.map sD)])) Q
  | [], p, acc, e10, e11, e12, _, kq => by
    rw [List.map_nil, enumF_nil, w_fnil]
    refine ⟨rfl, ?_⟩
    have := kq e10 e11 e12
    simpa [goP] using this
  | c :: cs, p, acc, e10, e11, e12, hlen, kq => by
    rw [List.map_cons, enumF_cons, w_fcons]
    refine ⟨rfl, ?_⟩
    have hlen' : acc.length + (cs.length + 1) ≤ 100000 := hlen
    have hk : k < xs.length := (List.getElem?_eq_some_iff.mp hx).1
    have hcl : clS (st ++ [.lst (acc.map sD)]) = true := cl_snoc hc (bels_map (fun s => bel_sD _ s) _)
    have hfit := fits_eq hcl c f
    have hrun := run_after_eq (r := r) (x := x) (p := p) (by omega) hw hcl
    have i1 : L2.atI (xs.map U.d) (k : Int) = some x.d := at_nat (by rw [List.getElem?_map, hx]; rfl)
    have i2 : L2.atI (fs.map D.str) (at' : Int) = some (.str f) := at_nat (by rw [List.getElem?_map, hf]; rfl)
    have ih := fun acc' (h : acc'.length ≤ acc.length + 1) e10 e11 e12 => steps_places (e2 := e2) (e4 := e4) (e6 := e6) (e13 := e13) hc hs hx hl hw hf cs (p + 1) acc' e10 e11 e12 (by omega)
    unfold plB1 at ih ⊢
    simp [headD] at ih ⊢
    simp [i2]
    refine wp_of hfit ?_
    cases hfb : fitB f c with
    | false =>
      have hst : stepAt r f xs k x p c = [] := by simp [stepAt, hfb]
      simp [isNon]
      have := ih acc (by omega) (some (.int p)) (some (sg c)) (some .non) fun e10 e11 e12 => by
        have := kq e10 e11 e12
        rw [goP, hst] at this
        simpa [headD] using this
      exact this
    | true =>
      simp [i1]
      refine wp_of hrun ?_
      cases hon : r.on x p with
      | none =>
        have hst : stepAt r f xs k x p c = [] := by simp [stepAt, hfb, hon]
        simp [optU, isNon]
        have := ih acc (by omega) (some (.int p)) (some (sg c)) (some .non) fun e10 e11 e12 => by
          have := kq e10 e11 e12
          rw [goP, hst] at this
          simpa [headD] using this
        exact this
      | some y =>
        have hst : stepAt r f xs k x p c = [(k, p, xs.set k y)] := by simp [stepAt, hfb, hon]
        have hrow := row_set xs k y hk
        have hny : isNon y.d = false := rfl
        simp [optU, hny, cut_row1, cut_row2, hrow]
        have hrow2 : List.take k (xs.map U.d) ++ y.d :: List.drop (k + 1) (xs.map U.d) = (xs.set k y).map U.d := by
          rw [← List.map_take, ← List.map_drop]; exact hrow
        refine ⟨by omega, by omega, by omega, ?_⟩
        rw [hrow2]
        have := ih (acc ++ [(k, p, xs.set k y)]) (by simp) (some (.int p)) (some (sg c)) (some y.d) fun e10 e11 e12 => by
          have := kq e10 e11 e12
          rw [goP, hst] at this
          simpa [headD] using this
        rw [List.map_append] at this
        exact this
theorem goP_len : ∀ (cs : List Nat) (p : Nat), (goP r f xs k x p cs).length ≤ cs.length
  | [], _ => by simp [goP]
  | c :: cs, p => by
    have := goP_len cs (p + 1)
    have h1 : (stepAt r f xs k x p c).length ≤ 1 := by unfold stepAt; split <;> simp
    rw [goP, List.length_append, List.length_cons]; omega
end
theorem enumR_F (k : Nat) (rs : List R) : enumR k rs = enumF k (rs.map R.d) := rfl
section
variable {st : Store} {Q : Qs} {f : List Nat} {xs : List U} {rs : List R}
theorem Fit.len {rs : List R} {xs : List U} (h : Fit rs xs) : rs.length = xs.length := h.1
noncomputable def rlB1 : DenS := (sIf (tOrD (asB (dOp2 fEqR (dVar 6) (dLst aNil))) (tTru (dCall (pure1 fAll) (aCons (dComp (iOf (dVar 6)) (gN 13) tYesD (dCallF den_holds (aCons (dVar 13) (aCons (dVar 7) (aCons (fun _ _ => none) aNil)))) [13]) aNil)))) (sSeq (sSet 9 (dIf (asB (dOp2 fNeR (dOp2 fIx (dVar 0) (dC (D.int 2))) (dTup aNil))) (dCallF den_kept_after (aCons (dVar 0) (aCons (dVar 1) (aCons (dVar 4) (aCons (dVar 7) aNil))))) (dTup aNil)))
  (sFor (iEnum (aCons (dOp2 fIx (dVar 8) (dC (D.int 0))) aNil)) (gUn 2 (gsCons (gN 10) (gsCons (gN 11) gsNil))) plB1)) sNext)
theorem steps_reels {fs : List (List Nat)} {at' : Nat} {e2 e4 e13 : Option D} (hc : clS st = true) (hl : xs.length ≤ 1000) (hf : fs[at']? = some f) (all : List R) :
    ∀ (rs : List R) (k : Nat) (acc : List S3) (e7 e8 e9 e10 e11 e12 : Option D), (∀ r ∈ rs, r.s.length ≤ 1000) → (∀ (j : Nat) (r : R), rs[j]? = some r → ∃ x, xs[k + j]? = some x ∧ W3 x) → acc.length + 1000 * rs.length ≤ 100000 →
    (∀ e7 e8 e9 e10 e11 e12 : Option D, Q (.next, [some (.tup [stockD all, headD fs, .tup []]), some (.int at'), e2, some (.tup (xs.map U.d)), e4, some (.ref st.length), some (.lst []), e7, e8, e9, e10, e11, e12, e13], st ++ [.lst ((acc ++ goR f xs k rs).map sD)])) →
    Wp (forL yesS (forB (gUn 2 (gsCons (gN 7) (gsCons (gN 8) gsNil))) rlB1) (enumF k (rs.map R.d)) [some (.tup [stockD all, headD fs, .tup []]), some (.int at'), e2, some (.tup (xs.map U.d)), e4, some (.ref st.length), some (.lst []), e7, e8, e9, e10, e11, e12, e13] (st ++ [.lst (acc.map sD)])) Q
  | [], k, acc, e7, e8, e9, e10, e11, e12, _, _, _, kq => by
    rw [List.map_nil, enumF_nil, w_fnil]
    refine ⟨rfl, ?_⟩
    have := kq e7 e8 e9 e10 e11 e12
    simpa [goR] using this
  | r :: rs, k, acc, e7, e8, e9, e10, e11, e12, hs, hx, hlen, kq => by
    rw [List.map_cons, enumF_cons, w_fcons]
    refine ⟨rfl, ?_⟩
    obtain ⟨x, hxk, hw⟩ := hx 0 r rfl
    have hxk : xs[k]? = some x := hxk
    have hrs := hs r List.mem_cons_self
    have hlen' : acc.length + 1000 * (rs.length + 1) ≤ 100000 := hlen
    have gl := goP_len (r := r) (f := f) (xs := xs) (k := k) (x := x) r.s 0
    have ih := fun e7 e8 e9 e10 e11 e12 => steps_reels (e2 := e2) (e4 := e4) (e13 := e13) hc hl hf all rs (k + 1) (acc ++ goP r f xs k x 0 r.s) e7 e8 e9 e10 e11 e12 (fun z hz => hs z (List.mem_cons_of_mem _ hz)) (fun j z hz => by
      have := hx (j + 1) z (by simpa using hz)
      rwa [show k + (j + 1) = k + 1 + j by omega] at this) (by rw [List.length_append]; omega) fun e7 e8 e9 e10 e11 e12 => by
        have := kq e7 e8 e9 e10 e11 e12
        rw [goR, hxk] at this
        rw [List.append_assoc]
        exact this
    have pl := fun Q0 => steps_places (Q := Q0) (st := st) (r := r) (f := f) (xs := xs) (k := k) (x := x) (rs := all) (fs := fs) (at' := at') (e2 := e2) (e4 := e4) (e6 := some (.lst [])) (e13 := e13) hc hrs hxk hl hw hf r.s 0 acc
    unfold rlB1 at ih ⊢
    have hq1 : fEqR (st ++ [.lst (acc.map sD)]) (.lst []) (.lst []) = some (.bl true) := rfl
    have hq2 : fNeR (st ++ [.lst (acc.map sD)]) (.tup []) (.tup []) = some (.bl false) := rfl
    simp at ih ⊢
    simp [hq1, hq2, show r.s.length ≤ 16777216 by omega, strItems_sg, enumF_zero]
    refine pl _ _ _ _ (by omega) fun e10 e11 e12 => ?_
    simp
    have := ih (some (.int k)) (some r.d) (some (.tup [])) e10 e11 e12
    exact this
theorem stepsL_len (rs : List R) (hs : ∀ r ∈ rs, r.s.length ≤ 1000) : ∀ k, (goR f xs k rs).length ≤ 1000 * rs.length := by
  induction rs with
  | nil => intro k; simp [goR]
  | cons r rs ih =>
    intro k
    have h1 := goP_len (r := r) (f := f) (xs := xs) (k := k) (x := (xs[k]?).getD U0) r.s 0
    have h2 := hs r List.mem_cons_self
    have h3 := ih (fun z hz => hs z (List.mem_cons_of_mem _ hz)) (k + 1)
    rw [goR, List.length_append, List.length_cons]; omega
end
end K82
set_option Elab.async false
set_option linter.all false
set_option maxRecDepth 100000
set_option maxHeartbeats 4000000
namespace K82
open PySem DL
/-! ### steps_from, _law_steps -/
theorem fit_w3 {rs : List R} {xs : List U} (h : Fit rs xs) (j : Nat) (r : R) (hj : rs[j]? = some r) : ∃ x, xs[0 + j]? = some x ∧ W3 x := by
  have hl : j < xs.length := by rw [← h.1]; exact (List.getElem?_eq_some_iff.mp hj).1
  have hx := List.getElem?_eq_getElem hl
  rw [Nat.zero_add]
  exact ⟨xs[j], hx, (h.get hj hx).w3⟩
def caseD (rs : List R) (fs : List (List Nat)) : D := .tup [stockD rs, headD fs, .tup []]
section
variable {st : Store} {f : List Nat} {xs : List U} {rs : List R} {fs : List (List Nat)} {at' : Nat}
theorem steps_from_eq (hc : clS st = true) (hrs : ∀ r ∈ rs, r.s.length ≤ 1000) (hn : rs.length ≤ 50) (hfit : Fit rs xs) (hf : fs[at']? = some f) : den_steps_from [caseD rs fs, .int at', rowD xs] st = some (.lst ((stepsL rs f xs).map sD), st) := by
  refine wp_eq.mp (wp_frz ?_)
  unfold b_steps_from caseD
  have key := fun Q0 => steps_reels (Q := Q0) (st := st) (f := f) (xs := xs) (fs := fs) (at' := at') (e2 := some (rowD xs)) (e4 := some (.tup [])) (e13 := none) hc (by have := hfit.1; omega) hf rs rs 0 [] none none none none none none hrs (fit_w3 hfit) (by simp; omega)
  unfold rlB1 plB1 at key
  simp [w_cnil, enumF_zero] at key ⊢
  refine key _ fun e7 e8 e9 e10 e11 e12 => ?_
  simp
  exact wp_of (out_lst (es := (goR f xs 0 rs).map sD) rfl hc (k := st.length) (new := [.lst ((goR f xs 0 rs).map sD)]) (by simp) (Nat.le_refl _) (bels_map (fun s => bel_sD _ s) _)) rfl
end
/-! the law's own -/
section
variable {st : Store} {Q : Qs} {r : R} {f : List Nat} {xs : List U} {k : Nat} {x : U} {rs : List R}
noncomputable def plB2 : DenS := (sSeq (sSet 8 (dIf (tOrD (asB (dOp2 fEqR (dVar 1) (dC (D.str [63])))) (asB (dOp2 fIn (dVar 7) (dVar 1)))) (dCallF den_u_law_run_on (aCons (dVar 5) (aCons (dOp2 fIx (dOp2 fIx (dVar 2) (dC (D.int 0))) (dVar 4)) (aCons (dVar 6) aNil)))) (dC D.non)))
  (sIf (asB (dOp2 fNotN (dVar 8) (dC D.non))) (sDrop (dMeth .list mAppend (dVar 3) (aCons (dTup (aCons (dVar 4) (aCons (dVar 6) (aCons (dTup (aCons (dOp2 fAdd (dOp2 fAdd (dSl (dOp2 fIx (dVar 2) (dC (D.int 0))) pNone (pSome (dVar 4))) (dTup (aCons (dVar 8) aNil))) (dSl (dOp2 fIx (dVar 2) (dC (D.int 0))) (pSome (dOp2 fAdd (dVar 4) (dC (D.int 1)))) pNone)) (aCons (dTup aNil) aNil))) aNil)))) aNil))) sNext))
theorem fin_str (st : Store) (c : Nat) (f : List Nat) : fIn st (sg c) (.str f) = some (.bl (decide (c ∈ f))) := rfl
theorem law_places {e0 : Option D} (hc : clS st = true) (hs : r.s.length ≤ 1000) (hx : xs[k]? = some x) (hl : xs.length ≤ 1000) (hw : W3 x) :
    ∀ (cs : List Nat) (p : Nat) (acc : List S3) (e6 e7 e8 : Option D), acc.length + cs.length ≤ 100000 →
    (∀ e6 e7 e8 : Option D, Q (.next, [e0, some (.str f), some (rowD xs), some (.ref st.length), some (.int k), some r.d, e6, e7, e8], st ++ [.lst ((acc ++ goP r f xs k x p cs).map sD)])) →
    Wp (forL yesS (forB (gUn 2 (gsCons (gN 6) (gsCons (gN 7) gsNil))) plB2) (enumF p (cs.map sg)) [e0, some (.str f), some (rowD xs), some (.ref st.length), some (.int k), some r.d, e6, e7, e8] (st ++ [.lst (acc.map sD)])) Q
  | [], p, acc, e6, e7, e8, _, kq => by
    rw [List.map_nil, enumF_nil, w_fnil]
    refine ⟨rfl, ?_⟩
    have := kq e6 e7 e8
    simpa [goP] using this
  | c :: cs, p, acc, e6, e7, e8, hlen, kq => by
    rw [List.map_cons, enumF_cons, w_fcons]
    refine ⟨rfl, ?_⟩
    have hlen' : acc.length + (cs.length + 1) ≤ 100000 := hlen
    have hk : k < xs.length := (List.getElem?_eq_some_iff.mp hx).1
    have hcl : clS (st ++ [.lst (acc.map sD)]) = true := cl_snoc hc (bels_map (fun s => bel_sD _ s) _)
    have hrun := run_on_eq (r := r) (x := x) (p := p) (by omega) hw hcl
    have i1 : L2.atI (xs.map U.d) (k : Int) = some x.d := at_nat (by rw [List.getElem?_map, hx]; rfl)
    have ih := fun acc' (h : acc'.length ≤ acc.length + 1) e6 e7 e8 => law_places (e0 := e0) hc hs hx hl hw cs (p + 1) acc' e6 e7 e8 (by omega)
    -- a letter that does not fit
    have no : stepAt r f xs k x p c = [] → Wp (forL yesS (forB (gUn 2 (gsCons (gN 6) (gsCons (gN 7) gsNil))) plB2) (enumF (p + 1) (cs.map sg)) [e0, some (.str f), some (rowD xs), some (.ref st.length), some (.int k), some r.d, some (.int p), some (sg c), some .non] (st ++ [.lst (acc.map sD)])) Q := fun hst =>
      ih acc (by omega) (some (.int p)) (some (sg c)) (some .non) fun e6 e7 e8 => by
        have := kq e6 e7 e8
        rw [goP, hst] at this
        exact this
    -- one that fits
    have yes : ∀ y, stepAt r f xs k x p c = [(k, p, xs.set k y)] → Wp (forL yesS (forB (gUn 2 (gsCons (gN 6) (gsCons (gN 7) gsNil))) plB2) (enumF (p + 1) (cs.map sg)) [e0, some (.str f), some (rowD xs), some (.ref st.length), some (.int k), some r.d, some (.int p), some (sg c), some y.d] (st ++ [.lst (acc.map sD ++ [sD (k, p, xs.set k y)])])) Q := fun y hst => by
      have := ih (acc ++ [(k, p, xs.set k y)]) (by simp) (some (.int p)) (some (sg c)) (some y.d) fun e6 e7 e8 => by
        have := kq e6 e7 e8
        rw [goP, hst] at this
        simpa using this
      rw [List.map_append] at this
      exact this
    have hrow2 : ∀ y : U, List.take k (xs.map U.d) ++ y.d :: List.drop (k + 1) (xs.map U.d) = (xs.set k y).map U.d := fun y => by
      rw [← List.map_take, ← List.map_drop]; exact row_set xs k y hk
    have hyn : ∀ y : U, isNon y.d = false := fun _ => rfl
    unfold plB2 at no yes ⊢
    have h3 : f = [63] ∨ (¬ f = [63] ∧ c ∈ f) ∨ (¬ f = [63] ∧ ¬ c ∈ f) := by
      by_cases h : f = [63]
      · exact .inl h
      · by_cases h2 : c ∈ f
        · exact .inr (.inl ⟨h, h2⟩)
        · exact .inr (.inr ⟨h, h2⟩)
    rcases h3 with h | ⟨h, h2⟩ | ⟨h, h2⟩
    · subst h
      have hfb : fitB [63] c = true := by simp [fitB]
      simp [i1]
      refine wp_of hrun ?_
      cases hon : r.on x p with
      | none =>
        simp [optU, isNon]
        exact no (by simp [stepAt, hfb, hon])
      | some y =>
        simp [optU, hyn, cut_row1, cut_row2]
        refine ⟨by omega, by omega, by omega, ?_⟩
        rw [hrow2]
        exact yes y (by simp [stepAt, hfb, hon])
    · have hfb : fitB f c = true := by simp [fitB, h2]
      simp [h, fin_str, h2, i1]
      refine wp_of hrun ?_
      cases hon : r.on x p with
      | none =>
        simp [optU, isNon]
        exact no (by simp [stepAt, hfb, hon])
      | some y =>
        simp [optU, hyn, cut_row1, cut_row2]
        refine ⟨by omega, by omega, by omega, ?_⟩
        rw [hrow2]
        exact yes y (by simp [stepAt, hfb, hon])
    · have hfb : fitB f c = false := by simp [fitB, h, h2]
      simp [h, fin_str, h2, isNon]
      exact no (by simp [stepAt, hfb])
theorem law_reels {e0 : Option D} (hc : clS st = true) (hl : xs.length ≤ 1000) :
    ∀ (rs : List R) (k : Nat) (acc : List S3) (e4 e5 e6 e7 e8 : Option D), (∀ r ∈ rs, r.s.length ≤ 1000) → (∀ (j : Nat) (r : R), rs[j]? = some r → ∃ x, xs[k + j]? = some x ∧ W3 x) → acc.length + 1000 * rs.length ≤ 100000 →
    (∀ e4 e5 e6 e7 e8 : Option D, Q (.next, [e0, some (.str f), some (rowD xs), some (.ref st.length), e4, e5, e6, e7, e8], st ++ [.lst ((acc ++ goR f xs k rs).map sD)])) →
    Wp (forL yesS (forB (gUn 2 (gsCons (gN 4) (gsCons (gN 5) gsNil))) (sFor (iEnum (aCons (dOp2 fIx (dVar 5) (dC (D.int 0))) aNil)) (gUn 2 (gsCons (gN 6) (gsCons (gN 7) gsNil))) plB2)) (enumF k (rs.map R.d)) [e0, some (.str f), some (rowD xs), some (.ref st.length), e4, e5, e6, e7, e8] (st ++ [.lst (acc.map sD)])) Q
  | [], k, acc, e4, e5, e6, e7, e8, _, _, _, kq => by
    rw [List.map_nil, enumF_nil, w_fnil]
    refine ⟨rfl, ?_⟩
    have := kq e4 e5 e6 e7 e8
    simpa [goR] using this
  | r :: rs, k, acc, e4, e5, e6, e7, e8, hs, hx, hlen, kq => by
    rw [List.map_cons, enumF_cons, w_fcons]
    refine ⟨rfl, ?_⟩
    obtain ⟨x, hxk, hw⟩ := hx 0 r rfl
    have hxk : xs[k]? = some x := hxk
    have hrs := hs r List.mem_cons_self
    have hlen' : acc.length + 1000 * (rs.length + 1) ≤ 100000 := hlen
    have gl := goP_len (r := r) (f := f) (xs := xs) (k := k) (x := x) r.s 0
    have ih := fun e4 e5 e6 e7 e8 => law_reels (e0 := e0) hc hl rs (k + 1) (acc ++ goP r f xs k x 0 r.s) e4 e5 e6 e7 e8 (fun z hz => hs z (List.mem_cons_of_mem _ hz)) (fun j z hz => by
      have := hx (j + 1) z (by simpa using hz)
      rwa [show k + (j + 1) = k + 1 + j by omega] at this) (by rw [List.length_append]; omega) fun e4 e5 e6 e7 e8 => by
        have := kq e4 e5 e6 e7 e8
        rw [goR, hxk] at this
        rw [List.append_assoc]
        exact this
    have pl := fun Q0 => law_places (Q := Q0) (st := st) (r := r) (f := f) (xs := xs) (k := k) (x := x) (e0 := e0) hc hrs hxk hl hw r.s 0 acc
    simp at ih ⊢
    simp [show r.s.length ≤ 16777216 by omega, strItems_sg, enumF_zero]
    refine pl _ _ _ _ (by omega) fun e6 e7 e8 => ?_
    simp
    exact ih (some (.int k)) (some r.d) e6 e7 e8
theorem law_steps_eq (hc : clS st = true) (hrs : ∀ r ∈ rs, r.s.length ≤ 1000) (hn : rs.length ≤ 50) (hfit : Fit rs xs) : den_u_law_steps [stockD rs, .str f, rowD xs] st = some (.lst ((stepsL rs f xs).map sD), st) := by
  refine wp_eq.mp (wp_frz ?_)
  unfold b_u_law_steps
  have key := fun Q0 => law_reels (Q := Q0) (st := st) (f := f) (xs := xs) (e0 := some (stockD rs)) hc (by have := hfit.1; omega) rs 0 [] none none none none none hrs (fit_w3 hfit) (by simp; omega)
  unfold plB2 at key
  simp [enumF_zero] at key ⊢
  refine key _ fun e4 e5 e6 e7 e8 => ?_
  simp
  exact wp_of (out_lst (es := (goR f xs 0 rs).map sD) rfl hc (k := st.length) (new := [.lst ((goR f xs 0 rs).map sD)]) (by simp) (Nat.le_refl _) (bels_map (fun s => bel_sD _ s) _)) rfl
end
end K82
set_option Elab.async false
set_option linter.all false
set_option maxRecDepth 100000
set_option maxHeartbeats 4000000
namespace K82
open PySem DL
/-! ### rows as keys -/
def kU (x : U) : NestedKey := .tup [.num x.u, .num x.a, .num x.w]
theorem nkeys_U : ∀ xs : List U, nkeys (xs.map U.d) = some (xs.map kU)
  | [] => rfl
  | x :: xs => by rw [List.map_cons, nkeys, nkeys_U xs]; rfl
theorem nkey_row (xs : List U) : nkey (rowD xs) = some (.tup [.tup (xs.map kU), .tup []]) := by
  show (nkeys [.tup (xs.map U.d), .tup []]).map NestedKey.tup = _
  have : nkey (.tup (xs.map U.d)) = some (.tup (xs.map kU)) := by
    show (nkeys (xs.map U.d)).map NestedKey.tup = _
    rw [nkeys_U]; rfl
  rw [nkeys, this]; rfl
theorem kU_inj {x y : U} (h : kU x = kU y) : x = y := by
  unfold kU at h
  simp at h
  obtain ⟨u, a, w⟩ := x
  obtain ⟨u', a', w'⟩ := y
  simp at h
  obtain ⟨h1, h2, h3⟩ := h
  subst h1 h2 h3; rfl
theorem depth_kU : ∀ xs : List U, NestedKey.depthAll (xs.map kU) ≤ 3
  | [] => by simp [NestedKey.depthAll]
  | x :: xs => by
    have := depth_kU xs
    rw [List.map_cons, NestedKey.depthAll]
    have : NestedKey.depth (kU x) ≤ 2 := by simp [kU, NestedKey.depth, NestedKey.depthAll]
    omega
theorem row_key : KeyEnc rowD where
  key xs := ⟨_, nkey_row xs⟩
  inj xs ys h := by
    rw [nkey_row, nkey_row] at h
    simp at h
    exact List.map_inj_right (fun x y e => kU_inj e) |>.mp h
  sh xs := by
    unfold shK
    rw [nkey_row]
    have := depth_kU xs
    show decide _ = true
    refine decide_eq_true ?_
    simp [NestedKey.depth, NestedKey.depthAll]
    omega
  tup xs := rfl
theorem toPys_map' : ∀ ds : List D, toPys ds = ds.map toPy
  | [] => rfl
  | d :: ds => by rw [toPys, toPys_map' ds]; rfl
theorem alike_U (x y : U) : PySem.W.alike (toPy x.d) (toPy y.d) = true := rfl
theorem alikeAll_U : ∀ xs ys : List U, PySem.W.alikeAll (toPys (xs.map U.d)) (toPys (ys.map U.d)) = true
  | [], ys => by rw [List.map_nil, toPys]; cases ys <;> simp [toPys, PySem.W.alikeAll]
  | x :: xs, [] => by simp [toPys, PySem.W.alikeAll]
  | x :: xs, y :: ys => by
    rw [List.map_cons, List.map_cons, toPys, toPys, PySem.W.alikeAll, alike_U, alikeAll_U xs ys]; rfl
theorem alike_row (xs ys : List U) : PySem.W.alike (toPy (rowD xs)) (toPy (rowD ys)) = true := by
  show PySem.W.alikeAll [.tuple (toPys (xs.map U.d)), .tuple []] [.tuple (toPys (ys.map U.d)), .tuple []] = true
  simp [PySem.W.alikeAll, PySem.W.alike, alikeAll_U]
theorem deps_U : ∀ xs : List U, deps (xs.map U.d) ≤ 1
  | [] => by simp [deps]
  | x :: xs => by
    have := deps_U xs
    rw [List.map_cons, deps]
    have : dep x.d = 1 := by simp [U.d, dep, deps]
    omega
theorem dep_row (xs : List U) : dep (rowD xs) ≤ 3 := by
  have := deps_U xs
  simp [rowD, dep, deps]; omega
theorem deps_rows : ∀ L : List (List U), deps (L.map rowD) ≤ 3
  | [] => by simp [deps]
  | x :: xs => by
    have := deps_rows xs
    have := dep_row x
    rw [List.map_cons, deps]; omega
theorem pl_row (xs : List U) : pl (rowD xs) = true := by
  show (pl (.tup (xs.map U.d)) && (true && true)) = true
  show (pls (xs.map U.d) && (true && true)) = true
  rw [pls_map (f := U.d) (fun _ => rfl)]; rfl
theorem sortOk_rows {L : List (List U)} (h : L.length ≤ 16777216) : sortOk (L.map rowD) = true := by
  unfold sortOk
  have h1 := deps_rows L
  rw [pls_map (f := rowD) pl_row, List.length_map, decide_eq_true h, decide_eq_true (show deps (L.map rowD) ≤ 50 by omega)]
  have h2 : ((L.map rowD).all fun a => (L.map rowD).all fun b => PySem.W.alike (toPy a) (toPy b)) = true := by
    rw [List.all_eq_true]
    intro a ha
    rw [List.all_eq_true]
    intro b hb
    obtain ⟨x, _, rfl⟩ := List.mem_map.mp ha
    obtain ⟨y, _, rfl⟩ := List.mem_map.mp hb
    exact alike_row x y
  have h3 : (L.map rowD).all isTup1 = true := by
    rw [List.all_eq_true]
    intro a ha
    obtain ⟨x, _, rfl⟩ := List.mem_map.mp ha
    rfl
  rw [h2, h3]; rfl
/-! ### how many rows there are -/
def mkU (u a w : Int) : U := if u = 1 then ⟨1, a, 0⟩ else ⟨u, a, w⟩
def upsOf (r : R) : List U := (List.range r.s.length).flatMap fun (a : Nat) => (List.range (r.l + 1).toNat).map fun (e : Nat) => mkU ((a : Int) + 1 - (e : Int)) a 1
def dnsOf (r : R) : List U := (List.range r.s.length).flatMap fun (a : Nat) => (List.range (r.l + 1).toNat).map fun (e : Nat) => mkU (r.n - a - (e : Int)) a (-1)
def runsOf (r : R) : List U := U0 :: (upsOf r ++ if r.t = true then dnsOf r else [])
theorem flat_len2 {α β : Type} (f : α → List β) (m : Nat) (h : ∀ a, (f a).length = m) : ∀ l : List α, (l.flatMap f).length = l.length * m
  | [] => by simp
  | a :: l => by rw [List.flatMap_cons, List.length_append, h, flat_len2 f m h l, List.length_cons, Nat.add_mul]; omega
theorem runsOf_len (r : R) (h : 0 ≤ r.l) : ((runsOf r).length : Int) = wI r := by
  have h1 : (upsOf r).length = r.s.length * (r.l + 1).toNat := by
    unfold upsOf
    rw [flat_len2 _ (r.l + 1).toNat (fun a => by simp), List.length_range]
  have h2 : (dnsOf r).length = r.s.length * (r.l + 1).toNat := by
    unfold dnsOf
    rw [flat_len2 _ (r.l + 1).toNat (fun a => by simp), List.length_range]
  have h3 : (((r.l + 1).toNat : Nat) : Int) = r.l + 1 := by omega
  unfold runsOf wI R.n
  rw [List.length_cons, List.length_append, h1]
  cases r.t with
  | true =>
    simp only [if_true]
    rw [h2, Int.natCast_add, Int.natCast_add, Int.natCast_mul, h3]
    generalize (r.s.length : Int) * (r.l + 1) = z
    omega
  | false =>
    simp only [Bool.false_eq_true, if_false, List.length_nil]
    rw [Int.natCast_add, Int.natCast_add, Int.natCast_mul, h3]
    generalize (r.s.length : Int) * (r.l + 1) = z
    omega
theorem mem_ups {r : R} {a : Nat} {u : Int} (ha : a < r.s.length) (h1 : 0 ≤ (a : Int) + 1 - u) (h2 : (a : Int) + 1 - u ≤ r.l) : mkU u a 1 ∈ upsOf r := by
  unfold upsOf
  refine List.mem_flatMap.mpr ⟨a, List.mem_range.mpr ha, List.mem_map.mpr ⟨((a : Int) + 1 - u).toNat, List.mem_range.mpr (by omega), ?_⟩⟩
  congr 1; omega
theorem mem_dns {r : R} {a : Nat} {u : Int} (ha : a < r.s.length) (h1 : 0 ≤ r.n - a - u) (h2 : r.n - a - u ≤ r.l) : mkU u a (-1) ∈ dnsOf r := by
  unfold dnsOf
  refine List.mem_flatMap.mpr ⟨a, List.mem_range.mpr ha, List.mem_map.mpr ⟨(r.n - a - u).toNat, List.mem_range.mpr (by omega), ?_⟩⟩
  congr 1; omega
theorem good_mem {r : R} {x : U} (h : r.Good x) : x ∈ runsOf r := by
  unfold runsOf
  rcases h with rfl | ⟨h1, h2, h3, h4, h5⟩ | ⟨h1, h2, h3, h4, h5⟩ | ⟨h1, h2, h3, h4, h5, h6⟩
  · exact List.mem_cons_self
  · refine List.mem_cons_of_mem _ (List.mem_append.mpr ?_)
    obtain ⟨u, a, w⟩ := x
    simp only at h1 h2 h3 h4
    subst h1 h2
    have ha : ((a.toNat : Nat) : Int) = a := by omega
    have hlt : a.toNat < r.s.length := by unfold R.n at h4; omega
    rw [left_one] at h5
    have up : a ≤ r.l → (⟨1, a, 0⟩ : U) ∈ upsOf r := fun hl => by
      have := mem_ups (r := r) (a := a.toNat) (u := 1) hlt (by omega) (by omega)
      rw [ha] at this
      exact this
    cases ht : r.t with
    | false =>
      rw [ht] at h5
      exact .inl (up (by simpa using h5))
    | true =>
      rw [ht] at h5
      simp only [if_true] at h5 ⊢
      by_cases hl : a ≤ r.l
      · exact .inl (up hl)
      · refine .inr ?_
        have := mem_dns (r := r) (a := a.toNat) (u := 1) hlt (by omega) (by omega)
        rw [ha] at this
        exact this
  · refine List.mem_cons_of_mem _ (List.mem_append.mpr (.inl ?_))
    obtain ⟨u, a, w⟩ := x
    simp only at h1 h2 h3 h4 h5
    subst h1
    have ha : ((a.toNat : Nat) : Int) = a := by omega
    have := mem_ups (r := r) (a := a.toNat) (u := u) (by unfold R.n at h4; omega) (by omega) (by omega)
    rw [ha] at this
    unfold mkU at this
    rwa [if_neg (by omega)] at this
  · refine List.mem_cons_of_mem _ (List.mem_append.mpr (.inr ?_))
    obtain ⟨u, a, w⟩ := x
    simp only at h1 h2 h3 h4 h5 h6
    subst h1
    rw [h2]
    simp only [if_true]
    have ha : ((a.toNat : Nat) : Int) = a := by omega
    have := mem_dns (r := r) (a := a.toNat) (u := u) (by unfold R.n at h4; omega) (by omega) (by omega)
    rw [ha] at this
    unfold mkU at this
    rwa [if_neg (by omega)] at this
def rowsOf : List R → List (List U)
  | [] => [[]]
  | r :: rs => (runsOf r).flatMap fun x => (rowsOf rs).map (x :: ·)
theorem rowsOf_len : ∀ rs : List R, (∀ r ∈ rs, 0 ≤ r.l) → ((rowsOf rs).length : Int) = prodI (rs.map wI)
  | [], _ => rfl
  | r :: rs, h => by
    rw [rowsOf, flat_len2 _ (rowsOf rs).length (fun x => by simp), Int.natCast_mul, runsOf_len r (h r List.mem_cons_self), rowsOf_len rs fun z hz => h z (List.mem_cons_of_mem _ hz)]
    rfl
theorem fit_mem : ∀ {rs : List R} {xs : List U}, Fit rs xs → xs ∈ rowsOf rs
  | [], [], _ => by simp [rowsOf]
  | [], _ :: _, h => by have := h.1; simp at this
  | _ :: _, [], h => by have := h.1; simp at this
  | r :: rs, x :: xs, h => by
    rw [rowsOf]
    refine List.mem_flatMap.mpr ⟨x, good_mem (h.2 (r, x) List.mem_cons_self), List.mem_map.mpr ⟨xs, fit_mem ⟨by have := h.1; simpa using this, fun p hp => h.2 p (List.mem_cons_of_mem _ hp)⟩, rfl⟩⟩
theorem rows_le {rs : List R} {L : List (List U)} (hl : ∀ r ∈ rs, 0 ≤ r.l) (hn : L.Nodup) (hf : ∀ xs ∈ L, Fit rs xs) : (L.length : Int) ≤ prodI (rs.map wI) := by
  rw [← rowsOf_len rs hl]
  exact Int.ofNat_le.mpr (nodup_le hn fun xs hx => fit_mem (hf xs hx))
end K82
set_option Elab.async false
set_option linter.all false
set_option maxRecDepth 100000
set_option maxHeartbeats 4000000
namespace K82
open PySem DL
/-! ### layers -/
theorem mem_goP {r : R} {f : List Nat} {xs : List U} {k : Nat} {x : U} {s : S3} : ∀ {cs : List Nat} {p : Nat}, s ∈ goP r f xs k x p cs ↔ ∃ j c y, cs[j]? = some c ∧ fitB f c = true ∧ r.on x ((p + j : Nat) : Int) = some y ∧ s = (k, p + j, xs.set k y)
  | [], p => by simp [goP]
  | c :: cs, p => by
    rw [goP, List.mem_append, mem_goP]
    have h1 : s ∈ stepAt r f xs k x p c ↔ ∃ y, fitB f c = true ∧ r.on x (p : Int) = some y ∧ s = (k, p, xs.set k y) := by
      unfold stepAt
      cases h : fitB f c with
      | false => simp
      | true =>
        simp only [if_true, true_and]
        cases hon : r.on x p with
        | none => simp
        | some y => simp
    rw [h1]
    constructor
    · rintro (⟨y, a, b, c'⟩ | ⟨j, c', y, a, b, d, e⟩)
      · exact ⟨0, c, y, rfl, a, b, c'⟩
      · exact ⟨j + 1, c', y, a, b, by rw [show p + (j + 1) = p + 1 + j by omega]; exact d, by rw [show p + (j + 1) = p + 1 + j by omega]; exact e⟩
    · rintro ⟨j, c', y, a, b, d, e⟩
      cases j with
      | zero => cases a; exact .inl ⟨y, b, d, e⟩
      | succ j => exact .inr ⟨j, c', y, by simpa using a, b, by rw [show p + 1 + j = p + (j + 1) by omega]; exact d, by rw [show p + 1 + j = p + (j + 1) by omega]; exact e⟩
theorem mem_goR {f : List Nat} {xs : List U} {s : S3} : ∀ {rs : List R} {k : Nat}, s ∈ goR f xs k rs ↔ ∃ i r, rs[i]? = some r ∧ s ∈ goP r f xs (k + i) ((xs[k + i]?).getD U0) 0 r.s
  | [], k => by simp [goR]
  | r :: rs, k => by
    rw [goR, List.mem_append, mem_goR]
    constructor
    · rintro (h | ⟨i, r', a, b⟩)
      · exact ⟨0, r, rfl, h⟩
      · exact ⟨i + 1, r', a, by rw [show k + (i + 1) = k + 1 + i by omega]; exact b⟩
    · rintro ⟨i, r', a, b⟩
      cases i with
      | zero => cases a; exact .inl b
      | succ i => exact .inr ⟨i, r', by simpa using a, by rw [show k + 1 + i = k + (i + 1) by omega]; exact b⟩
/-- a step: reel k, place p -/
structure IsStep (rs : List R) (f : List Nat) (xs : List U) (k p : Nat) (ys : List U) : Prop where
  ex : ∃ r x y c, rs[k]? = some r ∧ xs[k]? = some x ∧ r.s[p]? = some c ∧ fitB f c = true ∧ r.on x (p : Int) = some y ∧ ys = xs.set k y
theorem mem_steps {rs : List R} {f : List Nat} {xs : List U} (hl : rs.length = xs.length) {s : S3} : s ∈ stepsL rs f xs ↔ IsStep rs f xs s.1 s.2.1 s.2.2 := by
  unfold stepsL
  rw [mem_goR]
  constructor
  · rintro ⟨i, r, a, b⟩
    obtain ⟨j, c, y, h1, h2, h3, h4⟩ := mem_goP.mp b
    rw [Nat.zero_add] at h3 h4 b
    rw [Nat.zero_add] at h3 h4
    have hi : i < xs.length := by rw [← hl]; exact (List.getElem?_eq_some_iff.mp a).1
    have hx := List.getElem?_eq_getElem hi
    rw [hx] at h3
    subst h4
    exact ⟨r, _, y, c, a, hx, h1, h2, h3, rfl⟩
  · rintro ⟨r, x, y, c, a, b, h1, h2, h3, h4⟩
    refine ⟨s.1, r, a, mem_goP.mpr ⟨s.2.1, c, y, h1, h2, ?_, ?_⟩⟩
    · rw [Nat.zero_add, Nat.zero_add, b]; exact h3
    · rw [Nat.zero_add, Nat.zero_add, ← h4]
theorem IsStep.fit {rs : List R} {f : List Nat} {xs ys : List U} {k p : Nat} (h : IsStep rs f xs k p ys) (hf : Fit rs xs) : Fit rs ys := by
  obtain ⟨r, x, y, c, a, b, h1, h2, h3, rfl⟩ := h.ex
  have hp := (List.getElem?_eq_some_iff.mp h1).1
  exact hf.set a (on_good (hf.get a b) (by omega) (by unfold R.n; omega) h3)
/-- rows to which steps lead -/
inductive Way (rs : List R) : List (List Nat) → List U → Prop
  | nil : Way rs [] (first rs)
  | step {fs : List (List Nat)} {f : List Nat} {xs ys : List U} {k p : Nat} : Way rs fs xs → IsStep rs f xs k p ys → Way rs (fs ++ [f]) ys
theorem Way.fit {rs : List R} {fs : List (List Nat)} {xs : List U} (h : Way rs fs xs) : Fit rs xs := by
  induction h with
  | nil => exact fit_first rs
  | step _ s ih => exact s.fit ih
theorem way_nil {rs : List R} {xs : List U} : Way rs [] xs ↔ xs = first rs := by
  constructor
  · intro h
    generalize hf : ([] : List (List Nat)) = fs at h
    cases h with
    | nil => rfl
    | step _ _ => simp at hf
  · rintro rfl; exact .nil
theorem way_snoc {rs : List R} {fs : List (List Nat)} {f : List Nat} {ys : List U} : Way rs (fs ++ [f]) ys ↔ ∃ xs k p, Way rs fs xs ∧ IsStep rs f xs k p ys := by
  constructor
  · intro h
    generalize hf : fs ++ [f] = gs at h
    cases h with
    | nil => simp at hf
    | step w s =>
      rename_i fs' f' xs k p
      have := List.append_inj' hf rfl
      obtain ⟨rfl, h2⟩ := this
      simp at h2
      subst h2
      exact ⟨xs, k, p, w, s⟩
  · rintro ⟨xs, k, p, w, s⟩; exact .step w s
def layD (L : List (List U)) : D := .lst (L.map rowD)
structure LayerOk (rs : List R) (fs : List (List Nat)) (Ls : List (List (List U))) : Prop where
  len : Ls.length = fs.length + 1
  nd : ∀ (j : Nat) (L : List (List U)), Ls[j]? = some L → L.Nodup
  mem : ∀ (j : Nat) (L : List (List U)), Ls[j]? = some L → ∀ xs, xs ∈ L ↔ Way rs (fs.take j) xs
theorem bel_lay (n : Nat) (L : List (List U)) : bel n (layD L) = true := by
  simp [layD, bels_map (f := rowD) (fun xs => bel_row n xs)]
theorem so_sD {st : Store} (s : S3) : seqOf st (sD s) = some [.int s.1, .int s.2.1, rowD s.2.2] := rfl
structure Big (rs : List R) : Prop where
  s : ∀ r ∈ rs, r.s.length ≤ 1000
  l : ∀ r ∈ rs, 0 ≤ r.l
  n : rs.length ≤ 50
  p : prodI (rs.map wI) ≤ 100000
section
variable {rs : List R} {fs : List (List Nat)} {Q : Qs} {T : Store}
/-- the rows of some steps are put into the dict -/
theorem put_loop {e0 e1 e2 e4 : Option D} (B : Big rs) : ∀ (ss : List S3) (L : List (List U)) (e5 e6 e7 : Option D), L.Nodup → (∀ xs ∈ L, Fit rs xs) → (∀ s ∈ ss, Fit rs s.2.2) →
    (∀ e5 e6 e7 : Option D, Q (.next, [e0, e1, e2, some (.ref T.length), e4, e5, e6, e7], T ++ [setO rowD (addAll L (ss.map fun s => s.2.2))])) →
    Wp (forL yesS (forB (gUn 3 (gsCons (gN 5) (gsCons (gN 6) (gsCons (gN 7) gsNil)))) (sAsg (dC (D.bl true)) (gSub (dVar 3) (dVar 7)))) (ss.map sD) [e0, e1, e2, some (.ref T.length), e4, e5, e6, e7] (T ++ [setO rowD L])) Q
  | [], L, e5, e6, e7, hn, hf, hs, k => by
    rw [List.map_nil, w_fnil]
    exact ⟨rfl, k e5 e6 e7⟩
  | s :: ss, L, e5, e6, e7, hn, hf, hs, k => by
    rw [List.map_cons, w_fcons]
    refine ⟨rfl, ?_⟩
    have hle := rows_le B.l hn hf
    have hB := B.p
    have sd := set_dict row_key (st := T ++ [setO rowD L]) (n := T.length) (L := L) (a := s.2.2) (by simp) (by omega)
    simp [so_sD, -setD_ref]
    refine wp_of sd ?_
    simp
    refine put_loop B ss (addL L s.2.2) _ _ _ (nodup_addL hn) (fun xs hx => ?_) (fun z hz => hs z (List.mem_cons_of_mem _ hz)) k
    rcases mem_addL.mp hx with h | rfl
    · exact hf xs h
    · exact hs s List.mem_cons_self
/-- the steps of all rows of a layer -/
theorem rows_loop2 {k0 : Nat} {f : List Nat} {e1 : Option D} (B : Big rs) (hf0 : fs[k0]? = some f) (hT : clS T = true) : ∀ (rows L : List (List U)) (e4 e5 e6 e7 : Option D), L.Nodup → (∀ xs ∈ L, Fit rs xs) → (∀ xs ∈ rows, Fit rs xs) →
    (∀ e4 e5 e6 e7 : Option D, Q (.next, [some (caseD rs fs), e1, some (.int k0), some (.ref T.length), e4, e5, e6, e7], T ++ [setO rowD (addAll L (rows.flatMap fun xs => (stepsL rs f xs).map fun s => s.2.2))])) →
    Wp (forL yesS (forB (gN 4) (sFor (iOf (dCallF den_steps_from (aCons (dVar 0) (aCons (dVar 2) (aCons (dVar 4) aNil))))) (gUn 3 (gsCons (gN 5) (gsCons (gN 6) (gsCons (gN 7) gsNil)))) (sAsg (dC (D.bl true)) (gSub (dVar 3) (dVar 7))))) (rows.map rowD) [some (caseD rs fs), e1, some (.int k0), some (.ref T.length), e4, e5, e6, e7] (T ++ [setO rowD L])) Q
  | [], L, e4, e5, e6, e7, hn, hf, hs, k => by
    rw [List.map_nil, w_fnil]
    exact ⟨rfl, k e4 e5 e6 e7⟩
  | xs :: rows, L, e4, e5, e6, e7, hn, hf, hs, k => by
    rw [List.map_cons, w_fcons]
    refine ⟨rfl, ?_⟩
    have hfx := hs xs List.mem_cons_self
    have hcl : clS (T ++ [setO rowD L]) = true := by
      unfold clS at hT ⊢
      rw [List.all_append, List.length_append, all_mono (by simp) hT]
      simp [setO, bels_map (f := fun _ : List U => D.bl true) (fun _ => rfl)]
    have se := steps_from_eq (st := T ++ [setO rowD L]) hcl B.s B.n hfx hf0
    simp
    refine wp_of se ?_
    simp
    have hss : ∀ s ∈ stepsL rs f xs, Fit rs s.2.2 := fun s h => (mem_steps hfx.1 |>.mp h).fit hfx
    refine put_loop B _ L _ _ _ hn hf hss fun e5 e6 e7 => ?_
    simp
    refine rows_loop2 B hf0 hT rows _ _ _ _ _ (nodup_addAll hn) (fun z hz => ?_) (fun z hz => hs z (List.mem_cons_of_mem _ hz)) fun e4 e5 e6 e7 => ?_
    · rcases mem_addAll.mp hz with h | h
      · exact hf z h
      · obtain ⟨s, h1, rfl⟩ := List.mem_map.mp h
        exact hss s h1
    · have := k e4 e5 e6 e7
      rw [List.flatMap_cons] at this
      unfold addAll at *
      rw [List.foldl_append] at this
      exact this
end
end K82
set_option Elab.async false
set_option linter.all false
set_option maxRecDepth 100000
set_option maxHeartbeats 4000000
namespace K82
open PySem DL
section
variable {rs : List R} {fs : List (List Nat)} {Q : Qs} {st : Store}
/-- the first layers, and the last of them -/
structure LayPre (rs : List R) (fs : List (List Nat)) (Ls : List (List (List U))) : Prop where
  nd : ∀ (j : Nat) (L : List (List U)), Ls[j]? = some L → L.Nodup
  mem : ∀ (j : Nat) (L : List (List U)), Ls[j]? = some L → ∀ xs, xs ∈ L ↔ Way rs (fs.take j) xs
theorem LayPre.fit {Ls : List (List (List U))} (h : LayPre rs fs Ls) {L : List (List U)} (hL : L ∈ Ls) : ∀ xs ∈ L, Fit rs xs := fun xs hx => by
  obtain ⟨j, hj⟩ := List.getElem?_of_mem hL
  exact ((h.mem j L hj xs).mp hx).fit
theorem lay_next {Ls0 : List (List (List U))} {L M : List (List U)} {f : List Nat} (h : LayPre rs fs (Ls0 ++ [L])) (hf : fs[Ls0.length]? = some f) (hM : M.Perm (addAll [] (L.flatMap fun xs => (stepsL rs f xs).map fun s => s.2.2))) : LayPre rs fs (Ls0 ++ [L] ++ [M]) := by
  have hl : (Ls0 ++ [L])[Ls0.length]? = some L := by simp
  have htake : fs.take (Ls0.length + 1) = fs.take Ls0.length ++ [f] := by
    rw [List.take_add_one, hf]; rfl
  have hmem : ∀ ys, ys ∈ M ↔ Way rs (fs.take (Ls0.length + 1)) ys := fun ys => by
    rw [hM.mem_iff, mem_addAll, htake, way_snoc, List.mem_flatMap]
    constructor
    · rintro (h1 | ⟨xs, h1, h2⟩)
      · cases h1
      · obtain ⟨s, h3, rfl⟩ := List.mem_map.mp h2
        have w := (h.mem _ L hl xs).mp h1
        exact ⟨xs, s.1, s.2.1, w, mem_steps w.fit.1 |>.mp h3⟩
    · rintro ⟨xs, k, p, w, s⟩
      exact .inr ⟨xs, (h.mem _ L hl xs).mpr w, List.mem_map.mpr ⟨(k, p, ys), mem_steps w.fit.1 |>.mpr s, rfl⟩⟩
  have split : ∀ (j : Nat) (K : List (List U)), (Ls0 ++ [L] ++ [M])[j]? = some K → (Ls0 ++ [L])[j]? = some K ∨ (j = Ls0.length + 1 ∧ K = M) := fun j K hj => by
    by_cases hlt : j < (Ls0 ++ [L]).length
    · rw [List.getElem?_append_left hlt] at hj; exact .inl hj
    · rw [List.getElem?_append_right (by omega)] at hj
      have := (List.getElem?_eq_some_iff.mp hj).1
      simp at hlt this
      have e : j = Ls0.length + 1 := by omega
      subst e
      simp at hj
      exact .inr ⟨rfl, hj.symm⟩
  refine ⟨fun j K hj => ?_, fun j K hj => ?_⟩
  · rcases split j K hj with h1 | ⟨_, rfl⟩
    · exact h.nd j K h1
    · exact hM.nodup_iff.mpr (nodup_addAll .nil)
  · rcases split j K hj with h1 | ⟨rfl, rfl⟩
    · exact h.mem j K h1
    · exact hmem
theorem lay_first : LayPre rs fs [[first rs]] := by
  refine ⟨fun j L hj => ?_, fun j L hj => ?_⟩
  · cases j with
    | zero => cases hj; simp
    | succ j => simp at hj
  · cases j with
    | zero => cases hj; intro xs; rw [List.mem_singleton, List.take_zero, way_nil]
    | succ j => simp at hj
theorem cl_set {T : Store} {a : Nat} {es : List D} (h : clS T = true) (hb : bels T.length es = true) : clS (T.set a (.lst es)) = true := by
  unfold clS at *
  rw [List.length_set]
  exact List.all_eq_true.mpr fun o ho => by
    rcases List.mem_or_eq_of_mem_set ho with h1 | rfl
    · exact List.all_eq_true.mp h o h1
    · exact hb
theorem cl_dict {T : Store} (L : List (List U)) (h : clS T = true) : clS (T ++ [setO rowD L]) = true := by
  unfold clS at h ⊢
  rw [List.all_append, List.length_append, all_mono (by simp) h]
  simp [setO, bels_map (f := fun _ : List U => D.bl true) (fun _ => rfl)]
theorem bels_lays (n : Nat) (Ls : List (List (List U))) : bels n (Ls.map layD) = true := bels_map (fun L => bel_lay n L) _
theorem lay_loop (B : Big rs) (a : Nat) : ∀ (n : Nat) (Ls0 : List (List (List U))) (L : List (List U)) (T : Store) (e2 e3 e4 e5 e6 e7 : Option D), Ls0.length + n = fs.length → fs.length ≤ 1000 → LayPre rs fs (Ls0 ++ [L]) → clS T = true → T[a]? = some (.lst ((Ls0 ++ [L]).map layD)) → T.take a = st →
    (∀ (Ls : List (List (List U))) (T' : Store) (e2 e3 e4 e5 e6 e7 : Option D), LayerOk rs fs Ls → T'[a]? = some (.lst (Ls.map layD)) → T'.take a = st → Q (.next, [some (caseD rs fs), some (.ref a), e2, e3, e4, e5, e6, e7], T')) →
    Wp (forL yesS (forB (gN 2) (sSeq (sSet 3 (dDict0R true))
  (sSeq (sFor (iOf (dOp2 fIx (dVar 1) (dNeg (dC (D.int 1))))) (gN 4) (sFor (iOf (dCallF den_steps_from (aCons (dVar 0) (aCons (dVar 2) (aCons (dVar 4) aNil))))) (gUn 3 (gsCons (gN 5) (gsCons (gN 6) (gsCons (gN 7) gsNil)))) (sAsg (dC (D.bl true)) (gSub (dVar 3) (dVar 7)))))
  (sDrop (dMeth .list mAppend (dVar 1) (aCons (dCall (pure1 fSortedA) (aCons (dVar 3) aNil)) aNil)))))) (rangeD Ls0.length n) [some (caseD rs fs), some (.ref a), e2, e3, e4, e5, e6, e7] T) Q
  | 0, Ls0, L, T, e2, e3, e4, e5, e6, e7, hl, hl2, pre, hT, hg, ht, k => by
    rw [rangeD_zero, w_fnil]
    exact ⟨rfl, k _ T _ _ _ _ _ _ ⟨by rw [List.length_append, List.length_singleton]; omega, pre.nd, pre.mem⟩ hg ht⟩
  | n + 1, Ls0, L, T, e2, e3, e4, e5, e6, e7, hl, hl2, pre, hT, hg, ht, k => by
    rw [rangeD_succ, w_fcons]
    refine ⟨rfl, ?_⟩
    have hal : a < T.length := (List.getElem?_eq_some_iff.mp hg).1
    obtain ⟨f, hf⟩ : ∃ f, fs[Ls0.length]? = some f := ⟨_, List.getElem?_eq_getElem (by omega)⟩
    have hg2 : ∀ o : SObj, (T ++ [o])[a]? = some (.lst ((Ls0 ++ [L]).map layD)) := fun o => by rw [List.getElem?_append_left hal]; exact hg
    have hlast : L2.atI (Ls0.map layD ++ [layD L]) (-1) = some (layD L) := at_last _ _
    have hwl : walkD (T ++ [setO rowD []]) (layD L) = some (L.map rowD, yesS) := rfl
    have hdd : (T ++ [SObj.dic true [] []] : Store) = T ++ [setO rowD []] := rfl
    have rl := fun Q0 => rows_loop2 (Q := Q0) (T := T) (e1 := some (.ref a)) B hf hT L [] e4 e5 e6 e7 .nil (by simp) (pre.fit (by simp))
    simp [hg2, hlast]
    rw [hdd, hwl, wp_some]
    simp
    refine rl _ fun e4 e5 e6 e7 => ?_
    have hN : (addAll ([] : List (List U)) (L.flatMap fun xs => (stepsL rs f xs).map fun s => s.2.2)).Nodup := nodup_addAll .nil
    have hF : ∀ xs ∈ addAll ([] : List (List U)) (L.flatMap fun xs => (stepsL rs f xs).map fun s => s.2.2), Fit rs xs := fun xs hx => by
      rcases mem_addAll.mp hx with h | h
      · cases h
      · obtain ⟨zs, h1, h2⟩ := List.mem_flatMap.mp h
        obtain ⟨s, h3, rfl⟩ := List.mem_map.mp h2
        have hz := pre.fit (L := L) (by simp) zs h1
        exact (mem_steps hz.1 |>.mp h3).fit hz
    have nx := fun M hM => lay_next pre hf (M := M) hM
    generalize addAll ([] : List (List U)) (L.flatMap fun xs => (stepsL rs f xs).map fun s => s.2.2) = N at hN hF nx
    have hle := rows_le B.l hN hF
    have hB := B.p
    have hcd := cl_dict N hT
    have sset := sorted_set (enc := rowD) (st := T ++ [setO rowD N]) (n := T.length) (L := N) (by simp) (sortOk_rows (by omega))
    obtain ⟨M, hM, hp⟩ := sort_map (enc := rowD) N
    rw [hM] at sset
    have sset : fSortedA (T ++ [setO rowD N]) (.ref T.length) = some (layD M) := sset
    have hg3 := hg2 (setO rowD N)
    simp [hg3, sset, -mApp_ev]
    refine append_wp hg3 (by simp; omega) ?_
    have nx' := nx M hp
    have ih := lay_loop B a n (Ls0 ++ [L]) M ((T ++ [setO rowD N]).set a (.lst ((Ls0 ++ [L]).map layD ++ [layD M]))) (some (.int Ls0.length)) (some (.ref T.length)) e4 e5 e6 e7 (by simp; omega) hl2 nx' (cl_set hcd (by rw [bels_append, bels_lays]; simp [bel_lay])) (by rw [List.getElem?_set_self (by simp; omega)]; simp) (by rw [List.take_set_of_le (by omega), List.take_append_of_le_length (by omega)]; exact ht) k
    simp at ih ⊢
    exact ih
theorem first_row_eq (hc : clS st = true) (hl : rs.length ≤ 1000) : den_first_row_of [caseD rs fs] st = some (rowD (first rs), st) := by
  have c1 : compL yesS (gN 1) tYesD (dC (D.tup [D.int 0, D.int (-1), D.int 0])) [some (caseD rs fs), none] (rs.map R.d) st = some (rs.map fun _ => U0.d, st) :=
    compL_over rfl _ _ _ fun r hr => ⟨_, rfl, rfl⟩
  refine wp_eq.mp (wp_frz ?_)
  unfold b_first_row_of
  simp [caseD] at c1 ⊢
  refine wp_of c1 ?_
  simp [fTuple]
  refine ⟨by omega, ?_⟩
  have e : D.tup [D.tup (rs.map fun _ => U0.d), .tup []] = rowD (first rs) := by simp [rowD, first]
  have o := out_id (base := st.length) rfl hc (bel_row st.length (first rs))
  rw [← e] at o
  exact wp_of o (by rw [e])
theorem layers_eq (B : Big rs) (hl : fs.length ≤ 1000) (hc : clS st = true) : ∃ Ls, LayerOk rs fs Ls ∧ den_layers [caseD rs fs] st = some (.lst (Ls.map layD), st) := by
  have : Wp (den_layers [caseD rs fs] st) fun r => ∃ Ls, LayerOk rs fs Ls ∧ r = (.lst (Ls.map layD), st) := by
    refine wp_frz ?_
    unfold b_layers
    have f1 := first_row_eq (rs := rs) (fs := fs) hc (by have := B.n; omega)
    simp
    refine wp_of f1 ?_
    have hfix : fIx (st ++ [SObj.lst [layD [first rs]]]) (caseD rs fs) (.int 1) = some (headD fs) := rfl
    have hlen : fLen (st ++ [SObj.lst [layD [first rs]]]) (headD fs) = some (.int fs.length) := by simp [headD]
    have ll := fun Q0 => lay_loop (Q := Q0) (st := st) B st.length fs.length [] [first rs] (st ++ [SObj.lst [layD [first rs]]]) none none none none none none (by simp) hl lay_first (cl_snoc hc (by simp [bel_lay])) (by simp) (by simp)
    simp [layD] at hfix hlen ll ⊢
    simp [hfix, hlen, rng1, small_ok (x := (fs.length : Int)) (by omega) (by omega)]
    refine ll _ fun Ls T' e2 e3 e4 e5 e6 e7 ok hT ht => ?_
    simp
    have e : T' = st ++ T'.drop st.length := by
      have := List.take_append_drop st.length T'
      rw [ht] at this; exact this.symm
    rw [e] at hT ⊢
    exact wp_of (out_lst (es := Ls.map layD) rfl hc hT (Nat.le_refl _) (bels_lays _ _)) ⟨Ls, ok, rfl⟩
  obtain ⟨r, e, Ls, h1, rfl⟩ := this
  exact ⟨Ls, h1, e⟩
end
end K82
set_option Elab.async false
set_option linter.all false
set_option maxRecDepth 100000
set_option maxHeartbeats 4000000
namespace K82
open PySem DL
section
variable {rs : List R} {fs : List (List Nat)} {Q : Qs} {T st : Store}
theorem put_loop3 {e0 e1 e2 e3 e5 : Option D} (B : Big rs) : ∀ (ss : List S3) (L : List (List U)) (e6 e7 e8 : Option D), L.Nodup → (∀ xs ∈ L, Fit rs xs) → (∀ s ∈ ss, Fit rs s.2.2) →
    (∀ e6 e7 e8 : Option D, Q (.next, [e0, e1, e2, e3, some (.ref T.length), e5, e6, e7, e8], T ++ [setO rowD (addAll L (ss.map fun s => s.2.2))])) →
    Wp (forL yesS (forB (gUn 3 (gsCons (gN 6) (gsCons (gN 7) (gsCons (gN 8) gsNil)))) (sAsg (dC (D.bl true)) (gSub (dVar 4) (dVar 8)))) (ss.map sD) [e0, e1, e2, e3, some (.ref T.length), e5, e6, e7, e8] (T ++ [setO rowD L])) Q
  | [], L, e6, e7, e8, hn, hf, hs, k => by
    rw [List.map_nil, w_fnil]
    exact ⟨rfl, k e6 e7 e8⟩
  | s :: ss, L, e6, e7, e8, hn, hf, hs, k => by
    rw [List.map_cons, w_fcons]
    refine ⟨rfl, ?_⟩
    have hle := rows_le B.l hn hf
    have hB := B.p
    have sd := set_dict row_key (st := T ++ [setO rowD L]) (n := T.length) (L := L) (a := s.2.2) (by simp) (by omega)
    simp [so_sD, -setD_ref]
    refine wp_of sd ?_
    simp
    refine put_loop3 B ss (addL L s.2.2) _ _ _ (nodup_addL hn) (fun xs hx => ?_) (fun z hz => hs z (List.mem_cons_of_mem _ hz)) k
    rcases mem_addL.mp hx with h | rfl
    · exact hf xs h
    · exact hs s List.mem_cons_self
theorem rows_loop3 {f : List Nat} {e1 e2 : Option D} (B : Big rs) (hT : clS T = true) : ∀ (rows L : List (List U)) (e5 e6 e7 e8 : Option D), L.Nodup → (∀ xs ∈ L, Fit rs xs) → (∀ xs ∈ rows, Fit rs xs) →
    (∀ e5 e6 e7 e8 : Option D, Q (.next, [some (stockD rs), e1, e2, some (.str f), some (.ref T.length), e5, e6, e7, e8], T ++ [setO rowD (addAll L (rows.flatMap fun xs => (stepsL rs f xs).map fun s => s.2.2))])) →
    Wp (forL yesS (forB (gN 5) (sFor (iOf (dCallF den_u_law_steps (aCons (dVar 0) (aCons (dVar 3) (aCons (dVar 5) aNil))))) (gUn 3 (gsCons (gN 6) (gsCons (gN 7) (gsCons (gN 8) gsNil)))) (sAsg (dC (D.bl true)) (gSub (dVar 4) (dVar 8))))) (rows.map rowD) [some (stockD rs), e1, e2, some (.str f), some (.ref T.length), e5, e6, e7, e8] (T ++ [setO rowD L])) Q
  | [], L, e5, e6, e7, e8, hn, hf, hs, k => by
    rw [List.map_nil, w_fnil]
    exact ⟨rfl, k e5 e6 e7 e8⟩
  | xs :: rows, L, e5, e6, e7, e8, hn, hf, hs, k => by
    rw [List.map_cons, w_fcons]
    refine ⟨rfl, ?_⟩
    have hfx := hs xs List.mem_cons_self
    have se := law_steps_eq (st := T ++ [setO rowD L]) (f := f) (cl_dict L hT) B.s B.n hfx
    simp
    refine wp_of se ?_
    simp
    have hss : ∀ s ∈ stepsL rs f xs, Fit rs s.2.2 := fun s h => (mem_steps hfx.1 |>.mp h).fit hfx
    refine put_loop3 B _ L _ _ _ hn hf hss fun e6 e7 e8 => ?_
    simp
    refine rows_loop3 B hT rows _ _ _ _ _ (nodup_addAll hn) (fun z hz => ?_) (fun z hz => hs z (List.mem_cons_of_mem _ hz)) fun e5 e6 e7 e8 => ?_
    · rcases mem_addAll.mp hz with h | h
      · exact hf z h
      · obtain ⟨s, h1, rfl⟩ := List.mem_map.mp h
        exact hss s h1
    · have := k e5 e6 e7 e8
      rw [List.flatMap_cons] at this
      unfold addAll at *
      rw [List.foldl_append] at this
      exact this
theorem law_lay_loop (B : Big rs) (a : Nat) : ∀ (gs : List (List Nat)) (Ls0 : List (List (List U))) (L : List (List U)) (T : Store) (e3 e4 e5 e6 e7 e8 : Option D), fs.drop Ls0.length = gs → Ls0.length + gs.length = fs.length → fs.length ≤ 1000 → LayPre rs fs (Ls0 ++ [L]) → clS T = true → T[a]? = some (.lst ((Ls0 ++ [L]).map layD)) → T.take a = st →
    (∀ (Ls : List (List (List U))) (T' : Store) (e3 e4 e5 e6 e7 e8 : Option D), LayerOk rs fs Ls → T'[a]? = some (.lst (Ls.map layD)) → T'.take a = st → Q (.next, [some (stockD rs), some (headD fs), some (.ref a), e3, e4, e5, e6, e7, e8], T')) →
    Wp (forL yesS (forB (gN 3) (sSeq (sSet 4 (dDict0R true))
  (sSeq (sFor (iOf (dOp2 fIx (dVar 2) (dNeg (dC (D.int 1))))) (gN 5) (sFor (iOf (dCallF den_u_law_steps (aCons (dVar 0) (aCons (dVar 3) (aCons (dVar 5) aNil))))) (gUn 3 (gsCons (gN 6) (gsCons (gN 7) (gsCons (gN 8) gsNil)))) (sAsg (dC (D.bl true)) (gSub (dVar 4) (dVar 8)))))
  (sDrop (dMeth .list mAppend (dVar 2) (aCons (dCall (pure1 fListA) (aCons (dVar 4) aNil)) aNil)))))) (gs.map D.str) [some (stockD rs), some (headD fs), some (.ref a), e3, e4, e5, e6, e7, e8] T) Q
  | [], Ls0, L, T, e3, e4, e5, e6, e7, e8, hd, hl, hl2, pre, hT, hg, ht, k => by
    rw [List.map_nil, w_fnil]
    have : Ls0.length = fs.length := by simpa using hl
    exact ⟨rfl, k _ T _ _ _ _ _ _ ⟨by rw [List.length_append, List.length_singleton]; omega, pre.nd, pre.mem⟩ hg ht⟩
  | f :: gs, Ls0, L, T, e3, e4, e5, e6, e7, e8, hd, hl, hl2, pre, hT, hg, ht, k => by
    rw [List.map_cons, w_fcons]
    refine ⟨rfl, ?_⟩
    have hal : a < T.length := (List.getElem?_eq_some_iff.mp hg).1
    have hf : fs[Ls0.length]? = some f := by
      have := congrArg (fun l => l[0]?) hd
      simpa using this
    have hd2 : fs.drop (Ls0.length + 1) = gs := by
      rw [← List.tail_drop, hd]; rfl
    have hg2 : ∀ o : SObj, (T ++ [o])[a]? = some (.lst ((Ls0 ++ [L]).map layD)) := fun o => by rw [List.getElem?_append_left hal]; exact hg
    have hlast : L2.atI (Ls0.map layD ++ [layD L]) (-1) = some (layD L) := at_last _ _
    have hwl : walkD (T ++ [setO rowD []]) (layD L) = some (L.map rowD, yesS) := rfl
    have hdd : (T ++ [SObj.dic true [] []] : Store) = T ++ [setO rowD []] := rfl
    have rl := fun Q0 => rows_loop3 (Q := Q0) (T := T) (f := f) (e1 := some (headD fs)) (e2 := some (.ref a)) B hT L [] e5 e6 e7 e8 .nil (by simp) (pre.fit (by simp))
    simp [hg2, hlast]
    rw [hdd, hwl, wp_some]
    simp
    refine rl _ fun e5 e6 e7 e8 => ?_
    have hN : (addAll ([] : List (List U)) (L.flatMap fun xs => (stepsL rs f xs).map fun s => s.2.2)).Nodup := nodup_addAll .nil
    have hF : ∀ xs ∈ addAll ([] : List (List U)) (L.flatMap fun xs => (stepsL rs f xs).map fun s => s.2.2), Fit rs xs := fun xs hx => by
      rcases mem_addAll.mp hx with h | h
      · cases h
      · obtain ⟨zs, h1, h2⟩ := List.mem_flatMap.mp h
        obtain ⟨s, h3, rfl⟩ := List.mem_map.mp h2
        have hz := pre.fit (L := L) (by simp) zs h1
        exact (mem_steps hz.1 |>.mp h3).fit hz
    have nx := lay_next pre hf (.refl _)
    generalize addAll ([] : List (List U)) (L.flatMap fun xs => (stepsL rs f xs).map fun s => s.2.2) = N at hN hF nx
    have hle := rows_le B.l hN hF
    have hB := B.p
    have hcd := cl_dict N hT
    have sset : fListA (T ++ [setO rowD N]) (.ref T.length) = some (layD N) := list_set (enc := rowD) (st := T ++ [setO rowD N]) (n := T.length) (L := N) (by simp)
    have hg3 := hg2 (setO rowD N)
    simp [hg3, sset, -mApp_ev]
    refine append_wp hg3 (by simp; omega) ?_
    have ih := law_lay_loop B a gs (Ls0 ++ [L]) N ((T ++ [setO rowD N]).set a (.lst ((Ls0 ++ [L]).map layD ++ [layD N]))) (some (.str f)) (some (.ref T.length)) e5 e6 e7 e8 (by simpa using hd2) (by simp at hl ⊢; omega) hl2 nx (cl_set hcd (by rw [bels_append, bels_lays]; simp [bel_lay])) (by rw [List.getElem?_set_self (by simp; omega)]; simp) (by rw [List.take_set_of_le (by omega), List.take_append_of_le_length (by omega)]; exact ht) k
    simp at ih ⊢
    exact ih
theorem law_layers_eq (B : Big rs) (hl : fs.length ≤ 1000) (hc : clS st = true) : ∃ Ls, LayerOk rs fs Ls ∧ den_u_law_layers [stockD rs, headD fs] st = some (.lst (Ls.map layD), st) := by
  have : Wp (den_u_law_layers [stockD rs, headD fs] st) fun r => ∃ Ls, LayerOk rs fs Ls ∧ r = (.lst (Ls.map layD), st) := by
    refine wp_frz ?_
    unfold b_u_law_layers
    have f1 := K82.first_eq (rs := rs) hc (by have := B.n; omega)
    simp
    refine wp_of f1 ?_
    have hw : walkD (st ++ [SObj.lst [layD [first rs]]]) (headD fs) = some (fs.map D.str, yesS) := rfl
    have ll := fun Q0 => law_lay_loop (Q := Q0) (st := st) B st.length fs [] [first rs] (st ++ [SObj.lst [layD [first rs]]]) none none none none none none rfl (by simp) hl lay_first (cl_snoc hc (by simp [bel_lay])) (by simp) (by simp)
    simp [layD] at hw ll ⊢
    simp [hw]
    refine ll _ fun Ls T' e3 e4 e5 e6 e7 e8 ok hT ht => ?_
    simp
    have e : T' = st ++ T'.drop st.length := by
      have := List.take_append_drop st.length T'
      rw [ht] at this; exact this.symm
    rw [e] at hT ⊢
    exact wp_of (out_lst (es := Ls.map layD) rfl hc hT (Nat.le_refl _) (bels_lays _ _)) ⟨Ls, ok, rfl⟩
  obtain ⟨r, e, Ls, h1, rfl⟩ := this
  exact ⟨Ls, h1, e⟩
end
end K82
set_option Elab.async false
set_option linter.all false
set_option maxRecDepth 100000
set_option maxHeartbeats 4000000
namespace K82
open PySem DL
/-! ### dicts of ints, lengths -/
def setI (L : List Int) : SObj := .dic false (L.map .int) (L.map fun _ => .bl true)
theorem set_int {st : Store} {n : Nat} {L : List Int} {a : Int} (h : st[n]? = some (setI L)) (hl : L.length < 16777216) : setD st (.ref n) (.int a) (.bl true) = some (st.set n (setI (addL L a))) := by
  rw [setD_ref, h]
  have hp : putD false (L.map .int) (L.map fun _ => .bl true) (.int a) (.bl true) = some ((addL L a).map .int, (addL L a).map fun _ => .bl true) := by
    unfold putD
    show (if roomK (L.map .int) = true then some (putG keyOf (L.map .int) (L.map fun _ => .bl true) (.int a) (.bl true)) else none) = _
    have h2 : roomK (L.map D.int) = true := by unfold roomK; rw [List.length_map]; exact decide_eq_true hl
    rw [if_pos h2]
    unfold putG
    have ha : ((L.map D.int).any fun k => decide (keyOf k = keyOf (.int a))) = decide (a ∈ L) := by
      rw [Bool.eq_iff_iff, List.any_eq_true, decide_eq_true_eq]
      constructor
      · rintro ⟨d, hd, e⟩
        obtain ⟨b, hb, rfl⟩ := List.mem_map.mp hd
        have e2 : (some (Sum.inl b) : Option L2.Key) = some (Sum.inl a) := of_decide_eq_true e
        simp at e2
        rwa [e2] at hb
      · intro hm
        exact ⟨.int a, List.mem_map.mpr ⟨a, hm, rfl⟩, decide_eq_true rfl⟩
    rw [ha]
    unfold addL
    by_cases hm : a ∈ L
    · simp only [hm, decide_true, if_true]
      congr 2
      clear ha h2 h hl hm
      induction L with
      | nil => rfl
      | cons b L ih =>
        simp only [List.map_cons, List.zipWith_cons_cons, ite_self, ih]
    · simp only [hm, decide_false, Bool.false_eq_true, if_false, List.map_append, List.map_cons, List.map_nil]
  show Option.map _ (putD false (L.map .int) (L.map fun _ => .bl true) (.int a) (.bl true)) = _
  rw [hp]
  rfl
theorem sorted_setI {st : Store} {n : Nat} {L : List Int} (h : st[n]? = some (setI L)) (hl : L.length ≤ 16777216) : fSortedA st (.ref n) = some (.lst ((L.mergeSort fun a b => decide (a ≤ b)).map .int)) := by
  have : dicOf st (.ref n) = some (false, L.map .int, L.map fun _ => .bl true) := by
    show (match st[n]? with
      | some (SObj.dic t ks vs) => some (t, ks, vs)
      | _ => none) = _
    rw [h]
    rfl
  unfold fSortedA
  rw [this]
  show (if sortOk (L.map .int) = true then _ else _) = _
  rw [if_pos (sortOk_ints hl), mergeSort_ints]
theorem sortI_uniq {L M : List Int} (h1 : L.Nodup) (h2 : M.Nodup) (h : ∀ a, a ∈ L ↔ a ∈ M) : (L.mergeSort fun a b => decide (a ≤ b)) = (M.mergeSort fun a b => decide (a ≤ b)) := by
  have hp : L.Perm M := (List.perm_ext_iff_of_nodup h1 h2).mpr h
  have s1 := sorted_dle (L.map .int)
  have s2 := sorted_dle (M.map .int)
  rw [mergeSort_ints] at s1 s2
  have := sorted_uniq s1 s2 (fun a ha b hb l1 l2 => by
    obtain ⟨x, _, rfl⟩ := List.mem_map.mp ha
    obtain ⟨y, _, rfl⟩ := List.mem_map.mp hb
    rw [dle_int] at l1 l2
    have := of_decide_eq_true l1
    have := of_decide_eq_true l2
    congr 1; omega) (((List.mergeSort_perm _ _).trans (hp.trans (List.mergeSort_perm _ _).symm)).map _)
  exact List.map_inj_right (fun a b e => by injection e) |>.mp this
def intR (a : Int) (n : Nat) : List Int := (List.range n).map fun i => a + (i : Nat)
theorem rangeD_intR (a : Int) (n : Nat) : rangeD a n = (intR a n).map .int := by
  unfold rangeD intR
  rw [List.map_map]; rfl
theorem mem_intR {a b : Int} {n : Nat} : b ∈ intR a n ↔ a ≤ b ∧ b < a + n := by
  unfold intR
  rw [List.mem_map]
  constructor
  · rintro ⟨i, hi, rfl⟩
    have := List.mem_range.mp hi
    omega
  · rintro ⟨h1, h2⟩
    exact ⟨(b - a).toNat, List.mem_range.mpr (by omega), by omega⟩
section
variable {rs : List R} {Q : Qs} {st : Store}
theorem int_loop {e0 e1 e3 e4 e5 : Option D} : ∀ (ns L : List Int) (e6 : Option D), L.length + ns.length ≤ 16000000 →
    (∀ e6 : Option D, Q (.next, [e0, e1, some (.ref st.length), e3, e4, e5, e6], st ++ [setI (addAll L ns)])) →
    Wp (forL yesS (forB (gN 6) (sAsg (dC (D.bl true)) (gSub (dVar 2) (dVar 6)))) (ns.map .int) [e0, e1, some (.ref st.length), e3, e4, e5, e6] (st ++ [setI L])) Q
  | [], L, e6, hl, k => by
    rw [List.map_nil, w_fnil]
    exact ⟨rfl, k e6⟩
  | n :: ns, L, e6, hl, k => by
    rw [List.map_cons, w_fcons]
    refine ⟨rfl, ?_⟩
    have hl' : L.length + (ns.length + 1) ≤ 16000000 := hl
    have sd := set_int (st := st ++ [setI L]) (n := st.length) (L := L) (a := n) (by simp) (by omega)
    simp [-setD_ref]
    refine wp_of sd ?_
    simp
    refine int_loop ns (addL L n) _ ?_ k
    have : (addL L n).length ≤ L.length + 1 := by unfold addL; split <;> simp
    omega
theorem addAll_len {α : Type} [DecidableEq α] : ∀ (as L : List α), (addAll L as).length ≤ L.length + as.length
  | [], L => by simp [addAll]
  | a :: as, L => by
    have h1 := addAll_len as (addL L a)
    have : (addL L a).length ≤ L.length + 1 := by unfold addL; split <;> simp
    unfold addAll at *
    rw [List.foldl_cons, List.length_cons]; omega
theorem Ok.bounds {r : R} (ok : r.Ok) {x : U} (g : r.Good x) : 0 ≤ x.u ∧ x.u ≤ 10 ∧ 0 ≤ x.u + r.still x ∧ 0 ≤ max x.u (r.n - r.l) ∧ max x.u (r.n - r.l) ≤ 10 := by
  have hn : 1 ≤ r.n ∧ r.n ≤ 10 := ⟨by have := ok.pos; unfold R.n; omega, by have := ok.len; unfold R.n; omega⟩
  have hl0 := ok.l0
  have hl1 : r.l ≤ r.n := ok.l1
  have ht := tot_max ok g
  have hmem : ∃ m : Int, 0 ≤ m ∧ x.u + r.still x = x.u + m := by
    unfold R.still
    rcases g with rfl | ⟨h1, h2, h3, h4, h5⟩ | ⟨h1, h2, h3, h4, h5⟩ | ⟨h1, h2, h3, h4, h5, h6⟩
    · exact ⟨_, by simp; omega, rfl⟩
    · refine ⟨_, ?_, rfl⟩
      rw [if_neg (by omega)]
      split
      · split <;> split <;> omega
      · omega
    · refine ⟨_, ?_, rfl⟩
      rw [if_neg (by omega), if_neg (by omega)]; omega
    · refine ⟨_, ?_, rfl⟩
      rw [if_pos h1]; omega
  obtain ⟨m, m0, m1⟩ := hmem
  have hu : 0 ≤ x.u ∧ x.u ≤ 10 := by
    rcases g with rfl | ⟨h1, h2, h3, h4, h5⟩ | ⟨h1, h2, h3, h4, h5⟩ | ⟨h1, h2, h3, h4, h5, h6⟩
    · exact ⟨by simp, by simp⟩
    · omega
    · omega
    · omega
  omega
theorem reach_bounds : ∀ (ps : List (R × U)), (∀ p ∈ ps, p.1.Ok ∧ p.1.Good p.2) → 0 ≤ lowS ps ∧ lowS ps ≤ 10 * ps.length ∧ 0 ≤ highS ps
  | [], _ => by simp [lowS, highS]
  | p :: ps, h => by
    obtain ⟨a, b, c⟩ := reach_bounds ps fun q hq => h q (List.mem_cons_of_mem _ hq)
    obtain ⟨h1, h2⟩ := h p List.mem_cons_self
    obtain ⟨_, _, c1, c2, c3⟩ := Ok.bounds h1 h2
    have e1 : lowS (p :: ps) = max p.2.u (p.1.n - p.1.l) + lowS ps := by simp [lowS]
    have e2 : highS (p :: ps) = p.2.u + p.1.still p.2 + highS ps := by simp [highS]
    rw [e1, e2, List.length_cons]
    omega
/-- the numbers of frames at which a row can end within -/
def totsOf (rs : List R) (lo hi : Int) (xs : List U) : List Int := intR (max (lowS (rs.zip xs)) lo) (min (highS (rs.zip xs)) hi + 1 - max (lowS (rs.zip xs)) lo).toNat
theorem mem_tots {rs : List R} {lo hi : Int} {xs : List U} {t : Int} : t ∈ totsOf rs lo hi xs ↔ lowS (rs.zip xs) ≤ t ∧ t ≤ highS (rs.zip xs) ∧ lo ≤ t ∧ t ≤ hi := by
  unfold totsOf
  rw [mem_intR]
  omega
theorem cl_setI {T : Store} (L : List Int) (h : clS T = true) : clS (T ++ [setI L]) = true := by
  unfold clS at h ⊢
  rw [List.all_append, List.length_append, all_mono (by simp) h]
  simp [setI, bels_map (f := fun _ : Int => D.bl true) (fun _ => rfl)]
theorem tots_loop {g : FD} {lo hi : Int} {e1 : Option D} (hc : clS st = true) (h0 : 0 ≤ lo) (h1 : lo ≤ 16) (h2 : 0 ≤ hi) (h3 : hi ≤ 16) (hok : ∀ r ∈ rs, r.Ok) (h4 : rs.length ≤ 4)
    (hg : ∀ (T : Store) (xs : List U), clS T = true → Fit rs xs → g [stockD rs, rowD xs] T = some (reachD (rs.zip xs), T)) :
    ∀ (rows : List (List U)) (L : List Int) (e3 e4 e5 e6 : Option D), L.length + 20 * rows.length ≤ 16000000 → (∀ xs ∈ rows, Fit rs xs) →
    (∀ e3 e4 e5 e6 : Option D, Q (.next, [some (watchD rs lo hi), e1, some (.ref st.length), e3, e4, e5, e6], st ++ [setI (addAll L (rows.flatMap (totsOf rs lo hi)))])) →
    Wp (forL yesS (forB (gN 3) (sSeq (sAsg (dCallF g (aCons (dOp2 fIx (dVar 0) (dC (D.int 0))) (aCons (dVar 3) aNil))) (gUn 2 (gsCons (gN 4) (gsCons (gN 5) gsNil))))
  (sFor (iRng rng2 (aCons (dCall (pure2 fMax2) (aCons (dVar 4) (aCons (dOp2 fIx (dVar 0) (dC (D.int 1))) aNil))) (aCons (dOp2 fAdd (dCall (pure2 fMin2) (aCons (dVar 5) (aCons (dOp2 fIx (dVar 0) (dC (D.int 2))) aNil))) (dC (D.int 1))) aNil))) (gN 6) (sAsg (dC (D.bl true)) (gSub (dVar 2) (dVar 6)))))) (rows.map rowD) [some (watchD rs lo hi), e1, some (.ref st.length), e3, e4, e5, e6] (st ++ [setI L])) Q
  | [], L, e3, e4, e5, e6, hl, hf, k => by
    rw [List.map_nil, w_fnil]
    exact ⟨rfl, k e3 e4 e5 e6⟩
  | xs :: rows, L, e3, e4, e5, e6, hl, hf, k => by
    rw [List.map_cons, w_fcons]
    refine ⟨rfl, ?_⟩
    have hfx := hf xs List.mem_cons_self
    have hl' : L.length + 20 * (rows.length + 1) ≤ 16000000 := hl
    have ge := hg (st ++ [setI L]) xs (cl_setI L hc) hfx
    obtain ⟨b1, b2, b3⟩ := reach_bounds (rs.zip xs) fun p hp => ⟨hok _ (List.of_mem_zip hp).1, hfx.2 p hp⟩
    have b4 : (rs.zip xs).length ≤ 4 := by rw [List.length_zip]; omega
    have wx0 : ∀ T : Store, fIx T (watchD rs lo hi) (.int 0) = some (stockD rs) := fun _ => rfl
    have wx1 : ∀ T : Store, fIx T (watchD rs lo hi) (.int 1) = some (.int lo) := fun _ => rfl
    have wx2 : ∀ T : Store, fIx T (watchD rs lo hi) (.int 2) = some (.int hi) := fun _ => rfl
    simp [wx0]
    refine wp_of ge ?_
    have htl : (totsOf rs lo hi xs).length ≤ 17 := by
      unfold totsOf intR
      rw [List.length_map, List.length_range]; omega
    have htd : rangeD (max (lowS (rs.zip xs)) lo) (min (highS (rs.zip xs)) hi + 1 - max (lowS (rs.zip xs)) lo).toNat = (totsOf rs lo hi xs).map .int := rangeD_intR _ _
    simp [reachD, wx1, wx2, rng2, htd, small_ok (x := max (lowS (rs.zip xs)) lo) (by omega) (by omega), small_ok (x := min (highS (rs.zip xs)) hi + 1) (by omega) (by omega)]
    refine int_loop (totsOf rs lo hi xs) L _ (by omega) fun e6 => ?_
    simp
    have al := addAll_len (totsOf rs lo hi xs) L
    refine tots_loop hc h0 h1 h2 h3 hok h4 hg rows _ _ _ _ _ (by omega) (fun z hz => hf z (List.mem_cons_of_mem _ hz)) fun e3 e4 e5 e6 => ?_
    have := k e3 e4 e5 e6
    rw [List.flatMap_cons] at this
    unfold addAll at *
    rw [List.foldl_append] at this
    exact this
end
end K82
set_option Elab.async false
set_option linter.all false
set_option maxRecDepth 100000
set_option maxHeartbeats 4000000
namespace K82
open PySem DL
def IsLens (rs : List R) (fs : List (List Nat)) (lo hi : Int) (ns : List Int) : Prop := ∃ M : List Int, M.Nodup ∧ (∀ t, t ∈ M ↔ ∃ xs, Way rs fs xs ∧ t ∈ totsOf rs lo hi xs) ∧ (ns = M.mergeSort fun a b => decide (a ≤ b)) ∧ M.length ≤ 4000000
theorem IsLens.uniq {rs : List R} {fs : List (List Nat)} {lo hi : Int} {ns ms : List Int} (h1 : IsLens rs fs lo hi ns) (h2 : IsLens rs fs lo hi ms) : ns = ms := by
  obtain ⟨M, a, b, rfl, _⟩ := h1
  obtain ⟨N, c, d, rfl, _⟩ := h2
  exact sortI_uniq a c fun t => (b t).trans (d t).symm
theorem layer_last {rs : List R} {fs : List (List Nat)} {Ls : List (List (List U))} (h : LayerOk rs fs Ls) : ∃ Ls0 L, Ls = Ls0 ++ [L] ∧ L.Nodup ∧ ∀ xs, xs ∈ L ↔ Way rs fs xs := by
  have hne : Ls ≠ [] := fun e => by have := h.len; rw [e] at this; simp at this
  refine ⟨Ls.dropLast, Ls.getLast hne, (List.dropLast_concat_getLast hne).symm, ?_⟩
  have hg : Ls[fs.length]? = some (Ls.getLast hne) := by
    rw [List.getLast_eq_getElem, List.getElem?_eq_getElem (by have := h.len; omega)]
    congr 1
    have := h.len
    congr 1; omega
  refine ⟨h.nd _ _ hg, ?_⟩
  have := h.mem _ _ hg
  rwa [List.take_length] at this
theorem stk_big {most : Int} {rs : List R} (h : Stk most rs) : Big rs where
  s := fun r hr => by have := (h.ok r hr).ok.len; omega
  l := fun r hr => (h.ok r hr).ok.l0
  n := by have := h.n4; omega
  p := by have := h.prod; omega
section
variable {rs : List R} {st : Store} {fs : List (List Nat)} {lo hi most : Int}
theorem case_of_eq (hc : clS st = true) : den_case_of [watchD rs lo hi, headD fs] st = some (caseD rs fs, st) := by
  refine wp_eq.mp (wp_frz ?_)
  unfold b_case_of
  have wx0 : fIx st (watchD rs lo hi) (.int 0) = some (stockD rs) := rfl
  simp [wx0]
  have o := out_id (base := st.length) (st := st) (d := caseD rs fs) rfl hc (by simp [caseD, bel_stock, headD, bels_map (f := D.str) (fun _ => rfl)])
  exact wp_of o rfl
theorem lens_mem {L : List (List U)} (hm : ∀ xs, xs ∈ L ↔ Way rs fs xs) (t : Int) : t ∈ addAll [] (L.flatMap (totsOf rs lo hi)) ↔ ∃ xs, Way rs fs xs ∧ t ∈ totsOf rs lo hi xs := by
  rw [mem_addAll, List.mem_flatMap]
  constructor
  · rintro (h | ⟨xs, h1, h2⟩)
    · cases h
    · exact ⟨xs, (hm xs).mp h1, h2⟩
  · rintro ⟨xs, h1, h2⟩
    exact .inr ⟨xs, (hm xs).mpr h1, h2⟩
theorem tots_len (h0 : 0 ≤ lo) (h3 : hi ≤ 16) (xs : List U) : (totsOf rs lo hi xs).length ≤ 17 := by
  unfold totsOf intR
  rw [List.length_map, List.length_range]; omega
theorem flat_le {α β : Type} (f : α → List β) (m : Nat) (h : ∀ a, (f a).length ≤ m) : ∀ l : List α, (l.flatMap f).length ≤ m * l.length
  | [] => by simp
  | a :: l => by
    have := flat_le f m h l
    have h1 := h a
    rw [List.flatMap_cons, List.length_append, List.length_cons, Nat.mul_add, Nat.mul_one]; omega
theorem lengths_eq (hs : Stk most rs) (hf : fs.length ≤ 1000) (h0 : 0 ≤ lo) (h1 : lo ≤ 16) (h2 : 0 ≤ hi) (h3 : hi ≤ 16) (hc : clS st = true) : ∃ ns, IsLens rs fs lo hi ns ∧ den_lengths [watchD rs lo hi, headD fs] st = some (.lst (ns.map .int), st) := by
  have : Wp (den_lengths [watchD rs lo hi, headD fs] st) fun r => ∃ ns, IsLens rs fs lo hi ns ∧ r = (.lst (ns.map .int), st) := by
    refine wp_frz ?_
    unfold b_lengths
    have hc2 := cl_setI (T := st) [] hc
    have ce := case_of_eq (rs := rs) (fs := fs) (lo := lo) (hi := hi) hc2
    obtain ⟨Ls, ok, le⟩ := layers_eq (fs := fs) (stk_big hs) hf hc2
    obtain ⟨Ls0, L, rfl, ln, lm⟩ := layer_last ok
    have hlast : L2.atI (Ls0.map layD ++ [layD L]) (-1) = some (layD L) := at_last _ _
    have hfit : ∀ xs ∈ L, Fit rs xs := fun xs hx => ((lm xs).mp hx).fit
    have hle := rows_le (stk_big hs).l ln hfit
    have hp := hs.prod
    have hwl : walkD (st ++ [setI []]) (layD L) = some (L.map rowD, yesS) := rfl
    have tl := fun Q0 => tots_loop (Q := Q0) (st := st) (rs := rs) (g := den_reach) (lo := lo) (hi := hi) (e1 := some (headD fs)) hc h0 h1 h2 h3 (fun r hr => (hs.ok r hr).ok) hs.n4 (fun T xs hT hx => reach_eq hT hx.1 fun r hr => by have := (hs.ok r hr).ok.len; omega) L [] none none none none (by simp; omega) hfit
    have hdd : (st ++ [SObj.dic false [] []] : Store) = st ++ [setI []] := rfl
    simp
    rw [hdd]
    refine wp_of ce ?_
    simp
    refine wp_of le ?_
    simp
    refine wp_of hlast ?_
    simp
    refine wp_of hwl ?_
    simp
    refine tl _ fun e3 e4 e5 e6 => ?_
    have nd : (addAll ([] : List Int) (L.flatMap (totsOf rs lo hi))).Nodup := nodup_addAll .nil
    have lm2 := lens_mem (lo := lo) (hi := hi) lm
    have l1 := addAll_len (L.flatMap (totsOf rs lo hi)) []
    have l2 := flat_le (totsOf rs lo hi) 17 (fun xs => tots_len h0 h3 xs) L
    simp only [List.length_nil] at l1
    generalize addAll ([] : List Int) (L.flatMap (totsOf rs lo hi)) = M at nd lm2 l1
    have so := sorted_setI (st := st ++ [setI M]) (n := st.length) (L := M) (by simp) (by omega)
    simp
    refine wp_of so ?_
    simp
    exact wp_of (out_new rfl hc (bels_map (fun _ => rfl) _)) ⟨_, ⟨M, nd, lm2, rfl, by omega⟩, rfl⟩
  obtain ⟨r, e, ns, h, rfl⟩ := this
  exact ⟨ns, h, e⟩
theorem law_lengths_eq {L : List (List U)} (hs : Stk most rs) (ln : L.Nodup) (lm : ∀ xs, xs ∈ L ↔ Way rs fs xs) (h0 : 0 ≤ lo) (h1 : lo ≤ 16) (h2 : 0 ≤ hi) (h3 : hi ≤ 16) (hc : clS st = true) : ∃ ns, IsLens rs fs lo hi ns ∧ den_u_law_lengths [watchD rs lo hi, layD L] st = some (.lst (ns.map .int), st) := by
  have : Wp (den_u_law_lengths [watchD rs lo hi, layD L] st) fun r => ∃ ns, IsLens rs fs lo hi ns ∧ r = (.lst (ns.map .int), st) := by
    refine wp_frz ?_
    unfold b_u_law_lengths
    have hfit : ∀ xs ∈ L, Fit rs xs := fun xs hx => ((lm xs).mp hx).fit
    have hle := rows_le (stk_big hs).l ln hfit
    have hp := hs.prod
    have hwl : walkD (st ++ [setI []]) (layD L) = some (L.map rowD, yesS) := rfl
    have tl := fun Q0 => tots_loop (Q := Q0) (st := st) (rs := rs) (g := den_u_law_reach) (lo := lo) (hi := hi) (e1 := some (layD L)) hc h0 h1 h2 h3 (fun r hr => (hs.ok r hr).ok) hs.n4 (fun T xs hT hx => law_reach_eq hT hx.1 (fun p hp => ⟨(hs.ok _ (List.of_mem_zip hp).1).ok, hx.2 p hp⟩) (by have := hs.n4; omega)) L [] none none none none (by simp; omega) hfit
    have hdd : (st ++ [SObj.dic false [] []] : Store) = st ++ [setI []] := rfl
    simp
    rw [hdd]
    refine wp_of hwl ?_
    simp
    refine tl _ fun e3 e4 e5 e6 => ?_
    have nd : (addAll ([] : List Int) (L.flatMap (totsOf rs lo hi))).Nodup := nodup_addAll .nil
    have lm2 := lens_mem (lo := lo) (hi := hi) lm
    have l1 := addAll_len (L.flatMap (totsOf rs lo hi)) []
    have l2 := flat_le (totsOf rs lo hi) 17 (fun xs => tots_len h0 h3 xs) L
    simp only [List.length_nil] at l1
    generalize addAll ([] : List Int) (L.flatMap (totsOf rs lo hi)) = M at nd lm2 l1
    have so := sorted_setI (st := st ++ [setI M]) (n := st.length) (L := M) (by simp) (by omega)
    simp
    refine wp_of so ?_
    simp
    exact wp_of (out_new rfl hc (bels_map (fun _ => rfl) _)) ⟨_, ⟨M, nd, lm2, rfl, by omega⟩, rfl⟩
  obtain ⟨r, e, ns, h, rfl⟩ := this
  exact ⟨ns, h, e⟩
end
end K82
set_option Elab.async false
set_option linter.all false
set_option maxRecDepth 100000
set_option maxHeartbeats 4000000
namespace K82
open PySem DL
/-! ### values of some other kind, values bent -/
structure VOk (w n : Nat) (v : D) : Prop where
  vl : DL.vl M20 v = true
  wt : DL.wt v ≤ w
  dep : DL.dep v ≤ n
def vb (w n : Nat) (v : D) : Bool := DL.vl M20 v && decide (DL.wt v ≤ w) && decide (DL.dep v ≤ n)
theorem vb_ok {w n : Nat} {v : D} (h : vb w n v = true) : VOk w n v := by
  unfold vb at h
  simp only [Bool.and_eq_true, decide_eq_true_eq] at h
  exact ⟨h.1.1, h.1.2, h.2⟩
theorem VOk.mono {w n w' n' : Nat} {v : D} (h : VOk w n v) (h1 : w ≤ w') (h2 : n ≤ n') : VOk w' n' v := ⟨h.vl, Nat.le_trans h.wt h1, Nat.le_trans h.dep h2⟩
def oddL : List D := [.non, .bl true, .bl false, .int 0, .int 1, .int (-1), .int 2, .int 17, .int 100000000000000000000, .str [], .str [63], .str [97], .str [98, 97], .str [65], .tup [], .lst [], .dic false [] [], .tup [.int 0], .tup [.int 0, .int 1], .lst [.int 0],
  .tup [.tup [.int 0, .int 1]], .tup [.int 0, .int 0], .tup [.str [97], .int 0, .bl false], .tup [.tup [.str [97, 98], .int 1, .bl false]], .tup [.tup [.int 0, .int (-1), .int 0]], .tup [.int 1, .int 0, .int 0]]
theorem oddL_ok : ∀ v ∈ oddL, VOk 200 2 v := fun v hv => vb_ok (List.all_eq_true.mp (show (oddL.all (vb 200 2)) = true by decide) v hv)
section
variable {q : Pn} {more : Store} {Q : D × Store → Prop}
theorem odd_wp (ha : q.at' ≤ 900000) (hc : clM more) (k : ∀ (v : D) (q' : Pn), v ∈ oddL → q'.at' ≤ q.at' + 1 → Q (v, penS q' ++ more)) : Wp (den_u_law_odd [.ref 1] (penS q ++ more)) Q := by
  refine wp_frz ?_
  unfold b_u_law_odd
  have g : small64 10 = true := rfl
  simp [g]
  refine one_wp ha hc (by simp) (by simp) (by simp) fun v hv q1 hq1 => ?_
  have hv' : v ∈ oddL := hv
  simp
  exact pen_out hc (by omega) (vl_bel (oddL_ok v hv').vl) (k v q1 hv' hq1)
theorem eq_tup_nil {st : Store} {ds : List D} (hp : pls ds = true) : fEqR st (.tup ds) (.tup []) = some (.bl ds.isEmpty) := by
  have h2 : cmpOk (.tup ds) (.tup []) = true := by
    show (pls ds && true && _) = true
    rw [hp]
    show (true && true && (decide (dep (.tup ds) ≤ 50) || true)) = true
    rw [Bool.or_true]; rfl
  rw [eqR_of (by intro; nofun) (by intro; nofun) h2]
  cases ds <;> rfl
theorem vls_mem {m : Nat} {ds : List D} (h : vls m ds = true) {d : D} (hd : d ∈ ds) : vl m d = true := vls_iff.mp h d hd
theorem tup_ok {es : List D} {w n : Nat} (h1 : ∀ e ∈ es, VOk w n e) (hw : wts es ≤ w) : VOk (w + 3) (n + 1) (.tup es) := by
  refine ⟨?_, ?_, ?_⟩
  · show vls M20 es = true
    exact vls_iff.mpr fun e he => (h1 e he).vl
  · show wts es + 3 ≤ _
    omega
  · show deps es + 1 ≤ _
    have : deps es ≤ n := deps_le.mpr fun e he => (h1 e he).dep
    omega
theorem lst_ok {es : List D} {w n : Nat} (h1 : ∀ e ∈ es, VOk w n e) (hw : wts es ≤ w) : VOk (w + 3) (n + 1) (.lst es) := by
  refine ⟨?_, ?_, ?_⟩
  · show vls M20 es = true
    exact vls_iff.mpr fun e he => (h1 e he).vl
  · show wts es + 3 ≤ _
    omega
  · show deps es + 1 ≤ _
    have : deps es ≤ n := deps_le.mpr fun e he => (h1 e he).dep
    omega
theorem wts_len : ∀ ds : List D, 2 * ds.length ≤ wts ds
  | [] => by simp [wts]
  | d :: ds => by
    have := wts_len ds
    rw [wts, List.length_cons]; omega
theorem wts_set {ds : List D} {k : Nat} (hk : k < ds.length) (e : D) : wts (ds.take k ++ e :: ds.drop (k + 1)) + wt ds[k] = wts ds + wt e := by
  have h1 := wts_take_drop ds k
  have h2 : ds.drop k = ds[k] :: ds.drop (k + 1) := List.drop_eq_getElem_cons hk
  rw [h2, wts] at h1
  rw [wts_append, wts]; omega
theorem bent_wp (hc : clM more) : ∀ (n : Nat) (v : D) (q : Pn) (Q : D × Store → Prop), dep v < n → vl 1000000 v = true → pl v = true → wt v ≤ 1000 → q.at' + 10 * n ≤ 900000 → (∀ (w : D) (q' : Pn), VOk (2 * wt v + 300) (dep v + 3) w → q'.at' ≤ q.at' + 10 * n → Q (w, penS q' ++ more)) → Wp (rec_u_law_bent n [.ref 1, v] (penS q ++ more)) Q
  | 0, v, q, Q, h, _, _, _, _, _ => by omega
  | n + 1, v, q, Q, hd, hv, hp, hw, ha, k => by
    have hvM : vl M20 v = true := vl_mono (by decide) hv
    refine wp_frz ?_
    unfold b_u_law_bent
    have oddK : ∀ (q1 : Pn) (K : D × Store → Prop), q1.at' ≤ q.at' + 5 → (∀ (w : D) (q' : Pn), VOk (2 * wt v + 300) (dep v + 3) w → q'.at' ≤ q.at' + 10 * (n + 1) → K (w, penS q' ++ more)) → Wp (den_u_law_odd [.ref 1] (penS q1 ++ more)) K := fun q1 K h1 h2 =>
      odd_wp (by omega) hc fun w q' hw' hq' => h2 w q' ((oddL_ok w hw').mono (by omega) (by omega)) (by omega)
    have fin : ∀ (w : D) (q' : Pn), VOk (2 * wt v + 300) (dep v + 3) w → q'.at' ≤ q.at' + 10 * (n + 1) → Wp (frzOut (2 + more.length) (w, penS q' ++ more)) Q := fun w q' h1 h2 => pen_out hc (by omega) (vl_bel h1.vl) (k w q' h1 h2)
    cases v with
    | int i =>
      simp [isA]
      refine take_wp (by omega) hc (by omega) (by omega) fun x q1 hx hq1 => ?_
      have hi : i.natAbs ≤ 1000000 := of_decide_eq_true hv
      have hI : ∀ j : Int, j.natAbs ≤ 1000001 → VOk (2 * wt (.int i) + 300) (dep (.int i) + 3) (.int j) := fun j hj => ⟨decide_eq_true (Nat.le_trans hj (by decide)), by simp [wt], by simp [dep]⟩
      have hB : ∀ b : Bool, VOk (2 * wt (.int i) + 300) (dep (.int i) + 3) (.bl b) := fun b => ⟨rfl, by simp [wt], by simp [dep]⟩
      simp
      refine ⟨fun hx0 => ?_, fun hx0 => ?_⟩
      · have oneI : ∀ (b : D) (K : D × Store → Prop), VOk (2 * wt (.int i) + 300) (dep (.int i) + 3) b → (∀ (w : D) (q' : Pn), VOk (2 * wt (.int i) + 300) (dep (.int i) + 3) w → q'.at' ≤ q.at' + 10 * (n + 1) → K (w, penS q' ++ more)) → Wp (den_u_law_one_of [.ref 1, .lst [.int (i + 1), .int (i - 1), b]] (penS q1 ++ more)) K := fun b K hb kk =>
          one_wp (by omega) hc (by simp) (by simp) (by simp [vl_bel hb.vl]) fun w hw q2 hq2 => kk w q2 (by
            simp only [List.mem_cons, List.not_mem_nil, or_false] at hw
            rcases hw with rfl | rfl | rfl
            · exact hI _ (by omega)
            · exact hI _ (by omega)
            · exact hb) (by omega)
        refine ⟨fun h0 => ⟨fun h2 => oneI _ _ (hB _) fun w q' h1 h2 => ?_, fun h2 => oneI _ _ (hI _ (by omega)) fun w q' h1 h2 => ?_⟩, fun h0 => oneI _ _ (hI _ (by omega)) fun w q' h1 h2 => ?_⟩
        all_goals
          simp
          exact fin w q' h1 h2
      · simp [isA]
        refine oddK q1 _ (by omega) fun w q' h1 h2 => ?_
        simp
        exact fin w q' h1 h2
    | tup ds =>
      have hp' : pls ds = true := hp
      have hv' : vls 1000000 ds = true := hv
      have hvM' : vls M20 ds = true := hvM
      have hw' : wts ds + 3 ≤ 1000 := hw
      have hlen := wts_len ds
      have hdd : dep (.tup ds) = deps ds + 1 := rfl
      have hww : wt (.tup ds) = wts ds + 3 := rfl
      simp [isA, eq_tup_nil hp']
      by_cases he : ds = []
      · subst he
        simp
        refine oddK q _ (by omega) fun w q' h1 h2 => ?_
        simp
        exact fin w q' h1 h2
      have he2 : ds.isEmpty = false := by cases ds with | nil => exact absurd rfl he | cons => rfl
      have hpos : 0 < ds.length := by cases ds with | nil => exact absurd rfl he | cons => simp
      have eok : ∀ d ∈ ds, VOk (wts ds) (deps ds) d := fun d hd => ⟨vls_mem hvM' hd, by have := wts_mem hd; omega, deps_le.mp (Nat.le_refl _) d hd⟩
      simp [he2]
      refine take_wp (by omega) hc (by omega) (by omega) fun x q1 hx hq1 => ?_
      simp
      refine ⟨fun hx0 => ?_, fun hx0 => ?_⟩
      · refine oddK q1 _ (by omega) fun w q' h1 h2 => ?_
        simp
        exact fin w q' h1 h2
      refine take_wp (by omega) hc (by omega) (by omega) fun j q2 hj hq2 => ?_
      simp
      refine take_wp (by omega) hc (by omega) (by omega) fun way q3 hway hq3 => ?_
      have hj' : j < ds.length := by omega
      have i1 : L2.atI ds (j : Int) = some ds[j] := at_nat (List.getElem?_eq_getElem hj')
      have c1 : cutL ds none (some (j : Int)) = ds.take j := cut_to ds j
      have c2 : cutL ds (some ((j : Int) + 1)) none = ds.drop (j + 1) := by
        have := cut_from ds (j + 1)
        rwa [show ((j + 1 : Nat) : Int) = (j : Int) + 1 by omega] at this
      have c3 : cutL ds (some (j : Int)) none = ds.drop j := cut_from ds j
      have hmem := List.getElem_mem hj'
      have hej := eok _ hmem
      have htd := wts_take_drop ds j
      have htd2 := wts_take_drop ds (j + 1)
      have hset := wts_set hj'
      simp [c1]
      refine ⟨fun hw8 => ?_, fun hw8 => ?_⟩
      · simp [i1]
        refine bent_wp hc n ds[j] q3 _ (by have := hej.dep; omega) (vls_mem hv' hmem) (pls_mem hp' _ hmem) (by have := hej.wt; omega) (by omega) fun w q4 hwo hq4 => ?_
        simp [c2]
        refine ⟨by omega, by omega, ?_⟩
        have hs1 := hset w
        have hwo' := hwo.wt
        have hmw := wts_mem hmem
        refine fin _ q4 ((tup_ok (w := 2 * wts ds + 300) (n := deps ds + 3) (fun e he => ?_) ?_).mono (by omega) (by omega)) (by omega)
        · rcases List.mem_append.mp he with h | h
          · exact (eok e (List.mem_of_mem_take h)).mono (by omega) (by omega)
          · rcases List.mem_cons.mp h with rfl | h
            · exact hwo.mono (by omega) (by have := hej.dep; omega)
            · exact (eok e (List.mem_of_mem_drop h)).mono (by omega) (by omega)
        · omega
      · have hmul : fMul (penS q3 ++ more) (.tup ds) (.int 2) = some (.tup (ds ++ ds)) := by
          unfold fMul
          simp [show ds.length ≤ 1000 by omega]
        have hlst : fListA (penS q3 ++ more) (.tup ds) = some (.lst ds) := rfl
        simp [c2, i1, c3, hmul, hlst]
        refine ⟨by omega, by omega, by omega, ?_⟩
        have sub : ∀ e ∈ ds, VOk (2 * wts ds) (deps ds) e := fun e he => (eok e he).mono (by omega) (Nat.le_refl _)
        have tk : ∀ es : List D, (∀ e ∈ es, e ∈ ds) → wts es ≤ 2 * wts ds → VOk (2 * wt (.tup ds) + 300) (dep (.tup ds) + 3) (.tup es) := fun es h1 h2 => (tup_ok (fun e he => sub e (h1 e he)) h2).mono (by omega) (by omega)
        have hmw := wts_mem hmem
        have hd2 : wts (ds.drop (j + 1)) + (wt ds[j] + 2) = wts (ds.drop j) := by
          rw [List.drop_eq_getElem_cons hj', wts]; omega
        obtain ⟨y, hy, e⟩ := at_mem (xs := [D.tup (ds.take j ++ ds.drop (j + 1)), .tup (ds.take (j + 1) ++ ds.drop j), .lst ds, .tup ds.reverse, .tup (ds ++ ds)]) (i := (way : Int) - 8) (by omega) (by simp; omega)
        refine wp_of e ?_
        simp
        refine fin y q3 ?_ (by omega)
        simp only [List.mem_cons, List.not_mem_nil, or_false] at hy
        rcases hy with rfl | rfl | rfl | rfl | rfl
        · exact tk _ (fun e he => (List.mem_append.mp he).elim List.mem_of_mem_take List.mem_of_mem_drop) (by rw [wts_append]; omega)
        · exact tk _ (fun e he => (List.mem_append.mp he).elim List.mem_of_mem_take List.mem_of_mem_drop) (by rw [wts_append]; omega)
        · exact (lst_ok sub (by omega)).mono (by omega) (by omega)
        · exact tk _ (fun e he => List.mem_reverse.mp he) (by rw [wts_reverse]; omega)
        · exact tk _ (fun e he => (List.mem_append.mp he).elim id id) (by rw [wts_append]; omega)
    | non =>
      simp [isA]
      refine oddK q _ (by omega) fun w q' h1 h2 => ?_
      simp
      exact fin w q' h1 h2
    | bl b =>
      simp [isA]
      refine oddK q _ (by omega) fun w q' h1 h2 => ?_
      simp
      exact fin w q' h1 h2
    | str x =>
      simp [isA]
      refine oddK q _ (by omega) fun w q' h1 h2 => ?_
      simp
      exact fin w q' h1 h2
    | lst ds =>
      simp [isA]
      refine oddK q _ (by omega) fun w q' h1 h2 => ?_
      simp
      exact fin w q' h1 h2
    | dic t ks vs => cases hp
    | ref _ => cases hp
    | scr _ => cases hp
end
end K82
set_option Elab.async false
set_option linter.all false
set_option maxRecDepth 100000
set_option maxHeartbeats 4000000
namespace K82
open PySem DL
/-! ### values near a watch -/
def reelsD (rs : List R) : D := stockD rs
def edgesL : List D := [[⟨[97, 98, 99, 100, 101, 102, 103], 6, false⟩, ⟨[97], 0, false⟩], [⟨[97, 98, 99, 100, 101, 102, 103, 104, 105], 0, false⟩, ⟨[97, 97, 97, 97, 97, 97, 97, 97, 97], 0, false⟩],
  [⟨[97, 98, 99, 100, 101], 4, true⟩, ⟨[97], 0, false⟩], [⟨[97, 98, 99, 100, 101, 102, 103, 104, 105, 106], 9, false⟩], [⟨[97, 98, 99, 100, 101, 102, 103, 104, 105, 106], 8, false⟩],
  [⟨[97], 1, false⟩, ⟨[97], 1, false⟩, ⟨[97], 1, false⟩, ⟨[97], 1, false⟩], [⟨[97], 0, false⟩, ⟨[97], 0, false⟩, ⟨[97], 0, false⟩, ⟨[97], 0, false⟩, ⟨[97], 0, false⟩], [⟨[97, 98, 99, 100, 101, 102, 103, 104, 105, 106, 107], 0, false⟩], [⟨[], 0, false⟩], [],
  [⟨[97, 98, 99, 100], 4, false⟩, ⟨[97, 98, 99], 0, false⟩], [⟨[97, 98, 99, 100], 4, false⟩, ⟨[97, 98, 99, 100], 0, false⟩], [⟨[98], 2, true⟩]].map stockD
theorem edgesL_ok : ∀ v ∈ edgesL, VOk 700 2 v := fun v hv => vb_ok (List.all_eq_true.mp (show (edgesL.all (vb 700 2)) = true by decide) v hv)
section
variable {q : Pn} {more : Store} {Q : D × Store → Prop} {st : Store}
theorem edges_eq (hc : clS st = true) : den_u_law_edges [] st = some (.lst edgesL, st) := by
  refine wp_eq.mp (wp_frz ?_)
  unfold b_u_law_edges
  have m4 : ∀ d : D, fMul st (.tup [d]) (.int 4) = some (.tup [d, d, d, d]) := fun _ => rfl
  have m5 : ∀ d : D, fMul st (.tup [d]) (.int 5) = some (.tup [d, d, d, d, d]) := fun _ => rfl
  simp [m4, m5]
  exact wp_of (out_id rfl hc (vls_bel (m := M20) (by decide))) rfl
end
/-- a watch is a value -/
theorem R.vok (r : R) (h : r.Ok) : VOk 200 1 r.d := by
  refine ⟨?_, ?_, ?_⟩
  · have h1 := h.len
    have h2 := h.cs
    have h3 := h.l0
    have h4 := h.l1
    show (decide (r.s.length ≤ 1000) && (r.s.all fun c => decide (c < 1000)) && (decide (r.l.natAbs ≤ M20) && (true && true))) = true
    rw [decide_eq_true (show r.s.length ≤ 1000 by omega), decide_eq_true (show r.l.natAbs ≤ M20 from Nat.le_trans (show r.l.natAbs ≤ 10 by omega) (by decide))]
    have : (r.s.all fun c => decide (c < 1000)) = true := List.all_eq_true.mpr fun c hc => decide_eq_true (h2 c hc)
    rw [this]; rfl
  · have h1 := h.len
    simp [R.d, DL.wt, wts]; omega
  · simp [R.d, DL.dep, deps]
theorem R.vl6 (r : R) (h : r.Ok) : DL.vl 1000000 r.d = true := by
  have h1 := h.len
  have h2 := h.cs
  have h3 := h.l0
  have h4 := h.l1
  show (decide (r.s.length ≤ 1000) && (r.s.all fun c => decide (c < 1000)) && (decide (r.l.natAbs ≤ 1000000) && (true && true))) = true
  rw [decide_eq_true (show r.s.length ≤ 1000 by omega), decide_eq_true (show r.l.natAbs ≤ 1000000 by omega)]
  have : (r.s.all fun c => decide (c < 1000)) = true := List.all_eq_true.mpr fun c hc => decide_eq_true (h2 c hc)
  rw [this]; rfl
theorem wts_stock : ∀ rs : List R, (∀ r ∈ rs, r.Ok) → wts (rs.map R.d) ≤ 202 * rs.length
  | [], _ => by simp [wts]
  | r :: rs, h => by
    have := wts_stock rs fun z hz => h z (List.mem_cons_of_mem _ hz)
    have h1 := (R.vok r (h r List.mem_cons_self)).wt
    rw [List.map_cons, wts, List.length_cons]; omega
theorem stock_vok {rs : List R} (h : Stock rs) : VOk 811 2 (stockD rs) := by
  have h1 := wts_stock rs h.1
  have h4 := h.2.2
  refine (tup_ok (w := 808) (n := 1) (fun e he => ?_) (by omega)).mono (Nat.le_refl _) (Nat.le_refl _)
  obtain ⟨r, hr, rfl⟩ := List.mem_map.mp he
  exact (R.vok r (h.1 r hr)).mono (by omega) (Nat.le_refl _)
theorem stock_vl6 {rs : List R} (h : Stock rs) : DL.vl 1000000 (stockD rs) = true := by
  show vls 1000000 (rs.map R.d) = true
  exact vls_iff.mpr fun d hd => by
    obtain ⟨r, hr, rfl⟩ := List.mem_map.mp hd
    exact R.vl6 r (h.1 r hr)
theorem int_vok {i : Int} {w n : Nat} (h : i.natAbs ≤ 1000000) (hw : 30 ≤ w) : VOk w n (.int i) := ⟨decide_eq_true (Nat.le_trans h (by decide)), hw, Nat.zero_le _⟩
theorem bl_vok {b : Bool} {w n : Nat} (hw : 30 ≤ w) : VOk w n (.bl b) := ⟨rfl, hw, Nat.zero_le _⟩
theorem non_vok {w n : Nat} (hw : 30 ≤ w) : VOk w n .non := ⟨rfl, hw, Nat.zero_le _⟩
theorem str_vok {x : List Nat} {w n : Nat} (hx : ∀ c ∈ x, c < 1000) (hl : x.length ≤ 100) (hw : 10 * x.length + 2 ≤ w) : VOk w n (.str x) := by
  refine ⟨?_, hw, Nat.zero_le _⟩
  show (decide (x.length ≤ 1000) && (x.all fun c => decide (c < 1000))) = true
  rw [decide_eq_true (show x.length ≤ 1000 by omega), List.all_eq_true.mpr fun c hc => decide_eq_true (hx c hc)]
  rfl
theorem watch_vok {rs : List R} {lo hi : Int} (h : Stock rs) (h1 : 0 ≤ lo) (h2 : lo ≤ hi) (h3 : hi ≤ 16) : VOk 900 3 (watchD rs lo hi) := by
  have hs := stock_vok h
  refine (tup_ok (w := 890) (n := 2) (fun e he => ?_) ?_).mono (by omega) (Nat.le_refl _)
  · simp only [List.mem_cons, List.not_mem_nil, or_false] at he
    rcases he with rfl | rfl | rfl
    · exact hs.mono (by omega) (Nat.le_refl _)
    · exact int_vok (by omega) (by omega)
    · exact int_vok (by omega) (by omega)
  · have := hs.wt
    simp [wts, DL.wt] at this ⊢; omega
theorem watch_vl6 {rs : List R} {lo hi : Int} (h : Stock rs) (h1 : 0 ≤ lo) (h2 : lo ≤ hi) (h3 : hi ≤ 16) : DL.vl 1000000 (watchD rs lo hi) = true := by
  have := stock_vl6 h
  show (DL.vl 1000000 (stockD rs) && (decide (lo.natAbs ≤ 1000000) && (decide (hi.natAbs ≤ 1000000) && true))) = true
  rw [this, decide_eq_true (show lo.natAbs ≤ 1000000 by omega), decide_eq_true (show hi.natAbs ≤ 1000000 by omega)]; rfl
theorem watch_pl {rs : List R} {lo hi : Int} : pl (watchD rs lo hi) = true := by
  show (pls (rs.map R.d) && (true && (true && true))) = true
  rw [pls_map (f := R.d) (fun _ => rfl)]; rfl
section
variable {q : Pn} {more : Store} {Q : D × Store → Prop}
def nearL (r : R) : List D := [.tup [.str r.s, .int r.s.length, .bl r.t], .tup [.str r.s, .int (r.s.length + 1), .bl r.t], .tup [.str r.s, .int (-1), .bl r.t], .tup [.str r.s, .int r.l, .bl !r.t],
  .tup [.str r.s, .int r.l, .int (if r.t = true then 1 else 0)], .tup [.str r.s, .bl (decide (r.l = 1)), .bl r.t], .tup [.str (r.s ++ [97]), .int r.l, .bl r.t], .tup [.str r.s, .int r.l], .tup [.str (r.s ++ [65]), .int r.l, .bl r.t],
  .tup [.lst (r.s.map sg), .int r.l, .bl r.t], .lst [.str r.s, .int r.l, .bl r.t], .tup [.str r.s, .non, .bl r.t], .tup [.str r.s.tail, .int r.l, .bl r.t], .tup [.str (r.s ++ [63]), .int r.l, .bl r.t], .tup [.str r.s, .int r.l, .bl r.t, .int 0]]
theorem wts_sg : ∀ cs : List Nat, wts (cs.map sg) = 14 * cs.length
  | [] => rfl
  | c :: cs => by
    rw [List.map_cons, wts, wts_sg cs, List.length_cons]
    simp [sg, DL.wt]; omega
theorem nearL_ok {r : R} (rok : r.Ok) : ∀ x ∈ nearL r, VOk 300 3 x := fun x hx => by
  have h1 := rok.len
  have h2 := rok.l0
  have h3 := rok.l1
  have hs : ∀ n, VOk 130 n (.str r.s) := fun n => str_vok rok.cs (by omega) (by omega)
  have hsa : ∀ (c n : Nat), c < 1000 → VOk 130 n (.str (r.s ++ [c])) := fun c n hc => str_vok (fun z hz => by
    rcases List.mem_append.mp hz with h | h
    · exact rok.cs z h
    · rw [List.mem_singleton.mp h]; exact hc) (by simp; omega) (by simp; omega)
  have hi : ∀ (i : Int) (n : Nat), i.natAbs ≤ 1000 → VOk 130 n (.int i) := fun i n h => int_vok (by omega) (by omega)
  have hb : ∀ (b : Bool) (n : Nat), VOk 130 n (.bl b) := fun b n => bl_vok (by omega)
  have hn : ∀ n, VOk 130 n .non := fun n => non_vok (by omega)
  have hg : VOk 180 1 (.lst (r.s.map sg)) := by
    refine (lst_ok (w := 140) (n := 0) (fun e he => ?_) (by rw [wts_sg]; omega)).mono (by omega) (by omega)
    obtain ⟨c, hc, rfl⟩ := List.mem_map.mp he
    exact str_vok (fun z hz => by rw [List.mem_singleton.mp hz]; exact rok.cs c hc) (by simp) (by simp)
  have t3 : ∀ a b c : D, VOk 180 1 a → VOk 130 1 b → VOk 130 1 c → wt a + wt b + wt c ≤ 280 → VOk 300 3 (.tup [a, b, c]) := fun a b c ha hb hc hw => by
    refine (tup_ok (w := 290) (n := 1) (fun e he => ?_) (by simp [wts]; omega)).mono (by omega) (by omega)
    simp only [List.mem_cons, List.not_mem_nil, or_false] at he
    rcases he with rfl | rfl | rfl
    · exact ha.mono (by omega) (Nat.le_refl _)
    · exact hb.mono (by omega) (Nat.le_refl _)
    · exact hc.mono (by omega) (Nat.le_refl _)
  have ws : wt (.str r.s) = 10 * r.s.length + 2 := rfl
  have wg : wt (.lst (r.s.map sg)) = 14 * r.s.length + 3 := by
    show wts (r.s.map sg) + 3 = _
    rw [wts_sg]
  have wa : ∀ c : Nat, wt (.str (r.s ++ [c])) = 10 * r.s.length + 12 := fun c => by simp [DL.wt]; omega
  have wi : ∀ i : Int, wt (.int i) = 30 := fun _ => rfl
  have wb : ∀ b : Bool, wt (.bl b) = 30 := fun _ => rfl
  have wn : wt .non = 30 := rfl
  unfold nearL at hx
  simp only [List.mem_cons, List.not_mem_nil, or_false] at hx
  rcases hx with rfl | rfl | rfl | rfl | rfl | rfl | rfl | rfl | rfl | rfl | rfl | rfl | rfl | rfl | rfl
  · exact t3 _ _ _ ((hs 1).mono (by omega) (by omega)) (hi _ 1 (by omega)) (hb _ 1) (by rw [ws, wi, wb]; omega)
  · exact t3 _ _ _ ((hs 1).mono (by omega) (by omega)) (hi _ 1 (by omega)) (hb _ 1) (by rw [ws, wi, wb]; omega)
  · exact t3 _ _ _ ((hs 1).mono (by omega) (by omega)) (hi _ 1 (by omega)) (hb _ 1) (by rw [ws, wi, wb]; omega)
  · exact t3 _ _ _ ((hs 1).mono (by omega) (by omega)) (hi _ 1 (by omega)) (hb _ 1) (by rw [ws, wi, wb]; omega)
  · exact t3 _ _ _ ((hs 1).mono (by omega) (by omega)) (hi _ 1 (by omega)) (hi _ 1 (by split <;> decide)) (by rw [ws, wi, wi]; omega)
  · exact t3 _ _ _ ((hs 1).mono (by omega) (by omega)) (hb _ 1) (hb _ 1) (by rw [ws, wb, wb]; omega)
  · exact t3 _ _ _ ((hsa _ 1 (by omega)).mono (by omega) (by omega)) (hi _ 1 (by omega)) (hb _ 1) (by rw [wa, wi, wb]; omega)
  · refine (tup_ok (w := 290) (n := 1) (fun e he => ?_) (by simp [wts, ws, wi]; omega)).mono (by omega) (by omega)
    simp only [List.mem_cons, List.not_mem_nil, or_false] at he
    rcases he with rfl | rfl
    · exact (hs 1).mono (by omega) (by omega)
    · exact (hi _ 1 (by omega)).mono (by omega) (by omega)
  · exact t3 _ _ _ ((hsa _ 1 (by omega)).mono (by omega) (by omega)) (hi _ 1 (by omega)) (hb _ 1) (by rw [wa, wi, wb]; omega)
  · exact t3 _ _ _ hg (hi _ 1 (by omega)) (hb _ 1) (by rw [wg, wi, wb]; omega)
  · refine (lst_ok (w := 290) (n := 1) (fun e he => ?_) (by simp [wts, ws, wi, wb]; omega)).mono (by omega) (by omega)
    simp only [List.mem_cons, List.not_mem_nil, or_false] at he
    rcases he with rfl | rfl | rfl
    · exact (hs 1).mono (by omega) (by omega)
    · exact (hi _ 1 (by omega)).mono (by omega) (by omega)
    · exact (hb _ 1).mono (by omega) (by omega)
  · exact t3 _ _ _ ((hs 1).mono (by omega) (by omega)) (hn 1) (hb _ 1) (by rw [ws, wn, wb]; omega)
  · refine t3 _ _ _ (str_vok (fun c hc => rok.cs c (List.mem_of_mem_tail hc)) (by simp; omega) (by simp; omega)) (hi _ 1 (by omega)) (hb _ 1) (by simp [DL.wt]; omega)
  · exact t3 _ _ _ ((hsa _ 1 (by omega)).mono (by omega) (by omega)) (hi _ 1 (by omega)) (hb _ 1) (by rw [wa, wi, wb]; omega)
  · refine (tup_ok (w := 290) (n := 1) (fun e he => ?_) (by simp [wts, ws, wi, wb]; omega)).mono (by omega) (by omega)
    simp only [List.mem_cons, List.not_mem_nil, or_false] at he
    rcases he with rfl | rfl | rfl | rfl
    · exact (hs 1).mono (by omega) (by omega)
    · exact (hi _ 1 (by omega)).mono (by omega) (by omega)
    · exact (hb _ 1).mono (by omega) (by omega)
    · exact (hi _ 1 (by omega)).mono (by omega) (by omega)
theorem near_wp {rs : List R} {lo hi : Int} (hs : Stock rs) (h1 : 0 ≤ lo) (h2 : lo ≤ hi) (h3 : hi ≤ 16) (ha : q.at' ≤ 800000) (hc : clM more) (k : ∀ (v : D) (q' : Pn), VOk 4000 6 v → q'.at' ≤ q.at' + 100 → Q (v, penS q' ++ more)) : Wp (den_u_law_near [.ref 1, watchD rs lo hi] (penS q ++ more)) Q := by
  refine wp_frz ?_
  unfold b_u_law_near
  have wx0 : ∀ T : Store, fIx T (watchD rs lo hi) (.int 0) = some (stockD rs) := fun _ => rfl
  have wx1 : ∀ T : Store, fIx T (watchD rs lo hi) (.int 1) = some (.int lo) := fun _ => rfl
  have wx2 : ∀ T : Store, fIx T (watchD rs lo hi) (.int 2) = some (.int hi) := fun _ => rfl
  have ls : ∀ T : Store, fLen T (stockD rs) = some (.int rs.length) := fun T => by simp [stockD]
  obtain ⟨ok, n1, n4⟩ := id hs
  simp
  refine take_wp (by omega) hc (by omega) (by omega) fun way q1 hw hq1 => ?_
  simp [wx0, ls]
  refine take_wp (by omega) hc (by omega) (by omega) fun kk q2 hk hq2 => ?_
  have hkl : kk < rs.length := by omega
  have i1 : L2.atI (rs.map R.d) (kk : Int) = some (rs[kk]).d := at_nat (by rw [List.getElem?_map, List.getElem?_eq_getElem hkl]; rfl)
  have rok := ok _ (List.getElem_mem hkl)
  generalize hr : rs[kk] = r at i1 rok
  have sr : ∀ T : Store, seqOf T r.d = some [.str r.s, .int r.l, .bl r.t] := fun _ => rfl
  have fin : ∀ (v : D) (q' : Pn), VOk 4000 6 v → q'.at' ≤ q2.at' + 90 → Wp (frzOut (2 + more.length) (v, penS q' ++ more)) Q := fun v q' a b => pen_out hc (by omega) (vl_bel a.vl) (k v q' a (by omega))
  have sv := stock_vok hs
  simp [wx0, i1, sr]
  by_cases w0 : way = 0
  · subst w0
    simp
    refine wp_of (edges_eq (pen_cl hc)) ?_
    simp
    refine one_wp (by omega) hc (by decide) (by decide) (vls_bel (m := M20) (by decide)) fun v hv q3 hq3 => ?_
    simp
    have := edgesL_ok v hv
    refine fin _ q3 ((tup_ok (w := 900) (n := 2) (fun e he => ?_) ?_).mono (by omega) (by omega)) (by omega)
    · simp only [List.mem_cons, List.not_mem_nil, or_false] at he
      rcases he with rfl | rfl | rfl
      · exact this.mono (by omega) (by omega)
      · exact int_vok (by omega) (by omega)
      · exact int_vok (by omega) (by omega)
    · have := this.wt
      simp [wts, DL.wt]; omega
  by_cases w1 : way = 1
  · subst w1
    simp
    have hL : ∀ x ∈ [D.tup [.int 0, .int 0], .tup [.int 16, .int 16], .tup [.int 0, .int 17], .tup [.int (-1), .int 16], .tup [.int 17, .int 17], .tup [.int 5, .int 4], .tup [.int 4, .int 5], .tup [.bl true, .int 16], .tup [.int 0, .bl true], .tup [.int 1, .int 1], .tup [.non, .int 3]], ∃ a b, x = .tup [a, b] ∧ VOk 30 0 a ∧ VOk 30 0 b := fun x hx => by
      simp only [List.mem_cons, List.not_mem_nil, or_false] at hx
      rcases hx with rfl | rfl | rfl | rfl | rfl | rfl | rfl | rfl | rfl | rfl | rfl <;> exact ⟨_, _, rfl, vb_ok (by decide), vb_ok (by decide)⟩
    refine one_wp (by omega) hc (by simp) (by simp) (by simp) fun x hx q3 hq3 => ?_
    obtain ⟨a, b, rfl, va, vb'⟩ := hL x hx
    simp [wx0]
    refine fin _ q3 ((tup_ok (w := 900) (n := 2) (fun e he => ?_) ?_).mono (by omega) (by omega)) (by omega)
    · simp only [List.mem_cons, List.not_mem_nil, or_false] at he
      rcases he with rfl | rfl | rfl
      · exact sv.mono (by omega) (by omega)
      · exact va.mono (by omega) (by omega)
      · exact vb'.mono (by omega) (by omega)
    · have := sv.wt
      have := va.wt
      have := vb'.wt
      simp [wts]; omega
  by_cases w2 : way = 2
  · subst w2
    have hsl : r.s.length ≤ 16777216 := by have := rok.len; omega
    have hls : ∀ T : Store, fListA T (.str r.s) = some (.lst (r.s.map sg)) := fun T => by
      show (allOf T (.str r.s)).map D.lst = _
      show (if r.s.length ≤ 16777216 then some (strItems r.s) else none).map D.lst = _
      rw [if_pos hsl]; rfl
    have hl2 : ∀ T : Store, fListA T (.str [65, 63, 123, 49, 32, 95, 90]) = some (.lst ([65, 63, 123, 49, 32, 95, 90].map sg)) := fun T => rfl
    have c1 : cutL r.s (some 1) none = r.s.drop 1 := cut_from r.s 1
    have hlen := rok.len
    have hpos := rok.pos
    simp [hsl, hls, c1]
    refine ⟨by omega, ?_⟩
    refine take_wp (by omega) hc (by omega) (by omega) fun j q3 hj hq3 => ?_
    simp
    refine wp_of (hl2 _) ?_
    have c2 : cutL r.s none (some (j : Int)) = r.s.take j := cut_to r.s j
    have c3 : cutL r.s (some ((j : Int) + 1)) none = r.s.drop (j + 1) := by
      have := cut_from r.s (j + 1)
      rwa [show ((j + 1 : Nat) : Int) = (j : Int) + 1 by omega] at this
    have hS : ∀ (T : Store), compL yesS (gN 11) tYesD (dTup (aCons (dOp2 fAdd (dOp2 fAdd (dSl (dVar 4) pNone (pSome (dVar 10))) (dVar 11)) (dSl (dVar 4) (pSome (dOp2 fAdd (dVar 10) (dC (D.int 1)))) pNone)) (aCons (dVar 5) (aCons (dVar 6) aNil))))
        [some (.ref 1), some (watchD rs lo hi), some (.int 2), some (.int kk), some (.str r.s), some (.int r.l), some (.bl r.t), some (.lst (nearL r)), none, none, some (.int j), none] ([65, 63, 123, 49, 32, 95, 90].map sg) T = some ([65, 63, 123, 49, 32, 95, 90].map fun c => .tup [.str (r.s.take j ++ (c :: r.s.drop (j + 1))), .int r.l, .bl r.t], T) := fun T =>
      compL_over rfl _ _ _ fun c hcm => ⟨_, rfl, by
        refine wp_eq.mp ?_
        simp [hsl, c2, c3, sg]
        omega⟩
    have near_ok : ∀ x ∈ nearL r ++ [65, 63, 123, 49, 32, 95, 90].map (fun c => D.tup [.str (r.s.take j ++ (c :: r.s.drop (j + 1))), .int r.l, .bl r.t]), VOk 300 3 x := fun x hx => by
      rcases List.mem_append.mp hx with h | h
      · exact nearL_ok rok x h
      · obtain ⟨c, hcm, rfl⟩ := List.mem_map.mp h
        have hc1 : ∀ c ∈ [65, 63, 123, 49, 32, 95, 90], c < 1000 := by decide
        refine (tup_ok (w := 250) (n := 0) (fun e he => ?_) ?_).mono (by omega) (by omega)
        · simp only [List.mem_cons, List.not_mem_nil, or_false] at he
          rcases he with rfl | rfl | rfl
          · refine str_vok (fun z hz => ?_) (by simp; omega) (by simp; omega)
            rcases List.mem_append.mp hz with h | h
            · exact rok.cs z (List.mem_of_mem_take h)
            · rcases List.mem_cons.mp h with rfl | h
              · exact hc1 _ hcm
              · exact rok.cs z (List.mem_of_mem_drop h)
          · exact int_vok (by have := rok.l0; have := rok.l1; omega) (by omega)
          · exact bl_vok (by omega)
        · simp [wts, DL.wt]; omega
    have hnl : D.lst (nearL r) = .lst (nearL r) := rfl
    unfold nearL at hS near_ok
    simp [-List.map_cons, -List.map_nil] at hS ⊢
    refine wp_of (hS _) ?_
    have near_b : bels (more.length + 2) (nearL r ++ [65, 63, 123, 49, 32, 95, 90].map (fun c => D.tup [.str (r.s.take j ++ (c :: r.s.drop (j + 1))), .int r.l, .bl r.t])) = true := bels_of fun d hd => vl_bel (near_ok d hd).vl
    have sls : ∀ (T : Store) (l h : Option Int), fSl T (stockD rs) l h = some (.tup (cutL (rs.map R.d) l h)) := fun _ _ _ => rfl
    have c4 : cutL (rs.map R.d) none (some (kk : Int)) = (rs.map R.d).take kk := cut_to _ kk
    have c5 : cutL (rs.map R.d) (some ((kk : Int) + 1)) none = (rs.map R.d).drop (kk + 1) := by
      have := cut_from (rs.map R.d) (kk + 1)
      rwa [show ((kk + 1 : Nat) : Int) = (kk : Int) + 1 by omega] at this
    simp [wx0, sls, c4]
    refine one_wp (xs := nearL r ++ [65, 63, 123, 49, 32, 95, 90].map (fun c => D.tup [.str (r.s.take j ++ (c :: r.s.drop (j + 1))), .int r.l, .bl r.t])) (by omega) hc (by simp [nearL]) (by simp [nearL]) near_b fun x hx q4 hq4 => ?_
    have xok := near_ok x hx
    simp [wx0, wx1, wx2, sls, c5]
    refine ⟨by omega, by omega, ?_⟩
    have hkl2 : kk < (rs.map R.d).length := by rw [List.length_map]; exact hkl
    have hset := wts_set hkl2 x
    have hws := wts_stock rs ok
    have hxw := xok.wt
    refine fin _ q4 ((tup_ok (w := 1300) (n := 4) (fun e he => ?_) ?_).mono (by omega) (by omega)) (by omega)
    · simp only [List.mem_cons, List.not_mem_nil, or_false] at he
      rcases he with rfl | rfl | rfl
      · refine (tup_ok (w := 1200) (n := 3) (fun e he => ?_) (by omega)).mono (by omega) (by omega)
        have reel_ok : ∀ e ∈ rs.map R.d, VOk 1200 3 e := fun e he => by
          obtain ⟨z, hz, rfl⟩ := List.mem_map.mp he
          exact (R.vok z (ok z hz)).mono (by omega) (by omega)
        rcases List.mem_append.mp he with h | h
        · exact reel_ok e (List.mem_of_mem_take h)
        · rcases List.mem_cons.mp h with rfl | h
          · exact xok.mono (by omega) (by omega)
          · exact reel_ok e (List.mem_of_mem_drop h)
      · exact int_vok (by omega) (by omega)
      · exact int_vok (by omega) (by omega)
    · simp [wts, DL.wt] at hset ⊢; omega
  by_cases w3 : way = 3
  · subst w3
    simp
    have f1 : ∀ T : Store, fListA T (watchD rs lo hi) = some (.lst [stockD rs, .int lo, .int hi]) := fun _ => rfl
    have f2 : ∀ T : Store, fSl T (watchD rs lo hi) none (some 2) = some (.tup [stockD rs, .int lo]) := fun _ => rfl
    have f3 : ∀ T : Store, fAdd T (watchD rs lo hi) (.tup [.int 0]) = some (.tup [stockD rs, .int lo, .int hi, .int 0]) := fun _ => rfl
    have f4 : ∀ T : Store, fListA T (stockD rs) = some (.lst (rs.map R.d)) := fun _ => rfl
    have f5 : ∀ T : Store, fRevS T (watchD rs lo hi) = some (.tup [.int hi, .int lo, stockD rs]) := fun _ => rfl
    simp [f1, f2, f3, f4, f5, wx0]
    have hws := wts_stock rs ok
    have sv9 : ∀ n, 2 ≤ n → VOk 1000 n (stockD rs) := fun n hn => sv.mono (by omega) hn
    have iv : ∀ (i : Int) (n : Nat), i.natAbs ≤ 1000 → VOk 1000 n (.int i) := fun i n h => int_vok (by omega) (by omega)
    have wst := sv.wt
    have wi : ∀ i : Int, wt (.int i) = 30 := fun _ => rfl
    have all : ∀ x ∈ [D.lst [stockD rs, .int lo, .int hi], .tup [stockD rs, .int lo], .tup [stockD rs, .int lo, .int hi, .int 0], .tup [.lst (rs.map R.d), .int 0, .int 16], stockD rs, .tup [.int hi, .int lo, stockD rs]], VOk 4000 6 x := fun x hx => by
      simp only [List.mem_cons, List.not_mem_nil, or_false] at hx
      rcases hx with rfl | rfl | rfl | rfl | rfl | rfl
      · refine (lst_ok (w := 1000) (n := 2) (fun e he => ?_) (by simp [wts, wi]; omega)).mono (by omega) (by omega)
        simp only [List.mem_cons, List.not_mem_nil, or_false] at he
        rcases he with rfl | rfl | rfl
        · exact sv9 2 (by omega)
        · exact iv _ 2 (by omega)
        · exact iv _ 2 (by omega)
      · refine (tup_ok (w := 1000) (n := 2) (fun e he => ?_) (by simp [wts, wi]; omega)).mono (by omega) (by omega)
        simp only [List.mem_cons, List.not_mem_nil, or_false] at he
        rcases he with rfl | rfl
        · exact sv9 2 (by omega)
        · exact iv _ 2 (by omega)
      · refine (tup_ok (w := 1000) (n := 2) (fun e he => ?_) (by simp [wts, wi]; omega)).mono (by omega) (by omega)
        simp only [List.mem_cons, List.not_mem_nil, or_false] at he
        rcases he with rfl | rfl | rfl | rfl
        · exact sv9 2 (by omega)
        · exact iv _ 2 (by omega)
        · exact iv _ 2 (by omega)
        · exact iv _ 2 (by omega)
      · have hl : VOk 1000 2 (.lst (rs.map R.d)) := by
          refine (lst_ok (w := 900) (n := 1) (fun e he => ?_) (by omega)).mono (by omega) (by omega)
          obtain ⟨z, hz, rfl⟩ := List.mem_map.mp he
          exact (R.vok z (ok z hz)).mono (by omega) (by omega)
        have hlw : wt (.lst (rs.map R.d)) = wts (rs.map R.d) + 3 := rfl
        refine (tup_ok (w := 1000) (n := 2) (fun e he => ?_) (by simp [wts, wi, hlw]; omega)).mono (by omega) (by omega)
        simp only [List.mem_cons, List.not_mem_nil, or_false] at he
        rcases he with rfl | rfl | rfl
        · exact hl
        · exact iv _ 2 (by omega)
        · exact iv _ 2 (by omega)
      · exact sv.mono (by omega) (by omega)
      · refine (tup_ok (w := 1000) (n := 2) (fun e he => ?_) (by simp [wts, wi]; omega)).mono (by omega) (by omega)
        simp only [List.mem_cons, List.not_mem_nil, or_false] at he
        rcases he with rfl | rfl | rfl
        · exact iv _ 2 (by omega)
        · exact iv _ 2 (by omega)
        · exact sv9 2 (by omega)
    refine one_wp (by omega) hc (by simp) (by simp) (bels_of fun d hd => vl_bel (all d hd).vl) fun x hx q3 hq3 => ?_
    simp
    exact fin x q3 (all x hx) (by omega)
  have wv := watch_vok (lo := lo) (hi := hi) hs h1 h2 h3
  by_cases w4 : way = 4
  · subst w4
    simp
    refine bent_wp hc 8 (watchD rs lo hi) q2 _ (by have := wv.dep; omega) (watch_vl6 hs h1 h2 h3) watch_pl (by have := wv.wt; omega) (by omega) fun w q3 hw hq3 => ?_
    simp
    exact fin w q3 (hw.mono (by have := wv.wt; omega) (by have := wv.dep; omega)) (by omega)
  · simp [w0, w1, show ¬ (way : Int) = 1 by omega, show ¬ (way : Int) = 2 by omega, show ¬ (way : Int) = 3 by omega, show ¬ (way : Int) = 4 by omega]
    refine odd_wp (by omega) hc fun v q3 hv hq3 => ?_
    simp
    exact fin v q3 ((oddL_ok v hv).mono (by omega) (by omega)) (by omega)
end
end K82
set_option Elab.async false
set_option linter.all false
set_option maxRecDepth 100000
set_option maxHeartbeats 4000000
namespace K82
open PySem DL
/-! ### is_watch, and the law's own look -/
def tyV : D → TyN
  | .non => .non
  | .bl _ => .bl
  | .int _ => .int
  | .str _ => .str
  | .tup _ => .tup
  | .lst _ => .lst
  | .dic _ _ _ => .dic
  | _ => .lst
theorem ty_vl {m : Nat} {st : Store} {v : D} (h : DL.vl m v = true) : tyD st v = some (tyV v) := by
  cases v <;> first | rfl | cases h
def betw (v : D) (lo hi : Int) : Bool := match v with
  | .int i => decide (lo ≤ i) && decide (i ≤ hi)
  | _ => false
theorem chain_le {env : DL.Env} {st : Store} {a b c : Den} {lo i hi : Int} {Q : D × Store → Prop} (h1 : a env st = some (.int lo, st)) (h2 : b env st = some (.int i, st)) (h3 : c env st = some (.int hi, st)) (k : Q (.bl (decide (lo ≤ i) && decide (i ≤ hi)), st)) : Wp (dChain fLe fLe a b c env st) Q := by
  refine wp_of ?_ k
  rw [ev_chain, h1]
  simp only [Option.bind_some, h2, le_int]
  by_cases hl : lo ≤ i
  · simp [hl, h3]
  · simp [hl]
section
variable {st : Store} {m : Nat}
theorem is_integer_eq (hc : clS st = true) {v : D} (hv : DL.vl m v = true) (lo hi : Int) : den_is_integer [v, .int lo, .int hi] st = some (.bl (betw v lo hi), st) := by
  refine wp_eq.mp (wp_frz ?_)
  unfold b_is_integer
  have o : ∀ b : Bool, Wp (frzOut st.length (.bl b, st)) (fun r => r = (.bl b, st)) := fun b => wp_of (out_id rfl hc rfl) rfl
  cases v with
  | int i =>
    simp [isA]
    refine ⟨fun h1 => ?_, fun h1 => ?_⟩
    · have := o (decide (i ≤ hi)); simpa [betw, h1] using this
    · have := o false; simpa [betw, show ¬ lo ≤ i by omega] using this
  | ref _ => cases hv
  | scr _ => cases hv
  | _ => simp [isA]; exact o false
theorem between_eq (hc : clS st = true) {v : D} (hv : DL.vl m v = true) (lo hi : Int) : den_u_law_between [v, .int lo, .int hi] st = some (.bl (betw v lo hi), st) := by
  refine wp_eq.mp (wp_frz ?_)
  unfold b_u_law_between
  have o : ∀ b : Bool, Wp (frzOut st.length (.bl b, st)) (fun r => r = (.bl b, st)) := fun b => wp_of (out_id rfl hc rfl) rfl
  cases v with
  | int i =>
    simp [isA]
    refine ⟨fun h1 => ?_, fun h1 => ?_⟩
    · have := o (decide (i ≤ hi)); simpa [betw, h1] using this
    · have := o false; simpa [betw, show ¬ lo ≤ i by omega] using this
  | ref _ => cases hv
  | scr _ => cases hv
  | _ => simp [isA]; exact o false
def lets (x : List Nat) : Bool := x.all fun c => decide (c ∈ az)
theorem boolsD_map : ∀ bs : List Bool, boolsD (bs.map D.bl) = some bs
  | [] => rfl
  | b :: bs => by rw [List.map_cons, boolsD, boolsD_map bs]; rfl
theorem all_ev (bs : List Bool) : fAll st (.lst (bs.map D.bl)) = some (.bl (bs.all id)) := by
  show (boolsD (bs.map D.bl)).map _ = _
  rw [boolsD_map]; rfl
theorem any_ev (bs : List Bool) : fAny st (.lst (bs.map D.bl)) = some (.bl (bs.any id)) := by
  show (boolsD (bs.map D.bl)).map _ = _
  rw [boolsD_map]; rfl
theorem fin_az (c : Nat) : fIn st (sg c) (.str az) = some (.bl (decide (c ∈ az))) := rfl
theorem are_letters_str (hc : clS st = true) {x : List Nat} (hx : x.length ≤ 1000) : den_are_letters [.str x] st = some (.bl (lets x), st) := by
  refine wp_eq.mp (wp_frz ?_)
  unfold b_are_letters
  have c1 : compL yesS (gN 1) tYesD (dOp2 fIn (dVar 1) (dC (D.str az))) [some (.str x), none] (x.map sg) st = some (x.map fun c => .bl (decide (c ∈ az)), st) :=
    compL_over rfl _ _ _ fun c hcm => ⟨_, rfl, by simp [fin_az]⟩
  have e : (x.map fun c => D.bl (decide (c ∈ az))) = (x.map fun c => decide (c ∈ az)).map D.bl := by rw [List.map_map]; rfl
  rw [e] at c1
  have a := all_ev (st := st) (x.map fun c => decide (c ∈ az))
  unfold az at c1
  simp [isA, strItems_sg]
  refine wp_of c1 ?_
  have hlen : (List.map D.bl (x.map fun c => decide (c ∈ az))).length ≤ 16777216 := by rw [List.length_map, List.length_map]; omega
  rw [k_lst]
  refine ⟨by unfold az at hlen; exact hlen, ?_⟩
  simp only [k_cons1, w_anil, k_cons2, k_call, w_p1]
  unfold az at a
  refine wp_of a ?_
  simp only [k_mk, k_sret, k_outR]
  refine wp_of (out_id rfl hc rfl) ?_
  have : ((x.map fun c => decide (c ∈ az)).all id) = lets x := by
    unfold lets
    rw [List.all_map]; rfl
  unfold az at this
  rw [this]
theorem are_letters_else (hc : clS st = true) {v : D} (hv : DL.vl m v = true) (hn : ∀ x, v ≠ .str x) : den_are_letters [v] st = some (.bl false, st) := by
  refine wp_eq.mp (wp_frz ?_)
  unfold b_are_letters
  have o : Wp (frzOut st.length (.bl false, st)) (fun r => r = (.bl false, st)) := wp_of (out_id rfl hc rfl) rfl
  cases v with
  | str x => exact absurd rfl (hn x)
  | ref _ => cases hv
  | scr _ => cases hv
  | _ => simp [isA]; exact o
end
def reelB (v : D) : Bool := match v with
  | .tup [.str x, b, .bl _] => lets x && (decide (1 ≤ x.length) && decide (x.length ≤ 10)) && betw b 0 x.length
  | _ => false
theorem reelB_of {v : D} (h : reelB v = true) : ∃ r : R, v = r.d ∧ r.Ok2 := by
  unfold reelB at h
  split at h
  · rename_i x b t
    simp only [Bool.and_eq_true, decide_eq_true_eq] at h
    obtain ⟨⟨h1, h2, h3⟩, h4⟩ := h
    cases b with
    | int l =>
      simp only [betw, Bool.and_eq_true, decide_eq_true_eq] at h4
      have haz : ∀ c ∈ x, c ∈ az := fun c hc => of_decide_eq_true (List.all_eq_true.mp h1 c hc)
      exact ⟨⟨x, l, t⟩, rfl, ⟨h2, h3, h4.1, h4.2, fun c hc => by have := az_lt c (haz c hc); omega⟩, haz⟩
    | _ => cases h4
  · cases h
end K82
set_option Elab.async false
set_option linter.all false
set_option maxRecDepth 100000
set_option maxHeartbeats 4000000
namespace K82
open PySem DL
section
variable {st : Store} {m : Nat}
theorem out_bl (hc : clS st = true) (b c : Bool) (h : b = c) : Wp (frzOut st.length (.bl b, st)) (fun r => r = (.bl c, st)) := by
  subst h
  exact wp_of (out_id rfl hc rfl) rfl
theorem is_reel_eq (hc : clS st = true) {v : D} (hv : DL.vl m v = true) : den_is_reel [v] st = some (.bl (reelB v), st) := by
  refine wp_eq.mp (wp_frz ?_)
  unfold b_is_reel
  have no : (∀ ds, v ≠ .tup ds) → reelB v = false := fun h => by
    unfold reelB
    split
    · exact absurd rfl (h _)
    · rfl
  cases v with
  | ref _ => cases hv
  | scr _ => cases hv
  | tup ds =>
    have hv' : vls m ds = true := hv
    by_cases h3 : ds.length = 3
    · match ds, h3 with
      | [a, b, c], _ =>
        simp only [vls, Bool.and_eq_true] at hv'
        obtain ⟨va, vb', vc, _⟩ := hv'
        by_cases ha : ∃ x, a = .str x
        · obtain ⟨x, rfl⟩ := ha
          have hx : x.length ≤ 1000 := by
            simp only [DL.vl, Bool.and_eq_true, decide_eq_true_eq] at va
            exact va.1
          have e1 := are_letters_str hc hx
          have e2 := is_integer_eq hc vb' 0 (x.length : Int)
          simp [isA]
          refine wp_of e1 ?_
          cases hl : lets x with
          | false =>
            simp
            exact out_bl hc _ _ (by unfold reelB; cases c <;> simp [hl])
          | true =>
            simp [show x.length ≤ 16777216 by omega]
            refine ⟨fun h1 => ⟨fun h2 => ?_, fun h2 => ?_⟩, fun h1 => ?_⟩
            · refine wp_of e2 ?_
              cases hb : betw b 0 x.length with
              | false =>
                simp
                exact out_bl hc _ _ (by unfold reelB; cases c <;> simp [hb])
              | true =>
                simp
                rw [ty_vl vc, wp_some]
                refine out_bl hc _ _ ?_
                unfold reelB
                have h3 : 1 ≤ x.length ∧ x.length ≤ 10 := by omega
                cases c <;> simp [isA, tyV, hb, hl, h3]
            · exact out_bl hc _ _ (by unfold reelB; cases c <;> simp <;> omega)
            · exact out_bl hc _ _ (by unfold reelB; cases c <;> simp <;> omega)
        · have e1 := are_letters_else hc va fun x h => ha ⟨x, h⟩
          simp [isA]
          refine wp_of e1 ?_
          simp
          refine out_bl hc _ _ ?_
          unfold reelB
          split
          · rename_i h
            simp at h
            exact absurd ⟨_, h.1⟩ ha
          · rfl
    · have h3' : ¬ (ds.length : Int) = 3 := by omega
      simp [isA, h3']
      refine out_bl hc _ _ ?_
      unfold reelB
      split
      · rename_i h
        simp at h
        rw [h] at h3
        simp at h3
      · rfl
  | _ => simp [isA]; exact out_bl hc _ _ (no (by intro ds; nofun)).symm
theorem notin_az (c : Nat) : fNotIn st (sg c) (.lst (az.map sg)) = some (.bl (!decide (c ∈ az))) := by
  have h : fInSeq (sg c) (az.map sg) = some (decide (c ∈ az)) := by
    unfold fInSeq inOk
    have h1 : pls (az.map sg) = true := pls_sg az
    rw [h1]
    have h2 : ((az.map sg).any fun y => deq y (sg c)) = decide (c ∈ az) := by
      rw [List.any_map]
      have : ((fun y => deq y (sg c)) ∘ sg) = fun x => decide (x = c) := by
        funext x
        show deq (.str [x]) (.str [c]) = _
        rw [deq_str]
        simp
      rw [this, Bool.eq_iff_iff, List.any_eq_true, decide_eq_true_eq]
      exact ⟨fun ⟨x, hx, e⟩ => by rw [← of_decide_eq_true e]; exact hx, fun h => ⟨c, h, decide_eq_true rfl⟩⟩
    rw [h2]
    rfl
  show (fInSeq (sg c) (az.map sg)).map (fun b => D.bl (!b)) = _
  rw [h]; rfl
theorem ne_nil_sg {cs : List Nat} : fNeR st (.lst (cs.map sg)) (.lst []) = some (.bl (!cs.isEmpty)) := by
  have h2 : cmpOk (.lst (cs.map sg)) (.lst []) = true := by
    show (pls (cs.map sg) && true && _) = true
    rw [pls_sg]
    show (true && true && (decide (dep (.lst (cs.map sg)) ≤ 50) || true)) = true
    rw [Bool.or_true]; rfl
  rw [neR_of (by intro; nofun) (by intro; nofun) h2]
  cases cs <;> rfl
theorem law_is_reel_eq (hc : clS st = true) {v : D} (hv : DL.vl m v = true) : den_u_law_is_reel [v] st = some (.bl (reelB v), st) := by
  refine wp_eq.mp (wp_frz ?_)
  unfold b_u_law_is_reel
  have no : (∀ ds, v ≠ .tup ds) → reelB v = false := fun h => by
    unfold reelB
    split
    · exact absurd rfl (h _)
    · rfl
  cases v with
  | ref _ => cases hv
  | scr _ => cases hv
  | tup ds =>
    have hv' : vls m ds = true := hv
    by_cases h3 : ds.length = 3
    · match ds, h3 with
      | [a, b, c], _ =>
        simp only [vls, Bool.and_eq_true] at hv'
        obtain ⟨va, vb', vc, _⟩ := hv'
        by_cases ha : ∃ x, a = .str x
        · obtain ⟨x, rfl⟩ := ha
          have hx : x.length ≤ 1000 := by
            simp only [DL.vl, Bool.and_eq_true, decide_eq_true_eq] at va
            exact va.1
          have e2 := between_eq hc vb' 0 (x.length : Int)
          have hfl : fListA st (.str az) = some (.lst (az.map sg)) := rfl
          have c1 : compL yesS (gN 1) (asB (dOp2 fNotIn (dVar 1) (dCall (pure1 fListA) (aCons (dCallF den_u_law_letters aNil) aNil)))) (dVar 1) [some (.tup [.str x, b, c]), none] (x.map sg) st = some ((x.filter fun c => !decide (c ∈ az)).map sg, st) := by
            have key : ∀ (cs : List Nat), compL yesS (gN 1) (asB (dOp2 fNotIn (dVar 1) (dCall (pure1 fListA) (aCons (dCallF den_u_law_letters aNil) aNil)))) (dVar 1) [some (.tup [.str x, b, c]), none] (cs.map sg) st = some ((cs.filter fun c => !decide (c ∈ az)).map sg, st) := by
              intro cs
              induction cs with
              | nil => rfl
              | cons d cs ih =>
                have hl := letters_eq hc
                have hni := notin_az (st := st) d
                rw [List.map_cons, compL, if_pos (show yesS st = true from rfl)]
                simp only [ev_gn, Option.bind_some, ev_asB, ev_op, ev_var, List.set_cons_succ, List.set_cons_zero, List.getElem?_cons_succ, List.getElem?_cons_zero, ev_call, ev_acons, ev_fun, ev_anil, hl, Option.map_some, ev_p1, hfl, hni]
                by_cases hd : d ∈ az
                · simp [hd, ih]
                · simp [hd, ih]
            exact key x
          simp [isA, strItems_sg, show x.length ≤ 16777216 by omega]
          refine wp_of c1 ?_
          have hfil : (x.filter fun c => !decide (c ∈ az)).isEmpty = lets x := by
            unfold lets
            rw [Bool.eq_iff_iff, List.isEmpty_iff, List.filter_eq_nil_iff, List.all_eq_true]
            simp
          have hfl2 : (x.filter fun c => !decide (c ∈ az)).length ≤ 1000 := Nat.le_trans (List.length_filter_le _ _) hx
          have hne := ne_nil_sg (st := st) (cs := x.filter fun c => !decide (c ∈ az))
          rw [hfil] at hne
          generalize (x.filter fun c => !decide (c ∈ az)) = fl at hne hfl2
          rw [k_lst]
          refine ⟨by rw [List.length_map]; omega, ?_⟩
          simp [hne]
          cases hl : lets x with
          | false =>
            simp
            exact out_bl hc _ _ (by unfold reelB; cases c <;> simp [hl])
          | true =>
            simp [show x.length ≤ 16777216 by omega]
            refine ⟨fun h1 => ?_, fun h1 => out_bl hc _ _ (by unfold reelB; cases c <;> simp <;> omega)⟩
            by_cases h2 : (x.length : Int) ≤ 10
            · simp [h2, show x.length ≤ 16777216 by omega]
              refine wp_of e2 ?_
              cases hb : betw b 0 x.length with
              | false =>
                simp
                exact out_bl hc _ _ (by unfold reelB; cases c <;> simp [hb])
              | true =>
                simp
                rw [ty_vl vc, wp_some]
                refine out_bl hc _ _ ?_
                unfold reelB
                have h3 : 1 ≤ x.length ∧ x.length ≤ 10 := by omega
                cases c <;> simp [isA, tyV, hb, hl, h3]
            · simp [h2]
              exact out_bl hc _ _ (by unfold reelB; cases c <;> simp <;> omega)
        · simp [isA]
          rw [ty_vl va, wp_some]
          have : isA (tyV a) .str = false := by
            cases a with
            | str x => exact absurd ⟨x, rfl⟩ ha
            | ref _ => cases va
            | scr _ => cases va
            | _ => rfl
          have ht : decide (tyV a = TyN.str) = false := by
            cases a with
            | str x => exact absurd ⟨x, rfl⟩ ha
            | ref _ => cases va
            | scr _ => cases va
            | _ => rfl
          rw [ht]
          simp
          refine out_bl hc _ _ ?_
          unfold reelB
          split
          · rename_i h
            simp at h
            exact absurd ⟨_, h.1⟩ ha
          · rfl
    · have h3' : ¬ (ds.length : Int) = 3 := by omega
      simp [isA, h3']
      refine out_bl hc _ _ ?_
      unfold reelB
      split
      · rename_i h
        simp at h
        rw [h] at h3
        simp at h3
      · rfl
  | _ => simp [isA]; exact out_bl hc _ _ (no (by intro ds; nofun)).symm
end
end K82
set_option Elab.async false
set_option linter.all false
set_option maxRecDepth 100000
set_option maxHeartbeats 4000000
namespace K82
open PySem DL
/-! ### stocks and watches -/
def prodS (p : Int) : List R → Int
  | [] => p
  | r :: rs => prodS (p * r.n * (r.l + 1) * (if r.t = true then 2 else 1)) rs
def prodW (p : Int) : List R → Int
  | [] => p
  | r :: rs => prodW (p * wI r) rs
theorem prodW_eq : ∀ (rs : List R) (p : Int), prodW p rs = p * prodI (rs.map wI)
  | [], p => by simp [prodW, prodI]
  | r :: rs, p => by rw [prodW, prodW_eq rs, List.map_cons, prodI, Int.mul_assoc]
theorem wI_pos {r : R} (h : r.Ok) : 1 ≤ r.n * (r.l + 1) * (if r.t = true then 2 else 1) ∧ wI r = r.n * (r.l + 1) * (if r.t = true then 2 else 1) + 1 := by
  refine ⟨?_, rfl⟩
  have h1 : 1 ≤ r.n := by have := h.pos; unfold R.n; omega
  have h2 := h.l0
  have h3 : 1 ≤ r.n * (r.l + 1) := by
    have := Int.mul_le_mul h1 (show 1 ≤ r.l + 1 by omega) (by omega) (by omega)
    omega
  split <;> omega
theorem prodS_le : ∀ (rs : List R) (p q : Int), (∀ r ∈ rs, r.Ok) → 0 ≤ p → p ≤ q → prodS p rs ≤ q * prodI (rs.map wI)
  | [], p, q, _, _, h => by simp [prodS, prodI, h]
  | r :: rs, p, q, hok, h0, h => by
    obtain ⟨w1, w2⟩ := wI_pos (hok r List.mem_cons_self)
    rw [prodS, List.map_cons, prodI, ← Int.mul_assoc]
    refine prodS_le rs _ _ (fun z hz => hok z (List.mem_cons_of_mem _ hz)) ?_ ?_
    · rw [Int.mul_assoc, Int.mul_assoc, ← Int.mul_assoc r.n]
      exact Int.mul_nonneg h0 (by omega)
    · rw [Int.mul_assoc, Int.mul_assoc, ← Int.mul_assoc r.n, w2]
      generalize r.n * (r.l + 1) * (if r.t = true then 2 else 1) = z at w1
      exact Int.mul_le_mul h (by omega) (by omega) (by omega)
theorem all_reels : ∀ {ds : List D}, (ds.all reelB) = true → ∃ rs : List R, ds = rs.map R.d ∧ ∀ r ∈ rs, r.Ok2
  | [], _ => ⟨[], rfl, by simp⟩
  | d :: ds, h => by
    rw [List.all_cons, Bool.and_eq_true] at h
    obtain ⟨r, rfl, hr⟩ := reelB_of h.1
    obtain ⟨rs, rfl, hrs⟩ := all_reels h.2
    exact ⟨r :: rs, rfl, fun z hz => by
      rcases List.mem_cons.mp hz with rfl | hz
      · exact hr
      · exact hrs z hz⟩
theorem reelB_d {r : R} (h : r.Ok2) : reelB r.d = true := by
  have h1 : lets r.s = true := List.all_eq_true.mpr fun c hc => decide_eq_true (h.az c hc)
  have := h.ok.pos
  have := h.ok.len
  have := h.ok.l0
  have := h.ok.l1
  simp [reelB, R.d, h1, betw]; omega
/-- what a stock looks like: its form -/
def formB (v : D) : Bool := match v with
  | .tup ds => decide (1 ≤ ds.length) && decide (ds.length ≤ 4) && ds.all reelB
  | _ => false
theorem formB_of {v : D} (h : formB v = true) : ∃ rs : List R, v = stockD rs ∧ (∀ r ∈ rs, r.Ok2) ∧ 1 ≤ rs.length ∧ rs.length ≤ 4 := by
  unfold formB at h
  split at h
  · simp only [Bool.and_eq_true, decide_eq_true_eq] at h
    obtain ⟨rs, rfl, hrs⟩ := all_reels h.2
    rw [List.length_map] at h
    exact ⟨rs, rfl, hrs, h.1.1, h.1.2⟩
  · cases h
section
variable {st : Store} {m : Nat} {Q : Qs}
theorem prodS_loop {e0 : Option D} : ∀ (rs : List R) (p : Int) (e2 e3 e4 e5 : Option D), (∀ r ∈ rs, r.Ok) → (∀ e2 e3 e4 e5 : Option D, Q (.next, [e0, some (.int (prodS p rs)), e2, e3, e4, e5], st)) →
    Wp (forL yesS (forB (gUn 3 (gsCons (gN 2) (gsCons (gN 3) (gsCons (gN 4) gsNil)))) (sSet 1 (dOp2 fMul (dOp2 fMul (dOp2 fMul (dVar 1) (dCall (pure1 fLen) (aCons (dVar 2) aNil))) (dOp2 fAdd (dVar 3) (dC (D.int 1)))) (dIf (tTru (dVar 4)) (dC (D.int 2)) (dC (D.int 1)))))) (rs.map R.d) [e0, some (.int p), e2, e3, e4, e5] st) Q
  | [], p, e2, e3, e4, e5, _, k => by
    rw [List.map_nil, w_fnil]
    exact ⟨rfl, k e2 e3 e4 e5⟩
  | r :: rs, p, e2, e3, e4, e5, ok, k => by
    rw [List.map_cons, w_fcons]
    refine ⟨rfl, ?_⟩
    have hr := ok r List.mem_cons_self
    have h1 := hr.len
    have h2 := hr.l0
    have h3 := hr.l1
    have g1 : small64 (r.s.length : Int) = true := s64 (by omega) (by omega)
    have g2 : small64 (r.l + 1) = true := s64 (by omega) (by omega)
    have g3 : small64 2 = true := rfl
    have g4 : small64 1 = true := rfl
    have sr : seqOf st r.d = some [.str r.s, .int r.l, .bl r.t] := rfl
    have ih := fun e2 e3 e4 e5 => prodS_loop (e0 := e0) rs (p * r.n * (r.l + 1) * (if r.t = true then 2 else 1)) e2 e3 e4 e5 (fun z hz => ok z (List.mem_cons_of_mem _ hz)) k
    unfold R.n at ih
    simp [sr, show r.s.length ≤ 16777216 by omega, g1, g2]
    cases ht : r.t with
    | true =>
      rw [ht] at ih
      simp [g3] at ih ⊢
      exact ih _ _ _ _
    | false =>
      rw [ht] at ih
      simp [g4] at ih ⊢
      exact ih _ _ _ _
theorem bl_ints : ∀ bs : List Bool, pls (bs.map D.bl) = true
  | [] => rfl
  | b :: bs => by rw [List.map_cons, pls, bl_ints bs]; rfl
def IsStock (v : D) : Prop := ∃ rs : List R, v = stockD rs ∧ (∀ r ∈ rs, r.Ok2) ∧ 1 ≤ rs.length ∧ rs.length ≤ 4 ∧ prodS 1 rs ≤ 600
def PostB (P : Prop) (st : Store) (r : D × Store) : Prop := ∃ b : Bool, r = (.bl b, st) ∧ (b = true ↔ P)
theorem postB {P : Prop} {b : Bool} (hc : clS st = true) (h : b = true ↔ P) : Wp (frzOut st.length (.bl b, st)) (PostB P st) := wp_of (out_id rfl hc rfl) ⟨b, rfl, h⟩
theorem is_stock_eq (hc : clS st = true) {v : D} (hv : DL.vl m v = true) (hl : ∀ ds, v = .tup ds → ds.length ≤ 100000) : ∃ b : Bool, den_is_stock [v] st = some (.bl b, st) ∧ (b = true ↔ IsStock v) := by
  have : Wp (den_is_stock [v] st) (PostB (IsStock v) st) := by
    refine wp_frz ?_
    unfold b_is_stock
    have o : ∀ b : Bool, (b = true ↔ IsStock v) → Wp (frzOut st.length (.bl b, st)) (PostB (IsStock v) st) := fun b h => postB hc h
    cases v with
    | ref _ => cases hv
    | scr _ => cases hv
    | tup ds =>
      have hv' : vls m ds = true := hv
      have hlen := hl ds rfl
      have c1 : compL yesS (gN 5) tYesD (dCallF den_is_reel (aCons (dVar 5) aNil)) [some (.tup ds), none, none, none, none, none] ds st = some (ds.map fun d => .bl (reelB d), st) := by
        have := compL_over (ck := yesS) (g := gN 5) (te := dCallF den_is_reel (aCons (dVar 5) aNil)) (envW := [some (.tup ds), none, none, none, none, none]) (st := st) rfl (fun d : D => d) (fun d => .bl (reelB d)) ds fun d hd => ⟨_, rfl, by simp [is_reel_eq hc (vls_mem hv' hd)]⟩
        rwa [List.map_id'] at this
      have e : (ds.map fun d => D.bl (reelB d)) = (ds.map reelB).map D.bl := by rw [List.map_map]; rfl
      rw [e] at c1
      have al := all_ev (st := st) (ds.map reelB)
      rw [List.all_map] at al
      have al : fAll st (.lst ((ds.map reelB).map D.bl)) = some (.bl (ds.all reelB)) := al
      by_cases h1 : 1 ≤ ds.length ∧ ds.length ≤ 4
      · have h1' : (1 : Int) ≤ ds.length := by omega
        have h2' : (ds.length : Int) ≤ 4 := by omega
        simp [isA, h1', h2']
        refine wp_of c1 ?_
        rw [k_lst]
        refine ⟨by rw [List.length_map, List.length_map]; omega, ?_⟩
        simp only [k_cons1, w_anil, k_cons2, k_call, w_p1]
        refine wp_of al ?_
        cases ha : ds.all reelB with
        | false =>
          simp
          refine o false ⟨fun h => (by cases h), fun ⟨rs, e, hok, _⟩ => ?_⟩
          unfold stockD at e
          injection e with e
          subst e
          rw [List.all_eq_false] at ha
          obtain ⟨d, hd, hn⟩ := ha
          obtain ⟨r, hr, rfl⟩ := List.mem_map.mp hd
          exact absurd (reelB_d (hok r hr)) hn
        | true =>
          obtain ⟨rs, rfl, hok⟩ := all_reels ha
          simp
          refine prodS_loop rs 1 _ _ _ _ (fun r hr => (hok r hr).ok) fun e2 e3 e4 e5 => ?_
          simp
          rw [List.length_map] at h1
          refine o _ ⟨fun h => ⟨rs, rfl, hok, h1.1, h1.2, of_decide_eq_true h⟩, fun ⟨rs', e, hok', _, _, hp⟩ => ?_⟩
          have : rs = rs' := by
            unfold stockD at e
            injection e with e
            exact List.map_inj_right (fun a b h => by
              obtain ⟨s, l, t⟩ := a
              obtain ⟨s', l', t'⟩ := b
              simp [R.d] at h
              obtain ⟨h1, h2, h3⟩ := h
              subst h1 h2 h3; rfl) |>.mp e
          subst this
          exact decide_eq_true hp
      · have key : ∀ K : Prop, (¬ ((1 : Int) ≤ ds.length ∧ (ds.length : Int) ≤ 4) → K) → K := fun K h => h (by omega)
        have o' : Wp (frzOut st.length (.bl false, st)) (PostB (IsStock (.tup ds)) st) := by
          refine o false ⟨fun h => (by cases h), fun ⟨rs, e, hok, a, b, _⟩ => ?_⟩
          unfold stockD at e
          injection e with e
          subst e
          rw [List.length_map] at h1
          exact absurd ⟨a, b⟩ h1
        simp [isA]
        refine ⟨fun z1 => ?_, fun z1 => o'⟩
        have : ¬ (ds.length : Int) ≤ 4 := by omega
        simp [this]
        exact o'
    | _ =>
      simp [isA]
      refine o false ⟨fun h => (by cases h), fun ⟨rs, e, _⟩ => (by unfold stockD at e; cases e)⟩
  obtain ⟨r, e, b, rfl, h⟩ := this
  exact ⟨b, e, h⟩
end
end K82
set_option Elab.async false
set_option linter.all false
set_option maxRecDepth 100000
set_option maxHeartbeats 4000000
namespace K82
open PySem DL
def IsWatch (v : D) : Prop := ∃ (rs : List R) (lo hi : Int), v = watchD rs lo hi ∧ (∀ r ∈ rs, r.Ok2) ∧ 1 ≤ rs.length ∧ rs.length ≤ 4 ∧ prodI (rs.map wI) ≤ 100 ∧ 0 ≤ lo ∧ lo ≤ 16 ∧ lo ≤ hi ∧ hi ≤ 16
theorem stock_inj {rs rs' : List R} (e : stockD rs = stockD rs') : rs = rs' := by
  unfold stockD at e
  injection e with e
  exact List.map_inj_right (fun a b h => by
    obtain ⟨s, l, t⟩ := a
    obtain ⟨s', l', t'⟩ := b
    simp [R.d] at h
    obtain ⟨h1, h2, h3⟩ := h
    subst h1 h2 h3; rfl) |>.mp e
theorem watch_tup {ds : List D} {rs : List R} {lo hi : Int} (e : D.tup ds = watchD rs lo hi) : ds = [stockD rs, .int lo, .int hi] := by
  unfold watchD at e
  injection e
section
variable {st : Store} {m : Nat} {Q : Qs}
theorem prodW_loop {e0 e1 e2 e3 : Option D} : ∀ (rs : List R) (p : Int) (e5 e6 e7 : Option D), (∀ r ∈ rs, r.Ok) → (∀ e5 e6 e7 : Option D, Q (.next, [e0, e1, e2, e3, some (.int (prodW p rs)), e5, e6, e7], st)) →
    Wp (forL yesS (forB (gUn 3 (gsCons (gN 5) (gsCons (gN 6) (gsCons (gN 7) gsNil)))) (sSet 4 (dOp2 fMul (dVar 4) (dOp2 fAdd (dOp2 fMul (dOp2 fMul (dCall (pure1 fLen) (aCons (dVar 5) aNil)) (dOp2 fAdd (dVar 6) (dC (D.int 1)))) (dIf (tTru (dVar 7)) (dC (D.int 2)) (dC (D.int 1)))) (dC (D.int 1)))))) (rs.map R.d) [e0, e1, e2, e3, some (.int p), e5, e6, e7] st) Q
  | [], p, e5, e6, e7, _, k => by
    rw [List.map_nil, w_fnil]
    exact ⟨rfl, k e5 e6 e7⟩
  | r :: rs, p, e5, e6, e7, ok, k => by
    rw [List.map_cons, w_fcons]
    refine ⟨rfl, ?_⟩
    have hr := ok r List.mem_cons_self
    have h1 := hr.len
    have h2 := hr.l0
    have h3 := hr.l1
    have g1 : small64 (r.s.length : Int) = true := s64 (by omega) (by omega)
    have b0 : 0 ≤ (r.s.length : Int) * (r.l + 1) := Int.mul_nonneg (by omega) (by omega)
    have b1 : (r.s.length : Int) * (r.l + 1) ≤ 10 * 11 := Int.mul_le_mul (by omega) (by omega) (by omega) (by omega)
    have g3 : small64 2 = true := rfl
    have g4 : small64 1 = true := rfl
    have sr : seqOf st r.d = some [.str r.s, .int r.l, .bl r.t] := rfl
    have ih := fun e5 e6 e7 => prodW_loop (e0 := e0) (e1 := e1) (e2 := e2) (e3 := e3) rs (p * wI r) e5 e6 e7 (fun z hz => ok z (List.mem_cons_of_mem _ hz)) k
    unfold wI R.n at ih
    simp [sr, show r.s.length ≤ 16777216 by omega, g1]
    cases ht : r.t with
    | true =>
      rw [ht] at ih
      simp [g3] at ih ⊢
      generalize (r.s.length : Int) * (r.l + 1) = z at ih b0 b1
      have g5 : small64 (z * 2 + 1) = true := s64 (by omega) (by omega)
      simp [g5]
      exact ih _ _ _
    | false =>
      rw [ht] at ih
      simp [g4] at ih ⊢
      generalize (r.s.length : Int) * (r.l + 1) = z at ih b0 b1
      have g5 : small64 (z + 1) = true := s64 (by omega) (by omega)
      simp [g5]
      exact ih _ _ _
theorem prodW_loop2 {e0 e5 : Option D} : ∀ (rs : List R) (p : Int) (e2 e3 e4 : Option D), (∀ r ∈ rs, r.Ok) → (∀ e2 e3 e4 : Option D, Q (.next, [e0, some (.int (prodW p rs)), e2, e3, e4, e5], st)) →
    Wp (forL yesS (forB (gUn 3 (gsCons (gN 2) (gsCons (gN 3) (gsCons (gN 4) gsNil)))) (sSet 1 (dOp2 fMul (dVar 1) (dOp2 fAdd (dOp2 fMul (dOp2 fMul (dCall (pure1 fLen) (aCons (dVar 2) aNil)) (dOp2 fAdd (dVar 3) (dC (D.int 1)))) (dIf (tTru (dVar 4)) (dC (D.int 2)) (dC (D.int 1)))) (dC (D.int 1)))))) (rs.map R.d) [e0, some (.int p), e2, e3, e4, e5] st) Q
  | [], p, e2, e3, e4, _, k => by
    rw [List.map_nil, w_fnil]
    exact ⟨rfl, k e2 e3 e4⟩
  | r :: rs, p, e2, e3, e4, ok, k => by
    rw [List.map_cons, w_fcons]
    refine ⟨rfl, ?_⟩
    have hr := ok r List.mem_cons_self
    have h1 := hr.len
    have h2 := hr.l0
    have h3 := hr.l1
    have g1 : small64 (r.s.length : Int) = true := s64 (by omega) (by omega)
    have b0 : 0 ≤ (r.s.length : Int) * (r.l + 1) := Int.mul_nonneg (by omega) (by omega)
    have b1 : (r.s.length : Int) * (r.l + 1) ≤ 10 * 11 := Int.mul_le_mul (by omega) (by omega) (by omega) (by omega)
    have g3 : small64 2 = true := rfl
    have g4 : small64 1 = true := rfl
    have sr : seqOf st r.d = some [.str r.s, .int r.l, .bl r.t] := rfl
    have ih := fun e2 e3 e4 => prodW_loop2 (e0 := e0) (e5 := e5) rs (p * wI r) e2 e3 e4 (fun z hz => ok z (List.mem_cons_of_mem _ hz)) k
    unfold wI R.n at ih
    simp [sr, show r.s.length ≤ 16777216 by omega, g1]
    cases ht : r.t with
    | true =>
      rw [ht] at ih
      simp [g3] at ih ⊢
      generalize (r.s.length : Int) * (r.l + 1) = z at ih b0 b1
      have g5 : small64 (z * 2 + 1) = true := s64 (by omega) (by omega)
      simp [g5]
      exact ih _ _ _
    | false =>
      rw [ht] at ih
      simp [g4] at ih ⊢
      generalize (r.s.length : Int) * (r.l + 1) = z at ih b0 b1
      have g5 : small64 (z + 1) = true := s64 (by omega) (by omega)
      simp [g5]
      exact ih _ _ _
theorem betw_int {v : D} {lo hi : Int} (h : betw v lo hi = true) : ∃ i, v = .int i ∧ lo ≤ i ∧ i ≤ hi := by
  cases v with
  | int i =>
    simp only [betw, Bool.and_eq_true, decide_eq_true_eq] at h
    exact ⟨i, rfl, h.1, h.2⟩
  | _ => cases h
theorem is_watch_eq (hc : clS st = true) {v : D} {w n : Nat} (hv : VOk w n v) (hw : w ≤ 10000) : ∃ b : Bool, den_is_watch [v] st = some (.bl b, st) ∧ (b = true ↔ IsWatch v) := by
  have : Wp (den_is_watch [v] st) (PostB (IsWatch v) st) := by
    refine wp_frz ?_
    unfold b_is_watch
    have o : ∀ b : Bool, (b = true ↔ IsWatch v) → Wp (frzOut st.length (.bl b, st)) (PostB (IsWatch v) st) := fun b h => postB hc h
    have no : ¬ IsWatch v → Wp (frzOut st.length (.bl false, st)) (PostB (IsWatch v) st) := fun h => o false ⟨fun z => (by cases z), fun z => absurd z h⟩
    have hvl := hv.vl
    cases v with
    | ref _ => cases hvl
    | scr _ => cases hvl
    | tup ds =>
      have hv' : vls M20 ds = true := hvl
      by_cases h3 : ds.length = 3
      · match ds, h3 with
        | [a, b, c], _ =>
          have hwt : DL.wt (.tup [a, b, c]) ≤ w := hv.wt
          simp only [vls, Bool.and_eq_true] at hv'
          obtain ⟨va, vb', vc, _⟩ := hv'
          obtain ⟨sb, e1, es⟩ := is_stock_eq hc va fun es he => by
            subst he
            simp [DL.wt, wts] at hwt
            have := wts_len es
            omega
          simp [isA]
          refine wp_of e1 ?_
          cases sb with
          | false =>
            simp
            refine no fun ⟨rs, lo, hi, e, h1, h2, h4, h5, h6⟩ => ?_
            have := watch_tup e
            simp at this
            have hs := prodS_le rs 1 1 (fun r hr => (h1 r hr).ok) (by omega) (by omega)
            exact absurd (es.mpr ⟨rs, this.1, h1, h2, h4, by omega⟩) (by simp)
          | true =>
            obtain ⟨rs, rfl, h1, h2, h4, h5⟩ := es.mp rfl
            have e2 := is_integer_eq hc vb' 0 16
            simp
            refine prodW_loop rs 1 _ _ _ (fun r hr => (h1 r hr).ok) fun e5 e6 e7 => ?_
            rw [prodW_eq, Int.one_mul]
            simp
            refine ⟨fun hp => no fun ⟨rs', lo, hi, e, _, _, _, q1, _⟩ => ?_, fun hp => ?_⟩
            · have := watch_tup e
              simp at this
              have := stock_inj this.1
              subst this
              omega
            · refine wp_of e2 ?_
              cases hb : betw b 0 16 with
              | false =>
                simp
                refine no fun ⟨rs', lo, hi, e, _, _, _, _, q2, q3, _⟩ => ?_
                have := watch_tup e
                simp at this
                rw [this.2.1] at hb
                simp [betw, q2, q3] at hb
              | true =>
                obtain ⟨lo, rfl, q2, q3⟩ := betw_int hb
                have e3 := is_integer_eq hc vc lo 16
                simp
                refine wp_of e3 ?_
                simp
                refine o _ ⟨fun h => ?_, fun ⟨rs', lo', hi, e, _, _, _, _, _, _, q4, q5⟩ => ?_⟩
                · obtain ⟨hi, rfl, q4, q5⟩ := betw_int h
                  exact ⟨rs, lo, hi, rfl, h1, h2, h4, by omega, q2, q3, q4, q5⟩
                · have := watch_tup e
                  simp at this
                  obtain ⟨_, z1, z2⟩ := this
                  subst z1
                  rw [z2]
                  simp [betw, q4, q5]
      · have h3' : ¬ (ds.length : Int) = 3 := by omega
        simp [isA, h3']
        refine no fun ⟨rs, lo, hi, e, _⟩ => ?_
        rw [watch_tup e] at h3
        simp at h3
    | _ =>
      simp [isA]
      exact no fun ⟨rs, lo, hi, e, _⟩ => by unfold watchD at e; cases e
  obtain ⟨r, e, b, rfl, h⟩ := this
  exact ⟨b, e, h⟩
end
end K82
set_option Elab.async false
set_option linter.all false
set_option maxRecDepth 100000
set_option maxHeartbeats 4000000
namespace K82
open PySem DL
section
variable {st : Store}
theorem false_in (bs : List Bool) : fIn st (.bl false) (.lst (bs.map D.bl)) = some (.bl (!bs.all id)) := by
  have h2 : ((bs.map D.bl).any fun y => deq y (.bl false)) = !bs.all id := by
    induction bs with
    | nil => rfl
    | cons b bs ih =>
      rw [List.map_cons, List.any_cons, ih, List.all_cons, deq_bl]
      cases b <;> simp
  have h : fInSeq (.bl false) (bs.map D.bl) = some (!bs.all id) := by
    unfold fInSeq inOk
    rw [bl_ints, h2]; rfl
  show (fInSeq (.bl false) (bs.map D.bl)).map D.bl = _
  rw [h]; rfl
theorem law_is_watch_eq (hc : clS st = true) {v : D} {w n : Nat} (hv : VOk w n v) (hw : w ≤ 10000) : ∃ b : Bool, den_u_law_is_watch [v] st = some (.bl b, st) ∧ (b = true ↔ IsWatch v) := by
  have : Wp (den_u_law_is_watch [v] st) (PostB (IsWatch v) st) := by
    refine wp_frz ?_
    unfold b_u_law_is_watch
    have o : ∀ b : Bool, (b = true ↔ IsWatch v) → Wp (frzOut st.length (.bl b, st)) (PostB (IsWatch v) st) := fun b h => postB hc h
    have no : ¬ IsWatch v → Wp (frzOut st.length (.bl false, st)) (PostB (IsWatch v) st) := fun h => o false ⟨fun z => (by cases z), fun z => absurd z h⟩
    have hvl := hv.vl
    cases v with
    | ref _ => cases hvl
    | scr _ => cases hvl
    | tup ds =>
      have hv' : vls M20 ds = true := hvl
      by_cases h3 : ds.length = 3
      · match ds, h3 with
        | [a, b, c], _ =>
          have hwt : DL.wt (.tup [a, b, c]) ≤ w := hv.wt
          simp only [vls, Bool.and_eq_true] at hv'
          obtain ⟨va, vb', vc, _⟩ := hv'
          by_cases ha : ∃ es, a = .tup es
          · obtain ⟨es, rfl⟩ := ha
            have hle : es.length ≤ 100000 := by
              simp [DL.wt, wts] at hwt
              have := wts_len es
              omega
            have va' : vls M20 es = true := va
            have c1 : compL yesS (gN 5) tYesD (dCallF den_u_law_is_reel (aCons (dVar 5) aNil)) [some (.tup [.tup es, b, c]), none, none, none, none, none] es st = some (es.map fun d => .bl (reelB d), st) := by
              have := compL_over (ck := yesS) (g := gN 5) (te := dCallF den_u_law_is_reel (aCons (dVar 5) aNil)) (envW := [some (.tup [.tup es, b, c]), none, none, none, none, none]) (st := st) rfl (fun d : D => d) (fun d => .bl (reelB d)) es fun d hd => ⟨_, rfl, by simp [law_is_reel_eq hc (vls_mem va' hd)]⟩
              rwa [List.map_id'] at this
            have e : (es.map fun d => D.bl (reelB d)) = (es.map reelB).map D.bl := by rw [List.map_map]; rfl
            rw [e] at c1
            have al := false_in (st := st) (es.map reelB)
            rw [List.all_map] at al
            have al : fIn st (.bl false) (.lst ((es.map reelB).map D.bl)) = some (.bl (!es.all reelB)) := al
            have nf : ¬ (formB (.tup es) = true) → Wp (frzOut st.length (.bl false, st)) (PostB (IsWatch (.tup [.tup es, b, c])) st) := fun hf => no fun ⟨rs, lo, hi, e, h1, h2, h4, _⟩ => by
              have := watch_tup e
              simp at this
              have e0 : es = rs.map R.d := by
                have h0 := this.1
                unfold stockD at h0
                injection h0
              subst e0
              refine hf ?_
              have hall : (rs.map R.d).all reelB = true := List.all_eq_true.mpr fun d hd => by
                obtain ⟨r, hr, rfl⟩ := List.mem_map.mp hd
                exact reelB_d (h1 r hr)
              simp only [formB, List.length_map, hall, Bool.and_true, Bool.and_eq_true, decide_eq_true_eq]
              exact ⟨h2, h4⟩
            simp [isA]
            refine ⟨fun z1 => ?_, fun z1 => nf (by simp only [formB, Bool.and_eq_true, decide_eq_true_eq]; omega)⟩
            by_cases z2 : (es.length : Int) ≤ 4
            · simp [z2]
              refine wp_of c1 ?_
              rw [k_lst]
              refine ⟨by rw [List.length_map, List.length_map]; omega, ?_⟩
              rw [k_op2]
              refine wp_of al ?_
              cases hall : es.all reelB with
              | false =>
                simp
                exact nf (by simp only [formB, hall, Bool.and_false]; simp)
              | true =>
                have hf : formB (.tup es) = true := by simp only [formB, hall, Bool.and_true, Bool.and_eq_true, decide_eq_true_eq]; omega
                obtain ⟨rs, e0, h1, h2, h4⟩ := formB_of hf
                have e0 : es = rs.map R.d := by
                  unfold stockD at e0
                  injection e0
                subst e0
                have e2 := between_eq hc vb' 0 16
                simp
                refine prodW_loop2 rs 1 _ _ _ (fun r hr => (h1 r hr).ok) fun e2' e3' e4' => ?_
                rw [prodW_eq, Int.one_mul]
                simp
                refine ⟨fun hp => ?_, fun hp => no fun ⟨rs', lo, hi, e, _, _, _, q1, _⟩ => ?_⟩
                · refine wp_of e2 ?_
                  cases hb : betw b 0 16 with
                  | false =>
                    simp
                    refine no fun ⟨rs', lo, hi, e, _, _, _, _, q2, q3, _⟩ => ?_
                    have := watch_tup e
                    simp at this
                    rw [this.2.1] at hb
                    simp [betw, q2, q3] at hb
                  | true =>
                    obtain ⟨lo, rfl, q2, q3⟩ := betw_int hb
                    have e3 := between_eq hc vc lo 16
                    simp
                    refine wp_of e3 ?_
                    simp
                    refine o _ ⟨fun h => ?_, fun ⟨rs', lo', hi, e, _, _, _, _, _, _, q4, q5⟩ => ?_⟩
                    · obtain ⟨hi, rfl, q4, q5⟩ := betw_int h
                      exact ⟨rs, lo, hi, rfl, h1, h2, h4, by omega, q2, q3, q4, q5⟩
                    · have := watch_tup e
                      simp at this
                      obtain ⟨_, z1, z2⟩ := this
                      subst z1
                      rw [z2]
                      simp [betw, q4, q5]
                · have := watch_tup e
                  simp at this
                  have := stock_inj (show stockD rs = stockD rs' from this.1)
                  subst this
                  omega
            · simp [z2]
              exact nf (by simp only [formB, Bool.and_eq_true, decide_eq_true_eq]; omega)
          · simp [isA]
            rw [ty_vl va, wp_some]
            have ht : decide (tyV a = TyN.tup) = false := by
              cases a with
              | tup x => exact absurd ⟨x, rfl⟩ ha
              | ref _ => cases va
              | scr _ => cases va
              | _ => rfl
            rw [ht]
            simp
            refine no fun ⟨rs, lo, hi, e, _⟩ => ?_
            have := watch_tup e
            simp at this
            exact ha ⟨rs.map R.d, this.1⟩
      · have h3' : ¬ (ds.length : Int) = 3 := by omega
        simp [isA, h3']
        refine no fun ⟨rs, lo, hi, e, _⟩ => ?_
        rw [watch_tup e] at h3
        simp at h3
    | _ =>
      simp [isA]
      exact no fun ⟨rs, lo, hi, e, _⟩ => by unfold watchD at e; cases e
  obtain ⟨r, e, b, rfl, h⟩ := this
  exact ⟨b, e, h⟩
end
end K82
set_option Elab.async false
set_option linter.all false
set_option maxRecDepth 100000
set_option maxHeartbeats 4000000
namespace K82
open PySem DL
/-! ### the law -/
section
variable {q : Pn} {more : Store}
theorem wide_wp {Q : D × Store → Prop} (ha : q.at' ≤ 800000) (hc : clM more) (k : ∀ (rs : List R) (q' : Pn), Stock rs → q'.at' ≤ q.at' + 21 → Q (stockD rs, penS q' ++ more)) : Wp (den_u_law_wide_stock [.ref 1] (penS q ++ more)) Q := by
  obtain ⟨rs, st', hs, p, e⟩ := wide_eq (pen_of (q := q) (Int.le_refl _)) (by omega) (pen_cl hc)
  obtain ⟨q', rfl, hq⟩ := p.pn
  exact wp_of e (k rs q' hs (by omega))
theorem open_loop {e0 : Option D} : ∀ (zs : List Int) (k : Nat) (cells : List Int) (e2 e3 : Option D) (Q : Qs), (zs ≠ [] → cells.length = 12) → k + zs.length ≤ 1000 →
    (∀ (cells' : List Int) (e2 e3 : Option D), Q (.next, [e0, some (.ref 0), e2, e3], [.lst (cells'.map .int)])) →
    Wp (forL yesS (forB (gUn 2 (gsCons (gN 2) (gsCons (gN 3) gsNil))) (sAsg (dOp2 fAdd (dOp2 fIx (dVar 1) (dOp2 fMod (dCall (pure1 fInt) (aCons (dVar 2) aNil)) (dC (D.int 12)))) (dVar 3)) (gSub (dVar 1) (dOp2 fMod (dCall (pure1 fInt) (aCons (dVar 2) aNil)) (dC (D.int 12)))))) (enumF k (zs.map .int)) [e0, some (.ref 0), e2, e3] [.lst (cells.map .int)]) Q
  | [], k, cells, e2, e3, Q, _, _, kq => by
    rw [List.map_nil, enumF_nil, w_fnil]
    exact ⟨rfl, kq cells e2 e3⟩
  | z :: zs, k, cells, e2, e3, Q, h12, hk, kq => by
    rw [List.map_cons, enumF_cons, w_fcons]
    refine ⟨rfl, ?_⟩
    have hc := h12 (by simp)
    have hm : ((k % 12 : Nat) : Int) = (k : Int) % 12 := by omega
    have hlt : k % 12 < cells.length := by omega
    have i1 : fIx [SObj.lst (cells.map D.int)] (.ref 0) (.int ((k : Int) % 12)) = some (.int cells[k % 12]) := by
      have : L2.atI (cells.map D.int) ((k % 12 : Nat) : Int) = some (.int cells[k % 12]) := at_nat (by rw [List.getElem?_map, List.getElem?_eq_getElem hlt]; rfl)
      rw [hm] at this
      exact this
    have i2 : ∀ v : D, setD [SObj.lst (cells.map D.int)] (.ref 0) (.int ((k : Int) % 12)) v = some [SObj.lst ((cells.map D.int).set (k % 12) v)] := fun v => by
      have : L2.ixN (cells.map D.int).length ((k : Int) % 12) = some (k % 12) := by
        unfold L2.ixN
        rw [List.length_map, if_pos (by omega), if_pos (by omega)]
        congr 1
      rw [setD_ref]
      show (L2.ixN (cells.map D.int).length ((k : Int) % 12)).map _ = _
      rw [this]; rfl
    have hk' : k + (zs.length + 1) ≤ 1000 := hk
    have ih := open_loop (e0 := e0) zs (k + 1) (cells.set (k % 12) (cells[k % 12] + z)) (some (.int k)) (some (.int z)) Q (fun h => by rw [List.length_set]; exact hc) (by omega) kq
    rw [List.map_set] at ih
    simp [i1, i2, -ix_ref, -setD_ref]
    exact ih
theorem open_wp {ns : List Int} (hl : ns.length ≤ 63) {Q : D × Store → Prop} (k : ∀ q : Pn, q.at' = 0 → Q (.ref 1, penS q)) : Wp (den_u_law_open [.scr ns] []) Q := by
  unfold den_u_law_open b_u_law_open
  have fl : ∀ ds : List D, fListAR [] [.lst ds] = some (.ref 0, [.lst ds]) := fun _ => rfl
  have c1 : cutL ns none (some 12) = ns.take 12 := cut_to ns 12
  obtain ⟨zs, hz, hz2, hz3⟩ : ∃ zs : List Int, cutL ns (some 12) (some 63) = zs ∧ zs.length ≤ 63 ∧ (zs ≠ [] → (ns.take 12).length = 12) := by
    refine ⟨_, rfl, ?_, fun h => ?_⟩
    · unfold cutL
      rw [List.length_take, List.length_drop]; omega
    · rw [List.length_take]
      by_cases hlt : 12 ≤ ns.length
      · omega
      · exfalso
        apply h
        unfold cutL HT.sIx
        rw [List.drop_eq_nil_of_le]
        · simp
        · simp; omega
  simp [c1, hz, enumF_zero]
  rw [← List.map_take, fl, wp_some]
  simp [hz, enumF_zero]
  have key := fun Q0 => open_loop (e0 := some (.scr ns)) zs 0 (ns.take 12) none none Q0 hz3 (by omega)
  rw [List.map_take] at key
  refine key _ fun cells e2 e3 => ?_
  simp
  exact k ⟨cells, 0, 0⟩ rfl
end
end K82
set_option Elab.async false
set_option linter.all false
set_option maxRecDepth 100000
set_option maxHeartbeats 4000000
namespace K82
open PySem DL
noncomputable def chkB (sd : Den) : DenS := (sIf (tNotD (tTru (dCallF den_u_law_same (aCons (dCallF den_reach (aCons sd (aCons (dVar 3) aNil))) (aCons (dCallF den_u_law_reach (aCons sd (aCons (dVar 3) aNil))) aNil))))) (sRet (dC (D.bl false))) sNext)
noncomputable def valB : DenS := (sSeq (sSet 8 (dCall (pure1 fRepr) (aCons (dVar 7) aNil)))
  (sIf (tOrD (tNotD (tTru (dCallF den_u_law_same (aCons (dCallF den_is_watch (aCons (dVar 7) aNil)) (aCons (dCallF den_u_law_is_watch (aCons (dVar 7) aNil)) aNil))))) (asB (dOp2 fNeR (dCall (pure1 fRepr) (aCons (dVar 7) aNil)) (dVar 8)))) (sRet (dC (D.bl false))) sNext))
noncomputable def turnB : D → DL.Env → Store → Option (Fl × DL.Env × Store) := forB (gN 4) (sSeq (sAsg (dCallF den_u_law_draw_watch (aCons (dVar 1) (aCons (dC (D.int 40)) aNil))) (gUn 2 (gsCons (gN 5) (gsCons (gN 6) gsNil))))
  (sSeq (sFor (iOf (dOp2 fAdd (dLst (aCons (dVar 5) aNil)) (dComp (iRng rng1 (aCons (dC (D.int 9)) aNil)) (gN 10) tYesD (dCallF den_u_law_near (aCons (dVar 1) (aCons (dVar 5) aNil))) [10]))) (gN 7) valB)
  (sSeq (sFor (iOf (dSl (dCallF den_u_law_rows_of (aCons (dOp2 fIx (dVar 5) (dC (D.int 0))) (aCons (dVar 6) aNil))) pNone (pSome (dC (D.int 17))))) (gN 3) (chkB (dOp2 fIx (dVar 5) (dC (D.int 0)))))
  (sSeq (sSet 9 (dCallF den_u_law_draw_head (aCons (dVar 1) (aCons (dOp2 fIx (dVar 5) (dC (D.int 0))) (aCons (dVar 6) aNil)))))
  (sIf (tNotD (tTru (dCallF den_u_law_same (aCons (dCallF den_lengths (aCons (dVar 5) (aCons (dVar 9) aNil))) (aCons (dCallF den_u_law_lengths (aCons (dVar 5) (aCons (dOp2 fIx (dCallF den_u_law_layers (aCons (dOp2 fIx (dVar 5) (dC (D.int 0))) (aCons (dVar 9) aNil))) (dNeg (dC (D.int 1)))) aNil))) aNil))))) (sRet (dC (D.bl false))) sNext)))))
section
variable {q : Pn} {more : Store} {Q : Qs}
theorem chk_loop {rs : List R} {sd : Den} {e0 e1 e2 e4 e5 e6 e7 e8 e9 e10 : Option D} {S : Store} (hc : clS S = true) (hok : ∀ r ∈ rs, r.Ok) (hn : rs.length ≤ 1000) (hsd : ∀ e3 : Option D, sd [e0, e1, e2, e3, e4, e5, e6, e7, e8, e9, e10] S = some (stockD rs, S)) :
    ∀ (rows : List (List U)) (e3 : Option D), (∀ xs ∈ rows, Fit rs xs) → (∀ e3 : Option D, Q (.next, [e0, e1, e2, e3, e4, e5, e6, e7, e8, e9, e10], S)) →
    Wp (forL yesS (forB (gN 3) (chkB sd)) (rows.map rowD) [e0, e1, e2, e3, e4, e5, e6, e7, e8, e9, e10] S) Q
  | [], e3, _, k => by
    rw [List.map_nil, w_fnil]
    exact ⟨rfl, k e3⟩
  | xs :: rows, e3, hf, k => by
    rw [List.map_cons, w_fcons]
    refine ⟨rfl, ?_⟩
    have hx := hf xs List.mem_cons_self
    have r1 := reach_eq (rs := rs) (xs := xs) hc hx.1 fun r hr => by have := (hok r hr).len; omega
    have r2 := law_reach_eq (rs := rs) (xs := xs) hc hx.1 (fun p hp => ⟨hok _ (List.of_mem_zip hp).1, hx.2 p hp⟩) hn
    have r3 := same_reach (ps := rs.zip xs) hc
    have ih := chk_loop hc hok hn hsd rows (some (rowD xs)) (fun z hz => hf z (List.mem_cons_of_mem _ hz)) k
    unfold chkB at ih ⊢
    simp
    refine wp_of (hsd _) ?_
    simp
    refine wp_of r1 ?_
    simp
    refine wp_of (hsd _) ?_
    simp
    refine wp_of r2 ?_
    simp
    refine wp_of r3 ?_
    simp
    exact ih
theorem val_loop {e0 e1 e2 e3 e4 e5 e6 e9 e10 : Option D} {S : Store} (hc : clS S = true) : ∀ (vs : List D) (e7 e8 : Option D), (∀ v ∈ vs, VOk 4000 6 v) → (∀ e7 e8 : Option D, Q (.next, [e0, e1, e2, e3, e4, e5, e6, e7, e8, e9, e10], S)) →
    Wp (forL yesS (forB (gN 7) valB) vs [e0, e1, e2, e3, e4, e5, e6, e7, e8, e9, e10] S) Q
  | [], e7, e8, _, k => by
    rw [w_fnil]
    exact ⟨rfl, k e7 e8⟩
  | v :: vs, e7, e8, hv, k => by
    rw [w_fcons]
    refine ⟨rfl, ?_⟩
    have hvo := hv v List.mem_cons_self
    obtain ⟨x, hx⟩ := repr_ev (st := S) (Nat.le_refl M20) hvo.vl (by have := hvo.dep; omega) (by have := hvo.wt; omega)
    obtain ⟨b, e1', i1⟩ := is_watch_eq hc hvo (by omega)
    obtain ⟨c, e2', i2⟩ := law_is_watch_eq hc hvo (by omega)
    have hbc : b = c := by
      rw [Bool.eq_iff_iff]
      exact i1.trans i2.symm
    subst hbc
    have sm := same_bl (n := 7) (i := b) hc
    have ih := val_loop hc vs (some v) (some (.str x)) (fun z hz => hv z (List.mem_cons_of_mem _ hz)) k
    unfold valB at ih ⊢
    simp
    refine wp_of hx ?_
    simp
    refine wp_of e1' ?_
    simp
    refine wp_of e2' ?_
    simp
    refine wp_of sm ?_
    simp
    refine wp_of hx ?_
    simp
    exact ih
theorem turn_loop {e0 e2 : Option D} (hc : clM more) : ∀ (n : Nat) (i : Int) (q : Pn) (e3 e4 e5 e6 e7 e8 e9 e10 : Option D), q.at' + 2000 * n ≤ 400000 → (∀ (q' : Pn) (e3 e4 e5 e6 e7 e8 e9 e10 : Option D), Q (.next, [e0, some (.ref 1), e2, e3, e4, e5, e6, e7, e8, e9, e10], penS q' ++ more)) →
    Wp (forL yesS turnB (rangeD i n) [e0, some (.ref 1), e2, e3, e4, e5, e6, e7, e8, e9, e10] (penS q ++ more)) Q
  | 0, i, q, e3, e4, e5, e6, e7, e8, e9, e10, _, k => by
    rw [rangeD_zero, w_fnil]
    exact ⟨rfl, k q _ _ _ _ _ _ _ _⟩
  | n + 1, i, q, e3, e4, e5, e6, e7, e8, e9, e10, hq, k => by
    rw [rangeD_succ, w_fcons]
    refine ⟨rfl, ?_⟩
    have ih := fun q' e3 e4 e5 e6 e7 e8 e9 e10 hq' => turn_loop hc n (i + 1) q' e3 e4 e5 e6 e7 e8 e9 e10 hq' k
    unfold turnB at ih ⊢
    simp
    refine draw_watch_wp (by omega) (by omega) (by omega) hc fun rs cut lo hi q1 hs hv hcl h0 h1 h2 hq1 => ?_
    have hst := hs.stock
    have hwv := watch_vok (lo := lo) (hi := hi) hst h0 h1 h2
    have bg := stk_big hs
    have hok : ∀ r ∈ rs, r.Ok := fun r hr => (hs.ok r hr).ok
    simp [rng1, small_ok (x := 9) (by omega) (by omega)]
    refine comp_draw (fun v => VOk 4000 6 v) 100 (rangeD 0 9) q1 500000 (by rw [range_len]; omega) (fun d _ q' hq' => ?_) fun ys q2 hyl hys hq2 => ?_
    · simp
      exact near_wp hst h0 h1 h2 (by omega) hc fun v q'' hv' hq'' => ⟨q'', rfl, hq'', hv'⟩
    rw [range_len] at hyl hq2
    simp [hyl]
    have vl := fun Q0 => val_loop (Q := Q0) (e0 := e0) (e1 := some (.ref 1)) (e2 := e2) (e3 := e3) (e4 := some (.int i)) (e5 := some (watchD rs lo hi)) (e6 := some (cutD cut)) (e9 := e9) (e10 := e10) (pen_cl (q := q2) hc) (watchD rs lo hi :: ys) e7 e8 (fun v hv' => by
      rcases List.mem_cons.mp hv' with rfl | h
      · exact hwv.mono (by omega) (by omega)
      · exact hys v h)
    refine vl _ fun e7 e8 => ?_
    have wx0 : ∀ T : Store, fIx T (watchD rs lo hi) (.int 0) = some (stockD rs) := fun _ => rfl
    have ro := rows_eq (rs := rs) (cut := cut) (pen_cl (q := q2) hc) (by have := hs.n4; omega) (fun r hr => by have := (hok r hr).len; omega) hv (by omega)
    simp [wx0]
    refine wp_of ro ?_
    have ck := fun Q0 => chk_loop (Q := Q0) (rs := rs) (sd := dOp2 fIx (dVar 5) (dC (D.int 0))) (e0 := e0) (e1 := some (.ref 1)) (e2 := e2) (e4 := some (.int i)) (e5 := some (watchD rs lo hi)) (e6 := some (cutD cut)) (e7 := e7) (e8 := e8) (e9 := e9) (e10 := e10) (pen_cl (q := q2) hc) hok (by have := hs.n4; omega) (fun e3 => by simp [wx0]) ((rowsL rs (first rs) cut).take 17) e3 (fun xs hx => rows_fit (fit_first rs) hv xs (List.mem_of_mem_take hx))
    rw [List.map_take] at ck
    simp [cut_lit]
    refine ck _ fun e3 => ?_
    simp [wx0]
    refine draw_head_wp hs.ok (valid_pl hv) (by omega) (by omega) hc fun fs q3 hfs hfl hq3 => ?_
    obtain ⟨ns, n1, n2⟩ := lengths_eq (fs := fs) hs (by omega) h0 (by omega) (by omega) h2 (pen_cl (q := q3) hc)
    obtain ⟨Ls, ok, le⟩ := law_layers_eq (fs := fs) bg (by omega) (pen_cl (q := q3) hc)
    obtain ⟨Ls0, L, rfl, ln, lm⟩ := layer_last ok
    obtain ⟨ms, m1, m2⟩ := law_lengths_eq (lo := lo) (hi := hi) hs ln lm h0 (by omega) (by omega) h2 (pen_cl (q := q3) hc)
    have hnm : ns = ms := n1.uniq m1
    subst hnm
    have hnl : ns.length ≤ 16777216 := by
      obtain ⟨M, _, _, e, hM⟩ := n1
      rw [e, List.length_mergeSort]; omega
    have hlast : L2.atI (Ls0.map layD ++ [layD L]) (-1) = some (layD L) := at_last _ _
    have sm := same_ints (ns := ns) (pen_cl (q := q3) hc) hnl
    simp
    refine wp_of n2 ?_
    simp [wx0]
    refine wp_of le ?_
    simp
    refine wp_of hlast ?_
    simp
    refine wp_of m2 ?_
    simp
    refine wp_of sm ?_
    simp
    exact ih q3 _ _ _ _ _ _ _ _ (by omega)
theorem law_true (ns : List Int) (hl : ns.length ≤ 63) : ∃ st', den_law [.scr ns] [] = some (.bl true, st') := by
  have : Wp (den_law [.scr ns] []) fun r => r.1 = .bl true := by
    refine wp_frz ?_
    unfold b_law
    simp
    refine open_wp hl fun q0 hq0 => ?_
    obtain ⟨more, hm⟩ : ∃ more : Store, more = [] := ⟨_, rfl⟩
    have hc : clM more := by rw [hm]; exact clM_nil
    have e0 : penS q0 = penS q0 ++ more := by rw [hm, List.append_nil]
    rw [e0]
    clear e0
    simp
    refine wide_wp (by omega) hc fun rs q1 hs hq1 => ?_
    simp
    refine draw_cut_wp hs (by omega) hc fun cut q2 hv hcl hq2 => ?_
    have ro := rows_eq (rs := rs) (cut := cut) (pen_cl (q := q2) hc) (by have := hs.2.2; omega) (fun r hr => by have := (hs.1 r hr).len; omega) hv (by omega)
    have ck := fun Q0 => chk_loop (Q := Q0) (rs := rs) (sd := dVar 2) (e0 := some (.scr ns)) (e1 := some (.ref 1)) (e2 := some (stockD rs)) (e4 := none) (e5 := none) (e6 := none) (e7 := none) (e8 := none) (e9 := none) (e10 := none) (pen_cl (q := q2) hc) hs.1 (by have := hs.2.2; omega) (fun e3 => rfl) ((rowsL rs (first rs) cut).take 17) none (fun xs hx => rows_fit (fit_first rs) hv xs (List.mem_of_mem_take hx))
    rw [List.map_take] at ck
    simp
    refine wp_of ro ?_
    simp [cut_lit]
    refine ck _ fun e3 => ?_
    simp [rng1, small_ok (x := 3) (by omega) (by omega)]
    refine turn_loop hc 3 0 q2 _ _ _ _ _ _ _ _ (by omega) fun q3 e3 e4 e5 e6 e7 e8 e9 e10 => ?_
    simp
    exact wp_of (out_new (old := []) rfl rfl rfl) rfl
  obtain ⟨⟨d, s⟩, e, h⟩ := this
  simp only at h
  subst h
  exact ⟨s, e⟩
end
end K82
set_option Elab.async false
set_option linter.all false
set_option maxRecDepth 100000
set_option maxHeartbeats 0
namespace K82
open PySem PySem.Spec PyProof.Rows L2 DL
def faL0 : List He.Fa := [.glo "_law_open", .glo "_law_spread", .glo "_law_take", .glo "_law_one_of", .glo "_law_wide_stock", .glo "_law_first", .glo "_law_left", .glo "_law_run_on", .glo "_law_rows_of", .glo "_law_letters", .glo "_law_draw_stock", .glo "_law_draw_cut", .glo "_law_draw_watch", .glo "_law_draw_frame", .glo "_law_draw_head", .glo "_law_same", .glo "still_to_come", .glo "reach", .glo "_law_totals", .glo "_law_reach", .glo "_law_odd", .glo "_law_bent", .glo "_law_edges", .glo "_law_near", .glo "first_row_of", .glo "kept_after", .glo "last_frame", .glo "holds", .glo "fits", .glo "left_out"]
def faL1 : List He.Fa := [.glo "run_after", .glo "steps_from", .glo "layers", .glo "case_of", .glo "lengths", .glo "_law_lengths", .glo "is_integer", .glo "are_letters", .glo "is_reel", .glo "is_stock", .glo "is_watch", .glo "_law_between", .glo "_law_is_reel", .glo "_law_is_watch", .glo "_law_steps", .glo "_law_layers", .glo "law", .free "all", .free "bool", .free "enumerate", .free "int", .free "isinstance", .free "len", .free "list", .free "max", .free "min", .free "range", .free "repr", .free "set", .free "sorted"]
def faL2 : List He.Fa := [.free "str", .free "sum", .free "tuple", .free "zip", .str "LETTERS" "abcdefghijklmnopqrstuvwxyz", .int "MOST_SIGNS" (10), .int "MOST_REELS" (4), .int "MOST_PRODUCT" (600), .int "MOST_FRAMES" (16), .glo "EMPTY_RUN", .int "MOST_WATCHED" (100)]
def faL : List He.Fa := faL0 ++ faL1 ++ faL2
def fnL0 : List He.DefD := [dfd "_law_open" s_u_law_open, dfd "_law_spread" s_u_law_spread, dfd "_law_take" s_u_law_take, dfd "_law_one_of" s_u_law_one_of, dfd "_law_wide_stock" s_u_law_wide_stock, dfd "_law_first" s_u_law_first, dfd "_law_left" s_u_law_left, dfd "_law_run_on" s_u_law_run_on, dfd "_law_rows_of" s_u_law_rows_of, dfd "_law_letters" s_u_law_letters, dfd "_law_draw_stock" s_u_law_draw_stock, dfd "_law_draw_cut" s_u_law_draw_cut, dfd "_law_draw_watch" s_u_law_draw_watch, dfd "_law_draw_frame" s_u_law_draw_frame, dfd "_law_draw_head" s_u_law_draw_head, dfd "_law_same" s_u_law_same, dfd "still_to_come" s_still_to_come, dfd "reach" s_reach, dfd "_law_totals" s_u_law_totals, dfd "_law_reach" s_u_law_reach, dfd "_law_odd" s_u_law_odd, dfd "_law_bent" s_u_law_bent, dfd "_law_edges" s_u_law_edges, dfd "_law_near" s_u_law_near, dfd "first_row_of" s_first_row_of, dfd "kept_after" s_kept_after, dfd "last_frame" s_last_frame, dfd "holds" s_holds, dfd "fits" s_fits, dfd "left_out" s_left_out]
def fnL1 : List He.DefD := [dfd "run_after" s_run_after, dfd "steps_from" s_steps_from, dfd "layers" s_layers, dfd "case_of" s_case_of, dfd "lengths" s_lengths, dfd "_law_lengths" s_u_law_lengths, dfd "is_integer" s_is_integer, dfd "are_letters" s_are_letters, dfd "is_reel" s_is_reel, dfd "is_stock" s_is_stock, dfd "is_watch" s_is_watch, dfd "_law_between" s_u_law_between, dfd "_law_is_reel" s_u_law_is_reel, dfd "_law_is_watch" s_u_law_is_watch, dfd "_law_steps" s_u_law_steps, dfd "_law_layers" s_u_law_layers, dfd "law" s_law]
def fnL : List He.DefD := fnL0 ++ fnL1
def exL (K : PySem.W.Frag) : Bool := He.tupB K "EMPTY_RUN" [.int (0), .int (-1), .int (0)]
theorem facts {K : PySem.W.Frag} {h : Heap} {mg : Str → Option Value} (X : K.In h) (G : h.Ns mainGlobals mg) (c : SaysX faL fnL exL K) : All K mg where
  d_u_law_open := defAt_of X G c 0 0 rfl rfl fun _ _ _ _ _ _ us hl => match us, hl with | [_], _ => rfl
  d_u_law_spread := defAt_of X G c 1 1 rfl rfl fun _ _ _ _ _ _ us hl => match us, hl with | [_, _], _ => rfl
  d_u_law_take := defAt_of X G c 2 2 rfl rfl fun _ _ _ _ _ _ us hl => match us, hl with | [_, _], _ => rfl
  d_u_law_one_of := defAt_of X G c 3 3 rfl rfl fun _ _ _ _ _ _ us hl => match us, hl with | [_, _], _ => rfl
  d_u_law_wide_stock := defAt_of X G c 4 4 rfl rfl fun _ _ _ _ _ _ us hl => match us, hl with | [_], _ => rfl
  d_u_law_first := defAt_of X G c 5 5 rfl rfl fun _ _ _ _ _ _ us hl => match us, hl with | [_], _ => rfl
  d_u_law_left := defAt_of X G c 6 6 rfl rfl fun _ _ _ _ _ _ us hl => match us, hl with | [_, _], _ => rfl
  d_u_law_run_on := defAt_of X G c 7 7 rfl rfl fun _ _ _ _ _ _ us hl => match us, hl with | [_, _, _], _ => rfl
  d_u_law_rows_of := defAt_of X G c 8 8 rfl rfl fun _ _ _ _ _ _ us hl => match us, hl with | [_, _], _ => rfl
  d_u_law_letters := defAt_of X G c 9 9 rfl rfl fun _ _ _ _ _ _ us hl => match us, hl with | [], _ => rfl
  d_u_law_draw_stock := defAt_of X G c 10 10 rfl rfl fun _ _ _ _ _ _ us hl => match us, hl with | [_, _], _ => rfl
  d_u_law_draw_cut := defAt_of X G c 11 11 rfl rfl fun _ _ _ _ _ _ us hl => match us, hl with | [_, _], _ => rfl
  d_u_law_draw_watch := defAt_of X G c 12 12 rfl rfl fun _ _ _ _ _ _ us hl => match us, hl with | [_, _], _ => rfl
  d_u_law_draw_frame := defAt_of X G c 13 13 rfl rfl fun _ _ _ _ _ _ us hl => match us, hl with | [_, _], _ => rfl
  d_u_law_draw_head := defAt_of X G c 14 14 rfl rfl fun _ _ _ _ _ _ us hl => match us, hl with | [_, _, _], _ => rfl
  d_u_law_same := defAt_of X G c 15 15 rfl rfl fun _ _ _ _ _ _ us hl => match us, hl with | [_, _], _ => rfl
  d_still_to_come := defAt_of X G c 16 16 rfl rfl fun _ _ _ _ _ _ us hl => match us, hl with | [_, _], _ => rfl
  d_reach := defAt_of X G c 17 17 rfl rfl fun _ _ _ _ _ _ us hl => match us, hl with | [_, _], _ => rfl
  d_u_law_totals := defAt_of X G c 18 18 rfl rfl fun _ _ _ _ _ _ us hl => match us, hl with | [_, _], _ => rfl
  d_u_law_reach := defAt_of X G c 19 19 rfl rfl fun _ _ _ _ _ _ us hl => match us, hl with | [_, _], _ => rfl
  d_u_law_odd := defAt_of X G c 20 20 rfl rfl fun _ _ _ _ _ _ us hl => match us, hl with | [_], _ => rfl
  d_u_law_bent := defAt_of X G c 21 21 rfl rfl fun _ _ _ _ _ _ us hl => match us, hl with | [_, _], _ => rfl
  d_u_law_edges := defAt_of X G c 22 22 rfl rfl fun _ _ _ _ _ _ us hl => match us, hl with | [], _ => rfl
  d_u_law_near := defAt_of X G c 23 23 rfl rfl fun _ _ _ _ _ _ us hl => match us, hl with | [_, _], _ => rfl
  d_first_row_of := defAt_of X G c 24 24 rfl rfl fun _ _ _ _ _ _ us hl => match us, hl with | [_], _ => rfl
  d_kept_after := defAt_of X G c 25 25 rfl rfl fun _ _ _ _ _ _ us hl => match us, hl with | [_, _, _, _], _ => rfl
  d_last_frame := defAt_of X G c 26 26 rfl rfl fun _ _ _ _ _ _ us hl => match us, hl with | [_], _ => rfl
  d_holds := defAt_of X G c 27 27 rfl rfl fun _ _ _ _ _ _ us hl => match us, hl with | [_, _, _], _ => rfl
  d_fits := defAt_of X G c 28 28 rfl rfl fun _ _ _ _ _ _ us hl => match us, hl with | [_, _], _ => rfl
  d_left_out := defAt_of X G c 29 29 rfl rfl fun _ _ _ _ _ _ us hl => match us, hl with | [_, _], _ => rfl
  d_run_after := defAt_of X G c 30 30 rfl rfl fun _ _ _ _ _ _ us hl => match us, hl with | [_, _, _], _ => rfl
  d_steps_from := defAt_of X G c 31 31 rfl rfl fun _ _ _ _ _ _ us hl => match us, hl with | [_, _, _], _ => rfl
  d_layers := defAt_of X G c 32 32 rfl rfl fun _ _ _ _ _ _ us hl => match us, hl with | [_], _ => rfl
  d_case_of := defAt_of X G c 33 33 rfl rfl fun _ _ _ _ _ _ us hl => match us, hl with | [_, _], _ => rfl
  d_lengths := defAt_of X G c 34 34 rfl rfl fun _ _ _ _ _ _ us hl => match us, hl with | [_, _], _ => rfl
  d_u_law_lengths := defAt_of X G c 35 35 rfl rfl fun _ _ _ _ _ _ us hl => match us, hl with | [_, _], _ => rfl
  d_is_integer := defAt_of X G c 36 36 rfl rfl fun _ _ _ _ _ _ us hl => match us, hl with | [_, _, _], _ => rfl
  d_are_letters := defAt_of X G c 37 37 rfl rfl fun _ _ _ _ _ _ us hl => match us, hl with | [_], _ => rfl
  d_is_reel := defAt_of X G c 38 38 rfl rfl fun _ _ _ _ _ _ us hl => match us, hl with | [_], _ => rfl
  d_is_stock := defAt_of X G c 39 39 rfl rfl fun _ _ _ _ _ _ us hl => match us, hl with | [_], _ => rfl
  d_is_watch := defAt_of X G c 40 40 rfl rfl fun _ _ _ _ _ _ us hl => match us, hl with | [_], _ => rfl
  d_u_law_between := defAt_of X G c 41 41 rfl rfl fun _ _ _ _ _ _ us hl => match us, hl with | [_, _, _], _ => rfl
  d_u_law_is_reel := defAt_of X G c 42 42 rfl rfl fun _ _ _ _ _ _ us hl => match us, hl with | [_], _ => rfl
  d_u_law_is_watch := defAt_of X G c 43 43 rfl rfl fun _ _ _ _ _ _ us hl => match us, hl with | [_], _ => rfl
  d_u_law_steps := defAt_of X G c 44 44 rfl rfl fun _ _ _ _ _ _ us hl => match us, hl with | [_, _, _], _ => rfl
  d_u_law_layers := defAt_of X G c 45 45 rfl rfl fun _ _ _ _ _ _ us hl => match us, hl with | [_, _], _ => rfl
  d_law := defAt_of X G c 46 46 rfl rfl fun _ _ _ _ _ _ us hl => match us, hl with | [_], _ => rfl
  n_all := free_of X G c 47 rfl
  n_bool := free_of X G c 48 rfl
  n_enumerate := free_of X G c 49 rfl
  n_int := free_of X G c 50 rfl
  n_isinstance := free_of X G c 51 rfl
  n_len := free_of X G c 52 rfl
  n_list := free_of X G c 53 rfl
  n_max := free_of X G c 54 rfl
  n_min := free_of X G c 55 rfl
  n_range := free_of X G c 56 rfl
  n_repr := free_of X G c 57 rfl
  n_set := free_of X G c 58 rfl
  n_sorted := free_of X G c 59 rfl
  n_str := free_of X G c 60 rfl
  n_sum := free_of X G c 61 rfl
  n_tuple := free_of X G c 62 rfl
  n_zip := free_of X G c 63 rfl
  LETTERS := fun P w => gc_str X G c 64 [97, 98, 99, 100, 101, 102, 103, 104, 105, 106, 107, 108, 109, 110, 111, 112, 113, 114, 115, 116, 117, 118, 119, 120, 121, 122] rfl rfl
  MOST_SIGNS := fun P w => gc_int X G c 65 rfl
  MOST_REELS := fun P w => gc_int X G c 66 rfl
  MOST_PRODUCT := fun P w => gc_int X G c 67 rfl
  MOST_FRAMES := fun P w => gc_int X G c 68 rfl
  EMPTY_RUN := fun P w => gc_tup X G c 69 [(0), (-1), (0)] rfl c.x
  MOST_WATCHED := fun P w => gc_int X G c 70 rfl
abbrev Rw : PySem.W.OpenRow := PySem.W.OpenLaw.row PySem.Challenge.rw_reelsplice_k82_watches_and_reaches
abbrev hkL : PySem.W.Hook := hookX 4 faL fnL exL
def obL (s : PySem.W.SharedT) : AlX := obsXG 4 faL fnL exL (HandSHeadRun.getT s)
theorem ob_eq (s : PySem.W.SharedT) : obL s = hkL.obs s.abs := obsXG_eq (HandSHeadRun.getT_eq s)
def nmL0 : List Str := ["LETTERS", "MOST_SIGNS", "MOST_REELS", "MOST_PRODUCT", "MOST_FRAMES", "is_integer", "are_letters", "is_reel", "is_stock", "fits", "EMPTY_RUN", "left_out", "run_after", "needed", "last_frame", "holds", "kept_after", "first_row_of", "steps_from", "layers", "MOST_WATCHED", "is_watch", "still_to_come", "reach", "case_of", "lengths", "_law_open", "_law_spread", "_law_take", "_law_same"]
def nmL1 : List Str := ["_law_one_of", "_law_between", "_law_odd", "_law_bent", "_law_letters", "_law_left", "_law_run_on", "_law_first", "_law_steps", "_law_totals", "_law_reach", "_law_layers", "_law_lengths", "_law_rows_of", "_law_draw_stock", "_law_draw_cut", "_law_draw_watch", "_law_draw_frame", "_law_draw_head", "_law_is_reel", "_law_is_watch", "_law_edges", "_law_near", "_law_wide_stock"]
def nmL : List Str := nmL0 ++ nmL1
theorem run (w : World) : HandSHeadRun.RunEq Rw (PySem.W.view Rw.prog [58]) hkL obL 4000 nmL w := by
  intro os
  kernel_rfl
end K82
open PySem PySem.W PySem.Calls PyProof.Rows
theorem PySem.Challenge.cw_reelsplice_k82_watches_and_reaches_holds : PySem.Challenge.rw_reelsplice_k82_watches_and_reaches.Holds := by
  w_on; o_law
  refine HandSHeadRun.head_any (r := OpenLaw.row PySem.Challenge.rw_reelsplice_k82_watches_and_reaches) (q := view (OpenLaw.row PySem.Challenge.rw_reelsplice_k82_watches_and_reaches).prog [58]) (H := K82.hkL) (ob := K82.obL) (M := 4000) (loose := K82.nmL) (d := HandSHeadRun.topDef (OpenLaw.row PySem.Challenge.rw_reelsplice_k82_watches_and_reaches).prog 58) (kwd := []) K82.ob_eq
    (by kernel_rfl) (fun s => by kernel_rfl) K82.run (by kernel_rfl) (by kernel_rfl) (by kernel_rfl) (by rfl) (by first | assumption | decide +kernel) (by decide +kernel) ⟨rfl, rfl, rfl, rfl, rfl, by decide +kernel⟩ ?hw ?hc
  case hw => w_witness2
  case hc =>
    refine DL.walk_ofGE (l := PySem.Challenge.rw_reelsplice_k82_watches_and_reaches) (n := 63) (k := 14) (x := "script") (g := K82.den_law) rfl (by decide) (by kernel_rfl) ⟨rfl, by decide, by decide⟩ ?F K82.law_true
    rintro w mg h ⟨K, KX, c⟩ G
    refine ⟨K, KX, fun base => ?_⟩
    have e : (HandSHeadRun.topDef (OpenLaw.row PySem.Challenge.rw_reelsplice_k82_watches_and_reaches).prog 58).name = ("law" : PySem.Str) := by kernel_rfl
    rw [e]
    exact K82.ok_law (K82.facts KX G c)
