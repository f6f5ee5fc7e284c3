import PyProof.Rows.All
import Wide.All
import OpenK.AllK
import Wide.FinOn
import HandS.ForMost
import HandS.ForExc
import HandS.DictComp
import HandS.Conv
import HandS.IsInst
import HandS.TupAny
import HandS.Style
import HandS.Deep
import HandS.Lambda
import HandS.Nested
import HandS.EndTab
import HandS.SetKeys
import HandS.Zip
import HandS.ListItems
import HandS.DeepEq
import KE.KDictZip
import HandS.TupMul
import PySem.Challenge.RW_termtide_k07_whole_steps
set_option Elab.async false
set_option linter.all false
set_option maxRecDepth 100000
set_option maxHeartbeats 4000000
/-! PL: a layer over HandS. Abstract data D (no heap), abstract slots A; every rule of HandS is taken once to a transformer over them. -/
namespace PL
open PySem PySem.Spec PyProof.Rows L2

/-! ### data that never change -/
inductive D where
  | non | bl (b : Bool) | int (i : Int) | str (s : Str) | tup (ds : List D)
  | lst (ds : List D)  -- a list that is never changed again

mutual
inductive Rep (K : PySem.W.Frag) (H : Hp) : V → D → Prop
  | non : Rep K H .non .non
  | bl (b : Bool) : Rep K H (.bl b) (.bl b)
  | int (i : Int) : Rep K H (.int i) (.int i)
  | str (x : Str) : Rep K H (.str x) (.str x)
  | tup {a : Addr} {xs : List V} {ds : List D} : SqT K H a xs → Reps K H xs ds → Rep K H (.ref a) (.tup ds)
  | lst {a : Addr} {od : Obj} {xs : List V} {ds : List D} : H a = some (.frz od (.lst xs)) → Reps K H xs ds → Rep K H (.ref a) (.lst ds)
inductive Reps (K : PySem.W.Frag) (H : Hp) : List V → List D → Prop
  | nil : Reps K H [] []
  | cons {v : V} {vs : List V} {d : D} {ds : List D} : Rep K H v d → Reps K H vs ds → Reps K H (v :: vs) (d :: ds)
end

/-- tuples stay, and lists that are never changed again -/
structure TK (H H' : Hp) : Prop where
  tup : ∀ p xs, Rd H p (.tup xs) → Rd H' p (.tup xs)
  frz : ∀ p od xs, H p = some (.frz od (.lst xs)) → H' p = some (.frz od (.lst xs))
section
variable {K : PySem.W.Frag} {H H' H'' : Hp}
theorem TK.refl : TK H H := ⟨fun _ _ h => h, fun _ _ _ h => h⟩
theorem TK.trans (a : TK H H') (b : TK H' H'') : TK H H'' := ⟨fun p xs h => b.tup p xs (a.tup p xs h), fun p od xs h => b.frz p od xs (a.frz p od xs h)⟩
theorem TK.sqT {a : Addr} {xs : List V} (k : TK H H') (h : SqT K H a xs) : SqT K H' a xs := by
  rcases h with h | h
  · exact .inl (k.tup _ _ h)
  · exact .inr h
mutual
theorem Rep.mono (k : TK H H') : ∀ {v : V} {d : D}, Rep K H v d → Rep K H' v d
  | _, _, .non => .non
  | _, _, .bl b => .bl b
  | _, _, .int i => .int i
  | _, _, .str x => .str x
  | _, _, .tup h hs => .tup (k.sqT h) (Reps.mono k hs)
  | _, _, .lst h hs => .lst (k.frz _ _ _ h) (Reps.mono k hs)
theorem Reps.mono (k : TK H H') : ∀ {vs : List V} {ds : List D}, Reps K H vs ds → Reps K H' vs ds
  | _, _, .nil => .nil
  | _, _, .cons h hs => .cons (Rep.mono k h) (Reps.mono k hs)
end
theorem Reps.length : ∀ {vs : List V} {ds : List D}, Reps K H vs ds → vs.length = ds.length
  | _, _, .nil => rfl
  | _, _, .cons _ t => congrArg (· + 1) (Reps.length t)
theorem Reps.get : ∀ {vs : List V} {ds : List D} {i : Nat} {d : D}, Reps K H vs ds → ds[i]? = some d → ∃ v, vs[i]? = some v ∧ Rep K H v d
  | _, _, _, _, .nil, e => by simp at e
  | _, _, 0, _, .cons r _, e => by simp at e; subst e; exact ⟨_, rfl, r⟩
  | _, _, i + 1, d, .cons _ t, e => by
    obtain ⟨v, h1, h2⟩ := Reps.get (i := i) (d := d) t (by simpa using e)
    exact ⟨v, by simpa using h1, h2⟩
theorem Reps.getV : ∀ {vs : List V} {ds : List D} {i : Nat} {v : V}, Reps K H vs ds → vs[i]? = some v → ∃ d, ds[i]? = some d ∧ Rep K H v d
  | _, _, _, _, .nil, e => by simp at e
  | _, _, 0, _, .cons r _, e => by simp at e; subst e; exact ⟨_, rfl, r⟩
  | _, _, i + 1, v, .cons _ t, e => by
    obtain ⟨d, h1, h2⟩ := Reps.getV (i := i) (v := v) t (by simpa using e)
    exact ⟨d, by simpa using h1, h2⟩
theorem Reps.append : ∀ {vs ws : List V} {ds es : List D}, Reps K H vs ds → Reps K H ws es → Reps K H (vs ++ ws) (ds ++ es)
  | _, _, _, _, .nil, s => s
  | _, _, _, _, .cons r t, s => .cons r (Reps.append t s)
theorem Reps.take : ∀ {vs : List V} {ds : List D} (n : Nat), Reps K H vs ds → Reps K H (vs.take n) (ds.take n)
  | _, _, 0, _ => .nil
  | _, _, _ + 1, .nil => .nil
  | _, _, n + 1, .cons r t => .cons r (Reps.take n t)
theorem Reps.drop : ∀ {vs : List V} {ds : List D} (n : Nat), Reps K H vs ds → Reps K H (vs.drop n) (ds.drop n)
  | _, _, 0, r => r
  | _, _, _ + 1, .nil => .nil
  | _, _, n + 1, .cons _ t => Reps.drop n t
theorem Reps.reverse : ∀ {vs : List V} {ds : List D}, Reps K H vs ds → Reps K H vs.reverse ds.reverse
  | _, _, .nil => .nil
  | _, _, .cons r t => by rw [List.reverse_cons, List.reverse_cons]; exact (Reps.reverse t).append (.cons r .nil)
theorem Reps.set {x : V} {d : D} (r : Rep K H x d) : ∀ {vs : List V} {ds : List D} (i : Nat), Reps K H vs ds → Reps K H (vs.set i x) (ds.set i d)
  | _, _, _, .nil => .nil
  | _, _, 0, .cons _ t => .cons r t
  | _, _, i + 1, .cons q t => .cons q (Reps.set r i t)
theorem Reps.eraseIdx : ∀ {vs : List V} {ds : List D} (i : Nat), Reps K H vs ds → Reps K H (vs.eraseIdx i) (ds.eraseIdx i)
  | _, _, _, .nil => .nil
  | _, _, 0, .cons _ t => t
  | _, _, i + 1, .cons q t => .cons q (Reps.eraseIdx i t)
theorem Reps.dropLast {vs : List V} {ds : List D} (h : Reps K H vs ds) : Reps K H vs.dropLast ds.dropLast := by
  rw [List.dropLast_eq_take, List.dropLast_eq_take, h.length]
  exact h.take _
theorem Reps.ints : ∀ (ns : List Int), Reps K H (ns.map V.int) (ns.map D.int)
  | [] => .nil
  | n :: r => .cons (.int n) (Reps.ints r)
theorem Reps.ints_of : ∀ {vs : List V} {ns : List Int}, Reps K H vs (ns.map D.int) → vs = ns.map V.int
  | _, [], h => by cases h; rfl
  | _, n :: r, h => by
    cases h with
    | cons h1 h2 =>
      cases h1
      rw [Reps.ints_of h2] <;> rfl
theorem Reps.strs_of : ∀ {vs : List V} {ns : List Str}, Reps K H vs (ns.map D.str) → vs = ns.map V.str
  | _, [], h => by cases h; rfl
  | _, n :: r, h => by
    cases h with
    | cons h1 h2 =>
      cases h1
      rw [Reps.strs_of h2] <;> rfl
theorem Reps.bls_of : ∀ {vs : List V} {ns : List Bool}, Reps K H vs (ns.map D.bl) → vs = ns.map V.bl
  | _, [], h => by cases h; rfl
  | _, n :: r, h => by
    cases h with
    | cons h1 h2 =>
      cases h1
      rw [Reps.bls_of h2] <;> rfl
end

/-! ### the stream of a law: a list [cells, current, place, mixed] at a, the cells' list at c -/
/-- st: the stream (none: there is none), tb: the tables of code objects that lambdas are written into -/
structure Sm where
  st : Option (Addr × Addr)
  tb : List (Addr × Str)
def StmAt (a c : Addr) (H : Hp) : Prop := ∃ (ns : List Int) (cur pos mix : Int), H a = some (.lst [.ref c, .int cur, .int pos, .int mix]) ∧ H c = some (.lst (ns.map V.int)) ∧ 0 ≤ cur ∧ 0 ≤ pos ∧ 0 ≤ mix ∧ mix < 2147483647 ∧ ns.length ≤ 1000
def StOk : Option (Addr × Addr) → Hp → Prop
  | none, _ => True
  | some (a, c), H => StmAt a c H
structure StmOk (S : Sm) (H : Hp) : Prop where
  st : StOk S.st H
  tb : LamX.Tabs S.tb H
structure NotS (S : Sm) (q : Addr) : Prop where
  st : ∀ a c, S.st = some (a, c) → q ≠ a
  tb : ∀ p ∈ S.tb, q ≠ p.1
theorem StmOk.fresh {S : Sm} {H : Hp} {q : Addr} (h : StmOk S H) (n : H q = none) : NotS S q := by
  refine ⟨fun a c e z => ?_, fun p hp z => ?_⟩
  · have h1 := h.st
    rw [e] at h1
    obtain ⟨_, _, _, _, e1, _⟩ := h1
    rw [← z, n] at e1
    cases e1
  · obtain ⟨_, e1, _⟩ := h.tb p hp
    rw [← z, n] at e1
    cases e1
theorem StmOk.notTup {S : Sm} {H : Hp} {q : Addr} {o : HO} (h : StmOk S H) (n : H q = some o) (no : ∀ xs, o ≠ .lst xs) (nt : ∀ xs, o ≠ .tbl xs := by intro _ z; cases z) : NotS S q := by
  refine ⟨fun a c e z => ?_, fun p hp z => ?_⟩
  · have h1 := h.st
    rw [e] at h1
    obtain ⟨_, _, _, _, e1, _⟩ := h1
    rw [← z, n] at e1
    exact no _ (Option.some.inj e1)
  · obtain ⟨_, e1, _⟩ := h.tb p hp
    rw [← z, n] at e1
    exact nt _ (Option.some.inj e1)
theorem notCode {H : Hp} {q : Addr} {o : HO} (h : H q = some o) (n : ∀ f, o ≠ .ext f := by intro _ z; cases z) : ∀ x, H q ≠ some (LamX.CodeO q x) := fun x z => by
  rw [h] at z
  exact n _ (Option.some.inj z)
theorem notCode0 {H : Hp} {q : Addr} (h : H q = none) : ∀ x, H q ≠ some (LamX.CodeO q x) := fun x z => by
  rw [h] at z
  cases z

/-- what an expression may do to the heap: new objects, and the stream -/
structure Ev (S : Sm) (H H' : Hp) : Prop where
  keep : ∀ b o, H b = some o → NotS S b → H' b = some o
  tup : TK H H'
  stm : StmOk S H'
section
variable {K : PySem.W.Frag} {S : Sm} {H H' H'' : Hp}
theorem Ev.refl (h : StmOk S H) : Ev S H H := ⟨fun _ _ e _ => e, TK.refl, h⟩
theorem Ev.trans (a : Ev S H H') (b : Ev S H' H'') : Ev S H H'' := ⟨fun c o e n => b.keep c o (a.keep c o e n) n, a.tup.trans b.tup, b.stm⟩
theorem tk_new {p : Addr} {o : HO} (n : H p = none) : TK H (upd H p o) := by
  have k : ∀ q u, H q = some u → (upd H p o) q = some u := fun q u h => by rw [upd_ne (ne_of_none h n)]; exact h
  exact ⟨fun q xs h => h.elim (fun h => .inl (k _ _ h)) fun ⟨z, h⟩ => .inr ⟨z, k _ _ h⟩, fun q od xs h => k _ _ h⟩
/-- what is neither a tuple nor a stilled one may change, and tuples stay -/
theorem tk_mut {q : Addr} {o o' : HO} (h : H q = some o) (n1 : ∀ xs, o ≠ .tup xs) (n2 : ∀ a b, o ≠ .frz a b) : TK H (upd H q o') := by
  have k : ∀ p u, H p = some u → u ≠ o → (upd H q o') p = some u := fun p u e ne => by
    have : p ≠ q := fun y => by
      subst y
      rw [h] at e
      exact ne (Option.some.inj e).symm
    rw [upd_ne this]
    exact e
  exact ⟨fun p xs z => z.elim (fun z => .inl (k _ _ z fun y => n1 _ y.symm)) fun ⟨b, z⟩ => .inr ⟨b, k _ _ z fun y => n2 _ _ y.symm⟩, fun p od xs z => k _ _ z fun y => n2 _ _ y.symm⟩
theorem StmOk.upd {p : Addr} {o : HO} (h : StmOk S H) (n1 : NotS S p) (n2 : ∀ a c, S.st = some (a, c) → p ≠ c) (n3 : ∀ x, H p ≠ some (LamX.CodeO p x)) : StmOk S (upd H p o) := by
  refine ⟨?_, fun q hq => ?_⟩
  · have h1 := h.st
    cases e : S.st with
    | none => trivial
    | some z =>
      obtain ⟨a, c⟩ := z
      rw [e] at h1
      obtain ⟨ns, cur, pos, mix, e1, e2, r⟩ := h1
      exact ⟨ns, cur, pos, mix, by rw [upd_ne (Ne.symm (n1.st a c e))]; exact e1, by rw [upd_ne (Ne.symm (n2 a c e))]; exact e2, r⟩
  · obtain ⟨ps, e1, e2, e3⟩ := h.tb q hq
    refine ⟨ps, by rw [upd_ne (Ne.symm (n1.tb q hq))]; exact e1, e2, fun ps cv hc => ?_⟩
    obtain ⟨c, h1, h2⟩ := e3 ps cv hc
    refine ⟨c, h1, ?_⟩
    rw [upd_ne fun z => n3 q.2 (by rw [← z]; exact h2)]
    exact h2
theorem StmOk.cfresh {q : Addr} (h : StmOk S H) (n : H q = none) : ∀ a c, S.st = some (a, c) → q ≠ c := fun a c e z => by
  have h1 := h.st
  rw [e] at h1
  obtain ⟨_, _, _, _, _, e2, _⟩ := h1
  rw [← z, n] at e2
  cases e2
theorem Ev.new {p : Addr} {o : HO} (h : StmOk S H) (n : H p = none) : Ev S H (upd H p o) :=
  ⟨fun b u e _ => by rw [upd_ne (ne_of_none e n)]; exact e, tk_new n, h.upd (h.fresh n) (h.cfresh n) (notCode0 n)⟩
theorem Ev.back {q : Addr} (e : Ev S H H') (h : StmOk S H) (n : H' q = none) : H q = none := by
  cases z : H q with
  | none => rfl
  | some o =>
    by_cases c : NotS S q
    · rw [e.keep q o z c] at n
      cases n
    · have : NotS S q := e.stm.fresh n
      exact absurd this c
theorem Ev.rd {a : Addr} {u : HO} (e : Ev S H H') (n : NotS S a) (h : Rd H a u) : Rd H' a u := by
  rcases h with h | ⟨z, h⟩
  · exact .inl (e.keep _ _ h n)
  · exact .inr ⟨z, e.keep _ _ h n⟩
theorem Ev.sqL {a : Addr} {xs : List V} (e : Ev S H H') (n : NotS S a) (h : SqL K H a xs) : SqL K H' a xs := by
  rcases h with h | h
  · exact .inl (e.rd n h)
  · exact .inr h
end

/-! ### objects that change -/
inductive C where
  | lst (xs : List D)
  | dk (kvs : List (Key × D))
  | dt (kvs : List (List Key × D))
  | kk (kvs : List (Key × D))  -- a dict that is read only, locked or not
  | ll (kvs : List (Key × D))  -- a locked dict
def KVs {κ : Type} (K : PySem.W.Frag) (H : Hp) : List (κ × V) → List (κ × D) → Prop := Paired fun p q => p.1 = q.1 ∧ Rep K H p.2 q.2
theorem KVs.mono {κ : Type} {K : PySem.W.Frag} {H H' : Hp} (k : TK H H') : ∀ {xs : List (κ × V)} {ys : List (κ × D)}, KVs K H xs ys → KVs K H' xs ys
  | _, _, .nil => .nil
  | _, _, .cons r t => .cons ⟨r.1, r.2.mono k⟩ (KVs.mono k t)
/-- it stands at q, and may be written -/
def Stands (K : PySem.W.Frag) (H : Hp) (q : Addr) : C → Prop
  | .lst xs => ∃ vs, H q = some (.lst vs) ∧ Reps K H vs xs
  | .dk kvs => ∃ ws, H q = some (.dK ws) ∧ KVs K H ws kvs
  | .dt kvs => ∃ ws, H q = some (.dT ws) ∧ KVs K H ws kvs
  | .kk kvs => ∃ ws, H q = some (.dK ws) ∧ KVs K H ws kvs
  | .ll _ => False
/-- it may be read at q -/
def Read (K : PySem.W.Frag) (H : Hp) (q : Addr) : C → Prop
  | .lst xs => ∃ vs, Rd H q (.lst vs) ∧ Reps K H vs xs
  | .dk kvs => ∃ ws, H q = some (.dK ws) ∧ KVs K H ws kvs
  | .dt kvs => ∃ ws, H q = some (.dT ws) ∧ KVs K H ws kvs
  | .kk kvs => ∃ ws, Rd H q (.dK ws) ∧ KVs K H ws kvs
  | .ll kvs => ∃ od ws, H q = some (.frz od (.dK ws)) ∧ KVs K H ws kvs
theorem Stands.read {K : PySem.W.Frag} {H : Hp} {q : Addr} {c : C} (h : Stands K H q c) : Read K H q c := by
  cases c with
  | lst xs => obtain ⟨vs, z, r⟩ := h; exact ⟨vs, .inl z, r⟩
  | dk kvs => exact h
  | dt kvs => exact h
  | kk kvs => obtain ⟨vs, z, r⟩ := h; exact ⟨vs, .inl z, r⟩
  | ll kvs => exact h.elim
theorem Read.some {K : PySem.W.Frag} {H : Hp} {q : Addr} {c : C} (h : Read K H q c) : ∃ o, H q = some o := by
  cases c with
  | lst xs => obtain ⟨vs, e | ⟨o, e⟩, r⟩ := h <;> exact ⟨_, e⟩
  | dk kvs => obtain ⟨vs, e, r⟩ := h; exact ⟨_, e⟩
  | dt kvs => obtain ⟨vs, e, r⟩ := h; exact ⟨_, e⟩
  | kk kvs => obtain ⟨vs, e | ⟨o, e⟩, r⟩ := h <;> exact ⟨_, e⟩
  | ll kvs => obtain ⟨od, vs, e, r⟩ := h; exact ⟨_, e⟩
theorem Read.step {K : PySem.W.Frag} {S : Sm} {H H' : Hp} {q : Addr} {c : C} (h : Read K H q c) (e : Ev S H H') (n : NotS S q) : Read K H' q c := by
  cases c with
  | lst xs => obtain ⟨vs, z | ⟨o, z⟩, r⟩ := h
              · exact ⟨vs, .inl (e.keep _ _ z n), r.mono e.tup⟩
              · exact ⟨vs, .inr ⟨o, e.keep _ _ z n⟩, r.mono e.tup⟩
  | dk kvs => obtain ⟨vs, z, r⟩ := h; exact ⟨vs, e.keep _ _ z n, r.mono e.tup⟩
  | dt kvs => obtain ⟨vs, z, r⟩ := h; exact ⟨vs, e.keep _ _ z n, r.mono e.tup⟩
  | kk kvs => obtain ⟨vs, z | ⟨o, z⟩, r⟩ := h
              · exact ⟨vs, .inl (e.keep _ _ z n), r.mono e.tup⟩
              · exact ⟨vs, .inr ⟨o, e.keep _ _ z n⟩, r.mono e.tup⟩
  | ll kvs => obtain ⟨od, vs, z, r⟩ := h; exact ⟨od, vs, e.keep _ _ z n, r.mono e.tup⟩
theorem Stands.step {K : PySem.W.Frag} {S : Sm} {H H' : Hp} {q : Addr} {c : C} (h : Stands K H q c) (e : Ev S H H') (n : NotS S q) : Stands K H' q c := by
  cases c with
  | lst xs => obtain ⟨vs, z, r⟩ := h; exact ⟨vs, e.keep _ _ z n, r.mono e.tup⟩
  | dk kvs => obtain ⟨vs, z, r⟩ := h; exact ⟨vs, e.keep _ _ z n, r.mono e.tup⟩
  | dt kvs => obtain ⟨vs, z, r⟩ := h; exact ⟨vs, e.keep _ _ z n, r.mono e.tup⟩
  | kk kvs => obtain ⟨vs, z, r⟩ := h; exact ⟨vs, e.keep _ _ z n, r.mono e.tup⟩
  | ll kvs => exact h.elim
theorem Stands.some {K : PySem.W.Frag} {H : Hp} {q : Addr} {c : C} (h : Stands K H q c) : ∃ o, H q = some o ∧ ∀ xs, o ≠ .tup xs := by
  cases c with
  | lst xs => obtain ⟨vs, e, r⟩ := h; exact ⟨_, e, fun _ z => by cases z⟩
  | dk kvs => obtain ⟨vs, e, r⟩ := h; exact ⟨_, e, fun _ z => by cases z⟩
  | dt kvs => obtain ⟨vs, e, r⟩ := h; exact ⟨_, e, fun _ z => by cases z⟩
  | kk kvs => obtain ⟨vs, e, r⟩ := h; exact ⟨_, e, fun _ z => by cases z⟩
  | ll kvs => exact h.elim

/-! ### abstract slots, abstract results -/
inductive A where
  | any | d (x : D) | o (c : C) | f (c : C) | b (c : C) | strm
  | k (v : V) (F : Hp → Prop)  -- just this value; at the def's entry F was so
inductive R where
  | d (x : D) | n (c : C) | b (c : C) | strm
def A.own : A → Bool
  | .o _ => true
  | _ => false
def A.held : A → Bool
  | .o _ => true
  | .f _ => true
  | _ => false
def nth : List A → Nat → A
  | [], _ => .any
  | a :: _, 0 => a
  | _ :: r, i + 1 => nth r i
def setA : List A → Nat → A → List A
  | [], _, _ => []
  | _ :: r, 0, x => x :: r
  | a :: r, i + 1, x => a :: setA r i x
theorem setA_length : ∀ (ρ : List A) (i : Nat) (x : A), (setA ρ i x).length = ρ.length
  | [], _, _ => rfl
  | _ :: _, 0, _ => rfl
  | _ :: r, i + 1, x => congrArg (· + 1) (setA_length r i x)
theorem nth_setA_same : ∀ (ρ : List A) (i : Nat) (x : A), i < ρ.length → nth (setA ρ i x) i = x
  | [], _, _, h => absurd h (Nat.not_lt_zero _)
  | _ :: _, 0, _, _ => rfl
  | _ :: r, i + 1, x, h => nth_setA_same r i x (Nat.lt_of_succ_lt_succ h)
theorem nth_setA_ne : ∀ (ρ : List A) (i j : Nat) (x : A), j ≠ i → nth (setA ρ i x) j = nth ρ j
  | [], _, _, _, _ => rfl
  | _ :: _, 0, 0, _, h => absurd rfl h
  | _ :: _, 0, _ + 1, _, _ => rfl
  | _ :: _, _ + 1, 0, _, _ => rfl
  | _ :: r, i + 1, j + 1, x, h => nth_setA_ne r i j x fun z => h (congrArg (· + 1) z)
theorem nth_big : ∀ (ρ : List A) (i : Nat), ρ.length ≤ i → nth ρ i = .any
  | [], _, _ => rfl
  | _ :: _, 0, h => absurd h (Nat.not_succ_le_zero _)
  | _ :: r, i + 1, h => nth_big r i (Nat.le_of_succ_le_succ h)
theorem nth_append_left : ∀ (ρ τ : List A) (i : Nat), i < ρ.length → nth (ρ ++ τ) i = nth ρ i
  | [], _, _, h => absurd h (Nat.not_lt_zero _)
  | _ :: _, _, 0, _ => rfl
  | _ :: r, τ, i + 1, h => nth_append_left r τ i (Nat.lt_of_succ_lt_succ h)

def SlotOk (K : PySem.W.Frag) (S : Sm) (H0 H : Hp) : A → Option V → Prop
  | .any, _ => True
  | .d x, o => ∃ v, o = some v ∧ Rep K H v x
  | .o c, o => ∃ q, o = some (.ref q) ∧ H0 q = none ∧ Stands K H q c
  | .f c, o => ∃ q, o = some (.ref q) ∧ H0 q = none ∧ Stands K H q c
  | .b c, o => ∃ q, o = some (.ref q) ∧ NotS S q ∧ Read K H0 q c
  | .strm, o => ∃ a c, S.st = some (a, c) ∧ o = some (.ref a)
  | .k v F, o => o = some v ∧ F H0
/-- what stands still for a while: objects, and what is known of data -/
structure Pr where
  ob : Addr → HO → Prop
  fx : V → D → Prop
/-- the state: σ, H bear ρ; H0 the heap at the def's entry; pr: objects that stand still for a while -/
structure Holds (K : PySem.W.Frag) (S : Sm) (H0 : Hp) (pr : Pr) (ρ : List A) (σ : L2.St) (H : Hp) : Prop where
  ev : Ev S H0 H
  st0 : StmOk S H0
  len : σ.length = ρ.length
  slot : ∀ i, SlotOk K S H0 H (nth ρ i) (σ.getD i none)
  sep : ∀ i j q, (nth ρ i).own = true → (nth ρ j).held = true → i ≠ j → σ.getD i none = some (.ref q) → σ.getD j none = some (.ref q) → False
  prot : ∀ q o, pr.ob q o → H q = some o ∧ NotS S q
  psep : ∀ i q, (nth ρ i).own = true → σ.getD i none = some (.ref q) → ∀ o, ¬ pr.ob q o
  fact : ∀ v d, pr.fx v d → Rep K H v d
section
variable {K : PySem.W.Frag} {S : Sm} {H0 H H' : Hp} {pr pr' : Pr} {ρ : List A} {σ : L2.St}
theorem Holds.stm (h : Holds K S H0 pr ρ σ H) : StmOk S H := h.ev.stm
theorem SlotOk.step {a : A} {o : Option V} (h : SlotOk K S H0 H a o) (st0 : StmOk S H0) (e : Ev S H H') : SlotOk K S H0 H' a o := by
  cases a with
  | any => trivial
  | d x => obtain ⟨v, z, r⟩ := h; exact ⟨v, z, r.mono e.tup⟩
  | o c => obtain ⟨q, z, n, r⟩ := h; exact ⟨q, z, n, r.step e (st0.fresh n)⟩
  | f c => obtain ⟨q, z, n, r⟩ := h; exact ⟨q, z, n, r.step e (st0.fresh n)⟩
  | b c => exact h
  | strm => exact h
  | k v F => exact h
theorem Holds.step (h : Holds K S H0 pr ρ σ H) (e : Ev S H H') : Holds K S H0 pr ρ σ H' :=
  ⟨h.ev.trans e, h.st0, h.len, fun i => (h.slot i).step h.st0 e, h.sep, fun q vs p => ⟨e.keep _ _ (h.prot q vs p).1 (h.prot q vs p).2, (h.prot q vs p).2⟩, h.psep, fun v d f => (h.fact v d f).mono e.tup⟩
theorem Holds.weak (h : Holds K S H0 pr ρ σ H) (w : ∀ q vs, pr'.ob q vs → pr.ob q vs) (wf : ∀ v d, pr'.fx v d → pr.fx v d) : Holds K S H0 pr' ρ σ H :=
  ⟨h.ev, h.st0, h.len, h.slot, h.sep, fun q vs p => h.prot q vs (w q vs p), fun i q o s ob z => h.psep i q o s ob (w q ob z), fun v d f => h.fact v d (wf v d f)⟩
theorem getD_set_same {α : Type} {l : List α} {i : Nat} {x d : α} (h : i < l.length) : (l.set i x).getD i d = x := by
  rw [List.getD_eq_getElem?_getD, List.getElem?_set_self h]
  rfl
theorem getD_set_ne {α : Type} {l : List α} {i j : Nat} {x d : α} (h : j ≠ i) : (l.set i x).getD j d = l.getD j d := by
  rw [List.getD_eq_getElem?_getD, List.getD_eq_getElem?_getD, List.getElem?_set_ne (Ne.symm h)]
theorem getD_get {l : L2.St} {i : Nat} {v : V} (h : l.getD i none = some v) : l[i]? = some (some v) := by
  rw [List.getD_eq_getElem?_getD] at h
  cases z : l[i]? with
  | none => rw [z] at h; cases h
  | some o =>
    rw [z] at h
    have h : o = some v := h
    rw [h]
/-- a slot is stored: what comes in is not held elsewhere (if it is to be held) -/
theorem Holds.store {i : Nat} {a : A} {v : V} (h : Holds K S H0 pr ρ σ H) (s : SlotOk K S H0 H a (some v))
    (n1 : a.own = true → ∀ q, v = .ref q → ∀ o, ¬ pr.ob q o) (n2 : ∀ j q, v = .ref q → j ≠ i → (a.own = true → (nth ρ j).held = true → σ.getD j none ≠ some (.ref q)) ∧ (a.held = true → (nth ρ j).own = true → σ.getD j none ≠ some (.ref q))) :
    Holds K S H0 pr (setA ρ i a) (σ.set i (some v)) H := by
  by_cases hi : i < ρ.length
  · have hs : i < σ.length := by rw [h.len]; exact hi
    refine ⟨h.ev, h.st0, by rw [List.length_set, setA_length]; exact h.len, fun j => ?_, fun j k q o1 o2 ne s1 s2 => ?_, h.prot, fun j q o1 s1 => ?_, h.fact⟩
    · by_cases e : j = i
      · subst e
        rw [nth_setA_same _ _ _ hi, getD_set_same hs]
        exact s
      · rw [nth_setA_ne _ _ _ _ e, getD_set_ne e]
        exact h.slot j
    · by_cases e1 : j = i
      · subst e1
        have e2 : k ≠ j := fun z => ne z.symm
        rw [nth_setA_same _ _ _ hi] at o1
        rw [nth_setA_ne _ _ _ _ e2] at o2
        rw [getD_set_same hs] at s1
        rw [getD_set_ne e2] at s2
        exact (n2 k q (Option.some.inj s1) e2).1 o1 o2 s2
      · rw [nth_setA_ne _ _ _ _ e1] at o1
        rw [getD_set_ne e1] at s1
        by_cases e2 : k = i
        · subst e2
          rw [nth_setA_same _ _ _ hi] at o2
          rw [getD_set_same hs] at s2
          exact (n2 j q (Option.some.inj s2) e1).2 o2 o1 s1
        · rw [nth_setA_ne _ _ _ _ e2] at o2
          rw [getD_set_ne e2] at s2
          exact h.sep j k q o1 o2 ne s1 s2
    · by_cases e1 : j = i
      · subst e1
        rw [nth_setA_same _ _ _ hi] at o1
        rw [getD_set_same hs] at s1
        exact n1 o1 q (Option.some.inj s1)
      · rw [nth_setA_ne _ _ _ _ e1] at o1
        rw [getD_set_ne e1] at s1
        exact h.psep j q o1 s1
  · have e1 : setA ρ i a = ρ := by
      have : ∀ (ρ : List A) (i : Nat), ρ.length ≤ i → setA ρ i a = ρ := by
        intro ρ
        induction ρ with
        | nil => intro i _; rfl
        | cons b r ih =>
          intro i hh
          cases i with
          | zero => exact absurd hh (Nat.not_succ_le_zero _)
          | succ i => exact congrArg (b :: ·) (ih i (Nat.le_of_succ_le_succ hh))
      exact this ρ i (Nat.le_of_not_lt hi)
    have e2 : σ.set i (some v) = σ := List.set_eq_of_length_le (by rw [h.len]; exact Nat.le_of_not_lt hi)
    rw [e1, e2]
    exact h
/-- data into a slot -/
theorem Holds.storeD {i : Nat} {x : D} {v : V} (h : Holds K S H0 pr ρ σ H) (r : Rep K H v x) : Holds K S H0 pr (setA ρ i (.d x)) (σ.set i (some v)) H :=
  h.store ⟨v, rfl, r⟩ (fun z => by cases z) fun j q _ _ => ⟨(fun z => by cases z), fun z => by cases z⟩
theorem Holds.storeAny {i : Nat} {v : V} (h : Holds K S H0 pr ρ σ H) : Holds K S H0 pr (setA ρ i .any) (σ.set i (some v)) H :=
  h.store trivial (fun z => by cases z) fun j q _ _ => ⟨(fun z => by cases z), fun z => by cases z⟩
/-- a held slot's address is known -/
theorem Holds.heldAt {i : Nat} {q : Addr} (h : Holds K S H0 pr ρ σ H) (o : (nth ρ i).held = true) (s : σ.getD i none = some (.ref q)) : H0 q = none ∧ ∃ c, Stands K H q c := by
  have z := h.slot i
  cases e : nth ρ i with
  | any => rw [e] at o; cases o
  | d x => rw [e] at o; cases o
  | o c =>
    rw [e] at z
    obtain ⟨q', e1, n, st⟩ := z
    rw [s] at e1
    cases e1
    exact ⟨n, c, st⟩
  | f c =>
    rw [e] at z
    obtain ⟨q', e1, n, st⟩ := z
    rw [s] at e1
    cases e1
    exact ⟨n, c, st⟩
  | b c => rw [e] at o; cases o
  | strm => rw [e] at o; cases o
  | k v F => rw [e] at o; cases o
theorem own_held {a : A} (h : a.own = true) : a.held = true := by cases a <;> first | rfl | cases h
/-- a new object into a slot: h the state ahead, h' the state with the new object -/
theorem Holds.storeNew {i : Nat} {c : C} {q : Addr} (h : Holds K S H0 pr ρ σ H) (e : Ev S H H') (nq : H q = none) (st : Stands K H' q c) : Holds K S H0 pr (setA ρ i (.o c)) (σ.set i (some (.ref q))) H' := by
  have h' := h.step e
  refine h'.store ⟨q, rfl, h.ev.back h.st0 nq, st⟩ (fun _ q' e' => ?_) fun j q' e' _ => ?_
  · cases e'
    intro vs z
    have := (h.prot q vs z).1
    rw [nq] at this
    cases this
  · cases e'
    have key : (nth ρ j).held = true → σ.getD j none ≠ some (.ref q) := fun o s => by
      obtain ⟨_, c', st'⟩ := h.heldAt o s
      obtain ⟨ob, eo, _⟩ := st'.some
      rw [nq] at eo
      cases eo
    exact ⟨fun _ o => key o, fun _ o => key (own_held o)⟩
/-- an owned object is written -/
theorem Holds.write {i : Nat} {c c' : C} {q : Addr} {ob : HO} (h : Holds K S H0 pr ρ σ H) (hi : nth ρ i = .o c) (s : σ.getD i none = some (.ref q)) (nt : ∀ xs, ob ≠ .tup xs)
    (st : TK H (upd H q ob) → Stands K (upd H q ob) q c') : Holds K S H0 pr (setA ρ i (.o c')) σ (upd H q ob) := by
  have own : (nth ρ i).own = true := by rw [hi]; rfl
  obtain ⟨n0, cc, sc⟩ := h.heldAt (own_held own) s
  obtain ⟨oq, eq, ntq⟩ := sc.some
  have hlt : i < ρ.length := by
    rcases Nat.lt_or_ge i ρ.length with z | z
    · exact z
    · rw [nth_big ρ i z] at hi; cases hi
  have tk : TK H (upd H q ob) := by
    refine tk_mut eq ntq fun x y z => ?_
    cases cc with
    | lst ys => obtain ⟨vs, e1, _⟩ := sc; rw [eq] at e1; cases e1; cases z
    | dk ys => obtain ⟨vs, e1, _⟩ := sc; rw [eq] at e1; cases e1; cases z
    | dt ys => obtain ⟨vs, e1, _⟩ := sc; rw [eq] at e1; cases e1; cases z
    | kk ys => obtain ⟨vs, e1, _⟩ := sc; rw [eq] at e1; cases e1; cases z
    | ll ys => exact sc.elim
  have n3 : ∀ x, H q ≠ some (LamX.CodeO q x) := by
    refine notCode eq fun f z => ?_
    cases cc with
    | lst ys => obtain ⟨vs, e1, _⟩ := sc; rw [eq] at e1; cases e1; cases z
    | dk ys => obtain ⟨vs, e1, _⟩ := sc; rw [eq] at e1; cases e1; cases z
    | dt ys => obtain ⟨vs, e1, _⟩ := sc; rw [eq] at e1; cases e1; cases z
    | kk ys => obtain ⟨vs, e1, _⟩ := sc; rw [eq] at e1; cases e1; cases z
    | ll ys => exact sc.elim
  have ns := h.st0.fresh n0
  have nc : ∀ a c, S.st = some (a, c) → q ≠ c := h.st0.cfresh n0
  refine ⟨⟨fun b o e n => ?_, h.ev.tup.trans tk, h.stm.upd ns nc n3⟩, h.st0, by rw [setA_length]; exact h.len, fun j => ?_, fun j k q' o1 o2 ne s1 s2 => ?_, fun q' vs p => ?_, fun j q' o1 s1 => ?_, fun v d f => (h.fact v d f).mono tk⟩
  · have : b ≠ q := ne_of_none e n0
    rw [upd_ne this]
    exact h.ev.keep b o e n
  · by_cases e : j = i
    · subst e
      rw [nth_setA_same _ _ _ hlt]
      exact ⟨q, s, n0, st tk⟩
    · rw [nth_setA_ne _ _ _ _ e]
      have sj := h.slot j
      have oth : ∀ {c2 : C} {q2 : Addr}, (nth ρ j).held = true → σ.getD j none = some (.ref q2) → Stands K H q2 c2 → Stands K (upd H q ob) q2 c2 := fun {c2 q2} hh s2 sd => by
        have ne : q2 ≠ q := fun z => by
          subst z
          exact h.sep i j q2 own hh (Ne.symm e) s s2
        cases c2 with
        | lst ys => obtain ⟨vs, e1, r⟩ := sd; exact ⟨vs, by rw [upd_ne ne]; exact e1, r.mono tk⟩
        | dk ys => obtain ⟨vs, e1, r⟩ := sd; exact ⟨vs, by rw [upd_ne ne]; exact e1, r.mono tk⟩
        | dt ys => obtain ⟨vs, e1, r⟩ := sd; exact ⟨vs, by rw [upd_ne ne]; exact e1, r.mono tk⟩
        | kk ys => obtain ⟨vs, e1, r⟩ := sd; exact ⟨vs, by rw [upd_ne ne]; exact e1, r.mono tk⟩
        | ll ys => exact sd.elim
      cases z : nth ρ j with
      | any => trivial
      | d x => rw [z] at sj; obtain ⟨v, e1, r⟩ := sj; exact ⟨v, e1, r.mono tk⟩
      | o c2 => rw [z] at sj; obtain ⟨q2, e1, n2, sd⟩ := sj; exact ⟨q2, e1, n2, oth (by rw [z]; rfl) e1 sd⟩
      | f c2 => rw [z] at sj; obtain ⟨q2, e1, n2, sd⟩ := sj; exact ⟨q2, e1, n2, oth (by rw [z]; rfl) e1 sd⟩
      | b c2 => rw [z] at sj; exact sj
      | strm => rw [z] at sj; exact sj
      | k v F => rw [z] at sj; exact sj
  · have o1' : (nth ρ j).own = true := by
      by_cases e : j = i
      · rw [e]; exact own
      · rw [nth_setA_ne _ _ _ _ e] at o1; exact o1
    have o2' : (nth ρ k).held = true := by
      by_cases e : k = i
      · rw [e]; exact own_held own
      · rw [nth_setA_ne _ _ _ _ e] at o2; exact o2
    exact h.sep j k q' o1' o2' ne s1 s2
  · obtain ⟨p1, p2⟩ := h.prot q' vs p
    have : q' ≠ q := fun z => by
      subst z
      exact h.psep i q' own s _ p
    exact ⟨by rw [upd_ne this]; exact p1, p2⟩
  · have o1' : (nth ρ j).own = true := by
      by_cases e : j = i
      · rw [e]; exact own
      · rw [nth_setA_ne _ _ _ _ e] at o1; exact o1
    exact h.psep j q' o1' s1
/-- less is known of a slot -/
theorem Holds.forget {i : Nat} (h : Holds K S H0 pr ρ σ H) : Holds K S H0 pr (setA ρ i .any) σ H := by
  by_cases hi : i < ρ.length
  · refine ⟨h.ev, h.st0, by rw [setA_length]; exact h.len, fun j => ?_, fun j k q o1 o2 ne s1 s2 => ?_, h.prot, fun j q o1 s1 => ?_, h.fact⟩
    · by_cases e : j = i
      · subst e
        rw [nth_setA_same _ _ _ hi]
        trivial
      · rw [nth_setA_ne _ _ _ _ e]
        exact h.slot j
    · by_cases e1 : j = i
      · subst e1; rw [nth_setA_same _ _ _ hi] at o1; cases o1
      · by_cases e2 : k = i
        · subst e2; rw [nth_setA_same _ _ _ hi] at o2; cases o2
        · rw [nth_setA_ne _ _ _ _ e1] at o1
          rw [nth_setA_ne _ _ _ _ e2] at o2
          exact h.sep j k q o1 o2 ne s1 s2
    · by_cases e1 : j = i
      · subst e1; rw [nth_setA_same _ _ _ hi] at o1; cases o1
      · rw [nth_setA_ne _ _ _ _ e1] at o1
        exact h.psep j q o1 s1
  · have : ∀ (ρ : List A) (i : Nat), ρ.length ≤ i → setA ρ i .any = ρ := by
      intro ρ
      induction ρ with
      | nil => intro i _; rfl
      | cons b r ih =>
        intro i hh
        cases i with
        | zero => exact absurd hh (Nat.not_succ_le_zero _)
        | succ i => exact congrArg (b :: ·) (ih i (Nat.le_of_succ_le_succ hh))
    rw [this ρ i (Nat.le_of_not_lt hi)]
    exact h
/-- an owned slot is frozen -/
theorem Holds.freeze {i : Nat} {c : C} (h : Holds K S H0 pr ρ σ H) (hi : nth ρ i = .o c) : Holds K S H0 pr (setA ρ i (.f c)) σ H := by
  have hlt : i < ρ.length := by
    rcases Nat.lt_or_ge i ρ.length with z | z
    · exact z
    · rw [nth_big ρ i z] at hi; cases hi
  have own : (nth ρ i).own = true := by rw [hi]; rfl
  refine ⟨h.ev, h.st0, by rw [setA_length]; exact h.len, fun j => ?_, fun j k q o1 o2 ne s1 s2 => ?_, h.prot, fun j q o1 s1 => ?_, h.fact⟩
  · by_cases e : j = i
    · subst e
      rw [nth_setA_same _ _ _ hlt]
      have z := h.slot j
      rw [hi] at z
      exact z
    · rw [nth_setA_ne _ _ _ _ e]
      exact h.slot j
  · by_cases e1 : j = i
    · subst e1; rw [nth_setA_same _ _ _ hlt] at o1; cases o1
    · rw [nth_setA_ne _ _ _ _ e1] at o1
      by_cases e2 : k = i
      · subst e2
        exact h.sep j k q o1 (own_held own) ne s1 s2
      · rw [nth_setA_ne _ _ _ _ e2] at o2
        exact h.sep j k q o1 o2 ne s1 s2
  · by_cases e1 : j = i
    · subst e1; rw [nth_setA_same _ _ _ hlt] at o1; cases o1
    · rw [nth_setA_ne _ _ _ _ e1] at o1
      exact h.psep j q o1 s1
end
end PL

namespace PL
open PySem PySem.Spec PyProof.Rows L2

/-! ### results -/
def RepR (K : PySem.W.Frag) (S : Sm) (H H' : Hp) (v : V) : R → Prop
  | .d x => Rep K H' v x
  | .n c => ∃ q, v = .ref q ∧ H q = none ∧ Stands K H' q c
  | .b c => ∃ q, v = .ref q ∧ NotS S q ∧ Read K H' q c
  | .strm => ∃ a c, S.st = some (a, c) ∧ v = .ref a
/-- it may be read -/
def RepV (K : PySem.W.Frag) (S : Sm) (H : Hp) (v : V) : R → Prop
  | .d x => Rep K H v x
  | .n c => ∃ q, v = .ref q ∧ NotS S q ∧ Stands K H q c
  | .b c => ∃ q, v = .ref q ∧ NotS S q ∧ Read K H q c
  | .strm => ∃ a c, S.st = some (a, c) ∧ v = .ref a
inductive RepVs (K : PySem.W.Frag) (S : Sm) (H : Hp) : List V → List R → Prop
  | nil : RepVs K S H [] []
  | cons {v vs r rs} : RepV K S H v r → RepVs K S H vs rs → RepVs K S H (v :: vs) (r :: rs)
section
variable {K : PySem.W.Frag} {S : Sm} {H H1 H2 H' : Hp} {v : V} {r : R}
theorem RepR.val (h : RepR K S H H' v r) (st : StmOk S H) : RepV K S H' v r := by
  cases r with
  | d x => exact h
  | n c => obtain ⟨q, e, n, s⟩ := h; exact ⟨q, e, st.fresh n, s⟩
  | b c => exact h
  | strm => exact h
theorem RepV.step (h : RepV K S H v r) (e : Ev S H H') : RepV K S H' v r := by
  cases r with
  | d x => exact Rep.mono e.tup h
  | n c => obtain ⟨q, z, n, s⟩ := h; exact ⟨q, z, n, s.step e n⟩
  | b c => obtain ⟨q, z, n, s⟩ := h; exact ⟨q, z, n, s.step e n⟩
  | strm => exact h
theorem RepVs.step (e : Ev S H H') : ∀ {vs : List V} {rs : List R}, RepVs K S H vs rs → RepVs K S H' vs rs
  | _, _, .nil => .nil
  | _, _, .cons h t => .cons (h.step e) (RepVs.step e t)
theorem RepR.from (h : RepR K S H1 H2 v r) (e : Ev S H H1) (st : StmOk S H) : RepR K S H H2 v r := by
  cases r with
  | d x => exact h
  | n c => obtain ⟨q, z, n, s⟩ := h; exact ⟨q, z, e.back st n, s⟩
  | b c => exact h
  | strm => exact h
theorem RepR.step (h : RepR K S H H1 v r) (e : Ev S H1 H2) (st : StmOk S H) : RepR K S H H2 v r := by
  cases r with
  | d x => exact Rep.mono e.tup h
  | n c => obtain ⟨q, z, n, s⟩ := h; exact ⟨q, z, n, s.step e (st.fresh n)⟩
  | b c => obtain ⟨q, z, n, s⟩ := h; exact ⟨q, z, n, s.step e n⟩
  | strm => exact h
theorem RepVs.length : ∀ {vs : List V} {rs : List R}, RepVs K S H vs rs → vs.length = rs.length
  | _, _, .nil => rfl
  | _, _, .cons _ t => congrArg (· + 1) (RepVs.length t)
end

/-! ### what an expression, a test, arguments evaluate to -/
abbrev RX := Addr → Prop
abbrev DE := List A → (R → Prop) → RX → Prop
abbrev DT := List A → (Bool → Prop) → RX → Prop
abbrev DA := List A → (List R → Prop) → RX → Prop
def Wish (S : Sm) (W : WX) (σ : L2.St) (H : Hp) (E : RX) : Prop := ∀ C H', E C → Ev S H H' → W (.ref C) none σ H'
def EvP (K : PySem.W.Frag) (S : Sm) (W : WX) (te : TE) (ρ : List A) (P : R → Prop) (E : RX) : Prop := ∀ H0 pr σ H Q, Holds K S H0 pr ρ σ H →
  (∀ r v H', P r → Ev S H H' → RepR K S H H' v r → Q v H') → Wish S W σ H E → te σ H Q
def EvB (K : PySem.W.Frag) (S : Sm) (W : WX) (tt : TT) (ρ : List A) (P : Bool → Prop) (E : RX) : Prop := ∀ H0 pr σ H Q, Holds K S H0 pr ρ σ H →
  (∀ b H', P b → Ev S H H' → Q b H') → Wish S W σ H E → tt σ H Q
def EvA (K : PySem.W.Frag) (S : Sm) (W : WX) (ta : TA) (ρ : List A) (P : List R → Prop) (E : RX) : Prop := ∀ H0 pr σ H Q, Holds K S H0 pr ρ σ H →
  (∀ rs vs H', P rs → Ev S H H' → RepVs K S H' vs rs → Q vs H') → Wish S W σ H E → ta σ H Q
def PD (K : PySem.W.Frag) (X : Cx) (S : Sm) (W : WX) (e : Expr) (te : TE) (de : DE) : Prop := X.K = K ∧ PE X e te ∧ ∀ ρ P E, de ρ P E → EvP K S W te ρ P E
def TD (K : PySem.W.Frag) (X : Cx) (S : Sm) (W : WX) (e : Expr) (tt : TT) (dt : DT) : Prop := X.K = K ∧ PT X e tt ∧ ∀ ρ P E, dt ρ P E → EvB K S W tt ρ P E
def WD (K : PySem.W.Frag) (X : Cx) (S : Sm) (W : WX) (e : Expr) (tt : TT) (dt : DT) : Prop := X.K = K ∧ PW X e tt ∧ ∀ ρ P E, dt ρ P E → EvB K S W tt ρ P E
def AD (K : PySem.W.Frag) (X : Cx) (S : Sm) (W : WX) (es : List Expr) (ta : TA) (da : DA) : Prop := X.K = K ∧ PA X es ta ∧ ∀ ρ P E, da ρ P E → EvA K S W ta ρ P E
theorem Wish.step {S : Sm} {W : WX} {σ : L2.St} {H H1 : Hp} {E : RX} (w : Wish S W σ H E) (e : Ev S H H1) : Wish S W σ H1 E := fun C H' h e' => w C H' h (e.trans e')

section
variable {K : PySem.W.Frag} {X : Cx} {S : Sm} {W : WX} {e a b c : Expr} {es : List Expr} {ta tb tc : TE} {tt tu : TT} {t : TA} {da db dc : DE} {dt du : DT} {ds : DA} {pos : Pos} {rest : List Expr}

/-! ### names, constants -/
def dVar (i : Nat) : DE := fun ρ P _ => match nth ρ i with
  | .d x => P (.d x)
  | .o c => P (.b c)
  | .f c => P (.b c)
  | .b c => P (.b c)
  | .strm => P .strm
  | .k _ _ => False
  | .any => False
theorem pd_var {i : Nat} (h : PE X e (tVar i)) (hK : X.K = K := by rfl) : PD K X S W e (tVar i) (dVar i) := by
  refine ⟨hK, h, fun ρ P E hp H0 pr σ H Q ho q _ => ?_⟩
  have s := ho.slot i
  unfold dVar at hp
  have ev := Ev.refl ho.stm
  cases z : nth ρ i with
  | any => rw [z] at hp; exact hp.elim
  | d x => rw [z] at hp s; obtain ⟨v, e1, r⟩ := s; exact ⟨v, getD_get e1, q _ v H hp ev r⟩
  | o c => rw [z] at hp s; obtain ⟨p, e1, n, st⟩ := s; exact ⟨_, getD_get e1, q _ _ H hp ev ⟨p, rfl, ho.st0.fresh n, st.read⟩⟩
  | f c => rw [z] at hp s; obtain ⟨p, e1, n, st⟩ := s; exact ⟨_, getD_get e1, q _ _ H hp ev ⟨p, rfl, ho.st0.fresh n, st.read⟩⟩
  | b c => rw [z] at hp s; obtain ⟨p, e1, n, st⟩ := s; exact ⟨_, getD_get e1, q _ _ H hp ev ⟨p, rfl, n, st.step ho.ev n⟩⟩
  | strm => rw [z] at hp s; obtain ⟨p, c, e1, e2⟩ := s; exact ⟨_, getD_get e2, q _ _ H hp ev ⟨p, c, e1, rfl⟩⟩
  | k v F => rw [z] at hp; exact hp.elim
/-- a constant -/
def dC (x : D) : DE := fun _ P _ => P (.d x)
theorem pd_c {v : V} {x : D} (h : PE X e (tC v)) (r : ∀ H, Rep K H v x) (hK : X.K = K := by rfl) : PD K X S W e (tC v) (dC x) :=
  ⟨hK, h, fun ρ P E hp H0 pr σ H Q ho q _ => q _ v H hp (Ev.refl ho.stm) (r H)⟩
theorem pd_int {i j pos} (hK : X.K = K := by rfl) : PD K X S W (.Constant (.int i) j pos) (tC (.int i)) (dC (.int i)) := pd_c pe_int (fun _ => .int i) hK
theorem pd_bl {i j pos} (hK : X.K = K := by rfl) : PD K X S W (.Constant (.bool i) j pos) (tC (.bl i)) (dC (.bl i)) := pd_c pe_bl (fun _ => .bl i) hK
theorem pd_non {j pos} (hK : X.K = K := by rfl) : PD K X S W (.Constant .none j pos) (tC .non) (dC .non) := pd_c pe_non (fun _ => .non) hK
theorem pd_str {i j pos} (hK : X.K = K := by rfl) : PD K X S W (.Constant (.str i) j pos) (tC (.str i)) (dC (.str i)) := pd_c pe_str (fun _ => .str i) hK
/-- a module's int, text -/
theorem pd_gint {x : Str} {i : Int} (hg : Gl X x) (hm : ∃ t, X.mg x = some (.int i t)) (hd : (x == ("__debug__" : Str)) = false := by decide) (hK : X.K = K := by rfl) : PD K X S W (.Name x pos) (tC (.int i)) (dC (.int i)) := by
  obtain ⟨t, hm⟩ := hm
  exact pd_c (pe_glob (v := .int i) hg hm ⟨t, rfl⟩ hd) (fun _ => .int i) hK
theorem pd_gstr {x : Str} {z : Str} (hg : Gl X x) (hm : ∃ t, X.mg x = some (.str z t)) (hd : (x == ("__debug__" : Str)) = false := by decide) (hK : X.K = K := by rfl) : PD K X S W (.Name x pos) (tC (.str z)) (dC (.str z)) := by
  obtain ⟨t, hm⟩ := hm
  exact pd_c (pe_glob (v := .str z) hg hm ⟨t, rfl⟩ hd) (fun _ => .str z) hK

/-! ### operators -/
/-- an operation on values, told on results -/
def OpP (K : PySem.W.Frag) (S : Sm) (r : R2) (f : R → R → (R → Prop) → Prop) : Prop := ∀ H v w x y P (Q : VK), StmOk S H → RepV K S H v x → RepV K S H w y → f x y P →
  (∀ z u H', P z → Ev S H H' → RepR K S H H' u z → Q u H') → r v w H Q
theorem OpP.or1 {K : PySem.W.Frag} {r r' : R2} {f g : R → R → (R → Prop) → Prop} (h : OpP K S r f) (h' : OpP K S r' g) : OpP K S (fun x y H Q => r x y H Q ∨ r' x y H Q) (fun x y P => f x y P ∨ g x y P) := by
  intro H v w x y P Q st hx hy hf q
  rcases hf with hf | hf
  · exact .inl (h H v w x y P Q st hx hy hf q)
  · exact .inr (h' H v w x y P Q st hx hy hf q)
theorem OpP.imp {K : PySem.W.Frag} {r : R2} {f g : R → R → (R → Prop) → Prop} (h : OpP K S r f) (i : ∀ x y P, g x y P → f x y P) : OpP K S r g := fun H v w x y P Q st hx hy hg q => h H v w x y P Q st hx hy (i x y P hg) q
def dOp (f : R → R → (R → Prop) → Prop) (da db : DE) : DE := fun ρ P E => da ρ (fun x => db ρ (fun y => f x y P) E) E
theorem evp_op {r : R2} {f : R → R → (R → Prop) → Prop} (hf : OpP K S r f) (ha : ∀ ρ P E, da ρ P E → EvP K S W ta ρ P E) (hb : ∀ ρ P E, db ρ P E → EvP K S W tb ρ P E) :
    ∀ ρ P E, dOp f da db ρ P E → EvP K S W (tOp r ta tb) ρ P E := by
  intro ρ P E hp H0 pr σ H Q ho q w
  refine ha ρ _ E hp H0 pr σ H _ ho (fun x v H1 hx e1 r1 => ?_) w
  refine hb ρ _ E hx H0 pr σ H1 _ (ho.step e1) (fun y u H2 hy e2 r2 => ?_) (w.step e1)
  refine hf H2 v u x y P Q e2.stm ((r1.val ho.stm).step e2) (r2.val e1.stm) hy fun z t H3 hz e3 r3 => ?_
  exact q z t H3 hz ((e1.trans e2).trans e3) (r3.from (e1.trans e2) ho.stm)
theorem pd_op {op : Operator} {r : R2} {f : R → R → (R → Prop) → Prop} (ho : OpR X (binaryOp op) r) (hf : OpP K S r f) (ha : PD K X S W a ta da) (hb : PD K X S W b tb db) : PD K X S W (.BinOp a op b pos) (tOp r ta tb) (dOp f da db) := by
  obtain ⟨hK, pa, ha⟩ := ha
  obtain ⟨hK, pb, hb⟩ := hb
  exact ⟨hK, pe_op ho pa pb, evp_op hf ha hb⟩
theorem pd_cmp {op : CmpOp} {r : R2} {f : R → R → (R → Prop) → Prop} (ho : OpR X (compareOp op) r) (hf : OpP K S r f) (ha : PD K X S W a ta da) (hb : PD K X S W b tb db) (hm : behindInMarks op b = false) : PD K X S W (.Compare a [op] [b] pos) (tOp r ta tb) (dOp f da db) := by
  obtain ⟨hK, pa, ha⟩ := ha
  obtain ⟨hK, pb, hb⟩ := hb
  exact ⟨hK, pe_cmpR ho pa pb hm, evp_op hf ha hb⟩
/-- a value, a bool, as a test -/
def tdB (da : DE) : DT := fun ρ P E => da ρ (fun z => match z with | .d (.bl k) => P k | _ => False) E
theorem evb_of (ha : ∀ ρ P E, da ρ P E → EvP K S W ta ρ P E) : ∀ ρ P E, tdB da ρ P E → EvB K S W (tB ta) ρ P E := by
  intro ρ P E hp H0 pr σ H Q ho q w
  refine ha ρ _ E hp H0 pr σ H _ ho (fun z v H1 hz e1 r1 => ?_) w
  cases z with
  | d x =>
    cases x with
    | bl k => cases r1; exact ⟨k, rfl, q k H1 hz e1⟩
    | non => exact hz.elim
    | int i => exact hz.elim
    | str i => exact hz.elim
    | tup i => exact hz.elim
    | lst i => exact hz.elim
  | n c => exact hz.elim
  | b c => exact hz.elim
  | strm => exact hz.elim
theorem td_cmp {op : CmpOp} {r : R2} {f : R → R → (R → Prop) → Prop} (ho : OpR X (compareOp op) r) (hf : OpP K S r f) (ha : PD K X S W a ta da) (hb : PD K X S W b tb db) (hm : behindInMarks op b = false) : TD K X S W (.Compare a [op] [b] pos) (tTest (tOp r ta tb)) (tdB (dOp f da db)) := by
  obtain ⟨hK, pa, ha⟩ := ha
  obtain ⟨hK, pb, hb⟩ := hb
  exact ⟨hK, pt_cmpR ho pa pb hm, evb_of (evp_op hf ha hb)⟩
theorem td_val (h : PD K X S W e ta da) (he : ∀ whole, isTrue e X.env whole = (do let v ← whole; standAt e.pos; holding [v] (truthy v)) := by intro _; rfl) : TD K X S W e (tB ta) (tdB da) := by
  obtain ⟨hK, pa, ha⟩ := h
  exact ⟨hK, pt_val pa he, evb_of ha⟩
/-- a chain of two comparisons -/
def dChain (f g : R → R → (R → Prop) → Prop) (da db dc : DE) : DE := fun ρ P E => da ρ (fun x => db ρ (fun y => f x y (fun z => match z with
  | .d (.bl true) => dc ρ (fun u => g y u P) E
  | .d (.bl false) => P (.d (.bl false))
  | _ => False)) E) E
theorem evp_chain {r r' : R2} {f g : R → R → (R → Prop) → Prop} (hf : OpP K S r f) (hg : OpP K S r' g) (ha : ∀ ρ P E, da ρ P E → EvP K S W ta ρ P E) (hb : ∀ ρ P E, db ρ P E → EvP K S W tb ρ P E) (hc : ∀ ρ P E, dc ρ P E → EvP K S W tc ρ P E) :
    ∀ ρ P E, dChain f g da db dc ρ P E → EvP K S W (tChain r r' ta tb tc) ρ P E := by
  intro ρ P E hp H0 pr σ H Q ho q w
  refine ha ρ _ E hp H0 pr σ H _ ho (fun x v H1 hx e1 r1 => ?_) w
  refine hb ρ _ E hx H0 pr σ H1 _ (ho.step e1) (fun y u H2 hy e2 r2 => ?_) (w.step e1)
  have ry := r2.val e1.stm
  refine hf H2 v u x y _ _ e2.stm ((r1.val ho.stm).step e2) ry hy fun z t H3 hz e3 r3 => ?_
  have e13 := (e1.trans e2).trans e3
  cases z with
  | d x =>
    cases x with
    | bl k =>
      cases r3
      refine ⟨k, rfl, ?_⟩
      cases k with
      | true =>
        refine hc ρ _ E hz H0 pr σ H3 _ (ho.step e13) (fun z4 v4 H4 h4 e4 r4 => ?_) (w.step e13)
        refine hg H4 u v4 y z4 P Q e4.stm (ry.step (e3.trans e4)) (r4.val e3.stm) h4 fun z5 v5 H5 h5 e5 r5 => ?_
        exact q z5 v5 H5 h5 ((e13.trans e4).trans e5) (r5.from (e13.trans e4) ho.stm)
      | false => exact q _ _ H3 hz e13 (.bl false)
    | non => exact hz.elim
    | int i => exact hz.elim
    | str i => exact hz.elim
    | tup i => exact hz.elim
    | lst i => exact hz.elim
  | n c => exact hz.elim
  | b c => exact hz.elim
  | strm => exact hz.elim
theorem pd_chain {op op' : CmpOp} {r r' : R2} {f g : R → R → (R → Prop) → Prop} (ho : OpR X (compareOp op) r) (ho' : OpR X (compareOp op') r') (hf : OpP K S r f) (hg : OpP K S r' g) (ha : PD K X S W a ta da) (hb : PD K X S W b tb db) (hc : PD K X S W c tc dc)
    (hm : lastMarks [op, op'] [b, c] = false := by with_unfolding_all rfl) : PD K X S W (.Compare a [op, op'] [b, c] pos) (tChain r r' ta tb tc) (dChain f g da db dc) := by
  obtain ⟨hK, pa, ha⟩ := ha
  obtain ⟨hK, pb, hb⟩ := hb
  obtain ⟨hK, pc, hc⟩ := hc
  exact ⟨hK, pe_chain ho ho' pa pb pc hm, evp_chain hf hg ha hb hc⟩
theorem td_chain {op op' : CmpOp} {r r' : R2} {f g : R → R → (R → Prop) → Prop} (ho : OpR X (compareOp op) r) (ho' : OpR X (compareOp op') r') (hf : OpP K S r f) (hg : OpP K S r' g) (ha : PD K X S W a ta da) (hb : PD K X S W b tb db) (hc : PD K X S W c tc dc)
    (hm : lastMarks [op, op'] [b, c] = false := by with_unfolding_all rfl) : TD K X S W (.Compare a [op, op'] [b, c] pos) (tTest (tChain r r' ta tb tc)) (tdB (dChain f g da db dc)) := by
  obtain ⟨hK, pa, ha⟩ := ha
  obtain ⟨hK, pb, hb⟩ := hb
  obtain ⟨hK, pc, hc⟩ := hc
  exact ⟨hK, pt_chain ho ho' pa pb pc hm, evb_of (evp_chain hf hg ha hb hc)⟩

/-! ### truth -/
def truth : R → Option Bool
  | .d .non => some false
  | .d (.bl b) => some b
  | .d (.int i) => some (i != 0)
  | .d (.str s) => if s.length ≤ sizeLine then some ((s.length : Int) != 0) else none
  | .d (.tup xs) => some (!xs.isEmpty)
  | .d (.lst xs) => some (!xs.isEmpty)
  | .n (.lst xs) => some (!xs.isEmpty)
  | .b (.lst xs) => some (!xs.isEmpty)
  | .n (.dk xs) => some (!xs.isEmpty)
  | .b (.dk xs) => some (!xs.isEmpty)
  | _ => none
theorem Reps.isEmpty {K : PySem.W.Frag} {H : Hp} {vs : List V} {ds : List D} (h : Reps K H vs ds) : vs.isEmpty = ds.isEmpty := by cases h <;> rfl
theorem KVs.isEmpty {κ : Type} {K : PySem.W.Frag} {H : Hp} {vs : List (κ × V)} {ds : List (κ × D)} (h : KVs K H vs ds) : vs.isEmpty = ds.isEmpty := by cases h <;> rfl
theorem truth_ok {K : PySem.W.Frag} {H : Hp} {v : V} {r : R} {k : Bool} (h : RepV K S H v r) (t : truth r = some k) : TruV K v H k := by
  have lst : ∀ {q : Addr} {xs : List D}, Read K H q (.lst xs) → some (!xs.isEmpty) = some k → TruV K (.ref q) H k := fun {q xs} ⟨vs, e1, r1⟩ t => .inl ⟨vs, .inl e1, by rw [r1.isEmpty]; exact (Option.some.inj t).symm⟩
  have dk : ∀ {q : Addr} {xs : List (Key × D)}, Stands K H q (.dk xs) → some (!xs.isEmpty) = some k → TruV K (.ref q) H k := fun {q xs} ⟨vs, e1, r1⟩ t => .inr (.inr ⟨vs, e1, by rw [KVs.isEmpty r1]; exact (Option.some.inj t).symm⟩)
  cases r with
  | d x =>
    cases x with
    | non => cases h; exact (Option.some.inj t).symm
    | bl b => cases h; exact (Option.some.inj t).symm
    | int i => cases h; exact (Option.some.inj t).symm
    | str s =>
      cases h
      have t : (if s.length ≤ sizeLine then some ((s.length : Int) != 0) else none) = some k := t
      by_cases hs : s.length ≤ sizeLine
      · rw [if_pos hs] at t
        exact ⟨hs, (Option.some.inj t).symm⟩
      · rw [if_neg hs] at t
        cases t
    | tup xs =>
      cases h with
      | tup h1 h2 => exact .inr (.inl ⟨_, h1, by rw [h2.isEmpty]; exact (Option.some.inj t).symm⟩)
    | lst xs =>
      cases h with
      | lst h1 h2 => exact lst ⟨_, .inr ⟨_, h1⟩, h2⟩ t
  | n c =>
    obtain ⟨q, rfl, _, st⟩ := h
    cases c with
    | lst xs => exact lst (Stands.read (c := .lst xs) st) t
    | dk xs => exact dk st t
    | dt xs => cases t
    | kk xs => cases t
    | ll xs => cases t
  | b c =>
    obtain ⟨q, rfl, _, st⟩ := h
    cases c with
    | lst xs => exact lst st t
    | dk xs => exact dk st t
    | dt xs => cases t
    | kk xs => cases t
    | ll xs => cases t
  | strm => cases t
def tdT (da : DE) : DT := fun ρ P E => da ρ (fun z => match truth z with | some k => P k | none => False) E
theorem td_truth (h : PD K X S W e ta da) (he : ∀ whole, isTrue e X.env whole = (do let v ← whole; standAt e.pos; holding [v] (truthy v)) := by intro _; rfl) : TD K X S W e (fun σ H Q => ta σ H fun x H' => ∃ k, TruV K x H' k ∧ Q k H') (tdT da) := by
  obtain ⟨hK, pa, ha⟩ := h
  subst hK
  refine ⟨rfl, pt_truth pa he, fun ρ P E hp H0 pr σ H Q ho q w => ?_⟩
  refine ha ρ _ E hp H0 pr σ H _ ho (fun z v H1 hz e1 r1 => ?_) w
  cases t : truth z with
  | none => rw [t] at hz; exact hz.elim
  | some k => rw [t] at hz; exact ⟨k, truth_ok (r1.val ho.stm) t, q k H1 hz e1⟩

/-! ### and, or, not, if -/
def tdAnd (t u : DT) : DT := fun ρ P E => t ρ (fun b => if b = true then u ρ P E else P false) E
def tdOr (t u : DT) : DT := fun ρ P E => t ρ (fun b => if b = true then P true else u ρ P E) E
def tdNot (t : DT) : DT := fun ρ P E => t ρ (fun b => P (!b)) E
theorem wd_and1 (h : TD K X S W a tt dt) : WD K X S W (.BoolOp .And [a] pos) tt dt := by
  obtain ⟨hK, pa, ha⟩ := h
  exact ⟨hK, pw_and1 pa, ha⟩
theorem wd_or1 (h : TD K X S W a tt dt) : WD K X S W (.BoolOp .Or [a] pos) tt dt := by
  obtain ⟨hK, pa, ha⟩ := h
  exact ⟨hK, pw_or1 pa, ha⟩
theorem wd_and (h : TD K X S W a tt dt) (k : WD K X S W (.BoolOp .And (b :: rest) pos) tu du) : WD K X S W (.BoolOp .And (a :: b :: rest) pos) (tAnd tt tu) (tdAnd dt du) := by
  obtain ⟨hK, pa, ha⟩ := h
  obtain ⟨hK, pb, hb⟩ := k
  refine ⟨hK, pw_and pa pb, fun ρ P E hp H0 pr σ H Q ho q w => ?_⟩
  refine ha ρ _ E hp H0 pr σ H _ ho (fun k H1 hk e1 => ?_) w
  cases k with
  | true =>
    rw [if_pos rfl] at hk ⊢
    exact hb ρ P E hk H0 pr σ H1 Q (ho.step e1) (fun b H2 hb e2 => q b H2 hb (e1.trans e2)) (w.step e1)
  | false =>
    rw [if_neg Bool.false_ne_true] at hk ⊢
    exact q false H1 hk e1
theorem wd_or (h : TD K X S W a tt dt) (k : WD K X S W (.BoolOp .Or (b :: rest) pos) tu du) : WD K X S W (.BoolOp .Or (a :: b :: rest) pos) (tOr tt tu) (tdOr dt du) := by
  obtain ⟨hK, pa, ha⟩ := h
  obtain ⟨hK, pb, hb⟩ := k
  refine ⟨hK, pw_or pa pb, fun ρ P E hp H0 pr σ H Q ho q w => ?_⟩
  refine ha ρ _ E hp H0 pr σ H _ ho (fun k H1 hk e1 => ?_) w
  cases k with
  | true =>
    rw [if_pos rfl] at hk ⊢
    exact q true H1 hk e1
  | false =>
    rw [if_neg Bool.false_ne_true] at hk ⊢
    exact hb ρ P E hk H0 pr σ H1 Q (ho.step e1) (fun b H2 hb e2 => q b H2 hb (e1.trans e2)) (w.step e1)
theorem WD.td (h : WD K X S W e tt dt) : TD K X S W e tt dt := by
  obtain ⟨hK, pa, ha⟩ := h
  exact ⟨hK, pa.pt, ha⟩
theorem td_not (h : TD K X S W a tt dt) : TD K X S W (.UnaryOp .Not a pos) (tNot tt) (tdNot dt) := by
  obtain ⟨hK, pa, ha⟩ := h
  exact ⟨hK, pt_not pa, fun ρ P E hp H0 pr σ H Q ho q w => ha ρ _ E hp H0 pr σ H _ ho (fun k H1 hk e1 => q _ H1 hk e1) w⟩
/-- .. as values -/
def dAnd (da db : DE) : DE := fun ρ P E => da ρ (fun z => match z with | .d (.bl true) => db ρ P E | .d (.bl false) => P (.d (.bl false)) | _ => False) E
def dOr (da db : DE) : DE := fun ρ P E => da ρ (fun z => match z with | .d (.bl true) => P (.d (.bl true)) | .d (.bl false) => db ρ P E | _ => False) E
def dNot (da : DE) : DE := fun ρ P E => da ρ (fun z => match z with | .d (.bl k) => P (.d (.bl (!k))) | _ => False) E
theorem pd_one {op} (h : PD K X S W a ta da) : PD K X S W (.BoolOp op [a] pos) ta da := by
  obtain ⟨hK, pa, ha⟩ := h
  exact ⟨hK, pe_one pa, ha⟩
theorem pd_and (h : PD K X S W a ta da) (k : PD K X S W (.BoolOp .And (b :: rest) pos) tb db) : PD K X S W (.BoolOp .And (a :: b :: rest) pos) (tAndV ta tb) (dAnd da db) := by
  obtain ⟨hK, pa, ha⟩ := h
  obtain ⟨hK, pb, hb⟩ := k
  refine ⟨hK, pe_and pa pb, fun ρ P E hp H0 pr σ H Q ho q w => ?_⟩
  refine ha ρ _ E hp H0 pr σ H _ ho (fun z v H1 hz e1 r1 => ?_) w
  cases z with
  | d x =>
    cases x with
    | bl k =>
      cases r1
      refine ⟨k, rfl, ?_⟩
      cases k with
      | true =>
        rw [if_pos rfl]
        exact hb ρ P E hz H0 pr σ H1 Q (ho.step e1) (fun r v H2 h2 e2 r2 => q r v H2 h2 (e1.trans e2) (r2.from e1 ho.stm)) (w.step e1)
      | false =>
        rw [if_neg Bool.false_ne_true]
        exact q _ _ H1 hz e1 (.bl false)
    | non => exact hz.elim
    | int i => exact hz.elim
    | str i => exact hz.elim
    | tup i => exact hz.elim
    | lst i => exact hz.elim
  | n c => exact hz.elim
  | b c => exact hz.elim
  | strm => exact hz.elim
theorem pd_or (h : PD K X S W a ta da) (k : PD K X S W (.BoolOp .Or (b :: rest) pos) tb db) : PD K X S W (.BoolOp .Or (a :: b :: rest) pos) (tOrV ta tb) (dOr da db) := by
  obtain ⟨hK, pa, ha⟩ := h
  obtain ⟨hK, pb, hb⟩ := k
  refine ⟨hK, pe_or pa pb, fun ρ P E hp H0 pr σ H Q ho q w => ?_⟩
  refine ha ρ _ E hp H0 pr σ H _ ho (fun z v H1 hz e1 r1 => ?_) w
  cases z with
  | d x =>
    cases x with
    | bl k =>
      cases r1
      refine ⟨k, rfl, ?_⟩
      cases k with
      | true =>
        rw [if_pos rfl]
        exact q _ _ H1 hz e1 (.bl true)
      | false =>
        rw [if_neg Bool.false_ne_true]
        exact hb ρ P E hz H0 pr σ H1 Q (ho.step e1) (fun r v H2 h2 e2 r2 => q r v H2 h2 (e1.trans e2) (r2.from e1 ho.stm)) (w.step e1)
    | non => exact hz.elim
    | int i => exact hz.elim
    | str i => exact hz.elim
    | tup i => exact hz.elim
    | lst i => exact hz.elim
  | n c => exact hz.elim
  | b c => exact hz.elim
  | strm => exact hz.elim
theorem pd_not (h : PD K X S W a ta da) : PD K X S W (.UnaryOp .Not a pos) (tNotV ta) (dNot da) := by
  obtain ⟨hK, pa, ha⟩ := h
  refine ⟨hK, pe_not pa, fun ρ P E hp H0 pr σ H Q ho q w => ?_⟩
  refine ha ρ _ E hp H0 pr σ H _ ho (fun z v H1 hz e1 r1 => ?_) w
  cases z with
  | d x =>
    cases x with
    | bl k => cases r1; exact ⟨k, rfl, q _ _ H1 hz e1 (.bl (!k))⟩
    | non => exact hz.elim
    | int i => exact hz.elim
    | str i => exact hz.elim
    | tup i => exact hz.elim
    | lst i => exact hz.elim
  | n c => exact hz.elim
  | b c => exact hz.elim
  | strm => exact hz.elim
def dIf (t : DT) (da db : DE) : DE := fun ρ P E => t ρ (fun k => if k = true then da ρ P E else db ρ P E) E
theorem pd_if (ht : TD K X S W c tt dt) (ha : PD K X S W a ta da) (hb : PD K X S W b tb db) : PD K X S W (.IfExp c a b pos) (tIf tt ta tb) (dIf dt da db) := by
  obtain ⟨hK, pc, hc⟩ := ht
  obtain ⟨hK, pa, ha⟩ := ha
  obtain ⟨hK, pb, hb⟩ := hb
  refine ⟨hK, pe_ifExp pc pa pb, fun ρ P E hp H0 pr σ H Q ho q w => ?_⟩
  refine hc ρ _ E hp H0 pr σ H _ ho (fun k H1 hk e1 => ?_) w
  cases k with
  | true =>
    rw [if_pos rfl] at hk ⊢
    exact ha ρ P E hk H0 pr σ H1 Q (ho.step e1) (fun r v H2 h2 e2 r2 => q r v H2 h2 (e1.trans e2) (r2.from e1 ho.stm)) (w.step e1)
  | false =>
    rw [if_neg Bool.false_ne_true] at hk ⊢
    exact hb ρ P E hk H0 pr σ H1 Q (ho.step e1) (fun r v H2 h2 e2 r2 => q r v H2 h2 (e1.trans e2) (r2.from e1 ho.stm)) (w.step e1)

/-! ### arguments, displays -/
def aNil : DA := fun _ P _ => P []
def aCons (da : DE) (ds : DA) : DA := fun ρ P E => da ρ (fun r => ds ρ (fun rs => P (r :: rs)) E) E
theorem ad_nil (hK : X.K = K := by rfl) : AD K X S W [] tNil aNil := ⟨hK, pa_nil, fun ρ P E hp H0 pr σ H Q ho q _ => q [] [] H hp (Ev.refl ho.stm) .nil⟩
theorem ad_cons (h : PD K X S W e ta da) (k : AD K X S W es t ds) (hs : starEach (e :: es) X.env = (false, eval e X.env) :: starEach es X.env := by rfl) : AD K X S W (e :: es) (tCons ta t) (aCons da ds) := by
  obtain ⟨hK, pa, ha⟩ := h
  obtain ⟨hK, pb, hb⟩ := k
  refine ⟨hK, pa_cons pa pb hs, fun ρ P E hp H0 pr σ H Q ho q w => ?_⟩
  refine ha ρ _ E hp H0 pr σ H _ ho (fun r v H1 h1 e1 r1 => ?_) w
  refine hb ρ _ E h1 H0 pr σ H1 _ (ho.step e1) (fun rs vs H2 h2 e2 r2 => ?_) (w.step e1)
  exact q _ _ H2 h2 (e1.trans e2) (.cons ((r1.val ho.stm).step e2) r2)
def asD : List R → Option (List D)
  | [] => some []
  | .d x :: rs => (asD rs).map (x :: ·)
  | _ :: _ => none
theorem asD_ok {K : PySem.W.Frag} {H : Hp} : ∀ {vs : List V} {rs : List R} {ds : List D}, RepVs K S H vs rs → asD rs = some ds → Reps K H vs ds
  | _, _, _, .nil, e => by cases e; exact .nil
  | _, _, _, .cons (r := .d x) (rs := rs) h t, e => by
    unfold asD at e
    cases z : asD rs with
    | none => rw [z] at e; cases e
    | some ys => rw [z] at e; cases e; exact .cons h (asD_ok t z)
  | _, _, _, .cons (r := .n c) h t, e => by cases e
  | _, _, _, .cons (r := .b c) h t, e => by cases e
  | _, _, _, .cons (r := .strm) h t, e => by cases e
def dTup (ds : DA) : DE := fun ρ P E => ds ρ (fun rs => match asD rs with | some xs => xs.length ≤ sizeLine ∧ P (.d (.tup xs)) | none => False) E
def dLst (ds : DA) : DE := fun ρ P E => ds ρ (fun rs => match asD rs with | some xs => xs.length ≤ sizeLine ∧ P (.n (.lst xs)) | none => False) E
theorem pd_tup {x1} (h : AD K X S W es t ds) : PD K X S W (.Tuple es x1 pos) (tTup t) (dTup ds) := by
  obtain ⟨hK, pa, ha⟩ := h
  refine ⟨hK, pe_tup pa, fun ρ P E hp H0 pr σ H Q ho q w => ?_⟩
  refine ha ρ _ E hp H0 pr σ H _ ho (fun rs vs H1 h1 e1 r1 => ?_) w
  cases z : asD rs with
  | none => rw [z] at h1; exact h1.elim
  | some xs =>
    rw [z] at h1
    obtain ⟨hl, hp⟩ := h1
    have rr := asD_ok r1 z
    refine ⟨by rw [rr.length]; exact hl, fun p np => q _ _ _ hp (e1.trans (Ev.new e1.stm np)) ?_⟩
    exact .tup (SqT.of upd_same) (rr.mono (tk_new np))
theorem pd_lst (h : AD K X S W es t ds) : PD K X S W (.List es pos) (tLst t) (dLst ds) := by
  obtain ⟨hK, pa, ha⟩ := h
  refine ⟨hK, pe_lst pa, fun ρ P E hp H0 pr σ H Q ho q w => ?_⟩
  refine ha ρ _ E hp H0 pr σ H _ ho (fun rs vs H1 h1 e1 r1 => ?_) w
  cases z : asD rs with
  | none => rw [z] at h1; exact h1.elim
  | some xs =>
    rw [z] at h1
    obtain ⟨hl, hp⟩ := h1
    have rr := asD_ok r1 z
    refine ⟨by rw [rr.length]; exact hl, fun p np => q _ _ _ hp (e1.trans (Ev.new e1.stm np)) ?_⟩
    exact ⟨p, rfl, e1.back ho.stm np, vs, upd_same, rr.mono (tk_new np)⟩
end
/-! ### lists that are read -/
def lstRd : R → Option (List D)
  | .d (.lst ys) => some ys
  | .n (.lst ys) => some ys
  | .b (.lst ys) => some ys
  | _ => none
theorem lstRd_ok {K : PySem.W.Frag} {S : Sm} {H : Hp} {v : V} {r : R} {ys : List D} (h : RepV K S H v r) (e : lstRd r = some ys) : ∃ q vs, v = .ref q ∧ Rd H q (.lst vs) ∧ Reps K H vs ys := by
  unfold lstRd at e
  split at e
  · cases e
    cases h with
    | lst h1 r1 => exact ⟨_, _, rfl, .inr ⟨_, h1⟩, r1⟩
  · cases e; obtain ⟨q, ev, _, vs, h1, r1⟩ := h; exact ⟨q, vs, ev, .inl h1, r1⟩
  · cases e; obtain ⟨q, ev, _, vs, h1, r1⟩ := h; exact ⟨q, vs, ev, h1, r1⟩
  · cases e
end PL

namespace PL
open PySem PySem.Spec PyProof.Rows L2

/-! ### data as PyData: equality, membership -/
mutual
def D.py : D → PyData
  | .non => .none
  | .bl b => .bool b
  | .int i => .int i
  | .str s => .str s
  | .tup ds => .tuple (pyAll ds)
  | .lst ds => .list (pyAll ds)
def pyAll : List D → List PyData
  | [] => []
  | d :: r => d.py :: pyAll r
end
mutual
theorem Rep.dp {K : PySem.W.Frag} {H : Hp} : ∀ {v : V} {d : D}, Rep K H v d → Dp K H v d.py
  | _, _, .non => by rw [D.py]; exact .non
  | _, _, .bl b => by rw [D.py]; exact .bl b
  | _, _, .int i => by rw [D.py]; exact .int i
  | _, _, .str x => by rw [D.py]; exact .str x
  | _, _, .tup h hs => by rw [D.py]; exact .tup h (Reps.dp hs)
  | _, _, .lst h hs => by rw [D.py]; exact .lst (.inl (.inr ⟨_, h⟩)) (Reps.dp hs)
theorem Reps.dp {K : PySem.W.Frag} {H : Hp} : ∀ {vs : List V} {ds : List D}, Reps K H vs ds → DpAll K H vs (pyAll ds)
  | _, _, .nil => by rw [pyAll]; exact .nil
  | _, _, .cons h hs => by rw [pyAll]; exact .cons (Rep.dp h) (Reps.dp hs)
end
def R.py : R → Option PyData
  | .d x => some x.py
  | .n (.lst xs) => some (.list (pyAll xs))
  | .b (.lst xs) => some (.list (pyAll xs))
  | _ => none
theorem R.dp {K : PySem.W.Frag} {S : Sm} {H : Hp} {v : V} {r : R} {d : PyData} (h : RepV K S H v r) (e : r.py = some d) : Dp K H v d := by
  cases r with
  | d x => cases e; exact Rep.dp h
  | n c =>
    cases c with
    | lst xs => cases e; obtain ⟨q, rfl, _, vs, e1, rr⟩ := h; exact .lst (SqL.of e1) rr.dp
    | dk xs => cases e
    | dt xs => cases e
    | kk xs => cases e
    | ll xs => cases e
  | b c =>
    cases c with
    | lst xs => cases e; obtain ⟨q, rfl, _, vs, e1, rr⟩ := h; exact .lst (.inl e1) rr.dp
    | dk xs => cases e
    | dt xs => cases e
    | kk xs => cases e
    | ll xs => cases e
  | strm => cases e
def fEq : R → R → (R → Prop) → Prop := fun x y P => match x.py, y.py with
  | some d, some e => SeqAt.shaped d = true ∧ SeqAt.shaped e = true ∧ P (.d (.bl (PyData.eqv d e)))
  | _, _ => False
def fNe : R → R → (R → Prop) → Prop := fun x y P => match x.py, y.py with
  | some d, some e => SeqAt.shaped d = true ∧ SeqAt.shaped e = true ∧ P (.d (.bl (!PyData.eqv d e)))
  | _, _ => False
/-- x in ys, a list -/
def fIn : R → R → (R → Prop) → Prop := fun x y P => match x.py, y.py with
  | some d, some (.list es) => SeqAt.shaped d = true ∧ SeqAt.shaped (.list es) = true ∧ P (.d (.bl (es.any fun z => PyData.eqv z d)))
  | _, _ => False
def fNotIn : R → R → (R → Prop) → Prop := fun x y P => match x.py, y.py with
  | some d, some (.list es) => SeqAt.shaped d = true ∧ SeqAt.shaped (.list es) = true ∧ P (.d (.bl (!es.any fun z => PyData.eqv z d)))
  | _, _ => False
section
variable {K : PySem.W.Frag} {S : Sm}
theorem op_fEq : OpP K S (rEqD K) fEq := by
  intro H v w x y P Q st hx hy hf q
  unfold fEq at hf
  cases ex : x.py with
  | none => rw [ex] at hf; exact hf.elim
  | some d =>
    cases ey : y.py with
    | none => rw [ex, ey] at hf; exact hf.elim
    | some e => rw [ex, ey] at hf; exact ⟨d, e, R.dp hx ex, R.dp hy ey, hf.1, hf.2.1, q _ _ H hf.2.2 (Ev.refl st) (.bl _)⟩
theorem op_fNe : OpP K S (rNeD K) fNe := by
  intro H v w x y P Q st hx hy hf q
  unfold fNe at hf
  cases ex : x.py with
  | none => rw [ex] at hf; exact hf.elim
  | some d =>
    cases ey : y.py with
    | none => rw [ex, ey] at hf; exact hf.elim
    | some e => rw [ex, ey] at hf; exact ⟨d, e, R.dp hx ex, R.dp hy ey, hf.1, hf.2.1, q _ _ H hf.2.2 (Ev.refl st) (.bl _)⟩
theorem op_fIn : OpP K S (rInD K) fIn := by
  intro H v w x y P Q st hx hy hf q
  unfold fIn at hf
  split at hf
  · next d es ex ey => exact ⟨d, es, R.dp hx ex, R.dp hy ey, hf.1, hf.2.1, q _ _ H hf.2.2 (Ev.refl st) (.bl _)⟩
  · exact hf.elim
theorem op_fNotIn : OpP K S (rNotInD K) fNotIn := by
  intro H v w x y P Q st hx hy hf q
  unfold fNotIn at hf
  split at hf
  · next d es ex ey => exact ⟨d, es, R.dp hx ex, R.dp hy ey, hf.1, hf.2.1, q _ _ H hf.2.2 (Ev.refl st) (.bl _)⟩
  · exact hf.elim

/-! ### ints -/
def fI (C : Int → Int → Prop) (g : Int → Int → D) : R → R → (R → Prop) → Prop := fun x y P => match x, y with
  | .d (.int i), .d (.int j) => C i j ∧ P (.d (g i j))
  | _, _ => False
theorem op_fI {C : Int → Int → Prop} {g : Int → Int → V} {g' : Int → Int → D} (hg : ∀ H i j, Rep K H (g i j) (g' i j)) : OpP K S (rI C g) (fI C g') := by
  intro H v w x y P Q st hx hy hf q
  unfold fI at hf
  split at hf
  · cases hx; cases hy; exact ⟨_, _, rfl, rfl, hf.1, q _ _ H hf.2 (Ev.refl st) (hg H _ _)⟩
  · exact hf.elim
def fI0 (g : Int → Int → D) : R → R → (R → Prop) → Prop := fun x y P => match x, y with
  | .d (.int i), .d (.int j) => P (.d (g i j))
  | _, _ => False
theorem op_fI0 {g : Int → Int → V} {g' : Int → Int → D} (hg : ∀ H i j, Rep K H (g i j) (g' i j)) : OpP K S (rI0 g) (fI0 g') := by
  intro H v w x y P Q st hx hy hf q
  unfold fI0 at hf
  split at hf
  · cases hx; cases hy; exact ⟨_, _, rfl, rfl, q _ _ H hf (Ev.refl st) (hg H _ _)⟩
  · exact hf.elim

/-! ### + -/
def fAdd : R → R → (R → Prop) → Prop := fun x y P => match x, y with
  | .d (.int i), .d (.int j) => P (.d (.int (i + j)))
  | .d (.str i), .d (.str j) => i.length + j.length ≤ sizeLine ∧ P (.d (.str (i ++ j)))
  | .d (.tup xs), .d (.tup ys) => xs.length + ys.length ≤ sizeLine ∧ P (.d (.tup (xs ++ ys)))
  | .n (.lst xs), .n (.lst ys) => xs.length + ys.length ≤ sizeLine ∧ P (.n (.lst (xs ++ ys)))
  | .n (.lst xs), .b (.lst ys) => xs.length + ys.length ≤ sizeLine ∧ P (.n (.lst (xs ++ ys)))
  | .b (.lst xs), .n (.lst ys) => xs.length + ys.length ≤ sizeLine ∧ P (.n (.lst (xs ++ ys)))
  | .b (.lst xs), .b (.lst ys) => xs.length + ys.length ≤ sizeLine ∧ P (.n (.lst (xs ++ ys)))
  | .d (.lst xs), .d (.lst ys) => xs.length + ys.length ≤ sizeLine ∧ P (.n (.lst (xs ++ ys)))
  | .d (.lst xs), .n (.lst ys) => xs.length + ys.length ≤ sizeLine ∧ P (.n (.lst (xs ++ ys)))
  | .n (.lst xs), .d (.lst ys) => xs.length + ys.length ≤ sizeLine ∧ P (.n (.lst (xs ++ ys)))
  | .d (.lst xs), .b (.lst ys) => xs.length + ys.length ≤ sizeLine ∧ P (.n (.lst (xs ++ ys)))
  | .b (.lst xs), .d (.lst ys) => xs.length + ys.length ≤ sizeLine ∧ P (.n (.lst (xs ++ ys)))
  | _, _ => False
def rCatR : R2 := fun x y H Q => ∃ l b xs zs, x = .ref l ∧ y = .ref b ∧ Rd H l (.lst xs) ∧ Rd H b (.lst zs) ∧ xs.length + zs.length ≤ sizeLine ∧ ∀ p, H p = none → Q (.ref p) (upd H p (.lst (xs ++ zs)))
theorem op_catR {X : Cx} : OpR X (binaryOp .Add) rCatR := by
  intro pins s σ H x y v u Q I rx ry h
  obtain ⟨l, b, xs, zs, rfl, rfl, hH, hB, hz, q⟩ := h
  cases rx
  cases ry
  obtain ⟨z, its, n, r, e⟩ := (show ObjOk X.prog X.w H s.heap l (.lst xs) from hH.ok I.hok)
  obtain ⟨z2, its2, n2, r2, e2⟩ := (show ObjOk X.prog X.w H s.heap b (.lst zs) from hB.ok I.hok)
  have hl := r.length
  have hl2 := r2.length
  refine PySem.P.add_list e e2 ?_ (by rw [List.size_toArray, List.size_toArray]; omega)
  rw [show its.toArray ++ its2.toArray = (its ++ its2).toArray by simp]
  exact ⟨.ref _, _, I.lnew (t' := s.toks) (r.append r2) (by rw [List.length_append]; omega), rfl, q _ I.fresh⟩
def rAddAll (K : PySem.W.Frag) : R2 := fun x y H Q => (rI0 (fun i j => .int (i + j)) x y H Q) ∨ ((∃ i j, x = .str i ∧ y = .str j ∧ i.length + j.length ≤ sizeLine ∧ Q (.str (i ++ j)) H) ∨ (rCatA K x y H Q ∨ rCatR x y H Q))
theorem opr_add {X : Cx} : OpR X (binaryOp .Add) (rAddAll X.K) := OpR.or op_add (OpR.or op_add_str (OpR.or op_catA op_catR))
theorem op_fAdd : OpP K S (rAddAll K) fAdd := by
  intro H v w x y P Q st hx hy hf q
  have cat : ∀ {xs ys : List D}, lstRd x = some xs → lstRd y = some ys → xs.length + ys.length ≤ sizeLine → P (.n (.lst (xs ++ ys))) → rAddAll K v w H Q := by
    intro xs ys ex ey hl hp
    obtain ⟨a, vs, e1, h1, r1⟩ := lstRd_ok hx ex
    obtain ⟨b, ws, e2, h2, r2⟩ := lstRd_ok hy ey
    refine .inr (.inr (.inr ⟨a, b, vs, ws, e1, e2, h1, h2, by rw [r1.length, r2.length]; exact hl, fun p np => q _ _ _ hp (Ev.new st np) ⟨p, rfl, np, _, upd_same, ?_⟩⟩))
    exact (r1.append r2).mono (tk_new np)
  unfold fAdd at hf
  split at hf
  · cases hx; cases hy; exact .inl ⟨_, _, rfl, rfl, q _ _ H hf (Ev.refl st) (.int _)⟩
  · cases hx; cases hy; exact .inr (.inl ⟨_, _, rfl, rfl, hf.1, q _ _ H hf.2 (Ev.refl st) (.str _)⟩)
  · cases hx with
    | tup h1 r1 =>
      cases hy with
      | tup h2 r2 =>
        refine .inr (.inr (.inl ⟨_, _, _, _, rfl, rfl, h1, h2, by rw [r1.length, r2.length]; exact hf.1, fun e => ?_, fun _ e => ?_, fun _ _ p np => ?_⟩))
        · subst e
          cases r1
          exact q _ _ H hf.2 (Ev.refl st) (.tup h2 r2)
        · subst e
          cases r2
          have hf2 := hf.2
          rw [List.append_nil] at hf2
          exact q _ _ H hf2 (Ev.refl st) (.tup h1 r1)
        · exact q _ _ _ hf.2 (Ev.new st np) (.tup (SqT.of upd_same) ((r1.append r2).mono (tk_new np)))
  · exact cat rfl rfl hf.1 hf.2
  · exact cat rfl rfl hf.1 hf.2
  · exact cat rfl rfl hf.1 hf.2
  · exact cat rfl rfl hf.1 hf.2
  · exact cat rfl rfl hf.1 hf.2
  · exact cat rfl rfl hf.1 hf.2
  · exact cat rfl rfl hf.1 hf.2
  · exact cat rfl rfl hf.1 hf.2
  · exact cat rfl rfl hf.1 hf.2
  · exact hf.elim

/-! ### is None -/
def isNonR : R → Bool
  | .d .non => true
  | _ => false
def fIsN : R → R → (R → Prop) → Prop := fun x y P => match y with
  | .d .non => P (.d (.bl (isNonR x)))
  | _ => False
def fNotN : R → R → (R → Prop) → Prop := fun x y P => match y with
  | .d .non => P (.d (.bl (!isNonR x)))
  | _ => False
theorem non_iff {H : Hp} {v : V} {x : R} (h : RepV K S H v x) : decide (v = .non) = isNonR x := by
  cases x with
  | d x => cases h <;> rfl
  | n c => obtain ⟨q, rfl, _⟩ := h; rfl
  | b c => obtain ⟨q, rfl, _⟩ := h; rfl
  | strm => obtain ⟨a, c, _, rfl⟩ := h; rfl
theorem op_fIsN : OpP K S (fun x y H Q => y = .non ∧ Q (.bl (decide (x = .non))) H) fIsN := by
  intro H v w x y P Q st hx hy hf q
  unfold fIsN at hf
  split at hf
  · cases hy
    refine ⟨rfl, ?_⟩
    rw [non_iff hx]
    exact q _ _ H hf (Ev.refl st) (.bl _)
  · exact hf.elim
theorem op_fNotN : OpP K S (fun x y H Q => y = .non ∧ Q (.bl (!decide (x = .non))) H) fNotN := by
  intro H v w x y P Q st hx hy hf q
  unfold fNotN at hf
  split at hf
  · cases hy
    refine ⟨rfl, ?_⟩
    rw [non_iff hx]
    exact q _ _ H hf (Ev.refl st) (.bl _)
  · exact hf.elim

/-! ### subscripts -/
def fIx : R → R → (R → Prop) → Prop := fun x y P => match x, y with
  | .d (.tup xs), .d (.int i) => (match atI xs i with | some z => P (.d z) | none => False)
  | .d (.lst xs), .d (.int i) => (match atI xs i with | some z => P (.d z) | none => False)
  | .n (.lst xs), .d (.int i) => (match atI xs i with | some z => P (.d z) | none => False)
  | .b (.lst xs), .d (.int i) => (match atI xs i with | some z => P (.d z) | none => False)
  | .d (.str s), .d (.int i) => s.length ≤ sizeLine ∧ (match atI s.cps.toList i with | some c => P (.d (.str ⟨#[c]⟩)) | none => False)
  | _, _ => False
theorem Reps.atI {H : Hp} {vs : List V} {ds : List D} {i : Int} {d : D} (r : Reps K H vs ds) (h : L2.atI ds i = some d) : ∃ v, L2.atI vs i = some v ∧ Rep K H v d := by
  unfold L2.atI at h ⊢
  rw [r.length]
  cases z : ixN ds.length i with
  | none => rw [z] at h; cases h
  | some j =>
    rw [z] at h
    exact r.get h
theorem op_fIx : OpP K S (rIx K) fIx := by
  intro H v w x y P Q st hx hy hf q
  have lst : ∀ {xs : List D} {i : Int}, lstRd x = some xs → w = .int i → (match L2.atI xs i with | some z => P (.d z) | none => False) → rIx K v w H Q := by
    intro xs i ex e2 hp
    obtain ⟨a, vs, e1, h1, r1⟩ := lstRd_ok hx ex
    cases z : L2.atI xs i with
    | none => rw [z] at hp; exact hp.elim
    | some d =>
      rw [z] at hp
      obtain ⟨u, h2, r2⟩ := r1.atI z
      exact .inl ⟨a, vs, i, u, e1, e2, .inl h1, h2, q _ _ H hp (Ev.refl st) r2⟩
  unfold fIx at hf
  split at hf
  · next xs i =>
    cases hx with
    | tup h1 r1 =>
      cases hy
      cases z : L2.atI xs i with
      | none => rw [z] at hf; exact hf.elim
      | some d =>
        rw [z] at hf
        obtain ⟨u, h2, r2⟩ := r1.atI z
        exact .inr (.inl ⟨_, _, _, u, rfl, rfl, h1, h2, q _ _ H hf (Ev.refl st) r2⟩)
  · cases hy; exact lst rfl rfl hf
  · cases hy; exact lst rfl rfl hf
  · cases hy; exact lst rfl rfl hf
  · next s i =>
    cases hx
    cases hy
    obtain ⟨hl, hf⟩ := hf
    cases z : L2.atI s.cps.toList i with
    | none => rw [z] at hf; exact hf.elim
    | some c =>
      rw [z] at hf
      exact .inr (.inr ⟨_, _, c, rfl, rfl, hl, z, q _ _ H hf (Ev.refl st) (.str _)⟩)
  · exact hf.elim
end

section
variable {K : PySem.W.Frag} {X : Cx} {S : Sm} {W : WX} {e a b c : Expr} {es : List Expr} {ta tb tc : TE} {tt tu : TT} {t : TA} {da db dc : DE} {dt du : DT} {ds : DA} {pos p2 p3 : Pos} {rest : List Expr}
theorem pd_ix (ha : PD K X S W a ta da) (hb : PD K X S W b tb db) (hs : PlainIx b := by exact fun _ _ => rfl) : PD K X S W (.Subscript a b pos) (tOp (rIx K) ta tb) (dOp fIx da db) := by
  obtain ⟨hK, pa, ha⟩ := ha
  obtain ⟨_, pb, hb⟩ := hb
  subst hK
  exact ⟨rfl, pe_ix ix_seq pa pb hs, evp_op op_fIx ha hb⟩
theorem pd_add (ha : PD K X S W a ta da) (hb : PD K X S W b tb db) : PD K X S W (.BinOp a .Add b pos) (tOp (rAddAll K) ta tb) (dOp fAdd da db) := by
  have hK := ha.1
  subst hK
  exact pd_op opr_add op_fAdd ha hb
theorem pd_sub (ha : PD K X S W a ta da) (hb : PD K X S W b tb db) : PD K X S W (.BinOp a .Sub b pos) (tOp (rI0 fun i j => .int (i - j)) ta tb) (dOp (fI0 fun i j => .int (i - j)) da db) := pd_op op_sub (op_fI0 fun _ _ _ => .int _) ha hb
theorem pd_mul (ha : PD K X S W a ta da) (hb : PD K X S W b tb db) : PD K X S W (.BinOp a .Mult b pos) (tOp (rI CMul fun i j => .int (i * j)) ta tb) (dOp (fI CMul fun i j => .int (i * j)) da db) := pd_op op_mul (op_fI fun _ _ _ => .int _) ha hb
theorem pd_mod (ha : PD K X S W a ta da) (hb : PD K X S W b tb db) : PD K X S W (.BinOp a .Mod b pos) (tOp (rI (fun _ j => 0 < j) fun i j => .int (i % j)) ta tb) (dOp (fI (fun _ j => 0 < j) fun i j => .int (i % j)) da db) := pd_op op_mod (op_fI fun _ _ _ => .int _) ha hb
theorem pd_fdiv (ha : PD K X S W a ta da) (hb : PD K X S W b tb db) : PD K X S W (.BinOp a .FloorDiv b pos) (tOp (rI CDiv fun i j => .int (i / j)) ta tb) (dOp (fI CDiv fun i j => .int (i / j)) da db) := pd_op op_fdiv (op_fI fun _ _ _ => .int _) ha hb
def fLt := fI0 fun i j => .bl (decide (i < j))
def fLe := fI0 fun i j => .bl (decide (i ≤ j))
def fGt := fI0 fun i j => .bl (decide (j < i))
def fGe := fI0 fun i j => .bl (decide (j ≤ i))
theorem op_fLt {K : PySem.W.Frag} : OpP K S (rI0 fun i j => .bl (decide (i < j))) fLt := op_fI0 fun _ _ _ => .bl _
theorem op_fLe {K : PySem.W.Frag} : OpP K S (rI0 fun i j => .bl (decide (i ≤ j))) fLe := op_fI0 fun _ _ _ => .bl _
theorem op_fGt {K : PySem.W.Frag} : OpP K S (rI0 fun i j => .bl (decide (j < i))) fGt := op_fI0 fun _ _ _ => .bl _
theorem op_fGe {K : PySem.W.Frag} : OpP K S (rI0 fun i j => .bl (decide (j ≤ i))) fGe := op_fI0 fun _ _ _ => .bl _
section
variable (hu : X.A.units + 64 < cLine)
include hu
theorem pd_eq (ha : PD K X S W a ta da) (hb : PD K X S W b tb db) : PD K X S W (.Compare a [.Eq] [b] pos) (tOp (rEqD K) ta tb) (dOp fEq da db) := by
  have hK := ha.1
  subst hK
  exact pd_cmp (op_eqD hu) op_fEq ha hb (nomark _)
theorem pd_ne (ha : PD K X S W a ta da) (hb : PD K X S W b tb db) : PD K X S W (.Compare a [.NotEq] [b] pos) (tOp (rNeD K) ta tb) (dOp fNe da db) := by
  have hK := ha.1
  subst hK
  exact pd_cmp (op_neD hu) op_fNe ha hb (nomark _)
theorem td_eq (ha : PD K X S W a ta da) (hb : PD K X S W b tb db) : TD K X S W (.Compare a [.Eq] [b] pos) (tTest (tOp (rEqD K) ta tb)) (tdB (dOp fEq da db)) := by
  have hK := ha.1
  subst hK
  exact td_cmp (op_eqD hu) op_fEq ha hb (nomark _)
theorem td_ne (ha : PD K X S W a ta da) (hb : PD K X S W b tb db) : TD K X S W (.Compare a [.NotEq] [b] pos) (tTest (tOp (rNeD K) ta tb)) (tdB (dOp fNe da db)) := by
  have hK := ha.1
  subst hK
  exact td_cmp (op_neD hu) op_fNe ha hb (nomark _)
end
section
variable (hu : X.A.units + 65 < cLine)
include hu
theorem pd_in (ha : PD K X S W a ta da) (hb : PD K X S W b tb db) (hm : behindInMarks .In b = false := by with_unfolding_all rfl) : PD K X S W (.Compare a [.In] [b] pos) (tOp (rInD K) ta tb) (dOp fIn da db) := by
  have hK := ha.1
  subst hK
  exact pd_cmp (op_inD hu) op_fIn ha hb hm
theorem td_in (ha : PD K X S W a ta da) (hb : PD K X S W b tb db) (hm : behindInMarks .In b = false := by with_unfolding_all rfl) : TD K X S W (.Compare a [.In] [b] pos) (tTest (tOp (rInD K) ta tb)) (tdB (dOp fIn da db)) := by
  have hK := ha.1
  subst hK
  exact td_cmp (op_inD hu) op_fIn ha hb hm
theorem pd_notIn (ha : PD K X S W a ta da) (hb : PD K X S W b tb db) (hm : behindInMarks .NotIn b = false := by with_unfolding_all rfl) : PD K X S W (.Compare a [.NotIn] [b] pos) (tOp (rNotInD K) ta tb) (dOp fNotIn da db) := by
  have hK := ha.1
  subst hK
  exact pd_cmp (op_notInD hu) op_fNotIn ha hb hm
theorem td_notIn (ha : PD K X S W a ta da) (hb : PD K X S W b tb db) (hm : behindInMarks .NotIn b = false := by with_unfolding_all rfl) : TD K X S W (.Compare a [.NotIn] [b] pos) (tTest (tOp (rNotInD K) ta tb)) (tdB (dOp fNotIn da db)) := by
  have hK := ha.1
  subst hK
  exact td_cmp (op_notInD hu) op_fNotIn ha hb hm
end
theorem pd_lt (ha : PD K X S W a ta da) (hb : PD K X S W b tb db) : PD K X S W (.Compare a [.Lt] [b] pos) (tOp (rI0 fun i j => .bl (decide (i < j))) ta tb) (dOp fLt da db) := pd_cmp op_lt op_fLt ha hb (nomark _)
theorem td_lt (ha : PD K X S W a ta da) (hb : PD K X S W b tb db) : TD K X S W (.Compare a [.Lt] [b] pos) (tTest (tOp (rI0 fun i j => .bl (decide (i < j))) ta tb)) (tdB (dOp fLt da db)) := td_cmp op_lt op_fLt ha hb (nomark _)
theorem pd_le (ha : PD K X S W a ta da) (hb : PD K X S W b tb db) : PD K X S W (.Compare a [.LtE] [b] pos) (tOp (rI0 fun i j => .bl (decide (i ≤ j))) ta tb) (dOp fLe da db) := pd_cmp op_le op_fLe ha hb (nomark _)
theorem td_le (ha : PD K X S W a ta da) (hb : PD K X S W b tb db) : TD K X S W (.Compare a [.LtE] [b] pos) (tTest (tOp (rI0 fun i j => .bl (decide (i ≤ j))) ta tb)) (tdB (dOp fLe da db)) := td_cmp op_le op_fLe ha hb (nomark _)
theorem pd_gt (ha : PD K X S W a ta da) (hb : PD K X S W b tb db) : PD K X S W (.Compare a [.Gt] [b] pos) (tOp (rI0 fun i j => .bl (decide (j < i))) ta tb) (dOp fGt da db) := pd_cmp op_gt op_fGt ha hb (nomark _)
theorem td_gt (ha : PD K X S W a ta da) (hb : PD K X S W b tb db) : TD K X S W (.Compare a [.Gt] [b] pos) (tTest (tOp (rI0 fun i j => .bl (decide (j < i))) ta tb)) (tdB (dOp fGt da db)) := td_cmp op_gt op_fGt ha hb (nomark _)
theorem pd_ge (ha : PD K X S W a ta da) (hb : PD K X S W b tb db) : PD K X S W (.Compare a [.GtE] [b] pos) (tOp (rI0 fun i j => .bl (decide (j ≤ i))) ta tb) (dOp fGe da db) := pd_cmp op_ge op_fGe ha hb (nomark _)
theorem td_ge (ha : PD K X S W a ta da) (hb : PD K X S W b tb db) : TD K X S W (.Compare a [.GtE] [b] pos) (tTest (tOp (rI0 fun i j => .bl (decide (j ≤ i))) ta tb)) (tdB (dOp fGe da db)) := td_cmp op_ge op_fGe ha hb (nomark _)
theorem pd_isN (ha : PD K X S W a ta da) (hb : PD K X S W b tb db) : PD K X S W (.Compare a [.Is] [b] pos) (tOp (fun x y H Q => y = .non ∧ Q (.bl (decide (x = .non))) H) ta tb) (dOp fIsN da db) := pd_cmp op_isN op_fIsN ha hb (nomark _)
theorem td_isN (ha : PD K X S W a ta da) (hb : PD K X S W b tb db) : TD K X S W (.Compare a [.Is] [b] pos) (tTest (tOp (fun x y H Q => y = .non ∧ Q (.bl (decide (x = .non))) H) ta tb)) (tdB (dOp fIsN da db)) := td_cmp op_isN op_fIsN ha hb (nomark _)
theorem pd_notN (ha : PD K X S W a ta da) (hb : PD K X S W b tb db) : PD K X S W (.Compare a [.IsNot] [b] pos) (tOp (fun x y H Q => y = .non ∧ Q (.bl (!decide (x = .non))) H) ta tb) (dOp fNotN da db) := pd_cmp op_notN op_fNotN ha hb (nomark _)
theorem td_notN (ha : PD K X S W a ta da) (hb : PD K X S W b tb db) : TD K X S W (.Compare a [.IsNot] [b] pos) (tTest (tOp (fun x y H Q => y = .non ∧ Q (.bl (!decide (x = .non))) H) ta tb)) (tdB (dOp fNotN da db)) := td_cmp op_notN op_fNotN ha hb (nomark _)
/-- -a -/
def dNeg (da : DE) : DE := fun ρ P E => da ρ (fun x => match x with | .d (.int i) => P (.d (.int (-i))) | _ => False) E
theorem pd_neg (ha : PD K X S W a ta da) : PD K X S W (.UnaryOp .USub a pos) (tUn (rU fun i => .int (-i)) ta) (dNeg da) := by
  obtain ⟨hK, pa, ha⟩ := ha
  refine ⟨hK, pe_un un_neg pa, fun ρ P E hp H0 pr σ H Q ho q w => ?_⟩
  refine ha ρ _ E hp H0 pr σ H _ ho (fun x v H1 hx e1 r1 => ?_) w
  split at hx
  · cases r1; exact ⟨_, rfl, q _ _ H1 hx e1 (.int _)⟩
  · exact hx.elim

/-! ### slices -/
abbrev DO := List A → (Option Int → Prop) → RX → Prop
def EvO (K : PySem.W.Frag) (S : Sm) (W : WX) (to : TO) (ρ : List A) (P : Option Int → Prop) (E : RX) : Prop := ∀ H0 pr σ H Q, Holds K S H0 pr ρ σ H →
  (∀ o H', P o → Ev S H H' → Q o H') → Wish S W σ H E → to σ H Q
def OD (K : PySem.W.Frag) (X : Cx) (S : Sm) (W : WX) (e : Option Expr) (to : TO) (d : DO) : Prop := X.K = K ∧ PO X e to ∧ ∀ ρ P E, d ρ P E → EvO K S W to ρ P E
def oNone : DO := fun _ P _ => P none
def oSome (da : DE) : DO := fun ρ P E => da ρ (fun x => match x with | .d (.int i) => P (some i) | _ => False) E
theorem od_none (hK : X.K = K := by rfl) : OD K X S W none tNoPart oNone := ⟨hK, po_none, fun ρ P E hp H0 pr σ H Q ho q w => q none H hp (Ev.refl ho.stm)⟩
theorem od_some (ha : PD K X S W a ta da) : OD K X S W (some a) (tPart ta) (oSome da) := by
  obtain ⟨hK, pa, ha⟩ := ha
  refine ⟨hK, po_some pa, fun ρ P E hp H0 pr σ H Q ho q w => ?_⟩
  refine ha ρ _ E hp H0 pr σ H _ ho (fun x v H1 hx e1 r1 => ?_) w
  split at hx
  · cases r1; exact ⟨_, rfl, q _ H1 hx e1⟩
  · exact hx.elim
def cut {α : Type} (xs : List α) (lo hi : Option Int) : List α := (xs.drop (HT.sIx xs.length 0 lo)).take (HT.sIx xs.length xs.length hi - HT.sIx xs.length 0 lo)
theorem Reps.cut {K : PySem.W.Frag} {H : Hp} {vs : List V} {ds : List D} (r : Reps K H vs ds) (lo hi : Option Int) : Reps K H (cutV vs lo hi) (PL.cut ds lo hi) := by
  unfold cutV PL.cut
  rw [r.length]
  exact (r.drop _).take _
theorem cut_whole {α : Type} {xs : List α} {lo hi : Option Int} (h : HT.sIx xs.length 0 lo = 0 ∧ HT.sIx xs.length xs.length hi = xs.length) : cut xs lo hi = xs := by
  unfold cut
  rw [h.1, h.2]
  simp
def fSl (x : R) (lo hi : Option Int) (P : R → Prop) : Prop := match x with
  | .d (.tup xs) => P (.d (.tup (cut xs lo hi)))
  | .d (.lst xs) => P (.n (.lst (cut xs lo hi)))
  | .n (.lst xs) => P (.n (.lst (cut xs lo hi)))
  | .b (.lst xs) => P (.n (.lst (cut xs lo hi)))
  | .d (.str s) => s.length ≤ sizeLine ∧ P (.d (.str (cutS s lo hi)))
  | _ => False
def dSl (da : DE) (dl dh : DO) : DE := fun ρ P E => da ρ (fun x => dl ρ (fun lo => dh ρ (fun hi => fSl x lo hi P) E) E) E
def rSlAll (K : PySem.W.Frag) : V → Option Int → Option Int → Hp → VK → Prop := fun x lo hi H Q => rSlA K x lo hi H Q ∨ (rSlL K x lo hi H Q ∨ rSlS x lo hi H Q)
theorem pd_slice {lo hi : Option Expr} {tl th : TO} {dl dh : DO} (ha : PD K X S W a ta da) (hl : OD K X S W lo tl dl) (hh : OD K X S W hi th dh) : PD K X S W (.Subscript a (.Slice lo hi none p2) pos) (tSl (rSlAll K) ta tl th) (dSl da dl dh) := by
  obtain ⟨hK, pa, ha⟩ := ha
  obtain ⟨_, pl, hl⟩ := hl
  obtain ⟨_, ph, hh⟩ := hh
  subst hK
  refine ⟨rfl, pe_slice (r := rSlAll X.K) ((sl_tupA).or (sl_list.or sl_str)) pa pl ph, fun ρ P E hp H0 pr σ H Q ho q w => ?_⟩
  refine ha ρ _ E hp H0 pr σ H _ ho (fun x v H1 hx e1 r1 => ?_) w
  refine hl ρ _ E hx H0 pr σ H1 _ (ho.step e1) (fun lo H2 h2 e2 => ?_) (w.step e1)
  refine hh ρ _ E h2 H0 pr σ H2 _ ((ho.step e1).step e2) (fun hi H3 h3 e3 => ?_) ((w.step e1).step e2)
  have rv := ((r1.val ho.stm).step e2).step e3
  have e13 := (e1.trans e2).trans e3
  have lst : ∀ {xs : List D}, lstRd x = some xs → P (.n (.lst (cut xs lo hi))) → rSlL X.K v lo hi H3 Q := by
    intro xs ex hp
    obtain ⟨q', vs, ev, h4, r4⟩ := lstRd_ok rv ex
    refine ⟨q', vs, ev, .inl h4, fun p np => q _ _ _ hp (e13.trans (Ev.new e3.stm np)) ⟨p, rfl, e13.back ho.stm np, _, upd_same, (r4.cut lo hi).mono (tk_new np)⟩⟩
  unfold fSl at h3
  split at h3
  · cases rv with
    | tup h4 r4 =>
      refine .inl ⟨_, _, rfl, h4, fun hw => ?_, fun hw p np => ?_⟩
      · rw [r4.length] at hw
        rw [cut_whole hw] at h3
        exact q _ _ H3 h3 e13 (.tup h4 r4)
      · exact q _ _ _ h3 (e13.trans (Ev.new e3.stm np)) (.tup (SqT.of upd_same) ((r4.cut lo hi).mono (tk_new np)))
  · exact .inr (.inl (lst rfl h3))
  · exact .inr (.inl (lst rfl h3))
  · exact .inr (.inl (lst rfl h3))
  · cases rv; exact .inr (.inr ⟨_, rfl, h3.1, q _ _ H3 h3.2 e13 (.str _)⟩)
  · exact h3.elim

/-! ### calls of built-ins -/
def CallP (K : PySem.W.Frag) (S : Sm) (r : List V → Hp → VK → Prop) (f : List R → (R → Prop) → Prop) : Prop := ∀ H vs xs P (Q : VK), StmOk S H → RepVs K S H vs xs → f xs P →
  (∀ z u H', P z → Ev S H H' → RepR K S H H' u z → Q u H') → r vs H Q
def dCB (f : List R → (R → Prop) → Prop) (ds : DA) : DE := fun ρ P E => ds ρ (fun rs => f rs P) E
theorem evp_cb {r : List V → Hp → VK → Prop} {f : List R → (R → Prop) → Prop} (hf : CallP K S r f) (ha : ∀ ρ P E, ds ρ P E → EvA K S W t ρ P E) : ∀ ρ P E, dCB f ds ρ P E → EvP K S W (tCB r t) ρ P E := by
  intro ρ P E hp H0 pr σ H Q ho q w
  refine ha ρ _ E hp H0 pr σ H _ ho (fun rs vs H1 h1 e1 r1 => ?_) w
  exact hf H1 vs rs P Q e1.stm r1 h1 fun z u H' hz e2 r2 => q z u H' hz (e1.trans e2) (r2.from e1 ho.stm)
theorem pd_callB {x : Str} {id : String} {p : Pos} {r : List V → Hp → VK → Prop} {f : List R → (R → Prop) → Prop} (hc : CallR X (.builtin id) r) (hf : CallP K S r f) (hg : Gl X x) (hm : X.mg x = none) (hv : bootBuiltins x = some (.builtin id)) (ha : AD K X S W (e :: es) t ds) (hn : x ≠ "__name__" := by decide)
    (hdb : (x == ("__debug__" : Str)) = false := by decide) (he : starEach (e :: es) X.env = (false, eval e X.env) :: starEach es X.env := by rfl) (hpl : (backTo pos (starEach es X.env)).any (·.1) = false := by rfl) : PD K X S W (.Call (.Name x p) (e :: es) [] pos) (tCB r t) (dCB f ds) := by
  obtain ⟨hK, pa, ha⟩ := ha
  exact ⟨hK, pe_callB hc hg hm hv pa hn hdb he hpl, evp_cb hf ha⟩
theorem pd_callTy {x : Str} {T : String} {p : Pos} {r : List V → Hp → VK → Prop} {f : List R → (R → Prop) → Prop} (hc : CallR X (.type T) r) (hf : CallP K S r f) (hg : Gl X x) (hm : X.mg x = none) (hv : bootBuiltins x = some (.type T)) (ha : AD K X S W (e :: es) t ds) (hn : x ≠ "__name__" := by decide)
    (hdb : (x == ("__debug__" : Str)) = false := by decide) (he : starEach (e :: es) X.env = (false, eval e X.env) :: starEach es X.env := by rfl) (hpl : (backTo pos (starEach es X.env)).any (·.1) = false := by rfl) : PD K X S W (.Call (.Name x p) (e :: es) [] pos) (tCB r t) (dCB f ds) := by
  obtain ⟨hK, pa, ha⟩ := ha
  exact ⟨hK, pe_callTy hc hg hm hv pa hn hdb he hpl, evp_cb hf ha⟩
def rInt1 : List V → Hp → VK → Prop := fun xs H Q => (∃ i, xs = [.int i] ∧ Q (.int i) H) ∨ ∃ k, xs = [.bl k] ∧ Q (.int (if k then 1 else 0)) H
def rMx2 : List V → Hp → VK → Prop := fun xs H Q => ∃ i j, xs = [.int i, .int j] ∧ Q (.int (if j > i then j else i)) H
def rTupOf (K : PySem.W.Frag) : List V → Hp → VK → Prop := fun xs H Q => ∃ p ys, xs = [.ref p] ∧ ((SqL K H p ys ∧ ∀ l, H l = none → Q (.ref l) (upd H l (.tup ys))) ∨ (SqT K H p ys ∧ Q (.ref p) H))
def rListOf (K : PySem.W.Frag) : List V → Hp → VK → Prop := fun xs H Q => ∃ p ys, xs = [.ref p] ∧ (SqL K H p ys ∨ SqT K H p ys) ∧ ∀ l, H l = none → Q (.ref l) (upd H l (.lst ys))
/-- len -/
def fLen : List R → (R → Prop) → Prop := fun xs P => match xs with
  | [.d (.tup ys)] => P (.d (.int ys.length))
  | [.d (.lst ys)] => P (.d (.int ys.length))
  | [.n (.lst ys)] => P (.d (.int ys.length))
  | [.b (.lst ys)] => P (.d (.int ys.length))
  | [.d (.str s)] => s.length ≤ sizeLine ∧ P (.d (.int s.length))
  | [.n (.dk ys)] => P (.d (.int ys.length))
  | [.b (.dk ys)] => P (.d (.int ys.length))
  | _ => False
def rLenAll (K : PySem.W.Frag) : List V → Hp → VK → Prop := fun xs H Q => (∃ p ys, xs = [.ref p] ∧ (SqL K H p ys ∨ SqT K H p ys) ∧ Q (.int ys.length) H) ∨ ((∃ z, xs = [.str z] ∧ z.length ≤ sizeLine ∧ Q (.int z.length) H) ∨ (∃ a kvs, xs = [V.ref a] ∧ H a = some (.dK kvs) ∧ Q (.int kvs.length) H))
theorem callr_len : CallR X (.builtin "len") (rLenAll X.K) := CallR.or call_len_seq (CallR.or call_len_str call_lenD)
theorem KVs.length {κ : Type} {K : PySem.W.Frag} {H : Hp} : ∀ {vs : List (κ × V)} {ds : List (κ × D)}, KVs K H vs ds → vs.length = ds.length
  | _, _, .nil => rfl
  | _, _, .cons _ t => congrArg (· + 1) (KVs.length t)
theorem RepVs.one {K : PySem.W.Frag} {H : Hp} {vs : List V} {r : R} (h : RepVs K S H vs [r]) : ∃ v, vs = [v] ∧ RepV K S H v r := by
  cases h with
  | cons h1 h2 => cases h2; exact ⟨_, rfl, h1⟩
theorem RepVs.two {K : PySem.W.Frag} {H : Hp} {vs : List V} {r s : R} (h : RepVs K S H vs [r, s]) : ∃ v w, vs = [v, w] ∧ RepV K S H v r ∧ RepV K S H w s := by
  cases h with
  | cons h1 h2 => obtain ⟨w, rfl, h3⟩ := RepVs.one h2; exact ⟨_, _, rfl, h1, h3⟩
theorem callp_len {K : PySem.W.Frag} : CallP K S (rLenAll K) fLen := by
  intro H vs xs P Q st hx hf q
  have lst : ∀ {ys : List D} {r : R} {v : V}, RepV K S H v r → lstRd r = some ys → P (.d (.int ys.length)) → rLenAll K [v] H Q := by
    intro ys r v rv er hp
    obtain ⟨q', ws, ev, h1, r1⟩ := lstRd_ok rv er
    subst ev
    refine .inl ⟨q', ws, rfl, .inl (.inl h1), ?_⟩
    rw [r1.length]
    exact q _ _ H hp (Ev.refl st) (.int _)
  have dk : ∀ {ys : List (Key × D)} {v : V} {q' : Addr}, v = .ref q' → Stands K H q' (.dk ys) → P (.d (.int ys.length)) → rLenAll K [v] H Q := by
    intro ys v q' ev ⟨ws, h1, r1⟩ hp
    subst ev
    refine .inr (.inr ⟨q', ws, rfl, h1, ?_⟩)
    rw [KVs.length r1]
    exact q _ _ H hp (Ev.refl st) (.int _)
  unfold fLen at hf
  split at hf
  · obtain ⟨v, rfl, h⟩ := RepVs.one hx
    cases h with
    | tup h1 r1 =>
      refine .inl ⟨_, _, rfl, .inr h1, ?_⟩
      rw [r1.length]
      exact q _ _ H hf (Ev.refl st) (.int _)
  · obtain ⟨v, rfl, h⟩ := RepVs.one hx; exact lst h rfl hf
  · obtain ⟨v, rfl, h⟩ := RepVs.one hx; exact lst h rfl hf
  · obtain ⟨v, rfl, h⟩ := RepVs.one hx; exact lst h rfl hf
  · obtain ⟨v, rfl, h⟩ := RepVs.one hx
    cases h
    exact .inr (.inl ⟨_, rfl, hf.1, q _ _ H hf.2 (Ev.refl st) (.int _)⟩)
  · obtain ⟨v, rfl, q', ev, _, s⟩ := RepVs.one hx; exact dk ev s hf
  · obtain ⟨v, rfl, q', ev, _, s⟩ := RepVs.one hx; exact dk ev s hf
  · exact hf.elim
theorem pd_len {p : Pos} (hm : X.mg "len" = none) (ha : AD K X S W (e :: es) t ds) (hg : Gl X "len" := by rfl) (he : starEach (e :: es) X.env = (false, eval e X.env) :: starEach es X.env := by rfl) (hpl : (backTo pos (starEach es X.env)).any (·.1) = false := by rfl) :
    PD K X S W (.Call (.Name "len" p) (e :: es) [] pos) (tCB (rLenAll K) t) (dCB fLen ds) := by
  have hK := ha.1
  subst hK
  exact pd_callB callr_len callp_len hg hm PySem.boot_len ha (by decide) (by decide) he hpl
/-- int(i), abs(i), max(i, j), min(i, j) -/
def fInt : List R → (R → Prop) → Prop := fun xs P => match xs with
  | [.d (.int i)] => P (.d (.int i))
  | [.d (.bl k)] => P (.d (.int (if k then 1 else 0)))
  | _ => False
theorem callp_int {K : PySem.W.Frag} : CallP K S (fun xs H Q => (∃ i, xs = [.int i] ∧ Q (.int i) H) ∨ ∃ k, xs = [.bl k] ∧ Q (.int (if k then 1 else 0)) H) fInt := by
  intro H vs xs P Q st hx hf q
  unfold fInt at hf
  split at hf
  · obtain ⟨v, rfl, h⟩ := RepVs.one hx; cases h; exact .inl ⟨_, rfl, q _ _ H hf (Ev.refl st) (.int _)⟩
  · obtain ⟨v, rfl, h⟩ := RepVs.one hx; cases h; exact .inr ⟨_, rfl, q _ _ H hf (Ev.refl st) (.int _)⟩
  · exact hf.elim
theorem pd_toint {p : Pos} (hm : X.mg "int" = none) (ha : AD K X S W (e :: es) t ds) (hg : Gl X "int" := by rfl) (he : starEach (e :: es) X.env = (false, eval e X.env) :: starEach es X.env := by rfl) (hpl : (backTo pos (starEach es X.env)).any (·.1) = false := by rfl) :
    PD K X S W (.Call (.Name "int" p) (e :: es) [] pos) (tCB rInt1 t) (dCB fInt ds) := by
  have hK := ha.1
  subst hK
  exact pd_callTy (r := rInt1) call_int1 callp_int hg hm PyProof.Rows.boot_int ha (by decide) (by decide) he hpl
def f2I (g : Int → Int → Int) : List R → (R → Prop) → Prop := fun xs P => match xs with
  | [.d (.int i), .d (.int j)] => P (.d (.int (g i j)))
  | _ => False
theorem callp_2I {K : PySem.W.Frag} {g : Int → Int → Int} : CallP K S (fun xs H Q => ∃ i j, xs = [.int i, .int j] ∧ Q (.int (g i j)) H) (f2I g) := by
  intro H vs xs P Q st hx hf q
  unfold f2I at hf
  split at hf
  · obtain ⟨v, w, rfl, h, h2⟩ := RepVs.two hx; cases h; cases h2; exact ⟨_, _, rfl, q _ _ H hf (Ev.refl st) (.int _)⟩
  · exact hf.elim
def fMax2 := f2I fun i j => if j > i then j else i
def fMin2 := f2I fun i j => if j < i then j else i
theorem pd_max2 {p : Pos} (hc : X.calm = true) (hm : X.mg "max" = none) (ha : AD K X S W (e :: es) t ds) (hg : Gl X "max" := by rfl) (he : starEach (e :: es) X.env = (false, eval e X.env) :: starEach es X.env := by rfl) (hpl : (backTo pos (starEach es X.env)).any (·.1) = false := by rfl) :
    PD K X S W (.Call (.Name "max" p) (e :: es) [] pos) (tCB rMx2 t) (dCB fMax2 ds) := by
  have hK := ha.1
  subst hK
  exact pd_callB (r := rMx2) (call_max2 hc) callp_2I hg hm (by decide +kernel) ha (by decide) (by decide) he hpl
/-- tuple(x), list(x) -/
def fTuple : List R → (R → Prop) → Prop := fun xs P => match xs with
  | [.d (.tup ys)] => P (.d (.tup ys))
  | [.d (.lst ys)] => P (.d (.tup ys))
  | [.n (.lst ys)] => P (.d (.tup ys))
  | [.b (.lst ys)] => P (.d (.tup ys))
  | _ => False
theorem callp_tuple {K : PySem.W.Frag} : CallP K S (fun xs H Q => ∃ p ys, xs = [.ref p] ∧ ((SqL K H p ys ∧ ∀ l, H l = none → Q (.ref l) (upd H l (.tup ys))) ∨ (SqT K H p ys ∧ Q (.ref p) H))) fTuple := by
  intro H vs xs P Q st hx hf q
  unfold fTuple at hf
  split at hf
  · obtain ⟨v, rfl, h⟩ := RepVs.one hx
    cases h with
    | tup h1 r1 => exact ⟨_, _, rfl, .inr ⟨h1, q _ _ H hf (Ev.refl st) (.tup h1 r1)⟩⟩
  · obtain ⟨v, rfl, h⟩ := RepVs.one hx
    obtain ⟨q', ws, rfl, h1, r1⟩ := lstRd_ok h rfl
    exact ⟨_, _, rfl, .inl ⟨.inl h1, fun l nl => q _ _ _ hf (Ev.new st nl) (.tup (SqT.of upd_same) (r1.mono (tk_new nl)))⟩⟩
  · obtain ⟨v, rfl, h⟩ := RepVs.one hx
    obtain ⟨q', ws, rfl, h1, r1⟩ := lstRd_ok h rfl
    exact ⟨_, _, rfl, .inl ⟨.inl h1, fun l nl => q _ _ _ hf (Ev.new st nl) (.tup (SqT.of upd_same) (r1.mono (tk_new nl)))⟩⟩
  · obtain ⟨v, rfl, h⟩ := RepVs.one hx
    obtain ⟨q', ws, rfl, h1, r1⟩ := lstRd_ok h rfl
    exact ⟨_, _, rfl, .inl ⟨.inl h1, fun l nl => q _ _ _ hf (Ev.new st nl) (.tup (SqT.of upd_same) (r1.mono (tk_new nl)))⟩⟩
  · exact hf.elim
theorem pd_tuple {p : Pos} (hm : X.mg "tuple" = none) (ha : AD K X S W (e :: es) t ds) (hg : Gl X "tuple" := by rfl) (he : starEach (e :: es) X.env = (false, eval e X.env) :: starEach es X.env := by rfl) (hpl : (backTo pos (starEach es X.env)).any (·.1) = false := by rfl) :
    PD K X S W (.Call (.Name "tuple" p) (e :: es) [] pos) (tCB (rTupOf K) t) (dCB fTuple ds) := by
  have hK := ha.1
  subst hK
  exact pd_callTy (r := rTupOf X.K) call_tuple_of callp_tuple hg hm PyProof.Rows.boot_tuple ha (by decide) (by decide) he hpl
def fList : List R → (R → Prop) → Prop := fun xs P => match xs with
  | [.d (.tup ys)] => P (.n (.lst ys))
  | [.d (.lst ys)] => P (.n (.lst ys))
  | [.n (.lst ys)] => P (.n (.lst ys))
  | [.b (.lst ys)] => P (.n (.lst ys))
  | _ => False
theorem callp_list {K : PySem.W.Frag} : CallP K S (fun xs H Q => ∃ p ys, xs = [.ref p] ∧ (SqL K H p ys ∨ SqT K H p ys) ∧ ∀ l, H l = none → Q (.ref l) (upd H l (.lst ys))) fList := by
  intro H vs xs P Q st hx hf q
  unfold fList at hf
  split at hf
  · obtain ⟨v, rfl, h⟩ := RepVs.one hx
    cases h with
    | tup h1 r1 => exact ⟨_, _, rfl, .inr h1, fun l nl => q _ _ _ hf (Ev.new st nl) ⟨l, rfl, nl, _, upd_same, r1.mono (tk_new nl)⟩⟩
  · obtain ⟨v, rfl, h⟩ := RepVs.one hx
    obtain ⟨q', ws, rfl, h1, r1⟩ := lstRd_ok h rfl
    exact ⟨_, _, rfl, .inl (.inl h1), fun l nl => q _ _ _ hf (Ev.new st nl) ⟨l, rfl, nl, _, upd_same, r1.mono (tk_new nl)⟩⟩
  · obtain ⟨v, rfl, h⟩ := RepVs.one hx
    obtain ⟨q', ws, rfl, h1, r1⟩ := lstRd_ok h rfl
    exact ⟨_, _, rfl, .inl (.inl h1), fun l nl => q _ _ _ hf (Ev.new st nl) ⟨l, rfl, nl, _, upd_same, r1.mono (tk_new nl)⟩⟩
  · obtain ⟨v, rfl, h⟩ := RepVs.one hx
    obtain ⟨q', ws, rfl, h1, r1⟩ := lstRd_ok h rfl
    exact ⟨_, _, rfl, .inl (.inl h1), fun l nl => q _ _ _ hf (Ev.new st nl) ⟨l, rfl, nl, _, upd_same, r1.mono (tk_new nl)⟩⟩
  · exact hf.elim
theorem pd_list {p : Pos} (hm : X.mg "list" = none) (ha : AD K X S W (e :: es) t ds) (hg : Gl X "list" := by rfl) (he : starEach (e :: es) X.env = (false, eval e X.env) :: starEach es X.env := by rfl) (hpl : (backTo pos (starEach es X.env)).any (·.1) = false := by rfl) :
    PD K X S W (.Call (.Name "list" p) (e :: es) [] pos) (tCB (rListOf K) t) (dCB fList ds) := by
  have hK := ha.1
  subst hK
  exact pd_callTy (r := rListOf X.K) call_list_of callp_list hg hm PyProof.Rows.boot_list ha (by decide) (by decide) he hpl
/-- ints of data -/
def intsOf : List D → Option (List Int)
  | [] => some []
  | .int i :: r => (intsOf r).map (i :: ·)
  | _ :: _ => none
theorem intsOf_eq : ∀ {ds : List D} {ns : List Int}, intsOf ds = some ns → ds = ns.map D.int
  | [], _, h => by cases h; rfl
  | .int i :: r, ns, h => by
    unfold intsOf at h
    cases z : intsOf r with
    | none => rw [z] at h; cases h
    | some ms => rw [z] at h; cases h; rw [intsOf_eq z] <;> rfl
  | .non :: _, _, h => by cases h
  | .bl _ :: _, _, h => by cases h
  | .str _ :: _, _, h => by cases h
  | .tup _ :: _, _, h => by cases h
  | .lst _ :: _, _, h => by cases h
theorem intsOf_map (ns : List Int) : intsOf (ns.map D.int) = some ns := by
  induction ns with
  | nil => rfl
  | cons n r ih => show (intsOf (r.map D.int)).map (n :: ·) = _; rw [ih] <;> rfl
def blsOf : List D → Option (List Bool)
  | [] => some []
  | .bl i :: r => (blsOf r).map (i :: ·)
  | _ :: _ => none
theorem blsOf_eq : ∀ {ds : List D} {ns : List Bool}, blsOf ds = some ns → ds = ns.map D.bl
  | [], _, h => by cases h; rfl
  | .bl i :: r, ns, h => by
    unfold blsOf at h
    cases z : blsOf r with
    | none => rw [z] at h; cases h
    | some ms => rw [z] at h; cases h; rw [blsOf_eq z] <;> rfl
  | .non :: _, _, h => by cases h
  | .int _ :: _, _, h => by cases h
  | .str _ :: _, _, h => by cases h
  | .tup _ :: _, _, h => by cases h
  | .lst _ :: _, _, h => by cases h
theorem blsOf_map (ns : List Bool) : blsOf (ns.map D.bl) = some ns := by
  induction ns with
  | nil => rfl
  | cons n r ih => show (blsOf (r.map D.bl)).map (n :: ·) = _; rw [ih] <;> rfl
def lstOf : R → Option (List D) := lstRd
theorem lstOf_ok {K : PySem.W.Frag} {H : Hp} {v : V} {r : R} {ys : List D} (h : RepV K S H v r) (e : lstOf r = some ys) : ∃ q vs, v = .ref q ∧ Rd H q (.lst vs) ∧ Reps K H vs ys := lstRd_ok h e
def fSum : List R → (R → Prop) → Prop := fun xs P => match xs with
  | [r] => (match (lstOf r).bind intsOf with | some ns => P (.d (.int ns.sum)) | none => False)
  | _ => False
theorem callp_sum {K : PySem.W.Frag} : CallP K S (rSum K) fSum := by
  intro H vs xs P Q st hx hf q
  unfold fSum at hf
  split at hf
  · next r =>
    obtain ⟨v, rfl, h⟩ := RepVs.one hx
    split at hf
    · next ns e =>
      cases z : lstOf r with
      | none => rw [z] at e; cases e
      | some ys =>
        rw [z] at e
        obtain ⟨p, ws, rfl, h1, r1⟩ := lstOf_ok h z
        rw [intsOf_eq e] at r1
        have := Reps.ints_of r1
        subst this
        exact ⟨p, ns, rfl, (.inl h1), q _ _ H hf (Ev.refl st) (.int _)⟩
    · exact hf.elim
  · exact hf.elim
theorem pd_sum {p : Pos} (hc : X.calm = true) (hm : X.mg "sum" = none) (ha : AD K X S W (e :: es) t ds) (hg : Gl X "sum" := by rfl) (he : starEach (e :: es) X.env = (false, eval e X.env) :: starEach es X.env := by rfl) (hpl : (backTo pos (starEach es X.env)).any (·.1) = false := by rfl) :
    PD K X S W (.Call (.Name "sum" p) (e :: es) [] pos) (tCB (rSum K) t) (dCB fSum ds) := by
  have hK := ha.1
  subst hK
  exact pd_callB (cr_sum hc) callp_sum hg hm (by decide +kernel) ha (by decide) (by decide) he hpl
/-- max(list of ints) -/
def fMaxL : List R → (R → Prop) → Prop := fun xs P => match xs with
  | [r] => (match (lstOf r).bind intsOf with | some ns => 0 < ns.length ∧ ∀ m, m ∈ ns → (∀ y, y ∈ ns → y ≤ m) → P (.d (.int m)) | none => False)
  | _ => False
theorem callp_maxL {K : PySem.W.Frag} : CallP K S (rMax K) fMaxL := by
  intro H vs xs P Q st hx hf q
  unfold fMaxL at hf
  split at hf
  · next r =>
    obtain ⟨v, rfl, h⟩ := RepVs.one hx
    split at hf
    · next ns e =>
      cases z : lstOf r with
      | none => rw [z] at e; cases e
      | some ys =>
        rw [z] at e
        obtain ⟨p, ws, rfl, h1, r1⟩ := lstOf_ok h z
        rw [intsOf_eq e] at r1
        have := Reps.ints_of r1
        subst this
        exact ⟨p, ns, rfl, (.inl h1), hf.1, fun m hm hl => q _ _ H (hf.2 m hm hl) (Ev.refl st) (.int _)⟩
    · exact hf.elim
  · exact hf.elim
theorem pd_maxL {p : Pos} (hc : X.calm = true) (hm : X.mg "max" = none) (ha : AD K X S W (e :: es) t ds) (hg : Gl X "max" := by rfl) (he : starEach (e :: es) X.env = (false, eval e X.env) :: starEach es X.env := by rfl) (hpl : (backTo pos (starEach es X.env)).any (·.1) = false := by rfl) :
    PD K X S W (.Call (.Name "max" p) (e :: es) [] pos) (tCB (rMax K) t) (dCB fMaxL ds) := by
  have hK := ha.1
  subst hK
  exact pd_callB (cr_max hc) callp_maxL hg hm (by decide +kernel) ha (by decide) (by decide) he hpl
/-- any, all of a list of bools -/
def fAny : List R → (R → Prop) → Prop := fun xs P => match xs with
  | [r] => (match (lstOf r).bind blsOf with | some ns => P (.d (.bl (ns.any id))) | none => False)
  | _ => False
def fAll : List R → (R → Prop) → Prop := fun xs P => match xs with
  | [r] => (match (lstOf r).bind blsOf with | some ns => P (.d (.bl (ns.all id))) | none => False)
  | _ => False
theorem callp_any {K : PySem.W.Frag} : CallP K S (rAny K) fAny := by
  intro H vs xs P Q st hx hf q
  unfold fAny at hf
  split at hf
  · next r =>
    obtain ⟨v, rfl, h⟩ := RepVs.one hx
    split at hf
    · next ns e =>
      cases z : lstOf r with
      | none => rw [z] at e; cases e
      | some ys =>
        rw [z] at e
        obtain ⟨p, ws, rfl, h1, r1⟩ := lstOf_ok h z
        rw [blsOf_eq e] at r1
        have := Reps.bls_of r1
        subst this
        exact ⟨p, ns, rfl, (.inl h1), q _ _ H hf (Ev.refl st) (.bl _)⟩
    · exact hf.elim
  · exact hf.elim
theorem callp_all {K : PySem.W.Frag} : CallP K S (rAll K) fAll := by
  intro H vs xs P Q st hx hf q
  unfold fAll at hf
  split at hf
  · next r =>
    obtain ⟨v, rfl, h⟩ := RepVs.one hx
    split at hf
    · next ns e =>
      cases z : lstOf r with
      | none => rw [z] at e; cases e
      | some ys =>
        rw [z] at e
        obtain ⟨p, ws, rfl, h1, r1⟩ := lstOf_ok h z
        rw [blsOf_eq e] at r1
        have := Reps.bls_of r1
        subst this
        exact ⟨p, ns, rfl, (.inl h1), q _ _ H hf (Ev.refl st) (.bl _)⟩
    · exact hf.elim
  · exact hf.elim
theorem pd_any {p : Pos} (hc : X.calm = true) (hm : X.mg "any" = none) (ha : AD K X S W (e :: es) t ds) (hg : Gl X "any" := by rfl) (he : starEach (e :: es) X.env = (false, eval e X.env) :: starEach es X.env := by rfl) (hpl : (backTo pos (starEach es X.env)).any (·.1) = false := by rfl) :
    PD K X S W (.Call (.Name "any" p) (e :: es) [] pos) (tCB (rAny K) t) (dCB fAny ds) := by
  have hK := ha.1
  subst hK
  exact pd_callB (cr_any hc) callp_any hg hm (by decide +kernel) ha (by decide) (by decide) he hpl
theorem pd_all {p : Pos} (hc : X.calm = true) (hm : X.mg "all" = none) (ha : AD K X S W (e :: es) t ds) (hg : Gl X "all" := by rfl) (he : starEach (e :: es) X.env = (false, eval e X.env) :: starEach es X.env := by rfl) (hpl : (backTo pos (starEach es X.env)).any (·.1) = false := by rfl) :
    PD K X S W (.Call (.Name "all" p) (e :: es) [] pos) (tCB (rAll K) t) (dCB fAll ds) := by
  have hK := ha.1
  subst hK
  exact pd_callB (cr_all hc) callp_all hg hm (by decide +kernel) ha (by decide) (by decide) he hpl

/-! ### isinstance(x, str | tuple | int | bool) -/
def tyName : D → String
  | .non => "NoneType"
  | .bl _ => "bool"
  | .int _ => "int"
  | .str _ => "str"
  | .tup _ => "tuple"
  | .lst _ => "list"
theorem tyX_of {K : PySem.W.Frag} {H : Hp} {v : V} {x : D} (h : Rep K H v x) (n : ∀ ys, x ≠ .lst ys) : TyX K H v (.type (tyName x)) := by
  cases h with
  | non => exact .base .non
  | bl b => exact .base (.bl b)
  | int i => exact .base (.int i)
  | str s => exact .base (.str s)
  | tup h1 h2 =>
    rcases h1 with (h1 | ⟨o, h1⟩) | ⟨o, its, n, h1, h2, _⟩
    · exact .base (.tup h1)
    · exact .fTuple h1
    · exact .kTuple h1 h2
  | lst h1 h2 => exact (n _ rfl).elim
def isStr : D → Bool
  | .str _ => true
  | _ => false
def isTup : D → Bool
  | .tup _ => true
  | _ => false
def isInt : D → Bool
  | .int _ => true
  | .bl _ => true
  | _ => false
def isBl : D → Bool
  | .bl _ => true
  | _ => false
theorem kit_str : ∀ x : D, kitB (tyName x) "str" = some (isStr x)
  | .non => by decide +kernel
  | .bl _ => (by decide +kernel : kitB "bool" "str" = some false)
  | .int _ => (by decide +kernel : kitB "int" "str" = some false)
  | .str _ => (by decide +kernel : kitB "str" "str" = some true)
  | .tup _ => (by decide +kernel : kitB "tuple" "str" = some false)
  | .lst _ => (by decide +kernel : kitB "list" "str" = some false)
theorem kit_tup : ∀ x : D, kitB (tyName x) "tuple" = some (isTup x)
  | .non => by decide +kernel
  | .bl _ => (by decide +kernel : kitB "bool" "tuple" = some false)
  | .int _ => (by decide +kernel : kitB "int" "tuple" = some false)
  | .str _ => (by decide +kernel : kitB "str" "tuple" = some false)
  | .tup _ => (by decide +kernel : kitB "tuple" "tuple" = some true)
  | .lst _ => (by decide +kernel : kitB "list" "tuple" = some false)
theorem kit_int : ∀ x : D, kitB (tyName x) "int" = some (isInt x)
  | .non => by decide +kernel
  | .bl _ => (by decide +kernel : kitB "bool" "int" = some true)
  | .int _ => (by decide +kernel : kitB "int" "int" = some true)
  | .str _ => (by decide +kernel : kitB "str" "int" = some false)
  | .tup _ => (by decide +kernel : kitB "tuple" "int" = some false)
  | .lst _ => (by decide +kernel : kitB "list" "int" = some false)
theorem kit_bl : ∀ x : D, kitB (tyName x) "bool" = some (isBl x)
  | .non => by decide +kernel
  | .bl _ => (by decide +kernel : kitB "bool" "bool" = some true)
  | .int _ => (by decide +kernel : kitB "int" "bool" = some false)
  | .str _ => (by decide +kernel : kitB "str" "bool" = some false)
  | .tup _ => (by decide +kernel : kitB "tuple" "bool" = some false)
  | .lst _ => (by decide +kernel : kitB "list" "bool" = some false)
def isLst : D → Bool
  | .lst _ => true
  | _ => false
theorem kit_lst : ∀ x : D, kitB (tyName x) "list" = some (isLst x)
  | .non => by decide +kernel
  | .bl _ => (by decide +kernel : kitB "bool" "list" = some false)
  | .int _ => (by decide +kernel : kitB "int" "list" = some false)
  | .str _ => (by decide +kernel : kitB "str" "list" = some false)
  | .tup _ => (by decide +kernel : kitB "tuple" "list" = some false)
  | .lst _ => (by decide +kernel : kitB "list" "list" = some true)
def dIsi (g : D → Bool) (da : DE) : DE := fun ρ P E => da ρ (fun x => match x with | .d (.lst _) => False | .d y => P (.d (.bl (g y))) | _ => False) E
theorem pd_isi {T : String} {tn : Str} {g : D → Bool} {p pt : Pos} (hk : ∀ x : D, kitB (tyName x) T = some (g x)) (ht : bootBuiltins tn = some (.type T)) (ha : PD K X S W e ta da) (hm : X.mg "isinstance" = none) (hmt : X.mg tn = none) (hg : Gl X "isinstance" := by rfl) (hgt : Gl X tn := by rfl)
    (hn : tn ≠ "__name__" := by decide) (hd : (tn == ("__debug__" : Str)) = false := by decide)
    (he : starEach (e :: [.Name tn pt]) X.env = (false, eval e X.env) :: starEach [.Name tn pt] X.env := by rfl) (he2 : starEach [.Name tn pt] X.env = (false, eval (.Name tn pt) X.env) :: starEach [] X.env := by rfl) (hpl : (backTo pos (starEach [.Name tn pt] X.env)).any (·.1) = false := by rfl) :
    PD K X S W (.Call (.Name "isinstance" p) [e, .Name tn pt] [] pos) (tCB (rIsi K) (tCons ta (tCons (tC (.ty T)) tNil))) (dIsi g da) := by
  obtain ⟨hK, pa, ha⟩ := ha
  subst hK
  refine ⟨rfl, pe_callB call_isi hg hm PyProof.Rows.boot_isinstance (pa_cons pa (pa_cons (pe_bltn (v := .ty T) hgt hmt ht rfl hn hd) pa_nil he2) he) (by decide) (by decide) he hpl, fun ρ P E hp H0 pr σ H Q ho q w => ?_⟩
  refine ha ρ _ E hp H0 pr σ H _ ho (fun x v H1 hx e1 r1 => ?_) w
  split at hx
  · exact hx.elim
  · next y hy => exact ⟨v, .ty T, _, _, g y, rfl, .ty T, tyX_of r1 (fun ys e => hy ys (by rw [e])), kit_ty (hk y), q _ _ H1 hx e1 (.bl _)⟩
  · exact hx.elim
end
end PL

namespace PL
open PySem PySem.Spec PyProof.Rows L2

/-! ### statements -/
/-- what is wanted behind a statement -/
structure AE where
  nx : List A → Prop
  rt : R → Prop
  bk : List A → Prop
  ct : List A → Prop
  ex : Addr → List A → Prop
structure Link (K : PySem.W.Frag) (S : Sm) (H0 : Hp) (pr : Pr) (W : WX) (Dn : Ends) (F : AE) : Prop where
  nx : ∀ ρ σ H, F.nx ρ → Holds K S H0 pr ρ σ H → Dn.nx σ H
  bk : ∀ ρ σ H, F.bk ρ → Holds K S H0 pr ρ σ H → Dn.bk σ H
  ct : ∀ ρ σ H, F.ct ρ → Holds K S H0 pr ρ σ H → Dn.ct σ H
  rt : ∀ r v H, F.rt r → Ev S H0 H → RepR K S H0 H v r → Dn.rt v H
  ex : ∀ C ρ σ H, F.ex C ρ → Holds K S H0 pr ρ σ H → W (.ref C) none σ H
def Tr (K : PySem.W.Frag) (S : Sm) (W : WX) (t : TS) (ρ : List A) (F : AE) : Prop := ∀ H0 pr σ H Dn, Holds K S H0 pr ρ σ H → Link K S H0 pr W Dn F → t Dn σ H
abbrev DS := AE → List A → Prop
def SD (K : PySem.W.Frag) (X : Cx) (S : Sm) (W : WX) (st : Stmt) (t : TS) (ds : DS) : Prop := X.K = K ∧ PS X st t ∧ ∀ ρ F, ds F ρ → Tr K S W t ρ F
def SsD (K : PySem.W.Frag) (X : Cx) (S : Sm) (W : WX) (st : List Stmt) (t : TS) (ds : DS) : Prop := X.K = K ∧ PSs X st t ∧ ∀ ρ F, ds F ρ → Tr K S W t ρ F
theorem Link.wish {K : PySem.W.Frag} {S : Sm} {H0 H : Hp} {pr : Pr} {W : WX} {Dn : Ends} {F : AE} {ρ : List A} {σ : L2.St} (l : Link K S H0 pr W Dn F) (h : Holds K S H0 pr ρ σ H) : Wish S W σ H (fun C => F.ex C ρ) := fun C H' e ev => l.ex C ρ σ H' e (h.step ev)
theorem RepR.of0 {K : PySem.W.Frag} {S : Sm} {H0 H H' : Hp} {pr : Pr} {ρ : List A} {σ : L2.St} {v : V} {r : R} (h : Holds K S H0 pr ρ σ H) (rr : RepR K S H H' v r) : RepR K S H0 H' v r := rr.from h.ev h.st0

section
variable {K : PySem.W.Frag} {X : Cx} {S : Sm} {W : WX} {e a b c : Expr} {es : List Expr} {ta tb te : TE} {tt : TT} {t u : TS} {tl : TA} {da db de : DE} {dt : DT} {d1 d2 : DS} {dl : DA} {pos : Pos} {st : Stmt} {rest sa sb : List Stmt}
def dNext : DS := fun F ρ => F.nx ρ
def dSeq (d u : DS) : DS := fun F ρ => d { F with nx := u F } ρ
theorem ss_nil (hK : X.K = K := by rfl) : SsD K X S W [] tNext dNext := ⟨hK, pss_nil, fun ρ F h H0 pr σ H Dn ho l => l.nx ρ σ H h ho⟩
theorem ss_one (h : SD K X S W st t d1) : SsD K X S W [st] t d1 := by
  obtain ⟨hK, p, h⟩ := h
  exact ⟨hK, pss_one p, h⟩
theorem ss_cons (h : SD K X S W st t d1) (k : SsD K X S W rest u d2) : SsD K X S W (st :: rest) (tSeq t u) (dSeq d1 d2) := by
  obtain ⟨hK, p, h⟩ := h
  obtain ⟨_, q, k⟩ := k
  refine ⟨hK, pss_cons p q, fun ρ F hd H0 pr σ H Dn ho l => ?_⟩
  exact h ρ _ hd H0 pr σ H { Dn with nx := u Dn } ho ⟨fun ρ' σ' H' hn ho' => k ρ' F hn H0 pr σ' H' Dn ho' l, l.bk, l.ct, l.rt, l.ex⟩
/-- x = e -/
def dSet (i : Nat) (de : DE) : DS := fun F ρ => de ρ (fun r => match r with
  | .d x => F.nx (setA ρ i (.d x))
  | .n c => F.nx (setA ρ i (.o c))
  | _ => False) (fun C => F.ex C ρ)
theorem tr_set {i : Nat} (h : ∀ ρ P E, de ρ P E → EvP K S W te ρ P E) : ∀ ρ F, dSet i de F ρ → Tr K S W (tAsg te (gName i)) ρ F := by
  intro ρ F hd H0 pr σ H Dn ho l
  refine h ρ _ _ hd H0 pr σ H _ ho (fun r v H1 hr e1 rr => ?_) (l.wish ho)
  cases r with
  | d x => exact l.nx _ _ _ hr ((ho.step e1).storeD rr)
  | n c => obtain ⟨q, rfl, nq, s⟩ := rr; exact l.nx _ _ _ hr (ho.storeNew e1 nq s)
  | b c => exact hr.elim
  | strm => exact hr.elim
theorem sd_set {i : Nat} {x : Str} {pos' : Pos} (hN : X.N.Nodup) (hi : X.N[i]? = some x) (hx : Loc X.env.scope x) (he : PD K X S W e te de) (hs : swapsWith e (some (.Name x pos')) pos.line X.env = pure false := by rfl)
    (hf : X.fn x = true ∨ X.env.scope.names.lookup x = some .local := by first | exact .inl rfl | exact .inr rfl) : SD K X S W (.Assign [.Name x pos'] e pos) (tAsg te (gName i)) (dSet i de) := by
  obtain ⟨hK, p, h⟩ := he
  exact ⟨hK, ps_set hN hi hx p hs hf, tr_set h⟩
/-- x = y, y a name: an owned object goes over, or is held by both from now on -/
def dAlias (i j : Nat) : DS := fun F ρ => match nth ρ j with
  | .d x => F.nx (setA ρ i (.d x))
  | .o c => F.nx (setA (setA ρ j .any) i (.o c)) ∨ (i ≠ j ∧ F.nx (setA (setA ρ j (.f c)) i (.f c)))
  | .f c => F.nx (setA ρ i (.f c))
  | .b c => F.nx (setA ρ i (.b c))
  | _ => False
theorem sd_alias {i j : Nat} {x : Str} {pos' : Pos} (hN : X.N.Nodup) (hi : X.N[i]? = some x) (hx : Loc X.env.scope x) (he : PE X e (tVar j)) (hs : swapsWith e (some (.Name x pos')) pos.line X.env = pure false := by rfl)
    (hf : X.fn x = true ∨ X.env.scope.names.lookup x = some .local := by first | exact .inl rfl | exact .inr rfl) (hK : X.K = K := by rfl) : SD K X S W (.Assign [.Name x pos'] e pos) (tAsg (tVar j) (gName i)) (dAlias i j) := by
  refine ⟨hK, ps_set hN hi hx he hs hf, fun ρ F hd H0 pr σ H Dn ho l => ?_⟩
  have s := ho.slot j
  unfold dAlias at hd
  cases z : nth ρ j with
  | any => rw [z] at hd; exact hd.elim
  | d x => rw [z] at hd s; obtain ⟨v, e1, r⟩ := s; exact ⟨v, getD_get e1, l.nx _ _ _ hd (ho.storeD r)⟩
  | o c =>
    rw [z] at hd
    have own : (nth ρ j).own = true := by rw [z]; rfl
    rcases hd with hd | ⟨ij, hd⟩
    · rw [z] at s
      obtain ⟨q, e1, n0, st⟩ := s
      refine ⟨_, getD_get e1, l.nx _ _ _ hd ?_⟩
      refine (ho.forget (i := j)).store ⟨q, rfl, n0, st⟩ (fun _ q' e' => ?_) fun k q' e' ne => ?_
      · cases e'; exact ho.psep j q own e1
      · cases e'
        have key : (nth (setA ρ j .any) k).held = true → σ.getD k none ≠ some (.ref q) := fun o s2 => by
          by_cases jk : k = j
          · subst jk
            by_cases hl : k < ρ.length
            · rw [nth_setA_same _ _ _ hl] at o; cases o
            · rw [nth_big _ _ (by rw [setA_length]; exact Nat.le_of_not_lt hl)] at o; cases o
          · rw [nth_setA_ne _ _ _ _ jk] at o
            exact ho.sep j k q own o (fun z => jk z.symm) e1 s2
        exact ⟨fun _ o => key o, fun _ o => key (own_held o)⟩
    · have hfz := ho.freeze z
      have s2 := hfz.slot j
      have hl : j < ρ.length := by
        rcases Nat.lt_or_ge j ρ.length with y | y
        · exact y
        · rw [nth_big ρ j y] at z; cases z
      rw [nth_setA_same _ _ _ hl] at s2
      obtain ⟨q, e1, n0, st⟩ := s2
      refine ⟨_, getD_get e1, l.nx _ _ _ hd ?_⟩
      refine hfz.store ⟨q, rfl, n0, st⟩ (fun y => by cases y) fun k q' e' ne => ⟨(fun y => by cases y), fun _ o s3 => ?_⟩
      cases e'
      exact hfz.sep k j q o (by rw [nth_setA_same _ _ _ hl]; rfl) (fun y => by subst y; rw [nth_setA_same _ _ _ hl] at o; cases o) s3 e1
  | f c =>
    rw [z] at hd s
    obtain ⟨q, e1, n0, st⟩ := s
    refine ⟨_, getD_get e1, l.nx _ _ _ hd ?_⟩
    refine ho.store ⟨q, rfl, n0, st⟩ (fun y => by cases y) fun k q' e' ne => ⟨(fun y => by cases y), fun _ o s3 => ?_⟩
    cases e'
    exact ho.sep k j q o (by rw [z]; rfl) (fun y => by subst y; rw [z] at o; cases o) s3 e1
  | b c =>
    rw [z] at hd s
    obtain ⟨q, e1, n, st⟩ := s
    refine ⟨_, getD_get e1, l.nx _ _ _ hd ?_⟩
    exact ho.store ⟨q, rfl, n, st⟩ (fun y => by cases y) fun k q' e' ne => ⟨(fun y => by cases y), fun y => by cases y⟩
  | strm => rw [z] at hd; exact hd.elim
  | k v F => rw [z] at hd; exact hd.elim
/-- an expression alone -/
def dDrop (de : DE) : DS := fun F ρ => de ρ (fun _ => F.nx ρ) (fun C => F.ex C ρ)
theorem sd_expr (he : PD K X S W e te de) (hs : swapsWith e none pos.line X.env = pure false := by rfl) : SD K X S W (.Expr e pos) (tDrop te) (dDrop de) := by
  obtain ⟨hK, p, h⟩ := he
  exact ⟨hK, ps_expr p hs, fun ρ F hd H0 pr σ H Dn ho l => h ρ _ _ hd H0 pr σ H _ ho (fun r v H1 hr e1 _ => l.nx _ _ _ hr (ho.step e1)) (l.wish ho)⟩
/-- return e -/
def dRet (de : DE) : DS := fun F ρ => de ρ F.rt (fun C => F.ex C ρ)
theorem sd_ret (he : PD K X S W e te de) : SD K X S W (.Return (some e) pos) (tRet te) (dRet de) := by
  obtain ⟨hK, p, h⟩ := he
  exact ⟨hK, ps_ret p, fun ρ F hd H0 pr σ H Dn ho l => h ρ _ _ hd H0 pr σ H _ ho (fun r v H1 hr e1 rr => l.rt r v H1 hr (ho.ev.trans e1) (rr.of0 ho)) (l.wish ho)⟩
/-- return x, x a name that holds an object of the def's own -/
def dRetV (j : Nat) : DS := fun F ρ => match nth ρ j with
  | .d x => F.rt (.d x)
  | .o c => F.rt (.n c)
  | .f c => F.rt (.n c)
  | _ => False
theorem sd_retV {j : Nat} (he : PE X e (tVar j)) (hK : X.K = K := by rfl) : SD K X S W (.Return (some e) pos) (tRet (tVar j)) (dRetV j) := by
  refine ⟨hK, ps_ret he, fun ρ F hd H0 pr σ H Dn ho l => ?_⟩
  have s := ho.slot j
  unfold dRetV at hd
  cases z : nth ρ j with
  | any => rw [z] at hd; exact hd.elim
  | d x => rw [z] at hd s; obtain ⟨v, e1, r⟩ := s; exact ⟨v, getD_get e1, l.rt _ _ _ hd ho.ev r⟩
  | o c => rw [z] at hd s; obtain ⟨q, e1, n0, st⟩ := s; exact ⟨_, getD_get e1, l.rt _ _ _ hd ho.ev ⟨q, rfl, n0, st⟩⟩
  | f c => rw [z] at hd s; obtain ⟨q, e1, n0, st⟩ := s; exact ⟨_, getD_get e1, l.rt _ _ _ hd ho.ev ⟨q, rfl, n0, st⟩⟩
  | b c => rw [z] at hd; exact hd.elim
  | strm => rw [z] at hd; exact hd.elim
  | k v F => rw [z] at hd; exact hd.elim
def dRetN : DS := fun F _ => F.rt (.d .non)
theorem sd_retN (hK : X.K = K := by rfl) : SD K X S W (.Return none pos) tRetN dRetN := ⟨hK, ps_retN, fun ρ F hd H0 pr σ H Dn ho l => l.rt _ _ _ hd ho.ev .non⟩
theorem sd_pass (hK : X.K = K := by rfl) : SD K X S W (.Pass pos) tNext dNext := ⟨hK, ps_pass, fun ρ F h H0 pr σ H Dn ho l => l.nx ρ σ H h ho⟩
def dBrk : DS := fun F ρ => F.bk ρ
def dCont : DS := fun F ρ => F.ct ρ
theorem sd_break (hK : X.K = K := by rfl) : SD K X S W (.Break pos) tBreak dBrk := ⟨hK, ps_break, fun ρ F h H0 pr σ H Dn ho l => l.bk ρ σ H h ho⟩
theorem sd_continue (hK : X.K = K := by rfl) : SD K X S W (.Continue pos) tCont dCont := ⟨hK, ps_continue, fun ρ F h H0 pr σ H Dn ho l => l.ct ρ σ H h ho⟩
/-- if -/
def dIfS (c : DT) (d u : DS) : DS := fun F ρ => c ρ (fun k => if k = true then d F ρ else u F ρ) (fun C => F.ex C ρ)
theorem sd_if (hc : TD K X S W c tt dt) (ha : SsD K X S W sa t d1) (hb : SsD K X S W sb u d2) : SD K X S W (.If c sa sb pos) (tIfS tt t u) (dIfS dt d1 d2) := by
  obtain ⟨hK, pc, hc⟩ := hc
  obtain ⟨_, pa, ha⟩ := ha
  obtain ⟨_, pb, hb⟩ := hb
  refine ⟨hK, ps_if pc pa pb, fun ρ F hd H0 pr σ H Dn ho l => ?_⟩
  refine hc ρ _ _ hd H0 pr σ H _ ho (fun k H1 hk e1 => ?_) (l.wish ho)
  cases k with
  | true =>
    rw [if_pos rfl] at hk ⊢
    exact ha ρ F hk H0 pr σ H1 Dn (ho.step e1) l
  | false =>
    rw [if_neg Bool.false_ne_true] at hk ⊢
    exact hb ρ F hk H0 pr σ H1 Dn (ho.step e1) l
/-- while -/
def dWhile (c : DT) (d : DS) : DS := fun F ρ => ∃ I : Nat → List A → Prop, (∃ m, I m ρ) ∧ ∀ m ρ', I m ρ' → c ρ' (fun k => if k = true then
    d { F with nx := fun ρ2 => ∃ m', m' < m ∧ I m' ρ2, ct := fun ρ2 => ∃ m', m' < m ∧ I m' ρ2, bk := F.nx } ρ' else F.nx ρ') (fun C => F.ex C ρ')
theorem sd_while (hp : PassesOwn (model X.prog X.w) X.A X.env X.xe) (hc : TD K X S W c tt dt) (hb : SsD K X S W sa t d1) : SD K X S W (.While c sa [] pos) (tWhile tt t) (dWhile dt d1) := by
  obtain ⟨hK, pc, hc⟩ := hc
  obtain ⟨_, pa, ha⟩ := hb
  refine ⟨hK, ps_while hp pc pa, fun ρ F hd H0 pr σ H Dn ho l => ?_⟩
  obtain ⟨I, ⟨m0, i0⟩, turn⟩ := hd
  refine ⟨fun m σ' H' => ∃ ρ', I m ρ' ∧ Holds K S H0 pr ρ' σ' H', ⟨m0, ρ, i0, ho⟩, ?_⟩
  rintro m σ1 H1 ⟨ρ1, i1, h1⟩
  refine hc ρ1 _ _ (turn m ρ1 i1) H0 pr σ1 H1 _ h1 (fun k H2 hk e2 => ?_) (l.wish h1)
  cases k with
  | true =>
    rw [if_pos rfl] at hk ⊢
    refine ⟨fun σ' H' => ∃ ρ', (∃ m', m' < m ∧ I m' ρ') ∧ Holds K S H0 pr ρ' σ' H', fun σ' H' ⟨ρ', ⟨m', lt, im⟩, h'⟩ => ⟨m', lt, ρ', im, h'⟩, ?_⟩
    exact ha ρ1 _ hk H0 pr σ1 H2 _ (h1.step e2) ⟨fun ρ' σ' H' hn h' => ⟨ρ', hn, h'⟩, fun ρ' σ' H' hn h' => l.nx ρ' σ' H' hn h', fun ρ' σ' H' hn h' => ⟨ρ', hn, h'⟩, l.rt, l.ex⟩
  | false =>
    rw [if_neg Bool.false_ne_true] at hk ⊢
    exact l.nx ρ1 σ1 H2 hk (h1.step e2)
/-- n += e, ints -/
def dAugI (i : Nat) (g : Int → Int → Int) (de : DE) : DS := fun F ρ => match nth ρ i with
  | .d (.int x) => de ρ (fun r => match r with | .d (.int y) => F.nx (setA ρ i (.d (.int (g x y)))) | _ => False) (fun C => F.ex C ρ)
  | _ => False
theorem sd_augI {i : Nat} {x : Str} {op : Operator} {g : Int → Int → Int} {pos' : Pos} (ho : PIp X op (ipI g)) (hN : X.N.Nodup) (hi : X.N[i]? = some x) (hx : Loc X.env.scope x) (he : PD K X S W e te de)
    (hf : X.fn x = true ∨ X.env.scope.names.lookup x = some .local := by first | exact .inl rfl | exact .inr rfl) : SD K X S W (.AugAssign (.Name x pos') op e pos) (tAug i te (ipI g)) (dAugI i g de) := by
  obtain ⟨hK, p, h⟩ := he
  refine ⟨hK, ps_aug hN hi hx p ho hf, fun ρ F hd H0 pr σ H Dn ho l => ?_⟩
  have s := ho.slot i
  unfold dAugI at hd
  split at hd
  · next k z =>
    rw [z] at s
    obtain ⟨v, e1, r⟩ := s
    cases r
    refine ⟨_, getD_get e1, ?_⟩
    refine h ρ _ _ hd H0 pr σ H _ ho (fun r v H1 hr e1 rr => ?_) (l.wish ho)
    split at hr
    · cases rr; exact ⟨_, _, rfl, rfl, l.nx _ _ _ hr ((ho.step e1).storeD (.int _))⟩
    · exact hr.elim
  · exact hd.elim

/-! ### what a loop walks -/
structure ItOk (K : PySem.W.Frag) (S : Sm) (J : It) (xs : List D) (pv : Pr) (H1 : Hp) : Prop where
  at1 : ∀ q o, pv.ob q o → H1 q = some o ∧ NotS S q
  fact1 : ∀ v d, pv.fx v d → Rep K H1 v d
  run : ∀ H, (∀ q o, pv.ob q o → H q = some o) → (∀ v d, pv.fx v d → Rep K H v d) → (∀ i x, xs[i]? = some x → J.go i H ∧ ∀ v H', J.yld i H v H' → (StmOk S H → Ev S H H') ∧ Rep K H' v x) ∧ J.stop xs.length H
abbrev DI := List A → (List D → List A → Prop) → RX → Prop
def EvI (K : PySem.W.Frag) (S : Sm) (W : WX) (wi : TI) (ρ : List A) (P : List D → List A → Prop) (E : RX) : Prop := ∀ H0 pr σ H (Q : It → Hp → Prop), Holds K S H0 pr ρ σ H →
  (∀ xs ρ1 J pv H1, P xs ρ1 → Ev S H H1 → Holds K S H0 pr ρ1 σ H1 → ItOk K S J xs pv H1 → (∀ i q o, (nth ρ1 i).own = true → σ.getD i none = some (.ref q) → ¬ pv.ob q o) → Q J H1) → Wish S W σ H E → wi σ H Q
def ID (K : PySem.W.Frag) (X : Cx) (S : Sm) (W : WX) (tg iter : Expr) (wi : TI) (di : DI) : Prop := X.K = K ∧ PI X tg iter wi ∧ ∀ ρ P E, di ρ P E → EvI K S W wi ρ P E
def Pr.none : Pr := ⟨fun _ _ => False, fun _ _ => False⟩
def Pr.and (a b : Pr) : Pr := ⟨fun q o => a.ob q o ∨ b.ob q o, fun v d => a.fx v d ∨ b.fx v d⟩
theorem itOk_list {vs : List V} {xs : List D} {q : Addr} {ob : HO} {H1 : Hp} (h : H1 q = some ob) (hob : ob = .lst vs ∨ ∃ od, ob = .frz od (.lst vs)) (n : NotS S q) (r : Reps K H1 vs xs) :
    ItOk K S (Itl K q) xs ⟨fun p o => p = q ∧ o = ob, fun v d => ∃ i : Nat, vs[i]? = some v ∧ xs[i]? = some d⟩ H1 := by
  refine ⟨fun p o ⟨e1, e2⟩ => ?_, fun v d ⟨i, h1, h2⟩ => ?_, fun H ho hf => ?_⟩
  · subst e1 e2; exact ⟨h, n⟩
  · obtain ⟨w, h3, h4⟩ := r.get h2
    rw [h1] at h3
    cases h3
    exact h4
  · have hq : SqL K H q vs := by
      have hq := ho q _ ⟨rfl, rfl⟩
      rcases hob with e | ⟨od, e⟩
      · subst e; exact .inl (.inl hq)
      · subst e; exact .inl (.inr ⟨od, hq⟩)
    refine ⟨fun i x hx => ?_, vs, hq, by rw [r.length]; exact Nat.le_refl _⟩
    obtain ⟨w, h3, _⟩ := r.get hx
    refine ⟨⟨vs, w, hq, h3⟩, fun v H' hy => ?_⟩
    obtain ⟨rfl, hy⟩ := hy
    have h5 := hy vs hq
    exact ⟨fun st => Ev.refl st, hf v x ⟨i, h5, hx⟩⟩
theorem itOk_tup {xs : List D} {q : Addr} {H1 : Hp} (r : Rep K H1 (.ref q) (.tup xs)) : ItOk K S (Itt K q) xs ⟨fun _ _ => False, fun v d => v = .ref q ∧ d = .tup xs⟩ H1 := by
  refine ⟨fun p o z => z.elim, fun v d ⟨e1, e2⟩ => ?_, fun H _ hf => ?_⟩
  · subst e1 e2; exact r
  · have h := hf _ _ ⟨rfl, rfl⟩
    cases h with
    | tup h1 h2 =>
      refine ⟨fun i x hx => ?_, _, h1, by rw [h2.length]; exact Nat.le_refl _⟩
      obtain ⟨w, h3, h4⟩ := h2.get hx
      refine ⟨⟨_, w, h1, h3⟩, fun v H' hy => ?_⟩
      obtain ⟨rfl, hy⟩ := hy
      have h5 := hy _ h1
      rw [h3] at h5
      cases h5
      exact ⟨fun st => Ev.refl st, h4⟩
def rng (lo : Int) (n : Nat) : List D := (List.range n).map fun (i : Nat) => D.int (lo + (i : Int))
theorem itOk_rng {lo : Int} {n : Nat} {H1 : Hp} : ItOk K S (Itr lo n) (rng lo n) Pr.none H1 := by
  refine ⟨fun p o z => z.elim, fun v d z => z.elim, fun H _ _ => ⟨fun i x hx => ?_, ?_⟩⟩
  · unfold rng at hx
    rw [List.getElem?_map] at hx
    cases z : (List.range n)[i]? with
    | none => rw [z] at hx; cases hx
    | some j =>
      rw [z] at hx
      obtain ⟨h1, h2⟩ := List.getElem?_eq_some_iff.mp z
      rw [List.getElem_range] at h2
      rw [List.length_range] at h1
      subst h2
      have hx : D.int (lo + (i : Nat)) = x := Option.some.inj hx
      refine ⟨h1, fun v H' hy => ?_⟩
      obtain ⟨rfl, rfl⟩ := hy
      exact ⟨fun st => Ev.refl st, by rw [← hx]; exact .int _⟩
  · show n ≤ (rng lo n).length
    unfold rng
    rw [List.length_map, List.length_range]
    exact Nat.le_refl _
variable {tg : Expr} {wi : TI} {di : DI}
/-- over a new list -/
def iNew (de : DE) : DI := fun ρ P E => de ρ (fun r => match r with | .n (.lst xs) => P xs ρ | _ => False) E
theorem id_new (h : PD K X S W e te de) : ID K X S W tg e (iList K te) (iNew de) := by
  obtain ⟨hK, p, h⟩ := h
  subst hK
  refine ⟨rfl, pi_list p, fun ρ P E hd H0 pr σ H Q ho q w => ?_⟩
  refine h ρ _ E hd H0 pr σ H _ ho (fun r v H1 hr e1 rr => ?_) w
  split at hr
  · obtain ⟨p, rfl, np, vs, h1, r1⟩ := rr
    refine ⟨p, rfl, ⟨vs, SqL.of h1⟩, q _ ρ _ _ H1 hr e1 (ho.step e1) (itOk_list h1 (.inl rfl) (ho.stm.fresh np) r1) fun i q' o ow s z => ?_⟩
    obtain ⟨rfl, _⟩ := z
    obtain ⟨_, c, st⟩ := ho.heldAt (own_held ow) s
    obtain ⟨ob, eo, _⟩ := st.some
    rw [np] at eo
    cases eo
  · exact hr.elim
/-- over a name's list: it is held still -/
def iVar (j : Nat) : DI := fun ρ P _ => match nth ρ j with
  | .o (.lst xs) => P xs (setA ρ j (.f (.lst xs)))
  | .f (.lst xs) => P xs ρ
  | .b (.lst xs) => P xs ρ
  | _ => False
theorem id_var {j : Nat} (h : PE X e (tVar j)) (hK : X.K = K := by rfl) : ID K X S W tg e (iList K (tVar j)) (iVar j) := by
  subst hK
  refine ⟨rfl, pi_list h, fun ρ P E hd H0 pr σ H Q ho q w => ?_⟩
  have s := ho.slot j
  unfold iVar at hd
  split at hd
  · next xs z =>
    have own : (nth ρ j).own = true := by rw [z]; rfl
    have hl : j < ρ.length := by
      rcases Nat.lt_or_ge j ρ.length with y | y
      · exact y
      · rw [nth_big ρ j y] at z; cases z
    rw [z] at s
    obtain ⟨p, e1, n0, vs, h1, r1⟩ := s
    refine ⟨_, getD_get e1, p, rfl, ⟨vs, SqL.of h1⟩, q xs _ _ _ H hd (Ev.refl ho.stm) (ho.freeze z) (itOk_list h1 (.inl rfl) (ho.st0.fresh n0) r1) fun i q' o ow s2 y => ?_⟩
    obtain ⟨rfl, _⟩ := y
    have ne : i ≠ j := fun y => by subst y; rw [nth_setA_same _ _ _ hl] at ow; cases ow
    rw [nth_setA_ne _ _ _ _ ne] at ow
    exact ho.sep i j q' ow (own_held own) ne s2 e1
  · next xs z =>
    have held : (nth ρ j).held = true := by rw [z]; rfl
    rw [z] at s
    obtain ⟨p, e1, n0, vs, h1, r1⟩ := s
    refine ⟨_, getD_get e1, p, rfl, ⟨vs, SqL.of h1⟩, q xs _ _ _ H hd (Ev.refl ho.stm) ho (itOk_list h1 (.inl rfl) (ho.st0.fresh n0) r1) fun i q' o ow s2 y => ?_⟩
    obtain ⟨rfl, _⟩ := y
    exact ho.sep i j q' ow held (fun y => by subst y; rw [z] at ow; cases ow) s2 e1
  · next xs z =>
    rw [z] at s
    obtain ⟨p, e1, n, st⟩ := s
    obtain ⟨vs, h1, r1⟩ := st.step ho.ev n
    have key : ∀ ob, H p = some ob → (ob = .lst vs ∨ ∃ od, ob = .frz od (.lst vs)) → iList X.K (tVar j) σ H Q := fun ob hob hk => by
      refine ⟨_, getD_get e1, p, rfl, ⟨vs, .inl h1⟩, q xs _ _ _ H hd (Ev.refl ho.stm) ho (itOk_list hob hk n r1) fun i q' o ow s2 y => ?_⟩
      obtain ⟨rfl, _⟩ := y
      obtain ⟨n0, _⟩ := ho.heldAt (own_held ow) s2
      obtain ⟨ob, eo⟩ := st.some
      rw [n0] at eo
      cases eo
    rcases h1 with h1 | ⟨od, h1⟩
    · exact key _ h1 (.inl rfl)
    · exact key _ h1 (.inr ⟨od, rfl⟩)
  · exact hd.elim
/-- over a list that is never changed again -/
def iFz (de : DE) : DI := fun ρ P E => de ρ (fun r => match r with | .d (.lst xs) => P xs ρ | _ => False) E
theorem id_frz (h : PD K X S W e te de) : ID K X S W tg e (iList K te) (iFz de) := by
  obtain ⟨hK, p, h⟩ := h
  subst hK
  refine ⟨rfl, pi_list p, fun ρ P E hd H0 pr σ H Q ho q w => ?_⟩
  refine h ρ _ E hd H0 pr σ H _ ho (fun r v H1 hr e1 rr => ?_) w
  split at hr
  · cases rr with
    | @lst p od vs ds h1 r1 =>
      refine ⟨p, rfl, ⟨vs, .inl (.inr ⟨od, h1⟩)⟩, q _ ρ _ _ H1 hr e1 (ho.step e1) (itOk_list h1 (.inr ⟨od, rfl⟩) ((ho.step e1).stm.notTup h1 fun _ z => by cases z) r1) fun i q' o ow s z => ?_⟩
      obtain ⟨rfl, _⟩ := z
      obtain ⟨_, c, st⟩ := (ho.step e1).heldAt (own_held ow) s
      cases c with
      | lst ys => obtain ⟨ws, h2, _⟩ := st; rw [h1] at h2; cases h2
      | dk ys => obtain ⟨ws, h2, _⟩ := st; rw [h1] at h2; cases h2
      | dt ys => obtain ⟨ws, h2, _⟩ := st; rw [h1] at h2; cases h2
      | kk ys => obtain ⟨ws, h2, _⟩ := st; rw [h1] at h2; cases h2
      | ll ys => exact st.elim
  · exact hr.elim
/-- over a tuple -/
def iTp (de : DE) : DI := fun ρ P E => de ρ (fun r => match r with | .d (.tup xs) => P xs ρ | _ => False) E
theorem id_tup (h : PD K X S W e te de) : ID K X S W tg e (iTup K te) (iTp de) := by
  obtain ⟨hK, p, h⟩ := h
  subst hK
  refine ⟨rfl, pi_tup p, fun ρ P E hd H0 pr σ H Q ho q w => ?_⟩
  refine h ρ _ E hd H0 pr σ H _ ho (fun r v H1 hr e1 rr => ?_) w
  split at hr
  · have rr2 := rr
    cases rr with
    | tup h1 r1 => exact ⟨_, rfl, ⟨_, h1⟩, q _ ρ _ _ H1 hr e1 (ho.step e1) (itOk_tup rr2) fun i q' o _ _ z => z⟩
  · exact hr.elim
/-- range(n), range(a, b), range(a, b, -1) -/
def iR1 (da : DA) : DI := fun ρ P E => da ρ (fun rs => match rs with | [.d (.int j)] => -(2 ^ 62) ≤ j ∧ j < 2 ^ 62 ∧ P (rng 0 j.toNat) ρ | _ => False) E
def iR2 (da : DA) : DI := fun ρ P E => da ρ (fun rs => match rs with | [.d (.int i), .d (.int j)] => (-(2 ^ 62) ≤ i ∧ i < 2 ^ 62 ∧ -(2 ^ 62) ≤ j ∧ j < 2 ^ 62) ∧ P (rng i (j - i).toNat) ρ | _ => False) E
theorem id_rng1 {p : Pos} (hm : X.mg "range" = none) (ha : AD K X S W [a] tl dl) (hg : Gl X "range" := by rfl) (hs : starEach [a] X.env = [(false, eval a X.env)] := by rfl) : ID K X S W tg (.Call (.Name "range" p) [a] [] pos) (iRng1 tl) (iR1 dl) := by
  obtain ⟨hK, pa, h⟩ := ha
  refine ⟨hK, pi_range1 hg hm pa hs, fun ρ P E hd H0 pr σ H Q ho q w => ?_⟩
  refine h ρ _ E hd H0 pr σ H _ ho (fun rs vs H1 hr e1 rr => ?_) w
  split at hr
  · obtain ⟨v, rfl, hv⟩ := RepVs.one rr
    cases hv
    exact ⟨_, rfl, hr.1, hr.2.1, q _ ρ _ _ H1 hr.2.2 e1 (ho.step e1) itOk_rng fun _ _ _ _ _ z => z⟩
  · exact hr.elim
theorem id_rng2 {p : Pos} (hm : X.mg "range" = none) (ha : AD K X S W [a, b] tl dl) (hg : Gl X "range" := by rfl) (hs : starEach [a, b] X.env = [(false, eval a X.env), (false, eval b X.env)] := by rfl) (hs2 : starEach [b] X.env = [(false, eval b X.env)] := by rfl) :
    ID K X S W tg (.Call (.Name "range" p) [a, b] [] pos) (iRng2 tl) (iR2 dl) := by
  obtain ⟨hK, pa, h⟩ := ha
  refine ⟨hK, pi_range2 hg hm pa hs hs2, fun ρ P E hd H0 pr σ H Q ho q w => ?_⟩
  refine h ρ _ E hd H0 pr σ H _ ho (fun rs vs H1 hr e1 rr => ?_) w
  split at hr
  · obtain ⟨v, u, rfl, hv, hu⟩ := RepVs.two rr
    cases hv
    cases hu
    exact ⟨_, _, rfl, hr.1, q _ ρ _ _ H1 hr.2 e1 (ho.step e1) itOk_rng fun _ _ _ _ _ z => z⟩
  · exact hr.elim
def rngDown (lo : Int) (n : Nat) : List D := (List.range n).map fun (i : Nat) => D.int (lo + (i : Int) * (-1))
theorem itOk_rngDown {lo : Int} {n : Nat} {H1 : Hp} : ItOk K S (Itc lo (-1) n) (rngDown lo n) Pr.none H1 := by
  refine ⟨fun p o z => z.elim, fun v d z => z.elim, fun H _ _ => ⟨fun i x hx => ?_, ?_⟩⟩
  · unfold rngDown at hx
    rw [List.getElem?_map] at hx
    cases z : (List.range n)[i]? with
    | none => rw [z] at hx; cases hx
    | some j =>
      rw [z] at hx
      obtain ⟨h1, h2⟩ := List.getElem?_eq_some_iff.mp z
      rw [List.getElem_range] at h2
      rw [List.length_range] at h1
      subst h2
      have hx : D.int (lo + (i : Int) * (-1)) = x := Option.some.inj hx
      refine ⟨h1, fun v H' hy => ?_⟩
      obtain ⟨rfl, rfl⟩ := hy
      exact ⟨fun st => Ev.refl st, by rw [← hx]; exact .int _⟩
  · show n ≤ (rngDown lo n).length
    unfold rngDown
    rw [List.length_map, List.length_range]
    exact Nat.le_refl _
def iR3 (da : DA) : DI := fun ρ P E => da ρ (fun rs => match rs with | [.d (.int i), .d (.int j), .d (.int c)] => c = -1 ∧ (-(2 ^ 62) ≤ i ∧ i < 2 ^ 62 ∧ -(2 ^ 62) ≤ j ∧ j < 2 ^ 62) ∧ P (rngDown i (i - j).toNat) ρ | _ => False) E
theorem RepVs.three {H : Hp} {vs : List V} {r s z : R} (h : RepVs K S H vs [r, s, z]) : ∃ v w x, vs = [v, w, x] ∧ RepV K S H v r ∧ RepV K S H w s ∧ RepV K S H x z := by
  cases h with
  | cons h1 h2 => obtain ⟨w, x, rfl, h3, h4⟩ := RepVs.two h2; exact ⟨_, _, _, rfl, h1, h3, h4⟩
theorem id_rng3 {p : Pos} (hm : X.mg "range" = none) (ha : AD K X S W [a, b, c] tl dl) (hg : Gl X "range" := by rfl) (hs : starEach [a, b, c] X.env = (false, eval a X.env) :: starEach [b, c] X.env := by rfl) (hpl : (backTo pos (starEach [b, c] X.env)).any (·.1) = false := by rfl) :
    ID K X S W tg (.Call (.Name "range" p) [a, b, c] [] pos) (iRng3 tl) (iR3 dl) := by
  obtain ⟨hK, pa, h⟩ := ha
  refine ⟨hK, pi_range3 hg hm pa hs hpl, fun ρ P E hd H0 pr σ H Q ho q w => ?_⟩
  refine h ρ _ E hd H0 pr σ H _ ho (fun rs vs H1 hr e1 rr => ?_) w
  split at hr
  · obtain ⟨v, u, x, rfl, hv, hu, hx⟩ := RepVs.three rr
    cases hv
    cases hu
    cases hx
    obtain ⟨rfl, ⟨b1, b2, b3, b4⟩, hr⟩ := hr
    exact ⟨_, _, _, _, rfl, RgC.neg b1 b2 b3 b4, q _ ρ _ _ H1 hr e1 (ho.step e1) itOk_rngDown fun _ _ _ _ _ z => z⟩
  · exact hr.elim
/-- over a text's signs -/
def signs (s : Str) : List D := s.cps.toList.map fun c => D.str ⟨#[c]⟩
theorem itOk_str {s : Str} {H1 : Hp} : ItOk K S (Its s) (signs s) Pr.none H1 := by
  refine ⟨fun p o z => z.elim, fun v d z => z.elim, fun H _ _ => ⟨fun i x hx => ?_, ?_⟩⟩
  · unfold signs at hx
    rw [List.getElem?_map] at hx
    cases z : s.cps.toList[i]? with
    | none => rw [z] at hx; cases hx
    | some c =>
      rw [z] at hx
      have hx : D.str ⟨#[c]⟩ = x := Option.some.inj hx
      rw [Array.getElem?_toList] at z
      refine ⟨(Array.getElem?_eq_some_iff.mp z).1, fun v H' hy => ?_⟩
      obtain ⟨rfl, c', hc, rfl⟩ := hy
      rw [z] at hc
      cases hc
      exact ⟨fun st => Ev.refl st, by rw [← hx]; exact .str _⟩
  · show s.cps.size ≤ (signs s).length
    unfold signs
    rw [List.length_map, Array.length_toList]
    exact Nat.le_refl _
def iSt (de : DE) : DI := fun ρ P E => de ρ (fun r => match r with | .d (.str s) => P (signs s) ρ | _ => False) E
theorem id_str (h : PD K X S W e te de) : ID K X S W tg e (iStr te) (iSt de) := by
  obtain ⟨hK, p, h⟩ := h
  refine ⟨hK, pi_str p, fun ρ P E hd H0 pr σ H Q ho q w => ?_⟩
  refine h ρ _ E hd H0 pr σ H _ ho (fun r v H1 hr e1 rr => ?_) w
  split at hr
  · cases rr; exact ⟨_, rfl, q _ ρ _ _ H1 hr e1 (ho.step e1) itOk_str fun _ _ _ _ _ z => z⟩
  · exact hr.elim

/-! ### targets -/
abbrev DG := D → List A → (List A → Prop) → Prop
/-- js: the slots that are stored -/
def GD (K : PySem.W.Frag) (X : Cx) (S : Sm) (tg : Expr) (g : TG) (js : List Nat) (dg : DG) : Prop := X.K = K ∧ PG X tg g ∧ ∀ x ρ (N : List A → Prop), dg x ρ N → ∀ H0 pr σ H v (Q : L2.St → Hp → Prop), Holds K S H0 pr ρ σ H → Rep K H v x →
  (∀ ρ' σ', N ρ' → Holds K S H0 pr ρ' σ' H → (∀ i, i ∉ js → σ'[i]? = σ[i]?) → σ'.length = σ.length → Q σ' H) → g v σ H Q
abbrev DGs := List D → List A → (List A → Prop) → Prop
def GsD (K : PySem.W.Frag) (X : Cx) (S : Sm) (tgs : List Expr) (g : TGs) (js : List Nat) (dg : DGs) : Prop := X.K = K ∧ PGs X tgs g ∧ ∀ xs ρ (N : List A → Prop), dg xs ρ N → ∀ H0 pr σ H vs (Q : L2.St → Hp → Prop), Holds K S H0 pr ρ σ H → Reps K H vs xs →
  (∀ ρ' σ', N ρ' → Holds K S H0 pr ρ' σ' H → (∀ i, i ∉ js → σ'[i]? = σ[i]?) → σ'.length = σ.length → Q σ' H) → g vs σ H Q
def dgName (i : Nat) : DG := fun x ρ N => N (setA ρ i (.d x))
def dgNil : DGs := fun xs ρ N => match xs with | [] => N ρ | _ => False
def dgCons (g : DG) (gs : DGs) : DGs := fun xs ρ N => match xs with | x :: r => g x ρ (fun ρ' => gs r ρ' N) | [] => False
def dgTup (n : Nat) (gs : DGs) : DG := fun x ρ N => match x with | .tup xs => xs.length = n ∧ gs xs ρ N | _ => False
theorem gd_name {i : Nat} {x : Str} (hN : X.N.Nodup) (hi : X.N[i]? = some x) (hx : Loc X.env.scope x) (hf : X.fn x = true ∨ X.env.scope.names.lookup x = some .local := by first | exact .inl rfl | exact .inr rfl) (hK : X.K = K := by rfl) : GD K X S (.Name x pos) (gName i) [i] (dgName i) :=
  ⟨hK, pg_name hN hi hx hf, fun x ρ N h H0 pr σ H v Q ho r q => q _ _ h (ho.storeD r) (fun j hj => by rw [List.getElem?_set_ne (fun z => hj (by simp [z]))]) (List.length_set ..)⟩
theorem gs_nil (hK : X.K = K := by rfl) : GsD K X S [] gNil [] dgNil := by
  refine ⟨hK, pgs_nil, fun xs ρ N h H0 pr σ H vs Q ho r q => ?_⟩
  unfold dgNil at h
  cases r with
  | nil => exact ⟨rfl, q _ _ h ho (fun _ _ => rfl) rfl⟩
  | cons _ _ => exact h.elim
theorem gs_cons {tgs : List Expr} {g : TG} {gs : TGs} {js ks : List Nat} {dg : DG} {dgs : DGs} (h1 : GD K X S tg g js dg) (h2 : GsD K X S tgs gs ks dgs) (hs : (assignEach (tg :: tgs) X.env).map (·.2) = assign tg X.env :: (assignEach tgs X.env).map (·.2) := by rfl) : GsD K X S (tg :: tgs) (gCons g gs) (js ++ ks) (dgCons dg dgs) := by
  obtain ⟨hK, p1, h1⟩ := h1
  obtain ⟨_, p2, h2⟩ := h2
  refine ⟨hK, pgs_cons p1 p2 hs, fun xs ρ N h H0 pr σ H vs Q ho r q => ?_⟩
  unfold dgCons at h
  cases r with
  | nil => exact h.elim
  | cons r1 r2 =>
    refine ⟨_, _, rfl, h1 _ ρ _ h H0 pr σ H _ _ ho r1 fun ρ' σ' h' ho' n1 l1 => h2 _ ρ' N h' H0 pr σ' H _ _ ho' r2 fun ρ2 σ2 h3 ho2 n2 l2 => q ρ2 σ2 h3 ho2 (fun i hi => ?_) (l2.trans l1)⟩
    rw [n2 i (fun z => hi (List.mem_append_right _ z)), n1 i (fun z => hi (List.mem_append_left _ z))]
theorem Reps.len {H : Hp} {vs : List V} {ds : List D} (h : Reps K H vs ds) : vs.length = ds.length := h.length
theorem gd_tup {tgs : List Expr} {gs : TGs} {js : List Nat} {dgs : DGs} {k : Nat} (hc : X.calm = true) (h : GsD K X S tgs gs js dgs) {n : Nat} (hn : (assignEach tgs X.env).length = n := by rfl) (hst : (assignEach tgs X.env).findIdx? (·.1) = none := by rfl) :
    GD K X S (.Tuple tgs k pos) (gTup K n gs) js (dgTup n dgs) := by
  obtain ⟨hK, p, h⟩ := h
  subst hK
  refine ⟨rfl, pg_tup hc p hn hst, fun x ρ N hd H0 pr σ H v Q ho r q => ?_⟩
  unfold dgTup at hd
  cases r with
  | tup h1 r1 => exact ⟨_, _, rfl, h1, by rw [r1.length]; exact hd.1, h _ ρ N hd.2 H0 pr σ H _ _ ho r1 q⟩
  | lst h1 r1 => exact hd.elim
  | non => exact hd.elim
  | bl b => exact hd.elim
  | int i => exact hd.elim
  | str s => exact hd.elim
end
end PL

/-! PL5: slices backwards, extend by tuples, for, comprehensions, methods of lists -/
namespace HT
open PySem PyProof.Rows
theorem adjust_rev (n : Nat) : Builtin.Slice.sliceAdjust none none (-1) (n : Int) = ((n : Int) - 1, -1) := by
  unfold Builtin.Slice.sliceAdjust
  simp
theorem places_rev (n : Nat) : Builtin.Slice.slicePlaces ((n : Int) - 1) (-1) (-1) = n := by
  unfold Builtin.Slice.slicePlaces
  simp
  omega
section
variable {prog : Program} {w : World} {A : Around} {E : Value → Shared → Prop} {s : Shared}
theorem sliceApplied_rev {sl : Addr} {vl vu vs : Value} {n : Nat} {Q : Int × Int × Nat → Shared → Prop} (hs : s.heap.IsSliceOf sl vl vu vs) (pl : IsPart vl none) (pu : IsPart vu none) (ps : IsPart vs (some (-1)))
    (h : Q ((n : Int) - 1, -1, n) s) : wpAny (model prog w) A (Builtin.Slice.sliceApplied (.ref sl) (pure (n : Int))) Q E s := by
  obtain ⟨os, hos, hcs, hds⟩ := id hs
  unfold Builtin.Slice.sliceApplied Builtin.Slice.sliceFields
  refine wpAny_bind (wpAny_bind (wpAny_field hos hds (x := vl) rfl (wpAny_bind (wpAny_field hos hds (x := vu) rfl (wpAny_bind (wpAny_field hos hds (x := vs) rfl (wpAny_pure ?_)))))))
  refine wpAny_bind (slicePart_ ps ?_)
  show wpAny _ _ (if ((-1 : Int) == 0) = true then _ else _) _ _ s
  rw [if_neg (by decide)]
  refine wpAny_bind (slicePart_ pl (wpAny_bind (slicePart_ pu (wpAny_bind (wpAny_pure ?_)))))
  show wpAny _ _ (match Builtin.Slice.sliceAdjust none none (-1) (n : Int) with | (lo, hi) => pure (lo, (-1 : Int), Builtin.Slice.slicePlaces lo hi (-1))) _ _ s
  rw [adjust_rev n]
  show wpAny _ _ (pure ((n : Int) - 1, (-1 : Int), Builtin.Slice.slicePlaces ((n : Int) - 1) (-1) (-1))) _ _ s
  rw [places_rev]
  exact wpAny_pure h
theorem pick_rev (xs : Array Value) : ((List.range xs.size).filterMap fun (m : Nat) => xs[(((xs.size : Int) - 1) + (m : Int) * (-1)).toNat]?).toArray = xs.toList.reverse.toArray := by
  congr 1
  apply List.ext_getElem?
  intro i
  have gen : ∀ k, k ≤ xs.size → ((List.range k).filterMap fun (m : Nat) => xs[(((xs.size : Int) - 1) + (m : Int) * (-1)).toNat]?) = xs.toList.reverse.take k := by
    intro k
    induction k with
    | zero => intro _; simp
    | succ k ih =>
      intro hk
      rw [List.range_succ, List.filterMap_append, ih (by omega), List.take_add_one]
      congr 1
      have e : (((xs.size : Int) - 1) + (k : Int) * (-1)).toNat = xs.size - 1 - k := by omega
      have h1 : xs.size - 1 - k < xs.size := by omega
      simp only [List.filterMap_cons, List.filterMap_nil]
      rw [e, List.getElem?_reverse (by rw [Array.length_toList]; omega), Array.length_toList, Array.getElem?_toList, Array.getElem?_eq_getElem h1]
      rfl
  rw [gen xs.size (Nat.le_refl _), List.take_of_length_le (by simp)]
theorem getItem_tuple_rev {t sl : Addr} {items : Array Value} {vl vu vs : Value} {Q : Value → Shared → Prop} (ht : IsTup s.heap t items) (hs : s.heap.IsSliceOf sl vl vu vs) (pl : IsPart vl none) (pu : IsPart vu none) (ps : IsPart vs (some (-1)))
    (h : Q (.ref s.heap.objs.size) { s with heap := s.heap.push { cls := .type "tuple", data := .seq items.toList.reverse.toArray } })
    (hsz : items.size ≤ sizeLine) : wpAny (model prog w) A (getItem (.ref t) (.ref sl)) Q E s := by
  have htake : sizeOk (.seq items.toList.reverse.toArray) := by
    show items.toList.reverse.toArray.size ≤ sizeLine
    rw [List.size_toArray, List.length_reverse, Array.length_toList]
    exact hsz
  obtain ⟨os, hos, hcs, hds⟩ := id hs
  have hTs : s.TypeIs (.ref sl) "slice" := ⟨os, hos, hcs⟩
  unfold getItem
  try with_reducible refine wpAny_holding ?_
  first | refine wpAny_bind (wpAny_pure ?_) | skip
  refine wpAny_bind (wpAny_sequenceKey ht.typeIs (by decide) ?_)
  refine wpAny_bind (wpAny_callSpecial?_slot (name := Str.ofString "__getitem__") ht.typeIs PyProof.Rows.slot_tuple_getitem
    (wpAny_call_entry PyProof.Rows.slot_tuple_getitem ht.typeIs entry_tuple_getitem ?_ (args_tuple_getitem _ _)))
  show wpAny _ _ (Builtin.Tuple.tupleItemsOf (.ref t) >>= _) _ _ s
  refine wpAny_bind (tupleItemsOf_ ht ?_)
  refine wpAny_bind (wpAny_typeOf hTs ?_)
  rw [if_pos (by decide)]
  refine wpAny_bind (sliceApplied_rev hs pl pu ps ?_)
  have hno : ¬ ((((items.size : Int) - 1) == 0 && (-1 : Int) == 1 && items.size == items.size) = true) := by
    intro q
    rw [Bool.and_eq_true, Bool.and_eq_true] at q
    have q2 : (-1 : Int) = 1 := eq_of_beq q.1.2
    omega
  show wpAny _ _ (if ((((items.size : Int) - 1) == 0 && (-1 : Int) == 1 && items.size == items.size) = true) then _ else _) _ _ s
  rw [if_neg hno, pick_rev]
  first
    | exact wpAny_bind (m := Builtin.Tuple.tupleExact _) (wpAny_newObj_type (wpAny_pure ⟨_, rfl, wpAny_pure h⟩) htake)
    | exact wpAny_bind (m := Builtin.Tuple.tupleExact _) (wpAny_newObj_type (wpAny_bind (wpAny_pure (wpAny_pure ⟨_, rfl, wpAny_pure h⟩))) htake)
    | exact wpAny_bind (wpAny_bind (m := Builtin.Tuple.tupleExact _) (wpAny_newObj_type (wpAny_pure (wpAny_pure ⟨_, rfl, wpAny_pure h⟩)) htake))
    | exact wpAny_bind (wpAny_bind (m := Builtin.Tuple.tupleExact _) (wpAny_newObj_type (wpAny_pure ⟨_, rfl, wpAny_pure h⟩) htake))
end
end HT

namespace PL
open PySem PySem.Spec PyProof.Rows L2

/-! ### a[::-1] -/
def tRevA (K : PySem.W.Frag) (te : TE) : TE := fun σ H Q => te σ H fun x H1 => (∃ a xs, x = .ref a ∧ SqL K H1 a xs ∧ ∀ p, H1 p = none → Q (.ref p) (upd H1 p (.lst xs.reverse))) ∨
  (∃ a xs, x = .ref a ∧ SqT K H1 a xs ∧ ∀ p, H1 p = none → Q (.ref p) (upd H1 p (.tup xs.reverse)))
theorem pe_revA {X : Cx} {e : Expr} {te : TE} {k : Nat} {p1 p2 p3 pos : Pos} (he : PE X e te) : PE X (.Subscript e (.Slice none none (some (.UnaryOp .USub (.Constant (.int 1) k p1) p2)) p3) pos) (tRevA X.K te) := by
  refine ⟨fun pins s σ H Q I h => ?_⟩
  refine Subscript_ (thn (he.run pins s σ H _ I h) fun v s1 ⟨x, H1, I1, r1, q1⟩ => ?_)
  have hst : PO X (some (.UnaryOp .USub (.Constant (.int 1) k p1) p2)) (tPart (tUn (rU fun i => .int (-i)) (tC (.int 1)))) := po_some (pe_un un_neg pe_int)
  refine wpAny_Slice (thn (po_none.run pins s1 σ H1 (fun o H2 => o = none ∧ H2 = H1) I1 ⟨rfl, rfl⟩) fun vl s2 ⟨l, H2, I2, pl, el, e2⟩ => ?_)
  subst el e2
  refine thn (po_none.run pins s2 σ H2 (fun o H3 => o = none ∧ H3 = H2) I2 ⟨rfl, rfl⟩) fun vu s3 ⟨u, H3, I3, pu, eu, e3⟩ => ?_
  subst eu e3
  refine thn (hst.run pins s3 σ H3 (fun o H4 => o = some (-1) ∧ H4 = H3) I3 ⟨1, rfl, -1, rfl, rfl, rfl⟩) fun vs s4 ⟨o, H4, I4, ps, eo, e4⟩ => ?_
  subst eo e4
  have I5 : Inv X pins σ H4 { s4 with heap := s4.heap.push { cls := .type "slice", data := .fields #[vl, vu, vs] } } := I4.kept (t' := s4.toks) fun b ob q => Heap.get?_push_of_some _ q
  rcases q1 with ⟨a, xs, ex, hx, q⟩ | ⟨a, xs, ex, hx, q⟩
  · subst ex
    cases r1
    obtain ⟨its, r, ht, hz⟩ := I5.list hx
    have hlen := r.length
    show wpAny (model X.prog X.w) X.A (subscriptTail e (.Slice none none (some (.UnaryOp .USub (.Constant (.int 1) k p1) p2)) p3) (.ref a) (.ref s4.heap.objs.size)) (EP X pins σ Q) X.xe { s4 with heap := s4.heap.push { cls := .type "slice", data := .fields #[vl, vu, vs] } }
    refine tail_any (ops := [.ref a, .ref s4.heap.objs.size]) ht.isList.typeIs (PySem.slot_list_getitem.lookup) ?_ (by with_unfolding_all rfl)
    refine wpAny_getItem_list_slice ht.isList (Heap.IsSliceOf.new _ vl vu vs) pl pu ps (by decide) ?_ (by rw [List.size_toArray]; omega)
    rw [PySem.W.krv_pick]
    refine ⟨.ref _, _, I5.laid (t' := s4.toks) (o := .lst xs.reverse) (fun b ob q => Heap.get?_push_of_some _ q) (Nat.le_refl _) ?_, rfl, q _ (I5.hok.fresh (Nat.le_refl _))⟩
    exact ⟨by rw [List.length_reverse]; exact hz, _, 0, r.reverse, Heap.get?_push_size _ rfl⟩
  · subst ex
    cases r1
    obtain ⟨its, r, ht, hz⟩ := I5.tuple hx
    have hlen := r.length
    show wpAny (model X.prog X.w) X.A (subscriptTail e (.Slice none none (some (.UnaryOp .USub (.Constant (.int 1) k p1) p2)) p3) (.ref a) (.ref s4.heap.objs.size)) (EP X pins σ Q) X.xe { s4 with heap := s4.heap.push { cls := .type "slice", data := .fields #[vl, vu, vs] } }
    refine tail_any (ops := [.ref a, .ref s4.heap.objs.size]) ht.typeIs (PyProof.Rows.slot_tuple_getitem.lookup) ?_ (by with_unfolding_all rfl)
    refine HT.getItem_tuple_rev ht (Heap.IsSliceOf.new _ vl vu vs) pl pu ps ?_ (by rw [List.size_toArray]; omega)
    refine ⟨.ref _, _, I5.laid (t' := s4.toks) (o := .tup xs.reverse) (fun b ob q => Heap.get?_push_of_some _ q) (Nat.le_refl _) ?_, rfl, q _ (I5.hok.fresh (Nat.le_refl _))⟩
    exact ⟨by rw [List.length_reverse]; exact hz, _, r.reverse, IsTup.new _ _⟩
section
variable {K : PySem.W.Frag} {X : Cx} {S : Sm} {W : WX} {e a b c : Expr} {es : List Expr} {ta tb te : TE} {tt : TT} {t u : TS} {tl : TA} {da db de : DE} {dt : DT} {d1 d2 : DS} {dl : DA} {pos apos cpos npos : Pos} {st : Stmt} {rest sa sb : List Stmt} {tg iter : Expr} {wi : TI} {di : DI} {g : TG} {js : List Nat} {dg : DG}
def dRev (de : DE) : DE := fun ρ P E => de ρ (fun r => match r with
  | .d (.tup xs) => P (.d (.tup xs.reverse))
  | .n (.lst xs) => P (.n (.lst xs.reverse))
  | .b (.lst xs) => P (.n (.lst xs.reverse))
  | .d (.lst xs) => P (.n (.lst xs.reverse))
  | _ => False) E
theorem pd_rev {k : Nat} {p1 p2 p3 : Pos} (he : PD K X S W e te de) : PD K X S W (.Subscript e (.Slice none none (some (.UnaryOp .USub (.Constant (.int 1) k p1) p2)) p3) pos) (tRevA K te) (dRev de) := by
  obtain ⟨hK, p, h⟩ := he
  subst hK
  refine ⟨rfl, pe_revA p, fun ρ P E hd H0 pr σ H Q ho q w => ?_⟩
  refine h ρ _ E hd H0 pr σ H _ ho (fun r v H1 hr e1 rr => ?_) w
  have lst : ∀ {xs : List D}, lstRd r = some xs → P (.n (.lst xs.reverse)) → ∃ a xs, v = .ref a ∧ SqL X.K H1 a xs ∧ ∀ p, H1 p = none → Q (.ref p) (upd H1 p (.lst xs.reverse)) := by
    intro xs er hp
    obtain ⟨q', vs, ev, h1, r1⟩ := lstRd_ok (rr.val ho.stm) er
    exact ⟨q', vs, ev, .inl h1, fun p np => q _ _ _ hp (e1.trans (Ev.new e1.stm np)) ⟨p, rfl, e1.back ho.stm np, _, upd_same, r1.reverse.mono (tk_new np)⟩⟩
  split at hr
  · cases rr with
    | tup h1 r1 => exact .inr ⟨_, _, rfl, h1, fun p np => q _ _ _ hr (e1.trans (Ev.new e1.stm np)) (.tup (SqT.of upd_same) (r1.reverse.mono (tk_new np)))⟩
  · exact .inl (lst rfl hr)
  · exact .inl (lst rfl hr)
  · exact .inl (lst rfl hr)
  · exact hr.elim

/-! ### for -/
def dFor (di : DI) (dg : DG) (d : DS) : DS := fun F ρ => di ρ (fun xs ρ1 => ∃ Pv : Nat → List A → Prop, Pv 0 ρ1 ∧
  (∀ i x ρ', xs[i]? = some x → Pv i ρ' → dg x ρ' (fun ρ2 => d { F with nx := Pv (i + 1), ct := Pv (i + 1), bk := F.nx } ρ2)) ∧ ∀ ρ', Pv xs.length ρ' → F.nx ρ') (fun C => F.ex C ρ)
theorem sd_for (hp : PassesOwn (model X.prog X.w) X.A X.env X.xe) (hc : X.calm = true) (hi : ID K X S W tg iter wi di) (hg : GD K X S tg g js dg) (hb : SsD K X S W sa t d1) (hs : ∀ x, foldedSetIterable iter X.env x = pure x := by intro _; rfl) : SD K X S W (.For tg iter sa [] pos) (tFor wi g t) (dFor di dg d1) := by
  obtain ⟨hK, pi, hi⟩ := hi
  obtain ⟨_, pg, hg⟩ := hg
  obtain ⟨_, pa, ha⟩ := hb
  refine ⟨hK, ps_for hp hc pi pg pa hs, fun ρ F hd H0 pr σ H Dn ho l => ?_⟩
  refine hi ρ _ _ hd H0 pr σ H _ ho (fun xs ρ1 J pv H1 hxs e1 ho1 it own => ?_) (l.wish ho)
  obtain ⟨Pv, p0, step, pend⟩ := hxs
  have weak : ∀ {ρ' σ' H'}, Holds K S H0 (pr.and pv) ρ' σ' H' → Holds K S H0 pr ρ' σ' H' := fun h => h.weak (fun _ _ z => .inl z) fun _ _ z => .inl z
  have h1 : Holds K S H0 (pr.and pv) ρ1 σ H1 := ⟨ho1.ev, ho1.st0, ho1.len, ho1.slot, ho1.sep, fun q o z => z.elim (ho1.prot q o) (it.at1 q o), fun i q ow s o z => z.elim (ho1.psep i q ow s o) (own i q o ow s), fun v d z => z.elim (ho1.fact v d) (it.fact1 v d)⟩
  refine ⟨fun i m σ' H' => m = xs.length - i ∧ i ≤ xs.length ∧ ∃ ρ', Pv i ρ' ∧ Holds K S H0 (pr.and pv) ρ' σ' H', ⟨xs.length, by simp, Nat.zero_le _, ρ1, p0, h1⟩, ?_⟩
  rintro i m σ' H' ⟨rfl, hi', ρ', pi', h'⟩
  obtain ⟨go, stop⟩ := it.run H' (fun q o z => (h'.prot q o (.inr z)).1) fun v d z => h'.fact v d (.inr z)
  by_cases hlt : i < xs.length
  · obtain ⟨g1, g2⟩ := go i xs[i] (List.getElem?_eq_getElem hlt)
    refine .inr ⟨g1, fun σ2 H2 => ∃ ρ2, Pv (i + 1) ρ2 ∧ Holds K S H0 (pr.and pv) ρ2 σ2 H2, fun σ2 H2 ⟨ρ2, p2, h2⟩ => ⟨xs.length - (i + 1), by omega, rfl, hlt, ρ2, p2, h2⟩, fun v H2 hy => ?_⟩
    obtain ⟨ev2, rv⟩ := g2 v H2 hy
    have h2 := h'.step (ev2 h'.stm)
    refine hg xs[i] ρ' _ (step i _ ρ' (List.getElem?_eq_getElem hlt) pi') H0 (pr.and pv) σ' H2 v _ h2 rv fun ρ2 σ2 hn h3 _ _ => ?_
    exact ha ρ2 _ hn H0 (pr.and pv) σ2 H2 _ h3 ⟨fun ρ3 σ3 H3 n3 h4 => ⟨ρ3, n3, h4⟩, fun ρ3 σ3 H3 n3 h4 => l.nx ρ3 σ3 H3 n3 (weak h4), fun ρ3 σ3 H3 n3 h4 => ⟨ρ3, n3, h4⟩, l.rt, fun C ρ3 σ3 H3 n3 h4 => l.ex C ρ3 σ3 H3 n3 (weak h4)⟩
  · have e : i = xs.length := by omega
    subst e
    exact .inl ⟨stop, l.nx ρ' σ' H' (pend ρ' pi') (weak h')⟩

/-! ### list comprehensions -/
def wipeA (ρ : List A) : List Nat → List A
  | [] => ρ
  | v :: vs => setA (wipeA ρ vs) v .any
theorem getD_set_none {l : L2.St} {i : Nat} : (l.set i none).getD i none = none := by
  by_cases h : i < l.length
  · rw [getD_set_same h]
  · rw [List.set_eq_of_length_le (Nat.le_of_not_lt h), List.getD_eq_getElem?_getD, List.getElem?_eq_none (Nat.le_of_not_lt h)]
    rfl
theorem Holds.gone {H0 H : Hp} {pr : Pr} {ρ : List A} {σ : L2.St} {i : Nat} (h : Holds K S H0 pr ρ σ H) : Holds K S H0 pr (setA ρ i .any) (σ.set i none) H := by
  have hf := h.forget (i := i)
  have key : ∀ {j q}, (σ.set i none).getD j none = some (.ref q) → σ.getD j none = some (.ref q) := fun {j q} s => by
    by_cases e : j = i
    · subst e; rw [getD_set_none] at s; cases s
    · rw [getD_set_ne e] at s; exact s
  refine ⟨hf.ev, hf.st0, by rw [List.length_set]; exact hf.len, fun j => ?_, fun j k q o1 o2 ne s1 s2 => hf.sep j k q o1 o2 ne (key s1) (key s2), hf.prot, fun j q o s => hf.psep j q o (key s), hf.fact⟩
  by_cases e : j = i
  · subst e
    by_cases hl : j < ρ.length
    · rw [nth_setA_same _ _ _ hl]; trivial
    · rw [nth_big _ _ (by rw [setA_length]; exact Nat.le_of_not_lt hl)]; trivial
  · rw [getD_set_ne e]
    exact hf.slot j
theorem Holds.wipe {H0 H : Hp} {pr : Pr} {ρ : List A} {σ : L2.St} (h : Holds K S H0 pr ρ σ H) : ∀ vs : List Nat, Holds K S H0 pr (wipeA ρ vs) (L2.wipe σ vs) H
  | [] => h
  | v :: vs => (Holds.wipe h vs).gone
theorem wipe_congr {σ σ' : L2.St} : ∀ {vs : List Nat}, (∀ i, i ∉ vs → σ'[i]? = σ[i]?) → σ'.length = σ.length → ∀ i : Nat, (L2.wipe σ' vs)[i]? = (L2.wipe σ vs)[i]? := by
  intro vs h hl i
  have key : ∀ (τ : L2.St) (ws : List Nat) (i : Nat), (L2.wipe τ ws)[i]? = if i ∈ ws then (if i < τ.length then some none else none) else τ[i]? := by
    intro τ ws
    induction ws with
    | nil => intro i; rfl
    | cons w ws ih =>
      intro i
      show ((L2.wipe τ ws).set w none)[i]? = _
      rw [List.getElem?_set]
      by_cases e : w = i
      · subst e
        rw [if_pos rfl, if_pos (List.mem_cons_self ..), L2.wipe_length]
      · rw [if_neg e, ih i]
        by_cases m : i ∈ ws
        · rw [if_pos m, if_pos (List.mem_cons_of_mem _ m)]
        · rw [if_neg m, if_neg (by simp only [List.mem_cons, not_or]; exact ⟨fun z => e z.symm, m⟩)]
  rw [key, key, hl]
  by_cases m : i ∈ vs
  · rw [if_pos m, if_pos m]
  · rw [if_neg m, if_neg m, h i m]
theorem wipe_wipe {σ σ' : L2.St} {vs : List Nat} (h : ∀ i, i ∉ vs → σ'[i]? = (L2.wipe σ vs)[i]?) (hl : σ'.length = (L2.wipe σ vs).length) : L2.wipe σ' vs = L2.wipe σ vs := by
  apply List.ext_getElem?
  intro i
  rw [wipe_congr h hl i]
  have key : ∀ (τ : L2.St) (ws : List Nat) (i : Nat), (L2.wipe τ ws)[i]? = if i ∈ ws then (if i < τ.length then some none else none) else τ[i]? := by
    intro τ ws
    induction ws with
    | nil => intro i; rfl
    | cons w ws ih =>
      intro i
      show ((L2.wipe τ ws).set w none)[i]? = _
      rw [List.getElem?_set]
      by_cases e : w = i
      · subst e
        rw [if_pos rfl, if_pos (List.mem_cons_self ..), L2.wipe_length]
      · rw [if_neg e, ih i]
        by_cases m : i ∈ ws
        · rw [if_pos m, if_pos (List.mem_cons_of_mem _ m)]
        · rw [if_neg m, if_neg (by simp only [List.mem_cons, not_or]; exact ⟨fun z => e z.symm, m⟩)]
  rw [key (L2.wipe σ vs) vs i, L2.wipe_length]
  by_cases m : i ∈ vs
  · rw [if_pos m, key σ vs i, if_pos m]
  · rw [if_neg m]
abbrev W0 : WX := fun _ _ _ _ => False
abbrev noE : RX := fun _ => False
theorem wish0 {σ : L2.St} {H : Hp} : Wish S W0 σ H noE := fun _ _ z => z.elim
/-- a clause's tests -/
def TsD (K : PySem.W.Frag) (X : Cx) (S : Sm) (W : WX) (ifs : List Expr) (tt : TT) (dt : DT) : Prop := X.K = K ∧ PTs X ifs tt ∧ ∀ ρ P E, dt ρ P E → EvB K S W tt ρ P E
def tdYes : DT := fun _ P _ => P true
theorem ts_nil (hK : X.K = K := by rfl) : TsD K X S W [] tYes tdYes := ⟨hK, pts_nil, fun ρ P E h H0 pr σ H Q ho q _ => q true H h (Ev.refl ho.stm)⟩
theorem ts_one (h : TD K X S W c tt dt) : TsD K X S W [c] tt dt := by
  obtain ⟨hK, p, h⟩ := h
  exact ⟨hK, pts_one p, h⟩
def dLc (di : DI) (dg : DG) (dt : DT) (de : DE) (vs : List Nat) : DE := fun ρ P E => di ρ (fun xs _ => ∃ I : Nat → List D → Prop, I 0 [] ∧
  (∀ i x acc, xs[i]? = some x → I i acc → dg x (wipeA ρ vs) (fun ρ2 => dt ρ2 (fun k => if k = true then de ρ2 (fun r => match r with | .d y => acc.length < sizeLine ∧ I (i + 1) (acc ++ [y]) | _ => False) noE else I (i + 1) acc) noE)) ∧
  ∀ acc, I xs.length acc → P (.n (.lst acc))) E
theorem evp_lc {vs : List Nat} (hjs : ∀ j ∈ js, j ∈ vs) (hi : ∀ ρ P E, di ρ P E → EvI K S W wi ρ P E)
    (hg : ∀ x ρ (N : List A → Prop), dg x ρ N → ∀ H0 pr σ H v (Q : L2.St → Hp → Prop), Holds K S H0 pr ρ σ H → Rep K H v x → (∀ ρ' σ', N ρ' → Holds K S H0 pr ρ' σ' H → (∀ i, i ∉ js → σ'[i]? = σ[i]?) → σ'.length = σ.length → Q σ' H) → g v σ H Q)
    (ht : ∀ ρ P E, dt ρ P E → EvB K S W0 tt ρ P E) (he : ∀ ρ P E, de ρ P E → EvP K S W0 te ρ P E) : ∀ ρ P E, dLc di dg dt de vs ρ P E → EvP K S W (tLc wi g tt te vs) ρ P E := by
  intro ρ P E hd H0 pr σ H Q ho q w
  refine hi ρ _ E hd H0 pr σ H _ ho (fun xs ρ1 J pv H1 hxs e1 _ it own => ?_) w
  obtain ⟨I, i0, step, iend⟩ := hxs
  intro Dl nD
  have ho1 := ho.step e1
  have hst := ho1.stm
  refine ⟨fun i m H' => m = xs.length - i ∧ i ≤ xs.length ∧ Ev S H1 H' ∧ ∃ acc vs', I i acc ∧ H' Dl = some (.lst vs') ∧ Reps K H' vs' acc, ⟨xs.length, by simp, Nat.zero_le _, Ev.new hst nD, [], [], i0, upd_same, .nil⟩, ?_⟩
  rintro i m H' ⟨rfl, hil, ev, acc, vs', ia, hD, racc⟩
  have nS : NotS S Dl := hst.fresh nD
  have nC := hst.cfresh nD
  obtain ⟨go, stop⟩ := it.run H' (fun q' o z => ev.keep _ _ (it.at1 q' o z).1 (it.at1 q' o z).2) fun v d z => (it.fact1 v d z).mono ev.tup
  by_cases hlt : i < xs.length
  · obtain ⟨g1, g2⟩ := go i xs[i] (List.getElem?_eq_getElem hlt)
    refine .inr ⟨g1, fun H2 => Ev S H1 H2 ∧ ∃ acc vs', I (i + 1) acc ∧ H2 Dl = some (.lst vs') ∧ Reps K H2 vs' acc, fun H2 ⟨ev2, acc2, vs2, r2⟩ => ⟨xs.length - (i + 1), by omega, rfl, hlt, ev2, acc2, vs2, r2⟩, fun v H2 hy => ?_⟩
    obtain ⟨ev2, rv⟩ := g2 v H2 hy
    have ev2 := ev2 ev.stm
    have h2 : Holds K S H0 pr (wipeA ρ vs) (L2.wipe σ vs) H2 := ((ho1.step ev).step ev2).wipe vs
    refine hg xs[i] _ _ (step i _ acc (List.getElem?_eq_getElem hlt) ia) H0 pr _ H2 v _ h2 rv fun ρ2 σ2 hn h3 n1 l1 => ?_
    refine ⟨wipe_wipe (fun j hj => n1 j fun z => hj (hjs j z)) l1, ?_⟩
    refine ht ρ2 _ noE hn H0 pr σ2 H2 _ h3 (fun k H3 hk e3 => ?_) wish0
    have hD3 : H3 Dl = some (.lst vs') := e3.keep _ _ (ev2.keep _ _ hD nS) nS
    have ev13 := (ev.trans ev2).trans e3
    cases k with
    | true =>
      rw [if_pos rfl] at hk ⊢
      refine he ρ2 _ noE hk H0 pr σ2 H3 _ (h3.step e3) (fun r u H4 hr e4 rr => ?_) wish0
      split at hr
      · next y =>
        have hD4 : H4 Dl = some (.lst vs') := e4.keep _ _ hD3 nS
        have racc4 : Reps K H4 vs' acc := ((racc.mono ev2.tup).mono e3.tup).mono e4.tup
        have tk : TK H4 (upd H4 Dl (.lst (vs' ++ [u]))) := tk_mut hD4 (fun _ y => by cases y) fun _ _ y => by cases y
        have ev4 := ev13.trans e4
        refine ⟨vs', hD4, by rw [racc4.length]; exact hr.1, ⟨fun b o e n => ?_, ev4.tup.trans tk, ev4.stm.upd nS nC (notCode hD4)⟩, acc ++ [y], vs' ++ [u], hr.2, upd_same, (racc4.append (.cons rr .nil)).mono tk⟩
        rw [upd_ne (ne_of_none e nD)]
        exact ev4.keep b o e n
      · exact hr.elim
    | false =>
      rw [if_neg Bool.false_ne_true] at hk ⊢
      exact ⟨ev13, acc, vs', hk, hD3, (racc.mono ev2.tup).mono e3.tup⟩
  · have e : i = xs.length := by omega
    subst e
    refine .inl ⟨stop, q _ _ _ (iend acc ia) (e1.trans ev) ⟨Dl, rfl, e1.back ho.stm nD, vs', hD, racc⟩⟩
theorem pd_lc {elt : Expr} {ifs : List Expr} {scope : Scope} {own : List (Str × Nat)} (hc : X.calm = true) (hN : X.N.Nodup) (hi : ID K X S W tg iter wi di) (ok : BlkOk X.N X.env.scope scope own)
    (hg : ∀ (s : Shared) (H : Hp) (C : Addr) (cl : List (Str × Addr)) (fp : List Addr), GD K (X.blk s H scope (compEnvC scope cl C X.env) fp) S tg g js dg) (ht : ∀ (s : Shared) (H : Hp) (C : Addr) (cl : List (Str × Addr)) (fp : List Addr), TsD K (X.blk s H scope (compEnvC scope cl C X.env) fp) S W0 ifs tt dt)
    (he : ∀ (s : Shared) (H : Hp) (C : Addr) (cl : List (Str × Addr)) (fp : List Addr), PD K (X.blk s H scope (compEnvC scope cl C X.env) fp) S W0 elt te de) (hs : ∀ x, foldedSetIterable iter X.env x = pure x := by intro _; rfl) (hjs : ∀ j ∈ js, j ∈ own.map (·.2) := by decide) :
    PD K X S W (.ListComp elt [⟨tg, iter, ifs, 0⟩] scope pos) (tLc wi g tt te (own.map (·.2))) (dLc di dg dt de (own.map (·.2))) := by
  obtain ⟨hK, pi, hi⟩ := hi
  let s0 : Shared := (PySem.start X.prog).1
  refine ⟨hK, pe_lc hc hN pi ok (fun s H C cl fp => (hg s H C cl fp).2.1) (fun s H C cl fp => (ht s H C cl fp).2.1) (fun s H C cl fp => (he s H C cl fp).2.1) hs, ?_⟩
  exact evp_lc hjs hi (hg s0 (fun _ => none) 0 [] []).2.2 (ht s0 (fun _ => none) 0 [] []).2.2 (he s0 (fun _ => none) 0 [] []).2.2
theorem sd_setLc {elt : Expr} {ifs : List Expr} {scope : Scope} {own : List (Str × Nat)} {i : Nat} {y : Str} {py spos : Pos} (hc : X.calm = true) (hN : X.N.Nodup) (hy : X.N[i]? = some y) (hyl : X.env.scope.names.lookup y = some .local)
    (hsw : swapsWith (.ListComp elt [⟨tg, iter, ifs, 0⟩] scope pos) (some (.Name y py)) spos.line X.env = pure true) (hi : ID K X S W tg iter wi di) (ok : BlkOk X.N X.env.scope scope own)
    (hg : ∀ (s : Shared) (H : Hp) (C : Addr) (cl : List (Str × Addr)) (fp : List Addr), GD K (X.blk s H scope (compEnvC scope cl C X.env) fp) S tg g js dg) (ht : ∀ (s : Shared) (H : Hp) (C : Addr) (cl : List (Str × Addr)) (fp : List Addr), TsD K (X.blk s H scope (compEnvC scope cl C X.env) fp) S W0 ifs tt dt)
    (he : ∀ (s : Shared) (H : Hp) (C : Addr) (cl : List (Str × Addr)) (fp : List Addr), PD K (X.blk s H scope (compEnvC scope cl C X.env) fp) S W0 elt te de) (hs : ∀ x, foldedSetIterable iter X.env x = pure x := by intro _; rfl) (hjs : ∀ j ∈ js, j ∈ own.map (·.2) := by decide) :
    SD K X S W (.Assign [.Name y py] (.ListComp elt [⟨tg, iter, ifs, 0⟩] scope pos) spos) (tAsg (tLc wi g tt te (own.map (·.2))) (gName i)) (dSet i (dLc di dg dt de (own.map (·.2)))) := by
  obtain ⟨hK, pi, hi⟩ := hi
  let s0 : Shared := (PySem.start X.prog).1
  refine ⟨hK, ps_setLc hc hN hy hyl hsw pi ok (fun s H C cl fp => (hg s H C cl fp).2.1) (fun s H C cl fp => (ht s H C cl fp).2.1) (fun s H C cl fp => (he s H C cl fp).2.1) hs, ?_⟩
  exact tr_set (evp_lc hjs hi (hg s0 (fun _ => none) 0 [] []).2.2 (ht s0 (fun _ => none) 0 [] []).2.2 (he s0 (fun _ => none) 0 [] []).2.2)
end
end PL

/-! PL6: methods of lists, errors, calls, promises -/
namespace PL
open PySem PySem.Spec PyProof.Rows L2

/-! ### xs.extend(a tuple) -/
set_option maxRecDepth 8000 in
theorem extend_tup (l : Addr) (items : Array Value) (n : Nat) (b : Addr) (items2 : Array Value) (n2 : Nat) (dd : Option Addr) (sl : Array (Option Value)) (hs0 : ¬(!items.isEmpty && Builtin.List.listTooLong (items.size + items2.size)) = true) (hs1 : items.size ≤ sizeLine) (hs2 : items.size + items2.size ≤ sizeLine + 1) :
    Meets (Builtin.«list.extend» ⟨[.ref l, .ref b], []⟩) (fun _ R s => s.heap.get? l = some { cls := .type "list", dict := none, data := .seq items n, slots := #[] } ∧ s.heap.get? b = some { cls := .type "tuple", dict := dd, data := .seq items2 n2, slots := sl } ∧ R (.ok (.ret Value.none)) { s with heap := s.heap.update l (Obj.mapSeq fun x => x ++ items2), toks := s.toks }) :=
  .of_wp fun prog w A R s h => by
    obtain ⟨hp, g, d, tk, os⟩ := s; obtain ⟨hl, hb, h⟩ := h; have f1 := AutoSeq1.idx_int; have f2 := AutoSeq1.sub_tuple_tuple; have f3 := AutoSeq1.sub_list_list; have f4 := AutoSeq1.sub_tuple_list; have f5 := AutoSeq1.sub_list_tuple;
    have hz' : (items ++ items2).size ≤ sizeLine + 1 := by rw [Array.size_append]; exact hs2
    wp_walk using (wpAny_updateSeq hl rfl (hz := hs1) (_hz' := hz')), wpAny_loadPart' hl, wpAny_loadPart' hb; exact ⟨_, rfl, h⟩
def rExtendT (K : PySem.W.Frag) : V → List V → Hp → VK → Prop := fun x vs H Q => ∃ l b xs zs, x = .ref l ∧ vs = [.ref b] ∧ H l = some (.lst xs) ∧ SqT K H b zs ∧ xs.length + zs.length ≤ sizeLine ∧ Q .non (upd H l (.lst (xs ++ zs)))
theorem mt_extendT {X : Cx} : MtM X "list.extend" (rExtendT X.K) := by
  intro pins s σ H x vs v us Q I rx rv h
  obtain ⟨l, b, xs, zs, rfl, rfl, hH, hB, hz, q⟩ := h
  cases rx
  obtain ⟨u, rfl, ru⟩ := rv.one
  cases ru
  obtain ⟨z, its, n, r, hl, e⟩ := I.lstM hH
  obtain ⟨its2, r2, ⟨o2, e2, c2, n2, d2⟩, z2⟩ := I.tuple hB
  have hl2 := r2.length
  obtain ⟨oc, od, dt, sl⟩ := o2
  simp only at c2 d2
  subst c2 d2
  have hsz : its.toArray.size + its2.toArray.size ≤ sizeLine := by rw [List.size_toArray, List.size_toArray]; omega
  have hlong : ¬ (!its.toArray.isEmpty && Builtin.List.listTooLong (its.toArray.size + its2.toArray.size)) = true := by
    rw [notLongL hsz, Bool.and_false]
    exact Bool.false_ne_true
  refine call_meets PySem.F.slot_list_extend ⟨_, e, rfl⟩ PySem.F.entry_list_extend (PySem.F.args_list_extend_2 _ _)
    (extend_tup l its.toArray n b its2.toArray n2 od sl hlong (by rw [List.size_toArray]; omega) (by omega)) ⟨e, e2, ?_⟩
  refine ⟨.non, _, I.lset (its' := its ++ its2) hH e (by simp) (r.append r2) ?_, rfl, q⟩
  rw [List.length_append]
  omega
def rExtendR : V → List V → Hp → VK → Prop := fun x vs H Q => ∃ l b xs zs, x = .ref l ∧ vs = [.ref b] ∧ H l = some (.lst xs) ∧ Rd H b (.lst zs) ∧ xs.length + zs.length ≤ sizeLine ∧ Q .non (upd H l (.lst (xs ++ zs)))
theorem mt_extendR {X : Cx} : MtM X "list.extend" rExtendR := by
  intro pins s σ H x vs v us Q I rx rv h
  obtain ⟨l, b, xs, zs, rfl, rfl, hH, hB, hz, q⟩ := h
  cases rx
  obtain ⟨u, rfl, ru⟩ := rv.one
  cases ru
  obtain ⟨z, its, n, r, hl, e⟩ := I.lstM hH
  obtain ⟨z2, its2, n2, r2, e2⟩ := (show ObjOk X.prog X.w H s.heap b (.lst zs) from hB.ok I.hok)
  have hl2 := r2.length
  have hsz : its.toArray.size + its2.toArray.size ≤ sizeLine := by rw [List.size_toArray, List.size_toArray]; omega
  have hlong : ¬ (!its.toArray.isEmpty && Builtin.List.listTooLong (its.toArray.size + its2.toArray.size)) = true := by
    rw [notLongL hsz, Bool.and_false]
    decide
  refine call_meets PySem.F.slot_list_extend ⟨_, e, rfl⟩ PySem.F.entry_list_extend (PySem.F.args_list_extend_2 _ _)
    (AutoSeq1.list_extend_list_list_0 l its.toArray n b its2.toArray n2 hlong (by rw [List.size_toArray]; omega) (by omega)) ⟨e, e2, ?_⟩
  refine ⟨.non, _, I.lset (its' := its ++ its2) hH e (by simp) (r.append r2) ?_, rfl, q⟩
  rw [List.length_append]
  omega
def rExtendA (K : PySem.W.Frag) : V → List V → Hp → VK → Prop := fun x vs H Q => rExtendR x vs H Q ∨ rExtendT K x vs H Q

section
variable {K : PySem.W.Frag} {X : Cx} {S : Sm} {W : WX} {e a b c : Expr} {es : List Expr} {ta tb te : TE} {tt : TT} {t u : TS} {tl : TA} {da db de : DE} {dt : DT} {d1 d2 : DS} {dl : DA} {pos apos cpos npos : Pos} {st : Stmt} {rest sa sb : List Stmt} {tg iter : Expr} {wi : TI} {di : DI} {g : TG} {js : List Nat} {dg : DG}
theorem tk_lst {H : Hp} {q : Addr} {vs : List V} {ob : HO} (h : H q = some (.lst vs)) : TK H (upd H q ob) := tk_mut h (fun _ y => by cases y) fun _ _ y => by cases y
/-- an owned list, after an evaluation -/
theorem Holds.lstAt {H0 H : Hp} {pr : Pr} {ρ : List A} {σ : L2.St} {i : Nat} {xs : List D} (h : Holds K S H0 pr ρ σ H) (z : nth ρ i = .o (.lst xs)) : ∃ q vs, σ.getD i none = some (.ref q) ∧ H0 q = none ∧ H q = some (.lst vs) ∧ Reps K H vs xs := by
  have s := h.slot i
  rw [z] at s
  obtain ⟨q, e1, n0, vs, h1, r1⟩ := s
  exact ⟨q, vs, e1, n0, h1, r1⟩
/-- xs.append(e) -/
def dApp (i : Nat) (de : DE) : DS := fun F ρ => match nth ρ i with
  | .o (.lst xs) => de ρ (fun r => match r with | .d x => xs.length < sizeLine ∧ F.nx (setA ρ i (.o (.lst (xs ++ [x])))) | _ => False) (fun C => F.ex C ρ)
  | _ => False
theorem sd_app {i : Nat} {o : Expr} (ho : PE X o (tVar i)) (he : PD K X S W e te de) (hbase : attributeBase o "append" X.env (eval o X.env) = eval o X.env := by rfl) (hline : (apos.endLine == cpos.line) = true := by rfl)
    (hse : starEach [e] X.env = (false, eval e X.env) :: starEach [] X.env := by rfl) (hfew : ((backTo cpos (starEach (e :: []) X.env)).all (fun x => !x.1) && (backToKw cpos (keywordEach [] X.env)).all (fun x => x.1.isSome)
      && decide ((e :: ([] : List Expr)).length + ([] : List Keyword).length + (if ([] : List Keyword).isEmpty then 0 else 1) < 30)) = true := by rfl) (hpl : (backTo cpos (starEach [] X.env)).any (·.1) = false := by rfl) (hs : swapsWith (.Call (.Attribute o "append" apos) [e] [] cpos) none pos.line X.env = pure false := by rfl) :
    SD K X S W (.Expr (.Call (.Attribute o "append" apos) [e] [] cpos) pos) (tDrop (tBM K "list" rAppend (tVar i) (tCons te tNil))) (dApp i de) := by
  obtain ⟨hK, p, h⟩ := he
  subst hK
  refine ⟨rfl, ps_expr (pe_bm PySem.F.plainAttrs_list PySem.F.slot_list_append PySem.F.type_list_append mt_append ho (pa_cons p pa_nil hse) hbase hfew hline hse hpl) hs, fun ρ F hd H0 pr σ H Dn hold l => ?_⟩
  unfold dApp at hd
  split at hd
  · next xs z =>
    obtain ⟨q, vs, e1, n0, h1, r1⟩ := hold.lstAt z
    refine ⟨_, getD_get e1, .inl ⟨rfl, vs, SqL.of h1⟩, ?_⟩
    refine h ρ _ _ hd H0 pr σ H _ hold (fun r v H1 hr ev rr => ?_) (l.wish hold)
    split at hr
    · next x =>
      have hold1 := hold.step ev
      have h2 : H1 q = some (.lst vs) := ev.keep _ _ h1 (hold.st0.fresh n0)
      have r2 := r1.mono ev.tup
      refine ⟨q, vs, v, rfl, rfl, h2, by rw [r2.length]; exact hr.1, l.nx _ _ _ hr.2 ?_⟩
      exact hold1.write z e1 (fun _ y => by cases y) fun tk => ⟨_, upd_same, (r2.append (.cons rr .nil)).mono tk⟩
    · exact hr.elim
  · exact hd.elim
/-- xs.extend(e), e a list or a tuple -/
def seqOf : R → Option (List D)
  | .n (.lst ys) => some ys
  | .b (.lst ys) => some ys
  | .d (.lst ys) => some ys
  | .d (.tup ys) => some ys
  | _ => none
def dExt (i : Nat) (de : DE) : DS := fun F ρ => match nth ρ i with
  | .o (.lst xs) => de ρ (fun r => match seqOf r with | some ys => xs.length + ys.length ≤ sizeLine ∧ F.nx (setA ρ i (.o (.lst (xs ++ ys)))) | _ => False) (fun C => F.ex C ρ)
  | _ => False
theorem sd_ext {i : Nat} {o : Expr} (ho : PE X o (tVar i)) (he : PD K X S W e te de) (hbase : attributeBase o "extend" X.env (eval o X.env) = eval o X.env := by rfl) (hline : (apos.endLine == cpos.line) = true := by rfl)
    (hse : starEach [e] X.env = (false, eval e X.env) :: starEach [] X.env := by rfl) (hfew : ((backTo cpos (starEach (e :: []) X.env)).all (fun x => !x.1) && (backToKw cpos (keywordEach [] X.env)).all (fun x => x.1.isSome)
      && decide ((e :: ([] : List Expr)).length + ([] : List Keyword).length + (if ([] : List Keyword).isEmpty then 0 else 1) < 30)) = true := by rfl) (hpl : (backTo cpos (starEach [] X.env)).any (·.1) = false := by rfl) (hs : swapsWith (.Call (.Attribute o "extend" apos) [e] [] cpos) none pos.line X.env = pure false := by rfl) :
    SD K X S W (.Expr (.Call (.Attribute o "extend" apos) [e] [] cpos) pos) (tDrop (tBM K "list" (rExtendA K) (tVar i) (tCons te tNil))) (dExt i de) := by
  obtain ⟨hK, p, h⟩ := he
  subst hK
  refine ⟨rfl, ps_expr (pe_bm PySem.F.plainAttrs_list PySem.F.slot_list_extend PySem.F.type_list_extend (MtR.or mt_extendR mt_extendT) ho (pa_cons p pa_nil hse) hbase hfew hline hse hpl) hs, fun ρ F hd H0 pr σ H Dn hold l => ?_⟩
  unfold dExt at hd
  split at hd
  · next xs z =>
    obtain ⟨q, vs, e1, n0, h1, r1⟩ := hold.lstAt z
    refine ⟨_, getD_get e1, .inl ⟨rfl, vs, SqL.of h1⟩, ?_⟩
    refine h ρ _ _ hd H0 pr σ H _ hold (fun r v H1 hr ev rr => ?_) (l.wish hold)
    have hold1 := hold.step ev
    have h2 : H1 q = some (.lst vs) := ev.keep _ _ h1 (hold.st0.fresh n0)
    have r2 := r1.mono ev.tup
    have rv := rr.val hold.stm
    have fin : ∀ {ws : List V} {ys : List D}, Reps X.K H1 ws ys → F.nx (setA ρ i (.o (.lst (xs ++ ys)))) → Dn.nx σ (upd H1 q (.lst (vs ++ ws))) := fun {ws ys} r3 hn =>
      l.nx _ _ _ hn (hold1.write z e1 (fun _ y => by cases y) fun tk => ⟨_, upd_same, (r2.append r3).mono tk⟩)
    have lst : ∀ {ys : List D}, lstRd r = some ys → (xs.length + ys.length ≤ sizeLine ∧ F.nx (setA ρ i (.o (.lst (xs ++ ys))))) → rExtendA X.K (.ref q) [v] H1 (fun _ H => Dn.nx σ H) := fun {ys} er hr => by
      obtain ⟨q3, ws, rfl, h3, r3⟩ := lstRd_ok rv er
      exact .inl ⟨q, q3, vs, ws, rfl, rfl, h2, h3, by rw [r2.length, r3.length]; exact hr.1, fin r3 hr.2⟩
    unfold seqOf at hr
    cases r with
    | d x =>
      cases x with
      | tup ys =>
        cases rv with
        | tup h3 r3 => exact .inr ⟨q, _, vs, _, rfl, rfl, h2, h3, by rw [r2.length, r3.length]; exact hr.1, fin r3 hr.2⟩
      | lst ys => exact lst rfl hr
      | non => exact hr.elim
      | bl i => exact hr.elim
      | int i => exact hr.elim
      | str i => exact hr.elim
    | n c =>
      cases c with
      | lst ys => exact lst rfl hr
      | dk ys => exact hr.elim
      | dt ys => exact hr.elim
      | kk ys => exact hr.elim
      | ll ys => exact hr.elim
    | b c =>
      cases c with
      | lst ys => exact lst rfl hr
      | dk ys => exact hr.elim
      | dt ys => exact hr.elim
      | kk ys => exact hr.elim
      | ll ys => exact hr.elim
    | strm => exact hr.elim
  · exact hd.elim
/-- x = xs.pop(), x any target -/
def dPop (i : Nat) (dg : DG) : DS := fun F ρ => match nth ρ i with
  | .o (.lst xs) => ∃ ys x, xs = ys ++ [x] ∧ dg x (setA ρ i (.o (.lst ys))) F.nx
  | _ => False
theorem sd_pop {i : Nat} {o : Expr} (ho : PE X o (tVar i)) (hg : GD K X S tg g js dg) (hbase : attributeBase o "pop" X.env (eval o X.env) = eval o X.env := by rfl) (hline : (apos.endLine == cpos.line) = true := by rfl)
    (hs : swapsWithSole [tg] (.Call (.Attribute o "pop" apos) [] [] cpos) pos.line X.env = pure false := by rfl) (hw : swappedStores [tg] (.Call (.Attribute o "pop" apos) [] [] cpos) X.env = pure none := by rfl) (h1 : (assignEach [tg] X.env).map (·.2) = [assign tg X.env] := by rfl) :
    SD K X S W (.Assign [tg] (.Call (.Attribute o "pop" apos) [] [] cpos) pos) (tAsg (tBM0 K "list" rPop (tVar i)) g) (dPop i dg) := by
  obtain ⟨hK, p, h⟩ := hg
  subst hK
  refine ⟨rfl, ps_asg (pe_bm0 PySem.F.plainAttrs_list PySem.F.slot_list_pop PySem.F.type_list_pop mt_pop ho hbase hline) p hs hw h1, fun ρ F hd H0 pr σ H Dn hold l => ?_⟩
  unfold dPop at hd
  split at hd
  · next xs z =>
    obtain ⟨q, vs, e1, n0, h1, r1⟩ := hold.lstAt z
    obtain ⟨ys, x, rfl, hd⟩ := hd
    have hx : (ys ++ [x])[ys.length]? = some x := by simp
    obtain ⟨v, hv, rv⟩ := r1.get hx
    have hlen : vs.length - 1 = ys.length := by rw [r1.length, List.length_append, List.length_singleton]; omega
    refine ⟨_, getD_get e1, .inl ⟨rfl, vs, SqL.of h1⟩, q, vs, v, rfl, rfl, h1, by rw [hlen]; exact hv, ?_⟩
    have hold2 : Holds X.K S H0 pr (setA ρ i (.o (.lst ys))) σ (upd H q (.lst vs.dropLast)) := hold.write z e1 (fun _ y => by cases y) fun tk => ⟨_, upd_same, by
      have r2 := r1.dropLast
      rw [List.dropLast_concat] at r2
      exact r2.mono tk⟩
    exact h x _ _ hd H0 pr σ _ v _ hold2 (rv.mono (tk_lst h1)) fun ρ' σ' hn h' _ _ => l.nx _ _ _ hn h'
  · exact hd.elim

/-! ### errors -/
section
variable {C : Addr} {bmB : List Value} {B newId initId : String}
/-- X() of an own class without __init__ -/
theorem pmk_own0 {x : Str} {p pos : Pos} (F : ExcBaseFacts B newId initId bmB) (q : PySem.W.excIn X.K C bmB newId = true) (gC : X.mg x = some (.ref C)) (kC : PySem.W.keepIn X.K (.ref C) = true) (r : Raises X (.ref C)) (hg : Gl X x)
    (hdb : (x == ("__debug__" : Str)) = false := by decide) : PMk X (.Call (.Name x p) [] [] pos) (fun _ H Q => Q (.ref C) none H) := by
  intro pins s σ H Q I h
  refine wpAny_Call_Name_kw (ld_glob I hg gC ?_ hdb)
  refine PySem.W.callWith_K0 I.kIn kC ?_
  obtain ⟨bm, N, nm, qn, bs, hdct, sn, sub, ab, col, dd, k0, k1, k2, k3, k5, mN, hC, hN, hni, T⟩ := exc_obj I.kIn q
  obtain ⟨h1, g1, d1, t1, os1⟩ := s
  refine wpAny_call_exc_subT F T hC hN hni (fun h' e hm => ?_) (Nat.zero_le _)
  exact mk_of I hm r h (I.hok.gone hm.new)
/-- what is known of an own class of errors -/
structure ExC (K : PySem.W.Frag) (mg : Str → Option Value) (x : Str) (C : Addr) : Prop where
  g : mg x = some (.ref C)
  x : PySem.W.excIn K C [.type "ValueError", .type "Exception", .type "BaseException", .type "object"] "ValueError.__new__" = true
  k : PySem.W.keepIn K (.ref C) = true
  b : PySem.W.subIn K (.ref C) (.type "BaseException") = some true
  t : PySem.W.typeIn K (.ref C) = some (.type "type")
def dRaise (C : Addr) : DS := fun F ρ => F.ex C ρ
theorem sd_raise {x : Str} {p rpos : Pos} (T : ExC K X.mg x C) (hc : X.calm = true) (tk : Takes X W) (hg : Gl X x := by rfl) (hdb : (x == ("__debug__" : Str)) = false := by decide) (hK : X.K = K := by rfl) :
    SD K X S W (.Raise (some (.Call (.Name x p) [] [] pos)) none rpos) (fun _ σ H => W (.ref C) none σ H) (dRaise C) := by
  subst hK
  refine ⟨rfl, ps_raise hc tk (pmk_own0 PySem.F.excBase_ValueError T.x T.g T.k (raises_own T.b T.t) hg hdb), fun ρ F hd H0 pr σ H Dn ho l => ?_⟩
  exact l.ex C ρ σ H hd ho
end

/-! ### promises -/
/-- what a def promises: of the ghost x the arguments, what is asked, what comes back, which class is raised -/
structure Ct where
  α : Type
  args : α → List R
  pre : α → Prop
  post : α → R → Prop
  exc : α → Addr → Prop
def SpOf (K : PySem.W.Frag) (T : List (Addr × Str)) (C : Ct) : Sp := fun vs H Q E => ∃ (S : Sm) (x : C.α), S.tb = T ∧ RepVs K S H vs (C.args x) ∧ StmOk S H ∧ C.pre x ∧ (∀ r v H', C.post x r → Ev S H H' → RepR K S H H' v r → Q v H') ∧ (∀ c H', C.exc x c → Ev S H H' → E (.ref c) none H')
def C.weak : C → C
  | .dk kvs => .kk kvs
  | .ll kvs => .kk kvs
  | c => c
theorem Read.weak {K : PySem.W.Frag} {H : Hp} {q : Addr} {c : C} (h : Read K H q c) : Read K H q c.weak := by
  cases c with
  | lst xs => exact h
  | dk kvs => obtain ⟨ws, e, r⟩ := h; exact ⟨ws, .inl e, r⟩
  | dt kvs => exact h
  | kk kvs => exact h
  | ll kvs => obtain ⟨od, ws, e, r⟩ := h; exact ⟨ws, .inr ⟨od, e⟩, r⟩
def R.nb : R → R
  | .n c => .b c.weak
  | .b c => .b c.weak
  | r => r
theorem RepV.nb {H : Hp} {v : V} {r : R} (h : RepV K S H v r) : RepV K S H v r.nb := by
  cases r with
  | n c => obtain ⟨q, e, n, s⟩ := h; exact ⟨q, e, n, s.read.weak⟩
  | d x => exact h
  | b c => obtain ⟨q, e, n, s⟩ := h; exact ⟨q, e, n, s.weak⟩
  | strm => exact h
theorem RepVs.nb {H : Hp} : ∀ {vs : List V} {rs : List R}, RepVs K S H vs rs → RepVs K S H vs (rs.map R.nb)
  | _, _, .nil => .nil
  | _, _, .cons h t => .cons h.nb (RepVs.nb t)
def dCall (C : Ct) (dl : DA) : DE := fun ρ P E => dl ρ (fun rs => ∃ x : C.α, rs.map R.nb = C.args x ∧ C.pre x ∧ (∀ r, C.post x r → P r) ∧ (∀ c, ¬ C.exc x c)) E
def dCallX (C : Ct) (dl : DA) : DE := fun ρ P E => dl ρ (fun rs => ∃ x : C.α, rs.map R.nb = C.args x ∧ C.pre x ∧ (∀ r, C.post x r → P r) ∧ (∀ c, C.exc x c → E c)) E
/-- f(..), nothing is raised -/
theorem pd_call {C : Ct} {T : List (Addr × Str)} (hS : S.tb = T) {CX : CXT} {k : Nat} {f : Addr} {fd : FuncData} {ps : List Str} {x : Str} {p : Pos} (F : FnOk X.prog X.w X.K X.mg X.base CX k f fd ps (SpOf K T C)) (hr : Room k X.A) (hm : X.mg x = some (.ref f)) (hk : PySem.W.keepIn X.K (.ref f) = true) (hb : Binds X.K fd ps []) (hx : Passes CX X E0)
    (ha : AD K X S W (e :: es) tl dl) (hg : Gl X x := by rfl) (hdb : (x == ("__debug__" : Str)) = false := by decide) (he : starEach (e :: es) X.env = (false, eval e X.env) :: starEach es X.env := by rfl) (hpl : (backTo pos (starEach es X.env)).any (·.1) = false := by rfl) :
    PD K X S W (.Call (.Name x p) (e :: es) [] pos) (tCall (SpOf K T C) [] E0 tl) (dCall C dl) := by
  obtain ⟨hK, pa, h⟩ := ha
  subst hK
  refine ⟨rfl, pe_call F hr hg hm hk hb .nil hx pa hdb he hpl, fun ρ P E hd H0 pr σ H Q ho q w => ?_⟩
  refine h ρ _ E hd H0 pr σ H _ ho (fun rs vs H1 hr e1 rr => ?_) w
  show SpOf X.K T C (vs ++ []) H1 Q E0
  rw [List.append_nil]
  obtain ⟨y, ey, py, hp, hn⟩ := hr
  refine ⟨S, y, hS, by rw [← ey]; exact rr.nb, e1.stm, py, fun r v H' hq e2 r2 => q r v H' (hp r hq) (e1.trans e2) (r2.from e1 ho.stm), fun c H' hc _ => absurd hc (hn c)⟩
/-- f(..) that may raise -/
theorem pd_callX {C : Ct} {T : List (Addr × Str)} (hS : S.tb = T) {k : Nat} {f : Addr} {fd : FuncData} {ps : List Str} {x : Str} {p : Pos} (F : FnOk X.prog X.w X.K X.mg X.base (L2.CX X.prog X.w) k f fd ps (SpOf K T C)) (hr : Room k X.A) (hm : X.mg x = some (.ref f)) (hk : PySem.W.keepIn X.K (.ref f) = true) (hb : Binds X.K fd ps []) (tk : Takes X W)
    (ha : AD K X S W (e :: es) tl dl) (hg : Gl X x := by rfl) (hdb : (x == ("__debug__" : Str)) = false := by decide) (he : starEach (e :: es) X.env = (false, eval e X.env) :: starEach es X.env := by rfl) (hpl : (backTo pos (starEach es X.env)).any (·.1) = false := by rfl) :
    PD K X S W (.Call (.Name x p) (e :: es) [] pos) (tCallS (SpOf K T C) (WE W) tl) (dCallX C dl) := by
  obtain ⟨hK, pa, h⟩ := ha
  subst hK
  refine ⟨rfl, pe_callS F hr hg hm hk hb (fun σ => passAt tk σ) pa hdb he hpl, fun ρ P E hd H0 pr σ H Q ho q w => ?_⟩
  refine h ρ _ E hd H0 pr σ H _ ho (fun rs vs H1 hr e1 rr => ?_) w
  obtain ⟨y, ey, py, hp, hn⟩ := hr
  exact ⟨S, y, hS, by rw [← ey]; exact rr.nb, e1.stm, py, fun r v H' hq e2 r2 => q r v H' (hp r hq) (e1.trans e2) (r2.from e1 ho.stm), fun c H' hc e2 => w c H' (hn c hc) (e1.trans e2)⟩

/-! ### a def keeps its promise -/
def argA : R → A
  | .d x => .d x
  | .n c => .b c
  | .b c => .b c
  | .strm => .strm
def anys : Nat → List A
  | 0 => []
  | n + 1 => .any :: anys n
def slots (rs : List R) (n : Nat) : List A := rs.map argA ++ anys (n - rs.length)
theorem nth_anys : ∀ (n i : Nat), nth (anys n) i = .any
  | 0, _ => rfl
  | _ + 1, 0 => rfl
  | n + 1, i + 1 => nth_anys n i
theorem nth_append_right : ∀ (ρ τ : List A) (i : Nat), ρ.length ≤ i → nth (ρ ++ τ) i = nth τ (i - ρ.length)
  | [], _, _, _ => rfl
  | _ :: _, _, 0, h => absurd h (Nat.not_succ_le_zero _)
  | _ :: r, τ, i + 1, h => by
    show nth (r ++ τ) i = nth τ (i + 1 - (r.length + 1))
    rw [nth_append_right r τ i (Nat.le_of_succ_le_succ h)]
    congr 1
    omega
theorem nth_map : ∀ (rs : List R) (i : Nat), nth (rs.map argA) i = match rs[i]? with | some r => argA r | none => .any
  | [], _ => rfl
  | _ :: _, 0 => rfl
  | _ :: r, i + 1 => nth_map r i
theorem RepVs.at {H : Hp} : ∀ {vs : List V} {rs : List R} {i : Nat} {r : R}, RepVs K S H vs rs → rs[i]? = some r → ∃ v, vs[i]? = some v ∧ RepV K S H v r
  | _, _, _, _, .nil, e => by simp at e
  | _, _, 0, _, .cons h _, e => by simp at e; subst e; exact ⟨_, rfl, h⟩
  | _, _, i + 1, r, .cons _ t, e => by
    obtain ⟨v, h1, h2⟩ := RepVs.at (i := i) (r := r) t (by simpa using e)
    exact ⟨v, by simpa using h1, h2⟩
theorem anys_length : ∀ n, (anys n).length = n
  | 0 => rfl
  | n + 1 => congrArg (· + 1) (anys_length n)
theorem holds_start {H : Hp} {vs : List V} {rs : List R} {N : List Str} (st : StmOk S H) (h : RepVs K S H vs rs) (hl : rs.length ≤ N.length) : Holds K S H Pr.none (slots rs N.length) (L2.start N vs) H := by
  have hv := h.length
  have own : ∀ i, (nth (slots rs N.length) i).held = false := fun i => by
    unfold slots
    by_cases hi : i < rs.length
    · rw [nth_append_left _ _ _ (by simpa using hi), nth_map, List.getElem?_eq_getElem hi]
      cases rs[i] <;> rfl
    · rw [nth_append_right _ _ _ (by simpa using hi), nth_anys]
      rfl
  refine ⟨Ev.refl st, st, ?_, fun i => ?_, fun i j q o1 => ?_, fun q o z => z.elim, fun i q o1 _ o z => z, fun v d z => z.elim⟩
  · unfold L2.start slots
    rw [List.length_append, List.length_append, List.length_map, List.length_map, List.length_replicate, anys_length, hv]
  · unfold slots
    by_cases hi : i < rs.length
    · rw [nth_append_left _ _ _ (by simpa using hi), nth_map, List.getElem?_eq_getElem hi]
      obtain ⟨v, e1, rv⟩ := h.at (List.getElem?_eq_getElem hi)
      have e2 : (L2.start N vs).getD i none = some v := by
        unfold L2.start
        rw [List.getD_eq_getElem?_getD, List.getElem?_append_left (by rw [List.length_map]; omega), List.getElem?_map, e1]
        rfl
      show SlotOk K S H H (argA rs[i]) ((L2.start N vs).getD i none)
      rw [e2]
      cases z : rs[i] with
      | d x => rw [z] at rv; exact ⟨v, rfl, rv⟩
      | n c => rw [z] at rv; obtain ⟨q, rfl, n, s⟩ := rv; exact ⟨q, rfl, n, s.read⟩
      | b c => rw [z] at rv; obtain ⟨q, rfl, n, s⟩ := rv; exact ⟨q, rfl, n, s⟩
      | strm => rw [z] at rv; obtain ⟨a, c, e, rfl⟩ := rv; exact ⟨a, c, e, rfl⟩
    · rw [nth_append_right _ _ _ (by simpa using hi), nth_anys]
      trivial
  · have := own_held o1
    rw [own i] at this
    cases this
def endsOf (P : R → Prop) (E : RX) : AE := { nx := fun _ => P (.d .non), rt := P, bk := fun _ => False, ct := fun _ => False, ex := fun c _ => E c }
end
section
variable {P : Program} {w : World} {K : PySem.W.Frag} {mg : Str → Option Value} {base : Heap}
/-- a def that raises nothing -/
theorem fn_ok {x qual : Str} {st : Stmt} {f : Addr} {fd : FuncData} {N ps : List Str} {k : Nat} (F : Fun K x qual st f fd) (Sc : FnScope N ps (defScope st)) (T : List (Addr × Str)) (C : Ct) (len : ∀ y : C.α, (C.args y).length = ps.length)
    (hbody : ∀ (cdv : Value) (A : Around) (outer : List Env) (s : Shared) (H : Hp) (E : XK) (S : Sm), S.tb = T → Room k (A.deeper (envOfC qual (defScope st) s.heap.objs.size f cdv)) →
      ∃ t ds, SsD K (cxOf CX0 P w K mg base N qual (defScope st) f cdv A outer s H E).nox S W0 (defBody st) t ds ∧ ∀ y : C.α, C.pre y → ds (endsOf (C.post y) noE) (slots (C.args y) N.length)) :
    FnOk P w K mg base CX0 (k + 1) f fd ps (SpOf K T C) := by
  have hps : ps.length ≤ N.length := by
    have := congrArg List.length Sc.pre
    rw [List.length_take] at this
    omega
  refine F.ok Sc (fun vs H Q E h => ?_) (fun cdv A outer s H vs Q E hr h => ?_)
  · obtain ⟨S, y, _, r, _⟩ := h
    rw [r.length, len y]
  · obtain ⟨S, y, hS, r, st, py, hp, _⟩ := h
    obtain ⟨t, ds, ⟨_, pss, hd⟩, hread⟩ := hbody cdv A outer s H E S hS hr
    refine ⟨t, pss, hd _ _ (hread y py) H Pr.none _ H _ (holds_start st r (by rw [len y]; exact hps)) ⟨fun ρ σ H' hn ho => ?_, fun ρ σ H' hn ho => hn.elim, fun ρ σ H' hn ho => hn.elim, fun r v H' hq e rr => hp r v H' hq e rr, fun C ρ σ H' hn ho => hn⟩⟩
    exact hp _ _ _ hn ho.ev .non
/-- a def that may raise -/
theorem fn_okX {x qual : Str} {st : Stmt} {f : Addr} {fd : FuncData} {N ps : List Str} {k : Nat} (F : Fun K x qual st f fd) (Sc : FnScope N ps (defScope st)) (T : List (Addr × Str)) (C : Ct) (len : ∀ y : C.α, (C.args y).length = ps.length)
    (hbody : ∀ (cdv : Value) (A : Around) (outer : List Env) (s : Shared) (H : Hp) (E : XK) (S : Sm), S.tb = T → Room k (A.deeper (envOfC qual (defScope st) s.heap.objs.size f cdv)) →
      ∃ t ds, SsD K (cxOf (L2.CX P w) P w K mg base N qual (defScope st) f cdv A outer s H E) S (fun cls d _ H => E cls d H) (defBody st) t ds ∧ ∀ y : C.α, C.pre y → ds (endsOf (C.post y) (C.exc y)) (slots (C.args y) N.length)) :
    FnOk P w K mg base (L2.CX P w) (k + 1) f fd ps (SpOf K T C) := by
  have hps : ps.length ≤ N.length := by
    have := congrArg List.length Sc.pre
    rw [List.length_take] at this
    omega
  refine F.okX Sc (fun vs H Q E h => ?_) (fun cdv A outer s H vs Q E hr h => ?_)
  · obtain ⟨S, y, _, r, _⟩ := h
    rw [r.length, len y]
  · obtain ⟨S, y, hS, r, st, py, hp, he⟩ := h
    obtain ⟨t, ds, ⟨_, pss, hd⟩, hread⟩ := hbody cdv A outer s H E S hS hr
    refine ⟨t, pss, hd _ _ (hread y py) H Pr.none _ H _ (holds_start st r (by rw [len y]; exact hps)) ⟨fun ρ σ H' hn ho => ?_, fun ρ σ H' hn ho => hn.elim, fun ρ σ H' hn ho => hn.elim, fun r v H' hq e rr => hp r v H' hq e rr, fun c ρ σ H' hn ho => he c H' hn ho.ev⟩⟩
    exact hp _ _ _ hn ho.ev .non
end

/-! ### try: .. except X: .. -/
section
variable {K : PySem.W.Frag} {X : Cx} {S : Sm} {W : WX} {pos pos' np : Pos} {body suite : List Stmt} {b₀ : Stmt} {x : Str} {C : Addr} {tb : WX → TS} {ts : TS} {d1 d2 : DS}
def dTry (K : PySem.W.Frag) (C : Addr) (d1 d2 : DS) : DS := fun F ρ => d1 { F with ex := fun c ρ' => ∃ b, PySem.W.exmOne K (.ref c) (.ref C) = some b ∧ (b = true → d2 F ρ') ∧ (b = false → F.ex c ρ') } ρ
theorem sd_try (hs : X.stack = X.env :: X.outer) (hf : X.env.frame = some X.env.locals) (hc : Names X x (.ref C)) (tk : Takes X W)
    (hb : ∀ (W' : WX) (pn : List (Addr × Obj)) (xe : Value → Shared → Prop), Takes (X.tr pn xe) W' → PassesOwn (model X.prog X.w) X.A X.env xe → SsD K (X.tr pn xe) S W' body (tb W') d1)
    (hsu : ∀ (a : Addr) (oe : Obj) (cls : Value) (d : Option Addr) (pn : List (Addr × Obj)), Zc cls d oe → (∃ vs, oe.data = .fields vs) → SsD K (X.suite a ((a, oe) :: pn)) S W (b₀ :: suite) ts d2) (hK : X.K = K := by rfl) :
    SD K X S W (.Try body [.ExceptHandler (some (.Name x np)) none (b₀ :: suite) pos'] [] [] pos) (fun Dn σ H => tb (wOnly X.K (.ref C) (fun _ _ _ => ts) W Dn) Dn σ H) (dTry K C d1 d2) := by
  subst hK
  refine ⟨rfl, ps_try_only (tb := tb) (ts := fun _ _ _ => ts) hs hf hc tk (fun W' pn xe t h => (hb W' pn xe t h).2.1) (fun a oe cls d pn z h => (hsu a oe cls d pn z h).2.1), fun ρ F hd H0 pr σ H Dn ho l => ?_⟩
  -- the suite's reading, from any of its contexts
  have hsd : ∀ ρ F, d2 F ρ → Tr X.K S W ts ρ F := by
    have z := hsu 0 { cls := .none, data := .fields #[] } .none none [] ⟨rfl, rfl⟩ ⟨_, rfl⟩
    exact z.2.2
  have hbd : ∀ W', (∀ ρ F, d1 F ρ → Tr X.K S W' (tb W') ρ F) := by
    intro W'
    have z := hb W' [] (fun e s₁ => wpAny (model X.prog X.w) X.A (noteFrame e X.env) (fun _ s₂ => wpAny (model X.prog X.w) X.A (setFlight e none) (fun _ _ => True) X.xe s₂) X.xe s₁) (fun u s' xx => ?_) PassesOwn.looking
    · exact z.2.2
    · obtain ⟨a, B, sI, pins', σ', H', cls, d, rfl, J', nb, up, sky, na, os, ag, w⟩ := xx
      have hfr : X.A.frames = some (X.env :: X.outer) := by
        have := J'.ok.frames
        rw [show (X.tr [] _).stack = X.stack from rfl, hs] at this
        exact this
      have sky' : Sky B (X.env :: X.outer) a (Zc cls d) X.env.locals s'.heap := by rw [← hs]; exact sky
      exact Sky.land Zc.steady hfr hf sky' fun _ _ _ => trivial
  exact hbd _ ρ _ hd H0 pr σ H Dn ho ⟨l.nx, l.bk, l.ct, l.rt, fun c ρ' σ' H' hx h' => by
    obtain ⟨b, eb, h1, h2⟩ := hx
    exact ⟨b, eb, fun hb a na => hsd ρ' F (h1 hb) H0 pr σ' H' Dn h' l, fun hb => l.ex c ρ' σ' H' (h2 hb) h'⟩⟩
end
end PL

namespace PL
open PySem PySem.Spec PyProof.Rows L2
/-! ### targets of an assignment -/
section
variable {K : PySem.W.Frag} {X : Cx} {S : Sm} {W : WX} {e : Expr} {es : List Expr} {te : TE} {tl : TA} {de : DE} {dl : DA} {pos : Pos} {tg : Expr} {g : TG} {js : List Nat} {dg : DG}
def dUnp (de : DE) (dg : DG) : DS := fun F ρ => de ρ (fun r => match r with | .d x => dg x ρ F.nx | _ => False) (fun C => F.ex C ρ)
theorem sd_unp (he : PD K X S W e te de) (hg : GD K X S tg g js dg) (hs : swapsWithSole [tg] e pos.line X.env = pure false := by rfl) (hw : swappedStores [tg] e X.env = pure none := by rfl) (h1 : (assignEach [tg] X.env).map (·.2) = [assign tg X.env] := by rfl) :
    SD K X S W (.Assign [tg] e pos) (tAsg te g) (dUnp de dg) := by
  obtain ⟨hK, p, h⟩ := he
  obtain ⟨_, pg, hg⟩ := hg
  refine ⟨hK, ps_asg p pg hs hw h1, fun ρ F hd H0 pr σ H Dn ho l => ?_⟩
  refine h ρ _ _ hd H0 pr σ H _ ho (fun r v H1 hr e1 rr => ?_) (l.wish ho)
  cases r with
  | d x => exact hg x ρ _ hr H0 pr σ H1 v _ (ho.step e1) rr fun ρ' σ' hn h' _ _ => l.nx _ _ _ hn h'
  | n c => exact hr.elim
  | b c => exact hr.elim
  | strm => exact hr.elim
end
/-! ### defs by name -/
section
variable {P : Program} {w : World} {K : PySem.W.Frag} {T : List (Addr × Str)} {mg : Str → Option Value} {base : Heap}
/-- the top's def x -/
def DefOf (K : PySem.W.Frag) (mg : Str → Option Value) (x : Str) (st : Stmt) (ps : List Str) : Prop := ∃ (f : Addr) (fd : FuncData), Fun K x x st f fd ∧ mg x = some (.ref f) ∧ Binds K fd ps []
/-- the def x keeps C, at level k -/
def Cal (P : Program) (w : World) (K : PySem.W.Frag) (T : List (Addr × Str)) (mg : Str → Option Value) (base : Heap) (CX : CXT) (k : Nat) (x : Str) (ps : List Str) (C : Ct) : Prop :=
  ∃ (f : Addr) (fd : FuncData), FnOk P w K mg base CX k f fd ps (SpOf K T C) ∧ mg x = some (.ref f) ∧ PySem.W.keepIn K (.ref f) = true ∧ Binds K fd ps []
theorem Cal.mono {CX : CXT} {j k : Nat} {x : Str} {ps : List Str} {C : Ct} (h : Cal P w K T mg base CX j x ps C) (l : j ≤ k) : Cal P w K T mg base CX k x ps C := by
  obtain ⟨f, fd, F, r⟩ := h
  exact ⟨f, fd, F.mono l, r⟩
theorem SpOf.imp {C C' : Ct} (h : ∀ y' : C'.α, C'.pre y' → ∃ y : C.α, C.args y = C'.args y' ∧ C.pre y ∧ (∀ r, C.post y r → C'.post y' r) ∧ ∀ c, C.exc y c → C'.exc y' c) : ∀ vs H Q E, SpOf K T C' vs H Q E → SpOf K T C vs H Q E := by
  intro vs H Q E ⟨S, y', hS, r, st, py, hp, he⟩
  obtain ⟨y, ea, pr, hq, hx⟩ := h y' py
  exact ⟨S, y, hS, by rw [ea]; exact r, st, pr, fun r v H' h1 => hp r v H' (hq r h1), fun c H' h1 => he c H' (hx c h1)⟩
theorem Cal.imp {CX : CXT} {k : Nat} {x : Str} {ps : List Str} {C C' : Ct} (h : Cal P w K T mg base CX k x ps C) (i : ∀ y' : C'.α, C'.pre y' → ∃ y : C.α, C.args y = C'.args y' ∧ C.pre y ∧ (∀ r, C.post y r → C'.post y' r) ∧ ∀ c, C.exc y c → C'.exc y' c) :
    Cal P w K T mg base CX k x ps C' := by
  obtain ⟨f, fd, F, r⟩ := h
  exact ⟨f, fd, F.imp (SpOf.imp i), r⟩
theorem cal_ok {x : Str} {st : Stmt} {N ps : List Str} {k : Nat} (D : DefOf K mg x st ps) (Sc : FnScope N ps (defScope st)) (C : Ct) (len : ∀ y : C.α, (C.args y).length = ps.length)
    (hbody : ∀ (cdv : Value) (f : Addr) (A : Around) (outer : List Env) (s : Shared) (H : Hp) (E : XK) (S : Sm), S.tb = T → Room k (A.deeper (envOfC x (defScope st) s.heap.objs.size f cdv)) →
      ∃ t ds, SsD K (cxOf CX0 P w K mg base N x (defScope st) f cdv A outer s H E).nox S W0 (defBody st) t ds ∧ ∀ y : C.α, C.pre y → ds (endsOf (C.post y) noE) (slots (C.args y) N.length)) :
    Cal P w K T mg base CX0 (k + 1) x ps C := by
  obtain ⟨f, fd, F, g, b⟩ := D
  exact ⟨f, fd, fn_ok F Sc T C len (fun cdv A outer s H E S hS hr => hbody cdv f A outer s H E S hS hr), g, F.kp, b⟩
theorem cal_okX {x : Str} {st : Stmt} {N ps : List Str} {k : Nat} (D : DefOf K mg x st ps) (Sc : FnScope N ps (defScope st)) (C : Ct) (len : ∀ y : C.α, (C.args y).length = ps.length)
    (hbody : ∀ (cdv : Value) (f : Addr) (A : Around) (outer : List Env) (s : Shared) (H : Hp) (E : XK) (S : Sm), S.tb = T → Room k (A.deeper (envOfC x (defScope st) s.heap.objs.size f cdv)) →
      ∃ t ds, SsD K (cxOf (L2.CX P w) P w K mg base N x (defScope st) f cdv A outer s H E) S (fun cls d _ H => E cls d H) (defBody st) t ds ∧ ∀ y : C.α, C.pre y → ds (endsOf (C.post y) (C.exc y)) (slots (C.args y) N.length)) :
    Cal P w K T mg base (L2.CX P w) (k + 1) x ps C := by
  obtain ⟨f, fd, F, g, b⟩ := D
  exact ⟨f, fd, fn_okX F Sc T C len (fun cdv A outer s H E S hS hr => hbody cdv f A outer s H E S hS hr), g, F.kp, b⟩
end
section
variable {K : PySem.W.Frag} {X : Cx} {S : Sm} {W : WX} {e : Expr} {es : List Expr} {tl : TA} {dl : DA} {pos : Pos}
theorem pd_cal {C : Ct} {T : List (Addr × Str)} {k : Nat} {ps : List Str} {x : Str} {p : Pos} (G : Cal X.prog X.w X.K T X.mg X.base CX0 k x ps C) (hS : S.tb = T) (hr : Room k X.A) (ha : AD K X S W (e :: es) tl dl) (hg : Gl X x := by rfl) (hdb : (x == ("__debug__" : Str)) = false := by decide) (he : starEach (e :: es) X.env = (false, eval e X.env) :: starEach es X.env := by rfl) (hpl : (backTo pos (starEach es X.env)).any (·.1) = false := by rfl) :
    PD K X S W (.Call (.Name x p) (e :: es) [] pos) (tCall (SpOf K T C) [] E0 tl) (dCall C dl) := by
  have hK := ha.1
  subst hK
  obtain ⟨f, fd, F, g, kp, b⟩ := G
  exact pd_call hS F hr g kp b pass0 ha hg hdb he hpl
theorem pd_calX {C : Ct} {T : List (Addr × Str)} {k : Nat} {ps : List Str} {x : Str} {p : Pos} (G : Cal X.prog X.w X.K T X.mg X.base (L2.CX X.prog X.w) k x ps C) (hS : S.tb = T) (hr : Room k X.A) (tk : Takes X W) (ha : AD K X S W (e :: es) tl dl) (hg : Gl X x := by rfl) (hdb : (x == ("__debug__" : Str)) = false := by decide) (he : starEach (e :: es) X.env = (false, eval e X.env) :: starEach es X.env := by rfl) (hpl : (backTo pos (starEach es X.env)).any (·.1) = false := by rfl) :
    PD K X S W (.Call (.Name x p) (e :: es) [] pos) (tCallS (SpOf K T C) (WE W) tl) (dCallX C dl) := by
  have hK := ha.1
  subst hK
  obtain ⟨f, fd, F, g, kp, b⟩ := G
  exact pd_callX hS F hr g kp b tk ha hg hdb he hpl
end
end PL

namespace PL
open PySem PySem.Spec PyProof.Rows L2
/-! ### {k: v for ..}, the keys tuples of ints and texts -/
/-- d[k] = v by a comprehension, k such a tuple -/
theorem d_dictSetT {X : Cx} {pins : List (Addr × Obj)} {σ : L2.St} {H : Hp} {s : Shared} {E : Value → Shared → Prop} {D b : Addr} {kvs : List (List Key × V)} {k : List Key} {v : V} {r : Value} {Q : Unit → Shared → Prop} (hu : X.A.units + 1 < cLine) (I : Inv X pins σ H s) (hD : H D = some (.dT kvs)) (hz : kvs.length < sizeLine)
    (eb : H b = some (.tup (k.map kV))) (rv : RelV v r) (h : ∀ s', Inv X pins σ (upd H D (.dT (putK kvs k v))) s' → Q () s') : wpAny (model X.prog X.w) X.A (dictSet D (.ref b) r) Q E s := by
  obtain ⟨z, hd, xs, rel, dd⟩ := dt_of I.hok hD
  have hzx : xs.length ≤ sizeLine := by rw [← Paired.length rel]; exact z
  have hl : (putK kvs k v).length ≤ sizeLine := by have := length_putK kvs k v; omega
  refine wpAny_dictSet_heap (hsz := hzx) (show X.A.units < cLine from Nat.lt_of_succ_lt hu) (key_of I.hok eb) dd fun h' dd' hs => h _ ?_
  obtain ⟨q, es, ep, hq, h2, h3, h4, _, h5⟩ := dd'
  refine d_write I (by rw [hD]; exact True.intro) hs ⟨q, hq⟩ ⟨hl, hd, _, (rel.put k eb rv).keeps fun c ys ec => ?_, q, es, ep, hq, h2, h3, h4, h5⟩
  rw [upd_ne (ne_of ec hD (fun z => nomatch z))]
  exact ec
section
variable {X : Cx}
/-- D: the new dict -/
def tDcT (wi : TI) (g : TG) (tt : TT) (tk tv : TE) (vs : List Nat) : TE := fun σ H Q => wi σ H fun J H1 => ∀ D, H1 D = none → ∃ W : Nat → Nat → Hp → Prop, (∃ m, W 0 m (upd H1 D (.dT []))) ∧ ∀ i m H, W i m H →
  (J.stop i H ∧ Q (.ref D) H) ∨ (J.go i H ∧ ∃ Nx : Hp → Prop, (∀ H', Nx H' → ∃ m', m' < m ∧ W (i + 1) m' H') ∧ ∀ x H', J.yld i H x H' → g x (wipe σ vs) H' fun σ2 H2 => wipe σ2 vs = wipe σ vs ∧ tt σ2 H2 fun b H3 =>
    if b = true then tk σ2 H3 fun y H4 => tv σ2 H4 fun z H5 => ∃ kvs k c, y = .ref c ∧ H5 c = some (.tup (k.map kV)) ∧ H5 D = some (.dT kvs) ∧ kvs.length < sizeLine ∧ Nx (upd H5 D (.dT (putK kvs k z))) else Nx H3)
/-- the block of such a comprehension, run through -/
theorem dcT_core {pins : List (Addr × Obj)} {s : Shared} {σ : L2.St} {H : Hp} {Q : VK} {kx vx tg iter : Expr} {ifs : List Expr} {scope : Scope} {own : List (Str × Nat)} {pos pos' : Pos} {wi : TI} {g : TG} {tt : TT} {tk tv : TE} {use : Option (Value → Sem Unit)} {Qf : Value → Shared → Prop}
    (hu : X.A.units + 1 < cLine) (hc : X.calm = true) (hN : X.N.Nodup) (I : Inv X pins σ H s) (hi : PI X tg iter wi) (ok : BlkOk X.N X.env.scope scope own)
    (hg : ∀ (s : Shared) (H : Hp) (C : Addr) (cl : List (Str × Addr)) (fp : List Addr), PG (X.blk s H scope (compEnvC scope cl C X.env) fp) tg g) (ht : ∀ (s : Shared) (H : Hp) (C : Addr) (cl : List (Str × Addr)) (fp : List Addr), PTs (X.blk s H scope (compEnvC scope cl C X.env) fp) ifs tt)
    (hk : ∀ (s : Shared) (H : Hp) (C : Addr) (cl : List (Str × Addr)) (fp : List Addr), PE (X.blk s H scope (compEnvC scope cl C X.env) fp) kx tk)
    (he : ∀ (s : Shared) (H : Hp) (C : Addr) (cl : List (Str × Addr)) (fp : List Addr), PE (X.blk s H scope (compEnvC scope cl C X.env) fp) vx tv) (hs : ∀ x, foldedSetIterable iter X.env x = pure x)
    (h : tDcT wi g tt tk tv (own.map (·.2)) σ H Q)
    (hRR : ∀ D C s' m H', Inv X pins σ H' s' → Q (.ref D) H' → s'.heap.Ns C m → FpOk X pins H' C → compPost (model X.prog X.w) X.A X.xe use Qf (.ref D) C (.ok .next) s') :
    wpAny (model X.prog X.w) X.A (comprehension (.DictComp kx vx [⟨tg, iter, ifs, 0⟩] scope pos) scope X.env pos' newDict false (eval iter X.env) use) Qf X.xe s := by
  have free : ∀ y ∈ scope.names, y.2 = .free → ∃ c, X.env.cells.lookup y.1 = some c := fun y hy e => (ok.free y hy e).elim (fun k => I.ok.has _ (.inl k)) fun k => I.ok.has _ (.inr k)
  refine wpAny_comprehension_free (use := use) rfl hs (closure_ok free) ok.kind (fun y hy e => by rw [ok.uniq y hy, e]) (thn (hi.run pins s σ H _ I h) fun xv s1 hx => thn hx fun itv s2 h2 => ?_)
  obtain ⟨it, fp, tn, J, H2, rfl, I2, T, st2, f2, q⟩ := h2
  refine wpAny_newObj_type (newEnv_comp ?_)
  -- the new dict
  have hDn : H2 s2.heap.objs.size = none := I2.hok.fresh (Nat.le_refl _)
  obtain ⟨W, ⟨m0, w0⟩, turn⟩ := q _ hDn
  have I3 : Inv X pins σ (upd H2 s2.heap.objs.size (.dT [])) { s2 with heap := s2.heap.push { cls := .type "dict", data := .dict #[] } } :=
    I2.laid (t' := s2.toks) (fun b o e => Heap.get?_push_of_some _ e) (Nat.le_refl _) (dt_empty s2.heap I2.big)
  have sz : ∀ b ∈ fp, b < s2.heap.objs.size := fun b hb => let ⟨_, e, _⟩ := T.obj _ _ st2 b hb; Heap.lt_size e
  generalize hD : s2.heap.objs.size = D at hDn w0 turn I3 sz
  generalize hs3 : ({ s2 with heap := s2.heap.push { cls := .type "dict", data := .dict #[] } } : Shared) = s3 at I3
  have h3 : s3.heap = s2.heap.push { cls := .type "dict", data := .dict #[] } := by rw [← hs3]
  have f3 : ∀ b ∈ fp, FpOk X pins (upd H2 D (.dT [])) b ∧ b < s3.heap.objs.size := fun b hb =>
    ⟨⟨by rw [upd_ne (Nat.ne_of_lt (sz b hb))]; exact (f2 b hb).1, (f2 b hb).2⟩, by rw [h3, Heap.size_push, hD]; exact Nat.lt_succ_of_lt (sz b hb)⟩
  have st3 : tn 0 s3.heap := T.keep _ _ _ st2 fun b _ o e => by rw [h3]; exact Heap.get?_push_of_some _ e
  have I4 := block_start I3 ok hN f3
  show codeAny _ _ (.compStart (.DictComp kx vx [⟨tg, iter, ifs, 0⟩] scope pos) 0 (.ref it) (.ref D) (compEnvC scope (cellsFrom (s3.heap.objs.size + 1) scope.names (cloFrom X.env.cells scope.names [])) s3.heap.objs.size X.env)) (compPost (model X.prog X.w) X.A X.xe use Qf (.ref D) s3.heap.objs.size) { s3 with heap := pushCells (s3.heap.push { cls := .type "dict", data := .dict #[] }) scope.names }
  have pg := hg s3 (upd H2 D (.dT [])) s3.heap.objs.size (cellsFrom (s3.heap.objs.size + 1) scope.names (cloFrom X.env.cells scope.names [])) fp
  have pt := ht s3 (upd H2 D (.dT [])) s3.heap.objs.size (cellsFrom (s3.heap.objs.size + 1) scope.names (cloFrom X.env.cells scope.names [])) fp
  have pk := hk s3 (upd H2 D (.dT [])) s3.heap.objs.size (cellsFrom (s3.heap.objs.size + 1) scope.names (cloFrom X.env.cells scope.names [])) fp
  have pe := he s3 (upd H2 D (.dT [])) s3.heap.objs.size (cellsFrom (s3.heap.objs.size + 1) scope.names (cloFrom X.env.cells scope.names [])) fp
  generalize hce : compEnvC scope (cellsFrom (s3.heap.objs.size + 1) scope.names (cloFrom X.env.cells scope.names [])) s3.heap.objs.size X.env = ce at I4 pg pt pk pe ⊢
  have cL : ce.locals = s3.heap.objs.size := by subst hce; rfl
  have nfp : ∀ b ∈ fp, (upd H2 D (.dT [])) b = none := fun b hb => (f3 b hb).1.1
  generalize hH3 : upd H2 D (.dT []) = H3 at I3 I4 pg pt pk pe w0 nfp f3
  generalize hs4 : ({ s3 with heap := pushCells (s3.heap.push { cls := .type "dict", data := .dict #[] }) scope.names } : Shared) = s4 at I4 ⊢
  have st4 : tn 0 s4.heap := T.keep _ _ _ st3 fun b _ o e => by rw [← hs4]; exact pushCells_keeps _ _ _ _ (Heap.get?_push_of_some _ e)
  have stat : ∀ {σ' : L2.St} {H' : Hp} {s' : Shared}, Inv (X.blk s3 H3 scope ce fp) [] σ' H' s' → (∀ b ∈ fp, H' b = none) → ∀ b ∈ fp, FpOk (X.blk s3 H3 scope ce fp) [] H' b := fun {σ' H' s'} I' hn b hb =>
    ⟨hn b hb, (I'.ok.exf b hb).1, I'.ok.exfs b hb, .inl hb, fun x c e => (I'.ok.exf b hb).2 x c e, fun p hp => absurd (show p ∈ ([] : List (Addr × Obj)) ++ [] from hp) (by simp)⟩
  have loop : codeAny (model X.prog X.w) X.A (.compLoop (.DictComp kx vx [⟨tg, iter, ifs, 0⟩] scope pos) 0 (.ref it) (.ref D) ce) (compPost (model X.prog X.w) X.A X.xe use Qf (.ref D) s3.heap.objs.size) s4 := by
    refine compLoop_anyD (fun n s' => ∃ i H', Inv (X.blk s3 H3 scope ce fp) [] (wipe σ (own.map (·.2))) H' s' ∧ tn i s'.heap ∧ (∀ b ∈ fp, H' b = none) ∧ W i n H') ?_ m0 ⟨0, H3, I4, st4, nfp, w0⟩
    rintro n s5 ⟨i, H5, I5, st5, n5, w5⟩
    rcases turn i n H5 w5 with ⟨stop, qq⟩ | ⟨go, Nx, hNx, step⟩
    · refine thnF (T.done (X.blk s3 H3 scope ce fp) rfl rfl rfl hc i [] s5 _ H5 (fun _ _ => False) I5 (stat I5 n5) st5 stop) fun r s6 ⟨hr, I6⟩ => ?_
      subst hr
      have I7 : Inv X pins σ H5 s6 := I3.call' (ch := fp) I6.os I6.base I6.hok I6.bare fun b hb => ⟨(f3 b hb).1.2.2.2.1, (f3 b hb).1.2.1, (f3 b hb).1.2.2.2.2.1, (f3 b hb).1.2.2.2.2.2⟩
      have nC : H5 s3.heap.objs.size = none := by rw [← cL]; exact I6.free
      obtain ⟨m, hn, _⟩ := I6.loc
      have hn : s6.heap.Ns ce.locals m := hn
      rw [cL] at hn
      exact hRR D s3.heap.objs.size s6 m H5 I7 qq hn (I3.fpOk (Nat.le_refl _) nC)
    · refine thnF (T.item (X.blk s3 H3 scope ce fp) rfl rfl rfl hc i [] s5 _ H5 (fun _ _ => False) I5 (stat I5 n5) st5 go) fun r s6 ⟨u, hr, h6⟩ => ?_
      subst hr
      refine thnF h6 fun _ s7 ⟨x, H7, I7, r7, y7, st7, n7⟩ => ?_
      refine thnF (pg.run _ s7 _ H7 x u _ (I7.pinned (stat I7 n7) (T.obj _ _ st7)) r7 (step x H7 y7)) fun _ s8 ⟨σ8, H8, I8, hw8, q8⟩ => ?_
      refine thnF (pt.run _ s8 σ8 H8 _ I8 q8) fun b s9 ⟨H9, I9, q9⟩ => ?_
      -- the turn's end
      have fin : ∀ {s' : Shared} {H' : Hp}, Inv (X.blk s3 H3 scope ce fp) ([] ++ pinsAt fp s7.heap) σ8 H' s' → Nx H' → ∃ m, m < n ∧ ∃ i H', Inv (X.blk s3 H3 scope ce fp) [] (wipe σ (own.map (·.2))) H' s' ∧ tn i s'.heap ∧ (∀ b ∈ fp, H' b = none) ∧ W i m H' := fun {s' H'} I' nx => by
        obtain ⟨m', hm, w'⟩ := hNx H' nx
        have pin' : ∀ b ∈ fp, ∀ o, s7.heap.get? b = some o → s'.heap.get? b = some o ∧ H' b = none := fun b hb o e =>
          let z := I'.pin (b, o) (List.mem_append_right _ (List.mem_append_right _ (mem_pinsAt hb e))); ⟨z.1, z.2.1⟩
        refine ⟨m', hm, i + 1, H', (I'.unpinned (pins := [])).weak (by rw [← hw8, wipe_length]) (fun j v e => by rw [← hw8] at e; exact (wipe_some e).1), T.keep _ _ _ st7 fun b hb o e => (pin' b hb o e).1, fun b hb => ?_, w'⟩
        obtain ⟨o, e, _⟩ := T.obj _ _ st7 b hb
        exact (pin' b hb o e).2
      cases b with
      | false =>
        simp only [Bool.false_eq_true, if_false] at q9 ⊢
        exact fin I9 q9
      | true =>
        simp only [if_true] at q9 ⊢
        refine thnF (pk.run _ s9 σ8 H9 _ I9 q9) fun z s10 ⟨yk, H10, I10, r10, q10⟩ => ?_
        refine thnF (pe.run _ s10 σ8 H10 _ I10 q10) fun z2 s11 ⟨yv, H11, I11, r11, kvs, k, c, ek, ec, hD11, hz11, nx⟩ => ?_
        subst ek
        obtain rfl : z = Value.ref c := r10
        exact d_dictSetT (X := X.blk s3 H3 scope ce fp) hu I11 hD11 hz11 ec r11 fun s12 I12 => fin I12 nx
  exact codeAny_compStart_dict loop (T.self X.A 0 _ _ _ st4 loop)
theorem pe_dcT {kx vx tg iter : Expr} {ifs : List Expr} {scope : Scope} {own : List (Str × Nat)} {pos : Pos} {wi : TI} {g : TG} {tt : TT} {tk tv : TE} (hu : X.A.units + 1 < cLine) (hc : X.calm = true) (hN : X.N.Nodup) (hi : PI X tg iter wi) (ok : BlkOk X.N X.env.scope scope own)
    (hg : ∀ (s : Shared) (H : Hp) (C : Addr) (cl : List (Str × Addr)) (fp : List Addr), PG (X.blk s H scope (compEnvC scope cl C X.env) fp) tg g) (ht : ∀ (s : Shared) (H : Hp) (C : Addr) (cl : List (Str × Addr)) (fp : List Addr), PTs (X.blk s H scope (compEnvC scope cl C X.env) fp) ifs tt)
    (hk : ∀ (s : Shared) (H : Hp) (C : Addr) (cl : List (Str × Addr)) (fp : List Addr), PE (X.blk s H scope (compEnvC scope cl C X.env) fp) kx tk)
    (he : ∀ (s : Shared) (H : Hp) (C : Addr) (cl : List (Str × Addr)) (fp : List Addr), PE (X.blk s H scope (compEnvC scope cl C X.env) fp) vx tv) (hs : ∀ x, foldedSetIterable iter X.env x = pure x := by intro _; rfl) :
    PE X (.DictComp kx vx [⟨tg, iter, ifs, 0⟩] scope pos) (tDcT wi g tt tk tv (own.map (·.2))) := by
  refine ⟨fun pins s σ H Q I h => ?_⟩
  rw [arm_eval_DictComp]
  refine dcT_core hu hc hN I hi ok hg ht hk he hs h fun D C s' m H' I' q hn ⟨f0, f1, f2, f3, f4, f5⟩ => ⟨m, hn, fun h'' sb => ?_⟩
  exact ⟨.ref D, H', I'.turned (t' := s'.toks) (fun b o hb e => (sb.2 b hb).trans e) f0 f1 f3 f4 f5, rfl, q⟩
end

/-! ### tuple(d) -/
section
variable {prog : Program} {w : World} {A : Around} {E : Value → Shared → Prop} {s : Shared} {T : String} {r d : Addr} {n : Nat} {P : Nat → Value → Prop} {OK : Heap → Prop}
theorem collect_kdl {Q : List Value → Shared → Prop} (K : PySem.W.KdlSrc prog w T r d n P OK) (hh : A.handled = none) (hok : OK s.heap) (hn : n ≤ sizeLine)
    (hQ : ∀ (h' : Heap) (tk : Nat) (acc : Array Value), (∀ b o, s.heap.get? b = some o → h'.get? b = some o) → ItemsOf P acc n → Q acc.toList { s with heap := h', toks := tk }) :
    wpAny (model prog w) A (collect (.ref r)) Q E s := by
  unfold collect
  refine wpAny_bind (wpAny_runValue (codeAny_builtin F.entry_proto_collect ?_))
  rw [Around.under_plainId F.plain_proto_collect _]
  show wpAny _ A.in1 (newList [] >>= fun l => again (.builtin "list.__iadd__" ⟨[l, .ref r], []⟩)) _ _ s
  refine wpAny_bind (wpAny_newObj_type (wpAny_pure ⟨plainId_quiet F.plain_list_iadd _, codeAny_builtin F.entry_list_iadd ?_⟩))
  rw [Around.under_plainId F.plain_list_iadd _]
  show wpAny _ A.in1 (Builtin.List.listExtendWith (.ref s.heap.objs.size) (.ref r) (.ref s.heap.objs.size)) _ _ _
  have hlt := K.there _ hok
  have hS : (s.heap.push { cls := .type "list", data := .seq ([] : List Value).toArray }).get? s.heap.objs.size = some { cls := .type "list", data := .seq #[] 0 } := Heap.get?_push_size _ rfl
  refine wpAny_mono (PySem.W.kdl_extend (A := A) (R := fun rr s' => rr = .ok (.ret (.ref s.heap.objs.size)) ∧ ∃ (h' : Heap) (tk : Nat) (acc : Array Value) (c' : Nat), s' = { s with heap := h', toks := tk } ∧
      (∀ b o, s.heap.get? b = some o → h'.get? b = some o) ∧ h'.get? s.heap.objs.size = some { cls := .type "list", dict := none, data := .seq acc c', slots := #[] } ∧ ItemsOf P acc n)
    (s := { s with heap := s.heap.push { cls := .type "list", data := .seq ([] : List Value).toArray } }) K hh (K.keep _ _ hok fun b _ o e => Heap.get?_push_of_some _ e) s.heap.objs.size (Nat.ne_of_gt hlt.1) (Nat.ne_of_gt hlt.2) _ 0 hS
    (fun h' tk acc c' hk e hi => ⟨rfl, h', tk, acc, c', rfl, fun b o q => hk b o (Nat.ne_of_lt (Heap.lt_size q)) (Heap.get?_push_of_some _ q), e, hi⟩) hn) (fun fin s' h => ?_) (fun e s' h => ?_)
  · cases fin with
    | done f =>
      obtain ⟨e, h', tk, acc, c', rfl, hk, hS', hi⟩ := h
      cases e
      show wpAny _ A (load s.heap.objs.size >>= _) _ _ _
      exact wpAny_bind (wpAny_load hS' (wpAny_pure (hQ h' tk acc hk hi)))
    | again c' =>
      refine ⟨h.1, codeAny_mono h.2 fun rr s'' hr' => ?_⟩
      obtain ⟨rfl, h', tk, acc, c', rfl, hk, hS', hi⟩ := hr'
      show wpAny _ A (load s.heap.objs.size >>= _) _ _ _
      exact wpAny_bind (wpAny_load hS' (wpAny_pure (hQ h' tk acc hk hi)))
  · exact absurd h.1 (by simp)
theorem call_tuple_kdl {Q : Value → Shared → Prop} (K : PySem.W.KdlSrc prog w T r d n P OK) (hh : A.handled = none) (hok : OK s.heap) (hn : n ≤ sizeLine)
    (hQ : ∀ (h' : Heap) (tk : Nat) (acc : Array Value), (∀ b o, s.heap.get? b = some o → h'.get? b = some o) → ItemsOf P acc n → Q (.ref h'.objs.size) { s with heap := h'.push { cls := .type "tuple", data := .seq acc }, toks := tk }) :
    wpAny (model prog w) A (call (.type "tuple") [.ref r]) Q E s := by
  have hTI : s.TypeIs (.ref r) T := K.type s hok
  have nT : (Value.type T == Value.type "tuple") = false := K.notTuple
  refine callType_codes (Q₁ := fun obj s₁ => s₁.TypeIs obj "tuple" ∧ Q obj s₁) F.called_tuple (F.typeCall_tuple_1 _) F.entry_object_init (codeAny_of_tree ?_) fun obj s₁ h₁ =>
    ⟨h₁.1, F.args_object_init_2 obj _, object_init_meets F.called_tuple.init.lookup F.called_tuple.made (by decide) prog w A.in1 _ s₁ ⟨h₁.1, rfl, h₁.2⟩⟩
  show wpAny _ A.in1.in1 (do checkBuiltinCall "tuple.__new__" ⟨[.type "tuple", .ref r], []⟩; again (.builtin "tuple.__new__" ⟨[.type "tuple", .ref r], []⟩)) _ _ s
  refine wpAny_bind (wpAny_of_eq (F.newCall_tuple_1 _) (wpAny_pure ⟨plainId_quiet F.plain_tuple_new _, codeAny_builtin F.entry_tuple_new ?_⟩))
  rw [Around.under_plainId F.plain_tuple_new _]
  have hsub := sub_tuple_self
  have hinit := init_tuple_lookup
  have hmh := madeHere_tuple
  have hh2 : A.in1.in1.handled = none := hh
  wp_walk using wpAny_typeOf hTI, collect_kdl (A := A.in1.in1) K hh2 hok hn
  intro h' tk acc hk hacc
  show wpAny _ _ (Builtin.Tuple.tupleExact acc.toList.toArray >>= fun v => ret v) _ _ _
  unfold Builtin.Tuple.tupleExact
  have e : acc.toList.toArray = acc := by simp
  refine wpAny_bind (wpAny_newObj_type (wpAny_pure ?_) (by show acc.toList.toArray.size ≤ sizeLine; rw [e, hacc.1]; exact hn))
  rw [e]
  exact ⟨⟨_, Heap.get?_push_size _ rfl, rfl⟩, hQ h' tk acc hk hacc⟩
end
end PL

namespace PL
open PySem PySem.Spec PyProof.Rows L2
/-! ### dicts of data -/
section
variable {κ : Type} [DecidableEq κ]
def putD (kvs : List (κ × D)) (k : κ) (v : D) : List (κ × D) := if (kvs.any fun kv => decide (kv.1 = k)) = true then kvs.map (fun kv => if kv.1 = k then (kv.1, v) else kv) else kvs ++ [(k, v)]
theorem kvs_any {K : PySem.W.Frag} {H : Hp} {k : κ} : ∀ {ws : List (κ × V)} {ds : List (κ × D)}, KVs K H ws ds → (ws.any fun kv => decide (kv.1 = k)) = ds.any fun kv => decide (kv.1 = k)
  | _, _, .nil => rfl
  | _, _, .cons r t => by rw [List.any_cons, List.any_cons, r.1, kvs_any t]
theorem kvs_repl {K : PySem.W.Frag} {H : Hp} {k : κ} {v : V} {x : D} (rv : Rep K H v x) : ∀ {ws : List (κ × V)} {ds : List (κ × D)}, KVs K H ws ds → KVs K H (ws.map fun kv => if kv.1 = k then (kv.1, v) else kv) (ds.map fun kv => if kv.1 = k then (kv.1, x) else kv)
  | _, _, .nil => .nil
  | _, _, .cons (a := p) (b := q) r t => by
    rw [List.map_cons, List.map_cons]
    refine .cons ?_ (kvs_repl rv t)
    by_cases e : p.1 = k
    · rw [if_pos e, if_pos (r.1.symm.trans e)]
      exact ⟨r.1, rv⟩
    · rw [if_neg e, if_neg fun z => e (r.1.trans z)]
      exact r
theorem kvs_snoc {K : PySem.W.Frag} {H : Hp} {k : κ} {v : V} {x : D} (rv : Rep K H v x) : ∀ {ws : List (κ × V)} {ds : List (κ × D)}, KVs K H ws ds → KVs K H (ws ++ [(k, v)]) (ds ++ [(k, x)])
  | _, _, .nil => .cons ⟨rfl, rv⟩ .nil
  | _, _, .cons r t => .cons r (kvs_snoc rv t)
theorem kvs_put {K : PySem.W.Frag} {H : Hp} {k : κ} {v : V} {x : D} (rv : Rep K H v x) {ws : List (κ × V)} {ds : List (κ × D)} (r : KVs K H ws ds) : KVs K H (putK ws k v) (putD ds k x) := by
  unfold putK putD
  rw [kvs_any r]
  split
  · exact kvs_repl rv r
  · exact kvs_snoc rv r
end
theorem kvs_keys {κ : Type} {K : PySem.W.Frag} {H : Hp} : ∀ {ws : List (κ × V)} {ds : List (κ × D)}, KVs K H ws ds → ws.map (·.1) = ds.map (·.1)
  | _, _, .nil => rfl
  | _, _, .cons r t => by rw [List.map_cons, List.map_cons, r.1, kvs_keys t]
def keyR : R → Option Key
  | .d (.int i) => some (.inl i)
  | .d (.str s) => some (.inr s)
  | _ => none
def keyD : Key → D
  | .inl i => .int i
  | .inr s => .str s
theorem keyR_ok {K : PySem.W.Frag} {S : Sm} {H : Hp} {v : V} {r : R} {k : Key} (h : RepV K S H v r) (e : keyR r = some k) : v = kV k := by
  unfold keyR at e
  split at e
  · cases e; cases h; rfl
  · cases e; cases h; rfl
  · cases e
theorem rep_keyD {K : PySem.W.Frag} {H : Hp} : ∀ k : Key, Rep K H (kV k) (keyD k)
  | .inl i => .int i
  | .inr s => .str s
theorem reps_keyD {K : PySem.W.Frag} {H : Hp} : ∀ ks : List Key, Reps K H (ks.map kV) (ks.map keyD)
  | [] => .nil
  | k :: r => .cons (rep_keyD k) (reps_keyD r)
def keysR : List R → Option (List Key)
  | [] => some []
  | r :: rs => match keyR r, keysR rs with
    | some k, some ks => some (k :: ks)
    | _, _ => none
theorem keysR_ok {K : PySem.W.Frag} {S : Sm} {H : Hp} : ∀ {vs : List V} {rs : List R} {ks : List Key}, RepVs K S H vs rs → keysR rs = some ks → vs = ks.map kV
  | _, _, _, .nil, e => by cases e; rfl
  | _, _, _, .cons (r := r) (rs := rs) h t, e => by
    unfold keysR at e
    cases e1 : keyR r with
    | none => rw [e1] at e; cases e
    | some k =>
      cases e2 : keysR rs with
      | none => rw [e1, e2] at e; cases e
      | some ks =>
        rw [e1, e2] at e
        cases e
        rw [keyR_ok h e1, keysR_ok t e2] <;> rfl
section
variable {K : PySem.W.Frag} {X : Cx} {S : Sm} {W : WX} {e : Expr} {es : List Expr} {te tk tv : TE} {tt : TT} {tl : TA} {de dk dv : DE} {dt : DT} {dl : DA} {pos : Pos} {tg iter kx vx : Expr} {wi : TI} {di : DI} {g : TG} {js : List Nat} {dg : DG}
def dDc (di : DI) (dg : DG) (dt : DT) (dk dv : DE) (vs : List Nat) : DE := fun ρ P E => di ρ (fun xs _ => ∃ I : Nat → List (Key × D) → Prop, I 0 [] ∧
  (∀ i x acc, xs[i]? = some x → I i acc → dg x (wipeA ρ vs) (fun ρ2 => dt ρ2 (fun k => if k = true then dk ρ2 (fun r => match keyR r with | some k => dv ρ2 (fun r => match r with | .d y => acc.length < sizeLine ∧ I (i + 1) (putD acc k y) | _ => False) noE | none => False) noE else I (i + 1) acc) noE)) ∧
  ∀ acc, I xs.length acc → P (.n (.dk acc))) E
theorem evp_dc {vs : List Nat} (hjs : ∀ j ∈ js, j ∈ vs) (hi : ∀ ρ P E, di ρ P E → EvI K S W wi ρ P E)
    (hg : ∀ x ρ (N : List A → Prop), dg x ρ N → ∀ H0 pr σ H v (Q : L2.St → Hp → Prop), Holds K S H0 pr ρ σ H → Rep K H v x → (∀ ρ' σ', N ρ' → Holds K S H0 pr ρ' σ' H → (∀ i, i ∉ js → σ'[i]? = σ[i]?) → σ'.length = σ.length → Q σ' H) → g v σ H Q)
    (ht : ∀ ρ P E, dt ρ P E → EvB K S W0 tt ρ P E) (hk : ∀ ρ P E, dk ρ P E → EvP K S W0 tk ρ P E) (he : ∀ ρ P E, dv ρ P E → EvP K S W0 tv ρ P E) : ∀ ρ P E, dDc di dg dt dk dv vs ρ P E → EvP K S W (tDc wi g tt tk tv vs) ρ P E := by
  intro ρ P E hd H0 pr σ H Q ho q w
  refine hi ρ _ E hd H0 pr σ H _ ho (fun xs ρ1 J pv H1 hxs e1 _ it own => ?_) w
  obtain ⟨I, i0, step, iend⟩ := hxs
  intro Dl nD
  have ho1 := ho.step e1
  have hst := ho1.stm
  refine ⟨fun i m H' => m = xs.length - i ∧ i ≤ xs.length ∧ Ev S H1 H' ∧ ∃ acc ws, I i acc ∧ H' Dl = some (.dK ws) ∧ KVs K H' ws acc, ⟨xs.length, by simp, Nat.zero_le _, Ev.new hst nD, [], [], i0, upd_same, .nil⟩, ?_⟩
  rintro i m H' ⟨rfl, hil, ev, acc, ws, ia, hD, racc⟩
  have nS : NotS S Dl := hst.fresh nD
  have nC := hst.cfresh nD
  obtain ⟨go, stop⟩ := it.run H' (fun q' o z => ev.keep _ _ (it.at1 q' o z).1 (it.at1 q' o z).2) fun v d z => (it.fact1 v d z).mono ev.tup
  by_cases hlt : i < xs.length
  · obtain ⟨g1, g2⟩ := go i xs[i] (List.getElem?_eq_getElem hlt)
    refine .inr ⟨g1, fun H2 => Ev S H1 H2 ∧ ∃ acc ws, I (i + 1) acc ∧ H2 Dl = some (.dK ws) ∧ KVs K H2 ws acc, fun H2 ⟨ev2, acc2, ws2, r2⟩ => ⟨xs.length - (i + 1), by omega, rfl, hlt, ev2, acc2, ws2, r2⟩, fun v H2 hy => ?_⟩
    obtain ⟨ev2, rv⟩ := g2 v H2 hy
    have ev2 := ev2 ev.stm
    have h2 : Holds K S H0 pr (wipeA ρ vs) (L2.wipe σ vs) H2 := ((ho1.step ev).step ev2).wipe vs
    refine hg xs[i] _ _ (step i _ acc (List.getElem?_eq_getElem hlt) ia) H0 pr _ H2 v _ h2 rv fun ρ2 σ2 hn h3 n1 l1 => ?_
    refine ⟨wipe_wipe (fun j hj => n1 j fun z => hj (hjs j z)) l1, ?_⟩
    refine ht ρ2 _ noE hn H0 pr σ2 H2 _ h3 (fun k H3 hk' e3 => ?_) wish0
    have ev13 := (ev.trans ev2).trans e3
    have hD3 : H3 Dl = some (.dK ws) := e3.keep _ _ (ev2.keep _ _ hD nS) nS
    cases k with
    | true =>
      rw [if_pos rfl] at hk' ⊢
      refine hk ρ2 _ noE hk' H0 pr σ2 H3 _ (h3.step e3) (fun r u H4 hr e4 rr => ?_) wish0
      cases ek : keyR r with
      | none => rw [ek] at hr; exact hr.elim
      | some k =>
        rw [ek] at hr
        have eu : u = kV k := keyR_ok (rr.val (h3.step e3).stm) ek
        refine he ρ2 _ noE hr H0 pr σ2 H4 _ ((h3.step e3).step e4) (fun r2 u2 H5 hr2 e5 rr2 => ?_) wish0
        split at hr2
        · next y =>
          have hD5 : H5 Dl = some (.dK ws) := e5.keep _ _ (e4.keep _ _ hD3 nS) nS
          have racc5 : KVs K H5 ws acc := (((racc.mono ev2.tup).mono e3.tup).mono e4.tup).mono e5.tup
          have hl : ws.length = acc.length := racc5.length
          have tk : TK H5 (upd H5 Dl (.dK (putK ws k u2))) := tk_mut hD5 (fun _ z => by cases z) fun _ _ z => by cases z
          have ev5 := (ev13.trans e4).trans e5
          refine ⟨ws, k, eu, hD5, by rw [hl]; exact hr2.1, ⟨fun b o e n => ?_, ev5.tup.trans tk, ev5.stm.upd nS nC (notCode hD5)⟩, putD acc k y, putK ws k u2, hr2.2, upd_same, (kvs_put rr2 racc5).mono tk⟩
          rw [upd_ne (ne_of_none e nD)]
          exact ev5.keep b o e n
        · exact hr2.elim
    | false =>
      rw [if_neg Bool.false_ne_true] at hk' ⊢
      exact ⟨ev13, acc, ws, hk', hD3, (racc.mono ev2.tup).mono e3.tup⟩
  · have e : i = xs.length := by omega
    subst e
    refine .inl ⟨stop, q _ _ _ (iend acc ia) (e1.trans ev) ⟨Dl, rfl, e1.back ho.stm nD, ws, hD, racc⟩⟩
theorem pd_dc {ifs : List Expr} {scope : Scope} {own : List (Str × Nat)} (hc : X.calm = true) (hN : X.N.Nodup) (hi : ID K X S W tg iter wi di) (ok : BlkOk X.N X.env.scope scope own)
    (hg : ∀ (s : Shared) (H : Hp) (C : Addr) (cl : List (Str × Addr)) (fp : List Addr), GD K (X.blk s H scope (compEnvC scope cl C X.env) fp) S tg g js dg) (ht : ∀ (s : Shared) (H : Hp) (C : Addr) (cl : List (Str × Addr)) (fp : List Addr), TsD K (X.blk s H scope (compEnvC scope cl C X.env) fp) S W0 ifs tt dt)
    (hk : ∀ (s : Shared) (H : Hp) (C : Addr) (cl : List (Str × Addr)) (fp : List Addr), PD K (X.blk s H scope (compEnvC scope cl C X.env) fp) S W0 kx tk dk)
    (he : ∀ (s : Shared) (H : Hp) (C : Addr) (cl : List (Str × Addr)) (fp : List Addr), PD K (X.blk s H scope (compEnvC scope cl C X.env) fp) S W0 vx tv dv) (hs : ∀ x, foldedSetIterable iter X.env x = pure x := by intro _; rfl) (hjs : ∀ j ∈ js, j ∈ own.map (·.2) := by decide) :
    PD K X S W (.DictComp kx vx [⟨tg, iter, ifs, 0⟩] scope pos) (tDc wi g tt tk tv (own.map (·.2))) (dDc di dg dt dk dv (own.map (·.2))) := by
  obtain ⟨hK, pi, hi⟩ := hi
  let s0 : Shared := (PySem.start X.prog).1
  refine ⟨hK, pe_dc hc hN pi ok (fun s H C cl fp => (hg s H C cl fp).2.1) (fun s H C cl fp => (ht s H C cl fp).2.1) (fun s H C cl fp => (hk s H C cl fp).2.1) (fun s H C cl fp => (he s H C cl fp).2.1) hs, ?_⟩
  exact evp_dc hjs hi (hg s0 (fun _ => none) 0 [] []).2.2 (ht s0 (fun _ => none) 0 [] []).2.2 (hk s0 (fun _ => none) 0 [] []).2.2 (he s0 (fun _ => none) 0 [] []).2.2

def dDcT (di : DI) (dg : DG) (dt : DT) (dl : DA) (dv : DE) (vs : List Nat) : DE := fun ρ P E => di ρ (fun xs _ => ∃ I : Nat → List (List Key × D) → Prop, I 0 [] ∧
  (∀ i x acc, xs[i]? = some x → I i acc → dg x (wipeA ρ vs) (fun ρ2 => dt ρ2 (fun k => if k = true then dl ρ2 (fun rs => match keysR rs with | some ks => ks.length ≤ sizeLine ∧ dv ρ2 (fun r => match r with | .d y => acc.length < sizeLine ∧ I (i + 1) (putD acc ks y) | _ => False) noE | none => False) noE else I (i + 1) acc) noE)) ∧
  ∀ acc, I xs.length acc → P (.n (.dt acc))) E
theorem evp_dcT {vs : List Nat} (hjs : ∀ j ∈ js, j ∈ vs) (hi : ∀ ρ P E, di ρ P E → EvI K S W wi ρ P E)
    (hg : ∀ x ρ (N : List A → Prop), dg x ρ N → ∀ H0 pr σ H v (Q : L2.St → Hp → Prop), Holds K S H0 pr ρ σ H → Rep K H v x → (∀ ρ' σ', N ρ' → Holds K S H0 pr ρ' σ' H → (∀ i, i ∉ js → σ'[i]? = σ[i]?) → σ'.length = σ.length → Q σ' H) → g v σ H Q)
    (ht : ∀ ρ P E, dt ρ P E → EvB K S W0 tt ρ P E) (hk : ∀ ρ P E, dl ρ P E → EvA K S W0 tl ρ P E) (he : ∀ ρ P E, dv ρ P E → EvP K S W0 tv ρ P E) : ∀ ρ P E, dDcT di dg dt dl dv vs ρ P E → EvP K S W (tDcT wi g tt (tTup tl) tv vs) ρ P E := by
  intro ρ P E hd H0 pr σ H Q ho q w
  refine hi ρ _ E hd H0 pr σ H _ ho (fun xs ρ1 J pv H1 hxs e1 _ it own => ?_) w
  obtain ⟨I, i0, step, iend⟩ := hxs
  intro Dl nD
  have ho1 := ho.step e1
  have hst := ho1.stm
  refine ⟨fun i m H' => m = xs.length - i ∧ i ≤ xs.length ∧ Ev S H1 H' ∧ ∃ acc ws, I i acc ∧ H' Dl = some (.dT ws) ∧ KVs K H' ws acc, ⟨xs.length, by simp, Nat.zero_le _, Ev.new hst nD, [], [], i0, upd_same, .nil⟩, ?_⟩
  rintro i m H' ⟨rfl, hil, ev, acc, ws, ia, hD, racc⟩
  have nS : NotS S Dl := hst.fresh nD
  have nC := hst.cfresh nD
  obtain ⟨go, stop⟩ := it.run H' (fun q' o z => ev.keep _ _ (it.at1 q' o z).1 (it.at1 q' o z).2) fun v d z => (it.fact1 v d z).mono ev.tup
  by_cases hlt : i < xs.length
  · obtain ⟨g1, g2⟩ := go i xs[i] (List.getElem?_eq_getElem hlt)
    refine .inr ⟨g1, fun H2 => Ev S H1 H2 ∧ ∃ acc ws, I (i + 1) acc ∧ H2 Dl = some (.dT ws) ∧ KVs K H2 ws acc, fun H2 ⟨ev2, acc2, ws2, r2⟩ => ⟨xs.length - (i + 1), by omega, rfl, hlt, ev2, acc2, ws2, r2⟩, fun v H2 hy => ?_⟩
    obtain ⟨ev2, rv⟩ := g2 v H2 hy
    have ev2 := ev2 ev.stm
    have h2 : Holds K S H0 pr (wipeA ρ vs) (L2.wipe σ vs) H2 := ((ho1.step ev).step ev2).wipe vs
    refine hg xs[i] _ _ (step i _ acc (List.getElem?_eq_getElem hlt) ia) H0 pr _ H2 v _ h2 rv fun ρ2 σ2 hn h3 n1 l1 => ?_
    refine ⟨wipe_wipe (fun j hj => n1 j fun z => hj (hjs j z)) l1, ?_⟩
    refine ht ρ2 _ noE hn H0 pr σ2 H2 _ h3 (fun k H3 hk' e3 => ?_) wish0
    have ev13 := (ev.trans ev2).trans e3
    have hD3 : H3 Dl = some (.dT ws) := e3.keep _ _ (ev2.keep _ _ hD nS) nS
    cases k with
    | true =>
      rw [if_pos rfl] at hk' ⊢
      refine hk ρ2 _ noE hk' H0 pr σ2 H3 _ (h3.step e3) (fun rs us H4 hr e4 rr => ?_) wish0
      cases ek : keysR rs with
      | none => rw [ek] at hr; exact hr.elim
      | some ks =>
        rw [ek] at hr
        obtain ⟨hlk, hr⟩ := hr
        have eu : us = ks.map kV := keysR_ok rr ek
        subst eu
        refine ⟨by rw [List.length_map]; exact hlk, fun c nc => ?_⟩
        have h4 := (h3.step e3).step e4
        have e45 : Ev S H4 (upd H4 c (.tup (ks.map kV))) := Ev.new h4.stm nc
        refine he ρ2 _ noE hr H0 pr σ2 _ _ (h4.step e45) (fun r2 u2 H5 hr2 e5 rr2 => ?_) wish0
        split at hr2
        · next y =>
          have hc5 : H5 c = some (.tup (ks.map kV)) := e5.keep _ _ upd_same (h4.stm.fresh nc)
          have hD5 : H5 Dl = some (.dT ws) := e5.keep _ _ (e45.keep _ _ (e4.keep _ _ hD3 nS) nS) nS
          have racc5 : KVs K H5 ws acc := ((((racc.mono ev2.tup).mono e3.tup).mono e4.tup).mono e45.tup).mono e5.tup
          have hl : ws.length = acc.length := racc5.length
          have tk : TK H5 (upd H5 Dl (.dT (putK ws ks u2))) := tk_mut hD5 (fun _ z => by cases z) fun _ _ z => by cases z
          have ev5 := ((ev13.trans e4).trans e45).trans e5
          refine ⟨ws, ks, c, rfl, hc5, hD5, by rw [hl]; exact hr2.1, ⟨fun b o e n => ?_, ev5.tup.trans tk, ev5.stm.upd nS nC (notCode hD5)⟩, putD acc ks y, putK ws ks u2, hr2.2, upd_same, (kvs_put rr2 racc5).mono tk⟩
          rw [upd_ne (ne_of_none e nD)]
          exact ev5.keep b o e n
        · exact hr2.elim
    | false =>
      rw [if_neg Bool.false_ne_true] at hk' ⊢
      exact ⟨ev13, acc, ws, hk', hD3, (racc.mono ev2.tup).mono e3.tup⟩
  · have e : i = xs.length := by omega
    subst e
    refine .inl ⟨stop, q _ _ _ (iend acc ia) (e1.trans ev) ⟨Dl, rfl, e1.back ho.stm nD, ws, hD, racc⟩⟩
theorem pd_dcT {ifs : List Expr} {scope : Scope} {own : List (Str × Nat)} {ks : List Expr} {x1 : Nat} {kp : Pos} (hu : X.A.units + 1 < cLine) (hc : X.calm = true) (hN : X.N.Nodup) (hi : ID K X S W tg iter wi di) (ok : BlkOk X.N X.env.scope scope own)
    (hg : ∀ (s : Shared) (H : Hp) (C : Addr) (cl : List (Str × Addr)) (fp : List Addr), GD K (X.blk s H scope (compEnvC scope cl C X.env) fp) S tg g js dg) (ht : ∀ (s : Shared) (H : Hp) (C : Addr) (cl : List (Str × Addr)) (fp : List Addr), TsD K (X.blk s H scope (compEnvC scope cl C X.env) fp) S W0 ifs tt dt)
    (hk : ∀ (s : Shared) (H : Hp) (C : Addr) (cl : List (Str × Addr)) (fp : List Addr), AD K (X.blk s H scope (compEnvC scope cl C X.env) fp) S W0 ks tl dl)
    (he : ∀ (s : Shared) (H : Hp) (C : Addr) (cl : List (Str × Addr)) (fp : List Addr), PD K (X.blk s H scope (compEnvC scope cl C X.env) fp) S W0 vx tv dv) (hs : ∀ x, foldedSetIterable iter X.env x = pure x := by intro _; rfl) (hjs : ∀ j ∈ js, j ∈ own.map (·.2) := by decide) :
    PD K X S W (.DictComp (.Tuple ks x1 kp) vx [⟨tg, iter, ifs, 0⟩] scope pos) (tDcT wi g tt (tTup tl) tv (own.map (·.2))) (dDcT di dg dt dl dv (own.map (·.2))) := by
  obtain ⟨hK, pi, hi⟩ := hi
  let s0 : Shared := (PySem.start X.prog).1
  refine ⟨hK, pe_dcT hu hc hN pi ok (fun s H C cl fp => (hg s H C cl fp).2.1) (fun s H C cl fp => (ht s H C cl fp).2.1) (fun s H C cl fp => pe_tup (hk s H C cl fp).2.1) (fun s H C cl fp => (he s H C cl fp).2.1) hs, ?_⟩
  exact evp_dcT hjs hi (hg s0 (fun _ => none) 0 [] []).2.2 (ht s0 (fun _ => none) 0 [] []).2.2 (hk s0 (fun _ => none) 0 [] []).2.2 (he s0 (fun _ => none) 0 [] []).2.2

/-! ### tuple(d) -/
def rTupDk : List V → Hp → VK → Prop := fun xs H Q => ∃ p kvs, xs = [.ref p] ∧ H p = some (.dK kvs) ∧ ∀ q, H q = none → Q (.ref q) (upd H q (.tup (kvs.map fun kv => kV kv.1)))
theorem call_tuple_dK {X : Cx} (hc : X.calm = true) : CallR X (.type "tuple") rTupDk := by
  intro pins s σ H xs us Q I r h
  obtain ⟨p, kvs, rfl, hk, q⟩ := h
  obtain ⟨u, rfl, rx⟩ := vals1 r
  obtain rfl : u = Value.ref p := rx
  obtain ⟨z, lo, vs, rk, hd⟩ := (show ObjOk X.prog X.w H s.heap p (.dK kvs) from I.hok p _ hk)
  obtain ⟨ep, hat⟩ := hd.dictAt
  have hl : kvs.length = vs.length := Paired.length rk
  refine call_tuple_kdl (PySem.W.kdl_dict (knd := mixKind X.prog X.w) (kvs := vs) (ep := ep) lo) (I.ok.hd hc) hat (by rw [← hl]; exact z) fun h' tk acc hkeep hacc => ?_
  have I2 : Inv X pins σ H { s with heap := h', toks := tk } := I.kept hkeep
  refine ⟨.ref h'.objs.size, upd H h'.objs.size (.tup (kvs.map fun kv => kV kv.1)), I2.laid (t' := tk) (fun c o e => Heap.get?_push_of_some _ e) (Nat.le_refl _) (show ObjOk X.prog X.w _ _ _ (.tup (kvs.map fun kv => kV kv.1)) from ⟨?_, acc.toList, ?_, ?_⟩), rfl, q _ (I2.hok.fresh (Nat.le_refl _))⟩
  · rw [List.length_map]; exact z
  · have el : acc.toList.length = acc.size := by simp
    refine vals_of_at (by rw [List.length_map, el, hacc.1, hl]) fun j x w h1 h2 => ?_
    obtain ⟨k, y, hky, hi⟩ := hacc.2 j w (by rw [← Array.getElem?_toList]; exact h2)
    have e1 : (kvs.map (·.1))[j]? = some k := by rw [KV.keys rk, List.getElem?_map, hky]; rfl
    have e3 : (kvs.map fun kv => kV kv.1) = (kvs.map (·.1)).map kV := by rw [List.map_map]; rfl
    rw [e3, List.getElem?_map, e1] at h1
    cases h1
    exact keyIs_rel hi
  · rw [Array.toArray_toList]; exact IsTup.new _ _
def rTupDt : List V → Hp → VK → Prop := fun xs H Q => ∃ d kvs, xs = [V.ref d] ∧ Rd H d (.dT kvs) ∧ ∀ p bs, H p = none → IsKeys H kvs bs → Q (.ref p) (upd H p (.tup (bs.map V.ref)))
theorem call_tuple_dT {X : Cx} (hc : X.calm = true) : CallR X (.type "tuple") rTupDt := by
  intro pins s σ H xs us Q I r h
  obtain ⟨d, kvs, rfl, hd, q⟩ := h
  obtain ⟨u, rfl, rx⟩ := r.one
  cases rx
  obtain ⟨z, hs, ks, pr, o, es, ep, ho, hx, hdt, he, hn⟩ := (show ObjOk X.prog X.w H s.heap d (.dT kvs) from hd.ok I.hok)
  have l1 : es.size = ks.length := size_of_entries he
  have l2 : kvs.length = ks.length := Paired.length pr
  refine call_tuple_kdl (kdl_raw hs hx hdt) (I.ok.hd hc) ho (by omega) fun h' tk acc kp it => ?_
  have I2 : Inv X pins σ H { s with heap := h', toks := tk } := I.kept kp
  have ea : acc.toList = (ks.map fun x => x.2.1).map Value.ref := by
    have hl : acc.toList.length = ks.length := by rw [Array.length_toList, it.1]; exact l1
    rw [List.map_map]
    apply List.ext_getElem?
    intro j
    rw [List.getElem?_map]
    cases hj : acc.toList[j]? with
    | none =>
      have h1 := List.getElem?_eq_none_iff.mp hj
      rw [List.getElem?_eq_none (by omega)]
      rfl
    | some v =>
      obtain ⟨en, hen, hv⟩ := it.2 j v (by rw [← Array.getElem?_toList]; exact hj)
      have qe := entry_at he j
      rw [hen] at qe
      cases hb : ks[j]? with
      | none => rw [hb] at qe; cases qe
      | some b =>
        rw [hb] at qe
        have qe' := Option.some.inj qe
        rw [hv, qe']
        rfl
  refine ⟨.ref h'.objs.size, upd H h'.objs.size (.tup ((ks.map fun x => x.2.1).map V.ref)), I2.laid (t' := tk) (fun c o e => Heap.get?_push_of_some _ e) (Nat.le_refl _) (show ObjOk X.prog X.w _ _ _ (.tup ((ks.map fun x => x.2.1).map V.ref)) from ⟨?_, acc.toList, ?_, ?_⟩), rfl, q _ _ (I2.hok.fresh (Nat.le_refl _)) (isKeys_of pr)⟩
  · rw [List.length_map, List.length_map]; omega
  · rw [ea]; exact vals_refs _
  · rw [Array.toArray_toList]; exact IsTup.new _ _
/-- of a dict: its keys -/
def fTupD : List R → (R → Prop) → Prop := fun xs P => match xs with
  | [.n (.dk kvs)] => P (.d (.tup (kvs.map fun p => keyD p.1)))
  | [.b (.dk kvs)] => P (.d (.tup (kvs.map fun p => keyD p.1)))
  | [.n (.dt kvs)] => P (.d (.tup (kvs.map fun p => .tup (p.1.map keyD))))
  | [.b (.dt kvs)] => P (.d (.tup (kvs.map fun p => .tup (p.1.map keyD))))
  | _ => False
def rTupDA : List V → Hp → VK → Prop := fun xs H Q => rTupDk xs H Q ∨ rTupDt xs H Q
theorem reps_keys {H : Hp} : ∀ {ws : List (List Key × V)} {kvs : List (List Key × D)} {bs : List Addr}, KVs K H ws kvs → IsKeys H ws bs → Reps K H (bs.map V.ref) (kvs.map fun p => .tup (p.1.map keyD))
  | _, _, _, .nil, .nil => .nil
  | _, _, _, .cons (b := q) r t, .cons h u => by
    refine .cons ?_ (reps_keys t u)
    show Rep K H (V.ref _) (.tup (q.1.map keyD))
    rw [← r.1]
    exact .tup (SqT.of h) (reps_keyD _)
theorem callp_tupD : CallP K S rTupDA fTupD := by
  intro H vs xs P Q st hx hf q
  have dk : ∀ {q' : Addr} {kvs : List (Key × D)}, Stands K H q' (.dk kvs) → P (.d (.tup (kvs.map fun p => keyD p.1))) → rTupDA [.ref q'] H Q := by
    intro q' kvs ⟨ws, h1, r1⟩ hp
    refine .inl ⟨q', ws, rfl, h1, fun l nl => q _ _ _ hp (Ev.new st nl) (.tup (SqT.of upd_same) ?_)⟩
    have e : (ws.map fun kv => kV kv.1) = (kvs.map (·.1)).map kV := by rw [← kvs_keys r1, List.map_map]; rfl
    have e2 : (kvs.map fun p => keyD p.1) = (kvs.map (·.1)).map keyD := by rw [List.map_map]; rfl
    rw [e, e2]
    exact reps_keyD _
  have dt : ∀ {q' : Addr} {kvs : List (List Key × D)}, Stands K H q' (.dt kvs) → P (.d (.tup (kvs.map fun p => .tup (p.1.map keyD)))) → rTupDA [.ref q'] H Q := by
    intro q' kvs ⟨ws, h1, r1⟩ hp
    exact .inr ⟨q', ws, rfl, .inl h1, fun l bs nl ik => q _ _ _ hp (Ev.new st nl) (.tup (SqT.of upd_same) ((reps_keys r1 ik).mono (tk_new nl)))⟩
  unfold fTupD at hf
  split at hf
  · obtain ⟨v, rfl, q', rfl, _, s⟩ := RepVs.one hx; exact dk s hf
  · obtain ⟨v, rfl, q', rfl, _, s⟩ := RepVs.one hx; exact dk s hf
  · obtain ⟨v, rfl, q', rfl, _, s⟩ := RepVs.one hx; exact dt s hf
  · obtain ⟨v, rfl, q', rfl, _, s⟩ := RepVs.one hx; exact dt s hf
  · exact hf.elim
theorem pd_tupD {p : Pos} (hc : X.calm = true) (hm : X.mg "tuple" = none) (ha : AD K X S W (e :: es) tl dl) (hg : Gl X "tuple" := by rfl) (he : starEach (e :: es) X.env = (false, eval e X.env) :: starEach es X.env := by rfl) (hpl : (backTo pos (starEach es X.env)).any (·.1) = false := by rfl) :
    PD K X S W (.Call (.Name "tuple" p) (e :: es) [] pos) (tCB rTupDA tl) (dCB fTupD dl) := by
  have hK := ha.1
  subst hK
  exact pd_callTy (r := rTupDA) (CallR.or (call_tuple_dK hc) (call_tuple_dT hc)) callp_tupD hg hm PyProof.Rows.boot_tuple ha (by decide) (by decide) he hpl
end
end PL

namespace PL
open PySem PySem.Spec PyProof.Rows L2
/-! ### the two defs that every law's stream goes through, taken by their form -/
theorem rd_ix {K : PySem.W.Frag} {σ : L2.St} {H : Hp} {Q : VK} {a : Addr} {xs : List V} {n : Nat} {v : V} {i : Nat} (h0 : σ[n]? = some (some (.ref a))) (hx : H a = some (.lst xs)) (hv : xs[i]? = some v) (q : Q v H) : tOp (rIxL K) (tVar n) (tC (.int (i : Nat))) σ H Q :=
  ⟨.ref a, h0, a, xs, i, v, rfl, rfl, SqL.of hx, atI_nat hv, q⟩
theorem wr_ix {σ : L2.St} {H : Hp} {Q : L2.St → Hp → Prop} {a : Addr} {xs : List V} {n : Nat} {v : V} {i : Nat} (h0 : σ[n]? = some (some (.ref a))) (hx : H a = some (.lst xs)) (hv : i < xs.length) (q : Q σ (upd H a (.lst (xs.set i v)))) : gSub (tVar n) (tC (.int (i : Nat))) rSetL v σ H Q :=
  ⟨.ref a, h0, a, xs, i, i, rfl, rfl, hx, by unfold ixN; rw [if_pos (Int.natCast_nonneg i), if_pos (by omega)]; simp, q⟩
theorem tk_stm {H : Hp} {a : Addr} {xs ys : List V} (h : H a = some (.lst xs)) : TK H (upd H a (.lst ys)) := tk_mut h (fun _ z => by cases z) fun _ _ z => by cases z
/-- the stream turned on -/
theorem Ev.stmTo {S : Sm} {H : Hp} {a c : Addr} {xs : List V} {ns : List Int} {cur pos mix : Int} (st : StmOk S H) (es : S.st = some (a, c)) (h : H a = some (.lst xs)) (hc : H c = some (.lst (ns.map V.int))) (nac : c ≠ a) (h1 : 0 ≤ cur) (h2 : 0 ≤ pos) (h3 : 0 ≤ mix) (h4 : mix < 2147483647) (h5 : ns.length ≤ 1000) :
    Ev S H (upd H a (.lst [.ref c, .int cur, .int pos, .int mix])) := by
  refine ⟨fun b o e n => ?_, tk_stm h, ?_, fun q hq => ?_⟩
  · rw [upd_ne (n.st a c es)]
    exact e
  · rw [es]
    exact ⟨ns, cur, pos, mix, upd_same, by rw [upd_ne nac]; exact hc, h1, h2, h3, h4, h5⟩
  · obtain ⟨ps, e1, e2, e3⟩ := st.tb q hq
    have n1 : q.1 ≠ a := fun z => by rw [z, h] at e1; cases e1
    refine ⟨ps, by rw [upd_ne n1]; exact e1, e2, fun ps cv hcv => ?_⟩
    obtain ⟨d, g1, g2⟩ := e3 ps cv hcv
    refine ⟨d, g1, ?_⟩
    rw [upd_ne fun z => notCode h (fun _ z => by cases z) q.2 (by rw [z] at g2; exact g2)]
    exact g2
/-- a draw -/
def ctDraw : Ct := { α := Int, args := fun n => [.strm, .d (.int n)], pre := fun n => 1 ≤ n ∧ n ≤ 1000000, post := fun n r => ∃ k : Int, 0 ≤ k ∧ k < n ∧ r = .d (.int k), exc := fun _ _ => False }
abbrev rLn (K : PySem.W.Frag) : List V → Hp → VK → Prop := fun xs H Q => ∃ p ys, xs = [.ref p] ∧ (SqL K H p ys ∨ SqT K H p ys) ∧ Q (.int ys.length) H
abbrev rAbs : List V → Hp → VK → Prop := fun xs H Q => ∃ i, xs = [.int i] ∧ Q (.int (if i < 0 then -i else i)) H
abbrev stI (K : PySem.W.Frag) (i : Int) : TE := tOp (rIxL K) (tVar 0) (tC (.int i))
abbrev stW (i : Int) : TG := gSub (tVar 0) (tC (.int i)) rSetL
abbrev rMd : R2 := rI (fun _ j => 0 < j) fun i j => .int (i % j)
abbrev rDv : R2 := rI CDiv fun i j => .int (i / j)
abbrev rAd : R2 := rI0 fun i j => .int (i + j)
abbrev rMu : R2 := rI CMul fun i j => .int (i * j)
abbrev rLs : R2 := rI0 fun i j => .bl (decide (i < j))
abbrev tI1 (t : TE) : TE := tCB rInt1 (tCons t tNil)
def tDraw (K : PySem.W.Frag) : TS :=
  tSeq (tIfS (tAnd (tTest (tOp rEq (stI K 1) (tC (.int 0)))) (tTest (tOp rLs (stI K 2) (tCB (rLn K) (tCons (stI K 0) tNil)))))
      (tSeq (tAsg (tCB rAbs (tCons (tI1 (tOp (rIxL K) (stI K 0) (stI K 2))) tNil)) (stW 1)) (tAsg (tOp rAd (stI K 2) (tC (.int 1))) (stW 2))) tNext)
    (tSeq (tIfS (tTest (tOp rEq (stI K 1) (tC (.int 0)))) (tSeq (tAsg (tOp rMd (tI1 (tOp rAd (tOp rMu (stI K 3) (tC (.int 48271))) (tC (.int 11)))) (tC (.int 2147483647))) (stW 3)) (tRet (tOp rMd (tI1 (tOp rDv (stI K 3) (tC (.int 97)))) (tVar 1)))) tNext)
      (tSeq (tAsg (tOp rMd (tI1 (stI K 1)) (tVar 1)) (gName 2)) (tSeq (tAsg (tOp rDv (stI K 1) (tVar 1)) (stW 1)) (tRet (tVar 2)))))
theorem draw_reads {K : PySem.W.Frag} {S : Sm} {a c : Addr} {n : Int} {H : Hp} {Dn : Ends} {ns : List Int} {cur pos mix : Int} (st0 : StmOk S H) (es : S.st = some (a, c)) (ha : H a = some (.lst [.ref c, .int cur, .int pos, .int mix])) (hc : H c = some (.lst (ns.map V.int))) (b1 : 0 ≤ cur) (b2 : 0 ≤ pos) (b3 : 0 ≤ mix) (b4 : mix < 2147483647) (b5 : ns.length ≤ 1000)
    (n1 : 1 ≤ n) (n2 : n ≤ 1000000) (q : ∀ (k : Int) H', 0 ≤ k → k < n → Ev S H H' → Dn.rt (.int k) H') : tDraw K Dn [some (.ref a), some (.int n), none] H := by
  have nac : c ≠ a := fun e => by
    subst e
    rw [hc] at ha
    cases ns with
    | nil => cases ha
    | cons x r =>
      have := HO.lst.inj (Option.some.inj ha)
      cases this
  -- behind the first if
  have tail : ∀ (H1 : Hp) (cur pos : Int), H1 a = some (.lst [.ref c, .int cur, .int pos, .int mix]) → H1 c = some (.lst (ns.map V.int)) → 0 ≤ cur → 0 ≤ pos → Ev S H H1 →
      (tSeq (tIfS (tTest (tOp rEq (stI K 1) (tC (.int 0)))) (tSeq (tAsg (tOp rMd (tI1 (tOp rAd (tOp rMu (stI K 3) (tC (.int 48271))) (tC (.int 11)))) (tC (.int 2147483647))) (stW 3)) (tRet (tOp rMd (tI1 (tOp rDv (stI K 3) (tC (.int 97)))) (tVar 1)))) tNext)
      (tSeq (tAsg (tOp rMd (tI1 (stI K 1)) (tVar 1)) (gName 2)) (tSeq (tAsg (tOp rDv (stI K 1) (tVar 1)) (stW 1)) (tRet (tVar 2))))) Dn [some (.ref a), some (.int n), none] H1 := by
    intro H1 cur pos h1 h2 c1 c2 ev
    refine rd_ix (i := 1) rfl h1 rfl ⟨rfl, _, rfl, ?_⟩
    refine ite2 (fun _ => ?_) (fun _ => ?_)
    · refine rd_ix (i := 3) rfl h1 rfl ⟨mix, 48271, rfl, rfl, .inr ⟨by omega, by omega⟩, ?_⟩
      refine ⟨_, _, rfl, rfl, .inl ⟨_, rfl, _, _, rfl, rfl, by omega, ?_⟩⟩
      refine wr_ix (i := 3) rfl h1 (by simp) ?_
      have m1 : 0 ≤ (mix * 48271 + 11) % 2147483647 := Int.emod_nonneg _ (by omega)
      have m2 : (mix * 48271 + 11) % 2147483647 < 2147483647 := Int.emod_lt_of_pos _ (by omega)
      have ev2 := Ev.stmTo (mix := (mix * 48271 + 11) % 2147483647) ev.stm es h1 h2 nac c1 c2 m1 m2 b5
      refine rd_ix (i := 3) rfl upd_same rfl ⟨_, 97, rfl, rfl, ⟨by omega, by omega⟩, .inl ⟨_, rfl, .int n, rfl, _, n, rfl, rfl, by omega, ?_⟩⟩
      exact q _ _ (Int.emod_nonneg _ (by omega)) (Int.emod_lt_of_pos _ (by omega)) (ev.trans ev2)
    · refine rd_ix (i := 1) rfl h1 rfl (.inl ⟨_, rfl, .int n, rfl, _, n, rfl, rfl, by omega, ?_⟩)
      refine rd_ix (i := 1) rfl h1 rfl ⟨.int n, rfl, _, n, rfl, rfl, ⟨by omega, by omega⟩, ?_⟩
      refine wr_ix (i := 1) rfl h1 (by simp) ?_
      have ev2 := Ev.stmTo (cur := cur / n) ev.stm es h1 h2 nac (Int.ediv_nonneg c1 (by omega)) c2 b3 b4 b5
      exact ⟨_, rfl, q _ _ (Int.emod_nonneg _ (by omega)) (Int.emod_lt_of_pos _ (by omega)) (ev.trans ev2)⟩
  refine rd_ix (i := 1) rfl ha rfl ⟨rfl, _, rfl, ?_⟩
  refine ite2 (fun _ => ?_) (fun _ => ?_)
  · refine rd_ix (i := 2) rfl ha rfl ?_
    refine rd_ix (i := 0) rfl ha rfl ⟨c, _, rfl, .inl (SqL.of hc), pos, _, rfl, rfl, _, rfl, ?_⟩
    refine ite2 (fun e2 => ?_) (fun _ => ?_)
    · have e2 : pos < ((ns.map V.int).length : Int) := of_decide_eq_true e2
      rw [List.length_map] at e2
      obtain ⟨j, rfl⟩ := Int.eq_ofNat_of_zero_le b2
      have hj : j < ns.length := by omega
      have gj : (ns.map V.int)[j]? = some (.int ns[j]) := by rw [List.getElem?_map, List.getElem?_eq_getElem hj]; rfl
      refine rd_ix (i := 0) rfl ha rfl (rd_ix (i := 2) rfl ha rfl ⟨c, _, (j : Int), _, rfl, rfl, SqL.of hc, atI_nat gj, .inl ⟨_, rfl, _, rfl, ?_⟩⟩)
      have p1 : 0 ≤ (if ns[j] < 0 then -ns[j] else ns[j]) := by split <;> omega
      refine wr_ix (i := 1) rfl ha (by simp) ?_
      have ev1 := Ev.stmTo st0 es ha hc nac p1 (Int.natCast_nonneg j) b3 b4 b5
      refine rd_ix (i := 2) rfl upd_same rfl ⟨_, 1, rfl, rfl, ?_⟩
      refine wr_ix (i := 2) rfl upd_same (by simp) ?_
      have hc1 : (upd H a (.lst [.ref c, .int (if ns[j] < 0 then -ns[j] else ns[j]), .int (j : Int), .int mix])) c = some (.lst (ns.map V.int)) := by rw [upd_ne nac]; exact hc
      have ev2 := Ev.stmTo (pos := (j : Int) + 1) ev1.stm es upd_same hc1 nac p1 (by omega) b3 b4 b5
      exact tail _ _ _ upd_same (by rw [upd_ne nac]; exact hc1) p1 (by omega) (ev1.trans ev2)
    · exact tail H cur pos ha hc b1 b2 (Ev.refl st0)
  · exact tail H cur pos ha hc b1 b2 (Ev.refl st0)
theorem cal_draw {P : Program} {w : World} {K : PySem.W.Frag} {T : List (Addr × Str)} {mg : Str → Option Value} {base : Heap} {x : Str} {st : Stmt} {k : Nat} (D : DefOf K mg x st ["stream", "many"]) (Sc : FnScope ["stream", "many", "value"] ["stream", "many"] (defScope st))
    (hb : ∀ (cdv : Value) (f : Addr) (A : Around) (outer : List Env) (s : Shared) (H : Hp) (E : XK), PSs (cxOf CX0 P w K mg base ["stream", "many", "value"] x (defScope st) f cdv A outer s H E).nox (defBody st) (tDraw K)) : Cal P w K T mg base CX0 (k + 1) x ["stream", "many"] ctDraw := by
  obtain ⟨f, fd, F, g, b⟩ := D
  refine ⟨f, fd, F.ok Sc (fun vs H Q E h => ?_) (fun cdv A outer s H vs Q E hr h => ?_), g, F.kp, b⟩
  · obtain ⟨S, y, _, r, _⟩ := h
    rw [r.length]
    rfl
  · obtain ⟨S, n, _, r, st, py, hp, _⟩ := h
    obtain ⟨v, w', rfl, ⟨a, c, es, rfl⟩, rn⟩ := RepVs.two r
    cases rn
    have st1 := st.st
    rw [es] at st1
    obtain ⟨ns, cur, pos, mix, e1, e2, b1, b2, b3, b4, b5⟩ := st1
    refine ⟨_, hb cdv f A outer s H E, ?_⟩
    exact draw_reads st es e1 e2 b1 b2 b3 b4 b5 py.1 py.2 fun k H' k1 k2 ev => hp _ _ H' ⟨k, k1, k2, rfl⟩ ev (.int k)
/-- the stream's making -/
def tStream (K : PySem.W.Frag) : TS :=
  tSeq (tAsg (tC (.int 17)) (gName 1)) (tSeq (tFor (iList K (tVar 0)) (gName 2) (tAsg (tOp rMd (tI1 (tOp rAd (tOp rAd (tOp rMu (tVar 1) (tC (.int 48271))) (tOp rMd (tI1 (tVar 2)) (tC (.int 65521)))) (tC (.int 1)))) (tC (.int 2147483647))) (gName 1)))
    (tRet (tLst (tCons (tCB (rListOf K) (tCons (tVar 0) tNil)) (tCons (tC (.int 0)) (tCons (tC (.int 0)) (tCons (tVar 1) tNil)))))))
def spStream (K : PySem.W.Frag) : Sp := fun vs H Q _ => ∃ (q : Addr) (ns : List Int) (T : List (Addr × Str)), vs = [.ref q] ∧ SqL K H q (ns.map V.int) ∧ ns.length ≤ 1000 ∧ LamX.Tabs T H ∧ ∀ H' a c, Ev ⟨none, T⟩ H H' → H a = none → StmAt a c H' → Q (.ref a) H'
theorem stream_reads {K : PySem.W.Frag} {q : Addr} {ns : List Int} {H : Hp} {Dn : Ends} (hS : SqL K H q (ns.map V.int)) {T : List (Addr × Str)} (hl : ns.length ≤ 1000) (hT : LamX.Tabs T H) (hq : ∀ H' a c, Ev ⟨none, T⟩ H H' → H a = none → StmAt a c H' → Dn.rt (.ref a) H') : tStream K Dn [some (.ref q), none, none] H := by
  refine ⟨.ref q, rfl, q, rfl, ⟨_, hS⟩, fun i m σ H3 => ∃ mx y, σ = [some (.ref q), some (.int mx), y] ∧ 0 ≤ mx ∧ mx < 2147483647 ∧ i + m = ns.length ∧ H3 = H, ⟨ns.length, 17, none, rfl, by omega, by omega, by omega, rfl⟩, fun i m σ H3 hW => ?_⟩
  obtain ⟨mx, y, rfl, m1, m2, em, rfl⟩ := hW
  by_cases hi : i < ns.length
  · have g : (ns.map V.int)[i]? = some (.int ns[i]) := by rw [List.getElem?_map, List.getElem?_eq_getElem hi]; rfl
    refine .inr ⟨⟨_, _, hS, g⟩, fun σ' H' => ∃ mx y, σ' = [some (.ref q), some (.int mx), y] ∧ 0 ≤ mx ∧ mx < 2147483647 ∧ H' = H3, fun σ' H' hN => ?_, fun v H' hy => ?_⟩
    · obtain ⟨mx', y', e, r1, r2, r3⟩ := hN
      exact ⟨m - 1, by omega, mx', y', e, r1, r2, by omega, r3⟩
    · obtain ⟨rfl, fv⟩ := hy
      have ev : v = .int ns[i] := Option.some.inj ((fv _ hS).symm.trans g)
      subst ev
      refine ⟨_, rfl, mx, 48271, rfl, rfl, .inr ⟨by omega, by omega⟩, .int ns[i], rfl, .inl ⟨_, rfl, _, 65521, rfl, rfl, by omega, _, _, rfl, rfl, _, 1, rfl, rfl, .inl ⟨_, rfl, _, 2147483647, rfl, rfl, by omega, ?_⟩⟩⟩
      exact ⟨_, _, rfl, Int.emod_nonneg _ (by omega), Int.emod_lt_of_pos _ (by omega), rfl⟩
  · refine .inl ⟨⟨_, hS, by rw [List.length_map]; omega⟩, ?_⟩
    refine ⟨.ref q, rfl, q, _, rfl, .inl hS, fun c nc => ⟨.int mx, rfl, by show 4 ≤ sizeLine; rw [sizeLine_eq]; omega, fun a na => ?_⟩⟩
    have nac : c ≠ a := fun e => by subst e; rw [upd_same] at na; cases na
    have n0 : H3 a = none := by rw [← na, upd_ne (Ne.symm nac)]
    have e1 : Ev ⟨none, T⟩ H3 (upd H3 c (.lst (ns.map V.int))) := Ev.new ⟨trivial, hT⟩ nc
    refine hq _ a c (e1.trans (Ev.new e1.stm na)) n0 ⟨ns, 0, 0, mx, upd_same, by rw [upd_ne nac]; exact upd_same, by omega, by omega, m1, m2, hl⟩
theorem ok_stream {P : Program} {w : World} {K : PySem.W.Frag} {mg : Str → Option Value} {base : Heap} {x : Str} {st : Stmt} {k : Nat} (D : DefOf K mg x st ["script"]) (Sc : FnScope ["script", "mixed", "cell"] ["script"] (defScope st))
    (hb : ∀ (cdv : Value) (f : Addr) (A : Around) (outer : List Env) (s : Shared) (H : Hp) (E : XK), PSs (cxOf CX0 P w K mg base ["script", "mixed", "cell"] x (defScope st) f cdv A outer s H E).nox (defBody st) (tStream K)) :
    ∃ (f : Addr) (fd : FuncData), FnOk P w K mg base CX0 (k + 1) f fd ["script"] (spStream K) ∧ mg x = some (.ref f) ∧ PySem.W.keepIn K (.ref f) = true ∧ Binds K fd ["script"] [] := by
  obtain ⟨f, fd, F, g, b⟩ := D
  refine ⟨f, fd, F.ok Sc (fun vs H Q E h => ?_) (fun cdv A outer s H vs Q E hr h => ?_), g, F.kp, b⟩
  · obtain ⟨q, ns, T, rfl, _⟩ := h
    rfl
  · obtain ⟨q, ns, T, rfl, hS, hl, hT, hq⟩ := h
    exact ⟨_, hb cdv f A outer s H E, stream_reads hS hl hT hq⟩
end PL

namespace PL
open PySem PySem.Spec PyProof.Rows L2
/-! ### a law: stream = _law_stream(script), then the rest over the stream -/
def spLaw (K : PySem.W.Frag) (T : List (Addr × Str)) : Sp := fun vs H Q _ => ∃ (q : Addr) (ns : List Int), vs = [.ref q] ∧ SqL K H q (ns.map V.int) ∧ ns.length ≤ 1000 ∧ LamX.Tabs T H ∧ ∀ H', Q (.bl true) H'
def StreamOf (P : Program) (w : World) (K : PySem.W.Frag) (mg : Str → Option Value) (base : Heap) (k : Nat) (x : Str) : Prop :=
  ∃ (f : Addr) (fd : FuncData), FnOk P w K mg base CX0 k f fd ["script"] (spStream K) ∧ mg x = some (.ref f) ∧ PySem.W.keepIn K (.ref f) = true ∧ Binds K fd ["script"] []
theorem pe_stream {X : Cx} {k : Nat} {x : Str} {e : Expr} {p pos : Pos} (G : StreamOf X.prog X.w X.K X.mg X.base k x) (hr : Room k X.A) (he : PE X e (tVar 0)) (hg : Gl X x := by rfl) (hdb : (x == ("__debug__" : Str)) = false := by decide) (hs : starEach [e] X.env = (false, eval e X.env) :: starEach [] X.env := by rfl) (hpl : (backTo pos (starEach [] X.env)).any (·.1) = false := by rfl) :
    PE X (.Call (.Name x p) [e] [] pos) (tCall (spStream X.K) [] E0 (tCons (tVar 0) tNil)) := by
  obtain ⟨f, fd, F, g, kp, b⟩ := G
  exact pe_call F hr hg g kp b .nil pass0 (pa_cons he pa_nil hs) hdb hs hpl
theorem holds_law {K : PySem.W.Frag} {a c : Addr} {H : Hp} {v : V} {m : Nat} {S : Sm} (st : StmOk S H) (es : S.st = some (a, c)) : Holds K S H Pr.none (.any :: .strm :: anys m) (some v :: some (.ref a) :: List.replicate m none) H := by
  have no : ∀ i, (nth (.any :: .strm :: anys m) i).own = false := fun i => by
    rcases i with _ | _ | i
    · rfl
    · rfl
    · show (nth (anys m) i).own = false
      rw [nth_anys]
      rfl
  refine ⟨Ev.refl st, st, by rw [List.length_cons, List.length_cons, List.length_cons, List.length_cons, List.length_replicate, anys_length], fun i => ?_, fun i j q o1 => ?_, fun q o z => z.elim, fun i q o1 => ?_, fun v d z => z.elim⟩
  · rcases i with _ | _ | i
    · trivial
    · exact ⟨a, c, es, rfl⟩
    · show SlotOk K _ _ _ (nth (anys m) i) _
      rw [nth_anys]
      trivial
  · rw [no i] at o1; cases o1
  · rw [no i] at o1; cases o1
section
variable {P : Program} {w : World} {K : PySem.W.Frag} {mg : Str → Option Value} {base : Heap}
theorem law_ok {st s0 : Stmt} {rest : List Stmt} {r : List Str} {k : Nat} {f : Addr} {fd : FuncData} {T : List (Addr × Str)} (F : Fun K "law" "law" st f fd) (Sc : FnScope ("script" :: "stream" :: r) ["script"] (defScope st)) (hb : defBody st = s0 :: rest)
    (hbody : ∀ (cdv : Value) (A : Around) (outer : List Env) (s : Shared) (H : Hp) (E : XK), Room k (A.deeper (envOfC "law" (defScope st) s.heap.objs.size f cdv)) →
      PS (cxOf (L2.CX P w) P w K mg base ("script" :: "stream" :: r) "law" (defScope st) f cdv A outer s H E) s0 (tAsg (tCall (spStream K) [] E0 (tCons (tVar 0) tNil)) (gName 1)) ∧
      ∃ t ds, (∀ S : Sm, S.tb = T → SsD K (cxOf (L2.CX P w) P w K mg base ("script" :: "stream" :: r) "law" (defScope st) f cdv A outer s H E) S (fun cls d _ H => E cls d H) rest t ds) ∧ ds (endsOf (fun x => x = .d (.bl true)) noE) (.any :: .strm :: anys r.length)) :
    FnOk P w K mg base (L2.CX P w) (k + 1) f fd ["script"] (spLaw K T) := by
  refine F.okX Sc (fun vs H Q E h => ?_) (fun cdv A outer s H vs Q E hr h => ?_)
  · obtain ⟨q, ns, rfl, _⟩ := h
    rfl
  · obtain ⟨q, ns, rfl, hS, hl, hT, hq⟩ := h
    obtain ⟨p0, t, ds, hd, hread⟩ := hbody cdv A outer s H E hr
    refine ⟨tSeq (tAsg (tCall (spStream K) [] E0 (tCons (tVar 0) tNil)) (gName 1)) t, by rw [hb]; exact pss_cons p0 (hd ⟨none, T⟩ rfl).2.1, ?_⟩
    refine ⟨.ref q, rfl, q, ns, T, rfl, hS, by omega, hT, fun H' a c ev na st => ?_⟩
    refine (hd ⟨some (a, c), T⟩ rfl).2.2 _ _ hread H' Pr.none _ H' _ (holds_law (v := .ref q) ⟨st, ev.stm.tb⟩ rfl) ⟨fun ρ σ H2 hn ho => ?_, fun ρ σ H2 hn ho => hn.elim, fun ρ σ H2 hn ho => hn.elim, fun x v H2 hx e rr => ?_, fun C ρ σ H2 hn ho => hn.elim⟩
    · cases hn
    · cases hx
      cases rr
      exact hq H2
end
end PL

namespace PL
open PySem PySem.Spec PyProof.Rows L2
/-! ### xs.pop(e) inside: x = [xs.pop(e)], ys.append(xs.pop(e)) -/
theorem seqIx_nat {n k : Nat} (h : k < n) : seqIndex? (k : Int) n = some k := by
  have z : ¬ ((k : Int) < 0) := by omega
  unfold seqIndex?
  simp only [if_neg z]
  rw [if_pos (by simp [h])]
  simp
section
variable {K : PySem.W.Frag} {X : Cx} {S : Sm} {W : WX} {e o : Expr} {te : TE} {de : DE} {pos apos cpos lpos : Pos}
theorem pe_popAt {j : Nat} (ho : PE X o (tVar j)) (he : PE X e te) (hbase : attributeBase o "pop" X.env (eval o X.env) = eval o X.env := by rfl) (hline : (apos.endLine == cpos.line) = true := by rfl)
    (hse : starEach [e] X.env = (false, eval e X.env) :: starEach [] X.env := by rfl) (hfew : ((backTo cpos (starEach (e :: []) X.env)).all (fun x => !x.1) && (backToKw cpos (keywordEach [] X.env)).all (fun x => x.1.isSome)
      && decide ((e :: ([] : List Expr)).length + ([] : List Keyword).length + (if ([] : List Keyword).isEmpty then 0 else 1) < 30)) = true := by rfl) (hpl : (backTo cpos (starEach [] X.env)).any (·.1) = false := by rfl) :
    PE X (.Call (.Attribute o "pop" apos) [e] [] cpos) (tBM X.K "list" rPopAt (tVar j) (tCons te tNil)) :=
  pe_bm PySem.F.plainAttrs_list PySem.F.slot_list_pop PySem.F.type_list_pop mt_popAt ho (pa_cons he pa_nil hse) hbase hfew hline hse hpl
/-- what the pop does, the list xs of the def's own in slot j -/
def dPopAt (j : Nat) (de : DE) (N : D → List A → Prop) (E : RX) (ρ : List A) : Prop := match nth ρ j with
  | .o (.lst xs) => de ρ (fun r => match r with | .d (.int i) => ∃ (k : Nat) (x : D), i = (k : Int) ∧ k < 1000000 ∧ xs[k]? = some x ∧ N x (setA ρ j (.o (.lst (xs.eraseIdx k)))) | _ => False) E
  | _ => False
theorem popAt_reads {j : Nat} {ρ : List A} {N : D → List A → Prop} {E : RX} (he : ∀ ρ P E, de ρ P E → EvP K S W te ρ P E) (hd : dPopAt j de N E ρ) {H0 H : Hp} {pr : Pr} {σ : L2.St} {Q : VK} (hold : Holds K S H0 pr ρ σ H) (w : Wish S W σ H E)
    (q : ∀ x ρ' v H', N x ρ' → Holds K S H0 pr ρ' σ H' → Rep K H' v x → Q v H') : tBM K "list" rPopAt (tVar j) (tCons te tNil) σ H Q := by
  unfold dPopAt at hd
  split at hd
  · next xs z =>
    obtain ⟨l, vs, e1, n0, h1, r1⟩ := hold.lstAt z
    refine ⟨_, getD_get e1, .inl ⟨rfl, vs, SqL.of h1⟩, ?_⟩
    refine he ρ _ _ hd H0 pr σ H _ hold (fun r v H1 hr ev rr => ?_) w
    split at hr
    · next i =>
      obtain ⟨k, x, rfl, hk, hx, hn⟩ := hr
      cases rr
      have hold1 := hold.step ev
      have h2 : H1 l = some (.lst vs) := ev.keep _ _ h1 (hold.st0.fresh n0)
      have r2 := r1.mono ev.tup
      obtain ⟨u, hu, ru⟩ := r2.get hx
      have hlt : k < vs.length := by
        rcases Nat.lt_or_ge k vs.length with z | z
        · exact z
        · rw [List.getElem?_eq_none z] at hu; cases hu
      refine ⟨l, vs, k, k, u, rfl, rfl, h2, by omega, by omega, seqIx_nat hlt, hu, ?_⟩
      exact q x _ u _ hn (hold1.write z e1 (fun _ y => by cases y) fun tk => ⟨_, upd_same, (r2.eraseIdx k).mono tk⟩) (ru.mono (tk_lst h2))
    · exact hr.elim
  · exact hd.elim
/-- x = [xs.pop(e)] -/
def dSetPop (i j : Nat) (de : DE) : DS := fun F ρ => dPopAt j de (fun x ρ' => F.nx (setA ρ' i (.o (.lst [x])))) (fun C => F.ex C ρ) ρ
theorem sd_setPop {i j : Nat} {x : Str} {pos' : Pos} (hN : X.N.Nodup) (hi : X.N[i]? = some x) (hx : Loc X.env.scope x) (ho : PE X o (tVar j)) (he : PD K X S W e te de) (hbase : attributeBase o "pop" X.env (eval o X.env) = eval o X.env := by rfl) (hline : (apos.endLine == cpos.line) = true := by rfl)
    (hse : starEach [e] X.env = (false, eval e X.env) :: starEach [] X.env := by rfl) (hfew : ((backTo cpos (starEach (e :: []) X.env)).all (fun x => !x.1) && (backToKw cpos (keywordEach [] X.env)).all (fun x => x.1.isSome)
      && decide ((e :: ([] : List Expr)).length + ([] : List Keyword).length + (if ([] : List Keyword).isEmpty then 0 else 1) < 30)) = true := by rfl) (hpl : (backTo cpos (starEach [] X.env)).any (·.1) = false := by rfl)
    (hse2 : starEach [.Call (.Attribute o "pop" apos) [e] [] cpos] X.env = (false, eval (.Call (.Attribute o "pop" apos) [e] [] cpos) X.env) :: starEach [] X.env := by rfl)
    (hs : swapsWith (.List [.Call (.Attribute o "pop" apos) [e] [] cpos] lpos) (some (.Name x pos')) pos.line X.env = pure false := by rfl)
    (hf : X.fn x = true ∨ X.env.scope.names.lookup x = some .local := by first | exact .inl rfl | exact .inr rfl) :
    SD K X S W (.Assign [.Name x pos'] (.List [.Call (.Attribute o "pop" apos) [e] [] cpos] lpos) pos) (tAsg (tLst (tCons (tBM K "list" rPopAt (tVar j) (tCons te tNil)) tNil)) (gName i)) (dSetPop i j de) := by
  obtain ⟨hK, p, h⟩ := he
  subst hK
  refine ⟨rfl, ps_set hN hi hx (pe_lst (pa_cons (pe_popAt ho p hbase hline hse hfew hpl) pa_nil hse2)) hs hf, fun ρ F hd H0 pr σ H Dn hold l => ?_⟩
  refine popAt_reads h hd hold (l.wish hold) fun x ρ' v H' hn ho' rv => ⟨by show 1 ≤ sizeLine; rw [sizeLine_eq]; omega, fun a na => ?_⟩
  exact l.nx _ _ _ hn (ho'.storeNew (Ev.new ho'.stm na) na ⟨_, upd_same, .cons (rv.mono (tk_new na)) .nil⟩)
/-- ys.append(xs.pop(e)) -/
def dAppPop (i j : Nat) (de : DE) : DS := fun F ρ => i ≠ j ∧ dPopAt j de (fun x ρ' => match nth ρ' i with | .o (.lst ys) => ys.length < sizeLine ∧ F.nx (setA ρ' i (.o (.lst (ys ++ [x])))) | _ => False) (fun C => F.ex C ρ) ρ ∧ (match nth ρ i with | .o (.lst _) => True | _ => False)
theorem sd_appPop {i j : Nat} {o2 : Expr} {apos2 cpos2 : Pos} (ho2 : PE X o2 (tVar i)) (ho : PE X o (tVar j)) (he : PD K X S W e te de) (hbase : attributeBase o "pop" X.env (eval o X.env) = eval o X.env := by rfl) (hline : (apos.endLine == cpos.line) = true := by rfl)
    (hse : starEach [e] X.env = (false, eval e X.env) :: starEach [] X.env := by rfl) (hfew : ((backTo cpos (starEach (e :: []) X.env)).all (fun x => !x.1) && (backToKw cpos (keywordEach [] X.env)).all (fun x => x.1.isSome)
      && decide ((e :: ([] : List Expr)).length + ([] : List Keyword).length + (if ([] : List Keyword).isEmpty then 0 else 1) < 30)) = true := by rfl) (hpl : (backTo cpos (starEach [] X.env)).any (·.1) = false := by rfl)
    (hbase2 : attributeBase o2 "append" X.env (eval o2 X.env) = eval o2 X.env := by rfl) (hline2 : (apos2.endLine == cpos2.line) = true := by rfl)
    (hse2 : starEach [.Call (.Attribute o "pop" apos) [e] [] cpos] X.env = (false, eval (.Call (.Attribute o "pop" apos) [e] [] cpos) X.env) :: starEach [] X.env := by rfl) (hfew2 : ((backTo cpos2 (starEach (.Call (.Attribute o "pop" apos) [e] [] cpos :: []) X.env)).all (fun x => !x.1) && (backToKw cpos2 (keywordEach [] X.env)).all (fun x => x.1.isSome)
      && decide ((Expr.Call (.Attribute o "pop" apos) [e] [] cpos :: ([] : List Expr)).length + ([] : List Keyword).length + (if ([] : List Keyword).isEmpty then 0 else 1) < 30)) = true := by rfl) (hpl2 : (backTo cpos2 (starEach [] X.env)).any (·.1) = false := by rfl) (hs : swapsWith (.Call (.Attribute o2 "append" apos2) [.Call (.Attribute o "pop" apos) [e] [] cpos] [] cpos2) none pos.line X.env = pure false := by rfl) :
    SD K X S W (.Expr (.Call (.Attribute o2 "append" apos2) [.Call (.Attribute o "pop" apos) [e] [] cpos] [] cpos2) pos) (tDrop (tBM K "list" rAppend (tVar i) (tCons (tBM K "list" rPopAt (tVar j) (tCons te tNil)) tNil))) (dAppPop i j de) := by
  obtain ⟨hK, p, h⟩ := he
  subst hK
  refine ⟨rfl, ps_expr (pe_bm PySem.F.plainAttrs_list PySem.F.slot_list_append PySem.F.type_list_append mt_append ho2 (pa_cons (pe_popAt ho p hbase hline hse hfew hpl) pa_nil hse2) hbase2 hfew2 hline2 hse2 hpl2) hs, fun ρ F hd H0 pr σ H Dn hold l => ?_⟩
  obtain ⟨hij, hd, hi⟩ := hd
  split at hi
  · next ys0 z0 =>
    obtain ⟨q0, vs0, e0, n0, h0, r0⟩ := hold.lstAt z0
    refine ⟨_, getD_get e0, .inl ⟨rfl, vs0, SqL.of h0⟩, ?_⟩
    refine popAt_reads h hd hold (l.wish hold) fun x ρ' v H' hn ho' rv => ?_
    split at hn
    · next ys z =>
      obtain ⟨q, vs, e1, n1, h1, r1⟩ := ho'.lstAt z
      rw [e0] at e1
      cases e1
      refine ⟨_, vs, v, rfl, rfl, h1, by rw [r1.length]; exact hn.1, l.nx _ _ _ hn.2 ?_⟩
      exact ho'.write z e0 (fun _ y => by cases y) fun tk => ⟨_, upd_same, (r1.append (.cons rv .nil)).mono tk⟩
    · exact hn.elim
  · exact hi.elim
end
/-- nothing flies out where nothing may -/
theorem cx_false {P : Program} {w : World} {o : List Env} {H : Hp} {s : Shared} {e : Value} {s' : Shared} (h : L2.CX P w o H s (fun _ _ _ => False) e s') : False := by
  obtain ⟨_, _, _, _, _, _, _, _, _, _, _, _, h⟩ := h
  exact h
/-- an error of the class at C is what «except C» names -/
theorem exm_self {K : PySem.W.Frag} {C : Addr} (h1 : PySem.W.subIn K (.ref C) (.type "BaseException") = some true) (h2 : PySem.W.isClsIn K C = true) (h3 : PySem.W.typeIn K (.ref C) = some (.type "type")) (h4 : PySem.W.subIn K (.ref C) (.ref C) = some true) : PySem.W.exmOne K (.ref C) (.ref C) = some true := by
  have h2' : (PySem.W.clsIn K C).isSome = true := h2
  unfold PySem.W.exmOne PySem.W.kitCls
  simp [h1, h2', h3, h4]
/-! ### room -/
theorem hu64 {k : Nat} {A : Around} (h : Room k A) : A.units + 64 < cLine := h.units
theorem hu65 {k : Nat} {A : Around} (h : Room k A) : A.units + 65 < cLine := by have := h.un; omega
theorem hu1 {k : Nat} {A : Around} (h : Room k A) : A.units + 1 < cLine := by have := h.un; omega
/-- a promise of nothing -/
theorem cal_void {P : Program} {w : World} {K : PySem.W.Frag} {T : List (Addr × Str)} {mg : Str → Option Value} {base : Heap} {CX : CXT} {x : Str} {st : Stmt} {ps : List Str} {k : Nat} {C : Ct} (D : DefOf K mg x st ps) (h : ∀ y, ¬ C.pre y) : Cal P w K T mg base CX k x ps C := by
  obtain ⟨f, fd, F, g, b⟩ := D
  exact ⟨f, fd, ⟨fun vs H Q E ⟨S, y, _, r, _, p, _⟩ => absurd p (h y), fun A outer s H args us vs Q E hr he hb hv ⟨S, y, _, r, _, p, _⟩ => absurd p (h y)⟩, g, F.kp, b⟩
end PL

namespace PL
open PySem PySem.Spec PyProof.Rows L2
section
variable {K : PySem.W.Frag} {X : Cx} {S : Sm} {W : WX} {e a b c o : Expr} {es : List Expr} {ta tb tc te to tv ti : TE} {tl : TA} {da db dc de dv di : DE} {dl : DA} {pos apos cpos pos' : Pos}
/-! ### a new list is taken for data: it is never changed again -/
def tLock (te : TE) : TE := fun σ H Q => te σ H fun x H1 => ∃ q u, x = .ref q ∧ H1 q = some u ∧ Mut (some u) ∧ ∀ od, Q x (upd H1 q (.frz od u))
theorem pe_lock (he : PE X e te) : PE X e (tLock te) := by
  refine ⟨fun pins s σ H Q I h => thn (he.run pins s σ H _ I h) fun v s1 ⟨x, H1, I1, r, q, u, ex, hu, mu, k⟩ => ?_⟩
  obtain ⟨od, I2⟩ := I1.lock hu mu
  exact ⟨x, _, I2, r, k od⟩
def dLock (de : DE) : DE := fun ρ P E => de ρ (fun r => match r with | .n (.lst xs) => P (.d (.lst xs)) | _ => False) E
theorem pd_lock (he : PD K X S W e te de) : PD K X S W e (tLock te) (dLock de) := by
  obtain ⟨hK, p, h⟩ := he
  refine ⟨hK, pe_lock p, fun ρ P E hd H0 pr σ H Q ho q w => ?_⟩
  refine h ρ _ E hd H0 pr σ H _ ho (fun r v H1 hr e1 rr => ?_) w
  split at hr
  · obtain ⟨p', rfl, np, vs, h1, r1⟩ := rr
    refine ⟨p', _, rfl, h1, trivial, fun od => ?_⟩
    have tk : TK H1 (upd H1 p' (.frz od (.lst vs))) := tk_lst h1
    refine q _ _ _ hr ⟨fun b o eb n => ?_, e1.tup.trans tk, e1.stm.upd (ho.stm.fresh np) (ho.stm.cfresh np) (notCode h1)⟩ (.lst upd_same (r1.mono tk))
    rw [upd_ne (ne_of_none eb np)]
    exact e1.keep b o eb n
  · exact hr.elim
/-- such a list where a list is asked -/
def dView (de : DE) : DE := fun ρ P E => de ρ (fun r => match r with | .d (.lst xs) => P (.b (.lst xs)) | _ => False) E
theorem pd_view (he : PD K X S W e te de) : PD K X S W e te (dView de) := by
  obtain ⟨hK, p, h⟩ := he
  refine ⟨hK, p, fun ρ P E hd H0 pr σ H Q ho q w => ?_⟩
  refine h ρ _ E hd H0 pr σ H _ ho (fun r v H1 hr e1 rr => ?_) w
  split at hr
  · cases rr with
    | @lst p' od vs ds h1 r1 => exact q _ _ _ hr e1 ⟨p', rfl, (e1.stm.notTup h1 fun _ z => by cases z), vs, .inr ⟨od, h1⟩, r1⟩
  · exact hr.elim

/-! ### texts -/
def occ (z x : Str) : Bool := !(Builtin.Str.occurrences z x 0 z.length 1).isEmpty
def fInS : R → R → (R → Prop) → Prop := fun x y P => match x, y with | .d (.str i), .d (.str j) => P (.d (.bl (occ j i))) | _, _ => False
def fNotInS : R → R → (R → Prop) → Prop := fun x y P => match x, y with | .d (.str i), .d (.str j) => P (.d (.bl (!occ j i))) | _, _ => False
def rInT : R2 := fun x y H Q => ∃ i j, x = .str i ∧ y = .str j ∧ Q (.bl (!(Builtin.Str.occurrences j i 0 j.length 1).isEmpty)) H
def rNotInT : R2 := fun x y H Q => ∃ i j, x = .str i ∧ y = .str j ∧ Q (.bl (!(!(Builtin.Str.occurrences j i 0 j.length 1).isEmpty))) H
theorem op_fInS : OpP K S rInT fInS := by
  intro H v w x y P Q st hx hy hf q
  unfold fInS at hf
  split at hf
  · cases hx; cases hy; exact ⟨_, _, rfl, rfl, q _ _ H hf (Ev.refl st) (.bl _)⟩
  · exact hf.elim
theorem op_fNotInS : OpP K S rNotInT fNotInS := by
  intro H v w x y P Q st hx hy hf q
  unfold fNotInS at hf
  split at hf
  · cases hx; cases hy; exact ⟨_, _, rfl, rfl, q _ _ H hf (Ev.refl st) (.bl _)⟩
  · exact hf.elim
theorem pd_inS (ha : PD K X S W a ta da) (hb : PD K X S W b tb db) (hm : behindInMarks .In b = false := by with_unfolding_all rfl) : PD K X S W (.Compare a [.In] [b] pos) (tOp rInT ta tb) (dOp fInS da db) := pd_cmp (r := rInT) op_in_str op_fInS ha hb hm
theorem td_inS (ha : PD K X S W a ta da) (hb : PD K X S W b tb db) (hm : behindInMarks .In b = false := by with_unfolding_all rfl) : TD K X S W (.Compare a [.In] [b] pos) (tTest (tOp rInT ta tb)) (tdB (dOp fInS da db)) := td_cmp (r := rInT) op_in_str op_fInS ha hb hm
theorem pd_notInS (ha : PD K X S W a ta da) (hb : PD K X S W b tb db) (hm : behindInMarks .NotIn b = false := by with_unfolding_all rfl) : PD K X S W (.Compare a [.NotIn] [b] pos) (tOp rNotInT ta tb) (dOp fNotInS da db) := pd_cmp (r := rNotInT) op_notIn_str op_fNotInS ha hb hm
theorem td_notInS (ha : PD K X S W a ta da) (hb : PD K X S W b tb db) (hm : behindInMarks .NotIn b = false := by with_unfolding_all rfl) : TD K X S W (.Compare a [.NotIn] [b] pos) (tTest (tOp rNotInT ta tb)) (tdB (dOp fNotInS da db)) := td_cmp (r := rNotInT) op_notIn_str op_fNotInS ha hb hm
/-- s.m(t), both texts -/
def dM1 (g : Str → Str → D) (da db : DE) : DE := fun ρ P E => da ρ (fun x => match x with | .d (.str i) => db ρ (fun y => match y with | .d (.str j) => P (.d (g i j)) | _ => False) E | _ => False) E
theorem pd_m1 {id : String} {name : Str} {g : Str → Str → V} {g' : Str → Str → D} (slot : Slot "str" name id) (ty : typeOf (.builtin id) = pure (.type "method_descriptor")) (rule : MtR X id (fun x xs H Q => ∃ a b, x = .str a ∧ xs = [.str b] ∧ Q (g a b) H)) (hg : ∀ H i j, Rep K H (g i j) (g' i j))
    (ha : PD K X S W o ta da) (hb : PD K X S W e tb db) (hs : starEach [e] X.env = [(false, eval e X.env)] := by rfl) (hbase : attributeBase o name X.env (eval o X.env) = eval o X.env := by rfl) (hline : (apos.endLine == pos.line) = true := by rfl) :
    PD K X S W (.Call (.Attribute o name apos) [e] [] pos) (tM1 (fun x xs H Q => ∃ a b, x = .str a ∧ xs = [.str b] ∧ Q (g a b) H) ta tb) (dM1 g' da db) := by
  obtain ⟨hK, pa, ha⟩ := ha
  obtain ⟨_, pb, hb⟩ := hb
  refine ⟨hK, pe_m1 slot ty rule pa pb hs hbase hline, fun ρ P E hd H0 pr σ H Q ho q w => ?_⟩
  refine ha ρ _ E hd H0 pr σ H _ ho (fun x v H1 hx e1 r1 => ?_) w
  split at hx
  · cases r1
    refine ⟨⟨_, rfl⟩, ?_⟩
    refine hb ρ _ E hx H0 pr σ H1 _ (ho.step e1) (fun y u H2 hy e2 r2 => ?_) (w.step e1)
    split at hy
    · cases r2
      exact ⟨_, _, rfl, rfl, q _ _ H2 hy (e1.trans e2) (hg _ _ _)⟩
    · exact hy.elim
  · exact hx.elim
theorem pd_endswith (ha : PD K X S W o ta da) (hb : PD K X S W e tb db) (hs : starEach [e] X.env = [(false, eval e X.env)] := by rfl) (hbase : attributeBase o "endswith" X.env (eval o X.env) = eval o X.env := by rfl) (hline : (apos.endLine == pos.line) = true := by rfl) :
    PD K X S W (.Call (.Attribute o "endswith" apos) [e] [] pos) (tM1 (fun x xs H Q => ∃ a b, x = .str a ∧ xs = [.str b] ∧ Q (.bl (Txt.endswith a b)) H) ta tb) (dM1 (fun i j => .bl (Txt.endswith i j)) da db) :=
  pd_m1 (g := fun i j => .bl (Txt.endswith i j)) PySem.F.slot_str_endswith PySem.F.type_str_endswith mt_endswith (fun _ _ _ => .bl _) ha hb hs hbase hline
theorem pd_startswith (ha : PD K X S W o ta da) (hb : PD K X S W e tb db) (hs : starEach [e] X.env = [(false, eval e X.env)] := by rfl) (hbase : attributeBase o "startswith" X.env (eval o X.env) = eval o X.env := by rfl) (hline : (apos.endLine == pos.line) = true := by rfl) :
    PD K X S W (.Call (.Attribute o "startswith" apos) [e] [] pos) (tM1 (fun x xs H Q => ∃ a b, x = .str a ∧ xs = [.str b] ∧ Q (.bl (Txt.startswith a b)) H) ta tb) (dM1 (fun i j => .bl (Txt.startswith i j)) da db) :=
  pd_m1 (g := fun i j => .bl (Txt.startswith i j)) PySem.F.slot_str_startswith PySem.F.type_str_startswith mt_startswith (fun _ _ _ => .bl _) ha hb hs hbase hline

/-! ### a text in a tuple or list of texts -/
def strsOf : List D → Option (List Str)
  | [] => some []
  | .str i :: r => (strsOf r).map (i :: ·)
  | _ :: _ => none
theorem strsOf_eq : ∀ {ds : List D} {ns : List Str}, strsOf ds = some ns → ds = ns.map D.str
  | [], _, h => by cases h; rfl
  | .str i :: r, ns, h => by
    unfold strsOf at h
    cases z : strsOf r with
    | none => rw [z] at h; cases h
    | some ms => rw [z] at h; cases h; rw [strsOf_eq z] <;> rfl
  | .non :: _, _, h => by cases h
  | .int _ :: _, _, h => by cases h
  | .bl _ :: _, _, h => by cases h
  | .tup _ :: _, _, h => by cases h
  | .lst _ :: _, _, h => by cases h
theorem strsOf_map (ns : List Str) : strsOf (ns.map D.str) = some ns := by
  induction ns with
  | nil => rfl
  | cons n r ih => show (strsOf (r.map D.str)).map (n :: ·) = _; rw [ih] <;> rfl
def fInTS : R → R → (R → Prop) → Prop := fun x y P => match x, y with
  | .d (.str s), .d (.tup ys) => (match strsOf ys with | some l => P (.d (.bl (decide (s ∈ l)))) | none => False)
  | _, _ => False
theorem inV_strs (s : Str) (l : List Str) : inV (.str s) (l.map V.str) = decide (s ∈ l) := by
  unfold inV
  rw [List.any_map, Bool.eq_iff_iff, List.any_eq_true, decide_eq_true_iff]
  constructor
  · rintro ⟨y, hy, e⟩
    have e : eqV (.str y) (.str s) = true := e
    have e : y = s := by simpa [eqV] using e
    exact e ▸ hy
  · intro h
    refine ⟨s, h, ?_⟩
    show eqV (.str s) (.str s) = true
    simp [eqV]
theorem op_fInTS : OpP K S (rIn K false) fInTS := by
  intro H v w x y P Q st hx hy hf q
  unfold fInTS at hf
  split at hf
  · next s ys =>
    cases z : strsOf ys with
    | none => rw [z] at hf; exact hf.elim
    | some l =>
      rw [z] at hf
      have := strsOf_eq z
      subst this
      cases hx
      cases hy with
      | tup h1 r1 =>
        have e := Reps.strs_of r1
        subst e
        refine ⟨_, _, rfl, .inr h1, rfl, ?_, ?_⟩
        · rw [List.all_map]; exact List.all_eq_true.mpr fun _ _ => rfl
        · show Q (.bl (inV (.str s) (l.map V.str))) H
          rw [inV_strs]
          exact q _ _ H hf (Ev.refl st) (.bl _)
  · exact hf.elim
theorem pd_inTS (ha : PD K X S W a ta da) (hb : PD K X S W b tb db) (hm : behindInMarks .In b = false := by with_unfolding_all rfl) : PD K X S W (.Compare a [.In] [b] pos) (tOp (rIn K false) ta tb) (dOp fInTS da db) := by
  have hK := ha.1
  subst hK
  exact pd_cmp op_in_seq op_fInTS ha hb hm
theorem td_inTS (ha : PD K X S W a ta da) (hb : PD K X S W b tb db) (hm : behindInMarks .In b = false := by with_unfolding_all rfl) : TD K X S W (.Compare a [.In] [b] pos) (tTest (tOp (rIn K false) ta tb)) (tdB (dOp fInTS da db)) := by
  have hK := ha.1
  subst hK
  exact td_cmp op_in_seq op_fInTS ha hb hm

/-! ### calls without arguments; powers; a list some times -/
def dCall0 (C : Ct) : DE := fun ρ P E => ∃ x : C.α, C.args x = [] ∧ C.pre x ∧ (∀ r, C.post x r → P r) ∧ (∀ c, ¬ C.exc x c)
theorem pd_cal0 {C : Ct} {T : List (Addr × Str)} {k : Nat} {ps : List Str} {x : Str} {p : Pos} (G : Cal X.prog X.w X.K T X.mg X.base CX0 k x ps C) (hS : S.tb = T) (hr : Room k X.A) (hg : Gl X x := by rfl) (hdb : (x == ("__debug__" : Str)) = false := by decide) (hK : X.K = K := by rfl) :
    PD K X S W (.Call (.Name x p) [] [] pos) (tCall (SpOf K T C) [] E0 tNil) (dCall0 C) := by
  subst hK
  obtain ⟨f, fd, F, g, kp, b⟩ := G
  refine ⟨rfl, pe_call0 F hr hg g kp b .nil pass0 hdb, fun ρ P E hd H0 pr σ H Q ho q w => ?_⟩
  obtain ⟨y, ey, py, hp, hn⟩ := hd
  exact ⟨S, y, hS, by rw [ey]; exact .nil, ho.stm, py, fun r v H' hq e2 r2 => q r v H' (hp r hq) e2 r2, fun c H' hc _ => absurd hc (hn c)⟩
theorem pd_pow (ha : PD K X S W a ta da) (hb : PD K X S W b tb db) : PD K X S W (.BinOp a .Pow b pos) (tOp (rI CPow fun i j => .int (i ^ j.toNat)) ta tb) (dOp (fI CPow fun i j => .int (i ^ j.toNat)) da db) := pd_op op_pow (op_fI fun _ _ _ => .int _) ha hb
def fRep : R → R → (R → Prop) → Prop := fun x y P => match x, y with
  | .n (.lst xs), .d (.int k) => -(2 ^ 63) ≤ k ∧ k < 2 ^ 63 ∧ xs.length * k.toNat ≤ sizeLine ∧ P (.n (.lst (List.replicate k.toNat xs).flatten))
  | _, _ => False
/-- [..] * k, a new list; the list that is repeated is new, too -/
theorem reps_flat {H : Hp} {vs : List V} {ds : List D} (r : Reps K H vs ds) : ∀ n, Reps K H (List.replicate n vs).flatten (List.replicate n ds).flatten
  | 0 => .nil
  | n + 1 => by rw [List.replicate_succ, List.replicate_succ, List.flatten_cons, List.flatten_cons]; exact r.append (reps_flat r n)
def dRep (da db : DE) : DE := fun ρ P E => da ρ (fun x => match x with | .n (.lst xs) => db ρ (fun y => match y with | .d (.int k) => -(2 ^ 63) ≤ k ∧ k < 2 ^ 63 ∧ xs.length * k.toNat ≤ sizeLine ∧ P (.n (.lst (List.replicate k.toNat xs).flatten)) | _ => False) E | _ => False) E
theorem pd_rep (ha : PD K X S W a ta da) (hb : PD K X S W b tb db) : PD K X S W (.BinOp a .Mult b pos) (tOp rRep ta tb) (dRep da db) := by
  obtain ⟨hK, pa, ha⟩ := ha
  obtain ⟨_, pb, hb⟩ := hb
  subst hK
  refine ⟨rfl, pe_op op_rep pa pb, fun ρ P E hd H0 pr σ H Q ho q w => ?_⟩
  refine ha ρ _ E hd H0 pr σ H _ ho (fun x v H1 hx e1 r1 => ?_) w
  split at hx
  · next xs =>
    obtain ⟨p, rfl, np, vs, h1, r1⟩ := r1
    refine hb ρ _ E hx H0 pr σ H1 _ (ho.step e1) (fun y u H2 hy e2 r2 => ?_) (w.step e1)
    split at hy
    · next k =>
      cases r2
      obtain ⟨k1, k2, hl, hp⟩ := hy
      have h2 : H2 p = some (.lst vs) := e2.keep _ _ h1 (ho.stm.fresh np)
      refine ⟨p, k, vs, rfl, rfl, h2, k1, k2, by rw [r1.length]; exact hl, fun l nl => q _ _ _ hp ((e1.trans e2).trans (Ev.new e2.stm nl)) ⟨l, rfl, (e1.trans e2).back ho.stm nl, _, upd_same, ?_⟩⟩
      exact (reps_flat (r1.mono e2.tup) k.toNat).mono (tk_new nl)
    · exact hy.elim
  · exact hx.elim

/-! ### xs[i] = v, a list of the def's own -/
def dSetIx (j : Nat) (di dv : DE) : DS := fun F ρ => match nth ρ j with
  | .o (.lst xs) => dv ρ (fun r => match r with | .d x => di ρ (fun r => match r with | .d (.int i) => (match ixN xs.length i with | some k => F.nx (setA ρ j (.o (.lst (xs.set k x)))) | none => False) | _ => False) (fun C => F.ex C ρ) | _ => False) (fun C => F.ex C ρ)
  | _ => False
theorem sd_setIx {j : Nat} {i v : Expr} (ho : PE X o (tVar j)) (hi : PD K X S W i ti di) (hv : PD K X S W v tv dv)
    (ha : ∀ u, assign (.Subscript o i pos') X.env u = (do
      let ov ← holding [u] (eval o X.env)
      let iv ← holding [u, ov] (eval i X.env)
      standAt pos'
      holding [u, ov, iv] (setItem ov iv u)
      release [u, ov, iv] []) := by intro _; rfl)
    (hs : swapsWithSole [.Subscript o i pos'] v pos.line X.env = pure false := by rfl) (hw : swappedStores [.Subscript o i pos'] v X.env = pure none := by rfl) (h1 : (assignEach [.Subscript o i pos'] X.env).map (·.2) = [assign (.Subscript o i pos') X.env] := by rfl) :
    SD K X S W (.Assign [.Subscript o i pos'] v pos) (tAsg tv (gSub (tVar j) ti rSetL)) (dSetIx j di dv) := by
  obtain ⟨hK, pi, hi⟩ := hi
  obtain ⟨_, pv, hv⟩ := hv
  refine ⟨hK, ps_asg pv (pg_sub ho pi set_list ha) hs hw h1, fun ρ F hd H0 pr σ H Dn hold l => ?_⟩
  unfold dSetIx at hd
  split at hd
  · next xs z =>
    refine hv ρ _ _ hd H0 pr σ H _ hold (fun r u H1 hr e1 rr => ?_) (l.wish hold)
    split at hr
    · next x =>
      obtain ⟨q, vs, eq, n0, h1, r1⟩ := hold.lstAt z
      refine ⟨.ref q, getD_get eq, ?_⟩
      refine hi ρ _ _ hr H0 pr σ H1 _ (hold.step e1) (fun r2 u2 H2 hr2 e2 rr2 => ?_) ((l.wish hold).step e1)
      split at hr2
      · next i =>
        cases rr2
        have e12 := e1.trans e2
        have h2 : H2 q = some (.lst vs) := e12.keep _ _ h1 (hold.st0.fresh n0)
        have r2 := r1.mono e12.tup
        cases zi : ixN xs.length i with
        | none => rw [zi] at hr2; exact hr2.elim
        | some k =>
          rw [zi] at hr2
          refine ⟨q, vs, i, k, rfl, rfl, h2, by rw [r2.length]; exact zi, l.nx _ _ _ hr2 ?_⟩
          exact (hold.step e12).write z eq (fun _ y => by cases y) fun tk => ⟨_, upd_same, (Reps.set (rr.mono e2.tup) k r2).mono tk⟩
      · exact hr2.elim
    · exact hr.elim
  · exact hd.elim
end
end PL

namespace PL
open PySem PySem.Spec PyProof.Rows L2
/-! ### dicts of data, keys ints and texts -/
section
variable {κ : Type} [DecidableEq κ]
def valD : List (κ × D) → κ → Option D
  | [], _ => none
  | p :: r, k => if p.1 = k then some p.2 else valD r k
theorem valD_ok {K : PySem.W.Frag} {H : Hp} {k : κ} : ∀ {ws : List (κ × V)} {ds : List (κ × D)}, KVs K H ws ds → (valD ds k = none → valV ws k = none) ∧ ∀ x, valD ds k = some x → ∃ v, valV ws k = some v ∧ Rep K H v x
  | _, _, .nil => ⟨fun _ => rfl, fun x h => by cases h⟩
  | _, _, .cons (a := p) (b := q) r t => by
    by_cases e : q.1 = k
    · have e' : p.1 = k := r.1.trans e
      unfold valD
      rw [if_pos e]
      refine ⟨(fun h => by cases h), fun x h => ?_⟩
      cases h
      exact ⟨p.2, valV_pos e', r.2⟩
    · have e' : ¬ p.1 = k := fun z => e (r.1.symm.trans z)
      unfold valD
      rw [if_neg e]
      obtain ⟨h1, h2⟩ := valD_ok (k := k) t
      exact ⟨fun h => by rw [valV_neg e']; exact h1 h, fun x h => by rw [valV_neg e']; exact h2 x h⟩
end
def dkOf : R → Option (List (Key × D))
  | .n (.dk kvs) => some kvs
  | .b (.dk kvs) => some kvs
  | .b (.kk kvs) => some kvs
  | .b (.ll kvs) => some kvs
  | _ => none
theorem dkOf_ok {K : PySem.W.Frag} {S : Sm} {H : Hp} {v : V} {r : R} {kvs : List (Key × D)} (h : RepV K S H v r) (e : dkOf r = some kvs) : ∃ q ws, v = .ref q ∧ NotS S q ∧ Rd H q (.dK ws) ∧ KVs K H ws kvs := by
  unfold dkOf at e
  split at e
  · cases e; obtain ⟨q, ev, n, ws, h1, r1⟩ := h; exact ⟨q, ws, ev, n, .inl h1, r1⟩
  · cases e; obtain ⟨q, ev, n, ws, h1, r1⟩ := h; exact ⟨q, ws, ev, n, .inl h1, r1⟩
  · cases e; obtain ⟨q, ev, n, ws, h1, r1⟩ := h; exact ⟨q, ws, ev, n, h1, r1⟩
  · cases e; obtain ⟨q, ev, n, od, ws, h1, r1⟩ := h; exact ⟨q, ws, ev, n, .inr ⟨od, h1⟩, r1⟩
  · cases e
/-- a dict that is not locked -/
def dkS : R → Option (List (Key × D))
  | .n (.dk kvs) => some kvs
  | .b (.dk kvs) => some kvs
  | _ => none
theorem dkS_ok {K : PySem.W.Frag} {S : Sm} {H : Hp} {v : V} {r : R} {kvs : List (Key × D)} (h : RepV K S H v r) (e : dkS r = some kvs) : ∃ q ws, v = .ref q ∧ NotS S q ∧ H q = some (.dK ws) ∧ KVs K H ws kvs := by
  unfold dkS at e
  split at e
  · cases e; obtain ⟨q, ev, n, ws, h1, r1⟩ := h; exact ⟨q, ws, ev, n, h1, r1⟩
  · cases e; obtain ⟨q, ev, n, ws, h1, r1⟩ := h; exact ⟨q, ws, ev, n, h1, r1⟩
  · cases e
section
variable {K : PySem.W.Frag} {X : Cx} {S : Sm} {W : WX} {e a b c o : Expr} {es : List Expr} {ta tb tc te to tv ti : TE} {tl : TA} {da db dc de dv di : DE} {dl : DA} {pos apos cpos pos' : Pos}
/-- {} -/
def dNewD : DE := fun _ P _ => P (.n (.dk []))
theorem pd_dnew (hK : X.K = K := by rfl) : PD K X S W (.Dict [] [] pos) tDNewK dNewD :=
  ⟨hK, pe_dnewK, fun ρ P E hp H0 pr σ H Q ho q _ => fun p np => q _ _ _ hp (Ev.new ho.stm np) ⟨p, rfl, np, [], upd_same, .nil⟩⟩
/-- k in d -/
def dInD (neg : Bool) (dk dd : DE) : DE := fun ρ P E => dk ρ (fun x => match keyR x with | some k => dd ρ (fun y => match dkOf y with | some kvs => P (.d (.bl (if neg then !(valD kvs k).isSome else (valD kvs k).isSome))) | none => False) E | none => False) E
theorem dget_reads {H : Hp} {q : Addr} {ws : List (Key × V)} {kvs : List (Key × D)} {k : Key} (h1 : Rd H q (.dK ws)) (r : KVs K H ws kvs) : ∃ o, DGet H q (kV k) o ∧ o.isSome = (valD kvs k).isSome := by
  refine ⟨valV ws k, .inl ⟨ws, k, h1, rfl, rfl⟩, ?_⟩
  obtain ⟨v1, v2⟩ := valD_ok (k := k) r
  cases z : valD kvs k with
  | none => rw [v1 z]; rfl
  | some x => obtain ⟨v, e, _⟩ := v2 x z; rw [e]; rfl
theorem evp_inD (ha : ∀ ρ P E, da ρ P E → EvP K S W ta ρ P E) (hb : ∀ ρ P E, db ρ P E → EvP K S W tb ρ P E) : ∀ ρ P E, dInD false da db ρ P E → EvP K S W (tDIn ta tb) ρ P E := by
  intro ρ P E hd H0 pr σ H Q ho q w
  refine ha ρ _ E hd H0 pr σ H _ ho (fun x v H1 hx e1 r1 => ?_) w
  cases ek : keyR x with
  | none => rw [ek] at hx; exact hx.elim
  | some k =>
    rw [ek] at hx
    have ev : v = kV k := keyR_ok (r1.val ho.stm) ek
    subst ev
    refine hb ρ _ E hx H0 pr σ H1 _ (ho.step e1) (fun y u H2 hy e2 r2 => ?_) (w.step e1)
    cases ed : dkOf y with
    | none => rw [ed] at hy; exact hy.elim
    | some kvs =>
      rw [ed] at hy
      obtain ⟨p, ws, rfl, _, h2, rr⟩ := dkOf_ok (r2.val e1.stm) ed
      obtain ⟨ov, g, eo⟩ := dget_reads (k := k) h2 rr
      exact ⟨p, ov, rfl, g, by rw [eo]; exact q _ _ H2 hy (e1.trans e2) (.bl _)⟩
theorem evp_notInD (ha : ∀ ρ P E, da ρ P E → EvP K S W ta ρ P E) (hb : ∀ ρ P E, db ρ P E → EvP K S W tb ρ P E) : ∀ ρ P E, dInD true da db ρ P E → EvP K S W (tDNotIn ta tb) ρ P E := by
  intro ρ P E hd H0 pr σ H Q ho q w
  refine ha ρ _ E hd H0 pr σ H _ ho (fun x v H1 hx e1 r1 => ?_) w
  cases ek : keyR x with
  | none => rw [ek] at hx; exact hx.elim
  | some k =>
    rw [ek] at hx
    have ev : v = kV k := keyR_ok (r1.val ho.stm) ek
    subst ev
    refine hb ρ _ E hx H0 pr σ H1 _ (ho.step e1) (fun y u H2 hy e2 r2 => ?_) (w.step e1)
    cases ed : dkOf y with
    | none => rw [ed] at hy; exact hy.elim
    | some kvs =>
      rw [ed] at hy
      obtain ⟨p, ws, rfl, _, h2, rr⟩ := dkOf_ok (r2.val e1.stm) ed
      obtain ⟨ov, g, eo⟩ := dget_reads (k := k) h2 rr
      exact ⟨p, ov, rfl, g, by rw [eo]; exact q _ _ H2 hy (e1.trans e2) (.bl _)⟩
theorem pd_inDk (hu : X.A.units + 1 < cLine) (ha : PD K X S W a ta da) (hb : PD K X S W b tb db) (hm : behindInMarks .In b = false := by with_unfolding_all rfl) : PD K X S W (.Compare a [.In] [b] pos) (tDIn ta tb) (dInD false da db) := by
  obtain ⟨hK, pa, ha⟩ := ha
  obtain ⟨_, pb, hb⟩ := hb
  exact ⟨hK, pe_cmp (pc_din hu pa pb) hm, evp_inD ha hb⟩
theorem td_inDk (hu : X.A.units + 1 < cLine) (ha : PD K X S W a ta da) (hb : PD K X S W b tb db) (hm : behindInMarks .In b = false := by with_unfolding_all rfl) : TD K X S W (.Compare a [.In] [b] pos) (tB (tDIn ta tb)) (tdB (dInD false da db)) := by
  obtain ⟨hK, pa, ha⟩ := ha
  obtain ⟨_, pb, hb⟩ := hb
  exact ⟨hK, pt_cmp (pc_din hu pa pb) hm, evb_of (evp_inD ha hb)⟩
theorem td_notInDk (hu : X.A.units + 1 < cLine) (ha : PD K X S W a ta da) (hb : PD K X S W b tb db) (hm : behindInMarks .NotIn b = false := by with_unfolding_all rfl) : TD K X S W (.Compare a [.NotIn] [b] pos) (tB (tDNotIn ta tb)) (tdB (dInD true da db)) := by
  obtain ⟨hK, pa, ha⟩ := ha
  obtain ⟨_, pb, hb⟩ := hb
  exact ⟨hK, pt_cmp (pc_dnotin hu pa pb) hm, evb_of (evp_notInD ha hb)⟩
/-- d[k], there -/
def dGetD (dd dk : DE) : DE := fun ρ P E => dd ρ (fun y => match dkOf y with | some kvs => dk ρ (fun x => match keyR x with | some k => (match valD kvs k with | some z => P (.d z) | none => False) | none => False) E | none => False) E
theorem pd_getD (hu : X.A.units + 1 < cLine) (ha : PD K X S W a ta da) (hb : PD K X S W b tb db) (hs : NoSl b := by exact fun _ _ => rfl) : PD K X S W (.Subscript a b pos) (tDGet ta tb) (dGetD da db) := by
  obtain ⟨hK, pa, ha⟩ := ha
  obtain ⟨_, pb, hb⟩ := hb
  refine ⟨hK, pe_dget hu pa pb hs, fun ρ P E hd H0 pr σ H Q ho q w => ?_⟩
  refine ha ρ _ E hd H0 pr σ H _ ho (fun y u H1 hy e1 r1 => ?_) w
  cases ed : dkOf y with
  | none => rw [ed] at hy; exact hy.elim
  | some kvs =>
    rw [ed] at hy
    refine hb ρ _ E hy H0 pr σ H1 _ (ho.step e1) (fun x v H2 hx e2 r2 => ?_) (w.step e1)
    cases ek : keyR x with
    | none => rw [ek] at hx; exact hx.elim
    | some k =>
      rw [ek] at hx
      have ev : v = kV k := keyR_ok (r2.val e1.stm) ek
      subst ev
      have hx : (match valD kvs k with | some z => P (.d z) | none => False) := hx
      cases ez : valD kvs k with
      | none => rw [ez] at hx; exact hx.elim
      | some z =>
        rw [ez] at hx
        obtain ⟨p, ws, rfl, np, h1, rr⟩ := dkOf_ok (r1.val ho.stm) ed
        have h2 : Rd H2 p (.dK ws) := e2.rd np h1
        obtain ⟨_, v2⟩ := valD_ok (k := k) (rr.mono e2.tup)
        obtain ⟨vv, ev, rv⟩ := v2 z ez
        exact ⟨p, vv, rfl, .inl ⟨ws, k, h2, rfl, ev.symm⟩, q _ _ H2 hx (e1.trans e2) rv⟩
/-- d[k] = v, d a dict of the def's own -/
def dPutD (j : Nat) (dk dv : DE) : DS := fun F ρ => match nth ρ j with
  | .o (.dk kvs) => dv ρ (fun r => match r with | .d x => dk ρ (fun y => match keyR y with | some k => kvs.length < sizeLine ∧ F.nx (setA ρ j (.o (.dk (putD kvs k x)))) | none => False) (fun C => F.ex C ρ) | _ => False) (fun C => F.ex C ρ)
  | _ => False
theorem Holds.dkAt {H0 H : Hp} {pr : Pr} {ρ : List A} {σ : L2.St} {i : Nat} {kvs : List (Key × D)} (h : Holds K S H0 pr ρ σ H) (z : nth ρ i = .o (.dk kvs)) : ∃ q ws, σ.getD i none = some (.ref q) ∧ H0 q = none ∧ H q = some (.dK ws) ∧ KVs K H ws kvs := by
  have s := h.slot i
  rw [z] at s
  obtain ⟨q, e1, n0, ws, h1, r1⟩ := s
  exact ⟨q, ws, e1, n0, h1, r1⟩
theorem sd_putD {j : Nat} {i v : Expr} (hu : X.A.units + 1 < cLine) (ho : PE X o (tVar j)) (hi : PD K X S W i ti di) (hv : PD K X S W v tv dv) (hs : swapsWith v (some (.Subscript o i pos')) pos.line X.env = pure false := by rfl) :
    SD K X S W (.Assign [.Subscript o i pos'] v pos) (sDPut (tVar j) ti tv) (dPutD j di dv) := by
  obtain ⟨hK, pi, hi⟩ := hi
  obtain ⟨_, pv, hv⟩ := hv
  refine ⟨hK, ps_dput hu ho pi pv hs, fun ρ F hd H0 pr σ H Dn hold l => ?_⟩
  unfold dPutD at hd
  split at hd
  · next kvs z =>
    refine hv ρ _ _ hd H0 pr σ H _ hold (fun r u H1 hr e1 rr => ?_) (l.wish hold)
    split at hr
    · next x =>
      obtain ⟨q, ws, eq, n0, h1, r1⟩ := hold.dkAt z
      refine ⟨.ref q, getD_get eq, ?_⟩
      refine hi ρ _ _ hr H0 pr σ H1 _ (hold.step e1) (fun r2 u2 H2 hr2 e2 rr2 => ?_) ((l.wish hold).step e1)
      cases ek : keyR r2 with
      | none => rw [ek] at hr2; exact hr2.elim
      | some k =>
        rw [ek] at hr2
        have ev : u2 = kV k := keyR_ok (rr2.val (hold.step e1).stm) ek
        subst ev
        have e12 := e1.trans e2
        have h2 : H2 q = some (.dK ws) := e12.keep _ _ h1 (hold.st0.fresh n0)
        have r2 := r1.mono e12.tup
        have hl : ws.length = kvs.length := r2.length
        refine ⟨q, _, rfl, .inl ⟨ws, k, h2, rfl, by rw [hl]; exact hr2.1, rfl⟩, l.nx _ _ _ hr2.2 ?_⟩
        exact (hold.step e12).write z eq (fun _ y => by cases y) fun tk => ⟨_, upd_same, (kvs_put (rr.mono e2.tup) r2).mono tk⟩
    · exact hr.elim
  · exact hd.elim
/-- if d.setdefault(k, v) != w: ..  (d a dict of the def's own) -/
def dIfSetd (j : Nat) (dk dv dw : DE) (t u : DS) : DS := fun F ρ => match nth ρ j with
  | .o (.dk kvs) => dk ρ (fun y => match keyR y with
    | some k => dv ρ (fun r => match r with
      | .d x => kvs.length < sizeLine ∧ (let ρ' := if (valD kvs k).isSome then ρ else setA ρ j (.o (.dk (putD kvs k x)))
          dw ρ' (fun r2 => match r2 with
            | .d z => SeqAt.shaped ((valD kvs k).getD x).py = true ∧ SeqAt.shaped z.py = true ∧ (if (!PyData.eqv ((valD kvs k).getD x).py z.py) = true then t F ρ' else u F ρ')
            | _ => False) (fun C => F.ex C ρ'))
      | _ => False) (fun C => F.ex C ρ)
    | none => False) (fun C => F.ex C ρ)
  | _ => False
theorem putD_new {κ : Type} [DecidableEq κ] {kvs : List (κ × D)} {k : κ} {x : D} (h : valD kvs k = none) : putD kvs k x = kvs ++ [(k, x)] := by
  have : ∀ kvs : List (κ × D), valD kvs k = none → (kvs.any fun kv => decide (kv.1 = k)) = false := by
    intro kvs
    induction kvs with
    | nil => intro _; rfl
    | cons p r ih =>
      intro h
      unfold valD at h
      by_cases e : p.1 = k
      · rw [if_pos e] at h; cases h
      · rw [if_neg e] at h
        rw [List.any_cons, ih h, decide_eq_false e]
        rfl
  unfold putD
  rw [this kvs h]
  rfl
theorem sd_ifSetd {j : Nat} {k v wv : Expr} {tk tw : TE} {dk dw : DE} {sa sb : List Stmt} {t u : TS} {d1 d2 : DS} (hu : X.A.units + 64 < cLine) (ho : PE X o (tVar j)) (hk : PD K X S W k tk dk) (hv : PD K X S W v tv dv) (hw : PD K X S W wv tw dw) (h1 : SsD K X S W sa t d1) (h2 : SsD K X S W sb u d2)
    (m : M2 X o "setdefault" apos k v cpos := by exact ⟨rfl, rfl, rfl, rfl⟩) :
    SD K X S W (.If (.Compare (.Call (.Attribute o "setdefault" apos) [k, v] [] cpos) [.NotEq] [wv] pos) sa sb pos') (tIfS (tTest (tOp (rNeD K) (tDSetd (tVar j) tk tv) tw)) t u) (dIfSetd j dk dv dw d1 d2) := by
  obtain ⟨hK, pk, hk⟩ := hk
  obtain ⟨_, pv, hv⟩ := hv
  obtain ⟨_, pw, hw⟩ := hw
  obtain ⟨_, pt, h1⟩ := h1
  obtain ⟨_, pu, h2⟩ := h2
  subst hK
  refine ⟨rfl, ps_if (pt_cmpR (op_neD hu) (pe_dsetd ho pk pv m) pw (nomark _)) pt pu, fun ρ F hd H0 pr σ H Dn hold l => ?_⟩
  unfold dIfSetd at hd
  split at hd
  · next kvs z =>
    obtain ⟨q, ws, eq, n0, e0, r0⟩ := hold.dkAt z
    refine ⟨.ref q, getD_get eq, q, rfl, .inl ⟨ws, .inl e0⟩, ?_⟩
    refine hk ρ _ _ hd H0 pr σ H _ hold (fun y uy H1 hy e1 ry => ?_) (l.wish hold)
    cases ek : keyR y with
    | none => rw [ek] at hy; exact hy.elim
    | some kk =>
      rw [ek] at hy
      have ev : uy = kV kk := keyR_ok (ry.val hold.stm) ek
      subst ev
      refine hv ρ _ _ hy H0 pr σ H1 _ (hold.step e1) (fun x ux H2 hx e2 rx => ?_) ((l.wish hold).step e1)
      split at hx
      · next xd =>
        obtain ⟨hl, hx⟩ := hx
        have e12 := e1.trans e2
        have hold2 := hold.step e12
        have g2 : H2 q = some (.dK ws) := e12.keep _ _ e0 (hold.st0.fresh n0)
        have r2 := r0.mono e12.tup
        have hlen : ws.length = kvs.length := r2.length
        obtain ⟨v1, v2⟩ := valD_ok (k := kk) r2
        refine ⟨ws, kk, g2, rfl, by rw [hlen]; exact hl, fun vv hvv => ?_, fun hvn => ?_⟩
        · -- there
          cases zv : valD kvs kk with
          | none => rw [v1 zv] at hvv; cases hvv
          | some d =>
            obtain ⟨v3, ev3, rv3⟩ := v2 d zv
            rw [hvv] at ev3
            cases ev3
            rw [zv] at hx
            refine hw ρ _ _ hx H0 pr σ H2 _ hold2 (fun w uw H3 hw3 e3 rw3 => ?_) (l.wish hold2)
            split at hw3
            · next zd =>
              obtain ⟨s1, s2, hb⟩ := hw3
              refine ⟨_, _, Rep.dp (rv3.mono e3.tup), Rep.dp rw3, s1, s2, _, rfl, ?_⟩
              have hold3 := hold2.step e3
              by_cases c : (!PyData.eqv ((some d).getD xd).py zd.py) = true
              · rw [if_pos c] at hb
                show if (!PyData.eqv ((some d).getD xd).py zd.py) = true then _ else _
                rw [if_pos c]
                exact h1 ρ F hb H0 pr σ H3 Dn hold3 l
              · rw [if_neg c] at hb
                show if (!PyData.eqv ((some d).getD xd).py zd.py) = true then _ else _
                rw [if_neg c]
                exact h2 ρ F hb H0 pr σ H3 Dn hold3 l
            · exact hw3.elim
        · -- new
          cases zv : valD kvs kk with
          | some d =>
            obtain ⟨v3, ev3, _⟩ := v2 d zv
            rw [hvn] at ev3
            cases ev3
          | none =>
            rw [zv] at hx
            have hold2' : Holds X.K S H0 pr (setA ρ j (.o (.dk (putD kvs kk xd)))) σ (upd H2 q (.dK (putK ws kk ux))) := hold2.write z eq (fun _ y => by cases y) fun tk => ⟨_, upd_same, (kvs_put rx r2).mono tk⟩
            have tkk : TK H2 (upd H2 q (.dK (putK ws kk ux))) := tk_mut g2 (fun _ y => by cases y) fun _ _ y => by cases y
            refine hw _ _ _ hx H0 pr σ _ _ hold2' (fun w uw H3 hw3 e3 rw3 => ?_) (l.wish hold2')
            split at hw3
            · next zd =>
              obtain ⟨s1, s2, hb⟩ := hw3
              refine ⟨_, _, Rep.dp ((rx.mono tkk).mono e3.tup), Rep.dp rw3, s1, s2, _, rfl, ?_⟩
              have hold3 := hold2'.step e3
              by_cases c : (!PyData.eqv ((none : Option D).getD xd).py zd.py) = true
              · rw [if_pos c] at hb
                show if (!PyData.eqv ((none : Option D).getD xd).py zd.py) = true then _ else _
                rw [if_pos c]
                exact h1 _ F hb H0 pr σ H3 Dn hold3 l
              · rw [if_neg c] at hb
                show if (!PyData.eqv ((none : Option D).getD xd).py zd.py) = true then _ else _
                rw [if_neg c]
                exact h2 _ F hb H0 pr σ H3 Dn hold3 l
            · exact hw3.elim
      · exact hx.elim
  · exact hd.elim
end
end PL

/-! PL15: lambdas with parameters, handed to a def that calls them -/
namespace PL
open PySem PySem.Spec PyProof.Rows L2 LamX NdefX
structure Lw where
  qual : Str
  params : Arguments
  body : Expr
  scope : Scope
  cl : List (Str × Addr)
  c : Addr
abbrev Lw.nf (F : Lw) : NF := ⟨"<lambda>", F.qual, F.params, [], F.scope, F.cl, F.c⟩
/-- the object at f is the lambda F -/
def LamO (f : Addr) (F : Lw) : HO := .ext fun h => ∃ (pm ctv : Value), h.get? f = some (PySem.W.kla_obj "<lambda>" F.qual F.params F.body F.scope F.cl pm F.c ctv)
theorem lamO_at {P : Program} {w : World} {H : Hp} {h : Heap} {f : Addr} {F : Lw} (hok : HOk P w H h) (e : H f = some (LamO f F)) : ∃ (pm ctv : Value), h.get? f = some (PySem.W.kla_obj "<lambda>" F.qual F.params F.body F.scope F.cl pm F.c ctv) := by
  obtain ⟨z, _, _⟩ := hok f _ e
  exact z
section
variable {X : Cx} {pins : List (Addr × Obj)} {σ : L2.St} {H : Hp} {s : Shared}
theorem inv_lam {F : Lw} {t' : Nat} {pm ctv : Value} (I : Inv X pins σ H s) :
    Inv X pins σ (upd H s.heap.objs.size (LamO s.heap.objs.size F)) { s with heap := s.heap.push (PySem.W.kla_obj "<lambda>" F.qual F.params F.body F.scope F.cl pm F.c ctv), toks := t' } := by
  refine I.laid (a := s.heap.objs.size) (fun b u e => Heap.get?_push_of_some _ e) (Nat.le_refl _) ?_
  have e : (s.heap.push (PySem.W.kla_obj "<lambda>" F.qual F.params F.body F.scope F.cl pm F.c ctv)).get? s.heap.objs.size = some (PySem.W.kla_obj "<lambda>" F.qual F.params F.body F.scope F.cl pm F.c ctv) := Heap.get?_push_size _ rfl
  exact ⟨⟨pm, ctv, e⟩, ⟨_, e⟩, fun h1 h2 ⟨p, t, z⟩ st => ⟨p, t, st _ z⟩⟩
/-- what the making of a lambda does -/
structure LamNew (T : List (Addr × Str)) (H H1 : Hp) : Prop where
  keep : ∀ b o, H b = some o → (∀ p ∈ T, b ≠ p.1) → H1 b = some o
  tb : Tabs T H1
theorem LamNew.tk {T : List (Addr × Str)} {H1 : Hp} (n : LamNew T H H1) (hT : Tabs T H) : TK H H1 := by
  have ne : ∀ {b o}, H b = some o → (∀ ps, o ≠ .tbl ps) → ∀ p ∈ T, b ≠ p.1 := fun {b o} e nt p hp z => by
    obtain ⟨ps, e1, _⟩ := hT p hp
    rw [← z, e] at e1
    exact nt _ (Option.some.inj e1)
  refine ⟨fun p xs h => ?_, fun p od xs h => n.keep _ _ h (ne h fun _ z => by cases z)⟩
  rcases h with h | ⟨z, h⟩
  · exact .inl (n.keep _ _ h (ne h fun _ z => by cases z))
  · exact .inr ⟨z, n.keep _ _ h (ne h fun _ z => by cases z)⟩
theorem LamNew.ev {S : Sm} {H1 : Hp} (n : LamNew S.tb H H1) (st : StmOk S H) : Ev S H H1 := by
  refine ⟨fun b o e ns => n.keep b o e ns.tb, n.tk st.tb, ?_, n.tb⟩
  have h1 := st.st
  cases e : S.st with
  | none => trivial
  | some z =>
    obtain ⟨a, c⟩ := z
    rw [e] at h1
    obtain ⟨ns, cur, pos, mix, e1, e2, r⟩ := h1
    have ne : ∀ {b : Addr} {xs : List V}, H b = some (.lst xs) → ∀ p ∈ S.tb, b ≠ p.1 := fun {b xs} e p hp z => by
      obtain ⟨ps, e1, _⟩ := st.tb p hp
      rw [← z, e] at e1
      cases e1
    exact ⟨ns, cur, pos, mix, n.keep _ _ e1 (ne e1), n.keep _ _ e2 (ne e2), r⟩
theorem lam_new {T : List (Addr × Str)} {c P : Addr} {params : Arguments} {body : Expr} {scope : Scope} {pos : Pos} {E : Value → Shared → Prop} {Q : Value → Shared → Prop} (I : Inv X pins σ H s) (TB : TabB X.base X.mg c P) (hcode : X.env.code = .ref c)
    (hm : (P, X.env.qual ++ "<lambda>") ∈ T) (hu : ∀ p ∈ T, p.1 = P → p.2 = X.env.qual ++ "<lambda>") (hT : Tabs T H) (hdef : defaultsOf params X.env = ([], [])) (hfree : ∀ y ∈ scope.names, y.2 = .free → ∃ c, X.env.cells.lookup y.1 = some c)
    (h : ∀ (f c' : Addr) (H1 : Hp) (s' : Shared), Inv X pins σ H1 s' → LamNew T H H1 → H f = none → H1 f = some (LamO f ⟨X.env.qual ++ "<lambda>", params, body, scope, cloFrom X.env.cells scope.names [], c'⟩) → H1 c' = some (CodeO c' (X.env.qual ++ "<lambda>")) → Q (.ref f) s') :
    wpAny (model X.prog X.w) X.A (eval (.Lambda params body scope pos) X.env) Q E s := by
  obtain ⟨tps, atP, trip, among⟩ := hT _ hm
  have blt : s.heap.BuiltinsAt X.mg P := TB.bm.keeps I.bk
  have objP : s.heap.get? P = some { cls := .none, data := .fields tps } := I.hok P _ atP
  refine PySem.W.kla_eval hdef ?_
  cases found : codeAmong pos tps.toList with
  | some cv =>
    obtain ⟨c', rfl, isC⟩ := among pos cv found
    refine PySem.W.kla_makeFunctionHit (mg := X.mg) (c := c) (P := P) (ps := tps) (closure_ok hfree) I.ok.glob (I.mod.glob.keeps I.bk) hcode (TB.code.keeps I.bk) objP trip found blt fun ctv h' tk grow big => ?_
    have J : Inv X pins σ H { s with heap := h', toks := tk } := I.kept grow
    have J2 := inv_lam (F := ⟨X.env.qual ++ "<lambda>", params, body, scope, cloFrom X.env.cells scope.names [], c'⟩) (t' := tk) (pm := (X.mg "__name__").getD .none) (ctv := ctv) J
    have newF : H h'.objs.size = none := J.hok.fresh (Nat.le_refl _)
    have stay : ∀ b o, H b = some o → upd H h'.objs.size (LamO h'.objs.size ⟨X.env.qual ++ "<lambda>", params, body, scope, cloFrom X.env.cells scope.names [], c'⟩) b = some o := fun b o e => by rw [upd_ne (ne_of_none e newF)]; exact e
    exact h h'.objs.size c' _ _ J2 ⟨fun b o e _ => stay b o e, hT.ext stay⟩ newF upd_same (stay _ _ isC)
  | none =>
    refine PySem.W.kla_makeFunction (mg := X.mg) (c := c) (P := P) (ps := tps) (closure_ok hfree) I.ok.glob (I.mod.glob.keeps I.bk) hcode (TB.code.keeps I.bk) objP trip found TB.gP blt fun c' ctv h' tk grow ge lt rec atT => ?_
    obtain ⟨c2, oc, vs, t, e2, hoc, hd, hv⟩ := rec
    cases e2
    have newC : H c' = none := I.hok.fresh ge
    have J := inv_table (t' := tk) (more := #[rawInt pos.line, rawInt pos.col, .ref c']) (h' := h') I atP grow atT ge ⟨oc, vs, t, hoc, hd, hv⟩
    have J2 := inv_lam (F := ⟨X.env.qual ++ "<lambda>", params, body, scope, cloFrom X.env.cells scope.names [], c'⟩) (t' := tk) (pm := (X.mg "__name__").getD .none) (ctv := ctv) J
    have newF := J.hok.fresh (Nat.le_refl _)
    have newF0 : H h'.objs.size = none := I.hok.fresh (Nat.le_trans ge (Nat.le_of_lt lt))
    have nPF : P ≠ h'.objs.size := ne_of_none atP newF0
    have nCF : c' ≠ h'.objs.size := Nat.ne_of_lt lt
    have nPC : P ≠ c' := ne_of_none atP newC
    have stay : ∀ b o, H b = some o → b ≠ P → upd (upd (upd H P (.tbl (tps ++ #[rawInt pos.line, rawInt pos.col, .ref c']))) c' (CodeO c' (X.env.qual ++ "<lambda>"))) h'.objs.size (LamO h'.objs.size ⟨X.env.qual ++ "<lambda>", params, body, scope, cloFrom X.env.cells scope.names [], c'⟩) b = some o := fun b o e nb => by
      rw [upd_ne (ne_of_none e newF0), upd_ne (ne_of_none e newC), upd_ne nb]
      exact e
    have stayC : ∀ (d : Addr) (x : Str), H d = some (CodeO d x) → d ≠ P := fun d x e z => by
      rw [z, atP] at e
      exact codeO_ne _ (Option.some.inj e).symm
    refine h h'.objs.size c' _ _ J2 ⟨fun b o e nb => stay b o e (nb _ hm), fun p hp => ?_⟩ newF0 upd_same (by rw [upd_ne nCF]; exact upd_same)
    by_cases hb : p.1 = P
    · have eL : (tps ++ #[rawInt pos.line, rawInt pos.col, .ref c']).toList = tps.toList ++ [rawInt pos.line, rawInt pos.col, .ref c'] := by simp
      rw [hu p hp hb, hb]
      refine ⟨_, by rw [upd_ne nPF, upd_ne nPC]; exact upd_same, by rw [eL]; exact PySem.TriplesOk_snoc _ _ _ _ trip, fun p' cv hcv => ?_⟩
      rw [eL] at hcv
      rcases among_app _ trip hcv with z | z
      · obtain ⟨c0, e1, e2⟩ := among p' cv z
        exact ⟨c0, e1, stay _ _ e2 (stayC _ _ e2)⟩
      · exact ⟨c', z, by rw [upd_ne nCF]; exact upd_same⟩
    · obtain ⟨ps', a1, a2, a3⟩ := hT p hp
      refine ⟨ps', stay _ _ a1 hb, a2, fun p' cv hcv => ?_⟩
      obtain ⟨c0, e1, e2⟩ := a3 p' cv hcv
      exact ⟨c0, e1, stay _ _ e2 (stayC _ _ e2)⟩
/-- the captured cells hold what they held -/
theorem cells_later {cl : List (Str × Addr)} {fr : List Str} {ws : List (Option V)} (C : CellsAt cl fr ws X.s_0.heap X.H_0) (hx : X.ex = []) (I : Inv X pins σ H s) : CellsAt cl fr ws s.heap H := by
  have nex : ∀ c : Addr, c ∉ X.ex := fun c z => by rw [hx] at z; cases z
  have go : ∀ y c, cl.lookup y = some c → ∀ v, X.s_0.heap.IsCell c v → s.heap.IsCell c v := fun y c e v ⟨o, ho, hd⟩ => by
    obtain ⟨sl, q⟩ := I.base.any ho (C.all y c e).1 (nex c)
    exact ⟨_, q, hd⟩
  refine ⟨C.len, fun y c e => ?_, C.inj, fun i y e => ?_⟩
  · obtain ⟨n, v, z⟩ := C.all y c e
    refine ⟨?_, v, go y c e v z⟩
    obtain ⟨o, ho, _⟩ := z
    exact I.base.free c o ho n (nex c)
  · obtain ⟨c, hc, hv⟩ := C.has i y e
    refine ⟨c, hc, fun v ev => ?_⟩
    obtain ⟨u, r, z⟩ := hv v ev
    exact ⟨u, r, go y c hc _ z⟩
end
section
variable {P : Program} {w : World} {K : PySem.W.Frag} {mg : Str → Option Value} {base : Heap} {N ps fr : List Str} {F : Lw} {f : Addr} {k : Nat}
/-- a lambda is called -/
theorem lam_run (Sc : NScope N ps fr F.scope) (hb : ∀ (pm ctv : Value) (us : List Value), us.length = ps.length → bindArgs (PySem.W.kla_fn "<lambda>" F.qual F.params F.body F.scope F.cl pm (.ref F.c) ctv) ⟨us, []⟩ = pure (ps.zip us))
    {A : Around} {outer : List Env} {s : Shared} {H : Hp} {us : List Value} {vs : List V} {ws : List (Option V)} {Q : VK} (hr : Room (k + 1) A) (e0 : Env0 P w K mg base A outer s H) (hf : H f = some (LamO f F)) (hc : H F.c = some (CodeO F.c F.qual)) (C : CellsAt F.cl fr ws s.heap H) (r : Vals vs us) (hl : vs.length = ps.length)
    (hbody : Room k (A.deeper (envF F.nf f s.heap.objs.size)) → ∃ te, PE (ncx CX0 P w K mg base N F.nf f A outer s H E0) F.body te ∧ te (startF N vs ws) H Q) :
    codeAny (model P w) A (.call (.ref f) ⟨us, []⟩) (CR CX0 outer P w H s Q E0) s := by
  have lim : s.heap.NoLimit := e0.mod.nolimit.keeps fun b o e => (e0.bs b o e).1
  obtain ⟨pm, ctv, ho⟩ := lamO_at e0.hok hf
  refine PySem.W.kla_callFunE hr.depth ho rfl Sc.co Sc.gen rfl (codeO_at e0.hok hc) ?_
  rw [hb pm ctv us (by rw [← r.length]; exact hl)]
  refine wpAny_pure (wpAny_newFunctionEnv Sc.nocell (fun ⟨n, _⟩ hy => Sc.par n (List.of_mem_zip hy).1) (fun h₁ hns hsb => ⟨lim.fresh _ hsb, ?_⟩) Sc.kind)
  show codeAny _ _ (.expr F.body (envF F.nf f s.heap.objs.size)) _ _
  have kp : ∀ b o, s.heap.get? b = some o → h₁.get? b = some o := fun b o e => hsb.extBut b o (Nat.ne_of_lt (Heap.lt_size e)) (Heap.get?_push_of_some _ e)
  obtain ⟨te, hp, hq⟩ := hbody (hr.deeper _)
  have I : Inv (ncx CX0 P w K mg base N F.nf f A outer s H E0) [] (startF N vs ws) H { s with heap := h₁, toks := s.toks + (ps.zip us).length } := inv_startN Sc hr.hd e0 hl r C hns kp
  refine PySem.W.kla_codeExpr (wpAny_mono (hp.run [] _ (startF N vs ws) H Q I hq) (fun v s' hs => ?_) fun e s' hs => hs)
  obtain ⟨u, H', J, rv, q⟩ := hs
  exact ⟨u, H', J.os, J.bare, J.base, J.hok, rv, q⟩
end
/-- all that a def needs to call a lambda F at f that it got: C what it keeps, cs what it captured -/
structure LamIn (X : Cx) (S : Sm) (k : Nat) (f : Addr) (F : Lw) (Nl ps fr : List Str) (C : Ct) (cvs : List V) (cs : List R) : Prop where
  sc : NScope Nl ps fr F.scope
  bind : ∀ (pm ctv : Value) (us : List Value), us.length = ps.length → bindArgs (PySem.W.kla_fn "<lambda>" F.qual F.params F.body F.scope F.cl pm (.ref F.c) ctv) ⟨us, []⟩ = pure (ps.zip us)
  cells : CellsAt F.cl fr (cvs.map some) X.s_0.heap X.H_0
  ex : X.ex = []
  len : cvs.length = fr.length
  nl : Nl.length = ps.length + fr.length
  body : ∀ (A : Around) (outer : List Env) (s : Shared) (H : Hp), Room k (A.deeper (envF F.nf f s.heap.objs.size)) → ∃ te de, PD X.K (ncx CX0 X.prog X.w X.K X.mg X.base Nl F.nf f A outer s H E0) S W0 F.body te de ∧ ∀ y : C.α, C.pre y → (C.args y).length = Nl.length → de (slots (C.args y) Nl.length) (C.post y) noE
/-- .. at the def's entry -/
def LamAt (K : PySem.W.Frag) (S : Sm) (f : Addr) (F : Lw) (cvs : List V) (cs : List R) (H0 : Hp) : Prop := H0 f = some (LamO f F) ∧ H0 F.c = some (CodeO F.c F.qual) ∧ RepVs K S H0 cvs cs
/-- what a function does: C, with what it captured -/
def fnOf (C : Ct) (cs : List R) : R → (R → Prop) → Prop := fun r P => ∃ y : C.α, C.args y = r :: cs ∧ C.pre y ∧ (∀ r', C.post y r' → P r') ∧ ∀ c, ¬ C.exc y c
def dFn (i : Nat) (f : Addr) (Fk : Hp → Prop) (C : Ct) (cs : List R) (de : DE) : DE := fun ρ P E => nth ρ i = .k (.ref f) Fk ∧ de ρ (fun r => fnOf C cs r.nb P) E
theorem startF_eq {N : List Str} {vs cvs : List V} (h : vs.length + cvs.length = N.length) : startF N vs (cvs.map some) = L2.start N (vs ++ cvs) := by
  unfold startF L2.start
  rw [List.map_append, List.append_assoc, List.length_append, List.length_map, Nat.sub_sub]
theorem RepVs.append {K : PySem.W.Frag} {S : Sm} {H : Hp} : ∀ {vs ws : List V} {rs qs : List R}, RepVs K S H vs rs → RepVs K S H ws qs → RepVs K S H (vs ++ ws) (rs ++ qs)
  | _, _, _, _, .nil, h => h
  | _, _, _, _, .cons h t, u => .cons h (RepVs.append t u)
section
variable {K : PySem.W.Frag} {X : Cx} {S : Sm} {e : Expr} {te : TE} {de : DE} {p pos : Pos}
/-- x(e), x the name in slot i -/
def tFn (K : PySem.W.Frag) (S : Sm) (i : Nat) (f : Addr) (F : Lw) (C : Ct) (cvs : List V) (te : TE) : TE := fun σ H Q => σ[i]? = some (some (.ref f)) ∧ H f = some (LamO f F) ∧
  tCons te tNil σ H fun vs H1 => ∃ v, vs = [v] ∧ H1 f = some (LamO f F) ∧ H1 F.c = some (CodeO F.c F.qual) ∧ ∃ y : C.α, RepVs K S H1 (v :: cvs) (C.args y) ∧ StmOk S H1 ∧ C.pre y ∧ ∀ r u H', C.post y r → Ev S H1 H' → RepR K S H1 H' u r → Q u H'
theorem pd_fn {i k : Nat} {f : Addr} {F : Lw} {Nl fr : List Str} {al x : Str} {C : Ct} {cvs : List V} {cs : List R} (L : LamIn X S k f F Nl [al] fr C cvs cs) (hr : Room (k + 1) X.A) (hN : X.N[i]? = some x) (he : PD K X S W0 e te de) (hv : Vis X.env.scope x := by first | exact Or.inl rfl | exact Or.inr (Or.inl rfl) | exact Or.inr (Or.inr rfl))
    (hd : (x == ("__debug__" : Str)) = false := by decide) (hcd : (x == ("__classdict__" : Str)) = false := by decide) (hs : starEach [e] X.env = (false, eval e X.env) :: starEach [] X.env := by rfl) (hpl : (backTo pos (starEach [] X.env)).any (·.1) = false := by rfl) :
    PD K X S W0 (.Call (.Name x p) [e] [] pos) (tFn K S i f F C cvs te) (dFn i f (LamAt K S f F cvs cs) C cs de) := by
  obtain ⟨hK, pe, he⟩ := he
  subst hK
  refine ⟨rfl, ⟨fun pins s σ H Q I h => ?_⟩, fun ρ P E hd H0 pr σ H Q ho q w => ?_⟩
  · obtain ⟨hs1, hf0, ht⟩ := h
    refine wpAny_Call_Name_kw (thn ((pe_var (pos := p) hN hv hd hcd).run pins s σ H (fun v H1 => v = .ref f ∧ H1 = H) I ⟨.ref f, hs1, rfl, rfl⟩) fun u s1 ⟨v, H1, I1, r1, q1⟩ => ?_)
    obtain ⟨ev, eH⟩ := q1
    subst ev
    rw [eH] at I1
    obtain rfl : u = Value.ref f := r1
    have fat : ∀ {H : Hp} {s : Shared}, Inv X pins σ H s → H f = some (LamO f F) → PySem.W.FnAt f s.heap := fun {H s} I e => by
      obtain ⟨pm, ctv, ho⟩ := lamO_at I.hok e
      exact ⟨_, _, _, _, ho⟩
    refine PySem.W.callWith_F (first := []) (fat I1 hf0) (thn ((pa_cons pe pa_nil hs).run pos pins s1 σ H _ I1 ht) fun us s2 ⟨vs, H2, I2, r, v, ev, h1, h2, y, hy⟩ => ⟨fat I2 h1, ?_⟩) hs hpl
    subst ev
    obtain ⟨hrv, hst, hpre, hq⟩ := hy
    show wpAny _ _ (call (.ref f) us) _ _ _
    have hlv := hrv.length
    have hln : (C.args y).length = Nl.length := by
      rw [← hlv, List.length_cons, L.len, L.nl, List.length_singleton]
      omega
    refine wpAny_call (codeAny_mono (lam_run (k := k) L.sc L.bind hr I2.env0 h1 h2 (cells_later L.cells L.ex I2) r rfl (Q := Q) fun hr' => ?_) fun r s' hq => ?_)
    · obtain ⟨tb, db, ⟨_, pb, hb⟩, hrd⟩ := L.body X.A X.stack s2 H2 hr'
      refine ⟨tb, pb, ?_⟩
      rw [startF_eq (by rw [L.len, L.nl]; rfl)]
      exact hb _ _ _ (hrd y hpre hln) H2 Pr.none _ H2 _ (holds_start hst (vs := v :: cvs) hrv (by omega)) (fun r u H' hr ev rr => hq r u H' hr ev rr) wish0
    · cases r with
      | error e => exact (show False from hq).elim
      | ok fl =>
        cases fl with
        | ret u => exact I2.after hq
        | next => exact False.elim hq
        | brk => exact False.elim hq
        | cont => exact False.elim hq
  · obtain ⟨hk, hd⟩ := hd
    have sl := ho.slot i
    rw [hk] at sl
    obtain ⟨s1, hf0, hc0, rv⟩ := sl
    have keepE : ∀ {a : Addr} {g : Heap → Prop}, H0 a = some (.ext g) → ∀ {H' : Hp}, Ev S H0 H' → H' a = some (.ext g) := fun {a g} e H' ev => ev.keep _ _ e (ho.st0.notTup e (fun _ z => by cases z))
    refine ⟨getD_get s1, keepE hf0 ho.ev, ?_⟩
    refine he ρ _ E hd H0 pr σ H _ ho (fun r v H1 hr e1 rr => ?_) w
    have e01 := ho.ev.trans e1
    obtain ⟨y, ey, py, hp, hn⟩ := hr
    refine ⟨v, rfl, keepE hf0 e01, keepE hc0 e01, y, ?_, e1.stm, py, fun r' u H' hr' ev rr' => q r' u H' (hp r' hr') (e1.trans ev) (rr'.from e1 ho.stm)⟩
    rw [ey]
    exact .cons (rr.val ho.stm).nb (rv.step e01)
end
end PL

/-! PL16: x(e, lambda ..: ..), x a def of the top that calls it -/
namespace PL
open PySem PySem.Spec PyProof.Rows L2 LamX NdefX
def rdA : A → Option R
  | .d x => some (.d x)
  | .o c => some (.b c)
  | .f c => some (.b c)
  | .b c => some (.b c)
  | .strm => some .strm
  | _ => none
def rdAs (ρ : List A) : List Nat → Option (List R)
  | [] => some []
  | j :: js => match rdA (nth ρ j), rdAs ρ js with
    | some r, some rs => some (r :: rs)
    | _, _ => none
theorem slot_getD (σ : L2.St) (j : Nat) : NdefX.slotAt σ j = σ.getD j none := by
  unfold NdefX.slotAt
  rw [List.getD_eq_getElem?_getD]
  cases σ[j]? <;> rfl
section
variable {K : PySem.W.Frag} {S : Sm} {H0 H : Hp} {pr : Pr} {ρ : List A} {σ : L2.St}
theorem rdA_ok (ho : Holds K S H0 pr ρ σ H) {j : Nat} {r : R} (e : rdA (nth ρ j) = some r) : ∃ v, NdefX.slotAt σ j = some v ∧ RepV K S H v r := by
  have s := ho.slot j
  rw [slot_getD]
  cases z : nth ρ j with
  | any => rw [z] at e; cases e
  | d x => rw [z] at e s; cases e; exact s
  | o c => rw [z] at e s; cases e; obtain ⟨q, h1, n, st⟩ := s; exact ⟨_, h1, q, rfl, ho.st0.fresh n, st.read⟩
  | f c => rw [z] at e s; cases e; obtain ⟨q, h1, n, st⟩ := s; exact ⟨_, h1, q, rfl, ho.st0.fresh n, st.read⟩
  | b c => rw [z] at e s; cases e; obtain ⟨q, h1, n, st⟩ := s; exact ⟨_, h1, q, rfl, n, st.step ho.ev n⟩
  | strm => rw [z] at e s; cases e; obtain ⟨a, c, h1, h2⟩ := s; exact ⟨_, h2, a, c, h1, rfl⟩
  | k v F => rw [z] at e; cases e
theorem rdAs_ok (ho : Holds K S H0 pr ρ σ H) : ∀ {js : List Nat} {cs : List R}, rdAs ρ js = some cs → ∃ cvs : List V, js.map (NdefX.slotAt σ) = cvs.map some ∧ RepVs K S H cvs cs
  | [], _, e => by cases e; exact ⟨[], rfl, .nil⟩
  | j :: js, cs, e => by
    unfold rdAs at e
    cases e1 : rdA (nth ρ j) with
    | none => rw [e1] at e; cases e
    | some r =>
      cases e2 : rdAs ρ js with
      | none => rw [e1, e2] at e; cases e
      | some rs =>
        rw [e1, e2] at e
        cases e
        obtain ⟨v, h1, h2⟩ := rdA_ok ho e1
        obtain ⟨vs, h3, h4⟩ := rdAs_ok ho e2
        exact ⟨v :: vs, by rw [List.map_cons, List.map_cons, h1, h3], .cons h2 h4⟩
end
/-- a lambda made -/
def tLamb (T : List (Addr × Str)) (mk : Addr → Lw) : TE := fun σ H Q => Tabs T H ∧ ∀ f c' H1, LamNew T H H1 → H f = none → H1 f = some (LamO f (mk c')) → H1 c' = some (CodeO c' (mk c').qual) → Q (.ref f) H1
theorem pe_lamb {X : Cx} {T : List (Addr × Str)} {c P : Addr} {params : Arguments} {body : Expr} {scope : Scope} {pos : Pos} (TB : TabB X.base X.mg c P) (hcode : X.env.code = .ref c) (hm : (P, X.env.qual ++ "<lambda>") ∈ T) (hu : ∀ p ∈ T, p.1 = P → p.2 = X.env.qual ++ "<lambda>") (hdef : defaultsOf params X.env = ([], []))
    (hfree : ∀ y ∈ scope.names, y.2 = .free → X.env.scope.names.lookup y.1 = some .cell ∨ X.env.scope.names.lookup y.1 = some .free) :
    PE X (.Lambda params body scope pos) (tLamb T fun c' => ⟨X.env.qual ++ "<lambda>", params, body, scope, cloFrom X.env.cells scope.names [], c'⟩) := by
  refine ⟨fun pins s σ H Q I h => ?_⟩
  obtain ⟨hT, h⟩ := h
  refine lam_new I TB hcode hm hu hT hdef (fun y hy e => (hfree y hy e).elim (fun z => I.ok.has _ (.inl z)) fun z => I.ok.has _ (.inr z)) fun f c' H1 s' I1 n f0 f1 c1 => ?_
  exact ⟨.ref f, H1, I1, rfl, h f c' H1 n f0 f1 c1⟩
abbrev GC := R → (R → (R → Prop) → Prop) → (R → Prop) → Prop
def dLam (Gc : GC) (C : Ct) (js : List Nat) (de : DE) : DE := fun ρ P E => de ρ (fun r => ∃ cs, rdAs ρ js = some cs ∧ Gc r.nb (fnOf C cs) P) E
/-- what the callee is asked -/
def LamGo (K : PySem.W.Frag) (S : Sm) (Gc : GC) (C : Ct) (js : List Nat) (mk : Addr → Lw) (f c' : Addr) (σ : L2.St) (v : V) (H : Hp) (Q : VK) : Prop :=
  ∃ r cs cvs P, js.map (NdefX.slotAt σ) = cvs.map some ∧ RepVs K S H cvs cs ∧ RepV K S H v r ∧ StmOk S H ∧ Gc r (fnOf C cs) P ∧ H f = some (LamO f (mk c')) ∧ H c' = some (CodeO c' (mk c').qual) ∧ ∀ r u H', P r → Ev S H H' → RepR K S H H' u r → Q u H'
def tLamCall (K : PySem.W.Frag) (S : Sm) (Gc : GC) (C : Ct) (js : List Nat) (mk : Addr → Lw) (te : TE) : TE := fun σ H Q => tCons te (tCons (tLamb S.tb mk) tNil) σ H fun vs H2 => ∃ v f c', vs = [v, .ref f] ∧ LamGo K S Gc C js mk f c' σ v H2 Q
section
variable {K : PySem.W.Frag} {X : Cx} {S : Sm} {W : WX} {e : Expr} {te : TE} {de : DE} {p pos lpos : Pos}
theorem pd_lam {x a p0 al : Str} {st : Stmt} {Ng Nl fr : List Str} {js : List Nat} {k m : Nat} {c P : Addr} {C : Ct} {Gc : GC} {params : Arguments} {body : Expr} {scope : Scope} (D : DefOf X.K X.mg x st [p0, a]) (Sc : FnScope Ng [p0, a] (defScope st)) (hr : Room (k + 1) X.A)
    (TB : TabB X.base X.mg c P) (hcode : X.env.code = .ref c) (hm : (P, X.env.qual ++ "<lambda>") ∈ S.tb) (hu : ∀ p ∈ S.tb, p.1 = P → p.2 = X.env.qual ++ "<lambda>") (NSc : NScope Nl [al] fr scope) (hnl : Nl.length = 1 + fr.length)
    (hfree : ∀ y ∈ scope.names, y.2 = .free → X.env.scope.names.lookup y.1 = some .cell ∨ X.env.scope.names.lookup y.1 = some .free) (hfr : ∀ y ∈ fr, (y, NameKind.free) ∈ scope.names) (hjs : js.map (fun j => X.N[j]?) = fr.map some)
    (hbind : ∀ (q : Str) (cl : List (Str × Addr)) (pm cv ctv : Value) (us : List Value), us.length = 1 → bindArgs (PySem.W.kla_fn "<lambda>" q params body scope cl pm cv ctv) ⟨us, []⟩ = pure (([al] : List Str).zip us))
    (hbody : ∀ (cl : List (Str × Addr)) (c' f : Addr) (A : Around) (outer : List Env) (s : Shared) (H : Hp), Room m (A.deeper (envF (Lw.nf ⟨X.env.qual ++ "<lambda>", params, body, scope, cl, c'⟩) f s.heap.objs.size)) →
      ∃ te de, PD X.K (ncx CX0 X.prog X.w X.K X.mg X.base Nl (Lw.nf ⟨X.env.qual ++ "<lambda>", params, body, scope, cl, c'⟩) f A outer s H E0) S W0 body te de ∧ ∀ y : C.α, C.pre y → (C.args y).length = Nl.length → de (slots (C.args y) Nl.length) (C.post y) noE)
    (hcal : ∀ (cdv : Value) (g f : Addr) (A : Around) (outer : List Env) (s : Shared) (H : Hp) (F : Lw) (cvs : List V) (cs : List R), Room k (A.deeper (envOfC x (defScope st) s.heap.objs.size g cdv)) → LamIn (cxOf CX0 X.prog X.w X.K X.mg X.base Ng x (defScope st) g cdv A outer s H E0).nox S m f F Nl [al] fr C cvs cs →
      ∃ t ds, SsD X.K (cxOf CX0 X.prog X.w X.K X.mg X.base Ng x (defScope st) g cdv A outer s H E0).nox S W0 (defBody st) t ds ∧ ∀ r P, Gc r (fnOf C cs) P → ds (endsOf P noE) (argA r :: .k (.ref f) (LamAt X.K S f F cvs cs) :: anys (Ng.length - 2)))
    (he : PD K X S W e te de) (hg : Gl X x := by rfl) (hdef : defaultsOf params X.env = ([], []) := by rfl) (hdb : (x == ("__debug__" : Str)) = false := by decide)
    (hs : starEach [e, .Lambda params body scope lpos] X.env = (false, eval e X.env) :: starEach [.Lambda params body scope lpos] X.env := by rfl) (hs2 : starEach [.Lambda params body scope lpos] X.env = (false, eval (.Lambda params body scope lpos) X.env) :: starEach [] X.env := by rfl) (hpl : (backTo pos (starEach [.Lambda params body scope lpos] X.env)).any (·.1) = false := by rfl) :
    PD K X S W (.Call (.Name x p) [e, .Lambda params body scope lpos] [] pos) (tLamCall K S Gc C js (fun c' => ⟨X.env.qual ++ "<lambda>", params, body, scope, cloFrom X.env.cells scope.names [], c'⟩) te) (dLam Gc C js de) := by
  obtain ⟨hK, pe, he⟩ := he
  subst hK
  refine ⟨rfl, ⟨fun pins s σ H Q I h => ?_⟩, fun ρ P' E hd H0 pr σ H Q ho q w => ?_⟩
  · obtain ⟨g, fd, F, gm, hb⟩ := D
    refine wpAny_Call_Name_kw (ld_glob I hg gm ?_ hdb)
    have pl := pe_lamb (X := X) (T := S.tb) (body := body) (pos := lpos) TB hcode hm hu hdef hfree
    refine PySem.W.callWith_K (h₀ := X.base) I.ok.mod.kin F.kp (thn ((pa_cons pe (pa_cons pl pa_nil hs2) hs).run pos pins s σ H _ I h) fun us s2 ⟨vs, H2, I2, r, v, f, c', ev, go⟩ => ⟨I2.kIn, ?_⟩) hs hpl
    subst ev
    obtain ⟨rr, cs, cvs, P', hj, hcv, hv, hst, hG, hf, hc, hq⟩ := go
    obtain ⟨oc, od, kV, doc, pm, an, cdv, ct, osl, rfl, lk, hcd⟩ := F.ex
    have cells : CellsAt (cloFrom X.env.cells scope.names []) fr (cvs.map some) s2.heap H2 := by
      have z := cells_of I2 (Caps.made (js := js) I2.ok hfree hfr hjs)
      rw [hj] at z
      exact z
    have hlen : cvs.length = fr.length := by
      have h1 := congrArg List.length hj
      have h2 := congrArg List.length hjs
      simp only [List.length_map] at h1 h2
      omega
    have hz := hb s2 us I2.kIn (by rw [List.append_nil, ← r.length]; rfl)
    rw [List.append_nil] at hz
    show wpAny _ _ (call (.ref g) us) _ _ _
    refine wpAny_call (codeAny_mono (run_ofS (E := E0) (CX := CX0) (ps := [p0, a]) lk hcd Sc hr I2.env0 (hz) r rfl (Q := Q) fun hr' => ?_) fun rs s' hq' => ?_)
    · obtain ⟨t, ds, hd, hrd⟩ := hcal cdv g f X.A X.stack s2 H2 ⟨X.env.qual ++ "<lambda>", params, body, scope, cloFrom X.env.cells scope.names [], c'⟩ cvs cs hr' ⟨NSc, fun pm ctv us hl => hbind _ _ _ _ _ us hl, cells, rfl, hlen, by rw [hnl]; rfl, fun A outer s H hr2 => hbody _ _ _ A outer s H hr2⟩
      refine ⟨t, hd.2.1.nox, ?_⟩
      refine hd.2.2 _ _ (hrd rr P' hG) H2 Pr.none _ H2 _ ?_ ⟨fun ρ σ' H' hn ho => ?_, fun ρ σ' H' hn ho => hn.elim, fun ρ σ' H' hn ho => hn.elim, fun r' u H' hp ev rr' => hq r' u H' hp ev rr', fun C' ρ σ' H' hn ho => hn.elim⟩
      · have hN := congrArg List.length Sc.pre
        rw [List.length_take] at hN
        have hN : 2 ≤ Ng.length := by
          have h2 : ([p0, a] : List Str).length = 2 := rfl
          rw [h2] at hN
          omega
        obtain ⟨n, hn⟩ : ∃ n, Ng.length = n + 2 := ⟨Ng.length - 2, by omega⟩
        have h0 := (holds_start (N := Ng) (vs := [v]) (rs := [rr]) hst (.cons hv .nil) (by rw [List.length_singleton]; omega)).store (i := 1) (a := .k (.ref f) (LamAt X.K S f ⟨X.env.qual ++ "<lambda>", params, body, scope, cloFrom X.env.cells scope.names [], c'⟩ cvs cs)) (v := .ref f) ⟨rfl, hf, hc, hcv⟩ (fun z => by cases z) (fun j q _ _ => ⟨(fun z => by cases z), fun z => by cases z⟩)
        unfold L2.start at h0 ⊢
        unfold slots at h0
        rw [hn] at h0 ⊢
        exact h0
      · exact hq _ _ _ hn ho.ev .non
    · cases rs with
      | error e => exact (show False from hq').elim
      | ok fl =>
        cases fl with
        | ret u => exact I2.after hq'
        | next => exact False.elim hq'
        | brk => exact False.elim hq'
        | cont => exact False.elim hq'
  · refine he ρ _ E hd H0 pr σ H _ ho (fun r v H1 hr e1 rr => ?_) w
    obtain ⟨cs, hcs, hG⟩ := hr
    have ho1 := ho.step e1
    refine ⟨e1.stm.tb, fun f c' H2 n f0 hf hc => ⟨v, f, c', rfl, ?_⟩⟩
    have e2 : Ev S H1 H2 := n.ev e1.stm
    obtain ⟨cvs, hj, hcv⟩ := rdAs_ok (ho1.step e2) hcs
    refine ⟨r.nb, cs, cvs, P', hj, hcv, ((rr.val ho.stm).nb).step e2, e2.stm, hG, hf, hc, fun r' u H' hp ev rr' => q r' u H' hp ((e1.trans e2).trans ev) (rr'.from (e1.trans e2) ho.stm)⟩
end
end PL

/-! PL17: enumerate of a tuple -/
namespace EnT
open PySem
open PySem.Sem (wp)
open AutoSeq1 (wpAny_loadPart')
theorem new_enumT (l : Addr) (xs : Array Value) :
    Meets (Builtin.«enumerate.__new__» ⟨[.type "enumerate", .ref l], []⟩) (fun _ R s => s.heap.IsTuple l xs ∧
      R (.ok (.ret (.ref (s.heap.push { cls := .type "tuple_iterator", data := .fields #[.ref l, .int 0 0] }).objs.size)))
        { s with heap := (s.heap.push { cls := .type "tuple_iterator", data := .fields #[.ref l, .int 0 0] }).push { cls := .type "enumerate", data := .fields #[.none, .bool false, .ref s.heap.objs.size, rawInt 0, .none, .none] } }) :=
  .of_wp fun prog w A R s h => by
    obtain ⟨hp, g, d, tk, os⟩ := s
    obtain ⟨tp, h⟩ := h
    have ise := sub_enumerate
    have tpl : Heap.IsTuple (Shared.heap ⟨hp, g, d, tk, os⟩) l xs := tp
    wp_walk
    refine wpAny_stack_any fun st => wpAny_pure ?_
    split
    · rename_i c _ _ _ _ _
      cases (c == Value.type "enumerate")
      · wp_walk using wpAny_pyIter_tuple tpl
        exact ⟨_, rfl, h⟩
      · wp_walk using wpAny_pyIter_tuple tpl
        exact ⟨_, rfl, h⟩
    · wp_walk using wpAny_pyIter_tuple tpl
      exact ⟨_, rfl, h⟩
section
variable {prog : Program} {w : World} {A : Around} {E : Value → Shared → Prop} {s : Shared}
theorem call_enumT {l : Addr} {xs : Array Value} {Q : Value → Shared → Prop} (tp : s.heap.IsTuple l xs)
    (h : ∀ h', IsEnum h' (s.heap.objs.size + 1) s.heap.objs.size 0 .none → h'.IsTupleIter s.heap.objs.size l 0 → h'.objs.size = s.heap.objs.size + 2 →
      (∀ b o, s.heap.get? b = some o → h'.get? b = some o) → Q (.ref (s.heap.objs.size + 1)) { s with heap := h' }) : wpAny (model prog w) A (call (.type "enumerate") [.ref l]) Q E s := by
  refine callType_new F.called_enumerate (by decide) (F.typeCall_enumerate_1 _) (F.newCall_enumerate_1 _) (fun obj => F.args_object_init_2 obj _) F.entry_enumerate_new (new_enumT l xs) ⟨tp, ?_⟩
  generalize hg1 : s.heap.push { cls := .type "tuple_iterator", data := .fields #[.ref l, .int 0 0] } = g1
  have z1 : g1.objs.size = s.heap.objs.size + 1 := by rw [← hg1]; exact Heap.size_push ..
  have at1 : g1.get? s.heap.objs.size = some { cls := .type "tuple_iterator", data := .fields #[.ref l, .int 0 0] } := by rw [← hg1]; exact Heap.get?_push_size _ rfl
  have kp1 : ∀ b o, s.heap.get? b = some o → g1.get? b = some o := fun b o e => by rw [← hg1]; exact Heap.get?_push_of_some _ e
  have at2 : (g1.push { cls := .type "enumerate", data := .fields #[.none, .bool false, .ref s.heap.objs.size, rawInt 0, .none, .none] }).get? g1.objs.size = some _ := Heap.get?_push_size _ rfl
  rw [z1] at at2
  show _ ∧ _
  rw [z1]
  exact ⟨⟨_, at2, rfl⟩, h _ at2 ⟨_, Heap.get?_push_of_some _ at1, rfl, rfl⟩ (by rw [Heap.size_push, z1]) fun b o e => Heap.get?_push_of_some _ (kp1 b o e)⟩
/-- the next pair -/
theorem step_enumT {e it l : Addr} {i : Nat} {xs : Array Value} {x old : Value} {Q : Value → Shared → Prop} (en : IsEnum s.heap e it i old) (ti : s.heap.IsTupleIter it l i) (tp : s.heap.IsTuple l xs) (hx : xs[i]? = some x) (apart : e ≠ it)
    (done : ∀ h', IsEnumOut h' e it ((i : Int) + 1) x s.heap.objs.size → h'.IsTupleIter it l (i + 1) → h'.get? s.heap.objs.size = some { cls := .type "tuple", data := .seq #[.int i s.toks, x] } → h'.objs.size = s.heap.objs.size + 1 →
      (∀ b o, b ≠ e → b ≠ it → s.heap.get? b = some o → h'.get? b = some o) → Q (.ref s.heap.objs.size) { s with heap := h', toks := s.toks + 1 }) :
    wpAny (model prog w) A (Builtin.«enumerate.__next__» ⟨[.ref e], []⟩) (fun fin s' => ∃ v, fin = .done (.ret v) ∧ Q v s') E s := by
  obtain ⟨g0, gn, dr, tk, os⟩ := s
  show wpAny _ _ (field (.ref e) 2 >>= _) _ _ _
  refine wpAny_bind (wpAny_field en rfl (x := .ref it) rfl ?_)
  refine wpAny_bind (RZ.nextOf_tuple_item ti tp hx fun g1 ti1 sb1 => ?_)
  replace sb1 : Heap.SameBut it g0 g1 := sb1
  have en1 : IsEnum g1 e it i old := (sb1.2 e apart).trans en
  show wpAny _ _ (field (.ref e) 3 >>= _) _ _ ⟨g1, gn, dr, tk, os⟩
  refine wpAny_bind (wpAny_field en1 rfl (x := rawInt i) rfl ?_)
  show wpAny _ _ (field (.ref e) 4 >>= _) _ _ ⟨g1, gn, dr, tk, os⟩
  refine wpAny_bind (wpAny_field en1 rfl (x := .none) rfl ?_)
  show wpAny _ _ (mkInt i >>= _) _ _ ⟨g1, gn, dr, tk, os⟩
  refine wpAny_bind (wpAny_mkInt ?_)
  show wpAny _ _ (setField (.ref e) 3 (rawInt ((i : Int) + 1)) >>= _) _ _ ⟨g1, gn, dr, tk + 1, os⟩
  refine wpAny_bind (wpAny_setField_rec en1 (by simp) fun g2 en2 sb2 => ?_)
  replace sb2 : Heap.SameBut e g1 g2 := sb2
  replace en2 : IsEnum g2 e it ((i : Int) + 1) old := en2
  show wpAny _ _ (setField (.ref e) 4 .none >>= _) _ _ ⟨g2, gn, dr, tk + 1, os⟩
  refine wpAny_bind (wpAny_setField_rec en2 (by simp) fun g3 en3 sb3 => ?_)
  replace sb3 : Heap.SameBut e g2 g3 := sb3
  replace en3 : IsEnum g3 e it ((i : Int) + 1) old := en3
  show wpAny _ _ (newTuple [.int i tk, x] >>= _) _ _ ⟨g3, gn, dr, tk + 1, os⟩
  refine wpAny_bind (wpAny_newTuple ?_)
  generalize hg4 : g3.push { cls := .type "tuple", data := .seq #[.int i tk, x] } = g4
  have sz3 : g3.objs.size = g0.objs.size := by rw [sb3.1, sb2.1, sb1.1]
  have low : e < g0.objs.size := Heap.lt_size en
  have en4 : IsEnum g4 e it ((i : Int) + 1) old := by rw [← hg4]; exact Heap.get?_push_of_some _ en3
  have at4 : g4.get? g0.objs.size = some { cls := .type "tuple", data := .seq #[.int i tk, x] } := by rw [← hg4, ← sz3]; exact Heap.get?_push_size _ rfl
  have sz4 : g4.objs.size = g0.objs.size + 1 := by rw [← hg4, Heap.size_push, sz3]
  have kp4 : ∀ b o, b ≠ e → b ≠ it → g0.get? b = some o → g4.get? b = some o := fun b o n1 n2 e0 => by
    rw [← hg4]
    exact Heap.get?_push_of_some _ (sb3.extBut b o n1 (sb2.extBut b o n1 (sb1.extBut b o n2 e0)))
  have ti4 : g4.IsTupleIter it l (i + 1) := by
    rw [← hg4]
    obtain ⟨o, e1, e2⟩ := ti1
    exact ⟨o, Heap.get?_push_of_some _ (sb3.extBut it o (Ne.symm apart) (sb2.extBut it o (Ne.symm apart) e1)), e2⟩
  show wpAny _ _ (Builtin.SmallTypes.ownedTupleIsFree (.ref e) >>= _) _ _ ⟨g4, gn, dr, tk + 1, os⟩
  rw [sz3]
  refine wpAny_bind ?_
  unfold Builtin.SmallTypes.ownedTupleIsFree
  refine wpAny_bind (wpAny_field en4 rfl (x := .none) rfl (wpAny_pure ?_))
  simp only [if_true]
  refine wpAny_bind (wpAny_rule ?_)
  refine wpAny_bind (wpAny_field en4 rfl (x := old) rfl ?_)
  refine wpAny_bind (wpAny_setField_rec en4 (by simp) fun g5 en5 sb5 => ?_)
  replace sb5 : Heap.SameBut e g4 g5 := sb5
  replace en5 : IsEnum g5 e it ((i : Int) + 1) x := en5
  show wpAny _ _ (Builtin.SmallTypes.ownedTupleHandOut (.ref e) (.ref g0.objs.size) >>= _) _ _ ⟨g5, gn, dr, tk + 1, os⟩
  refine wpAny_bind ?_
  unfold Builtin.SmallTypes.ownedTupleHandOut
  refine wpAny_bind (wpAny_setField_rec en5 (by simp) fun g6 en6 sb6 => ?_)
  replace sb6 : Heap.SameBut e g5 g6 := sb6
  replace en6 : IsEnumOut g6 e it ((i : Int) + 1) x g0.objs.size := en6
  refine wpAny_setField_rec en6 (by simp) fun g7 en7 sb7 => ?_
  replace sb7 : Heap.SameBut e g6 g7 := sb7
  replace en7 : IsEnumOut g7 e it ((i : Int) + 1) x g0.objs.size := en7
  have kp7 : ∀ b o, b ≠ e → g4.get? b = some o → g7.get? b = some o := fun b o n e0 => sb7.extBut b o n (sb6.extBut b o n (sb5.extBut b o n e0))
  refine wpAny_bind (wpAny_letGo (wpAny_pure ⟨_, rfl, done g7 en7 ?_ ?_ ?_ ?_⟩))
  · obtain ⟨o, e1, e2⟩ := ti4
    exact ⟨o, kp7 it o (Ne.symm apart) e1, e2⟩
  · exact kp7 _ _ (Nat.ne_of_gt low) at4
  · rw [sb7.1, sb6.1, sb5.1, sz4]
  · exact fun b o n1 n2 e0 => kp7 b o n1 (kp4 b o n1 n2 e0)
theorem next_enumT {e it l : Addr} {i : Nat} {xs : Array Value} {x old : Value} {Q : Option Value → Shared → Prop} (en : IsEnum s.heap e it i old) (ti : s.heap.IsTupleIter it l i) (tp : s.heap.IsTuple l xs) (hx : xs[i]? = some x) (apart : e ≠ it)
    (done : ∀ h', IsEnumOut h' e it ((i : Int) + 1) x s.heap.objs.size → h'.IsTupleIter it l (i + 1) → h'.get? s.heap.objs.size = some { cls := .type "tuple", data := .seq #[.int i s.toks, x] } → h'.objs.size = s.heap.objs.size + 1 →
      (∀ b o, b ≠ e → b ≠ it → s.heap.get? b = some o → h'.get? b = some o) → Q (some (.ref s.heap.objs.size)) { s with heap := h', toks := s.toks + 1 }) :
    wpAny (model prog w) A (pyNext (.ref e)) Q E s := by
  have ty : s.TypeIs (.ref e) "enumerate" := ⟨_, en, rfl⟩
  unfold pyNext
  refine wpAny_bind (wpAny_attempt (wpAny_callSpecial?_slot (name := Str.ofString "__next__") ty F.slot_enumerate_next (wpAny_call_entry F.slot_enumerate_next ty F.entry_enumerate_next ?_ (F.args_enumerate_next_1 _))))
  exact step_enumT en ti tp hx apart fun h' a b c d k => wpAny_pure (done h' a b c d k)
theorem last_enumT {e it l : Addr} {i : Nat} {xs : Array Value} {old : Value} {Q : Option Value → Shared → Prop} (hh : A.handled = none) (en : IsEnum s.heap e it i old) (ti : s.heap.IsTupleIter it l i) (tp : s.heap.IsTuple l xs) (hx : xs[i]? = none)
    (done : ∀ h', Heap.ExtBut it s.heap h' → Q none { s with heap := h' }) : wpAny (model prog w) A (pyNext (.ref e)) Q E s := by
  have ty : s.TypeIs (.ref e) "enumerate" := ⟨_, en, rfl⟩
  unfold pyNext
  refine wpAny_bind (wpAny_attempt (wpAny_callSpecial?_slot (name := Str.ofString "__next__") ty F.slot_enumerate_next (wpAny_call_entry F.slot_enumerate_next ty F.entry_enumerate_next ?_ (F.args_enumerate_next_1 _))))
  show wpAny _ _ (field (.ref e) 2 >>= _) _ _ _
  refine wpAny_bind (wpAny_field en rfl (x := .ref it) rfl ?_)
  refine wpAny_bind (RZ.nextOf_tuple_end hh ti tp hx fun h' x eb isx => ?_)
  obtain ⟨o, ho, hc⟩ := isx
  refine wpAny_bind (wpAny_isInstance (T := "StopIteration") (b := true) ⟨o, ho, hc⟩ isSubtype_stop ?_)
  exact wpAny_pure (done _ eb)
end
end EnT
namespace PL
open PySem PySem.Spec PyProof.Rows L2
/-- the tuple at a, each item in a new pair -/
def IteT (K : PySem.W.Frag) (a : Addr) : It :=
  ⟨fun i H => ∃ (xs : List V) (x : V), SqT K H a xs ∧ xs[i]? = some x, fun i H v H' => ∃ T x, v = .ref T ∧ H T = none ∧ H' = upd H T (.tup [.int (i : Nat), x]) ∧ ∀ xs, SqT K H a xs → xs[i]? = some x, fun i H => ∃ xs : List V, SqT K H a xs ∧ xs.length ≤ i⟩
theorem turn_enT {P : Program} {w : World} {K : PySem.W.Frag} {elts : List Expr} {kk : Nat} {tpos : Pos} (a e it : Addr) :
    Turn P w K (.Tuple elts kk tpos) (IteT K a) [e, it] e (fun i h => (∃ old, IsEnum h e it ((i : Nat) : Int) old) ∧ h.IsTupleIter it a i ∧ e ≠ it) where
  mem := List.mem_cons_self
  obj := fun i h st b hb => by
    obtain ⟨⟨old, en⟩, ⟨o, ho, hc, hd⟩, _⟩ := st
    rcases List.mem_cons.mp hb with z | hb
    · rw [z]; exact ⟨_, en, fun v q => nomatch q⟩
    · rw [List.mem_singleton.mp hb]; exact ⟨o, ho, fun v q => by rw [hd] at q; cases q⟩
  keep := fun i h h' st k => by
    obtain ⟨⟨old, en⟩, ti, ap⟩ := st
    exact ⟨⟨old, k e List.mem_cons_self _ en⟩, ti.at fun o q => k it (List.mem_cons_of_mem _ List.mem_cons_self) o q, ap⟩
  item := by
    intro X hP hw hK hc i pins s σ H E I hf st hg
    subst hP hw hK
    obtain ⟨⟨old, en⟩, ti, ap⟩ := st
    obtain ⟨xs, x, hq, hx⟩ := hg
    obtain ⟨its, rv, tp, hz⟩ := I.tuple hq
    obtain ⟨u, hu, ru⟩ := rv.get hx
    have lowe : e < s.heap.objs.size := Heap.lt_size en
    have lowi : it < s.heap.objs.size := by obtain ⟨_, q, _⟩ := ti; exact Heap.lt_size q
    have low : ∀ b ∈ [e, it], b < s.heap.objs.size := fun b hb => by
      rcases List.mem_cons.mp hb with z | hb
      · rw [z]; exact lowe
      · rw [List.mem_singleton.mp hb]; exact lowi
    refine EnT.next_enumT en ti (show s.heap.IsTuple a its.toArray from tp) (x := u) (by simpa using hu) ap fun h' out ti' at' sz kp => ?_
    refine ⟨_, rfl, wpAny_letOwnedTupleGo_enum (s := { s with heap := h', toks := s.toks + 1 }) out fun h'' en' sb => ?_⟩
    have at2 : h''.get? s.heap.objs.size = some { cls := .type "tuple", data := .seq #[.int i s.toks, u] } := (sb.2 _ (Nat.ne_of_gt lowe)).trans at'
    have new : ObjOk X.prog X.w (upd H s.heap.objs.size (.tup [.int (i : Nat), x])) h'' s.heap.objs.size (.tup [.int (i : Nat), x]) :=
      ⟨by show 2 ≤ sizeLine; decide, [.int i s.toks, u], .cons ⟨_, rfl⟩ (.cons ru .nil), ⟨_, at2, rfl, _, rfl⟩⟩
    have J : Inv X pins σ (upd H s.heap.objs.size (.tup [.int (i : Nat), x])) { s with heap := h'', toks := s.toks + 1 } :=
      I.turnedNew (ch := [e, it]) (fun b ob nb q => (sb.2 b fun z => nb (by simp [z])).trans (kp b ob (fun z => nb (by simp [z])) (fun z => nb (by simp [z])) q)) hf (Nat.le_refl _) new
    refine ⟨.ref s.heap.objs.size, _, J, rfl, ⟨_, x, rfl, I.hok.fresh (Nat.le_refl _), rfl, fun ys hy => by rw [I.tuple_inj hy hq]; exact hx⟩, ⟨⟨u, ?_⟩, ti'.at fun o q => (sb.2 it (Ne.symm ap)).trans q, ap⟩, fun b hb => ?_⟩
    · rw [show ((i + 1 : Nat) : Int) = (i : Int) + 1 by omega]
      exact en'
    · rw [upd_ne (Nat.ne_of_lt (low b hb))]
      exact (hf b hb).1
  done := by
    intro X hP hw hK hc i pins s σ H E I hf st hg
    subst hP hw hK
    obtain ⟨⟨old, en⟩, ti, ap⟩ := st
    obtain ⟨xs, hq, hx⟩ := hg
    obtain ⟨its, rv, tp, hz⟩ := I.tuple hq
    obtain ⟨f0, f1, f2, f3, f4, f5⟩ := hf it (List.mem_cons_of_mem _ List.mem_cons_self)
    have hl := rv.length
    exact EnT.last_enumT (I.ok.hd hc) en ti (show s.heap.IsTuple a its.toArray from tp) (by simp; omega) fun h' eb => ⟨rfl, I.turned (t' := s.toks) (fun b o hb q => eb b o hb q) f0 f1 f3 f4 f5⟩
  self := fun A i s Q E st h => by
    obtain ⟨⟨old, en⟩, _⟩ := st
    exact wpAny_pyIter_enum en h
def iEnT (K : PySem.W.Frag) (ta : TA) : TI := fun σ H R => ta σ H fun vs H1 => ∃ a xs, vs = [.ref a] ∧ SqT K H1 a xs ∧ R (IteT K a) H1
theorem pi_enT {X : Cx} {e : Expr} {ta : TA} {p pos tpos : Pos} {elts : List Expr} {kk : Nat} (hg : Gl X "enumerate") (hm : X.mg "enumerate" = none) (ha : PA X [e] ta) (hs : starEach [e] X.env = [(false, eval e X.env)] := by rfl) :
    PI X (.Tuple elts kk tpos) (.Call (.Name "enumerate" p) [e] [] pos) (iEnT X.K ta) := by
  refine ⟨fun pins s σ H R I h => ?_⟩
  refine Call_ (ld_blt I hg hm boot_enumerate (PyProof.Rows.callWith_type1 (thn (ha.run pos pins s σ H _ I h) fun us s1 ⟨vs, H1, I1, r1, a, xs, ex, hq, q⟩ => ?_) hs rfl))
  subst ex
  obtain ⟨u, rfl, ru⟩ := r1.one
  cases ru
  obtain ⟨its, rv, tp, hz⟩ := I1.tuple hq
  refine EnT.call_enumT (show s1.heap.IsTuple a its.toArray from tp) fun h' en ti sz kp => wpAny_pyIter_enum en ?_
  have I2 : Inv X pins σ H1 { s1 with heap := h' } := I1.kept (t' := s1.toks) kp
  refine ⟨s1.heap.objs.size + 1, [s1.heap.objs.size + 1, s1.heap.objs.size], _, _, H1, rfl, I2, turn_enT a (s1.heap.objs.size + 1) s1.heap.objs.size, ⟨⟨.none, en⟩, ti, Nat.succ_ne_self _⟩, fun b hb => ?_, q⟩
  have hle : s1.heap.objs.size ≤ b := by
    rcases List.mem_cons.mp hb with z | hb
    · rw [z]; exact Nat.le_add_right _ _
    · rw [List.mem_singleton.mp hb]; exact Nat.le_refl _
  exact I1.fpOk hle (I1.hok.fresh hle)
end PL

/-! PL18: list(zip(a, b)) of two tuples -/
namespace ZiT
open PySem
open PySem.Sem (wp)
theorem zip_nolen : typeLookup (.type "zip") "__len__" = pure none := by rw [typeLookup_type, builtinLookup_eq_fast]; kernel_rfl
theorem zip_nohint : typeLookup (.type "zip") "__length_hint__" = pure none := by rw [typeLookup_type, builtinLookup_eq_fast]; kernel_rfl
section
variable {prog : Program} {w : World} {A : Around} {E : Value → Shared → Prop} {s : Shared}
/-- a zip of two tuples, the pair T that it gave last is still out -/
theorem item_held {z TI TO T i1 i2 l1 l2 : Addr} {f : Bool} {oT : Obj} {k1 k2 : Nat} {xs ys : Array Value} {x y : Value} {Q : Option Value → Shared → Prop} (D : ZipApart z TI TO i1 i2 l1 l2) (zh : IsZipHeld s.heap z TI TO T f) (oh : s.heap.get? T = some oT) (ph : IsPair s.heap TI (.ref i1) (.ref i2))
    (a1 : s.heap.IsTupleIter i1 l1 k1) (a2 : s.heap.IsTupleIter i2 l2 k2) (t1 : s.heap.IsTuple l1 xs) (t2 : s.heap.IsTuple l2 ys) (hx : xs[k1]? = some x) (hy : ys[k2]? = some y)
    (go : ∀ h', IsZipHeld h' z TI TO T true → h'.IsTupleIter i1 l1 (k1 + 1) → h'.IsTupleIter i2 l2 (k2 + 1) → IsPair h' s.heap.objs.size x y → h'.objs.size = s.heap.objs.size + 1 →
      (∀ c o, c ≠ z → c ≠ i1 → c ≠ i2 → s.heap.get? c = some o → h'.get? c = some o) → Q (some (.ref s.heap.objs.size)) { s with heap := h' }) :
    wpAny (model prog w) A (pyNext (.ref z)) Q E s := by
  have ty : s.TypeIs (.ref z) "zip" := ⟨_, zh, rfl⟩
  unfold pyNext
  refine wpAny_bind (wpAny_attempt (wpAny_callSpecial?_slot (name := Str.ofString "__next__") ty F.slot_zip_next (wpAny_call_entry F.slot_zip_next ty F.entry_zip_next ?_ (F.args_zip_next_1 _))))
  show wpAny _ _ (field (.ref z) 2 >>= _) _ _ _
  refine wpAny_bind (wpAny_field zh rfl (x := .bool false) rfl ?_)
  show wpAny _ _ (field (.ref z) 3 >>= _) _ _ _
  refine wpAny_bind (wpAny_field zh rfl (x := .ref TI) rfl ?_)
  refine wpAny_bind (wpAny_seqItems ph rfl ?_)
  show wpAny _ _ (Builtin.SmallTypes.ownedTupleIsFree (.ref z) >>= _) _ _ _
  refine wpAny_bind (wpAny_tupleHeld_zip zh oh fun g1 zh1 sb1 => ?_)
  simp only [Bool.false_eq_true, if_false]
  refine wpAny_bind ?_
  rw [← Array.forIn_toList]
  simp only [List.forIn_cons, List.forIn_nil]
  refine wpAny_bind (wpAny_bind (wpAny_holding ?_))
  show wpAny _ _ (Builtin.SmallTypes.nextOf (.ref i1) >>= _) _ _ _
  have tup1 : ∀ {l : Addr} {us : Array Value} {g g' : Heap} {b : Addr}, g.IsTuple l us → Heap.SameBut b g g' → l ≠ b → g'.IsTuple l us := fun {l us g g' b} ⟨o, e, r⟩ sb n => ⟨o, sb.extBut _ _ n e, r⟩
  have itr1 : ∀ {i l : Addr} {k : Nat} {g g' : Heap} {b : Addr}, g.IsTupleIter i l k → Heap.SameBut b g g' → i ≠ b → g'.IsTupleIter i l k := fun {i l k g g' b} ⟨o, e, r⟩ sb n => ⟨o, sb.extBut _ _ n e, r⟩
  refine wpAny_bind (RZ.nextOf_tuple_item (s := { s with heap := g1 }) (itr1 a1 sb1 D.i1z) (tup1 t1 sb1 D.l1z) hx fun g2 b1 sb2 => wpAny_pure ?_)
  refine wpAny_pure ?_
  refine wpAny_bind (wpAny_bind (wpAny_holding ?_))
  show wpAny _ _ (Builtin.SmallTypes.nextOf (.ref i2) >>= _) _ _ _
  refine wpAny_bind (RZ.nextOf_tuple_item (s := { s with heap := g2 }) (itr1 (itr1 a2 sb1 D.i2z) sb2 D.i12.symm) (tup1 (tup1 t2 sb1 D.l2z) sb2 D.l2i1) hy fun g3 b2 sb3 => wpAny_pure ?_)
  refine wpAny_pure (wpAny_pure ?_)
  show wpAny _ _ (newTuple [x, y] >>= _) _ _ _
  refine wpAny_bind (wpAny_newTuple ?_)
  have sz : g3.objs.size = s.heap.objs.size := by rw [sb3.1, sb2.1, sb1.1]
  have zh3 : IsZipHeld g3 z TI TO T true := sb3.extBut _ _ D.i2z.symm (sb2.extBut _ _ D.i1z.symm zh1)
  have kp : ∀ c o, c ≠ z → c ≠ i1 → c ≠ i2 → s.heap.get? c = some o → g3.get? c = some o := fun c o c1 c2 c3 e => sb3.extBut _ _ c3 (sb2.extBut _ _ c2 (sb1.extBut _ _ c1 e))
  have b13 : g3.IsTupleIter i1 l1 (k1 + 1) := itr1 b1 sb3 D.i12
  have pr : IsPair (g3.push { cls := .type "tuple", data := .seq #[x, y] }) g3.objs.size x y := Heap.get?_push_size _ rfl
  have sz4 : (g3.push { cls := .type "tuple", data := .seq #[x, y] }).objs.size = g3.objs.size + 1 := Heap.size_push ..
  refine wpAny_pure ⟨_, rfl, ?_⟩
  rw [sz] at pr sz4
  refine wpAny_pure ?_
  show Q (some (.ref g3.objs.size)) _
  rw [sz]
  exact go _ (Heap.get?_push_of_some _ zh3) (b13.at fun o e => Heap.get?_push_of_some _ e) (b2.at fun o e => Heap.get?_push_of_some _ e) pr sz4 fun c o c1 c2 c3 e => Heap.get?_push_of_some _ (kp c o c1 c2 c3 e)
theorem end_held {z TI TO T i1 i2 l1 l2 : Addr} {f : Bool} {oT : Obj} {k1 k2 : Nat} {xs ys : Array Value} {Q : Option Value → Shared → Prop} (hh : A.handled = none) (D : ZipApart z TI TO i1 i2 l1 l2) (zh : IsZipHeld s.heap z TI TO T f) (oh : s.heap.get? T = some oT) (ph : IsPair s.heap TI (.ref i1) (.ref i2))
    (a1 : s.heap.IsTupleIter i1 l1 k1) (a2 : s.heap.IsTupleIter i2 l2 k2) (t1 : s.heap.IsTuple l1 xs) (t2 : s.heap.IsTuple l2 ys) (hend : xs[k1]? = none ∨ ys[k2]? = none)
    (go : ∀ h', (∀ c o, c ≠ z → c ≠ i1 → c ≠ i2 → s.heap.get? c = some o → h'.get? c = some o) → Q none { s with heap := h' }) : wpAny (model prog w) A (pyNext (.ref z)) Q E s := by
  have ty : s.TypeIs (.ref z) "zip" := ⟨_, zh, rfl⟩
  have tup1 : ∀ {l : Addr} {us : Array Value} {g g' : Heap} {b : Addr}, g.IsTuple l us → Heap.SameBut b g g' → l ≠ b → g'.IsTuple l us := fun {l us g g' b} ⟨o, e, r⟩ sb n => ⟨o, sb.extBut _ _ n e, r⟩
  have itr1 : ∀ {i l : Addr} {k : Nat} {g g' : Heap} {b : Addr}, g.IsTupleIter i l k → Heap.SameBut b g g' → i ≠ b → g'.IsTupleIter i l k := fun {i l k g g' b} ⟨o, e, r⟩ sb n => ⟨o, sb.extBut _ _ n e, r⟩
  unfold pyNext
  have stop : ∀ {h' : Heap} {x : Addr}, (∀ c o, c ≠ z → c ≠ i1 → c ≠ i2 → s.heap.get? c = some o → h'.get? c = some o) → (∃ o, h'.get? x = some o ∧ o.cls = .type "StopIteration") →
      wpAny (model prog w) A (do let b ← isInstance (.ref x) (.type "StopIteration"); if b = true then pure (none : Option Value) else throw (.ref x)) Q E { s with heap := h' } := fun {h' x} kp ⟨o, ho, hc⟩ => by
    refine wpAny_bind (wpAny_isInstance (T := "StopIteration") (b := true) ⟨o, ho, hc⟩ isSubtype_stop ?_)
    exact wpAny_pure (go _ kp)
  refine wpAny_bind (wpAny_attempt (wpAny_callSpecial?_slot (name := Str.ofString "__next__") ty F.slot_zip_next (wpAny_call_entry F.slot_zip_next ty F.entry_zip_next ?_ (F.args_zip_next_1 _))))
  show wpAny _ _ (field (.ref z) 2 >>= _) _ _ _
  refine wpAny_bind (wpAny_field zh rfl (x := .bool false) rfl ?_)
  show wpAny _ _ (field (.ref z) 3 >>= _) _ _ _
  refine wpAny_bind (wpAny_field zh rfl (x := .ref TI) rfl ?_)
  refine wpAny_bind (wpAny_seqItems ph rfl ?_)
  show wpAny _ _ (Builtin.SmallTypes.ownedTupleIsFree (.ref z) >>= _) _ _ _
  refine wpAny_bind (wpAny_tupleHeld_zip zh oh fun g1 zh1 sb1 => ?_)
  simp only [Bool.false_eq_true, if_false]
  refine wpAny_bind ?_
  rw [← Array.forIn_toList]
  simp only [List.forIn_cons, List.forIn_nil]
  refine wpAny_bind (wpAny_bind (wpAny_holding ?_))
  show wpAny _ _ (Builtin.SmallTypes.nextOf (.ref i1) >>= _) _ _ _
  cases ex : xs[k1]? with
  | none =>
    refine wpAny_bind (RZ.nextOf_tuple_end (s := { s with heap := g1 }) hh (itr1 a1 sb1 D.i1z) (tup1 t1 sb1 D.l1z) ex fun g2 x sb2 isx => ?_)
    exact stop (fun c o c1 c2 _ e => sb2 _ _ c2 (sb1.extBut _ _ c1 e)) isx
  | some x =>
    have ey : ys[k2]? = none := by
      rcases hend with q | q
      · rw [ex] at q; cases q
      · exact q
    refine wpAny_bind (RZ.nextOf_tuple_item (s := { s with heap := g1 }) (itr1 a1 sb1 D.i1z) (tup1 t1 sb1 D.l1z) ex fun g2 b1 sb2 => wpAny_pure ?_)
    refine wpAny_pure ?_
    refine wpAny_bind (wpAny_bind (wpAny_holding ?_))
    show wpAny _ _ (Builtin.SmallTypes.nextOf (.ref i2) >>= _) _ _ _
    refine wpAny_bind (RZ.nextOf_tuple_end (s := { s with heap := g2 }) hh (itr1 (itr1 a2 sb1 D.i2z) sb2 D.i12.symm) (tup1 (tup1 t2 sb1 D.l2z) sb2 D.l2i1) ey fun g3 x sb3 isx => ?_)
    exact stop (fun c o c1 c2 c3 e => sb3 _ _ c3 (sb2.extBut _ _ c2 (sb1.extBut _ _ c1 e))) isx
end
/-- the zip z of the tuples xs, ys has given the pairs acc; the list is at S -/
structure St (z TI TO i1 i2 l1 l2 S : Addr) (xs ys : Array Value) (acc : Array Value) (h : Heap) : Prop where
  own : (acc.size = 0 ∧ IsZip h z TI TO .none ∧ ∃ a b, IsPair h TO a b) ∨ ∃ T f oT, IsZipHeld h z TI TO T f ∧ h.get? T = some oT ∧ S < T
  inn : IsPair h TI (.ref i1) (.ref i2)
  it1 : h.IsTupleIter i1 l1 acc.size
  it2 : h.IsTupleIter i2 l2 acc.size
  tp1 : h.IsTuple l1 xs
  tp2 : h.IsTuple l2 ys
  got : ∃ as : List Addr, acc.toList = as.map Value.ref ∧ as.Pairwise (· < ·) ∧ ∀ (j : Nat) (t : Addr), as[j]? = some t → S < t ∧ ∃ x y, xs[j]? = some x ∧ ys[j]? = some y ∧ IsPair h t x y
section
variable {prog : Program} {w : World} {A : Around} {E : Value → Shared → Prop} {R : Result → Shared → Prop} {z TI TO i1 i2 l1 l2 S : Addr} {xs ys : Array Value}
theorem St.frame {acc : Array Value} {h h' : Heap} (st : St z TI TO i1 i2 l1 l2 S xs ys acc h) (low : z < S ∧ TI < S ∧ TO < S ∧ i1 < S ∧ i2 < S ∧ l1 < S ∧ l2 < S) (k : ∀ b o, b ≠ S → h.get? b = some o → h'.get? b = some o) : St z TI TO i1 i2 l1 l2 S xs ys acc h' := by
  obtain ⟨n1, n2, n3, n4, n5, n6, n7⟩ := low
  have ne : ∀ {b : Addr}, b < S → b ≠ S := fun q => Nat.ne_of_lt q
  refine ⟨?_, k _ _ (ne n2) st.inn, st.it1.at fun o e => k _ _ (ne n4) e, st.it2.at fun o e => k _ _ (ne n5) e, ?_, ?_, ?_⟩
  · rcases st.own with ⟨e0, e1, a, b, e2⟩ | ⟨T, f, oT, e1, e2, e3⟩
    · exact .inl ⟨e0, k _ _ (ne n1) e1, a, b, k _ _ (ne n3) e2⟩
    · exact .inr ⟨T, f, oT, k _ _ (ne n1) e1, k _ _ (Nat.ne_of_gt e3) e2, e3⟩
  · obtain ⟨o, e, r⟩ := st.tp1; exact ⟨o, k _ _ (ne n6) e, r⟩
  · obtain ⟨o, e, r⟩ := st.tp2; exact ⟨o, k _ _ (ne n7) e, r⟩
  · obtain ⟨as, e1, e2, e3⟩ := st.got
    refine ⟨as, e1, e2, fun j t e => ?_⟩
    obtain ⟨g1, x, y, g2, g3, g4⟩ := e3 j t e
    exact ⟨g1, x, y, g2, g3, k _ _ (Nat.ne_of_gt g1) g4⟩
theorem St.item {acc : Array Value} {s : Shared} {Q : Option Value → Shared → Prop} (st : St z TI TO i1 i2 l1 l2 S xs ys acc s.heap) (D : ZipApart z TI TO i1 i2 l1 l2) (low : z < S ∧ TI < S ∧ TO < S ∧ i1 < S ∧ i2 < S ∧ l1 < S ∧ l2 < S) (lS : S < s.heap.objs.size) (h1 : acc.size < xs.size) (h2 : acc.size < ys.size)
    (go : ∀ v h', St z TI TO i1 i2 l1 l2 S xs ys (acc.push v) h' → s.heap.objs.size ≤ h'.objs.size → (∀ b o, b ∉ [z, TO, i1, i2] → s.heap.get? b = some o → h'.get? b = some o) → Q (some v) { s with heap := h' }) : wpAny (model prog w) A (pyNext (.ref z)) Q E s := by
  have hx : xs[acc.size]? = some xs[acc.size] := Array.getElem?_eq_getElem h1
  have hy : ys[acc.size]? = some ys[acc.size] := Array.getElem?_eq_getElem h2
  obtain ⟨as, e1, e2, e3⟩ := st.got
  have lenA : as.length = acc.size := by
    have := congrArg List.length e1
    rw [List.length_map, Array.length_toList] at this
    exact this.symm
  have zlt : z < s.heap.objs.size := by
    rcases st.own with ⟨_, q, _⟩ | ⟨_, _, _, q, _⟩
    · exact Heap.lt_size q
    · exact Heap.lt_size q
  have fin : ∀ (h' : Heap), ((∃ T f oT, IsZipHeld h' z TI TO T f ∧ h'.get? T = some oT ∧ S < T)) → h'.IsTupleIter i1 l1 (acc.size + 1) → h'.IsTupleIter i2 l2 (acc.size + 1) → IsPair h' s.heap.objs.size xs[acc.size] ys[acc.size] → h'.objs.size = s.heap.objs.size + 1 →
      (∀ c o, c ≠ z → c ≠ TO → c ≠ i1 → c ≠ i2 → s.heap.get? c = some o → h'.get? c = some o) → Q (some (.ref s.heap.objs.size)) { s with heap := h' } := by
    intro h' own a1 a2 pr sz kp
    refine go _ h' ⟨.inr own, kp _ _ D.TIz D.TITO D.TIi1 D.TIi2 st.inn, by rw [Array.size_push]; exact a1, by rw [Array.size_push]; exact a2, ?_, ?_, as ++ [s.heap.objs.size], ?_, ?_, fun j t e => ?_⟩ (by omega) fun b o nb e => ?_
    · obtain ⟨o, e, r⟩ := st.tp1; exact ⟨o, kp _ _ D.l1z D.l1TO D.l1i1 D.l1i2 e, r⟩
    · obtain ⟨o, e, r⟩ := st.tp2; exact ⟨o, kp _ _ D.l2z D.l2TO D.l2i1 D.l2i2 e, r⟩
    · rw [Array.toList_push, e1, List.map_append]; rfl
    · rw [List.pairwise_append]
      refine ⟨e2, List.pairwise_singleton _ _, fun a ha b hb => ?_⟩
      rw [List.mem_singleton.mp hb]
      obtain ⟨j, hj⟩ := List.mem_iff_getElem?.mp ha
      obtain ⟨_, x, y, _, _, g4⟩ := e3 j a hj
      exact Heap.lt_size g4
    · rcases Nat.lt_or_ge j as.length with lt | ge
      · rw [List.getElem?_append_left lt] at e
        obtain ⟨g1, x, y, g2, g3, g4⟩ := e3 j t e
        exact ⟨g1, x, y, g2, g3, kp t _ (Nat.ne_of_gt (Nat.lt_trans low.1 g1)) (Nat.ne_of_gt (Nat.lt_trans low.2.2.1 g1)) (Nat.ne_of_gt (Nat.lt_trans low.2.2.2.1 g1)) (Nat.ne_of_gt (Nat.lt_trans low.2.2.2.2.1 g1)) g4⟩
      · rw [List.getElem?_append_right ge] at e
        have hj : j - as.length = 0 := by
          rcases Nat.eq_zero_or_pos (j - as.length) with q | q
          · exact q
          · rw [List.getElem?_eq_none (by simp; omega)] at e; cases e
        rw [hj] at e
        cases e
        have hj2 : j = acc.size := by omega
        subst hj2
        exact ⟨lS, _, _, hx, hy, pr⟩
    · simp only [List.mem_cons, List.not_mem_nil, or_false, not_or] at nb
      exact kp b o nb.1 nb.2.1 nb.2.2.1 nb.2.2.2 e
  rcases st.own with ⟨_, q1, a, b, q2⟩ | ⟨T, f, oT, q1, q2, q3⟩
  · refine RZ.pyNext_zipT_item D q1 st.inn q2 st.it1 st.it2 st.tp1 st.tp2 hx hy fun h' z' _ a1 a2 pr sz kp => ?_
    exact fin h' ⟨s.heap.objs.size, false, _, z', pr, lS⟩ a1 a2 pr sz kp
  · refine item_held D q1 q2 st.inn st.it1 st.it2 st.tp1 st.tp2 hx hy fun h' z' a1 a2 pr sz kp => ?_
    exact fin h' ⟨T, true, oT, z', kp T _ (Nat.ne_of_gt (Nat.lt_trans low.1 q3)) (Nat.ne_of_gt (Nat.lt_trans low.2.2.2.1 q3)) (Nat.ne_of_gt (Nat.lt_trans low.2.2.2.2.1 q3)) q2, q3⟩ a1 a2 pr sz fun c o c1 _ c3 c4 e => kp c o c1 c3 c4 e
theorem St.fin {acc : Array Value} {s : Shared} {Q : Option Value → Shared → Prop} (hh : A.handled = none) (st : St z TI TO i1 i2 l1 l2 S xs ys acc s.heap) (D : ZipApart z TI TO i1 i2 l1 l2) (hend : xs.size ≤ acc.size ∨ ys.size ≤ acc.size)
    (go : ∀ h', (∀ b o, b ∉ [z, TO, i1, i2] → s.heap.get? b = some o → h'.get? b = some o) → Q none { s with heap := h' }) : wpAny (model prog w) A (pyNext (.ref z)) Q E s := by
  have he : xs[acc.size]? = none ∨ ys[acc.size]? = none := hend.elim (fun q => .inl (Array.getElem?_eq_none q)) fun q => .inr (Array.getElem?_eq_none q)
  rcases st.own with ⟨_, q1, a, b, q2⟩ | ⟨T, f, oT, q1, q2, q3⟩
  · refine RZ.pyNext_zipT_end hh D q1 st.inn q2 st.it1 st.it2 st.tp1 st.tp2 he fun h' kp => go h' fun b o nb e => ?_
    simp only [List.mem_cons, List.not_mem_nil, or_false, not_or] at nb
    exact kp b o nb.1 nb.2.1 nb.2.2.1 nb.2.2.2 e
  · refine end_held hh D q1 q2 st.inn st.it1 st.it2 st.tp1 st.tp2 he fun h' kp => go h' fun b o nb e => ?_
    simp only [List.mem_cons, List.not_mem_nil, or_false, not_or] at nb
    exact kp b o nb.1 nb.2.2.1 nb.2.2.2 e
/-- the list's filling -/
theorem loop (hh : A.handled = none) (D : ZipApart z TI TO i1 i2 l1 l2) (low : z < S ∧ TI < S ∧ TO < S ∧ i1 < S ∧ i2 < S ∧ l1 < S ∧ l2 < S) (hn : min xs.size ys.size ≤ sizeLine) (res : Value) : ∀ (k : Nat) (acc : Array Value) (s : Shared) (c : Nat), min xs.size ys.size - acc.size = k → acc.size ≤ min xs.size ys.size → St z TI TO i1 i2 l1 l2 S xs ys acc s.heap →
    s.heap.get? S = some { cls := .type "list", dict := none, data := .seq acc c, slots := #[] } →
    (∀ h' acc' c', acc'.size = min xs.size ys.size → (∃ as : List Addr, acc'.toList = as.map Value.ref ∧ as.Pairwise (· < ·) ∧ ∀ (j : Nat) (t : Addr), as[j]? = some t → S < t ∧ ∃ x y, xs[j]? = some x ∧ ys[j]? = some y ∧ IsPair h' t x y) → h'.get? S = some { cls := .type "list", dict := none, data := .seq acc' c', slots := #[] } →
      (∀ b o, b ∉ [S, z, TO, i1, i2] → s.heap.get? b = some o → h'.get? b = some o) → R (.ok (.ret res)) { s with heap := h' }) →
    codeAny (model prog w) A (.builtin "list.extend.loop" ⟨[.ref S, .ref z, res], []⟩) R s := by
  have nS : S ∉ [z, TO, i1, i2] := fun q => by
    simp only [List.mem_cons, List.not_mem_nil, or_false] at q
    rcases q with q | q | q | q
    · exact Nat.lt_irrefl _ (q ▸ low.1)
    · exact Nat.lt_irrefl _ (q ▸ low.2.2.1)
    · exact Nat.lt_irrefl _ (q ▸ low.2.2.2.1)
    · exact Nat.lt_irrefl _ (q ▸ low.2.2.2.2.1)
  intro k
  induction k with
  | zero =>
    intro acc s c hk hi st hS hR
    refine codeAny_builtin F.entry_extend_loop ?_
    rw [Around.under_plainId F.plain_extend_loop _]
    show wpAny _ A.in1 (pyNext (.ref z) >>= _) _ _ s
    refine wpAny_bind (st.fin hh D (by omega) fun h' kp => ?_)
    have kpS : ∀ b o, b ∉ [z, TO, i1, i2] → s.heap.get? b = some o → h'.get? b = some o := kp
    obtain ⟨as, e1, e2, e3⟩ := st.got
    refine wpAny_pure (hR h' acc c (by omega) ⟨as, e1, e2, fun j t e => ?_⟩ (kp S _ nS hS) fun b o nb e => kp b o (fun q => nb (List.mem_cons_of_mem _ q)) e)
    obtain ⟨g1, x, y, g2, g3, g4⟩ := e3 j t e
    refine ⟨g1, x, y, g2, g3, kp _ _ (fun q => ?_) g4⟩
    simp only [List.mem_cons, List.not_mem_nil, or_false] at q
    rcases q with q | q | q | q
    · exact absurd g1 (Nat.lt_asymm (q ▸ low.1))
    · exact absurd g1 (Nat.lt_asymm (q ▸ low.2.2.1))
    · exact absurd g1 (Nat.lt_asymm (q ▸ low.2.2.2.1))
    · exact absurd g1 (Nat.lt_asymm (q ▸ low.2.2.2.2.1))
  | succ k ih =>
    intro acc s c hk hi st hS hR
    refine codeAny_builtin F.entry_extend_loop ?_
    rw [Around.under_plainId F.plain_extend_loop _]
    show wpAny _ A.in1 (pyNext (.ref z) >>= _) _ _ s
    refine wpAny_bind (st.item D low (Heap.lt_size hS) (by omega) (by omega) fun v h' st' ge kp => ?_)
    have hS' := kp S _ nS hS
    show wpAny _ A.in1 (updateSeq S (·.push v) >>= _) _ _ _
    refine wpAny_bind ?_
    refine wpAny_updateSeq hS' rfl (wpAny_pure ⟨plainId_quiet F.plain_extend_loop _, ih (acc.push v) _ _ (by rw [Array.size_push]; omega) (by rw [Array.size_push]; omega) (st'.frame low fun b o nb e => ?_) (Heap.get?_update_self _ hS' rfl) fun h2 acc' c' z1 z2 z3 z4 => ?_⟩)
      (by omega) (by show (acc.push v).size ≤ sizeLine + 1; rw [Array.size_push]; omega)
    · exact (Heap.get?_update_other _ _ (Ne.symm nb)).trans e
    · refine hR h2 acc' c' z1 z2 z3 fun b o nb e => z4 b o nb ?_
      have nbS : b ≠ S := fun q => nb (by rw [q]; exact List.mem_cons_self)
      exact (Heap.get?_update_other _ _ (Ne.symm nbS)).trans (kp b o (fun q => nb (List.mem_cons_of_mem _ q)) e)
/-- list(z), z a new zip -/
theorem call_list {s : Shared} {Q : Value → Shared → Prop} (hh : A.handled = none) (D : ZipApart z TI TO i1 i2 l1 l2) (low : z < s.heap.objs.size ∧ TI < s.heap.objs.size ∧ TO < s.heap.objs.size ∧ i1 < s.heap.objs.size ∧ i2 < s.heap.objs.size ∧ l1 < s.heap.objs.size ∧ l2 < s.heap.objs.size) (hn : min xs.size ys.size ≤ sizeLine)
    (hz : IsZip s.heap z TI TO .none) (hp : IsPair s.heap TI (.ref i1) (.ref i2)) (ho : ∃ a b, IsPair s.heap TO a b) (a1 : s.heap.IsTupleIter i1 l1 0) (a2 : s.heap.IsTupleIter i2 l2 0) (t1 : s.heap.IsTuple l1 xs) (t2 : s.heap.IsTuple l2 ys)
    (go : ∀ h' acc' c', acc'.size = min xs.size ys.size → (∃ as : List Addr, acc'.toList = as.map Value.ref ∧ as.Pairwise (· < ·) ∧ ∀ (j : Nat) (t : Addr), as[j]? = some t → s.heap.objs.size < t ∧ ∃ x y, xs[j]? = some x ∧ ys[j]? = some y ∧ IsPair h' t x y) →
      h'.get? s.heap.objs.size = some { cls := .type "list", dict := none, data := .seq acc' c', slots := #[] } → (∀ b o, b ∉ [z, TO, i1, i2] → s.heap.get? b = some o → h'.get? b = some o) → Q (.ref s.heap.objs.size) { s with heap := h' }) :
    wpAny (model prog w) A (call (.type "list") [.ref z]) Q E s := by
  refine callType_codes (Q₁ := fun obj s₁ => obj = .ref s.heap.objs.size ∧ s₁ = { s with heap := s.heap.push { cls := .type "list", data := .seq #[] } }) F.called_list (F.typeCall_list_1 _) F.entry_list_init (code_list_new _ ⟨rfl, rfl⟩) fun obj s1 h1 => ?_
  obtain ⟨rfl, rfl⟩ := h1
  generalize hg0 : s.heap.push { cls := .type "list", data := .seq #[] } = g0
  have hS : g0.get? s.heap.objs.size = some { cls := .type "list", data := .seq #[] } := by rw [← hg0]; exact Heap.get?_push_size _ rfl
  have kp0 : ∀ b o, s.heap.get? b = some o → g0.get? b = some o := fun b o e => by rw [← hg0]; exact Heap.get?_push_of_some _ e
  have st0 : St z TI TO i1 i2 l1 l2 s.heap.objs.size xs ys #[] g0 := by
    obtain ⟨a, b, ho⟩ := ho
    refine ⟨.inl ⟨rfl, kp0 _ _ hz, a, b, kp0 _ _ ho⟩, kp0 _ _ hp, a1.at fun o e => kp0 _ _ e, a2.at fun o e => kp0 _ _ e, ?_, ?_, [], rfl, List.Pairwise.nil, fun j t e => by simp at e⟩
    · obtain ⟨o, e, r⟩ := t1; exact ⟨o, kp0 _ _ e, r⟩
    · obtain ⟨o, e, r⟩ := t2; exact ⟨o, kp0 _ _ e, r⟩
  refine ⟨⟨_, hS, rfl⟩, F.args_list_init_2 _ _, ?_⟩
  -- list.__init__
  show wpAny _ _ (do let old ← Builtin.List.listItems (.ref s.heap.objs.size); Builtin.List.listUpdate (.ref s.heap.objs.size) (fun _ => #[]); letGo old.toList.reverse; Builtin.List.listExtendWith (.ref s.heap.objs.size) (.ref z) .none) _ _ _
  refine wpAny_bind ?_
  unfold Builtin.List.listItems
  refine wpAny_bind (wpAny_seqItems hS rfl (wpAny_pure ?_))
  show wpAny _ _ (updateSeq s.heap.objs.size (fun _ => #[]) >>= fun _ => letGo (#[] : Array Value).toList.reverse >>= fun _ => Builtin.List.listExtendWith (.ref s.heap.objs.size) (.ref z) .none) _ _ _
  refine wpAny_bind (wpAny_updateSeq hS rfl ?_)
  generalize hg1 : g0.update s.heap.objs.size (Obj.mapSeq (fun _ => (#[] : Array Value))) = g1
  have hS1 : ∃ c, g1.get? s.heap.objs.size = some { cls := .type "list", data := .seq #[] c } := by rw [← hg1]; exact ⟨_, Heap.get?_update_self (Obj.mapSeq (fun _ => (#[] : Array Value))) hS rfl⟩
  have kp1 : ∀ b o, b ≠ s.heap.objs.size → g0.get? b = some o → g1.get? b = some o := fun b o nb e => by rw [← hg1]; exact (Heap.get?_update_other _ _ (Ne.symm nb)).trans e
  have st1 := st0.frame low kp1
  obtain ⟨c1, hS1⟩ := hS1
  refine wpAny_bind (wpAny_letGo ?_)
  have ty : ∀ g : Heap, St z TI TO i1 i2 l1 l2 s.heap.objs.size xs ys #[] g → Shared.TypeIs { s with heap := g } (.ref z) "zip" := fun g st => by
    rcases st.own with ⟨_, q, _⟩ | ⟨_, _, _, q, _⟩
    · exact ⟨_, q, rfl⟩
    · exact ⟨_, q, rfl⟩
  have hz1 : IsZip g1 z TI TO .none := kp1 _ _ (Nat.ne_of_lt low.1) (kp0 _ _ hz)
  unfold Builtin.List.listExtendWith
  refine wpAny_bind (wpAny_typeOf (ty g1 st1) ?_)
  have nz : s.heap.objs.size ≠ z := Nat.ne_of_gt low.1
  have b1 : Builtin.List.listSameRef (.ref s.heap.objs.size) (.ref z) = false := by simp [Builtin.List.listSameRef, nz]
  have b2 : (Value.type "zip" == Value.type "list") = false := by decide
  have b3 : (Value.type "zip" == Value.type "tuple") = false := by decide
  simp only [b1, b2, b3, Bool.or_false, Bool.false_eq_true, if_false]
  refine wpAny_bind (wpAny_pyIter_zip (s := { s with heap := g1 }) hz1 ?_)
  refine wpAny_bind (wpAny_holding ?_)
  unfold Builtin.List.listLengthHint
  refine wpAny_bind (wpAny_specialOf (ty g1 st1) zip_nolen ?_)
  show wpAny _ _ (specialOf (Value.ref z) (Str.ofString "__length_hint__") >>= _) _ _ _
  refine wpAny_bind (wpAny_specialOf (ty g1 st1) zip_nohint ?_)
  refine wpAny_pure ?_
  show wpAny _ _ (rule "list.extend.makes-room" >>= fun _ => Builtin.List.listTouch (.ref s.heap.objs.size) >>= fun _ => again (.builtin "list.extend.loop" ⟨[.ref s.heap.objs.size, .ref z, .none], []⟩)) _ _ _
  refine wpAny_bind (wpAny_rule ?_)
  refine wpAny_bind ?_
  show wpAny _ _ (updateSeq s.heap.objs.size (·.push .none) >>= fun _ => updateSeq s.heap.objs.size (·.pop)) _ _ _
  refine wpAny_bind (wpAny_updateSeq hS1 rfl ?_)
  have hS2 := Heap.get?_update_self (Obj.mapSeq (·.push Value.none)) hS1 rfl
  refine wpAny_updateSeq (hz := by seq_fits) hS2 rfl ?_
  have hS3 := Heap.get?_update_self (Obj.mapSeq (·.pop)) hS2 rfl
  have kp3 : ∀ b o, b ≠ s.heap.objs.size → g1.get? b = some o → ((g1.update s.heap.objs.size (Obj.mapSeq (·.push Value.none))).update s.heap.objs.size (Obj.mapSeq (·.pop))).get? b = some o :=
    fun b o nb e => (Heap.get?_update_other _ _ (Ne.symm nb)).trans ((Heap.get?_update_other _ _ (Ne.symm nb)).trans e)
  refine wpAny_pure ⟨plainId_quiet F.plain_extend_loop _, loop (A := A.in1) hh D low hn .none _ #[] _ _ rfl (Nat.zero_le _) (st1.frame low kp3) hS3 fun h' acc' c' z1 z2 z3 z4 => ?_⟩
  refine ⟨rfl, go h' acc' c' z1 z2 z3 fun b o nb e => z4 b o (fun q => ?_) (kp3 _ _ (Nat.ne_of_lt (Heap.lt_size e)) (kp1 _ _ (Nat.ne_of_lt (Heap.lt_size e)) (kp0 _ _ e)))⟩
  rcases List.mem_cons.mp q with q | q
  · exact absurd (Heap.lt_size e) (by rw [q]; exact Nat.lt_irrefl _)
  · exact nb q
end
end ZiT

/-! PL19: list(zip(a, b)), enumerate, zip over data; dicts: get, ==, dict(pairs) -/
namespace PL
open PySem PySem.Spec PyProof.Rows L2
theorem StmOk.grow {S : Sm} {H H' : Hp} (st : StmOk S H) (k : ∀ b o, H b = some o → H' b = some o) : StmOk S H' := by
  refine ⟨?_, st.tb.ext k⟩
  have h1 := st.st
  cases e : S.st with
  | none => trivial
  | some z =>
    obtain ⟨a, c⟩ := z
    rw [e] at h1
    obtain ⟨ns, cur, pos, mix, e1, e2, r⟩ := h1
    exact ⟨ns, cur, pos, mix, k _ _ e1, k _ _ e2, r⟩
theorem Ev.grow {S : Sm} {H H' : Hp} (st : StmOk S H) (k : ∀ b o, H b = some o → H' b = some o) : Ev S H H' :=
  ⟨fun b o e _ => k b o e, ⟨fun p xs h => h.elim (fun h => .inl (k _ _ h)) fun ⟨z, h⟩ => .inr ⟨z, k _ _ h⟩, fun p od xs h => k _ _ h⟩, st.grow k⟩
/-! ### new pairs in a new list -/
def putP (H : Hp) : List Addr → List (V × V) → Hp
  | a :: as, p :: ps => putP (upd H a (.tup [p.1, p.2])) as ps
  | _, _ => H
theorem putP_off : ∀ (as : List Addr) (ps : List (V × V)) (H : Hp) {b : Addr}, b ∉ as → putP H as ps b = H b
  | [], _, _, _, _ => by unfold putP; rfl
  | _ :: _, [], _, _, _ => by unfold putP; rfl
  | a :: as, p :: ps, H, b, n => by
    show putP (upd H a (.tup [p.1, p.2])) as ps b = H b
    rw [putP_off as ps _ fun z => n (List.mem_cons_of_mem _ z), upd_ne fun z => n (by rw [z]; exact List.mem_cons_self)]
theorem putP_at : ∀ (as : List Addr) (ps : List (V × V)) (H : Hp), as.Nodup → ∀ (j : Nat) (a : Addr) (p : V × V), as[j]? = some a → ps[j]? = some p → putP H as ps a = some (.tup [p.1, p.2])
  | [], _, _, _, j, a, p, e, _ => by simp at e
  | _ :: _, [], _, _, j, a, p, _, e => by simp at e
  | b :: as, q :: ps, H, nd, 0, a, p, e1, e2 => by
    simp at e1 e2
    subst e1 e2
    show putP (upd H b (.tup [q.1, q.2])) as ps b = _
    rw [putP_off as ps _ (List.nodup_cons.mp nd).1, upd_same]
  | b :: as, q :: ps, H, nd, j + 1, a, p, e1, e2 => putP_at as ps _ (List.nodup_cons.mp nd).2 j a p (by simpa using e1) (by simpa using e2)
theorem pairs_laid {X : Cx} {pins : List (Addr × Obj)} {σ : L2.St} {H : Hp} {s : Shared} {h' : Heap} {as : List Addr} {ps : List (V × V)} {L : Addr} {acc : Array Value} {c : Nat} (I : Inv X pins σ H s) (hk : ∀ b o, s.heap.get? b = some o → h'.get? b = some o) (hL : s.heap.objs.size ≤ L)
    (hS : h'.get? L = some { cls := .type "list", dict := none, data := .seq acc c, slots := #[] }) (up : ∀ t ∈ as, L < t) (nd : as.Nodup) (hacc : acc.toList = as.map Value.ref) (hl : as.length = ps.length) (hz : as.length ≤ sizeLine)
    (hp : ∀ (j : Nat) (t : Addr) (p : V × V), as[j]? = some t → ps[j]? = some p → ∃ u1 u2, RelV p.1 u1 ∧ RelV p.2 u2 ∧ IsPair h' t u1 u2) :
    ∃ H' : Hp, (∀ b o, H b = some o → H' b = some o) ∧ H L = none ∧ H' L = some (.lst (as.map V.ref)) ∧ (∀ (j : Nat) (t : Addr) (p : V × V), as[j]? = some t → ps[j]? = some p → H' t = some (.tup [p.1, p.2])) ∧ Inv X pins σ H' { s with heap := h' } := by
  have nL : L ∉ as := fun z => Nat.lt_irrefl _ (up _ z)
  have newL : H L = none := I.hok.fresh hL
  have new : ∀ t ∈ as, H t = none := fun t ht => I.hok.fresh (Nat.le_of_lt (Nat.lt_of_le_of_lt hL (up t ht)))
  generalize hH' : putP (upd H L (.lst (as.map V.ref))) as ps = H'
  have off : ∀ b, b ∉ as → b ≠ L → H' b = H b := fun b n1 n2 => by rw [← hH', putP_off as ps _ n1, upd_ne n2]
  have at1 : ∀ (j : Nat) (t : Addr) (p : V × V), as[j]? = some t → ps[j]? = some p → H' t = some (.tup [p.1, p.2]) := fun j t p e1 e2 => by rw [← hH']; exact putP_at as ps _ nd j t p e1 e2
  have atL : H' L = some (.lst (as.map V.ref)) := by rw [← hH', putP_off as ps _ nL, upd_same]
  have kp : ∀ b u, H b = some u → H' b = some u := fun b u e => by
    rw [off b (fun z => by rw [new b z] at e; cases e) fun z => by rw [z, newL] at e; cases e]
    exact e
  have low : ∀ b o, s.heap.get? b = some o → b ∉ as ∧ b ≠ L := fun b o e => by
    have lt := Heap.lt_size e
    exact ⟨fun z => absurd lt (Nat.not_lt.mpr (Nat.le_of_lt (Nat.lt_of_le_of_lt hL (up b z)))), Nat.ne_of_lt (Nat.lt_of_lt_of_le lt hL)⟩
  refine ⟨H', kp, newL, atL, at1, ?_⟩
  refine I.call' (ch := []) rfl ⟨fun b o q _ _ _ => hk b o q, fun b o q _ _ _ => ⟨o.slots, hk b o q⟩, fun b o q n _ => ?_, fun b o q _ => ⟨o, hk b o q⟩, fun b xs q => kp b _ q, fun b o u q => kp b _ q, fun b ps q => ⟨#[], by rw [kp b _ q]; simp⟩⟩ (fun b u q => ?_) I.bare fun b z => by simp at z
  · obtain ⟨z1, z2⟩ := low b o q
    rw [off b z1 z2]
    exact n
  · by_cases hb : b ∈ as
    · obtain ⟨j, hj⟩ := List.mem_iff_getElem?.mp hb
      have hjl : j < ps.length := by
        rw [← hl]
        rcases Nat.lt_or_ge j as.length with z | z
        · exact z
        · rw [List.getElem?_eq_none z] at hj; cases hj
      have e2 : ps[j]? = some ps[j] := List.getElem?_eq_getElem hjl
      rw [at1 j b _ hj e2] at q
      cases q
      obtain ⟨u1, u2, r1, r2, z⟩ := hp j b _ hj e2
      exact ⟨by show 2 ≤ sizeLine; decide, [u1, u2], .cons r1 (.cons r2 .nil), ⟨_, z, rfl, _, rfl⟩⟩
    · by_cases hb2 : b = L
      · subst hb2
        rw [atL] at q
        cases q
        refine ⟨by rw [List.length_map]; exact hz, acc.toList, c, by rw [hacc]; exact LiI.vals_refs as, ?_⟩
        rw [Array.toArray_toList]
        exact hS
      · rw [off b hb hb2] at q
        exact (I.hok b u q).stay (fun d v _ y => hk d v y) (fun d y => kp d _ y) fun d xs y => kp d _ y
/-! ### list(zip(a, b)) -/
def tLzip (K : PySem.W.Frag) (t : TA) : TE := fun σ H Q => t σ H fun vs H1 => ∃ a b xs ys, vs = [.ref a, .ref b] ∧ SqT K H1 a xs ∧ SqT K H1 b ys ∧
  ∀ (H' : Hp) (q : Addr) (as : List Addr), (∀ c o, H1 c = some o → H' c = some o) → H1 q = none → H' q = some (.lst (as.map V.ref)) → as.length = min xs.length ys.length → (∀ (j : Nat) (t : Addr) (x y : V), as[j]? = some t → xs[j]? = some x → ys[j]? = some y → H' t = some (.tup [x, y])) → Q (.ref q) H'
theorem pe_lzip {X : Cx} {e e2 : Expr} {t : TA} {p p2 pos pos2 : Pos} (hc : X.calm = true) (hg : Gl X "list") (hm : X.mg "list" = none) (hg2 : Gl X "zip") (hm2 : X.mg "zip" = none) (ha : PA X [e, e2] t)
    (na : starEach [.Call (.Name "zip" p2) [e, e2] [] pos2] X.env = (false, eval (.Call (.Name "zip" p2) [e, e2] [] pos2) X.env) :: starEach [] X.env := by rfl) (hs : starEach [e, e2] X.env = (false, eval e X.env) :: starEach [e2] X.env := by rfl) (hpl : (backTo pos2 (starEach [e2] X.env)).any (·.1) = false := by rfl) :
    PE X (.Call (.Name "list" p) [.Call (.Name "zip" p2) [e, e2] [] pos2] [] pos) (tLzip X.K t) := by
  refine ⟨fun pins s σ H Q I h => ?_⟩
  refine Call_ (ld_blt I hg hm PyProof.Rows.boot_list ?_)
  refine PyProof.Rows.callWith_type1 (PyProof.Rows.args_cons ?_ na) na rfl
  refine Call_ (ld_blt I hg2 hm2 PyProof.Rows.boot_zip (PyProof.Rows.callWith_type1 (thn (ha.run pos2 pins s σ H _ I h) fun us s1 ⟨vs, H1, I1, r1, a, b, xs, ys, ex, qa, qb, q⟩ => ?_) hs hpl))
  subst ex
  obtain ⟨u1, u2, rfl, ra, rb⟩ := r1.two
  cases ra
  cases rb
  obtain ⟨its, rv, p1, z1⟩ := I1.tuple qa
  obtain ⟨its2, rv2, p3, z2⟩ := I1.tuple qb
  have t1 : s1.heap.IsTuple a its.toArray := p1
  have t2 : s1.heap.IsTuple b its2.toArray := p3
  obtain ⟨o1, ho1, _⟩ := id t1
  obtain ⟨o2, ho2, _⟩ := id t2
  have la := Heap.lt_size ho1
  have lb := Heap.lt_size ho2
  refine RZ.call_zipT t1 t2 fun h' hz hTI hTO h1 h2 hsz hk => ?_
  refine PyProof.Rows.args_nil ?_
  have low : s1.heap.objs.size + 4 < h'.objs.size ∧ s1.heap.objs.size + 2 < h'.objs.size ∧ s1.heap.objs.size + 3 < h'.objs.size ∧ s1.heap.objs.size < h'.objs.size ∧ s1.heap.objs.size + 1 < h'.objs.size ∧ a < h'.objs.size ∧ b < h'.objs.size := by
    rw [hsz]
    exact ⟨by omega, by omega, by omega, by omega, by omega, Nat.lt_of_lt_of_le la (by omega), Nat.lt_of_lt_of_le lb (by omega)⟩
  have tu : ∀ {l : Addr} {vs : Array Value}, s1.heap.IsTuple l vs → h'.IsTuple l vs := fun {l vs} ⟨o, e, r⟩ => ⟨o, hk _ _ e, r⟩
  have l1 := rv.length
  have l2 := rv2.length
  refine ZiT.call_list (s := { s1 with heap := h' }) (I1.ok.hd hc) (PySem.W.ktu_apart s1.heap.objs.size a b la lb) low (by simp only [List.size_toArray]; omega) hz hTI ⟨_, _, hTO⟩ h1 h2 (tu t1) (tu t2) fun h2' acc c hsz2 ⟨as, e1, e2, e3⟩ hS kp => ?_
  have lenA : as.length = acc.size := by
    have := congrArg List.length e1
    rw [List.length_map, Array.length_toList] at this
    exact this.symm
  simp only [List.size_toArray] at hsz2
  have kall : ∀ d o, s1.heap.get? d = some o → h2'.get? d = some o := fun d o e => kp d o (fun z => by
    have lt := Heap.lt_size e
    simp only [List.mem_cons, List.not_mem_nil, or_false] at z
    rcases z with z | z | z | z <;> (rw [z] at lt; first | exact Nat.lt_irrefl _ lt | exact Nat.not_lt.mpr (Nat.le_add_right _ _) lt)) (hk d o e)
  have hlz : (xs.zip ys).length = min xs.length ys.length := List.length_zip
  obtain ⟨H', k1, k2, k3, k4, J⟩ := pairs_laid (ps := xs.zip ys) (L := h'.objs.size) I1 kall (by omega) hS (fun t ht => by obtain ⟨j, hj⟩ := List.mem_iff_getElem?.mp ht; exact (e3 j t hj).1) (e2.imp fun h => Nat.ne_of_lt h) e1 (by rw [hlz]; omega) (by omega) fun j t pr g1 g2 => by
    obtain ⟨_, x, y, g3, g4, g5⟩ := e3 j t g1
    rw [List.getElem?_zip_eq_some] at g2
    rw [List.getElem?_toArray] at g3 g4
    exact ⟨x, y, by
      obtain ⟨u, f1, f2⟩ := rv.get g2.1
      rw [g3] at f1; cases f1; exact f2, by
      obtain ⟨u, f1, f2⟩ := rv2.get g2.2
      rw [g4] at f1; cases f1; exact f2, g5⟩
  refine ⟨.ref _, H', J, rfl, q H' _ as k1 k2 k3 (by omega) fun j t x y g1 g2 g3 => k4 j t (x, y) g1 ?_⟩
  rw [List.getElem?_zip_eq_some]
  exact ⟨g2, g3⟩
def zipD : List D → List D → List D := List.zipWith fun x y => .tup [x, y]
section
variable {K : PySem.W.Frag} {X : Cx} {S : Sm} {W : WX} {e e2 a b o : Expr} {es : List Expr} {te te2 ta tb tc : TE} {tl : TA} {de de2 da db dc : DE} {dl : DA} {p p2 pos pos2 tpos apos cpos : Pos} {elts : List Expr} {kk : Nat}
def dLzip (da db : DE) : DE := fun ρ P E => da ρ (fun x => db ρ (fun y => match x, y with | .d (.tup xs), .d (.tup ys) => P (.n (.lst (zipD xs ys))) | _, _ => False) E) E
theorem pd_lzip (hc : X.calm = true) (hm : X.mg "list" = none) (hm2 : X.mg "zip" = none) (ha : PD K X S W a ta da) (hb : PD K X S W b tb db) (hg : Gl X "list" := by rfl) (hg2 : Gl X "zip" := by rfl)
    (na : starEach [.Call (.Name "zip" p2) [a, b] [] pos2] X.env = (false, eval (.Call (.Name "zip" p2) [a, b] [] pos2) X.env) :: starEach [] X.env := by rfl) (hs : starEach [a, b] X.env = (false, eval a X.env) :: starEach [b] X.env := by rfl) (hs2 : starEach [b] X.env = (false, eval b X.env) :: starEach [] X.env := by rfl) (hpl : (backTo pos2 (starEach [b] X.env)).any (·.1) = false := by rfl) :
    PD K X S W (.Call (.Name "list" p) [.Call (.Name "zip" p2) [a, b] [] pos2] [] pos) (tLzip K (tCons ta (tCons tb tNil))) (dLzip da db) := by
  obtain ⟨hK, pa, ha⟩ := ha
  obtain ⟨_, pb, hb⟩ := hb
  subst hK
  refine ⟨rfl, pe_lzip hc hg hm hg2 hm2 (pa_cons pa (pa_cons pb pa_nil hs2) hs) na hs hpl, fun ρ P E hd H0 pr σ H Q ho q w => ?_⟩
  refine ha ρ _ E hd H0 pr σ H _ ho (fun x v H1 hx e1 r1 => ?_) w
  refine hb ρ _ E hx H0 pr σ H1 _ (ho.step e1) (fun y u H2 hy e2 r2 => ?_) (w.step e1)
  split at hy
  · next xs ys =>
    have r1' : Rep X.K H2 v (.tup xs) := Rep.mono e2.tup r1
    cases r1' with
    | tup h1 s1 =>
      cases r2 with
      | tup h2 s2 =>
        refine ⟨_, _, _, _, rfl, h1, h2, fun H' q0 as k1 k2 k3 hl k4 => ?_⟩
        have e3 : Ev S H2 H' := Ev.grow e2.stm k1
        have e13 := (e1.trans e2).trans e3
        refine q _ _ _ hy e13 ⟨q0, rfl, (e1.trans e2).back ho.stm k2, _, k3, ?_⟩
        have go : ∀ (as : List Addr) {vs ws : List V} {xs ys : List D}, Reps X.K H2 vs xs → Reps X.K H2 ws ys → as.length = min vs.length ws.length → (∀ (j : Nat) (t : Addr) (x y : V), as[j]? = some t → vs[j]? = some x → ws[j]? = some y → H' t = some (.tup [x, y])) → Reps X.K H' (as.map V.ref) (zipD xs ys) := by
          intro as
          induction as with
          | nil =>
            intro vs ws xs ys r1 r2 hl _
            cases r1 with
            | nil => exact .nil
            | cons _ _ =>
              cases r2 with
              | nil => exact .nil
              | cons _ _ => simp at hl
          | cons t as ih =>
            intro vs ws xs ys r1 r2 hl k4
            cases r1 with
            | nil => simp at hl
            | cons a1 b1 =>
              cases r2 with
              | nil => simp at hl
              | cons a2 b2 =>
                refine .cons (.tup (SqT.of (k4 0 t _ _ rfl rfl rfl)) (.cons (a1.mono e3.tup) (.cons (a2.mono e3.tup) .nil))) (ih b1 b2 (by simp only [List.length_cons] at hl; omega) fun j t' x y h1 h2 h3 => k4 (j + 1) t' x y (by simpa using h1) (by simpa using h2) (by simpa using h3))
        exact go as s1 s2 hl k4
  · exact hy.elim
/-! ### enumerate -/
def enumD (xs : List D) : List D := xs.mapIdx fun i x => .tup [.int i, x]
theorem enumD_get {xs : List D} {i : Nat} {y : D} (h : (enumD xs)[i]? = some y) : ∃ x, xs[i]? = some x ∧ y = .tup [.int i, x] := by
  unfold enumD at h
  rw [List.getElem?_mapIdx] at h
  cases z : xs[i]? with
  | none => rw [z] at h; cases h
  | some x => rw [z] at h; cases h; exact ⟨x, rfl, rfl⟩
theorem enumD_length (xs : List D) : (enumD xs).length = xs.length := by unfold enumD; rw [List.length_mapIdx]
theorem itOk_enT {xs : List D} {q : Addr} {H1 : Hp} (r : Rep K H1 (.ref q) (.tup xs)) : ItOk K S (IteT K q) (enumD xs) ⟨fun _ _ => False, fun v d => v = .ref q ∧ d = .tup xs⟩ H1 := by
  refine ⟨fun p o z => z.elim, fun v d ⟨e1, e2⟩ => ?_, fun H _ hf => ?_⟩
  · subst e1 e2; exact r
  · have h := hf _ _ ⟨rfl, rfl⟩
    cases h with
    | tup h1 h2 =>
      refine ⟨fun i x hx => ?_, _, h1, by rw [h2.length, enumD_length]; exact Nat.le_refl _⟩
      obtain ⟨d, hd, rfl⟩ := enumD_get hx
      obtain ⟨w, h3, h4⟩ := h2.get hd
      refine ⟨⟨_, w, h1, h3⟩, fun v H' hy => ?_⟩
      obtain ⟨T, u, rfl, nT, rfl, hy⟩ := hy
      have h5 := hy _ h1
      rw [h3] at h5
      cases h5
      exact ⟨fun st => Ev.new st nT, .tup (SqT.of upd_same) (.cons (.int _) (.cons (h4.mono (tk_new nT)) .nil))⟩
def iEnD (de : DE) : DI := fun ρ P E => de ρ (fun r => match r with | .d (.tup xs) => P (enumD xs) ρ | _ => False) E
theorem id_enT (hm : X.mg "enumerate" = none) (h : PD K X S W e te de) (hg : Gl X "enumerate" := by rfl) (hs : starEach [e] X.env = [(false, eval e X.env)] := by rfl) (hs2 : starEach [e] X.env = (false, eval e X.env) :: starEach [] X.env := by rfl) : ID K X S W (.Tuple elts kk tpos) (.Call (.Name "enumerate" p) [e] [] pos) (iEnT K (tCons te tNil)) (iEnD de) := by
  obtain ⟨hK, pe, h⟩ := h
  subst hK
  refine ⟨rfl, pi_enT hg hm (pa_cons pe pa_nil hs2) hs, fun ρ P E hd H0 pr σ H Q ho q w => ?_⟩
  refine h ρ _ E hd H0 pr σ H _ ho (fun r v H1 hr e1 rr => ?_) w
  split at hr
  · have rr2 := rr
    cases rr with
    | tup h1 r1 => exact ⟨_, _, rfl, h1, q _ ρ _ _ H1 hr e1 (ho.step e1) (itOk_enT rr2) fun i q' o _ _ z => z⟩
  · exact hr.elim
/-- of a list -/
theorem itOk_enL {vs : List V} {xs : List D} {q : Addr} {ob : HO} {H1 : Hp} (h : H1 q = some ob) (hob : ob = .lst vs ∨ ∃ od, ob = .frz od (.lst vs)) (n : NotS S q) (r : Reps K H1 vs xs) :
    ItOk K S (Ite K q) (enumD xs) ⟨fun p o => p = q ∧ o = ob, fun v d => ∃ i : Nat, vs[i]? = some v ∧ xs[i]? = some d⟩ H1 := by
  refine ⟨fun p o ⟨e1, e2⟩ => ?_, fun v d ⟨i, h1, h2⟩ => ?_, fun H ho hf => ?_⟩
  · subst e1 e2; exact ⟨h, n⟩
  · obtain ⟨w, h3, h4⟩ := r.get h2
    rw [h1] at h3
    cases h3
    exact h4
  · have hq : SqL K H q vs := by
      have hq := ho q _ ⟨rfl, rfl⟩
      rcases hob with e | ⟨od, e⟩
      · subst e; exact .inl (.inl hq)
      · subst e; exact .inl (.inr ⟨od, hq⟩)
    refine ⟨fun i x hx => ?_, vs, hq, by rw [r.length, enumD_length]; exact Nat.le_refl _⟩
    obtain ⟨d, hd, rfl⟩ := enumD_get hx
    obtain ⟨w, h3, _⟩ := r.get hd
    refine ⟨⟨vs, w, hq, h3⟩, fun v H' hy => ?_⟩
    obtain ⟨T, u, rfl, nT, rfl, hy⟩ := hy
    have h5 := hy vs hq
    rw [h3] at h5
    cases h5
    exact ⟨fun st => Ev.new st nT, .tup (SqT.of upd_same) (.cons (.int _) (.cons ((hf w d ⟨i, h3, hd⟩).mono (tk_new nT)) .nil))⟩
def iEnN (de : DE) : DI := fun ρ P E => de ρ (fun r => match r with | .n (.lst xs) => P (enumD xs) ρ | _ => False) E
theorem id_enN (hm : X.mg "enumerate" = none) (h : PD K X S W e te de) (hg : Gl X "enumerate" := by rfl) (hs : starEach [e] X.env = [(false, eval e X.env)] := by rfl) (hs2 : starEach [e] X.env = (false, eval e X.env) :: starEach [] X.env := by rfl) : ID K X S W (.Tuple elts kk tpos) (.Call (.Name "enumerate" p) [e] [] pos) (iEnum K (tCons te tNil)) (iEnN de) := by
  obtain ⟨hK, pe, h⟩ := h
  subst hK
  refine ⟨rfl, pi_enum hg hm (pa_cons pe pa_nil hs2) hs, fun ρ P E hd H0 pr σ H Q ho q w => ?_⟩
  refine h ρ _ E hd H0 pr σ H _ ho (fun r v H1 hr e1 rr => ?_) w
  split at hr
  · obtain ⟨p, rfl, np, vs, h1, r1⟩ := rr
    refine ⟨p, vs, rfl, SqL.of h1, q _ ρ _ _ H1 hr e1 (ho.step e1) (itOk_enL h1 (.inl rfl) (ho.stm.fresh np) r1) fun i q' o ow s z => ?_⟩
    obtain ⟨rfl, _⟩ := z
    obtain ⟨_, c, st⟩ := ho.heldAt (own_held ow) s
    obtain ⟨ob, eo, _⟩ := st.some
    rw [np] at eo
    cases eo
  · exact hr.elim
def iEnV (j : Nat) : DI := fun ρ P _ => match nth ρ j with
  | .o (.lst xs) => P (enumD xs) (setA ρ j (.f (.lst xs)))
  | .f (.lst xs) => P (enumD xs) ρ
  | .b (.lst xs) => P (enumD xs) ρ
  | _ => False
theorem id_enV {j : Nat} (hm : X.mg "enumerate" = none) (h : PE X e (tVar j)) (hg : Gl X "enumerate" := by rfl) (hs : starEach [e] X.env = [(false, eval e X.env)] := by rfl) (hs2 : starEach [e] X.env = (false, eval e X.env) :: starEach [] X.env := by rfl) (hK : X.K = K := by rfl) : ID K X S W (.Tuple elts kk tpos) (.Call (.Name "enumerate" p) [e] [] pos) (iEnum K (tCons (tVar j) tNil)) (iEnV j) := by
  subst hK
  refine ⟨rfl, pi_enum hg hm (pa_cons h pa_nil hs2) hs, fun ρ P E hd H0 pr σ H Q ho q w => ?_⟩
  have s := ho.slot j
  unfold iEnV at hd
  split at hd
  · next xs z =>
    have own : (nth ρ j).own = true := by rw [z]; rfl
    have hl : j < ρ.length := by
      rcases Nat.lt_or_ge j ρ.length with y | y
      · exact y
      · rw [nth_big ρ j y] at z; cases z
    rw [z] at s
    obtain ⟨p, e1, n0, vs, h1, r1⟩ := s
    refine ⟨_, getD_get e1, p, vs, rfl, SqL.of h1, q (enumD xs) _ _ _ H hd (Ev.refl ho.stm) (ho.freeze z) (itOk_enL h1 (.inl rfl) (ho.st0.fresh n0) r1) fun i q' o ow s2 y => ?_⟩
    obtain ⟨rfl, _⟩ := y
    have ne : i ≠ j := fun y => by subst y; rw [nth_setA_same _ _ _ hl] at ow; cases ow
    rw [nth_setA_ne _ _ _ _ ne] at ow
    exact ho.sep i j q' ow (own_held own) ne s2 e1
  · next xs z =>
    have held : (nth ρ j).held = true := by rw [z]; rfl
    rw [z] at s
    obtain ⟨p, e1, n0, vs, h1, r1⟩ := s
    refine ⟨_, getD_get e1, p, vs, rfl, SqL.of h1, q (enumD xs) _ _ _ H hd (Ev.refl ho.stm) ho (itOk_enL h1 (.inl rfl) (ho.st0.fresh n0) r1) fun i q' o ow s2 y => ?_⟩
    obtain ⟨rfl, _⟩ := y
    exact ho.sep i j q' ow held (fun y => by subst y; rw [z] at ow; cases ow) s2 e1
  · next xs z =>
    rw [z] at s
    obtain ⟨p, e1, n, st⟩ := s
    obtain ⟨vs, h1, r1⟩ := st.step ho.ev n
    have key : ∀ ob, H p = some ob → (ob = .lst vs ∨ ∃ od, ob = .frz od (.lst vs)) → iEnum X.K (tCons (tVar j) tNil) σ H Q := fun ob hob hk => by
      refine ⟨_, getD_get e1, p, vs, rfl, .inl h1, q (enumD xs) _ _ _ H hd (Ev.refl ho.stm) ho (itOk_enL hob hk n r1) fun i q' o ow s2 y => ?_⟩
      obtain ⟨rfl, _⟩ := y
      obtain ⟨n0, _⟩ := ho.heldAt (own_held ow) s2
      obtain ⟨ob, eo⟩ := st.some
      rw [n0] at eo
      cases eo
    rcases h1 with h1 | ⟨od, h1⟩
    · exact key _ h1 (.inl rfl)
    · exact key _ h1 (.inr ⟨od, rfl⟩)
  · exact hd.elim
/-! ### zip of two tuples, walked -/
theorem zipD_get {xs ys : List D} {i : Nat} {z : D} (h : (zipD xs ys)[i]? = some z) : ∃ x y, xs[i]? = some x ∧ ys[i]? = some y ∧ z = .tup [x, y] := by
  unfold zipD at h
  rw [List.getElem?_zipWith] at h
  cases e1 : xs[i]? with
  | none => rw [e1] at h; cases h
  | some x =>
    cases e2 : ys[i]? with
    | none => rw [e1, e2] at h; cases h
    | some y => rw [e1, e2] at h; cases h; exact ⟨x, y, rfl, rfl, rfl⟩
theorem itOk_zipT {xs ys : List D} {a b : Addr} {H1 : Hp} (r1 : Rep K H1 (.ref a) (.tup xs)) (r2 : Rep K H1 (.ref b) (.tup ys)) : ItOk K S (RZ.ItzT K a b) (zipD xs ys) ⟨fun _ _ => False, fun v d => (v = .ref a ∧ d = .tup xs) ∨ (v = .ref b ∧ d = .tup ys)⟩ H1 := by
  refine ⟨fun p o z => z.elim, fun v d z => ?_, fun H _ hf => ?_⟩
  · rcases z with ⟨e1, e2⟩ | ⟨e1, e2⟩
    · subst e1 e2; exact r1
    · subst e1 e2; exact r2
  · have h1 := hf _ _ (.inl ⟨rfl, rfl⟩)
    have h2 := hf _ _ (.inr ⟨rfl, rfl⟩)
    cases h1 with
    | tup q1 s1 =>
      cases h2 with
      | tup q2 s2 =>
        refine ⟨fun i x hx => ?_, _, _, q1, q2, ?_⟩
        · obtain ⟨d1, d2, e1, e2, rfl⟩ := zipD_get hx
          obtain ⟨w1, g1, f1⟩ := s1.get e1
          obtain ⟨w2, g2, f2⟩ := s2.get e2
          refine ⟨⟨_, _, w1, w2, q1, q2, g1, g2⟩, fun v H' hy => ?_⟩
          obtain ⟨T, u1, u2, rfl, nT, rfl, y1, y2⟩ := hy
          have z1 := y1 _ q1
          have z2 := y2 _ q2
          rw [g1] at z1
          rw [g2] at z2
          cases z1
          cases z2
          exact ⟨fun st => Ev.new st nT, .tup (SqT.of upd_same) (.cons (f1.mono (tk_new nT)) (.cons (f2.mono (tk_new nT)) .nil))⟩
        · rw [s1.length, s2.length]
          unfold zipD
          rw [List.length_zipWith]
          rcases Nat.le_total xs.length ys.length with z | z
          · exact .inl (by omega)
          · exact .inr (by omega)
def iZip2 (da db : DE) : DI := fun ρ P E => da ρ (fun x => db ρ (fun y => match x, y with | .d (.tup xs), .d (.tup ys) => P (zipD xs ys) ρ | _, _ => False) E) E
theorem id_zip2 (hm : X.mg "zip" = none) (ha : PD K X S W a ta da) (hb : PD K X S W b tb db) (hg : Gl X "zip" := by rfl) (hs : starEach [a, b] X.env = (false, eval a X.env) :: starEach [b] X.env := by rfl) (hs2 : starEach [b] X.env = (false, eval b X.env) :: starEach [] X.env := by rfl) (hpl : (backTo pos (starEach [b] X.env)).any (·.1) = false := by rfl) :
    ID K X S W (.Tuple elts kk tpos) (.Call (.Name "zip" p) [a, b] [] pos) (RZ.iZipA K (tCons ta (tCons tb tNil))) (iZip2 da db) := by
  obtain ⟨hK, pa, ha⟩ := ha
  obtain ⟨_, pb, hb⟩ := hb
  subst hK
  refine ⟨rfl, RZ.pi_zipA hg hm (pa_cons pa (pa_cons pb pa_nil hs2) hs) hs hpl, fun ρ P E hd H0 pr σ H Q ho q w => ?_⟩
  refine ha ρ _ E hd H0 pr σ H _ ho (fun x v H1 hx e1 r1 => ?_) w
  refine hb ρ _ E hx H0 pr σ H1 _ (ho.step e1) (fun y u H2 hy e2 r2 => ?_) (w.step e1)
  split at hy
  · have r1' : Rep X.K H2 v (.tup _) := Rep.mono e2.tup r1
    have r1'' := r1'
    have r2'' := r2
    cases r1' with
    | tup h1 s1 =>
      cases r2 with
      | tup h2 s2 => exact ⟨_, _, _, _, rfl, .inr ⟨h1, h2, q _ ρ _ _ H2 hy (e1.trans e2) ((ho.step e1).step e2) (itOk_zipT r1'' r2'') fun i q' o _ _ z => z⟩⟩
  · exact hy.elim
end
end PL

/-! PL20: dicts: get with a default, ==, dict(pairs); promises without errors; defs that make lambdas; the end with tables -/
namespace PL
open PySem PySem.Spec PyProof.Rows L2
section
variable {K : PySem.W.Frag} {X : Cx} {S : Sm} {W : WX} {e f o a b : Expr} {es : List Expr} {to te tf ta tb : TE} {tl : TA} {do_ de df da db : DE} {dl : DA} {p pos apos cpos : Pos}
/-- o.get(e, f) -/
def dGet2D (dd dk dx : DE) : DE := fun ρ P E => dd ρ (fun y => match dkOf y with | some kvs => dk ρ (fun x => match keyR x with | some k => dx ρ (fun r => match r with | .d z => P (.d ((valD kvs k).getD z)) | _ => False) E | none => False) E | none => False) E
theorem pd_get2 (hu : X.A.units + 1 < cLine) (ho : PD K X S W o to do_) (he : PD K X S W e te de) (hf : PD K X S W f tf df) (m : M2 X o "get" apos e f cpos := by exact ⟨rfl, rfl, rfl, rfl⟩) :
    PD K X S W (.Call (.Attribute o "get" apos) [e, f] [] cpos) (tDGet2 to te tf) (dGet2D do_ de df) := by
  obtain ⟨hK, po, ho'⟩ := ho
  obtain ⟨_, pe, he⟩ := he
  obtain ⟨_, pf, hf⟩ := hf
  refine ⟨hK, pe_dget2 hu po pe pf m, fun ρ P E hd H0 pr σ H Q ho q w => ?_⟩
  refine ho' ρ _ E hd H0 pr σ H _ ho (fun y u H1 hy e1 r1 => ?_) w
  cases ed : dkOf y with
  | none => rw [ed] at hy; exact hy.elim
  | some kvs =>
    rw [ed] at hy
    obtain ⟨c, ws, rfl, nc, h1, rr⟩ := dkOf_ok (r1.val ho.stm) ed
    refine ⟨c, rfl, .inl ⟨ws, h1⟩, ?_⟩
    refine he ρ _ E hy H0 pr σ H1 _ (ho.step e1) (fun x v H2 hx e2 r2 => ?_) (w.step e1)
    cases ek : keyR x with
    | none => rw [ek] at hx; exact hx.elim
    | some k =>
      rw [ek] at hx
      have ev : v = kV k := keyR_ok (r2.val e1.stm) ek
      subst ev
      refine hf ρ _ E hx H0 pr σ H2 _ ((ho.step e1).step e2) (fun r t H3 hr e3 r3 => ?_) ((w.step e1).step e2)
      split at hr
      · next z =>
        have h3 : Rd H3 c (.dK ws) := e3.rd nc (e2.rd nc h1)
        obtain ⟨v1, v2⟩ := valD_ok (k := k) ((rr.mono e2.tup).mono e3.tup)
        refine ⟨valV ws k, .inl ⟨ws, k, h3, rfl, rfl⟩, ?_⟩
        cases ez : valD kvs k with
        | none =>
          rw [ez] at hr
          rw [v1 ez]
          exact q _ _ H3 hr ((e1.trans e2).trans e3) r3
        | some d =>
          rw [ez] at hr
          obtain ⟨vv, ev, rv⟩ := v2 d ez
          rw [ev]
          exact q _ _ H3 hr ((e1.trans e2).trans e3) rv
      · exact hr.elim
/-! ### dict(pairs) -/
def keyOfD : D → Option Key
  | .int i => some (.inl i)
  | .str s => some (.inr s)
  | _ => none
def pairsOf : List D → Option (List (Key × D))
  | [] => some []
  | .tup [k, v] :: r => match keyOfD k, pairsOf r with
    | some k, some kvs => some ((k, v) :: kvs)
    | _, _ => none
  | _ :: _ => none
def mergeD (kvs : List (Key × D)) : List (Key × D) := kvs.foldl (fun acc kv => putD acc kv.1 kv.2) []
theorem merge_ok {H : Hp} : ∀ {ws : List (Key × V)} {ds : List (Key × D)} {ws0 : List (Key × V)} {ds0 : List (Key × D)}, KVs K H ws ds → KVs K H ws0 ds0 → KVs K H (mergeK ws0 ws) (ds.foldl (fun acc kv => putD acc kv.1 kv.2) ds0)
  | _, _, _, _, .nil, h => h
  | a :: ws, b :: ds, ws0, ds0, .cons r t, h => by
    obtain ⟨r1, r2⟩ := r
    show KVs K H (mergeK (putK ws0 a.1 a.2) ws) (ds.foldl (fun acc kv => putD acc kv.1 kv.2) (putD ds0 b.1 b.2))
    refine merge_ok (show KVs K H ws ds from t) ?_
    rw [r1]
    exact kvs_put r2 h
theorem pairsOf_ok {H : Hp} : ∀ {vs : List V} {ds : List D} {kvs : List (Key × D)}, Reps K H vs ds → pairsOf ds = some kvs → ∃ (ps : List Addr) (ws : List (Key × V)), vs = ps.map V.ref ∧ Paired (fun p kv => SqT K H p [kV kv.1, kv.2]) ps ws ∧ KVs K H ws kvs
  | _, _, _, .nil, e => by cases e; exact ⟨[], [], rfl, .nil, .nil⟩
  | _, _, _, .cons (d := d) r t, e => by
    unfold pairsOf at e
    split at e
    · next h => cases h
    · next k v rs heq =>
      cases heq
      cases r with
      | tup h1 h2 =>
        cases h2 with
        | cons a1 b1 =>
          cases b1 with
          | cons a2 b2 =>
            cases b2
            split at e
            · next kk kvs' e1 e2 =>
              cases e
              obtain ⟨ps, ws, g1, g2, g3⟩ := pairsOf_ok t e2
              have ek : ∀ {v : V}, Rep K H v k → v = kV kk := fun {v} rv => by
                unfold keyOfD at e1
                split at e1
                · cases e1; cases rv; rfl
                · cases e1; cases rv; rfl
                · cases e1
              have := ek a1
              subst this
              exact ⟨_ :: ps, (kk, _) :: ws, by rw [List.map_cons, ← g1], .cons h1 g2, .cons ⟨rfl, a2⟩ g3⟩
            · cases e
    · cases e
def fDictP : List R → (R → Prop) → Prop := fun xs P => match xs with
  | [r] => (match (lstOf r).bind pairsOf with | some kvs => P (.n (.dk (mergeD kvs))) | none => False)
  | _ => False
def rDictP (K : PySem.W.Frag) : List V → Hp → VK → Prop := fun xs H Q => ∃ (a : Addr) (ps : List Addr) (kvs : List (Key × V)), xs = [.ref a] ∧ SqL K H a (ps.map V.ref) ∧ Paired (fun p kv => SqT K H p [kV kv.1, kv.2]) ps kvs ∧ ∀ p, H p = none → Q (.ref p) (upd H p (.dK (mergeK [] kvs)))
theorem callp_dictP : CallP K S (rDictP K) fDictP := by
  intro H vs xs P Q st hx hf q
  unfold fDictP at hf
  split at hf
  · next r =>
    obtain ⟨v, rfl, h⟩ := RepVs.one hx
    split at hf
    · next kvs e =>
      cases z : lstOf r with
      | none => rw [z] at e; cases e
      | some ys =>
        rw [z] at e
        obtain ⟨c, us, rfl, h1, r1⟩ := lstOf_ok h z
        obtain ⟨ps, ws, rfl, g2, g3⟩ := pairsOf_ok r1 e
        exact ⟨c, ps, ws, rfl, .inl h1, g2, fun p np => q _ _ _ hf (Ev.new st np) ⟨p, rfl, np, _, upd_same, (merge_ok g3 .nil).mono (tk_new np)⟩⟩
    · exact hf.elim
  · exact hf.elim
theorem pd_dictP (hc : X.calm = true) (hm : X.mg "dict" = none) (ha : AD K X S W (e :: es) tl dl) (hg : Gl X "dict" := by rfl) (he : starEach (e :: es) X.env = (false, eval e X.env) :: starEach es X.env := by rfl) (hpl : (backTo pos (starEach es X.env)).any (·.1) = false := by rfl) :
    PD K X S W (.Call (.Name "dict" p) (e :: es) [] pos) (tCB (rDictP K) tl) (dCB fDictP dl) := by
  have hK := ha.1
  subst hK
  exact pd_callTy (r := rDictP X.K) (call_dictP hc) callp_dictP hg hm (by decide +kernel) ha (by decide) (by decide) he hpl
/-! ### dicts compared -/
def dEqv (ks ls : List (Key × D)) : Bool := ks.length == ls.length && ks.all fun p => match valD ls p.1 with | some y => PyData.eqv p.2.py y.py | none => false
def kShaped (ks : List (Key × D)) : Prop := ∀ p ∈ ks, SeqAt.shaped p.2.py = true
theorem valD_mem {κ : Type} [DecidableEq κ] {ks : List (κ × D)} {k : κ} {x : D} (h : valD ks k = some x) : (k, x) ∈ ks := by
  induction ks with
  | nil => cases h
  | cons p r ih =>
    unfold valD at h
    by_cases e : p.1 = k
    · rw [if_pos e] at h; cases h; subst e; exact List.mem_cons_self
    · rw [if_neg e] at h; exact List.mem_cons_of_mem _ (ih h)
theorem hitsD {pins : List (Addr × Obj)} {σ : L2.St} {H : Hp} {s : Shared} (I : Inv X pins σ H s) {A : Around} (hu : A.units + 64 < cLine) {ls : List (Key × V)} {vb : List (Key × Value)} {lds : List (Key × D)} (rb : KV ls vb) (rl : KVs X.K H ls lds) (sl : kShaped lds) :
    ∀ {ks : List (Key × V)} {kds : List (Key × D)}, KVs X.K H ks kds → ∀ {va : List (Key × Value)}, KV ks va → kShaped kds → PySem.W.KeqHits A s vb va (kds.all fun p => match valD lds p.1 with | some y => PyData.eqv p.2.py y.py | none => false) := by
  intro ks kds rk
  unfold KVs at rk
  induction rk with
  | nil =>
    intro va r _
    cases r
    exact .nil
  | @cons pk qk ps qs r1 t1 ih =>
    intro va r0 sk
    unfold KV at r0
    cases r0 with
    | @cons _ qv _ vs r0 t0 =>
      obtain ⟨h1, h2⟩ := r0
      obtain ⟨f1, f2⟩ := r1
      obtain ⟨key, u⟩ := qv
      have h1 : pk.1 = key := h1
      have ih' := ih (va := vs) t0 fun p hp => sk p (List.mem_cons_of_mem _ hp)
      obtain ⟨v1, v2⟩ := valD_ok (k := qk.1) rl
      rw [List.all_cons]
      have rv := rb.val pk.1
      cases ez : valD lds qk.1 with
      | none =>
        have e2 : valV ls pk.1 = none := by rw [f1]; exact v1 ez
        rw [e2] at rv
        have e3 : valueAt vb key = none := by
          rw [← h1]
          cases z : valueAt vb pk.1 with
          | none => rfl
          | some y => rw [z] at rv; exact (show False from rv).elim
        exact .miss e3
      | some d =>
        obtain ⟨vv, ev, rd⟩ := v2 d ez
        have e2 : valV ls pk.1 = some vv := by rw [f1]; exact ev
        rw [e2] at rv
        obtain ⟨y, hy, ry⟩ := (show RelO (some vv) (valueAt vb pk.1) from rv).some_of
        rw [h1] at hy
        obtain ⟨as, g1⟩ := Dp.reads I _ _ _ (Rep.dp f2) h2
        obtain ⟨bs, g2⟩ := Dp.reads I _ _ _ (Rep.dp rd) ry
        exact .hit hy (SeqAt.eqAt_reads _ _ A s _ _ as bs g1 g2 (SeqAt.canLay_of_shaped (sk _ List.mem_cons_self)) (SeqAt.canLay_of_shaped (sl _ (valD_mem ez))) (SeqAt.room_of_shaped (sk _ List.mem_cons_self) hu)) ih'
def rEqK (K : PySem.W.Frag) (n : Bool) : R2 := fun x y H Q => ∃ a b ks ls kds lds, x = .ref a ∧ y = .ref b ∧ H a = some (.dK ks) ∧ H b = some (.dK ls) ∧ KVs K H ks kds ∧ KVs K H ls lds ∧ kShaped kds ∧ kShaped lds ∧ Q (.bl (if n then !dEqv kds lds else dEqv kds lds)) H
theorem op_eqK {X : Cx} (hu : X.A.units + 65 < cLine) : OpR X (compareOp .Eq) (rEqK X.K false) := by
  intro pins s σ H x y v u Q I rx ry h
  obtain ⟨a, b, ks, ls, kds, lds, rfl, rfl, ea, eb, rk, rl, sk, sl, q⟩ := h
  obtain rfl : v = Value.ref a := rx
  obtain rfl : u = Value.ref b := ry
  obtain ⟨_, ya, va, ra, da⟩ := (show ObjOk X.prog X.w H s.heap a (.dK ks) from I.hok a _ ea)
  obtain ⟨_, yb, vb, rb, db⟩ := (show ObjOk X.prog X.w H s.heap b (.dK ls) from I.hok b _ eb)
  have l1 : va.length = kds.length := by rw [← ra.length]; exact KVs.length rk
  have l2 : vb.length = lds.length := by rw [← rb.length]; exact KVs.length rl
  refine PySem.W.keq_eq (knd := mixKind X.prog X.w) ya yb da db (by omega) (fun _ => hitsD I (A := X.A.in1) (by show X.A.units + 1 + 64 < cLine; omega) rb rl sl rk ra sk) (fin_bl I q ?_)
  rw [l1, l2]
  rfl
theorem op_neK {X : Cx} (hu : X.A.units + 65 < cLine) : OpR X (compareOp .NotEq) (rEqK X.K true) := by
  intro pins s σ H x y v u Q I rx ry h
  obtain ⟨a, b, ks, ls, kds, lds, rfl, rfl, ea, eb, rk, rl, sk, sl, q⟩ := h
  obtain rfl : v = Value.ref a := rx
  obtain rfl : u = Value.ref b := ry
  obtain ⟨_, ya, va, ra, da⟩ := (show ObjOk X.prog X.w H s.heap a (.dK ks) from I.hok a _ ea)
  obtain ⟨_, yb, vb, rb, db⟩ := (show ObjOk X.prog X.w H s.heap b (.dK ls) from I.hok b _ eb)
  have l1 : va.length = kds.length := by rw [← ra.length]; exact KVs.length rk
  have l2 : vb.length = lds.length := by rw [← rb.length]; exact KVs.length rl
  refine PySem.W.keq_ne (knd := mixKind X.prog X.w) ya yb da db (by omega) (fun _ => hitsD I (A := X.A.in1) (by show X.A.units + 1 + 64 < cLine; omega) rb rl sl rk ra sk) (fin_bl I q ?_)
  rw [l1, l2]
  rfl
def fEqK : R → R → (R → Prop) → Prop := fun x y P => match dkS x, dkS y with | some ks, some ls => kShaped ks ∧ kShaped ls ∧ P (.d (.bl (dEqv ks ls))) | _, _ => False
def fNeK : R → R → (R → Prop) → Prop := fun x y P => match dkS x, dkS y with | some ks, some ls => kShaped ks ∧ kShaped ls ∧ P (.d (.bl (!dEqv ks ls))) | _, _ => False
theorem opp_eqK : OpP K S (rEqK K false) fEqK := by
  intro H v w x y P Q st hx hy hf q
  unfold fEqK at hf
  split at hf
  · next ks ls e1 e2 =>
    obtain ⟨a, ws, rfl, _, h1, r1⟩ := dkS_ok hx e1
    obtain ⟨b, us, rfl, _, h2, r2⟩ := dkS_ok hy e2
    exact ⟨a, b, ws, us, ks, ls, rfl, rfl, h1, h2, r1, r2, hf.1, hf.2.1, q _ _ H hf.2.2 (Ev.refl st) (.bl _)⟩
  · exact hf.elim
theorem opp_neK : OpP K S (rEqK K true) fNeK := by
  intro H v w x y P Q st hx hy hf q
  unfold fNeK at hf
  split at hf
  · next ks ls e1 e2 =>
    obtain ⟨a, ws, rfl, _, h1, r1⟩ := dkS_ok hx e1
    obtain ⟨b, us, rfl, _, h2, r2⟩ := dkS_ok hy e2
    exact ⟨a, b, ws, us, ks, ls, rfl, rfl, h1, h2, r1, r2, hf.1, hf.2.1, q _ _ H hf.2.2 (Ev.refl st) (.bl _)⟩
  · exact hf.elim
def fEqO : R → R → (R → Prop) → Prop := fun x y P => fEqK x y P ∨ fEq x y P
def fNeO : R → R → (R → Prop) → Prop := fun x y P => fNeK x y P ∨ fNe x y P
def rEqO (K : PySem.W.Frag) : R2 := fun x y H Q => rEqK K false x y H Q ∨ rEqD K x y H Q
def rNeO (K : PySem.W.Frag) : R2 := fun x y H Q => rEqK K true x y H Q ∨ rNeD K x y H Q
section
variable (hu : X.A.units + 65 < cLine)
include hu
theorem pd_eqO (ha : PD K X S W a ta da) (hb : PD K X S W b tb db) : PD K X S W (.Compare a [.Eq] [b] pos) (tOp (rEqO K) ta tb) (dOp fEqO da db) := by
  have hK := ha.1
  subst hK
  exact pd_cmp (r := rEqO X.K) (OpR.or (op_eqK hu) (op_eqD (by omega))) (OpP.or1 opp_eqK op_fEq) ha hb (nomark _)
theorem pd_neO (ha : PD K X S W a ta da) (hb : PD K X S W b tb db) : PD K X S W (.Compare a [.NotEq] [b] pos) (tOp (rNeO K) ta tb) (dOp fNeO da db) := by
  have hK := ha.1
  subst hK
  exact pd_cmp (r := rNeO X.K) (OpR.or (op_neK hu) (op_neD (by omega))) (OpP.or1 opp_neK op_fNe) ha hb (nomark _)
theorem td_eqO (ha : PD K X S W a ta da) (hb : PD K X S W b tb db) : TD K X S W (.Compare a [.Eq] [b] pos) (tTest (tOp (rEqO K) ta tb)) (tdB (dOp fEqO da db)) := by
  have hK := ha.1
  subst hK
  exact td_cmp (r := rEqO X.K) (OpR.or (op_eqK hu) (op_eqD (by omega))) (OpP.or1 opp_eqK op_fEq) ha hb (nomark _)
theorem td_neO (ha : PD K X S W a ta da) (hb : PD K X S W b tb db) : TD K X S W (.Compare a [.NotEq] [b] pos) (tTest (tOp (rNeO K) ta tb)) (tdB (dOp fNeO da db)) := by
  have hK := ha.1
  subst hK
  exact td_cmp (r := rNeO X.K) (OpR.or (op_neK hu) (op_neD (by omega))) (OpP.or1 opp_neK op_fNe) ha hb (nomark _)
end
end
/-! ### a def that raises nothing where it is called -/
theorem Cal.calm {P : Program} {w : World} {K : PySem.W.Frag} {T : List (Addr × Str)} {mg : Str → Option Value} {base : Heap} {k : Nat} {x : Str} {ps : List Str} {C : Ct} (h : Cal P w K T mg base (L2.CX P w) k x ps C) (hn : ∀ y c, C.pre y → ¬ C.exc y c) : Cal P w K T mg base CX0 k x ps C := by
  obtain ⟨f, fd, F, g, kp, b⟩ := h
  refine ⟨f, fd, ⟨fun vs H Q E hs => F.len vs H Q E hs, fun A outer s H args us vs Q E hr e0 hb hv hs => ?_⟩, g, kp, b⟩
  obtain ⟨S, y, hS, r, st, py, hp, he⟩ := hs
  refine codeAny_mono (F.run A outer s H args us vs Q E0 hr e0 hb hv ⟨S, y, hS, r, st, py, hp, fun c H' hc => absurd hc (hn y c py)⟩) fun rs s' hq => ?_
  cases rs with
  | ok fl => cases fl <;> exact hq
  | error e =>
    obtain ⟨_, _, _, _, _, _, _, _, _, _, _, _, z⟩ := (show L2.CX P w outer H s E0 e s' from hq)
    exact z.elim
/-! ### a def that makes lambdas: its code object is known -/
def DefOfC (K : PySem.W.Frag) (mg : Str → Option Value) (x : Str) (st : Stmt) (ps : List Str) (c : Addr) : Prop := ∃ (f : Addr) (fd : FuncData), Fun K x x st f fd ∧ mg x = some (.ref f) ∧ Binds K fd ps [] ∧ fd.code = .ref c
theorem DefOfC.of {K : PySem.W.Frag} {mg : Str → Option Value} {x : Str} {st : Stmt} {ps : List Str} {c : Addr} (D : DefOfC K mg x st ps c) : DefOf K mg x st ps := by
  obtain ⟨f, fd, F, g, b, _⟩ := D
  exact ⟨f, fd, F, g, b⟩
theorem cal_okL {P : Program} {w : World} {K : PySem.W.Frag} {T : List (Addr × Str)} {mg : Str → Option Value} {base : Heap} {x : Str} {st : Stmt} {N ps : List Str} {k : Nat} {c : Addr} (D : DefOfC K mg x st ps c) (Sc : FnScope N ps (defScope st)) (C : Ct) (len : ∀ y : C.α, (C.args y).length = ps.length)
    (hbody : ∀ (f : Addr) (A : Around) (outer : List Env) (s : Shared) (H : Hp) (E : XK) (S : Sm), S.tb = T → Room k (A.deeper (envOfC x (defScope st) s.heap.objs.size f (.ref c))) →
      ∃ t ds, SsD K (cxOf CX0 P w K mg base N x (defScope st) f (.ref c) A outer s H E).nox S W0 (defBody st) t ds ∧ ∀ y : C.α, C.pre y → ds (endsOf (C.post y) noE) (slots (C.args y) N.length)) :
    Cal P w K T mg base CX0 (k + 1) x ps C := by
  obtain ⟨f, fd, F, g, b, hc⟩ := D
  refine ⟨f, fd, ?_, g, F.kp, b⟩
  have hps : ps.length ≤ N.length := by
    have := congrArg List.length Sc.pre
    rw [List.length_take] at this
    omega
  obtain ⟨oc, od, kV, doc, pm, an, cdv, ct, osl, rfl, lk, hcd⟩ := F.ex
  obtain rfl : cdv = .ref c := hc
  refine fn_of lk hcd Sc (fun vs H Q E h => ?_) fun A outer s H vs Q E hr h => ?_
  · obtain ⟨S, y, _, r, _⟩ := h
    rw [r.length, len y]
  · obtain ⟨S, y, hS, r, st, py, hp, he⟩ := h
    obtain ⟨t, ds, ⟨_, pss, hd⟩, hread⟩ := hbody f A outer s H E S hS hr
    refine ⟨t, pss.nox, hd _ _ (hread y py) H Pr.none _ H _ (holds_start st r (by rw [len y]; exact hps)) ⟨fun ρ σ H' hn ho => ?_, fun ρ σ H' hn ho => hn.elim, fun ρ σ H' hn ho => hn.elim, fun r v H' hq e rr => hp r v H' hq e rr, fun c ρ σ H' hn ho => hn⟩⟩
    exact hp _ _ _ hn ho.ev .non
/-- a lambda's qualified name -/
def lamQ (x : Str) : Str := (x ++ ".<locals>.") ++ "<lambda>"
def LamTab (T : List (Addr × Str)) (P : Addr) (q : Str) : Prop := (P, q) ∈ T ∧ ∀ p ∈ T, p.1 = P → p.2 = q
def lamB (sc scope : Scope) (fr : List Str) : Bool := (scope.names.all fun y => !decide (y.2 = .free) || decide (sc.names.lookup y.1 = some .cell) || decide (sc.names.lookup y.1 = some .free)) && fr.all fun y => decide ((y, NameKind.free) ∈ scope.names)
structure LamNames (sc scope : Scope) (fr : List Str) : Prop where
  free : ∀ y ∈ scope.names, y.2 = .free → sc.names.lookup y.1 = some .cell ∨ sc.names.lookup y.1 = some .free
  has : ∀ y ∈ fr, (y, NameKind.free) ∈ scope.names
theorem lamNames_by {sc scope : Scope} {fr : List Str} (h : lamB sc scope fr = true) : LamNames sc scope fr := by
  unfold lamB at h
  simp only [Bool.and_eq_true, Bool.or_eq_true, Bool.not_eq_true', decide_eq_true_eq, decide_eq_false_iff_not, List.all_eq_true] at h
  refine ⟨fun y hy e => ?_, h.2⟩
  rcases h.1 y hy with (z | z) | z
  · exact absurd e z
  · exact .inl z
  · exact .inr z
/-! ### the end, tables told -/
theorem walk_tabs {l : PySem.W.OpenLaw} {n k : Nat} {q : Program} {loose : List Str} {XP : (Str → Option Value) → Heap → Prop} {YP : World → Heap → Prop} {d : DefRec} {K : Params → PySem.W.Frag} {CX : World → CXT} {x : Str}
    (hn : l.most = some n) (hn2 : n ≤ sizeLine) (hdf : d.params.defaults = []) (hr : Room k callerA) (hY : ∀ (w : World) (h : Heap), YP w h → (K w.params).In h)
    (F : ∀ (w : World) (mg : Str → Option Value) (fa : Addr) (h : Heap), (K w.params).In h → h.Ns mainGlobals mg → mg d.name = some (.ref fa) →
      (∀ (y : Str) (c P : Addr), ((recsOf q).find? fun e => e.name == y).isSome = true → PySem.W.tabIn (K w.params) y = some (c, P) → PySem.W.CodeHd h c P ∧ h.get? P = some { cls := .none, data := .fields #[] }) → LamX.LawAtS l w (K w.params) (CX w) k n x mg fa h)
    (hCX : ∀ (w : World) (H : Hp) (s : Shared) (e : Value) (s' : Shared), CX w [] H s (fun _ _ _ => False) e s' → False) :
    PySem.W.WalkO q loose XP YP l.row.toRowW d [] (fun f vs => PySem.call f vs) := by
  refine Att.attach_callB hn hdf fun w s₀ s₁ mg mb fa o pm cd doc a vs ns G Y ho hd hcd hmg hobj hints hlen hbits hg => ?_
  have KX := hY w _ Y
  obtain ⟨fd, cs, sp, h1, h2, h3, h4, h5, h6⟩ := F w mg fa _ KX G.T.g hmg fun y c P hs ht => by
    obtain ⟨e, he⟩ := Option.isSome_iff_exists.mp hs
    exact PySem.W.tab_of G.T KX he ht
  exact LamX.law_callTs KX G.T.g G.T.b G.T.builtins G.T.nolimit hg h1 h2 h3 G.T.bmain hobj hints (Nat.le_trans hlen hn2) hr h6 h4 (fun H hH hS => h5 H a ns hlen hbits hH hS) fun H e s' => hCX w H s₁ e s'
theorem tabIn_of {K : PySem.W.Frag} {x : Str} {f c P : Addr} {oc e : Value} {od dd : Option Addr} {osl sl : Array (Option Value)} {fd : FuncData} {vs : Array Value} (h1 : PySem.W.nsIn K mainGlobals x = some (some (.ref f))) (h2 : K.lookup f = some ⟨oc, od, .func fd, osl⟩) (h3 : fd.code = .ref c) (h4 : K.lookup c = some ⟨e, dd, .fields vs, sl⟩) (h5 : vs[11]? = some (.ref P)) : PySem.W.tabIn K x = some (c, P) := by
  unfold PySem.W.tabIn
  rw [h1]
  simp only [h2, h3, h4, h5]
end PL

/-! PL21: str(int) -/
namespace PL
open PySem PySem.Spec PyProof.Rows L2
section
variable {K : PySem.W.Frag} {X : Cx} {S : Sm} {W : WX} {e : Expr} {es : List Expr} {tl : TA} {dl : DA} {p pos : Pos}
def fStrI : List R → (R → Prop) → Prop := fun xs P => match xs with
  | [.d (.int i)] => i.natAbs.log2 < 1920 ∧ P (.d (.str (toString i)))
  | _ => False
def rStrI : List V → Hp → VK → Prop := fun xs H Q => ∃ i : Int, xs = [.int i] ∧ i.natAbs.log2 < 1920 ∧ Q (.str (toString i)) H
theorem callp_strI : CallP K S rStrI fStrI := by
  intro H vs xs P Q st hx hf q
  unfold fStrI at hf
  split at hf
  · obtain ⟨v, rfl, h⟩ := RepVs.one hx
    cases h
    exact ⟨_, rfl, hf.1, q _ _ H hf.2 (Ev.refl st) (.str _)⟩
  · exact hf.elim
theorem pd_tostr (hm : X.mg "str" = none) (ha : AD K X S W (e :: es) tl dl) (hg : Gl X "str" := by rfl) (he : starEach (e :: es) X.env = (false, eval e X.env) :: starEach es X.env := by rfl) (hpl : (backTo pos (starEach es X.env)).any (·.1) = false := by rfl) :
    PD K X S W (.Call (.Name "str" p) (e :: es) [] pos) (tCB rStrI tl) (dCB fStrI dl) := by
  have hK := ha.1
  subst hK
  exact pd_callTy (r := rStrI) call_str_int callp_strI hg hm PyProof.Rows.boot_str ha (by decide) (by decide) he hpl
end
end PL

/-! PL22: name = {..} on one line -/
namespace PL
open PySem PySem.Spec PyProof.Rows L2
section
variable {K : PySem.W.Frag} {X : Cx} {S : Sm} {W : WX} {te tk tv : TE} {tt : TT} {de dk dv : DE} {dt : DT} {tg iter kx vx : Expr} {wi : TI} {di : DI} {g : TG} {js : List Nat} {dg : DG}
theorem ps_setDc {i : Nat} {y : Str} {py : Pos} {ifs : List Expr} {scope : Scope} {own : List (Str × Nat)} {pos spos : Pos} (hc : X.calm = true) (hN : X.N.Nodup) (hy : X.N[i]? = some y) (hyl : X.env.scope.names.lookup y = some .local)
    (hsw : swapsWith (.DictComp kx vx [⟨tg, iter, ifs, 0⟩] scope pos) (some (.Name y py)) spos.line X.env = pure true) (hi : PI X tg iter wi) (ok : BlkOk X.N X.env.scope scope own)
    (hg : ∀ (s : Shared) (H : Hp) (C : Addr) (cl : List (Str × Addr)) (fp : List Addr), PG (X.blk s H scope (compEnvC scope cl C X.env) fp) tg g) (ht : ∀ (s : Shared) (H : Hp) (C : Addr) (cl : List (Str × Addr)) (fp : List Addr), PTs (X.blk s H scope (compEnvC scope cl C X.env) fp) ifs tt)
    (hk : ∀ (s : Shared) (H : Hp) (C : Addr) (cl : List (Str × Addr)) (fp : List Addr), PE (X.blk s H scope (compEnvC scope cl C X.env) fp) kx tk)
    (he : ∀ (s : Shared) (H : Hp) (C : Addr) (cl : List (Str × Addr)) (fp : List Addr), PE (X.blk s H scope (compEnvC scope cl C X.env) fp) vx tv) (hs : ∀ x, foldedSetIterable iter X.env x = pure x := by intro _; rfl) :
    PS X (.Assign [.Name y py] (.DictComp kx vx [⟨tg, iter, ifs, 0⟩] scope pos) spos) (tAsg (tDc wi g tt tk tv (own.map (·.2))) (gName i)) := by
  refine ⟨fun pins s σ H D I h => ?_⟩
  rw [exec_Assign_Name_used _ _ _ _ hsw]
  refine wpAny_bind (wpAny_standAt (wpAny_bind ?_))
  show wpAny _ X.A (do let _ ← comprehension (.DictComp kx vx [⟨tg, iter, ifs, 0⟩] scope pos) scope X.env (firstIterPos [⟨tg, iter, ifs, 0⟩] pos) newDict false (eval iter X.env) (some (assign (.Name y py) X.env))) _ _ s
  have h : tDc wi g tt tk tv (own.map (·.2)) σ H (fun x H1 => gName i x σ H1 D.nx) := h
  refine wpAny_bind (thn (dc_core (Qf := fun _ s' => SP X pins D .next s') hc hN I hi ok hg ht hk he hs h fun L C s' m H' I' q hn f => ?_) fun _ s' hq => wpAny_pure (wpAny_pure hq))
  show wpAny _ _ (assign (.Name y py) X.env (.ref L)) _ _ _
  refine wpAny_assign_Name (store_ok2 (v := V.ref L) I' hN hy (.inl hyl) rfl (fun s2 I2 ⟨a, sb, ha⟩ => ?_) (.inr hyl))
  obtain ⟨f0, f1, f2, f3, f4, f5⟩ := f
  have haC : C ≠ a := by
    rcases ha with z | z
    · rw [z]; exact f1
    · exact fun e => f4 y a z e.symm
  refine ⟨m, hn.sameBut sb haC, fun h3 sb3 => ?_⟩
  exact ⟨_, H', I2.turned (t' := s2.toks) (fun b o hb e => (sb3.2 b hb).trans e) f0 f1 f3 f4 f5, q⟩
theorem sd_setDc {ifs : List Expr} {scope : Scope} {own : List (Str × Nat)} {i : Nat} {y : Str} {pos py spos : Pos} (hc : X.calm = true) (hN : X.N.Nodup) (hy : X.N[i]? = some y) (hyl : X.env.scope.names.lookup y = some .local)
    (hsw : swapsWith (.DictComp kx vx [⟨tg, iter, ifs, 0⟩] scope pos) (some (.Name y py)) spos.line X.env = pure true) (hi : ID K X S W tg iter wi di) (ok : BlkOk X.N X.env.scope scope own)
    (hg : ∀ (s : Shared) (H : Hp) (C : Addr) (cl : List (Str × Addr)) (fp : List Addr), GD K (X.blk s H scope (compEnvC scope cl C X.env) fp) S tg g js dg) (ht : ∀ (s : Shared) (H : Hp) (C : Addr) (cl : List (Str × Addr)) (fp : List Addr), TsD K (X.blk s H scope (compEnvC scope cl C X.env) fp) S W0 ifs tt dt)
    (hk : ∀ (s : Shared) (H : Hp) (C : Addr) (cl : List (Str × Addr)) (fp : List Addr), PD K (X.blk s H scope (compEnvC scope cl C X.env) fp) S W0 kx tk dk)
    (he : ∀ (s : Shared) (H : Hp) (C : Addr) (cl : List (Str × Addr)) (fp : List Addr), PD K (X.blk s H scope (compEnvC scope cl C X.env) fp) S W0 vx tv dv) (hs : ∀ x, foldedSetIterable iter X.env x = pure x := by intro _; rfl) (hjs : ∀ j ∈ js, j ∈ own.map (·.2) := by decide) :
    SD K X S W (.Assign [.Name y py] (.DictComp kx vx [⟨tg, iter, ifs, 0⟩] scope pos) spos) (tAsg (tDc wi g tt tk tv (own.map (·.2))) (gName i)) (dSet i (dDc di dg dt dk dv (own.map (·.2)))) := by
  obtain ⟨hK, pi, hi⟩ := hi
  let s0 : Shared := (PySem.start X.prog).1
  refine ⟨hK, ps_setDc hc hN hy hyl hsw pi ok (fun s H C cl fp => (hg s H C cl fp).2.1) (fun s H C cl fp => (ht s H C cl fp).2.1) (fun s H C cl fp => (hk s H C cl fp).2.1) (fun s H C cl fp => (he s H C cl fp).2.1) hs, ?_⟩
  exact tr_set (evp_dc hjs hi (hg s0 (fun _ => none) 0 [] []).2.2 (ht s0 (fun _ => none) 0 [] []).2.2 (hk s0 (fun _ => none) 0 [] []).2.2 (he s0 (fun _ => none) 0 [] []).2.2)
end
/-- one table's names are told apart -/
theorem lamTab_mem {T : List (Addr × Str)} {P : Addr} {q : Str} (h : (P, q) ∈ T) (nd : (T.map (·.1)).Nodup) : LamTab T P q := by
  refine ⟨h, fun p hp e => ?_⟩
  induction T with
  | nil => cases h
  | cons t r ih =>
    rw [List.map_cons, List.nodup_cons] at nd
    rcases List.mem_cons.mp h with h1 | h1 <;> rcases List.mem_cons.mp hp with h2 | h2
    · rw [h2, ← h1]
    · exact absurd (List.mem_map.mpr ⟨p, h2, by rw [e, ← h1]⟩) nd.1
    · exact absurd (List.mem_map.mpr ⟨_, h1, by rw [← e, h2]⟩) nd.1
    · exact ih h1 nd.2 h2
end PL

/-! PL23: [.. for x in d ..], d a dict that stands at a name: locked while it is walked -/
namespace PL
open PySem PySem.Spec PyProof.Rows L2
def A.still : A → A
  | .o c => .b c.weak
  | .f c => .b c.weak
  | .b c => .b c.weak
  | .k _ _ => .any
  | a => a
theorem still_own (a : A) : a.still.own = false := by cases a <;> rfl
theorem nth_mapA {f : A → A} (h : f .any = .any) : ∀ (ρ : List A) (i : Nat), nth (ρ.map f) i = f (nth ρ i)
  | [], _ => h.symm
  | _ :: _, 0 => rfl
  | _ :: r, i + 1 => nth_mapA h r i
section
variable {K : PySem.W.Frag} {S : Sm} {H0 H H' : Hp} {pr : Pr} {ρ : List A} {σ : L2.St}
/-- a heap with one dict locked -/
structure Lk (S : Sm) (d : Addr) (ws : List (Key × V)) (od : Obj) (H H' : Hp) : Prop where
  at0 : Rd H d (.dK ws)
  at1 : H' d = some (.frz od (.dK ws))
  off : ∀ q, q ≠ d → H' q = H q
  tk : TK H H'
  stm : StmOk S H'
theorem Lk.rd {d q : Addr} {ws : List (Key × V)} {od : Obj} (l : Lk S d ws od H H') {xs : List V} (h : Rd H q (.lst xs)) : Rd H' q (.lst xs) := by
  have ne : q ≠ d := fun e => by
    subst e
    rcases l.at0 with z | ⟨o, z⟩ <;> rcases h with y | ⟨o2, y⟩ <;> rw [z] at y <;> cases y
  rcases h with y | ⟨o, y⟩
  · exact .inl (by rw [l.off q ne]; exact y)
  · exact .inr ⟨o, by rw [l.off q ne]; exact y⟩
theorem Lk.dk {d q : Addr} {ws vs : List (Key × V)} {od : Obj} (l : Lk S d ws od H H') (h : Rd H q (.dK vs)) : Rd H' q (.dK vs) := by
  by_cases e : q = d
  · subst e
    have : vs = ws := by rcases l.at0 with z | ⟨o, z⟩ <;> rcases h with y | ⟨o2, y⟩ <;> rw [z] at y <;> cases y <;> rfl
    subst this
    exact .inr ⟨od, l.at1⟩
  · rcases h with y | ⟨o, y⟩
    · exact .inl (by rw [l.off q e]; exact y)
    · exact .inr ⟨o, by rw [l.off q e]; exact y⟩
theorem Lk.read {d q : Addr} {ws : List (Key × V)} {od : Obj} (l : Lk S d ws od H H') {c : C} (h : Read K H q c) : Read K H' q c.weak := by
  cases c with
  | lst xs => obtain ⟨vs, e, r⟩ := h; exact ⟨vs, l.rd e, r.mono l.tk⟩
  | dk kvs => obtain ⟨vs, e, r⟩ := h; exact ⟨vs, l.dk (.inl e), r.mono l.tk⟩
  | dt kvs =>
    obtain ⟨vs, e, r⟩ := h
    have ne : q ≠ d := fun z => by
      subst z
      rcases l.at0 with z | ⟨o, z⟩ <;> rw [z] at e <;> cases e
    exact ⟨vs, by rw [l.off q ne]; exact e, r.mono l.tk⟩
  | kk kvs => obtain ⟨vs, e, r⟩ := h; exact ⟨vs, l.dk e, r.mono l.tk⟩
  | ll kvs => obtain ⟨o, vs, e, r⟩ := h; exact ⟨vs, l.dk (.inr ⟨o, e⟩), r.mono l.tk⟩
/-- the state seen from the heap with the dict locked -/
theorem Holds.still {d : Addr} {ws : List (Key × V)} {od : Obj} {j : Nat} {kvs : List (Key × D)} (ho : Holds K S H0 pr ρ σ H) (l : Lk S d ws od H H') (sj : σ.getD j none = some (.ref d)) (nd : NotS S d) (rk : KVs K H ws kvs) : Holds K S H' Pr.none (setA (ρ.map A.still) j (.b (.ll kvs))) σ H' := by
  have own : ∀ i, (nth (setA (ρ.map A.still) j (.b (.ll kvs))) i).own = false := fun i => by
    by_cases e : i = j
    · subst e
      rcases Nat.lt_or_ge i (ρ.map A.still).length with h | h
      · rw [nth_setA_same _ _ _ h]; rfl
      · rw [nth_big _ _ (by rw [setA_length]; exact h)]; rfl
    · rw [nth_setA_ne _ _ _ _ e, nth_mapA rfl]
      exact still_own _
  refine ⟨Ev.refl l.stm, l.stm, by rw [setA_length, List.length_map]; exact ho.len, fun i => ?_, fun i k q o1 => (by rw [own i] at o1; cases o1), fun q o z => z.elim, fun i q o1 => (by rw [own i] at o1; cases o1), fun v x z => z.elim⟩
  by_cases e : i = j
  · subst e
    rcases Nat.lt_or_ge i (ρ.map A.still).length with h | h
    · rw [nth_setA_same _ _ _ h]
      exact ⟨d, sj, nd, od, ws, l.at1, rk.mono l.tk⟩
    · rw [nth_big _ _ (by rw [setA_length]; exact h)]; trivial
  · rw [nth_setA_ne _ _ _ _ e, nth_mapA rfl]
    have s := ho.slot i
    cases z : nth ρ i with
    | any => trivial
    | d x => rw [z] at s; obtain ⟨v, e1, r⟩ := s; exact ⟨v, e1, r.mono l.tk⟩
    | o c => rw [z] at s; obtain ⟨q, e1, n, st⟩ := s; exact ⟨q, e1, ho.st0.fresh n, l.read st.read⟩
    | f c => rw [z] at s; obtain ⟨q, e1, n, st⟩ := s; exact ⟨q, e1, ho.st0.fresh n, l.read st.read⟩
    | b c => rw [z] at s; obtain ⟨q, e1, n, st⟩ := s; exact ⟨q, e1, n, l.read (st.step ho.ev n)⟩
    | strm => rw [z] at s; exact s
    | k v F => trivial
end
/-- the dict at a slot -/
def kvsA : A → Option (List (Key × D))
  | .o (.dk kvs) => some kvs
  | .f (.dk kvs) => some kvs
  | .b (.dk kvs) => some kvs
  | .b (.kk kvs) => some kvs
  | .b (.ll kvs) => some kvs
  | _ => none
theorem kvsA_ok {K : PySem.W.Frag} {S : Sm} {H0 H : Hp} {pr : Pr} {ρ : List A} {σ : L2.St} {j : Nat} {kvs : List (Key × D)} (ho : Holds K S H0 pr ρ σ H) (e : kvsA (nth ρ j) = some kvs) : ∃ d ws, σ.getD j none = some (.ref d) ∧ NotS S d ∧ Rd H d (.dK ws) ∧ KVs K H ws kvs := by
  have s := ho.slot j
  unfold kvsA at e
  split at e
  · next z => cases e; rw [z] at s; obtain ⟨q, e1, n, ws, h1, r⟩ := s; exact ⟨q, ws, e1, ho.st0.fresh n, .inl h1, r⟩
  · next z => cases e; rw [z] at s; obtain ⟨q, e1, n, ws, h1, r⟩ := s; exact ⟨q, ws, e1, ho.st0.fresh n, .inl h1, r⟩
  · next z => cases e; rw [z] at s; obtain ⟨q, e1, n, st⟩ := s; obtain ⟨ws, h1, r⟩ := st.step ho.ev n; exact ⟨q, ws, e1, n, .inl h1, r⟩
  · next z => cases e; rw [z] at s; obtain ⟨q, e1, n, st⟩ := s; obtain ⟨ws, h1, r⟩ := st.step ho.ev n; exact ⟨q, ws, e1, n, h1, r⟩
  · next z => cases e; rw [z] at s; obtain ⟨q, e1, n, st⟩ := s; obtain ⟨od, ws, h1, r⟩ := st.step ho.ev n; exact ⟨q, ws, e1, n, .inr ⟨od, h1⟩, r⟩
  · cases e
def keysD (kvs : List (Key × D)) : List D := kvs.map fun p => keyD p.1
def iLL (j : Nat) : DI := fun ρ P _ => match nth ρ j with
  | .b (.ll kvs) => P (keysD kvs) ρ
  | _ => False
section
variable {K : PySem.W.Frag} {X : Cx} {S : Sm} {W : WX} {te : TE} {tt : TT} {de : DE} {dt : DT} {tg iter elt : Expr} {g : TG} {js : List Nat} {dg : DG}
theorem itOk_keys {kvs : List (Key × D)} {ws : List (Key × V)} {d : Addr} {od : Obj} {H1 : Hp} (h : H1 d = some (.frz od (.dK ws))) (n : NotS S d) (r : KVs K H1 ws kvs) :
    ItOk K S (Itk d od ws) (keysD kvs) ⟨fun p o => p = d ∧ o = .frz od (.dK ws), fun _ _ => False⟩ H1 := by
  refine ⟨fun p o ⟨e1, e2⟩ => by subst e1 e2; exact ⟨h, n⟩, fun v x z => z.elim, fun H ho _ => ?_⟩
  have hd := ho _ _ ⟨rfl, rfl⟩
  have hl : (keysD kvs).length = ws.length := by unfold keysD; rw [List.length_map, KVs.length r]
  refine ⟨fun i x hx => ?_, hd, by rw [hl]; exact Nat.le_refl _⟩
  have hi : i < ws.length := by
    rw [← hl]
    rcases Nat.lt_or_ge i (keysD kvs).length with z | z
    · exact z
    · rw [List.getElem?_eq_none z] at hx; cases hx
  refine ⟨⟨hd, hi⟩, fun v H' hy => ?_⟩
  obtain ⟨rfl, k, u, hk, rfl⟩ := hy
  refine ⟨fun st => Ev.refl st, ?_⟩
  have e : (ws.map (·.1))[i]? = (kvs.map (·.1))[i]? := by rw [kvs_keys r]
  rw [List.getElem?_map, List.getElem?_map, hk] at e
  unfold keysD at hx
  rw [List.getElem?_map] at hx
  cases z : kvs[i]? with
  | none => rw [z] at hx; cases hx
  | some p =>
    rw [z] at e hx
    cases hx
    have e : k = p.1 := Option.some.inj e
    subst e
    show Rep K H' (kV p.1) (keyD p.1)
    cases p.1 with
    | inl i => exact .int i
    | inr s => exact .str s
theorem evi_ll {j : Nat} : ∀ ρ P E, iLL j ρ P E → EvI K S W (iKeys (tVar j)) ρ P E := by
  intro ρ P E hd H0 pr σ H Q ho q w
  have s := ho.slot j
  unfold iLL at hd
  split at hd
  · next kvs z =>
    rw [z] at s
    obtain ⟨p, e1, n, st⟩ := s
    obtain ⟨od, ws, h1, r⟩ := st.step ho.ev n
    refine ⟨_, getD_get e1, p, od, rfl, .inl ⟨ws, h1, q _ ρ _ _ H hd (Ev.refl ho.stm) ho (itOk_keys h1 n r) fun i q' o ow s2 y => ?_⟩⟩
    obtain ⟨rfl, _⟩ := y
    obtain ⟨n0, _⟩ := ho.heldAt (own_held ow) s2
    obtain ⟨ob, eo⟩ := st.some
    rw [n0] at eo
    cases eo
  · exact hd.elim
def tEither (a b : TE) : TE := fun σ H Q => a σ H Q ∨ b σ H Q
theorem pe_either {e : Expr} {a b : TE} (ha : PE X e a) (hb : PE X e b) : PE X e (tEither a b) := by
  refine ⟨fun pins s σ H Q I h => ?_⟩
  rcases h with h | h
  · exact ha.run pins s σ H Q I h
  · exact hb.run pins s σ H Q I h
/-- the walk over the keys of the dict at a slot -/
def dLcK (j : Nat) (dg : DG) (dt : DT) (de : DE) (vs : List Nat) : DE := fun ρ P _ => match kvsA (nth ρ j) with
  | some kvs => ∃ I : Nat → List D → Prop, I 0 [] ∧
    (∀ i x acc, (keysD kvs)[i]? = some x → I i acc → dg x (wipeA (setA (ρ.map A.still) j (.b (.ll kvs))) vs) (fun ρ2 => dt ρ2 (fun k => if k = true then de ρ2 (fun r => match r with | .d y => acc.length < sizeLine ∧ I (i + 1) (acc ++ [y]) | _ => False) noE else I (i + 1) acc) noE)) ∧
    ∀ acc, I (keysD kvs).length acc → P (.n (.lst acc))
  | none => False
theorem nth_lt {ρ : List A} {j : Nat} {kvs : List (Key × D)} (e : kvsA (nth ρ j) = some kvs) : j < ρ.length := by
  rcases Nat.lt_or_ge j ρ.length with h | h
  · exact h
  · rw [nth_big ρ j h] at e; cases e
theorem evp_lcK {j : Nat} {vs : List Nat} (hjs : ∀ j ∈ js, j ∈ vs)
    (hg : ∀ x ρ (N : List A → Prop), dg x ρ N → ∀ H0 pr σ H v (Q : L2.St → Hp → Prop), Holds K S H0 pr ρ σ H → Rep K H v x → (∀ ρ' σ', N ρ' → Holds K S H0 pr ρ' σ' H → (∀ i, i ∉ js → σ'[i]? = σ[i]?) → σ'.length = σ.length → Q σ' H) → g v σ H Q)
    (ht : ∀ ρ P E, dt ρ P E → EvB K S W0 tt ρ P E) (he : ∀ ρ P E, de ρ P E → EvP K S W0 te ρ P E) : ∀ ρ P E, dLcK j dg dt de vs ρ P E → EvP K S W (tEither (tLockE (tLc (iKeys (tVar j)) g tt te vs)) (tLc (iKeys (tVar j)) g tt te vs)) ρ P E := by
  intro ρ P E hd H0 pr σ H Q ho q w
  unfold dLcK at hd
  cases ek : kvsA (nth ρ j) with
  | none => rw [ek] at hd; exact hd.elim
  | some kvs =>
    rw [ek] at hd
    obtain ⟨I, i0, step, iend⟩ := hd
    obtain ⟨d, ws, sj, nd, rd, rk⟩ := kvsA_ok ho ek
    have hjl : j < (ρ.map A.still).length := by rw [List.length_map]; exact nth_lt ek
    have go : ∀ H' od, Lk S d ws od H H' → ∀ Q' : VK, (∀ acc v H2, P (.n (.lst acc)) → Ev S H' H2 → RepR K S H' H2 v (.n (.lst acc)) → Q' v H2) → tLc (iKeys (tVar j)) g tt te vs σ H' Q' := fun H' od l Q' hq => by
      have ho' := ho.still l sj nd rk
      refine evp_lc (W := W0) (di := iLL j) (vs := vs) hjs evi_ll hg ht he (setA (ρ.map A.still) j (.b (.ll kvs))) (fun r => ∃ acc, r = .n (.lst acc) ∧ P (.n (.lst acc))) noE ?_ H' Pr.none σ H' Q' ho' (fun r v H2 hr e2 rr => ?_) (fun C H2 z _ => z.elim)
      · show iLL j _ _ _
        unfold iLL
        rw [nth_setA_same _ _ _ hjl]
        exact ⟨I, i0, step, fun acc ia => ⟨acc, rfl, iend acc ia⟩⟩
      · obtain ⟨acc, rfl, hp⟩ := hr
        exact hq acc v H2 hp e2 rr
    rcases rd with h | ⟨od, h⟩
    · refine .inl ⟨d, .dK ws, h, trivial, fun od => ?_⟩
      have nc : ∀ {H2 : Hp} {o : HO}, StmOk S H2 → H2 d = some o → (∀ xs, o ≠ .lst xs) → ∀ a c, S.st = some (a, c) → d ≠ c := fun {H2 o} st e ne a c es z => by
        have h1 := st.st
        rw [es] at h1
        obtain ⟨_, _, _, _, _, e2, _⟩ := h1
        rw [← z, e] at e2
        exact ne _ (Option.some.inj e2)
      have tk1 : TK H (upd H d (.frz od (.dK ws))) := tk_mut h (fun _ y => by cases y) fun _ _ y => by cases y
      have st1 : StmOk S (upd H d (.frz od (.dK ws))) := ho.stm.upd nd (nc ho.stm h fun _ z => by cases z) (notCode h)
      refine go _ od ⟨.inl h, upd_same, fun q ne => upd_ne ne, tk1, st1⟩ _ fun acc v H2 hp e2 rr => ?_
      have h2 : H2 d = some (.frz od (.dK ws)) := e2.keep _ _ upd_same nd
      refine ⟨h2, ?_⟩
      have tk2 : TK H2 (upd H2 d (.dK ws)) := by
        refine ⟨fun p xs z => ?_, fun p o xs z => ?_⟩
        · have ne : p ≠ d := fun y => by
            subst y
            rcases z with z | ⟨_, z⟩ <;> rw [h2] at z <;> cases z
          rcases z with z | ⟨b, z⟩
          · exact .inl (by rw [upd_ne ne]; exact z)
          · exact .inr ⟨b, by rw [upd_ne ne]; exact z⟩
        · have ne : p ≠ d := fun y => by subst y; rw [h2] at z; cases z
          rw [upd_ne ne]
          exact z
      obtain ⟨p, rfl, np, us, hp2, r2⟩ := rr
      have ne : p ≠ d := fun y => by subst y; rw [upd_same] at np; cases np
      rw [upd_ne ne] at np
      refine q _ _ _ hp ⟨fun b o e n => ?_, (tk1.trans e2.tup).trans tk2, e2.stm.upd nd (nc e2.stm h2 fun _ z => by cases z) (notCode h2)⟩ ⟨p, rfl, np, us, by rw [upd_ne ne]; exact hp2, r2.mono tk2⟩
      by_cases eb : b = d
      · subst eb
        rw [h] at e
        rw [upd_same]
        exact e
      · rw [upd_ne eb]
        exact e2.keep b o (by rw [upd_ne eb]; exact e) n
    · refine .inr (go H od ⟨.inr ⟨od, h⟩, h, fun _ _ => rfl, TK.refl, ho.stm⟩ _ fun acc v H2 hp e2 rr => q _ _ _ hp e2 rr)
theorem pd_lcK {ifs : List Expr} {scope : Scope} {own : List (Str × Nat)} {j : Nat} {pos : Pos} (hc : X.calm = true) (hN : X.N.Nodup) (hi : PE X iter (tVar j)) (ok : BlkOk X.N X.env.scope scope own)
    (hg : ∀ (s : Shared) (H : Hp) (C : Addr) (cl : List (Str × Addr)) (fp : List Addr), GD K (X.blk s H scope (compEnvC scope cl C X.env) fp) S tg g js dg) (ht : ∀ (s : Shared) (H : Hp) (C : Addr) (cl : List (Str × Addr)) (fp : List Addr), TsD K (X.blk s H scope (compEnvC scope cl C X.env) fp) S W0 ifs tt dt)
    (he : ∀ (s : Shared) (H : Hp) (C : Addr) (cl : List (Str × Addr)) (fp : List Addr), PD K (X.blk s H scope (compEnvC scope cl C X.env) fp) S W0 elt te de) (hs : ∀ x, foldedSetIterable iter X.env x = pure x := by intro _; rfl) (hjs : ∀ j ∈ js, j ∈ own.map (·.2) := by decide) (hK : X.K = K := by rfl) :
    PD K X S W (.ListComp elt [⟨tg, iter, ifs, 0⟩] scope pos) (tEither (tLockE (tLc (iKeys (tVar j)) g tt te (own.map (·.2)))) (tLc (iKeys (tVar j)) g tt te (own.map (·.2)))) (dLcK j dg dt de (own.map (·.2))) := by
  let s0 : Shared := (PySem.start X.prog).1
  have p := pe_lc (pos := pos) hc hN (pi_keys (tg := tg) hi) ok (fun s H C cl fp => (hg s H C cl fp).2.1) (fun s H C cl fp => (ht s H C cl fp).2.1) (fun s H C cl fp => (he s H C cl fp).2.1) hs
  refine ⟨hK, pe_either (L2.pe_lock p) p, ?_⟩
  exact evp_lcK hjs (hg s0 (fun _ => none) 0 [] []).2.2 (ht s0 (fun _ => none) 0 [] []).2.2 (he s0 (fun _ => none) 0 [] []).2.2
end
end PL

/-! PL24: {k: v, ..}; defs that make lambdas and raise -/
namespace PL
open PySem PySem.Spec PyProof.Rows L2
section
variable {K : PySem.W.Frag} {X : Cx} {S : Sm} {W : WX} {pos : Pos}
def dPrs : List (DE × DE) → List A → (List (Key × D) → Prop) → RX → Prop
  | [], _, P, _ => P []
  | (dk, dv) :: r, ρ, P, E => dk ρ (fun x => match keyR x with | some k => dv ρ (fun y => match y with | .d z => dPrs r ρ (fun kvs => P ((k, z) :: kvs)) E | _ => False) E | none => False) E
def dDisp (ps : List (DE × DE)) : DE := fun ρ P E => dPrs ps ρ (fun kvs => kvs.length ≤ 15 ∧ P (.n (.dk (mergeD kvs)))) E
structure PrD (K : PySem.W.Frag) (X : Cx) (S : Sm) (W : WX) (pos : Pos) (keys : List (Option Expr)) (values : List Expr) (trs : List (TE × TE)) (ps : List (DE × DE)) : Prop where
  k : X.K = K
  run : PPs X pos keys values trs
  ev : ∀ ρ P E, dPrs ps ρ P E → ∀ H0 pr σ H (Q : List (V × V) → Hp → Prop), Holds K S H0 pr ρ σ H → (∀ kvs ws H', P kvs → Ev S H H' → KVs K H' ws kvs → Q (ws.map fun kv => (kV kv.1, kv.2)) H') → Wish S W σ H E → tPairs trs σ H Q
  len : ps.length = keys.length
theorem prd_nil (hK : X.K = K := by rfl) : PrD K X S W pos [] [] [] [] :=
  ⟨hK, pps_nil, fun ρ P E hd H0 pr σ H Q ho q w => q [] [] H hd (Ev.refl ho.stm) .nil, rfl⟩
theorem prd_cons {k v : Expr} {keys : List (Option Expr)} {values : List Expr} {trs : List (TE × TE)} {ps : List (DE × DE)} {tk tv : TE} {dk dv : DE} (hk : PD K X S W k tk dk) (hv : PD K X S W v tv dv) (hr : PrD K X S W pos keys values trs ps) : PrD K X S W pos (some k :: keys) (v :: values) ((tk, tv) :: trs) ((dk, dv) :: ps) := by
  refine ⟨hr.k, pps_cons hk.2.1 hv.2.1 hr.run, fun ρ P E hd H0 pr σ H Q ho q w => ?_, by rw [List.length_cons, List.length_cons, hr.len]⟩
  refine hk.2.2 ρ _ E hd H0 pr σ H _ ho (fun x u H1 hx e1 r1 => ?_) w
  cases ek : keyR x with
  | none => rw [ek] at hx; exact hx.elim
  | some kk =>
    rw [ek] at hx
    have eu : u = kV kk := keyR_ok (r1.val ho.stm) ek
    subst eu
    refine hv.2.2 ρ _ E hx H0 pr σ H1 _ (ho.step e1) (fun y z H2 hy e2 r2 => ?_) (w.step e1)
    split at hy
    · next d =>
      refine hr.ev ρ _ E hy H0 pr σ H2 _ ((ho.step e1).step e2) (fun kvs ws H3 hp e3 r3 => ?_) ((w.step e1).step e2)
      have rd : Rep K H3 z d := Rep.mono e3.tup r2
      exact q ((kk, d) :: kvs) ((kk, z) :: ws) H3 hp ((e1.trans e2).trans e3) (.cons ⟨rfl, rd⟩ r3)
    · exact hy.elim
theorem pd_disp {keys : List (Option Expr)} {values : List Expr} {trs : List (TE × TE)} {ps : List (DE × DE)} (h : PrD K X S W pos keys values trs ps) (hall : keys.all (·.isSome) = true := by rfl) (hl : keys.length = values.length := by rfl) (h0 : keys ≠ [] := by exact fun z => by cases z) (h15 : keys.length ≤ 15 := by decide) :
    PD K X S W (.Dict keys values pos) (tDisp trs) (dDisp ps) := by
  refine ⟨h.k, pe_disp h.run hall hl h0 h15, fun ρ P E hd H0 pr σ H Q ho q w => fun p np => ?_⟩
  have e0 : Ev S H (upd H p (.dK [])) := Ev.new ho.stm np
  refine h.ev ρ _ E hd H0 pr σ _ _ (ho.step e0) (fun kvs ws H2 hp e2 r2 => ?_) (w.step e0)
  have hn : NotS S p := ho.stm.fresh np
  have h2 : H2 p = some (.dK []) := e2.keep _ _ upd_same hn
  have tk : TK H2 (upd H2 p (.dK (mergeK [] ws))) := tk_mut h2 (fun _ y => by cases y) fun _ _ y => by cases y
  have e02 := e0.trans e2
  refine ⟨h2, ws, rfl, by rw [KVs.length r2]; exact hp.1, q _ _ _ hp.2 ⟨fun b o e n => ?_, e02.tup.trans tk, e02.stm.upd hn (ho.stm.cfresh np) (notCode h2)⟩ ⟨p, rfl, np, _, upd_same, (merge_ok r2 .nil).mono tk⟩⟩
  rw [upd_ne (ne_of_none e np)]
  exact e02.keep b o e n
end
/-- a def that makes lambdas and may raise -/
theorem cal_okLX {P : Program} {w : World} {K : PySem.W.Frag} {T : List (Addr × Str)} {mg : Str → Option Value} {base : Heap} {x : Str} {st : Stmt} {N ps : List Str} {k : Nat} {c : Addr} (D : DefOfC K mg x st ps c) (Sc : FnScope N ps (defScope st)) (C : Ct) (len : ∀ y : C.α, (C.args y).length = ps.length)
    (hbody : ∀ (f : Addr) (A : Around) (outer : List Env) (s : Shared) (H : Hp) (E : XK) (S : Sm), S.tb = T → Room k (A.deeper (envOfC x (defScope st) s.heap.objs.size f (.ref c))) →
      ∃ t ds, SsD K (cxOf (L2.CX P w) P w K mg base N x (defScope st) f (.ref c) A outer s H E) S (fun cls d _ H => E cls d H) (defBody st) t ds ∧ ∀ y : C.α, C.pre y → ds (endsOf (C.post y) (C.exc y)) (slots (C.args y) N.length)) :
    Cal P w K T mg base (L2.CX P w) (k + 1) x ps C := by
  obtain ⟨f, fd, F, g, b, hc⟩ := D
  refine ⟨f, fd, ?_, g, F.kp, b⟩
  have hps : ps.length ≤ N.length := by
    have := congrArg List.length Sc.pre
    rw [List.length_take] at this
    omega
  obtain ⟨oc, od, kV, doc, pm, an, cdv, ct, osl, rfl, lk, hcd⟩ := F.ex
  obtain rfl : cdv = .ref c := hc
  refine fn_of lk hcd Sc (fun vs H Q E h => ?_) fun A outer s H vs Q E hr h => ?_
  · obtain ⟨S, y, _, r, _⟩ := h
    rw [r.length, len y]
  · obtain ⟨S, y, hS, r, st, py, hp, he⟩ := h
    obtain ⟨t, ds, ⟨_, pss, hd⟩, hread⟩ := hbody f A outer s H E S hS hr
    refine ⟨t, pss, hd _ _ (hread y py) H Pr.none _ H _ (holds_start st r (by rw [len y]; exact hps)) ⟨fun ρ σ H' hn ho => ?_, fun ρ σ H' hn ho => hn.elim, fun ρ σ H' hn ho => hn.elim, fun r v H' hq e rr => hp r v H' hq e rr, fun c ρ σ H' hn ho => he c H' hn ho.ev⟩⟩
    exact hp _ _ _ hn ho.ev .non
end PL

/-! PL25: tuple * int -/
namespace PL
open PySem PySem.Spec PyProof.Rows L2
theorem tuple_mul1 (l : Addr) (items : Array Value) (n : Nat) (sl : Array (Option Value)) (dd : Option Addr) (x : Int) (u : Tok) (c0 : (decide (x < -(2 ^ 63)) || decide (x ≥ 2 ^ 63)) = false) (c1 : (items.isEmpty || x == 1) = true) :
    Meets (Builtin.«tuple.__mul__» ⟨[.ref l, .int x u], []⟩) (fun _ R s => s.heap.get? l = some { cls := .type "tuple", dict := dd, data := .seq items n, slots := sl } ∧ R (.ok (.ret (Value.ref l))) s) :=
  .of_wp fun prog w A R s h => by
    obtain ⟨hp, g, d, tk, os⟩ := s
    obtain ⟨hl, h⟩ := h
    have f1 := AutoSeq1.idx_int
    wp_walk using wpAny_loadPart' hl
    repeat (first
      | (refine wpAny_ite_false (decide_eq_false (by rw [c0]; exact Bool.false_ne_true)) ?_; wp_walk using wpAny_loadPart' hl)
      | (refine wpAny_ite_true (decide_eq_true c1) ?_; wp_walk using wpAny_loadPart' hl))
    exact ⟨_, rfl, h⟩
theorem tuple_mul0 (l : Addr) (items : Array Value) (n : Nat) (dd : Option Addr) (sl : Array (Option Value)) (x : Int) (u : Tok) (c0 : (decide (x < -(2 ^ 63)) || decide (x ≥ 2 ^ 63)) = false) (c1 : (items.isEmpty || x == 1) = false) (c2 : (decide (x ≤ 0) || items.isEmpty) = true) :
    Meets (Builtin.«tuple.__mul__» ⟨[.ref l, .int x u], []⟩) (fun _ R s => s.heap.get? l = some { cls := .type "tuple", dict := dd, data := .seq items n, slots := sl } ∧
      R (.ok (.ret (Value.ref s.heap.objs.size))) { s with heap := s.heap.push { cls := Value.type "tuple", data := Data.seq #[] }, toks := s.toks }) :=
  .of_wp fun prog w A R s h => by
    obtain ⟨hp, g, d, tk, os⟩ := s
    obtain ⟨hl, h⟩ := h
    have f1 := AutoSeq1.idx_int
    wp_walk using wpAny_loadPart' hl
    repeat (first
      | (refine wpAny_ite_false (decide_eq_false (by rw [c0]; exact Bool.false_ne_true)) ?_; wp_walk using wpAny_loadPart' hl)
      | (refine wpAny_ite_false (decide_eq_false (by rw [c1]; exact Bool.false_ne_true)) ?_; wp_walk using wpAny_loadPart' hl)
      | (refine wpAny_ite_true (decide_eq_true c2) ?_; wp_walk using wpAny_loadPart' hl))
    exact ⟨_, rfl, h⟩
section
variable {X : Cx}
def rRepA (K : PySem.W.Frag) : R2 := fun x y H Q => ∃ l k xs, x = .ref l ∧ y = .int k ∧ SqT K H l xs ∧ xs ≠ [] ∧ 0 ≤ k ∧ k ≤ 1000 ∧ xs.length ≤ 1000 ∧ (k = 1 → Q (.ref l) H) ∧ (k ≠ 1 → ∀ p, H p = none → Q (.ref p) (upd H p (.tup (List.replicate k.toNat xs).flatten)))
theorem op_repA : OpR X (binaryOp .Mult) (rRepA X.K) := by
  intro pins s σ H x y v u Q I rx ry h
  obtain ⟨l, k, xs, rfl, rfl, hT, hne, h1, h2, hz, q1, q⟩ := h
  by_cases hk : 2 ≤ k
  · exact op_repT pins s σ H (.ref l) (.int k) v u Q I rx ry ⟨l, k, xs, rfl, rfl, hT, hne, hk, h2, hz, q (by omega)⟩
  · cases rx
    obtain ⟨t, rfl⟩ := ry
    obtain ⟨its, r, ⟨⟨cls, dd, data, sl⟩, ho, hc, n, hd⟩, hs⟩ := I.tuple hT
    simp only at hc hd
    subst hc hd
    have hle : its.length = xs.length := r.length.symm
    have hn : its ≠ [] := fun e => hne (by
      rw [e] at hle
      exact List.eq_nil_of_length_eq_zero hle.symm)
    have hi : its.toArray.isEmpty = false := by
      cases its with
      | nil => exact absurd rfl hn
      | cons a b => rfl
    have c0 : (decide (k < -(2 ^ 63)) || decide (k ≥ 2 ^ 63)) = false := by
      rw [decide_eq_false (by omega), decide_eq_false (by omega)] <;> rfl
    by_cases hk1 : k = 1
    · have c1 : (its.toArray.isEmpty || k == 1) = true := by rw [hk1, Bool.or_eq_true]; exact .inr rfl
      exact wpAny_binaryOp_repeat_ref (T := "tuple") (U := "int") (by decide) ⟨_, ho, rfl⟩ (fun s' => typeIs_int s' k t) noFill_tuple_mul F.fills_int_mul F.slot_int_rmul repeat_tuple F.slot_int_index.lookup
        (call_meets F.slot_int_rmul (typeIs_int s k t) F.entry_int_rmul (F.args_int_rmul_2 _ _) (int_rmul_tuple k t l its.toArray n dd sl)
          ⟨ho, rfl, ⟨_, ho, rfl⟩, call_meets F.slot_tuple_mul ⟨_, ho, rfl⟩ F.entry_tuple_mul (F.args_tuple_mul_2 _ _) (tuple_mul1 l its.toArray n sl dd k t c0 c1) ⟨ho, ⟨.ref l, H, I, rfl, q1 hk1⟩⟩⟩)
    · have c1 : (its.toArray.isEmpty || k == 1) = false := by
        rw [hi, Bool.false_or]
        exact beq_eq_false_iff_ne.mpr hk1
      have c2 : (decide (k ≤ 0) || its.toArray.isEmpty) = true := by rw [decide_eq_true (by omega)]; rfl
      have e0 : (List.replicate k.toNat xs).flatten = [] := by rw [show k.toNat = 0 by omega]; rfl
      have q := q hk1
      rw [e0] at q
      refine wpAny_binaryOp_repeat_ref (T := "tuple") (U := "int") (by decide) ⟨_, ho, rfl⟩ (fun s' => typeIs_int s' k t) noFill_tuple_mul F.fills_int_mul F.slot_int_rmul repeat_tuple F.slot_int_index.lookup
        (call_meets F.slot_int_rmul (typeIs_int s k t) F.entry_int_rmul (F.args_int_rmul_2 _ _) (int_rmul_tuple k t l its.toArray n dd sl)
          ⟨ho, rfl, ⟨_, ho, rfl⟩, call_meets F.slot_tuple_mul ⟨_, ho, rfl⟩ F.entry_tuple_mul (F.args_tuple_mul_2 _ _) (tuple_mul0 l its.toArray n dd sl k t c0 c1 c2) ⟨ho, ?_⟩⟩)
      refine ⟨.ref s.heap.objs.size, _, I.laid (t' := s.toks) (o := .tup []) (fun b ob q => Heap.get?_push_of_some _ q) (Nat.le_refl _) ?_, rfl, q _ (I.hok.fresh (Nat.le_refl _))⟩
      exact ⟨Nat.zero_le _, [], .nil, IsTup.new _ _⟩
end
section
variable {K : PySem.W.Frag} {X : Cx} {S : Sm} {W : WX} {a b : Expr} {ta tb : TE} {da db : DE} {pos : Pos}
def fRepT : R → R → (R → Prop) → Prop := fun x y P => match x, y with
  | .d (.tup xs), .d (.int k) => xs ≠ [] ∧ 0 ≤ k ∧ k ≤ 1000 ∧ xs.length ≤ 1000 ∧ P (.d (.tup (List.replicate k.toNat xs).flatten))
  | _, _ => False
theorem op_fRepT : OpP K S (rRepA K) fRepT := by
  intro H v w x y P Q st hx hy hf q
  unfold fRepT at hf
  split at hf
  · obtain ⟨h0, h1, h2, h3, hp⟩ := hf
    cases hy
    cases hx with
    | @tup p vs ds hT hr =>
      have hl := hr.length
      refine ⟨_, _, _, rfl, rfl, hT, fun z => h0 (by rw [z] at hl; exact List.eq_nil_of_length_eq_zero hl.symm), h1, h2, by rw [hl]; exact h3, fun e => ?_, fun _ p np => ?_⟩
      · refine q _ _ H hp (Ev.refl st) ?_
        subst e
        have e1 : ∀ ys : List D, (List.replicate (1 : Int).toNat ys).flatten = ys := fun ys => by show (ys ++ []) = ys; rw [List.append_nil]
        show Rep K H _ (.tup _)
        rw [e1]
        exact .tup hT hr
      · exact q _ _ _ hp (Ev.new st np) (.tup (SqT.of upd_same) ((reps_flat hr _).mono (tk_new np)))
  · exact hf.elim
theorem pd_repT (ha : PD K X S W a ta da) (hb : PD K X S W b tb db) : PD K X S W (.BinOp a .Mult b pos) (tOp (rRepA K) ta tb) (dOp fRepT da db) := by
  have hK := ha.1
  subst hK
  exact pd_op op_repA op_fRepT ha hb
end
end PL

namespace PL
open PySem PySem.Spec PyProof.Rows L2
/-! ### terms, with no program in sight -/
inductive Tm where
  | var (x : Str) | app (f : Str) (ts : List Tm)
namespace Tm
mutual
def d : Tm → D
  | .var x => .str x
  | .app f ts => .tup [.str f, .tup (ds ts)]
def ds : List Tm → List D
  | [] => []
  | t :: r => t.d :: ds r
end
mutual
def size : Tm → Nat
  | .var _ => 1
  | .app _ ts => 1 + sizes ts
def sizes : List Tm → Nat
  | [] => 0
  | t :: r => t.size + sizes r
end
mutual
def depth : Tm → Nat
  | .var _ => 1
  | .app _ ts => 1 + depths ts
def depths : List Tm → Nat
  | [] => 0
  | t :: r => max t.depth (depths r)
end
mutual
def ok : Tm → Bool
  | .var x => PyData.strOk x
  | .app f ts => PyData.strOk f && oks ts
def oks : List Tm → Bool
  | [] => true
  | t :: r => t.ok && oks r
end
mutual
/-- all texts of a term -/
def words : Tm → List Str
  | .var x => [x]
  | .app f ts => f :: wordss ts
def wordss : List Tm → List Str
  | [] => []
  | t :: r => t.words ++ wordss r
end
mutual
def parts : Tm → List Tm
  | .var x => [.var x]
  | .app f ts => .app f ts :: partss ts
def partss : List Tm → List Tm
  | [] => []
  | t :: r => t.parts ++ partss r
end
mutual
def places : Tm → List (List Nat)
  | .var _ => [[]]
  | .app _ ts => [] :: placess 0 ts
def placess : Nat → List Tm → List (List Nat)
  | _, [] => []
  | k, t :: r => t.places.map (k :: ·) ++ placess (k + 1) r
end
def args : Tm → List Tm
  | .var _ => []
  | .app _ ts => ts
def isVar : Tm → Bool
  | .var _ => true
  | .app _ _ => false
def at? : List Int → Tm → Option Tm
  | [], t => some t
  | k :: p, t => if 0 ≤ k then (t.args[k.toNat]?).bind (at? p) else none
/-- u with s as its k-th argument -/
def rep : Tm → Nat → Tm → Tm
  | .var x, _, _ => .var x
  | .app f ts, k, s => .app f (ts.set k s)
def put? : List Int → Tm → Tm → Option Tm
  | [], _, s => some s
  | k :: p, t, s => if 0 ≤ k then (t.args[k.toNat]?).bind fun u => (put? p u s).map (rep t k.toNat) else none

theorem ds_map : ∀ ts : List Tm, ds ts = ts.map d
  | [] => rfl
  | t :: r => by rw [ds, ds_map r, List.map_cons]
theorem ds_length (ts : List Tm) : (ds ts).length = ts.length := by rw [ds_map, List.length_map]
theorem ds_append (a b : List Tm) : ds (a ++ b) = ds a ++ ds b := by rw [ds_map, ds_map, ds_map, List.map_append]
theorem ds_reverse (a : List Tm) : ds a.reverse = (ds a).reverse := by rw [ds_map, ds_map, List.map_reverse]
theorem ds_get (ts : List Tm) (i : Nat) : (ds ts)[i]? = ts[i]?.map d := by rw [ds_map, List.getElem?_map]
theorem ds_inj_get {ts : List Tm} {i : Nat} {x : D} (h : (ds ts)[i]? = some x) : ∃ t, ts[i]? = some t ∧ x = t.d := by
  rw [ds_get] at h
  cases z : ts[i]? with
  | none => rw [z] at h; cases h
  | some t => rw [z] at h; cases h; exact ⟨t, rfl, rfl⟩
theorem size_pos : ∀ t : Tm, 1 ≤ t.size
  | .var _ => by rw [size]; omega
  | .app _ _ => by rw [size]; omega
theorem depth_pos : ∀ t : Tm, 1 ≤ t.depth
  | .var _ => by rw [depth]; omega
  | .app _ _ => by rw [depth]; omega
theorem sizes_append : ∀ a b : List Tm, sizes (a ++ b) = sizes a + sizes b
  | [], b => by rw [List.nil_append, sizes]; omega
  | t :: a, b => by rw [List.cons_append, sizes, sizes, sizes_append a b]; omega
theorem sizes_reverse : ∀ a : List Tm, sizes a.reverse = sizes a
  | [] => rfl
  | t :: a => by rw [List.reverse_cons, sizes_append, sizes_reverse a, sizes, sizes, sizes]; omega
theorem size_args (t : Tm) : t.size = 1 + sizes t.args := by cases t <;> simp [size, sizes, args]
theorem depth_args (t : Tm) : t.depth = 1 + depths t.args := by cases t <;> simp [depth, depths, args]
theorem sizes_length : ∀ a : List Tm, a.length ≤ sizes a
  | [] => Nat.zero_le _
  | t :: a => by have := size_pos t; have := sizes_length a; rw [sizes, List.length_cons]; omega
mutual
theorem parts_length : ∀ t : Tm, t.parts.length = t.size
  | .var _ => by rw [parts, size]; rfl
  | .app _ ts => by rw [parts, size, List.length_cons, partss_length ts]; omega
theorem partss_length : ∀ ts : List Tm, (partss ts).length = sizes ts
  | [] => rfl
  | t :: r => by rw [partss, sizes, List.length_append, parts_length t, partss_length r]
end
theorem partss_append : ∀ a b : List Tm, partss (a ++ b) = partss a ++ partss b
  | [], b => by rw [List.nil_append, partss, List.nil_append]
  | t :: a, b => by rw [List.cons_append, partss, partss, partss_append a b, List.append_assoc]
theorem parts_args (t : Tm) : t.parts = t :: partss t.args := by cases t <;> simp [parts, partss, args]
mutual
theorem places_length : ∀ t : Tm, t.places.length = t.size
  | .var _ => by rw [places, size]; rfl
  | .app _ ts => by rw [places, size, List.length_cons, placess_length 0 ts]; omega
theorem placess_length : ∀ (k : Nat) (ts : List Tm), (placess k ts).length = sizes ts
  | _, [] => rfl
  | k, t :: r => by rw [placess, sizes, List.length_append, List.length_map, places_length t, placess_length (k + 1) r]
end
theorem places_args (t : Tm) : t.places = [] :: placess 0 t.args := by cases t <;> simp [places, placess, args]
theorem depths_append : ∀ a b : List Tm, depths (a ++ b) = max (depths a) (depths b)
  | [], b => by rw [List.nil_append, depths]; omega
  | t :: a, b => by rw [List.cons_append, depths, depths, depths_append a b]; omega
theorem depth_le_of_mem : ∀ {ts : List Tm} {t : Tm}, t ∈ ts → t.depth ≤ depths ts
  | x :: r, t, h => by
    rw [depths]
    rcases List.mem_cons.mp h with e | h
    · subst e; omega
    · have := depth_le_of_mem h; omega
theorem size_le_of_mem : ∀ {ts : List Tm} {t : Tm}, t ∈ ts → t.size ≤ sizes ts
  | x :: r, t, h => by
    rw [sizes]
    rcases List.mem_cons.mp h with e | h
    · subst e; omega
    · have := size_le_of_mem h; omega
theorem mem_of_get {ts : List Tm} {i : Nat} {t : Tm} (h : ts[i]? = some t) : t ∈ ts := List.mem_of_getElem? h
mutual
theorem depth_le_size : ∀ t : Tm, t.depth ≤ t.size
  | .var _ => by rw [depth, size]; omega
  | .app _ ts => by rw [depth, size]; have := depths_le_sizes ts; omega
theorem depths_le_sizes : ∀ ts : List Tm, depths ts ≤ sizes ts
  | [] => Nat.le_refl _
  | t :: r => by rw [depths, sizes]; have := depth_le_size t; have := depths_le_sizes r; omega
end
theorem oks_mem : ∀ {ts : List Tm} {t : Tm}, oks ts = true → t ∈ ts → t.ok = true
  | x :: r, t, h, m => by
    rw [oks, Bool.and_eq_true] at h
    rcases List.mem_cons.mp m with e | m
    · subst e; exact h.1
    · exact oks_mem h.2 m
theorem oks_of : ∀ {ts : List Tm}, (∀ t ∈ ts, t.ok = true) → oks ts = true
  | [], _ => rfl
  | x :: r, h => by
    rw [oks, Bool.and_eq_true]
    exact ⟨h x List.mem_cons_self, oks_of fun t m => h t (List.mem_cons_of_mem _ m)⟩
mutual
theorem lay : ∀ t : Tm, t.ok = true → t.d.py.canLay0 = true
  | .var x, h => by rw [d, D.py]; rw [ok] at h; rw [PyData.canLay0]; exact h
  | .app f ts, h => by
    rw [ok, Bool.and_eq_true] at h
    rw [d, D.py, PyData.canLay0, pyAll, pyAll, pyAll, D.py, D.py, PyData.canLayAll0, PyData.canLayAll0, PyData.canLayAll0, PyData.canLay0, PyData.canLay0, lays ts h.2, h.1]
    rfl
theorem lays : ∀ ts : List Tm, oks ts = true → PyData.canLayAll0 (pyAll (ds ts)) = true
  | [], _ => by rw [ds, pyAll, PyData.canLayAll0]
  | t :: r, h => by
    rw [oks, Bool.and_eq_true] at h
    rw [ds, pyAll, PyData.canLayAll0, lay t h.1, lays r h.2]
    rfl
end
mutual
theorem pdepth : ∀ t : Tm, t.d.py.depth ≤ 2 * t.depth
  | .var x => by rw [d, D.py, PyData.depth]; omega
  | .app f ts => by
    have := pdepths ts
    rw [d, D.py, PyData.depth, pyAll, pyAll, pyAll, D.py, D.py, PyData.depthAll, PyData.depthAll, PyData.depthAll, PyData.depth, PyData.depth, depth]
    omega
theorem pdepths : ∀ ts : List Tm, PyData.depthAll (pyAll (ds ts)) ≤ 2 * depths ts
  | [] => by rw [ds, pyAll, PyData.depthAll]; omega
  | t :: r => by
    have := pdepth t
    have := pdepths r
    rw [ds, pyAll, PyData.depthAll, depths]
    omega
end
theorem shaped {t : Tm} (h : t.ok = true) (hd : t.depth ≤ 32) : SeqAt.shaped t.d.py = true := by
  unfold SeqAt.shaped
  rw [lay t h, Bool.true_and]
  have := pdepth t
  exact decide_eq_true (by omega)
theorem eqv_self {t : Tm} (h : t.ok = true) : PyData.eqv t.d.py t.d.py = true := SeqAt.eqv_refl _ (lay t h)

/-! places -/
theorem at?_snoc : ∀ (p : List Int) (t u v : Tm) (k : Int), at? p t = some u → 0 ≤ k → u.args[k.toNat]? = some v → at? (p ++ [k]) t = some v
  | [], t, u, v, k, h, h0, hv => by
    cases h
    rw [List.nil_append, at?, if_pos h0, hv]
    rfl
  | j :: p, t, u, v, k, h, h0, hv => by
    rw [at?] at h
    by_cases hj : 0 ≤ j
    · rw [if_pos hj] at h
      rw [List.cons_append, at?, if_pos hj]
      cases z : t.args[j.toNat]? with
      | none => rw [z] at h; cases h
      | some w => rw [z] at h; exact at?_snoc p w u v k h h0 hv
    · rw [if_neg hj] at h; cases h
theorem at?_stop : ∀ (p q : List Int) (t u : Tm) (k : Int), at? p t = some u → ¬ (0 ≤ k ∧ k < u.args.length) → at? (p ++ k :: q) t = none
  | [], q, t, u, k, h, hk => by
    cases h
    rw [List.nil_append, at?]
    by_cases h0 : 0 ≤ k
    · rw [if_pos h0, List.getElem?_eq_none (by omega)]
      rfl
    · rw [if_neg h0]
  | j :: p, q, t, u, k, h, hk => by
    rw [at?] at h
    by_cases hj : 0 ≤ j
    · rw [if_pos hj] at h
      rw [List.cons_append, at?, if_pos hj]
      cases z : t.args[j.toNat]? with
      | none => rfl
      | some w => rw [z] at h; exact at?_stop p q w u k h hk
    · rw [List.cons_append, at?, if_neg hj]
theorem at?_size : ∀ (p : List Int) (t u : Tm), at? p t = some u → u.size ≤ t.size ∧ u.depth ≤ t.depth
  | [], t, u, h => by cases h; exact ⟨Nat.le_refl _, Nat.le_refl _⟩
  | j :: p, t, u, h => by
    rw [at?] at h
    by_cases hj : 0 ≤ j
    · rw [if_pos hj] at h
      cases z : t.args[j.toNat]? with
      | none => rw [z] at h; cases h
      | some w =>
        rw [z] at h
        have h1 := at?_size p w u h
        have h2 := size_le_of_mem (mem_of_get z)
        have h3 := depth_le_of_mem (mem_of_get z)
        rw [size_args t, depth_args t]
        omega
    · rw [if_neg hj] at h; cases h
theorem ok_args {t : Tm} (h : t.ok = true) : oks t.args = true := by
  cases t with
  | var x => rfl
  | app f ts => rw [ok, Bool.and_eq_true] at h; exact h.2
theorem at?_ok : ∀ (p : List Int) (t u : Tm), t.ok = true → at? p t = some u → u.ok = true
  | [], t, u, ht, h => by cases h; exact ht
  | j :: p, t, u, ht, h => by
    rw [at?] at h
    by_cases hj : 0 ≤ j
    · rw [if_pos hj] at h
      cases z : t.args[j.toNat]? with
      | none => rw [z] at h; cases h
      | some w =>
        rw [z] at h
        exact at?_ok p w u (oks_mem (ok_args ht) (mem_of_get z)) h
    · rw [if_neg hj] at h; cases h
theorem put?_snoc : ∀ (p : List Int) (t u v s : Tm) (k : Int), at? p t = some u → 0 ≤ k → u.args[k.toNat]? = some v → put? (p ++ [k]) t s = put? p t (rep u k.toNat s)
  | [], t, u, v, s, k, h, h0, hv => by
    cases h
    show put? [k] t s = some (rep t k.toNat s)
    rw [put?, if_pos h0, hv]
    rfl
  | j :: p, t, u, v, s, k, h, h0, hv => by
    rw [at?] at h
    by_cases hj : 0 ≤ j
    · rw [if_pos hj] at h
      rw [List.cons_append, put?, if_pos hj, put?, if_pos hj]
      cases z : t.args[j.toNat]? with
      | none => rfl
      | some w =>
        rw [z] at h
        show (put? (p ++ [k]) w s).map _ = (put? p w _).map _
        rw [put?_snoc p w u v s k h h0 hv]
    · rw [if_neg hj] at h; cases h
theorem put?_at : ∀ (p : List Int) (t u s : Tm), at? p t = some u → ∃ m, put? p t s = some m ∧ at? p m = some s ∧ m.size + u.size = t.size + s.size ∧ m.depth ≤ t.depth + s.depth ∧ (t.ok = true → s.ok = true → m.ok = true)
  | [], t, u, s, h => by
    cases h
    exact ⟨s, rfl, rfl, by omega, by omega, fun _ h => h⟩
  | j :: p, t, u, s, h => by
    rw [at?] at h
    by_cases hj : 0 ≤ j
    · rw [if_pos hj] at h
      cases z : t.args[j.toNat]? with
      | none => rw [z] at h; cases h
      | some w =>
        rw [z] at h
        obtain ⟨m, h1, h2, h3, h4, h5⟩ := put?_at p w u s h
        cases t with
        | var x => exact absurd z (by simp [args])
        | app f ts =>
          have z : ts[j.toNat]? = some w := z
          have hlt : j.toNat < ts.length := by
            rcases Nat.lt_or_ge j.toNat ts.length with y | y
            · exact y
            · rw [List.getElem?_eq_none y] at z; cases z
          have hset : ∀ (ts : List Tm) (i : Nat), ts[i]? = some w → sizes (ts.set i m) + w.size = sizes ts + m.size ∧ depths (ts.set i m) ≤ max (depths ts) m.depth ∧ (oks ts = true → m.ok = true → oks (ts.set i m) = true) := by
            intro ts
            induction ts with
            | nil => intro i e; simp at e
            | cons x r ih =>
              intro i e
              cases i with
              | zero =>
                simp at e
                subst e
                rw [List.set_cons_zero, sizes, sizes, depths, depths]
                refine ⟨by omega, by omega, fun a b => ?_⟩
                rw [oks, Bool.and_eq_true] at a ⊢
                exact ⟨b, a.2⟩
              | succ i =>
                obtain ⟨e1, e2, e3⟩ := ih i (by simpa using e)
                rw [List.set_cons_succ, sizes, sizes, depths, depths]
                refine ⟨by omega, by omega, fun a b => ?_⟩
                rw [oks, Bool.and_eq_true] at a ⊢
                exact ⟨a.1, e3 a.2 b⟩
          obtain ⟨e1, e2, e3⟩ := hset ts j.toNat z
          refine ⟨.app f (ts.set j.toNat m), ?_, ?_, ?_, ?_, fun a b => ?_⟩
          · rw [put?, if_pos hj, show (app f ts).args[j.toNat]? = some w from z]
            show (put? p w s).map _ = _
            rw [h1]
            rfl
          · rw [at?, if_pos hj]
            show ((ts.set j.toNat m)[j.toNat]?).bind _ = _
            rw [List.getElem?_set_self hlt]
            exact h2
          · rw [size, size]; omega
          · have h6 := depth_le_of_mem (mem_of_get z)
            rw [depth, depth]
            omega
          · have a' := a
            rw [ok, Bool.and_eq_true] at a ⊢
            exact ⟨a.1, e3 a.2 (h5 (oks_mem a.2 (mem_of_get z)) b)⟩
    · rw [if_neg hj] at h; cases h
theorem put?_none : ∀ (p : List Int) (t s : Tm), at? p t = none → put? p t s = none
  | [], t, s, h => by cases h
  | j :: p, t, s, h => by
    rw [at?] at h
    rw [put?]
    by_cases hj : 0 ≤ j
    · rw [if_pos hj] at h ⊢
      cases z : t.args[j.toNat]? with
      | none => rfl
      | some w =>
        rw [z] at h
        show (put? p w s).map _ = none
        rw [put?_none p w s h]
        rfl
    · rw [if_neg hj]
/-- beside the place that is written, all stays -/
theorem put?_else : ∀ (p q : List Int) (t s m : Tm), put? p t s = some m → ¬ p <+: q → ¬ q <+: p → at? q m = at? q t
  | [], q, t, s, m, _, h, _ => absurd (List.nil_prefix) h
  | j :: p, [], t, s, m, _, _, h => absurd (List.nil_prefix) h
  | j :: p, i :: q, t, s, m, hm, h1, h2 => by
    rw [put?] at hm
    by_cases hj : 0 ≤ j
    · rw [if_pos hj] at hm
      cases z : t.args[j.toNat]? with
      | none => rw [z] at hm; cases hm
      | some w =>
        rw [z] at hm
        have hm : (put? p w s).map (rep t j.toNat) = some m := hm
        cases y : put? p w s with
        | none => rw [y] at hm; cases hm
        | some m' =>
          rw [y] at hm
          cases hm
          cases t with
          | var x => exact absurd z (by simp [args])
          | app f ts =>
            rw [at?, at?]
            by_cases hi : 0 ≤ i
            · rw [if_pos hi, if_pos hi]
              show ((ts.set j.toNat m')[i.toNat]?).bind _ = (ts[i.toNat]?).bind _
              by_cases e : j = i
              · subst e
                have z : ts[j.toNat]? = some w := z
                have hlt : j.toNat < ts.length := by
                  rcases Nat.lt_or_ge j.toNat ts.length with y | y
                  · exact y
                  · rw [List.getElem?_eq_none y] at z; cases z
                rw [List.getElem?_set_self hlt, z]
                show at? q m' = at? q w
                refine put?_else p q w s m' y (fun hp => h1 ?_) (fun hp => h2 ?_)
                · exact (List.prefix_cons_inj j).mpr hp
                · exact (List.prefix_cons_inj j).mpr hp
              · rw [List.getElem?_set_ne (by omega)]
            · rw [if_neg hi, if_neg hi]
    · rw [if_neg hj] at hm; cases hm
/-- a place as a tuple of ints -/
def plI (p : List Nat) : List Int := p.map fun (k : Nat) => (k : Int)
mutual
theorem places_at : ∀ (t : Tm) (p : List Nat), p ∈ t.places → ∃ u, at? (plI p) t = some u
  | .var x, p, h => by
    rw [places, List.mem_singleton] at h
    subst h
    exact ⟨_, rfl⟩
  | .app f ts, p, h => by
    rw [places, List.mem_cons] at h
    rcases h with h | h
    · subst h; exact ⟨_, rfl⟩
    · obtain ⟨k, q, u, w, hp, h1, h2⟩ := placess_at ts 0 p h
      refine ⟨w, ?_⟩
      subst hp
      show at? (((0 + k : Nat) : Int) :: plI q) _ = _
      rw [at?, if_pos (Int.natCast_nonneg _), show ((0 + k : Nat) : Int).toNat = k by omega]
      show (ts[k]?).bind _ = _
      rw [h1]
      exact h2
theorem placess_at : ∀ (ts : List Tm) (j : Nat) (p : List Nat), p ∈ placess j ts → ∃ k q u w, p = (j + k) :: q ∧ ts[k]? = some u ∧ at? (plI q) u = some w
  | [], j, p, h => by rw [placess] at h; cases h
  | t :: r, j, p, h => by
    rw [placess, List.mem_append, List.mem_map] at h
    rcases h with ⟨q, h1, h2⟩ | h
    · obtain ⟨w, hw⟩ := places_at t q h1
      exact ⟨0, q, t, w, h2.symm, rfl, hw⟩
    · obtain ⟨k, q, u, w, h1, h2, h3⟩ := placess_at r (j + 1) p h
      exact ⟨k + 1, q, u, w, by rw [h1]; congr 1; omega, by simpa using h2, h3⟩
end
mutual
theorem at_places : ∀ (t : Tm) (p : List Int) (u : Tm), at? p t = some u → ∃ q, q ∈ t.places ∧ p = plI q
  | .var x, p, u, h => by
    cases p with
    | nil => exact ⟨[], by rw [places]; exact List.mem_singleton.mpr rfl, rfl⟩
    | cons k p =>
      rw [at?] at h
      split at h
      · cases h
      · cases h
  | .app f ts, p, u, h => by
    cases p with
    | nil => exact ⟨[], by rw [places]; exact List.mem_cons_self, rfl⟩
    | cons k p =>
      rw [at?] at h
      by_cases hk : 0 ≤ k
      · rw [if_pos hk] at h
        have h : (ts[k.toNat]?).bind (at? p) = some u := h
        cases z : ts[k.toNat]? with
        | none => rw [z] at h; cases h
        | some w =>
          rw [z] at h
          obtain ⟨q, h1, h2⟩ := at_placess ts 0 k.toNat p w u z h
          refine ⟨(0 + k.toNat) :: q, by rw [places]; exact List.mem_cons_of_mem _ h1, ?_⟩
          subst h2
          show k :: plI q = ((0 + k.toNat : Nat) : Int) :: plI q
          congr 1
          omega
      · rw [if_neg hk] at h; cases h
theorem at_placess : ∀ (ts : List Tm) (j i : Nat) (p : List Int) (w u : Tm), ts[i]? = some w → at? p w = some u → ∃ q, (j + i) :: q ∈ placess j ts ∧ p = plI q
  | [], j, i, p, w, u, h, _ => by simp at h
  | t :: r, j, 0, p, w, u, h, hu => by
    simp at h
    subst h
    obtain ⟨q, h1, h2⟩ := at_places t p u hu
    exact ⟨q, by rw [placess]; exact List.mem_append_left _ (List.mem_map.mpr ⟨q, h1, rfl⟩), h2⟩
  | t :: r, j, i + 1, p, w, u, h, hu => by
    obtain ⟨q, h1, h2⟩ := at_placess r (j + 1) i p w u (by simpa using h) hu
    refine ⟨q, ?_, h2⟩
    rw [placess, show j + (i + 1) = j + 1 + i by omega]
    exact List.mem_append_right _ h1
end
end Tm
end PL

namespace PL
open PySem PySem.Spec PyProof.Rows L2
/-! ### each once, in the order of their first standing -/
section
variable {α : Type} [DecidableEq α]
def addNew (acc : List α) (x : α) : List α := if x ∈ acc then acc else acc ++ [x]
def fa (acc l : List α) : List α := l.foldl addNew acc
def dd (l : List α) : List α := fa [] l
theorem fa_append (acc a b : List α) : fa acc (a ++ b) = fa (fa acc a) b := by unfold fa; rw [List.foldl_append]
theorem fa_eq : ∀ (l acc : List α), fa acc l = acc ++ (dd l).filter (fun x => decide (x ∉ acc))
  | [], acc => by simp [fa, dd]
  | x :: l, acc => by
    have h1 : fa acc (x :: l) = fa (addNew acc x) l := rfl
    have h2 : dd (x :: l) = fa [x] l := by
      show fa (addNew [] x) l = _
      simp [addNew]
    rw [h1, h2, fa_eq l (addNew acc x), fa_eq l [x]]
    unfold addNew
    by_cases hx : x ∈ acc
    · rw [if_pos hx]
      congr 1
      rw [List.singleton_append, List.filter_cons_of_neg (by simp [hx]), List.filter_filter]
      refine List.filter_congr fun y _ => ?_
      by_cases hy : y ∈ acc
      · simp [hy]
      · have : y ≠ x := fun e => hy (by rw [e]; exact hx)
        simp [hy, this]
    · rw [if_neg hx, List.append_assoc]
      congr 1
      rw [List.singleton_append, List.singleton_append, List.filter_cons_of_pos (by simp [hx]), List.filter_filter]
      congr 1
      refine List.filter_congr fun y _ => ?_
      by_cases hy : y ∈ acc <;> by_cases e : y = x <;> simp [hy, e]
theorem fa_length : ∀ (l acc : List α), (fa acc l).length ≤ acc.length + l.length
  | [], acc => Nat.le_refl _
  | x :: l, acc => by
    have h : fa acc (x :: l) = fa (addNew acc x) l := rfl
    have h1 := fa_length l (addNew acc x)
    have h2 : (addNew acc x).length ≤ acc.length + 1 := by unfold addNew; split <;> simp
    rw [h, List.length_cons]
    omega
theorem mem_fa : ∀ (l acc : List α) (x : α), x ∈ fa acc l ↔ x ∈ acc ∨ x ∈ l
  | [], acc, x => by simp [fa]
  | y :: l, acc, x => by
    have h : fa acc (y :: l) = fa (addNew acc y) l := rfl
    rw [h, mem_fa l]
    unfold addNew
    split
    · next hy =>
      constructor
      · rintro (h | h)
        · exact .inl h
        · exact .inr (List.mem_cons_of_mem _ h)
      · rintro (h | h)
        · exact .inl h
        · rcases List.mem_cons.mp h with e | h
          · subst e; exact .inl hy
          · exact .inr h
    · simp only [List.mem_append, List.mem_cons, List.not_mem_nil, or_assoc, false_or]
end
namespace Tm
def vname : Tm → Option Str
  | .var x => some x
  | .app _ _ => none
def sname : Tm → Option (Str × Nat)
  | .var _ => none
  | .app f ts => some (f, ts.length)
def vars (t : Tm) : List Str := dd (t.parts.filterMap vname)
def syms (t : Tm) : List (Str × Nat) := dd (t.parts.filterMap sname)
/-- as the law's own walk goes: acc, then each argument's that are not there yet -/
def more {α : Type} [DecidableEq α] (g : Tm → List α) (acc : List α) (ts : List Tm) : List α := ts.foldl (fun acc t => acc ++ (g t).filter (fun x => decide (x ∉ acc))) acc
theorem more_fa {α : Type} [DecidableEq α] (n : Tm → Option α) : ∀ (ts : List Tm) (acc : List α), more (fun t => dd (t.parts.filterMap n)) acc ts = fa acc ((partss ts).filterMap n)
  | [], acc => rfl
  | t :: r, acc => by
    show more _ (acc ++ (dd (t.parts.filterMap n)).filter _) r = _
    rw [more_fa n r, partss, List.filterMap_append, fa_append, fa_eq (t.parts.filterMap n) acc]
theorem vars_var (x : Str) : vars (.var x) = [x] := rfl
theorem vars_app (f : Str) (ts : List Tm) : vars (.app f ts) = more vars [] ts := by
  show dd ((parts (.app f ts)).filterMap vname) = more (fun t => dd (t.parts.filterMap vname)) [] ts
  rw [more_fa, parts]
  rfl
theorem syms_app (f : Str) (ts : List Tm) : syms (.app f ts) = more syms [(f, ts.length)] ts := by
  show dd ((parts (.app f ts)).filterMap sname) = more (fun t => dd (t.parts.filterMap sname)) [(f, ts.length)] ts
  rw [more_fa, parts]
  rfl
theorem more_snoc {α : Type} [DecidableEq α] (g : Tm → List α) (acc : List α) (ts : List Tm) (t : Tm) : more g acc (ts ++ [t]) = more g acc ts ++ (g t).filter (fun x => decide (x ∉ more g acc ts)) := by
  unfold more
  rw [List.foldl_append]
  rfl
theorem vars_length (t : Tm) : t.vars.length ≤ t.size := by
  have h1 := fa_length (t.parts.filterMap vname) []
  have h2 := List.length_filterMap_le vname t.parts
  rw [parts_length] at h2
  show (fa [] _).length ≤ _
  simp at h1
  omega
theorem syms_length (t : Tm) : t.syms.length ≤ t.size := by
  have h1 := fa_length (t.parts.filterMap sname) []
  have h2 := List.length_filterMap_le sname t.parts
  rw [parts_length] at h2
  show (fa [] _).length ≤ _
  simp at h1
  omega
theorem more_vars_length (f : Str) (ts : List Tm) : (more vars [] ts).length ≤ 1 + sizes ts := by
  rw [← vars_app f ts]
  have := vars_length (.app f ts)
  rw [size] at this
  exact this
end Tm
def strDs (l : List Str) : List D := l.map D.str
def symD (p : Str × Nat) : D := .tup [.str p.1, .int p.2]
def symDs (l : List (Str × Nat)) : List D := l.map symD
def plD (p : List Nat) : D := .tup (p.map fun (k : Nat) => D.int k)
def intsD (p : List Int) : D := .tup (p.map D.int)
theorem plD_eq (p : List Nat) : plD p = intsD (Tm.plI p) := by
  unfold plD intsD Tm.plI
  rw [List.map_map]
  rfl
theorem eqv_str (a b : Str) : PyData.eqv (D.str a).py (D.str b).py = decide (a = b) := by
  rw [D.py, D.py]
  show (a == b) = _
  rw [Bool.eq_iff_iff]
  simp
theorem eqv_int (a b : Int) : PyData.eqv (D.int a).py (D.int b).py = decide (a = b) := by
  rw [D.py, D.py]
  show (a == b) = _
  rw [Bool.eq_iff_iff]
  simp
theorem eqv_sym (a b : Str × Nat) : PyData.eqv (symD a).py (symD b).py = decide (a = b) := by
  unfold symD
  rw [D.py, D.py, pyAll, pyAll, pyAll, pyAll, pyAll, pyAll]
  show PyData.eqvAll _ _ = _
  rw [PyData.eqvAll, PyData.eqvAll, PyData.eqvAll, eqv_str, eqv_int, Bool.and_true]
  obtain ⟨a1, a2⟩ := a
  obtain ⟨b1, b2⟩ := b
  rw [Bool.eq_iff_iff]
  simp [Prod.ext_iff]
  intro _
  omega
theorem pyAll_map : ∀ l : List D, pyAll l = l.map D.py
  | [] => rfl
  | x :: r => by rw [pyAll, pyAll_map r, List.map_cons]
theorem any_str (l : List Str) (x : Str) : ((pyAll (strDs l)).any fun z => PyData.eqv z (D.str x).py) = decide (x ∈ l) := by
  unfold strDs
  rw [pyAll_map, List.map_map, List.any_map, Bool.eq_iff_iff, List.any_eq_true, decide_eq_true_iff]
  constructor
  · rintro ⟨y, hy, e⟩
    have e : PyData.eqv (D.str y).py (D.str x).py = true := e
    rw [eqv_str] at e
    exact of_decide_eq_true e ▸ hy
  · intro h
    refine ⟨x, h, ?_⟩
    show PyData.eqv (D.str x).py (D.str x).py = true
    rw [eqv_str]
    exact decide_eq_true rfl
theorem any_sym (l : List (Str × Nat)) (x : Str × Nat) : ((pyAll (symDs l)).any fun z => PyData.eqv z (symD x).py) = decide (x ∈ l) := by
  unfold symDs
  rw [pyAll_map, List.map_map, List.any_map, Bool.eq_iff_iff, List.any_eq_true, decide_eq_true_iff]
  constructor
  · rintro ⟨y, hy, e⟩
    have e : PyData.eqv (symD y).py (symD x).py = true := e
    rw [eqv_sym] at e
    exact of_decide_eq_true e ▸ hy
  · intro h
    refine ⟨x, h, ?_⟩
    show PyData.eqv (symD x).py (symD x).py = true
    rw [eqv_sym]
    exact decide_eq_true rfl
theorem lay_strs : ∀ l : List Str, (∀ x ∈ l, PyData.strOk x = true) → PyData.canLayAll0 (pyAll (strDs l)) = true
  | [], _ => rfl
  | x :: r, h => by
    show (PyData.canLay0 (D.str x).py && PyData.canLayAll0 (pyAll (strDs r))) = true
    rw [lay_strs r fun y hy => h y (List.mem_cons_of_mem _ hy), D.py, PyData.canLay0, h x List.mem_cons_self]
    rfl
theorem lay_syms : ∀ l : List (Str × Nat), (∀ x ∈ l, PyData.strOk x.1 = true) → PyData.canLayAll0 (pyAll (symDs l)) = true
  | [], _ => rfl
  | x :: r, h => by
    show (PyData.canLay0 (symD x).py && PyData.canLayAll0 (pyAll (symDs r))) = true
    rw [lay_syms r fun y hy => h y (List.mem_cons_of_mem _ hy)]
    unfold symD
    rw [D.py, pyAll, pyAll, pyAll, D.py, D.py, PyData.canLay0, PyData.canLayAll0, PyData.canLayAll0, PyData.canLayAll0, PyData.canLay0, PyData.canLay0, h x List.mem_cons_self]
    rfl
theorem dep_strs : ∀ l : List Str, PyData.depthAll (pyAll (strDs l)) = 0
  | [] => rfl
  | x :: r => by
    show max (PyData.depth (D.str x).py) (PyData.depthAll (pyAll (strDs r))) = 0
    rw [dep_strs r, D.py, PyData.depth]
    rfl
theorem dep_syms : ∀ l : List (Str × Nat), PyData.depthAll (pyAll (symDs l)) ≤ 1
  | [] => Nat.zero_le _
  | x :: r => by
    have := dep_syms r
    show max (PyData.depth (symD x).py) (PyData.depthAll (pyAll (symDs r))) ≤ 1
    unfold symD
    rw [D.py, pyAll, pyAll, pyAll, D.py, D.py, PyData.depth, PyData.depthAll, PyData.depthAll, PyData.depthAll, PyData.depth, PyData.depth]
    omega
theorem shaped_str {x : Str} (h : PyData.strOk x = true) : SeqAt.shaped (D.str x).py = true := by
  rw [D.py]
  unfold SeqAt.shaped
  rw [PyData.canLay0, h, PyData.depth]
  rfl
theorem shaped_sym {x : Str × Nat} (h : PyData.strOk x.1 = true) : SeqAt.shaped (symD x).py = true := by
  unfold SeqAt.shaped symD
  rw [D.py, pyAll, pyAll, pyAll, D.py, D.py, PyData.canLay0, PyData.canLayAll0, PyData.canLayAll0, PyData.canLayAll0, PyData.canLay0, PyData.canLay0, h, PyData.depth, PyData.depthAll, PyData.depthAll, PyData.depthAll, PyData.depth, PyData.depth]
  rfl
theorem shaped_int (i : Int) : SeqAt.shaped (D.int i).py = true := by
  rw [D.py]
  unfold SeqAt.shaped
  rw [PyData.canLay0, PyData.depth]
  rfl
theorem shaped_lst {l : List D} (h : PyData.canLayAll0 (pyAll l) = true) (hd : PyData.depthAll (pyAll l) ≤ 63) : SeqAt.shaped (.list (pyAll l)) = true := by
  unfold SeqAt.shaped
  rw [PyData.canLay0, h, PyData.depth, Bool.true_and]
  exact decide_eq_true (by omega)
theorem shaped_tup {l : List D} (h : PyData.canLayAll0 (pyAll l) = true) (hd : PyData.depthAll (pyAll l) ≤ 63) : SeqAt.shaped (D.tup l).py = true := by
  rw [D.py]
  unfold SeqAt.shaped
  rw [PyData.canLay0, h, PyData.depth, Bool.true_and]
  exact decide_eq_true (by omega)
theorem shaped_strs {l : List Str} (h : ∀ x ∈ l, PyData.strOk x = true) : SeqAt.shaped (.list (pyAll (strDs l))) = true := shaped_lst (lay_strs l h) (by rw [dep_strs]; omega)
theorem shaped_syms {l : List (Str × Nat)} (h : ∀ x ∈ l, PyData.strOk x.1 = true) : SeqAt.shaped (.list (pyAll (symDs l))) = true := shaped_lst (lay_syms l h) (by have := dep_syms l; omega)
theorem lay_ints : ∀ l : List Int, PyData.canLayAll0 (pyAll (l.map D.int)) = true
  | [] => rfl
  | x :: r => by
    show (PyData.canLay0 (D.int x).py && PyData.canLayAll0 (pyAll (r.map D.int))) = true
    rw [lay_ints r, D.py, PyData.canLay0]
    rfl
theorem dep_ints : ∀ l : List Int, PyData.depthAll (pyAll (l.map D.int)) = 0
  | [] => rfl
  | x :: r => by
    show max (PyData.depth (D.int x).py) (PyData.depthAll (pyAll (r.map D.int))) = 0
    rw [dep_ints r, D.py, PyData.depth]
    rfl
theorem shaped_intsD (l : List Int) : SeqAt.shaped (intsD l).py = true := shaped_tup (lay_ints l) (by rw [dep_ints]; omega)
theorem lay_intsD (l : List Int) : (intsD l).py.canLay0 = true := SeqAt.canLay_of_shaped (shaped_intsD l)
theorem shaped_places (l : List (List Nat)) : SeqAt.shaped (.list (pyAll (l.map plD))) = true := by
  have h1 : ∀ l : List (List Nat), PyData.canLayAll0 (pyAll (l.map plD)) = true ∧ PyData.depthAll (pyAll (l.map plD)) ≤ 1 := by
    intro l
    induction l with
    | nil => exact ⟨rfl, Nat.zero_le _⟩
    | cons p r ih =>
      have e : (plD p).py.depth ≤ 1 := by
        rw [plD_eq]
        unfold intsD
        rw [D.py, PyData.depth, dep_ints]
        omega
      refine ⟨?_, ?_⟩
      · show (PyData.canLay0 (plD p).py && PyData.canLayAll0 (pyAll (r.map plD))) = true
        rw [ih.1, plD_eq, lay_intsD]
        rfl
      · show max (PyData.depth (plD p).py) (PyData.depthAll (pyAll (r.map plD))) ≤ 1
        have := ih.2
        omega
  exact shaped_lst (h1 l).1 (by have := (h1 l).2; omega)
end PL

namespace PL
open PySem PySem.Spec PyProof.Rows L2
/-! ### promises of the defs on terms -/
def ctT (f : Tm → R) (p : Tm → Prop) : Ct := { α := Tm, args := fun t => [.d t.d], pre := p, post := fun t r => r = f t, exc := fun _ _ => False }
def ct_is_variable : Ct := ctT (fun t => .d (.bl t.isVar)) fun _ => True
def ct_inner : Ct := ctT (fun t => .d (.tup (Tm.ds t.args))) fun _ => True
def ct_parts : Ct := ctT (fun t => .n (.lst (Tm.ds t.parts))) fun t => t.size ≤ 10000
def ct_size : Ct := ctT (fun t => .d (.int t.size)) fun t => t.size ≤ 10000
def ct_depth : Ct := ctT (fun t => .d (.int t.depth)) fun t => t.size ≤ 10000
def ct_positions : Ct := ctT (fun t => .n (.lst (t.places.map plD))) fun t => t.size ≤ 10000
def ct_variables : Ct := ctT (fun t => .d (.tup (strDs t.vars))) fun t => t.size ≤ 10000
def ct_symbols : Ct := ctT (fun t => .d (.tup (symDs t.syms))) fun t => t.size ≤ 10000
def ct_at (c : Addr) : Ct := { α := Tm × List Int, args := fun y => [.d y.1.d, .d (intsD y.2)], pre := fun y => y.1.size ≤ 10000, post := fun y r => ∃ u, Tm.at? y.2 y.1 = some u ∧ r = .d u.d, exc := fun y c' => c' = c ∧ Tm.at? y.2 y.1 = none }
def ct_put (c : Addr) : Ct := { α := Tm × List Int × Tm, args := fun y => [.d y.1.d, .d (intsD y.2.1), .d y.2.2.d], pre := fun y => y.1.size + y.2.2.size ≤ 400 ∧ y.1.depth + y.2.2.depth ≤ 40 ∧ y.2.1.length ≤ 1000, post := fun y r => ∃ m, Tm.put? y.2.1 y.1 y.2.2 = some m ∧ r = .d m.d, exc := fun y c' => c' = c ∧ Tm.at? y.2.1 y.1 = none }
def ct_need_small : Ct := { α := Int × Int, args := fun y => [.d (.int y.1), .d (.int y.2)], pre := fun y => y.1 ≤ 400 ∧ y.2 ≤ 40, post := fun _ r => r = .d .non, exc := fun _ _ => False }
def ct__law_pick : Ct := { α := List D, args := fun rows => [.strm, .b (.lst rows)], pre := fun rows => rows ≠ [] ∧ rows.length ≤ 1000000, post := fun rows r => ∃ x, x ∈ rows ∧ r = .d x, exc := fun _ _ => False }
def ct__law_size (n : Nat) : Ct := ctT (fun t => .d (.int t.size)) fun t => t.depth ≤ n ∧ t.size ≤ 10000
def ct__law_depth (n : Nat) : Ct := ctT (fun t => .d (.int t.depth)) fun t => t.depth ≤ n ∧ t.size ≤ 10000
def ct__law_places (n : Nat) : Ct := ctT (fun t => .n (.lst (t.places.map plD))) fun t => t.depth ≤ n ∧ t.size ≤ 10000
def ct__law_variables (n : Nat) : Ct := ctT (fun t => .n (.lst (strDs t.vars))) fun t => t.depth ≤ n ∧ t.size ≤ 10000 ∧ t.ok = true
def ct__law_symbols (n : Nat) : Ct := ctT (fun t => .n (.lst (symDs t.syms))) fun t => t.depth ≤ n ∧ t.size ≤ 10000 ∧ t.ok = true
def ct__law_at : Ct := { α := Tm × List Int, args := fun y => [.d y.1.d, .d (intsD y.2)], pre := fun y => y.1.size ≤ 10000, post := fun y r => r = .d (match Tm.at? y.2 y.1 with | some u => u.d | none => .non), exc := fun _ _ => False }
def ct__law_put (n : Nat) : Ct := { α := Tm × List Int × Tm, args := fun y => [.d y.1.d, .d (intsD y.2.1), .d y.2.2.d], pre := fun y => y.2.1.length < n ∧ y.1.size ≤ 10000 ∧ ∃ u, Tm.at? y.2.1 y.1 = some u, post := fun y r => ∃ m, Tm.put? y.2.1 y.1 y.2.2 = some m ∧ r = .d m.d, exc := fun _ _ => False }
structure TermIn where
  kinds : List (Str × Nat)
  names : List Str
  most : Nat
  deep : Nat
def ct__law_term (n : Nat) : Ct := { α := TermIn, args := fun y => [.strm, .b (.lst (symDs y.kinds)), .b (.lst (strDs y.names)), .d (.int y.most), .d (.int y.deep)], pre := fun y => (∀ k ∈ y.kinds, PyData.strOk k.1 = true ∧ k.2 ≤ 3) ∧ (∀ x ∈ y.names, PyData.strOk x = true) ∧ y.kinds.length ≤ 1000 ∧ y.names.length ≤ 1000 ∧ 1 ≤ y.most ∧ y.most ≤ 1000 ∧ 1 ≤ y.deep ∧ y.deep ≤ n ∧ y.deep ≤ 40, post := fun y r => ∃ t : Tm, r = .d t.d ∧ t.ok = true ∧ t.size ≤ y.most ∧ t.depth ≤ y.deep ∧ (∀ z ∈ t.words, z = "x" ∨ z ∈ y.names ∨ z ∈ y.kinds.map (·.1)) ∧ ∀ z ∈ t.vars, z ∈ y.names ∨ (y.names = [] ∧ ∀ k ∈ y.kinds, k.2 ≠ 0), exc := fun _ _ => False }
def rows0 : List (Str × Nat) := [("a", 0), ("b", 0), ("f", 1), ("g", 2), ("h", 1), ("k", 2), ("p", 3), ("c", 0)]
def ct__law_some_symbols : Ct := { α := Nat, args := fun m => [.strm, .d (.int m)], pre := fun m => 1 ≤ m ∧ m ≤ 6, post := fun _ r => ∃ ks : List (Str × Nat), r = .n (.lst (symDs ks)) ∧ (∀ k ∈ ks, PyData.strOk k.1 = true ∧ k.2 ≤ 3) ∧ ks ≠ [] ∧ ks.length ≤ 8 ∧ (∀ k ∈ ks, k ∈ rows0) ∧ ∃ k ∈ ks, k.2 = 0, exc := fun _ _ => False }
theorem sl (n : Nat) (h : n ≤ 1000000) : n ≤ sizeLine := by rw [sizeLine_eq]; omega
theorem sl' (n : Nat) (h : n ≤ 1000000) : n < sizeLine := by rw [sizeLine_eq]; omega
end PL

namespace PL
open PySem PySem.Spec PyProof.Rows L2
def ds_is_variable  : DS := (dRet (dIsi isStr (dVar 0)))
def ds_inner  : DS := (dRet (dIf (tdT (dCall (ct_is_variable) (aCons (dVar 0) aNil))) (dTup aNil) (dOp fIx (dVar 0) (dC (.int 1)))))
def ds_parts  : DS := (dSeq (dSet 1 (dLst aNil))
    (dSeq (dSet 2 (dLst (aCons (dVar 0) aNil)))
    (dSeq (dWhile (tdT (dVar 2)) (dSeq (dPop 2 (dgName 3))
    (dSeq (dApp 1 (dVar 3))
    (dExt 2 (dRev (dCall (ct_inner) (aCons (dVar 3) aNil)))))))
    (dRetV 1))))
def ds_size  : DS := (dRet (dCB fLen (aCons (dCall (ct_parts) (aCons (dVar 0) aNil)) aNil)))
def ds_depth  : DS := (dSeq (dSet 1 (dLst (aCons (dVar 0) aNil)))
    (dSeq (dSet 2 (dC (.int 0)))
    (dSeq (dWhile (tdT (dVar 1)) (dSeq (dAugI 2 (fun x y => x + y) (dC (.int 1)))
    (dSeq (dSet 3 (dLst aNil))
    (dSeq (dFor (iVar 1) (dgName 4) (dExt 3 (dCall (ct_inner) (aCons (dVar 4) aNil))))
    (dAlias 1 3)))))
    (dRet (dVar 2)))))
def ds_positions  : DS := (dSeq (dSet 1 (dLst aNil))
    (dSeq (dSet 2 (dLst (aCons (dTup (aCons (dTup aNil) (aCons (dVar 0) aNil))) aNil)))
    (dSeq (dWhile (tdT (dVar 2)) (dSeq (dPop 2 (dgTup 2 (dgCons (dgName 3) (dgCons (dgName 4) dgNil))))
    (dSeq (dApp 1 (dVar 3))
    (dSeq (dSet 5 (dCall (ct_inner) (aCons (dVar 4) aNil)))
    (dFor (iR3 (aCons (dOp (fI0 fun i j => .int (i - j)) (dCB fLen (aCons (dVar 5) aNil)) (dC (.int 1))) (aCons (dNeg (dC (.int 1))) (aCons (dNeg (dC (.int 1))) aNil)))) (dgName 6) (dApp 2 (dTup (aCons (dOp fAdd (dVar 3) (dTup (aCons (dVar 6) aNil))) (aCons (dOp fIx (dVar 5) (dVar 6)) aNil)))))))))
    (dRetV 1))))
def ds_at (c_StepError : Addr) : DS := (dSeq (dFor (iTp (dVar 1)) (dgName 2) (dSeq (dSet 3 (dCall (ct_inner) (aCons (dVar 0) aNil)))
    (dSeq (dIfS (tdNot (tdB (dChain fLe fLt (dC (.int 0)) (dVar 2) (dCB fLen (aCons (dVar 3) aNil))))) (dRaise c_StepError) dNext)
    (dSet 0 (dOp fIx (dVar 3) (dVar 2))))))
    (dRet (dVar 0)))
def ds_put (c_StepError : Addr) : DS := (dSeq (dSet 3 (dLst aNil))
    (dSeq (dFor (iTp (dVar 1)) (dgName 4) (dSeq (dSet 5 (dCall (ct_inner) (aCons (dVar 0) aNil)))
    (dSeq (dIfS (tdNot (tdB (dChain fLe fLt (dC (.int 0)) (dVar 4) (dCB fLen (aCons (dVar 5) aNil))))) (dRaise c_StepError) dNext)
    (dSeq (dApp 3 (dTup (aCons (dVar 0) (aCons (dVar 4) aNil))))
    (dSet 0 (dOp fIx (dVar 5) (dVar 4)))))))
    (dSeq (dFor (iNew (dRev (dVar 3))) (dgTup 2 (dgCons (dgName 6) (dgCons (dgName 4) dgNil))) (dSet 2 (dTup (aCons (dOp fIx (dVar 6) (dC (.int 0))) (aCons (dOp fAdd (dOp fAdd (dSl (dOp fIx (dVar 6) (dC (.int 1))) oNone (oSome (dVar 4))) (dTup (aCons (dVar 2) aNil))) (dSl (dOp fIx (dVar 6) (dC (.int 1))) (oSome (dOp fAdd (dVar 4) (dC (.int 1)))) oNone)) aNil)))))
    (dSeq (dDrop (dCallX (ct_need_small) (aCons (dCall (ct_size) (aCons (dVar 2) aNil)) (aCons (dCall (ct_depth) (aCons (dVar 2) aNil)) aNil))))
    (dRet (dVar 2))))))
def ds_need_small (c_LimitError : Addr) : DS := (dIfS (tdOr (tdB (dOp fGt (dVar 0) (dC (.int 400)))) (tdB (dOp fGt (dVar 1) (dC (.int 40))))) (dRaise c_LimitError) dNext)
def ds_variables  : DS := (dRet (dCB fTupD (aCons (dDc (iNew (dCall (ct_parts) (aCons (dVar 0) aNil))) (dgName 1) (tdT (dCall (ct_is_variable) (aCons (dVar 1) aNil))) (dVar 1) (dC (.bl true)) [1]) aNil)))
def ds_symbols  : DS := (dRet (dCB fTupD (aCons (dDcT (iNew (dCall (ct_parts) (aCons (dVar 0) aNil))) (dgName 1) (tdNot (tdT (dCall (ct_is_variable) (aCons (dVar 1) aNil)))) (aCons (dOp fIx (dVar 1) (dC (.int 0))) (aCons (dCB fLen (aCons (dOp fIx (dVar 1) (dC (.int 1))) aNil)) aNil)) (dC (.bl true)) [1]) aNil)))
def ds__law_pick  : DS := (dRet (dOp fIx (dVar 1) (dCall (ctDraw) (aCons (dVar 0) (aCons (dCB fLen (aCons (dVar 1) aNil)) aNil)))))
def ds__law_size (n : Nat) : DS := (dRet (dIf (tdT (dIsi isStr (dVar 0))) (dC (.int 1)) (dOp fAdd (dC (.int 1)) (dCB fSum (aCons (dLc (iTp (dOp fIx (dVar 0) (dC (.int 1)))) (dgName 1) tdYes (dCall (ct__law_size n) (aCons (dVar 1) aNil)) [1]) aNil)))))
def ds__law_depth (n : Nat) : DS := (dSeq (dIfS (tdOr (tdT (dIsi isStr (dVar 0))) (tdNot (tdT (dOp fIx (dVar 0) (dC (.int 1)))))) (dRet (dC (.int 1))) dNext)
    (dRet (dOp fAdd (dC (.int 1)) (dCB fMaxL (aCons (dLc (iTp (dOp fIx (dVar 0) (dC (.int 1)))) (dgName 1) tdYes (dCall (ct__law_depth n) (aCons (dVar 1) aNil)) [1]) aNil)))))
def ds__law_places (n : Nat) : DS := (dSeq (dSet 1 (dLst (aCons (dTup aNil) aNil)))
    (dSeq (dIfS (tdNot (tdT (dIsi isStr (dVar 0)))) (dFor (iR1 (aCons (dCB fLen (aCons (dOp fIx (dVar 0) (dC (.int 1))) aNil)) aNil)) (dgName 2) (dExt 1 (dLc (iNew (dCall (ct__law_places n) (aCons (dOp fIx (dOp fIx (dVar 0) (dC (.int 1))) (dVar 2)) aNil))) (dgName 3) tdYes (dOp fAdd (dTup (aCons (dVar 2) aNil)) (dVar 3)) [3]))) dNext)
    (dRetV 1)))
def ds__law_at  : DS := (dSeq (dFor (iTp (dVar 1)) (dgName 2) (dSeq (dIfS (tdOr (tdT (dIsi isStr (dVar 0))) (tdOr (tdB (dOp fLt (dVar 2) (dC (.int 0)))) (tdB (dOp fGe (dVar 2) (dCB fLen (aCons (dOp fIx (dVar 0) (dC (.int 1))) aNil)))))) (dRet (dC .non)) dNext)
    (dSet 0 (dOp fIx (dOp fIx (dVar 0) (dC (.int 1))) (dVar 2)))))
    (dRet (dVar 0)))
def ds__law_put (n : Nat) : DS := (dSeq (dIfS (tdNot (tdT (dVar 1))) (dRet (dVar 2)) dNext)
    (dSeq (dSet 3 (dOp fIx (dVar 1) (dC (.int 0))))
    (dRet (dTup (aCons (dOp fIx (dVar 0) (dC (.int 0))) (aCons (dOp fAdd (dOp fAdd (dSl (dOp fIx (dVar 0) (dC (.int 1))) oNone (oSome (dVar 3))) (dTup (aCons (dCall (ct__law_put n) (aCons (dOp fIx (dOp fIx (dVar 0) (dC (.int 1))) (dVar 3)) (aCons (dSl (dVar 1) (oSome (dC (.int 1))) oNone) (aCons (dVar 2) aNil)))) aNil))) (dSl (dOp fIx (dVar 0) (dC (.int 1))) (oSome (dOp fAdd (dVar 3) (dC (.int 1)))) oNone)) aNil))))))
def ds__law_variables (n : Nat) : DS := (dSeq (dIfS (tdT (dIsi isStr (dVar 0))) (dRet (dLst (aCons (dVar 0) aNil))) dNext)
    (dSeq (dSet 1 (dLst aNil))
    (dSeq (dFor (iTp (dOp fIx (dVar 0) (dC (.int 1)))) (dgName 2) (dExt 1 (dLc (iNew (dCall (ct__law_variables n) (aCons (dVar 2) aNil))) (dgName 3) (tdB (dOp fNotIn (dVar 3) (dVar 1))) (dVar 3) [3])))
    (dRetV 1))))
def ds__law_symbols (n : Nat) : DS := (dSeq (dIfS (tdT (dIsi isStr (dVar 0))) (dRet (dLst aNil)) dNext)
    (dSeq (dSet 1 (dLst (aCons (dTup (aCons (dOp fIx (dVar 0) (dC (.int 0))) (aCons (dCB fLen (aCons (dOp fIx (dVar 0) (dC (.int 1))) aNil)) aNil))) aNil)))
    (dSeq (dFor (iTp (dOp fIx (dVar 0) (dC (.int 1)))) (dgName 2) (dExt 1 (dLc (iNew (dCall (ct__law_symbols n) (aCons (dVar 2) aNil))) (dgName 3) (tdB (dOp fNotIn (dVar 3) (dVar 1))) (dVar 3) [3])))
    (dRetV 1))))
def ds__law_term (n : Nat) : DS := (dSeq (dSet 5 (dLc (iVar 1) (dgName 13) (tdOr (tdB (dOp fEq (dOp fIx (dVar 13) (dC (.int 1))) (dC (.int 0)))) (tdAnd (tdB (dOp fGt (dVar 3) (dOp fIx (dVar 13) (dC (.int 1))))) (tdB (dOp fGt (dVar 4) (dC (.int 1)))))) (dVar 13) [13]))
    (dSeq (dIfS (tdAnd (tdT (dVar 2)) (tdOr (tdNot (tdT (dVar 5))) (tdOr (tdB (dOp fLe (dVar 3) (dC (.int 1)))) (tdB (dOp fEq (dCall (ctDraw) (aCons (dVar 0) (aCons (dC (.int 4)) aNil))) (dC (.int 0))))))) (dRet (dCall (ct__law_pick) (aCons (dVar 0) (aCons (dVar 2) aNil)))) dNext)
    (dSeq (dIfS (tdOr (tdB (dOp fLe (dVar 3) (dC (.int 1)))) (tdOr (tdB (dOp fLe (dVar 4) (dC (.int 1)))) (tdB (dOp fEq (dCall (ctDraw) (aCons (dVar 0) (aCons (dC (.int 4)) aNil))) (dC (.int 0)))))) (dSeq (dSet 6 (dLc (iVar 5) (dgName 13) (tdB (dOp fEq (dOp fIx (dVar 13) (dC (.int 1))) (dC (.int 0)))) (dVar 13) [13]))
    (dIfS (tdT (dVar 6)) (dAlias 5 6) dNext)) dNext)
    (dSeq (dIfS (tdNot (tdT (dVar 5))) (dRet (dC (.str "x"))) dNext)
    (dSeq (dUnp (dCall (ct__law_pick) (aCons (dVar 0) (aCons (dVar 5) aNil))) (dgTup 2 (dgCons (dgName 7) (dgCons (dgName 8) dgNil))))
    (dSeq (dSet 9 (dOp (fI0 fun i j => .int (i - j)) (dVar 3) (dC (.int 1))))
    (dSeq (dSet 10 (dLst aNil))
    (dSeq (dFor (iR1 (aCons (dVar 8) aNil)) (dgName 11) (dSeq (dSet 12 (dCall (ct__law_term n) (aCons (dVar 0) (aCons (dVar 1) (aCons (dVar 2) (aCons (dIf (tdB (dOp fEq (dVar 11) (dOp (fI0 fun i j => .int (i - j)) (dVar 8) (dC (.int 1))))) (dCB fMax2 (aCons (dC (.int 1)) (aCons (dOp (fI0 fun i j => .int (i - j)) (dVar 9) (dOp (fI0 fun i j => .int (i - j)) (dOp (fI0 fun i j => .int (i - j)) (dVar 8) (dC (.int 1))) (dVar 11))) aNil))) (dOp fAdd (dC (.int 1)) (dCall (ctDraw) (aCons (dVar 0) (aCons (dCB fMax2 (aCons (dC (.int 1)) (aCons (dOp (fI0 fun i j => .int (i - j)) (dVar 9) (dOp (fI0 fun i j => .int (i - j)) (dOp (fI0 fun i j => .int (i - j)) (dVar 8) (dC (.int 1))) (dVar 11))) aNil))) aNil))))) (aCons (dOp (fI0 fun i j => .int (i - j)) (dVar 4) (dC (.int 1))) aNil)))))))
    (dSeq (dApp 10 (dVar 12))
    (dSet 9 (dOp (fI0 fun i j => .int (i - j)) (dVar 9) (dCall (ct__law_size 40) (aCons (dVar 12) aNil)))))))
    (dRet (dTup (aCons (dVar 7) (aCons (dCB fTuple (aCons (dVar 10) aNil)) aNil))))))))))))
def ds__law_some_symbols  : DS := (dSeq (dSet 2 (dLst (aCons (dTup (aCons (dC (.str "a")) (aCons (dC (.int 0)) aNil))) (aCons (dTup (aCons (dC (.str "b")) (aCons (dC (.int 0)) aNil))) (aCons (dTup (aCons (dC (.str "f")) (aCons (dC (.int 1)) aNil))) (aCons (dTup (aCons (dC (.str "g")) (aCons (dC (.int 2)) aNil))) (aCons (dTup (aCons (dC (.str "h")) (aCons (dC (.int 1)) aNil))) (aCons (dTup (aCons (dC (.str "k")) (aCons (dC (.int 2)) aNil))) (aCons (dTup (aCons (dC (.str "p")) (aCons (dC (.int 3)) aNil))) (aCons (dTup (aCons (dC (.str "c")) (aCons (dC (.int 0)) aNil))) aNil))))))))))
    (dSeq (dSetPop 3 2 (dCall (ctDraw) (aCons (dVar 0) (aCons (dC (.int 2)) aNil))))
    (dSeq (dFor (iR1 (aCons (dCall (ctDraw) (aCons (dVar 0) (aCons (dVar 1) aNil))) aNil)) (dgName 4) (dAppPop 3 2 (dCall (ctDraw) (aCons (dVar 0) (aCons (dCB fLen (aCons (dVar 2) aNil)) aNil)))))
    (dRetV 3))))
def ds_law (K : PySem.W.Frag) (c_StepError : Addr) : DS := (dSeq (dSet 2 (dCall (ct__law_some_symbols) (aCons (dVar 1) (aCons (dC (.int 6)) aNil))))
    (dSeq (dSet 3 (dCall (ct__law_term 40) (aCons (dVar 1) (aCons (dVar 2) (aCons (dLst (aCons (dC (.str "x")) (aCons (dC (.str "y")) (aCons (dC (.str "z1")) (aCons (dC (.str "u")) aNil))))) (aCons (dOp fAdd (dC (.int 1)) (dCall (ctDraw) (aCons (dVar 1) (aCons (dC (.int 30)) aNil)))) (aCons (dC (.int 7)) aNil)))))))
    (dSeq (dSet 4 (dCall (ct__law_term 40) (aCons (dVar 1) (aCons (dVar 2) (aCons (dLst (aCons (dC (.str "x")) (aCons (dC (.str "w")) aNil))) (aCons (dOp fAdd (dC (.int 1)) (dCall (ctDraw) (aCons (dVar 1) (aCons (dC (.int 6)) aNil)))) (aCons (dC (.int 4)) aNil)))))))
    (dSeq (dSet 5 (dCall (ct__law_places 40) (aCons (dVar 3) aNil)))
    (dSeq (dIfS (tdOr (tdB (dOp fNe (dCall (ct_size) (aCons (dVar 3) aNil)) (dCall (ct__law_size 40) (aCons (dVar 3) aNil)))) (tdOr (tdB (dOp fNe (dCall (ct_depth) (aCons (dVar 3) aNil)) (dCall (ct__law_depth 40) (aCons (dVar 3) aNil)))) (tdB (dOp fNe (dCall (ct_positions) (aCons (dVar 3) aNil)) (dVar 5))))) (dRet (dC (.bl false))) dNext)
    (dSeq (dIfS (tdOr (tdB (dOp fNe (dCall (ct_variables) (aCons (dVar 3) aNil)) (dCB fTuple (aCons (dCall (ct__law_variables 40) (aCons (dVar 3) aNil)) aNil)))) (tdB (dOp fNe (dCall (ct_symbols) (aCons (dVar 3) aNil)) (dCB fTuple (aCons (dCall (ct__law_symbols 40) (aCons (dVar 3) aNil)) aNil))))) (dRet (dC (.bl false))) dNext)
    (dSeq (dFor (iVar 5) (dgName 6) (dIfS (tdOr (tdB (dOp fNe (dCallX (ct_at c_StepError) (aCons (dVar 3) (aCons (dVar 6) aNil))) (dCall (ct__law_at) (aCons (dVar 3) (aCons (dVar 6) aNil))))) (tdB (dOp fNe (dCallX (ct_put c_StepError) (aCons (dVar 3) (aCons (dVar 6) (aCons (dVar 4) aNil)))) (dCall (ct__law_put 40) (aCons (dVar 3) (aCons (dVar 6) (aCons (dVar 4) aNil))))))) (dRet (dC (.bl false))) dNext))
    (dSeq (dSet 6 (dCall (ct__law_pick) (aCons (dVar 1) (aCons (dVar 5) aNil))))
    (dSeq (dSet 7 (dCallX (ct_put c_StepError) (aCons (dVar 3) (aCons (dVar 6) (aCons (dVar 4) aNil)))))
    (dSeq (dFor (iVar 5) (dgName 8) (dIfS (tdAnd (tdB (dOp fNe (dSl (dVar 8) oNone (oSome (dCB fLen (aCons (dVar 6) aNil)))) (dVar 6))) (tdAnd (tdB (dOp fNe (dSl (dVar 6) oNone (oSome (dCB fLen (aCons (dVar 8) aNil)))) (dVar 8))) (tdB (dOp fNe (dCallX (ct_at c_StepError) (aCons (dVar 7) (aCons (dVar 8) aNil))) (dCallX (ct_at c_StepError) (aCons (dVar 3) (aCons (dVar 8) aNil))))))) (dRet (dC (.bl false))) dNext))
    (dSeq (dIfS (tdOr (tdB (dOp fNe (dCallX (ct_at c_StepError) (aCons (dVar 7) (aCons (dVar 6) aNil))) (dVar 4))) (tdB (dOp fNe (dCall (ct_size) (aCons (dVar 7) aNil)) (dOp fAdd (dOp (fI0 fun i j => .int (i - j)) (dCall (ct_size) (aCons (dVar 3) aNil)) (dCall (ct_size) (aCons (dCallX (ct_at c_StepError) (aCons (dVar 3) (aCons (dVar 6) aNil))) aNil))) (dCall (ct_size) (aCons (dVar 4) aNil)))))) (dRet (dC (.bl false))) dNext)
    (dSeq (dFor (iNew (dLst (aCons (dOp fAdd (dVar 6) (dTup (aCons (dCall (ctDraw) (aCons (dVar 1) (aCons (dC (.int 5)) aNil))) aNil))) (aCons (dOp fAdd (dSl (dVar 6) oNone (oSome (dNeg (dC (.int 1))))) (dTup (aCons (dOp (fI0 fun i j => .int (i - j)) (dCall (ctDraw) (aCons (dVar 1) (aCons (dC (.int 7)) aNil))) (dC (.int 3))) aNil))) (aCons (dCB fTuple (aCons (dLc (iR1 (aCons (dCall (ctDraw) (aCons (dVar 1) (aCons (dC (.int 5)) aNil))) aNil)) (dgName 11) tdYes (dCall (ctDraw) (aCons (dVar 1) (aCons (dC (.int 4)) aNil))) [11]) aNil)) aNil))))) (dgName 9) (dSeq (dIfS (tdB (dOp fIn (dVar 9) (dVar 5))) dCont dNext)
    (dSeq (dSet 10 (dC (.int 0)))
    (dSeq (dTry K c_StepError (dDrop (dCallX (ct_at c_StepError) (aCons (dVar 3) (aCons (dVar 9) aNil)))) (dSet 10 (dOp fAdd (dVar 10) (dC (.int 1)))))
    (dSeq (dTry K c_StepError (dDrop (dCallX (ct_put c_StepError) (aCons (dVar 3) (aCons (dVar 9) (aCons (dVar 4) aNil))))) (dSet 10 (dOp fAdd (dVar 10) (dC (.int 1)))))
    (dIfS (tdB (dOp fNe (dVar 10) (dC (.int 2)))) (dRet (dC (.bl false))) dNext))))))
    (dRet (dC (.bl true)))))))))))))))
end PL

namespace PL
open PySem PySem.Spec PyProof.Rows L2
theorem rd_is_variable (t : Tm) : ds_is_variable (endsOf (ct_is_variable.post t) noE) (slots [.d t.d] 1) := by
  cases t with
  | var x => exact rfl
  | app g ts => exact rfl
theorem rd_inner (t : Tm) : ds_inner (endsOf (ct_inner.post t) noE) (slots [.d t.d] 1) := by
  refine ⟨t, rfl, trivial, fun r e => ?_, fun _ h => h⟩
  subst e
  cases t with
  | var x => exact ⟨Nat.zero_le _, rfl⟩
  | app g ts => exact rfl
theorem split_last {α : Type} : ∀ l : List α, l = [] ∨ ∃ a x, l = a ++ [x]
  | [] => .inl rfl
  | x :: r => by
    rcases split_last r with e | ⟨a, y, e⟩
    · subst e; exact .inr ⟨[], x, rfl⟩
    · subst e; exact .inr ⟨x :: a, y, rfl⟩
theorem rd_parts (t : Tm) (h : t.size ≤ 10000) : ds_parts (endsOf (ct_parts.post t) noE) (slots [.d t.d] 4) := by
  refine ⟨Nat.zero_le _, sl 1 (by omega), ?_⟩
  refine ⟨fun m ρ => ∃ (found left : List Tm) (x : A), ρ = [.d t.d, .o (.lst (Tm.ds found)), .o (.lst (Tm.ds left)), x] ∧ found ++ Tm.partss left.reverse = t.parts ∧ m = Tm.sizes left, ⟨_, [], [t], .any, rfl, by simp [Tm.partss], rfl⟩, ?_⟩
  rintro m ρ ⟨found, left, x, rfl, e, rfl⟩
  have hl := congrArg List.length e
  rw [List.length_append, Tm.parts_length, Tm.partss_length, Tm.sizes_reverse] at hl
  rcases split_last left with z | ⟨a, y, z⟩
  · subst z
    show _ = _
    rw [List.reverse_nil, Tm.partss, List.append_nil] at e
    rw [e]
  · subst z
    rw [Tm.sizes_append, Tm.sizes, Tm.sizes] at hl
    have hy := Tm.size_args y
    refine ite2 (fun _ => ?_) (fun h => absurd (by rw [Tm.ds_append]; simp [Tm.ds]) h)
    refine ⟨Tm.ds a, y.d, by rw [Tm.ds_append]; rfl, sl' _ (by rw [Tm.ds_length]; omega), y, rfl, trivial, fun r er => ?_, fun _ h => h⟩
    subst er
    have h3 := Tm.sizes_length a
    have h4 := Tm.sizes_length y.args
    refine ⟨sl _ (by rw [List.length_reverse, Tm.ds_length, Tm.ds_length]; omega), Tm.sizes (a ++ y.args.reverse), ?_, found ++ [y], a ++ y.args.reverse, .d y.d, ?_, ?_, rfl⟩
    · rw [Tm.sizes_append, Tm.sizes_append, Tm.sizes_reverse, Tm.sizes, Tm.sizes]
      omega
    · simp only [Tm.ds_append, Tm.ds_reverse]
      rfl
    · rw [List.reverse_append, List.reverse_reverse, Tm.partss_append, ← e, List.reverse_append, List.reverse_singleton, List.singleton_append, Tm.partss, Tm.parts_args y]
      simp [List.append_assoc]
theorem rd_size (t : Tm) (h : t.size ≤ 10000) : ds_size (endsOf (ct_size.post t) noE) (slots [.d t.d] 1) := by
  refine ⟨t, rfl, h, fun r e => ?_, fun _ h => h⟩
  subst e
  show _ = _
  rw [Tm.ds_length, Tm.parts_length]
theorem rd_need_small (c : Addr) (y : Int × Int) (h : y.1 ≤ 400 ∧ y.2 ≤ 40) : ds_need_small c (endsOf (ct_need_small.post y) (ct_need_small.exc y)) (slots [.d (.int y.1), .d (.int y.2)] 2) := by
  refine ite2 (fun e => ?_) (fun _ => ?_)
  · have := of_decide_eq_true e
    omega
  · refine ite2 (fun e => ?_) (fun _ => ?_)
    · have := of_decide_eq_true e
      omega
    · exact rfl
end PL

namespace PL
open PySem PySem.Spec PyProof.Rows L2
namespace Tm
theorem depths_level : ∀ l : List Tm, l ≠ [] → depths l = 1 + depths (l.flatMap args)
  | [t], _ => by simp [depths, depth_args t]
  | t :: u :: r, _ => by
    have ih := depths_level (u :: r) (by simp)
    have e : (t :: u :: r).flatMap args = t.args ++ (u :: r).flatMap args := List.flatMap_cons
    rw [depths, ih, e, depths_append, depth_args t]
    omega
theorem sizes_level : ∀ l : List Tm, sizes l = l.length + sizes (l.flatMap args)
  | [] => rfl
  | t :: r => by
    rw [sizes, sizes_level r, List.flatMap_cons, sizes_append, size_args t, List.length_cons]
    omega
end Tm
theorem rd_depth (t : Tm) (h : t.size ≤ 10000) : ds_depth (endsOf (ct_depth.post t) noE) (slots [.d t.d] 5) := by
  refine ⟨sl 1 (by omega), ?_⟩
  refine ⟨fun m ρ => ∃ (level : List Tm) (c : Int) (y : A), ρ = [.d t.d, .o (.lst (Tm.ds level)), .d (.int c), .any, y] ∧ c + (Tm.depths level : Nat) = t.depth ∧ m = Tm.sizes level ∧ m ≤ t.size, ⟨_, [t], 0, .any, rfl, by simp [Tm.depths], rfl, by simp [Tm.sizes]⟩, ?_⟩
  rintro m ρ ⟨level, c, y, rfl, e, rfl, hm⟩
  cases hlv : level with
  | nil =>
    subst hlv
    show _ = _
    rw [Tm.depths] at e
    rw [show c = (t.depth : Int) by omega]
  | cons u0 r0 =>
    rw [← hlv]
    have hne : level ≠ [] := by rw [hlv]; simp
    have hl := Tm.sizes_length level
    have hs := Tm.sizes_level level
    have hlen : 1 ≤ level.length := by rw [hlv, List.length_cons]; omega
    refine ite2 (fun _ => ?_) (fun z => absurd (by rw [hlv]; rfl) z)
    refine ⟨Nat.zero_le _, ?_⟩
    refine ⟨fun i ρ => ∃ y, ρ = [.d t.d, .f (.lst (Tm.ds level)), .d (.int (c + 1)), .o (.lst (Tm.ds ((level.take i).flatMap Tm.args))), y], ⟨_, rfl⟩, ?_, ?_⟩
    · rintro i x ρ' hx ⟨y, rfl⟩
      obtain ⟨u, hu, rfl⟩ := Tm.ds_inj_get hx
      have ht : level.take (i + 1) = level.take i ++ [u] := by rw [List.take_add_one, hu]; rfl
      have h1 : ((level.take (i + 1)).flatMap Tm.args).length ≤ 10000 := by
        have z := Tm.sizes_length ((level.take (i + 1)).flatMap Tm.args)
        have z2 := Tm.sizes_level (level.take (i + 1))
        have z3 : Tm.sizes level = Tm.sizes (level.take (i + 1)) + Tm.sizes (level.drop (i + 1)) := by rw [← Tm.sizes_append, List.take_append_drop]
        omega
      rw [ht, List.flatMap_append, List.length_append, List.flatMap_singleton] at h1
      refine ⟨u, rfl, trivial, fun r er => ?_, fun _ h => h⟩
      subst er
      refine ⟨sl _ (by rw [Tm.ds_length, Tm.ds_length]; omega), .d u.d, ?_⟩
      rw [ht, List.flatMap_append, List.flatMap_singleton, Tm.ds_append]
      rfl
    · rintro ρ' ⟨y, rfl⟩
      rw [Tm.ds_length, List.take_length]
      refine .inl ⟨_, ?_, level.flatMap Tm.args, c + 1, y, rfl, ?_, rfl, ?_⟩
      · omega
      · have := Tm.depths_level level hne; omega
      · omega

/-! positions -/
def prD (x : List Int × Tm) : D := .tup [intsD x.1, x.2.d]
def PA (l : List (List Int × Tm)) : List D := l.flatMap fun x => x.2.places.map fun q => intsD (x.1 ++ Tm.plI q)
def chs (p : List Int) : Nat → List Tm → List (List Int × Tm)
  | _, [] => []
  | k, t :: r => (p ++ [(k : Int)], t) :: chs p (k + 1) r
theorem chs_length (p : List Int) : ∀ (k : Nat) (ts : List Tm), (chs p k ts).length = ts.length
  | _, [] => rfl
  | k, t :: r => by rw [chs, List.length_cons, List.length_cons, chs_length p (k + 1) r]
theorem chs_get (p : List Int) : ∀ (k : Nat) (ts : List Tm) (i : Nat) (t : Tm), ts[i]? = some t → (chs p k ts)[i]? = some (p ++ [((k + i : Nat) : Int)], t)
  | k, [], i, t, h => by simp at h
  | k, x :: r, 0, t, h => by simp at h; subst h; rfl
  | k, x :: r, i + 1, t, h => by
    rw [chs, List.getElem?_cons_succ, chs_get p (k + 1) r i t (by simpa using h), show k + 1 + i = k + (i + 1) by omega]
theorem PA_chs (p : List Int) : ∀ (k : Nat) (ts : List Tm), PA (chs p k ts) = (Tm.placess k ts).map fun q => intsD (p ++ Tm.plI q)
  | _, [] => rfl
  | k, t :: r => by
    rw [chs, Tm.placess, List.map_append, ← PA_chs p (k + 1) r]
    show List.map _ _ ++ PA _ = _
    congr 1
    rw [List.map_map]
    refine List.map_congr_left fun q _ => ?_
    show intsD (p ++ [(k : Int)] ++ Tm.plI q) = intsD (p ++ ((k : Int) :: Tm.plI q))
    rw [List.append_assoc]
    rfl
theorem PA_append (a b : List (List Int × Tm)) : PA (a ++ b) = PA a ++ PA b := List.flatMap_append
theorem PA_one (p : List Int) (u : Tm) : PA [(p, u)] = intsD p :: PA (chs p 0 u.args) := by
  rw [PA_chs]
  show List.flatMap _ [_] = _
  rw [List.flatMap_singleton]
  show u.places.map _ = _
  rw [Tm.places_args, List.map_cons]
  congr 1
  show intsD (p ++ []) = _
  rw [List.append_nil]
def wt (l : List (List Int × Tm)) : Nat := Tm.sizes (l.map (·.2))
theorem wt_append (a b : List (List Int × Tm)) : wt (a ++ b) = wt a + wt b := by unfold wt; rw [List.map_append, Tm.sizes_append]
theorem chs_snd (p : List Int) : ∀ (k : Nat) (ts : List Tm), (chs p k ts).map (·.2) = ts
  | _, [] => rfl
  | k, t :: r => by rw [chs, List.map_cons, chs_snd p (k + 1) r]
theorem chs_fst (p : List Int) : ∀ (k : Nat) (ts : List Tm) (x : List Int × Tm), x ∈ chs p k ts → x.1.length = p.length + 1 ∧ x.2 ∈ ts
  | _, [], x, h => by cases h
  | k, t :: r, x, h => by
    rw [chs] at h
    rcases List.mem_cons.mp h with e | h
    · subst e; exact ⟨by simp, List.mem_cons_self⟩
    · have := chs_fst p (k + 1) r x h; exact ⟨this.1, List.mem_cons_of_mem _ this.2⟩
theorem PA_length (l : List (List Int × Tm)) : (PA l).length = wt l := by
  induction l with
  | nil => rfl
  | cons x r ih =>
    show (List.map _ _ ++ PA r).length = Tm.sizes (x.2 :: r.map (·.2))
    rw [List.length_append, List.length_map, Tm.places_length, ih, Tm.sizes]
    rfl
theorem drop_get {α : Type} {l : List α} {i : Nat} {x : α} (h : l[i]? = some x) : l.drop i = x :: l.drop (i + 1) := by
  have hlt : i < l.length := by
    rcases Nat.lt_or_ge i l.length with z | z
    · exact z
    · rw [List.getElem?_eq_none z] at h; cases h
  rw [List.drop_eq_getElem_cons hlt]
  rw [List.getElem?_eq_getElem hlt] at h
  cases h
  rfl
theorem atI_get {α : Type} {l : List α} {i : Nat} {x : α} (h : l[i]? = some x) : atI l (i : Int) = some x := atI_nat h
theorem rd_positions (t : Tm) (h : t.size ≤ 10000) : ds_positions (endsOf (ct_positions.post t) noE) (slots [.d t.d] 7) := by
  refine ⟨Nat.zero_le _, sl 0 (by omega), sl 2 (by omega), sl 1 (by omega), ?_⟩
  refine ⟨fun m ρ => ∃ (found : List D) (left : List (List Int × Tm)) (x3 x4 x5 x6 : A), ρ = [.d t.d, .o (.lst found), .o (.lst (left.map prD)), x3, x4, x5, x6] ∧ found ++ PA left.reverse = t.places.map plD ∧ m = wt left ∧ ∀ x ∈ left, x.1.length + x.2.size ≤ t.size,
    ⟨_, [], [([], t)], .any, .any, .any, .any, rfl, ?_, rfl, fun x hx => by simp at hx; subst hx; simp⟩, ?_⟩
  · show [] ++ List.flatMap _ [_] = _
    rw [List.nil_append, List.flatMap_singleton]
    refine List.map_congr_left fun q _ => ?_
    rw [plD_eq]
    rfl
  rintro m ρ ⟨found, left, x3, x4, x5, x6, rfl, e, rfl, hb⟩
  have hl := congrArg List.length e
  rw [List.length_append, List.length_map, Tm.places_length, PA_length] at hl
  rcases split_last left with z | ⟨a, y, z⟩
  · subst z
    show _ = _
    rw [List.reverse_nil] at e
    have e : found ++ [] = _ := e
    rw [List.append_nil] at e
    rw [e]
  · subst z
    obtain ⟨p, u⟩ := y
    have hwr : ∀ l : List (List Int × Tm), wt l.reverse = wt l := fun l => by unfold wt; rw [List.map_reverse, Tm.sizes_reverse]
    rw [hwr, wt_append] at hl
    have hu1 : wt [(p, u)] = u.size := by show Tm.sizes [u] = _; rw [Tm.sizes, Tm.sizes]; omega
    rw [hu1] at hl
    have hpu := hb (p, u) (by simp)
    have hpu : p.length + u.size ≤ t.size := hpu
    have hua := Tm.size_args u
    have hul := Tm.sizes_length u.args
    have hal : a.length ≤ wt a := by have := Tm.sizes_length (a.map (·.2)); rw [List.length_map] at this; exact this
    refine ite2 (fun _ => ?_) (fun h => absurd (by rw [List.map_append]; simp) h)
    refine ⟨a.map prD, prD (p, u), by rw [List.map_append]; rfl, rfl, sl' _ (by omega), u, rfl, trivial, fun r er => ?_, fun _ h => h⟩
    subst er
    -- the children, from the last to the first
    show (-1 : Int) = -1 ∧ _ ∧ _
    have hul2 : ((Tm.ds u.args).length : Int) = u.args.length := by rw [Tm.ds_length]
    refine ⟨rfl, ⟨by show -(2 ^ 62) ≤ ((Tm.ds u.args).length : Int) - 1; omega, by show ((Tm.ds u.args).length : Int) - 1 < 2 ^ 62; omega, by omega, by omega⟩, ?_⟩
    have hn : ((((Tm.ds u.args).length : Int) - 1) - -1).toNat = u.args.length := by omega
    refine ⟨fun i ρ => ∃ x6, ρ = [.d t.d, .o (.lst (found ++ [intsD p])), .o (.lst ((a ++ ((chs p 0 u.args).drop (u.args.length - i)).reverse).map prD)), .d (intsD p), .d u.d, .d (.tup (Tm.ds u.args)), x6], ⟨x6, ?_⟩, ?_, ?_⟩
    · rw [Nat.sub_zero, ← chs_length p 0 u.args, List.drop_length, List.reverse_nil, List.append_nil]
      rfl
    · rintro i x ρ' hx ⟨y6, rfl⟩
      unfold rngDown at hx
      rw [List.getElem?_map] at hx
      rw [hn] at hx
      have hi : i < u.args.length := by
        rcases Nat.lt_or_ge i u.args.length with z | z
        · exact z
        · rw [List.getElem?_eq_none (by rw [List.length_range]; exact z)] at hx; cases hx
      rw [List.getElem?_range hi] at hx
      cases hx
      obtain ⟨k, hk⟩ : ∃ k, u.args.length - i = k + 1 := ⟨u.args.length - i - 1, by omega⟩
      have hki : ((Tm.ds u.args).length : Int) - 1 + (i : Int) * (-1) = (k : Int) := by omega
      have hkl : k < u.args.length := by omega
      have hg : u.args[k]? = some u.args[k] := List.getElem?_eq_getElem hkl
      have hgd : (Tm.ds u.args)[k]? = some u.args[k].d := by rw [Tm.ds_get, hg]; rfl
      have hc := chs_get p 0 u.args k _ hg
      rw [Nat.zero_add] at hc
      show dgName 6 (D.int (((Tm.ds u.args).length : Int) - 1 + (i : Int) * (-1))) _ _
      rw [hki]
      refine ⟨sl 1 (by omega), by rw [List.length_map, List.length_singleton]; exact sl _ (by omega), ?_⟩
      show match atI (Tm.ds u.args) (k : Int) with | some z => _ | none => False
      rw [atI_get hgd]
      refine ⟨sl 2 (by omega), sl' _ ?_, .d (.int k), ?_⟩
      · rw [List.length_map, List.length_append, List.length_reverse, List.length_drop, chs_length]
        omega
      · rw [show u.args.length - (i + 1) = k by omega, hk, drop_get hc]
        show _ = [_, _, _, _, _, _, _]
        rw [List.reverse_cons, ← List.append_assoc, List.map_append (l₂ := [_]), List.map_singleton]
        have e1 : prD (p ++ [(k : Int)], u.args[k]) = .tup [.tup (p.map D.int ++ [.int k]), u.args[k].d] := by
          unfold prD intsD
          rw [List.map_append]
          rfl
        rw [e1]
        rfl
    · rintro ρ' ⟨y6, rfl⟩
      have hlen : (rngDown (((Tm.ds u.args).length : Int) - 1) ((((Tm.ds u.args).length : Int) - 1) - -1).toNat).length = u.args.length := by
        unfold rngDown
        rw [List.length_map, List.length_range, hn]
      show ∃ m', m' < _ ∧ _
      refine ⟨wt (a ++ (chs p 0 u.args).reverse), ?_, found ++ [intsD p], a ++ (chs p 0 u.args).reverse, .d (intsD p), .d u.d, .d (.tup (Tm.ds u.args)), y6, ?_, ?_, rfl, ?_⟩
      · rw [wt_append, hwr, wt_append, hu1]
        unfold wt
        rw [chs_snd]
        omega
      · rw [hlen, Nat.sub_self, List.drop_zero]
      · rw [List.reverse_append, List.reverse_reverse, PA_append, ← e, List.reverse_append, List.reverse_singleton, PA_append, PA_one]
        simp [List.append_assoc]
      · intro x hx
        rcases List.mem_append.mp hx with hx | hx
        · exact hb x (List.mem_append_left _ hx)
        · have z := chs_fst p 0 u.args x (List.mem_reverse.mp hx)
          have z2 := Tm.size_le_of_mem z.2
          omega
end PL

namespace PL
open PySem PySem.Spec PyProof.Rows L2
theorem dChain_ll {da db dc : DE} {ρ : List A} {P : R → Prop} {E : RX} (i j k : Int) (ha : ∀ Q : R → Prop, Q (.d (.int i)) → da ρ Q E) (hb : ∀ Q : R → Prop, Q (.d (.int j)) → db ρ Q E) (hc : ∀ Q : R → Prop, Q (.d (.int k)) → dc ρ Q E)
    (h1 : i ≤ j → j < k → P (.d (.bl true))) (h2 : ¬ (i ≤ j ∧ j < k) → P (.d (.bl false))) : dChain fLe fLt da db dc ρ P E := by
  refine ha _ (hb _ ?_)
  show (match (R.d (.bl (decide (i ≤ j)))) with | .d (.bl true) => _ | .d (.bl false) => _ | _ => False)
  by_cases h : i ≤ j
  · rw [decide_eq_true h]
    refine hc _ ?_
    show P (.d (.bl (decide (j < k))))
    by_cases h' : j < k
    · rw [decide_eq_true h']; exact h1 h h'
    · rw [decide_eq_false h']; exact h2 fun z => h' z.2
  · rw [decide_eq_false h]
    exact h2 fun z => h z.1
theorem ints_get {p : List Int} {i : Nat} {x : D} (h : (p.map D.int)[i]? = some x) : ∃ k, p[i]? = some k ∧ x = .int k := by
  rw [List.getElem?_map] at h
  cases z : p[i]? with
  | none => rw [z] at h; cases h
  | some k => rw [z] at h; cases h; exact ⟨k, rfl, rfl⟩
theorem take_split {α : Type} {p : List α} {i : Nat} {k : α} (h : p[i]? = some k) : p = p.take i ++ k :: p.drop (i + 1) := by
  rw [← drop_get h, List.take_append_drop]
theorem take_snoc {α : Type} {p : List α} {i : Nat} {k : α} (h : p[i]? = some k) : p.take (i + 1) = p.take i ++ [k] := by rw [List.take_add_one, h]; rfl
theorem rd_at (c : Addr) (y : Tm × List Int) (h : y.1.size ≤ 10000) : ds_at c (endsOf ((ct_at c).post y) ((ct_at c).exc y)) (slots [.d y.1.d, .d (intsD y.2)] 4) := by
  obtain ⟨t, p⟩ := y
  refine ⟨fun i ρ => ∃ u x2 x3, Tm.at? (p.take i) t = some u ∧ ρ = [.d u.d, .d (intsD p), x2, x3], ⟨t, .any, .any, rfl, rfl⟩, ?_, ?_⟩
  · rintro i x ρ' hx ⟨u, x2, x3, hu, rfl⟩
    obtain ⟨k, hk, rfl⟩ := ints_get hx
    have hk : p[i]? = some k := hk
    refine ⟨u, rfl, trivial, fun r er => ?_, fun _ h => h⟩
    subst er
    have hl : ((Tm.ds u.args).length : Int) = u.args.length := by rw [Tm.ds_length]
    dsimp only [dSeq, dIfS, tdNot, tdB]
    refine dChain_ll (da := dC (.int 0)) (db := dVar 2) (dc := dCB fLen (aCons (dVar 3) aNil)) 0 k (Tm.ds u.args).length ?_ ?_ ?_ (fun h0 h1 => ?_) (fun hn => ?_)
    · exact fun _ h => h
    · exact fun _ h => h
    · exact fun _ h => h
    · have hlt : k.toNat < u.args.length := by omega
      have hg : u.args[k.toNat]? = some u.args[k.toNat] := List.getElem?_eq_getElem hlt
      have hgd : (Tm.ds u.args)[k.toNat]? = some u.args[k.toNat].d := by rw [Tm.ds_get, hg]; rfl
      show match atI (Tm.ds u.args) k with | some z => _ | none => False
      rw [show k = ((k.toNat : Nat) : Int) by omega, atI_get hgd]
      refine ⟨u.args[k.toNat], .d (.int k), .d (.tup (Tm.ds u.args)), ?_, ?_⟩
      · rw [take_snoc hk]
        exact Tm.at?_snoc _ _ _ _ _ hu h0 hg
      · rw [show ((k.toNat : Nat) : Int) = k by omega]
        rfl
    · show c = c ∧ Tm.at? p t = none
      refine ⟨rfl, ?_⟩
      rw [take_split hk]
      exact Tm.at?_stop _ _ _ _ _ hu fun z => hn ⟨z.1, by omega⟩
  · rintro ρ' ⟨u, x2, x3, hu, rfl⟩
    rw [List.length_map, List.take_length] at hu
    exact ⟨u, hu, rfl⟩

/-! put -/
def up : List (Tm × Int) → Tm → Tm
  | [], s => s
  | (u, k) :: w, s => Tm.rep u k.toNat (up w s)
theorem up_snoc (u : Tm) (k : Int) (s : Tm) : ∀ w : List (Tm × Int), up (w ++ [(u, k)]) s = up w (Tm.rep u k.toNat s)
  | [] => rfl
  | (v, j) :: w => by rw [List.cons_append, up, up, up_snoc u k s w]
def wayD (w : List (Tm × Int)) : List D := w.map fun x => .tup [x.1.d, .int x.2]
theorem cut_take {α : Type} (xs : List α) (k : Nat) : cut xs none (some (k : Int)) = xs.take k := by
  unfold cut
  rw [HT.sIx_none, HT.sIx_nat, List.drop_zero, Nat.sub_zero]
  rcases Nat.le_total k xs.length with h | h
  · rw [Nat.min_eq_left h]
  · rw [Nat.min_eq_right h, List.take_length, List.take_of_length_le h]
theorem cut_drop {α : Type} (xs : List α) (k : Nat) : cut xs (some (k : Int)) none = xs.drop k := by
  unfold cut
  rw [HT.sIx_none, HT.sIx_nat]
  rcases Nat.le_total k xs.length with h | h
  · rw [Nat.min_eq_left h, List.take_of_length_le (by rw [List.length_drop]; omega)]
  · rw [Nat.min_eq_right h, List.drop_eq_nil_of_le h, List.drop_length, List.take_nil]
theorem set_cut {α : Type} : ∀ (xs : List α) (k : Nat) (x : α), k < xs.length → xs.set k x = xs.take k ++ [x] ++ xs.drop (k + 1)
  | y :: r, 0, x, _ => by simp
  | y :: r, k + 1, x, h => by
    rw [List.set_cons_succ, set_cut r k x (by simpa using h)]
    simp
theorem rep_d {f : Str} {ts : List Tm} {k : Nat} {s : Tm} (h : k < ts.length) : (Tm.rep (.app f ts) k s).d = .tup [.str f, .tup ((Tm.ds ts).take k ++ [s.d] ++ (Tm.ds ts).drop (k + 1))] := by
  show (Tm.app f (ts.set k s)).d = _
  rw [Tm.d, Tm.ds_map, Tm.ds_map, set_cut _ _ _ h, List.map_append, List.map_append, List.map_take, List.map_drop]
  rfl
theorem rd_put (c : Addr) (y : Tm × List Int × Tm) (h : (ct_put c).pre y) : ds_put c (endsOf ((ct_put c).post y) ((ct_put c).exc y)) (slots [.d y.1.d, .d (intsD y.2.1), .d y.2.2.d] 7) := by
  obtain ⟨t, p, s⟩ := y
  obtain ⟨hsz, hdp, hpl⟩ : t.size + s.size ≤ 400 ∧ t.depth + s.depth ≤ 40 ∧ p.length ≤ 1000 := h
  refine ⟨Nat.zero_le _, ?_⟩
  refine ⟨fun i ρ => ∃ u w x4 x5, Tm.at? (p.take i) t = some u ∧ (∀ s, Tm.put? (p.take i) t s = some (up w s)) ∧ w.length = i ∧ (∀ x ∈ w, 0 ≤ x.2 ∧ x.2.toNat < x.1.args.length ∧ x.1.args.length ≤ 400) ∧ ρ = [.d u.d, .d (intsD p), .d s.d, .o (.lst (wayD w)), x4, x5, .any],
    ⟨t, [], .any, .any, rfl, fun _ => rfl, rfl, (fun _ z => by cases z), rfl⟩, ?_, ?_⟩
  · rintro i x ρ' hx ⟨u, w, x4, x5, hu, hp, hw, hok, rfl⟩
    obtain ⟨k, hk, rfl⟩ := ints_get hx
    have hk : p[i]? = some k := hk
    have hilt : i < p.length := by
      rcases Nat.lt_or_ge i p.length with z | z
      · exact z
      · rw [List.getElem?_eq_none z] at hk; cases hk
    refine ⟨u, rfl, trivial, fun r er => ?_, fun _ h => h⟩
    subst er
    have hl : ((Tm.ds u.args).length : Int) = u.args.length := by rw [Tm.ds_length]
    dsimp only [dSeq, dIfS, tdNot, tdB]
    refine dChain_ll (da := dC (.int 0)) (db := dVar 4) (dc := dCB fLen (aCons (dVar 5) aNil)) 0 k (Tm.ds u.args).length ?_ ?_ ?_ (fun h0 h1 => ?_) (fun hn => ?_)
    · exact fun _ h => h
    · exact fun _ h => h
    · exact fun _ h => h
    · have hlt : k.toNat < u.args.length := by omega
      have hg : u.args[k.toNat]? = some u.args[k.toNat] := List.getElem?_eq_getElem hlt
      have hgd : (Tm.ds u.args)[k.toNat]? = some u.args[k.toNat].d := by rw [Tm.ds_get, hg]; rfl
      have hus := (Tm.at?_size _ _ _ hu).1
      have hua := Tm.size_args u
      have hul := Tm.sizes_length u.args
      refine ⟨sl 2 (by omega), sl' _ (by unfold wayD; rw [List.length_map]; omega), ?_⟩
      show match atI (Tm.ds u.args) k with | some z => _ | none => False
      rw [show atI (Tm.ds u.args) k = some u.args[k.toNat].d from (congrArg (atI (Tm.ds u.args)) (show k = ((k.toNat : Nat) : Int) by omega)).trans (atI_get hgd)]
      refine ⟨u.args[k.toNat], w ++ [(u, k)], .d (.int k), .d (.tup (Tm.ds u.args)), ?_, fun s' => ?_, ?_, ?_, ?_⟩
      · rw [take_snoc hk]
        exact Tm.at?_snoc _ _ _ _ _ hu h0 hg
      · rw [take_snoc hk, Tm.put?_snoc _ _ _ _ _ _ hu h0 hg, hp, up_snoc]
      · rw [List.length_append, hw]; rfl
      · intro x hx
        rcases List.mem_append.mp hx with hx | hx
        · exact hok x hx
        · rw [List.mem_singleton] at hx; subst hx; exact ⟨h0, hlt, by show u.args.length ≤ 400; omega⟩
      · unfold wayD
        rw [List.map_append]
        rfl
    · show c = c ∧ Tm.at? p t = none
      refine ⟨rfl, ?_⟩
      rw [take_split hk]
      exact Tm.at?_stop _ _ _ _ _ hu fun z => hn ⟨z.1, by omega⟩
  · rintro ρ' ⟨u, w, x4, x5, hu, hp, hw, hok, rfl⟩
    rw [List.length_map, List.take_length] at hu
    rw [List.length_map] at hw
    have hp : ∀ s, Tm.put? p t s = some (up w s) := fun s => by have := hp s; rw [List.length_map, List.take_length] at this; exact this
    obtain ⟨m, hm, _, hms, hmd, _⟩ := Tm.put?_at p t u s hu
    rw [hp s] at hm
    cases hm
    have hup := Tm.size_pos u
    refine ⟨fun j ρ => ∃ x4 x6, ρ = [.d u.d, .d (intsD p), .d (up (w.drop (w.length - j)) s).d, .o (.lst (wayD w)), x4, x5, x6], ⟨x4, .any, ?_⟩, ?_, ?_⟩
    · rw [Nat.sub_zero, List.drop_length]
      rfl
    · rintro j x ρ' hx ⟨x4, x6, rfl⟩
      have hj : j < w.length := by
        rcases Nat.lt_or_ge j w.length with z | z
        · exact z
        · rw [List.getElem?_eq_none (by rw [List.length_reverse]; unfold wayD; rw [List.length_map]; exact z)] at hx; cases hx
      obtain ⟨q, hq⟩ : ∃ q, w.length - j = q + 1 := ⟨w.length - j - 1, by omega⟩
      have hql : q < w.length := by omega
      have hwq : w[q]? = some w[q] := List.getElem?_eq_getElem hql
      have hx2 : x = .tup [w[q].1.d, .int w[q].2] := by
        unfold wayD at hx
        rw [← List.map_reverse, List.getElem?_map, List.getElem?_reverse hj, show w.length - 1 - j = q by omega, hwq] at hx
        cases hx
        rfl
      subst hx2
      obtain ⟨k0, k1, k2⟩ := hok w[q] (List.getElem_mem hql)
      cases hv : w[q].1 with
      | var x => rw [hv] at k1; exact absurd k1 (by simp [Tm.args])
      | app f ts =>
        rw [hv] at k1 k2
        have k1 : w[q].2.toNat < ts.length := k1
        have k2 : ts.length ≤ 400 := k2
        refine ⟨rfl, ?_⟩
        rw [Tm.d]
        obtain ⟨kk, hkk⟩ : ∃ kk : Nat, w[q].2 = (kk : Int) := ⟨w[q].2.toNat, by omega⟩
        rw [hkk] at k1 ⊢
        have k1 : kk < ts.length := k1
        have e1 : (cut (Tm.ds ts) none (some (kk : Int))) = (Tm.ds ts).take kk := cut_take _ _
        have e2 : (cut (Tm.ds ts) (some ((kk : Int) + 1)) none) = (Tm.ds ts).drop (kk + 1) := cut_drop _ (kk + 1)
        show ([(up (w.drop (w.length - j)) s).d] : List D).length ≤ sizeLine ∧ _ ≤ sizeLine ∧ _
        refine ⟨sl 1 (by omega), ?_⟩
        refine ⟨sl _ ?_, ?_⟩
        · rw [e1, List.length_take, Tm.ds_length, List.length_singleton]; omega
        refine ⟨sl _ ?_, sl 2 (by omega), .d (.int kk), .d (.tup [.str f, .tup (Tm.ds ts)]), ?_⟩
        · rw [e1, e2, List.length_append, List.length_take, List.length_drop, Tm.ds_length, List.length_singleton]; omega
        · rw [show w.length - (j + 1) = q by omega, drop_get hwq]
          have e3 : (up (w[q] :: w.drop (q + 1)) s).d = .tup [.str f, .tup ((Tm.ds ts).take kk ++ [(up (w.drop (w.length - j)) s).d] ++ (Tm.ds ts).drop (kk + 1))] := by
            have e4 : w[q] = (.app f ts, (kk : Int)) := Prod.ext hv hkk
            rw [e4, up, hq]
            exact rep_d k1
          rw [e3, ← e1, ← e2]
          rfl
    · rintro ρ' ⟨x4, x6, rfl⟩
      have e0 : up (w.drop (w.length - (wayD w).reverse.length)) s = up w s := by
        unfold wayD
        rw [List.length_reverse, List.length_map, Nat.sub_self, List.drop_zero]
      rw [e0]
      refine ⟨up w s, rfl, by show (up w s).size ≤ 10000; omega, fun r er => ?_, fun _ h => h⟩
      subst er
      refine ⟨up w s, rfl, by show (up w s).size ≤ 10000; omega, fun r er => ?_, fun _ h => h⟩
      subst er
      refine ⟨(((up w s).size : Int), ((up w s).depth : Int)), rfl, ⟨by show ((up w s).size : Int) ≤ 400; omega, by show ((up w s).depth : Int) ≤ 40; omega⟩, fun r er => ?_, fun _ h => h.elim⟩
      exact ⟨up w s, hp s, rfl⟩
end PL

namespace PL
open PySem PySem.Spec PyProof.Rows L2
section
variable {κ : Type} [DecidableEq κ]
theorem putD_keys (kvs : List (κ × D)) (k : κ) (v : D) : (putD kvs k v).map (·.1) = addNew (kvs.map (·.1)) k := by
  unfold putD addNew
  by_cases h : k ∈ kvs.map (·.1)
  · have e : (kvs.any fun kv => decide (kv.1 = k)) = true := by
      rw [List.any_eq_true]
      obtain ⟨p, hp, e⟩ := List.mem_map.mp h
      exact ⟨p, hp, decide_eq_true e⟩
    rw [if_pos e, if_pos h, List.map_map]
    refine List.map_congr_left fun p _ => ?_
    show (if p.1 = k then (p.1, v) else p).1 = p.1
    split <;> rfl
  · have e : ¬ (kvs.any fun kv => decide (kv.1 = k)) = true := by
      rw [List.any_eq_true]
      rintro ⟨p, hp, e⟩
      exact h (List.mem_map.mpr ⟨p, hp, of_decide_eq_true e⟩)
    rw [if_neg e, if_neg h, List.map_append]
    rfl
theorem addNew_map {α : Type} [DecidableEq α] {f : α → κ} (hf : ∀ a b, f a = f b → a = b) (l : List α) (x : α) : addNew (l.map f) (f x) = (addNew l x).map f := by
  unfold addNew
  by_cases h : x ∈ l
  · rw [if_pos h, if_pos (List.mem_map.mpr ⟨x, h, rfl⟩)]
  · have h' : ¬ f x ∈ l.map f := fun z => by
      obtain ⟨y, hy, e⟩ := List.mem_map.mp z
      exact h (hf _ _ e ▸ hy)
    rw [if_neg h, if_neg h', List.map_append]
    rfl
theorem fa_snoc {α : Type} [DecidableEq α] (acc l : List α) (x : α) : fa acc (l ++ [x]) = addNew (fa acc l) x := by
  rw [fa_append]
  rfl
end
theorem rd_variables (t : Tm) (h : t.size ≤ 10000) : ds_variables (endsOf (ct_variables.post t) noE) (slots [.d t.d] 2) := by
  refine ⟨t, rfl, h, fun r er => ?_, fun _ h => h⟩
  subst er
  refine ⟨fun i acc => acc.map (·.1) = (fa [] ((t.parts.take i).filterMap Tm.vname)).map (fun x => (Sum.inr x : Key)), rfl, ?_, ?_⟩
  · rintro i x acc hx hI
    obtain ⟨u, hu, rfl⟩ := Tm.ds_inj_get hx
    have hlen : acc.length ≤ 10000 := by
      have e := congrArg List.length hI
      rw [List.length_map, List.length_map] at e
      have e1 := fa_length ((t.parts.take i).filterMap Tm.vname) []
      have e2 := List.length_filterMap_le Tm.vname (t.parts.take i)
      have e3 : (t.parts.take i).length ≤ t.parts.length := by rw [List.length_take]; omega
      rw [Tm.parts_length] at e3
      simp at e1
      omega
    refine ⟨u, rfl, trivial, fun r er => ?_, fun _ h => h⟩
    subst er
    cases u with
    | var x =>
      refine ⟨sl' _ (by omega), ?_⟩
      show (putD acc (Sum.inr x) _).map (·.1) = _
      rw [putD_keys, hI, take_snoc hu, List.filterMap_append]
      show addNew _ _ = (fa [] (_ ++ [x])).map _
      rw [fa_snoc]
      exact addNew_map (fun a b e => by cases e; rfl) _ x
    | app f ts =>
      show acc.map (·.1) = _
      rw [hI, take_snoc hu, List.filterMap_append]
      show _ = (fa [] (_ ++ [])).map _
      rw [List.append_nil]
  · intro acc hI
    show R.d (.tup (acc.map fun p => keyD p.1)) = .d (.tup (strDs t.vars))
    have hI : acc.map (·.1) = (fa [] ((t.parts.take (Tm.ds t.parts).length).filterMap Tm.vname)).map (fun x => (Sum.inr x : Key)) := hI
    rw [Tm.ds_length, List.take_length] at hI
    have e : (acc.map fun p => keyD p.1) = (acc.map (·.1)).map keyD := by rw [List.map_map]; rfl
    rw [e, hI, List.map_map]
    rfl
def keyS (p : Str × Nat) : List Key := [Sum.inr p.1, Sum.inl (p.2 : Int)]
theorem keyS_inj (a b : Str × Nat) (e : keyS a = keyS b) : a = b := by
  obtain ⟨a1, a2⟩ := a
  obtain ⟨b1, b2⟩ := b
  unfold keyS at e
  simp at e
  obtain ⟨e1, e2⟩ := e
  rw [e1, show a2 = b2 by omega]
theorem rd_symbols (t : Tm) (h : t.size ≤ 10000) : ds_symbols (endsOf (ct_symbols.post t) noE) (slots [.d t.d] 2) := by
  refine ⟨t, rfl, h, fun r er => ?_, fun _ h => h⟩
  subst er
  refine ⟨fun i acc => acc.map (·.1) = (fa [] ((t.parts.take i).filterMap Tm.sname)).map keyS, rfl, ?_, ?_⟩
  · rintro i x acc hx hI
    obtain ⟨u, hu, rfl⟩ := Tm.ds_inj_get hx
    have hlen : acc.length ≤ 10000 := by
      have e := congrArg List.length hI
      rw [List.length_map, List.length_map] at e
      have e1 := fa_length ((t.parts.take i).filterMap Tm.sname) []
      have e2 := List.length_filterMap_le Tm.sname (t.parts.take i)
      have e3 : (t.parts.take i).length ≤ t.parts.length := by rw [List.length_take]; omega
      rw [Tm.parts_length] at e3
      simp at e1
      omega
    refine ⟨u, rfl, trivial, fun r er => ?_, fun _ h => h⟩
    subst er
    cases u with
    | var x =>
      show acc.map (·.1) = _
      rw [hI, take_snoc hu, List.filterMap_append]
      show _ = (fa [] (_ ++ [])).map _
      rw [List.append_nil]
    | app f ts =>
      refine ⟨sl 2 (by omega), sl' _ (by omega), ?_⟩
      show (putD acc [Sum.inr f, Sum.inl ((Tm.ds ts).length : Int)] _).map (·.1) = _
      rw [putD_keys, hI, take_snoc hu, List.filterMap_append, Tm.ds_length]
      show addNew _ (keyS (f, ts.length)) = (fa [] (_ ++ [(f, ts.length)])).map _
      rw [fa_snoc]
      exact addNew_map keyS_inj _ (f, ts.length)
  · intro acc hI
    show R.d (.tup (acc.map fun p => .tup (p.1.map keyD))) = .d (.tup (symDs t.syms))
    have hI : acc.map (·.1) = (fa [] ((t.parts.take (Tm.ds t.parts).length).filterMap Tm.sname)).map keyS := hI
    rw [Tm.ds_length, List.take_length] at hI
    have e : (acc.map fun p => D.tup (p.1.map keyD)) = (acc.map (·.1)).map fun k => D.tup (k.map keyD) := by rw [List.map_map]; rfl
    rw [e, hI, List.map_map]
    rfl

/-! ### the law's own helpers -/
theorem rd__law_pick (rows : List D) (h : ct__law_pick.pre rows) : ds__law_pick (endsOf (ct__law_pick.post rows) noE) (slots [.strm, .b (.lst rows)] 2) := by
  obtain ⟨hne, hl⟩ := h
  have h1 : 1 ≤ rows.length := by cases rows with | nil => exact absurd rfl hne | cons _ _ => rw [List.length_cons]; omega
  refine ⟨(rows.length : Int), rfl, ⟨by omega, by omega⟩, fun r hr => ?_, fun _ h => h⟩
  obtain ⟨k, k0, k1, rfl⟩ := hr
  have hlt : k.toNat < rows.length := by omega
  show match atI rows k with | some z => _ | none => False
  rw [show atI rows k = some rows[k.toNat] from (congrArg (atI rows) (show k = ((k.toNat : Nat) : Int) by omega)).trans (atI_get (List.getElem?_eq_getElem hlt))]
  exact ⟨_, List.getElem_mem hlt, rfl⟩
theorem ints_sum (l : List Tm) (f : Tm → Nat) : intsOf (l.map fun t => D.int (f t)) = some (l.map fun t => ((f t : Nat) : Int)) := by
  have e : (l.map fun t => D.int (f t)) = (l.map fun t => ((f t : Nat) : Int)).map D.int := by rw [List.map_map]; rfl
  rw [e]
  exact intsOf_map _
theorem sum_sizes : ∀ l : List Tm, (l.map fun t => ((t.size : Nat) : Int)).sum = (Tm.sizes l : Nat)
  | [] => rfl
  | t :: r => by rw [List.map_cons, List.sum_cons, sum_sizes r, Tm.sizes]; omega
theorem rd__law_size (n : Nat) (t : Tm) (h : (ct__law_size (n + 1)).pre t) : ds__law_size n (endsOf ((ct__law_size (n + 1)).post t) noE) (slots [.d t.d] 2) := by
  obtain ⟨h1, h2⟩ : t.depth ≤ n + 1 ∧ t.size ≤ 10000 := h
  cases t with
  | var x => exact rfl
  | app f ts =>
    rw [Tm.depth] at h1
    rw [Tm.size] at h2
    have hl := Tm.sizes_length ts
    refine ⟨fun i acc => acc = (ts.take i).map fun t => D.int t.size, rfl, ?_, ?_⟩
    · rintro i x acc hx rfl
      obtain ⟨u, hu, rfl⟩ := Tm.ds_inj_get hx
      have m := Tm.mem_of_get hu
      have m1 := Tm.size_le_of_mem m
      have m2 := Tm.depth_le_of_mem m
      refine ⟨u, rfl, ⟨by omega, by omega⟩, fun r er => ?_, fun _ h => h⟩
      subst er
      refine ⟨sl' _ (by rw [List.length_map, List.length_take]; omega), ?_⟩
      show _ = (ts.take (i + 1)).map _
      rw [take_snoc hu, List.map_append]
      rfl
    · rintro acc rfl
      rw [show (Tm.ds ts).length = ts.length from Tm.ds_length ts, List.take_length]
      show match (some (ts.map fun t => D.int t.size)).bind intsOf with | some ns => _ | none => False
      rw [Option.bind_some, ints_sum]
      show R.d (.int (1 + (ts.map fun t => ((t.size : Nat) : Int)).sum)) = .d (.int ((Tm.app f ts).size : Nat))
      rw [sum_sizes, Tm.size]
      rfl
theorem max_depths : ∀ (l : List Tm) (m : Int), m ∈ l.map (fun t => ((t.depth : Nat) : Int)) → (∀ y, y ∈ l.map (fun t => ((t.depth : Nat) : Int)) → y ≤ m) → m = (Tm.depths l : Nat) := by
  intro l m hm hy
  have h1 : m ≤ (Tm.depths l : Nat) := by
    obtain ⟨t, ht, e⟩ := List.mem_map.mp hm
    have := Tm.depth_le_of_mem ht
    omega
  have h2 : ∀ l : List Tm, (∀ y, y ∈ l.map (fun t => ((t.depth : Nat) : Int)) → y ≤ m) → 0 ≤ m → (Tm.depths l : Nat) ≤ m := by
    intro l
    induction l with
    | nil => intro _ h; rw [Tm.depths]; exact h
    | cons x r ih =>
      intro h h0
      rw [Tm.depths]
      have a1 : ((x.depth : Nat) : Int) ≤ m := h _ (List.mem_cons_self)
      have a2 := ih (fun y hy => h y (List.mem_cons_of_mem _ hy)) h0
      omega
  have h0 : 0 ≤ m := by
    obtain ⟨t, ht, e⟩ := List.mem_map.mp hm
    omega
  have := h2 l hy h0
  omega
theorem rd__law_depth (n : Nat) (t : Tm) (h : (ct__law_depth (n + 1)).pre t) : ds__law_depth n (endsOf ((ct__law_depth (n + 1)).post t) noE) (slots [.d t.d] 2) := by
  obtain ⟨h1, h2⟩ : t.depth ≤ n + 1 ∧ t.size ≤ 10000 := h
  cases t with
  | var x => exact rfl
  | app f ts =>
    cases ts with
    | nil => exact rfl
    | cons t0 r0 =>
      generalize hts : t0 :: r0 = ts at *
      have hlen : 0 < ts.length := by rw [← hts, List.length_cons]; omega
      have hte : (Tm.ds ts).isEmpty = false := by rw [← hts]; rfl
      rw [Tm.depth] at h1
      rw [Tm.size] at h2
      have hl := Tm.sizes_length ts
      show (if (!(!(Tm.ds ts).isEmpty)) = true then _ else _)
      rw [if_neg (by rw [hte]; decide)]
      refine ⟨fun i acc => acc = (ts.take i).map fun t => D.int t.depth, rfl, ?_, ?_⟩
      · rintro i x acc hx rfl
        obtain ⟨u, hu, rfl⟩ := Tm.ds_inj_get hx
        have m := Tm.mem_of_get hu
        have m1 := Tm.size_le_of_mem m
        have m2 := Tm.depth_le_of_mem m
        refine ⟨u, rfl, ⟨by omega, by omega⟩, fun r er => ?_, fun _ h => h⟩
        subst er
        refine ⟨sl' _ (by rw [List.length_map, List.length_take]; omega), ?_⟩
        show _ = (ts.take (i + 1)).map _
        rw [take_snoc hu, List.map_append]
        rfl
      · rintro acc rfl
        rw [show (Tm.ds ts).length = ts.length from Tm.ds_length ts, List.take_length]
        show match (some (ts.map fun t => D.int t.depth)).bind intsOf with | some ns => _ | none => False
        rw [Option.bind_some, ints_sum]
        refine ⟨by rw [List.length_map]; exact hlen, fun m hm hy => ?_⟩
        show R.d (.int (1 + m)) = .d (.int ((Tm.app f ts).depth : Nat))
        rw [max_depths ts m hm hy, Tm.depth]
        rfl
end PL

namespace PL
open PySem PySem.Spec PyProof.Rows L2
namespace Tm
mutual
theorem places_len : ∀ (t : Tm) (p : List Nat), p ∈ t.places → p.length + 1 ≤ t.depth
  | .var x, p, h => by
    rw [places, List.mem_singleton] at h
    subst h
    exact Nat.le_refl 1
  | .app f ts, p, h => by
    rw [places, List.mem_cons] at h
    rw [depth]
    rcases h with h | h
    · subst h; simp
    · have := placess_len ts 0 p h; omega
theorem placess_len : ∀ (ts : List Tm) (k : Nat) (p : List Nat), p ∈ placess k ts → p.length ≤ depths ts
  | [], k, p, h => by rw [placess] at h; cases h
  | t :: r, k, p, h => by
    rw [placess, List.mem_append, List.mem_map] at h
    rw [depths]
    rcases h with ⟨q, h1, h2⟩ | h
    · have := places_len t q h1
      subst h2
      rw [List.length_cons]
      omega
    · have := placess_len r (k + 1) p h
      omega
end
theorem placess_snoc (u : Tm) : ∀ (l : List Tm) (k : Nat), placess k (l ++ [u]) = placess k l ++ u.places.map ((k + l.length) :: ·)
  | [], k => by
    rw [List.nil_append, placess, placess, placess, List.nil_append, List.append_nil]
    rfl
  | t :: r, k => by
    rw [List.cons_append, placess, placess, placess_snoc u r (k + 1), List.append_assoc, List.length_cons, show k + 1 + r.length = k + (r.length + 1) by omega]
mutual
theorem parts_ok : ∀ (t u : Tm), t.ok = true → u ∈ t.parts → u.ok = true
  | .var x, u, h, m => by rw [parts, List.mem_singleton] at m; subst m; exact h
  | .app f ts, u, h, m => by
    rw [parts, List.mem_cons] at m
    rcases m with m | m
    · subst m; exact h
    · exact partss_ok ts u (by rw [ok, Bool.and_eq_true] at h; exact h.2) m
theorem partss_ok : ∀ (ts : List Tm) (u : Tm), oks ts = true → u ∈ partss ts → u.ok = true
  | [], u, _, m => by rw [partss] at m; cases m
  | t :: r, u, h, m => by
    rw [oks, Bool.and_eq_true] at h
    rw [partss, List.mem_append] at m
    rcases m with m | m
    · exact parts_ok t u h.1 m
    · exact partss_ok r u h.2 m
end
theorem vars_ok {t : Tm} (h : t.ok = true) : ∀ x ∈ t.vars, PyData.strOk x = true := fun x hx => by
  rcases (mem_fa _ _ _).mp hx with hx | hx
  · cases hx
  · obtain ⟨u, hu, e⟩ := List.mem_filterMap.mp hx
    have := parts_ok t u h hu
    cases u with
    | var y => cases e; exact this
    | app f ts => cases e
theorem syms_ok {t : Tm} (h : t.ok = true) : ∀ x ∈ t.syms, PyData.strOk x.1 = true := fun x hx => by
  rcases (mem_fa _ _ _).mp hx with hx | hx
  · cases hx
  · obtain ⟨u, hu, e⟩ := List.mem_filterMap.mp hx
    have := parts_ok t u h hu
    cases u with
    | var y => cases e
    | app f ts => cases e; rw [ok, Bool.and_eq_true] at this; exact this.1
theorem depths_le {d : Nat} : ∀ {ts : List Tm}, (∀ t ∈ ts, t.depth ≤ d) → depths ts ≤ d
  | [], _ => Nat.zero_le _
  | t :: r, h => by
    have h1 := h t List.mem_cons_self
    have h2 := depths_le fun t m => h t (List.mem_cons_of_mem _ m)
    rw [depths]
    omega
theorem mem_more_vars {ts : List Tm} (h : ∀ t ∈ ts, t.ok = true) : ∀ x ∈ more vars [] ts, PyData.strOk x = true := by
  have e := vars_app ⟨#[]⟩ ts
  rw [← e]
  refine vars_ok ?_
  rw [ok, Bool.and_eq_true]
  exact ⟨by decide +kernel, oks_of h⟩
end Tm
theorem rng_get {n i : Nat} {x : D} (h : (rng 0 n)[i]? = some x) : i < n ∧ x = .int (i : Int) := by
  unfold rng at h
  rw [List.getElem?_map] at h
  have hi : i < n := by
    rcases Nat.lt_or_ge i n with z | z
    · exact z
    · rw [List.getElem?_eq_none (by rw [List.length_range]; exact z)] at h; cases h
  rw [List.getElem?_range hi] at h
  cases h
  exact ⟨hi, by show D.int (0 + (i : Int)) = _; rw [Int.zero_add]⟩
theorem rng_length (n : Nat) : (rng 0 n).length = n := by unfold rng; rw [List.length_map, List.length_range]
theorem map_get {α β : Type} {f : α → β} {l : List α} {i : Nat} {x : β} (h : (l.map f)[i]? = some x) : ∃ y, l[i]? = some y ∧ x = f y := by
  rw [List.getElem?_map] at h
  cases z : l[i]? with
  | none => rw [z] at h; cases h
  | some y => rw [z] at h; cases h; exact ⟨y, rfl, rfl⟩
theorem mem_get {α : Type} {l : List α} {i : Nat} {x : α} (h : l[i]? = some x) : x ∈ l := List.mem_of_getElem? h

theorem rd__law_places (n : Nat) (t : Tm) (h : (ct__law_places (n + 1)).pre t) : ds__law_places n (endsOf ((ct__law_places (n + 1)).post t) noE) (slots [.d t.d] 4) := by
  obtain ⟨h1, h2⟩ : t.depth ≤ n + 1 ∧ t.size ≤ 10000 := h
  refine ⟨sl 0 (by omega), sl 1 (by omega), ?_⟩
  cases t with
  | var x => exact rfl
  | app f ts =>
    rw [Tm.depth] at h1
    rw [Tm.size] at h2
    have hl := Tm.sizes_length ts
    have hdl : (Tm.ds ts).length = ts.length := Tm.ds_length ts
    refine ⟨by omega, by omega, ?_⟩
    refine ⟨fun i ρ => ∃ x2 x3, ρ = [.d (Tm.app f ts).d, .o (.lst (([] :: Tm.placess 0 (ts.take i)).map plD)), x2, x3], ⟨.any, .any, rfl⟩, ?_, ?_⟩
    · rintro i x ρ' hx ⟨x2, x3, rfl⟩
      obtain ⟨hi, rfl⟩ := rng_get hx
      have hi : i < ts.length := by omega
      have hg : ts[i]? = some ts[i] := List.getElem?_eq_getElem hi
      have hgd : (Tm.ds ts)[i]? = some ts[i].d := by rw [Tm.ds_get, hg]; rfl
      have m := Tm.mem_of_get hg
      have m1 := Tm.size_le_of_mem m
      have m2 := Tm.depth_le_of_mem m
      show match atI (Tm.ds ts) (i : Int) with | some z => _ | none => False
      rw [atI_get hgd]
      refine ⟨ts[i], rfl, ⟨by omega, by omega⟩, fun r er => ?_, fun _ h => h⟩
      subst er
      have hpl : (Tm.placess 0 (ts.take (i + 1))).length ≤ 10000 := by
        rw [Tm.placess_length]
        have z : Tm.sizes ts = Tm.sizes (ts.take (i + 1)) + Tm.sizes (ts.drop (i + 1)) := by rw [← Tm.sizes_append, List.take_append_drop]
        omega
      have hsn : Tm.placess 0 (ts.take (i + 1)) = Tm.placess 0 (ts.take i) ++ ts[i].places.map (i :: ·) := by
        rw [take_snoc hg, Tm.placess_snoc, Nat.zero_add, List.length_take, Nat.min_eq_left (by omega)]
      refine ⟨fun j acc => acc = (ts[i].places.take j).map fun q => plD (i :: q), rfl, ?_, ?_⟩
      · rintro j x acc hx rfl
        obtain ⟨q, hq, rfl⟩ := map_get hx
        have hql := Tm.places_len _ _ (mem_get hq)
        have hds := Tm.depth_le_size ts[i]
        refine ⟨sl 1 (by omega), ?_, sl' _ ?_, ?_⟩
        · rw [List.length_map]
          exact sl _ (by rw [List.length_singleton]; omega)
        · have := Tm.places_length ts[i]
          rw [List.length_map, List.length_take]
          omega
        · show _ = (ts[i].places.take (j + 1)).map _
          rw [take_snoc hq, List.map_append]
          rfl
      · rintro acc rfl
        rw [List.length_map, List.take_length]
        have e1 : (([] :: Tm.placess 0 (ts.take i)).map plD) ++ (ts[i].places.map fun q => plD (i :: q)) = ([] :: Tm.placess 0 (ts.take (i + 1))).map plD := by
          rw [hsn, List.map_cons, List.map_cons, List.map_append, List.map_map]
          rfl
        refine ⟨sl _ ?_, .d (.int (i : Int)), x3, ?_⟩
        · rw [← List.length_append, e1, List.length_map, List.length_cons]; omega
        · rw [← e1]; rfl
    · rintro ρ' ⟨x2, x3, rfl⟩
      rw [rng_length]
      show R.n (.lst _) = .n (.lst _)
      rw [show (((Tm.ds ts).length : Int)).toNat = ts.length by omega, List.take_length, Tm.places]
theorem rd__law_at (y : Tm × List Int) (h : y.1.size ≤ 10000) : ds__law_at (endsOf (ct__law_at.post y) noE) (slots [.d y.1.d, .d (intsD y.2)] 3) := by
  obtain ⟨t, p⟩ := y
  refine ⟨fun i ρ => ∃ u x2, Tm.at? (p.take i) t = some u ∧ ρ = [.d u.d, .d (intsD p), x2], ⟨t, .any, rfl, rfl⟩, ?_, ?_⟩
  · rintro i x ρ' hx ⟨u, x2, hu, rfl⟩
    obtain ⟨k, hk, rfl⟩ := ints_get hx
    have hk : p[i]? = some k := hk
    have hstop : ¬ (0 ≤ k ∧ k < u.args.length) → R.d D.non = .d (match Tm.at? p t with | some u => u.d | none => .non) := fun hn => by
      rw [take_split hk, Tm.at?_stop _ _ _ _ _ hu hn]
    cases u with
    | var x => exact hstop fun z => by have : (Tm.var x).args.length = 0 := rfl; omega
    | app f ts =>
      have hal : (Tm.app f ts).args.length = ts.length := rfl
      have hdl : (Tm.ds ts).length = ts.length := Tm.ds_length ts
      refine ite2 (fun e => ?_) (fun e1 => ite2 (fun e => ?_) (fun e2 => ?_))
      · have := of_decide_eq_true e
        exact hstop fun z => by omega
      · have := of_decide_eq_true e
        exact hstop fun z => by omega
      · have e1 : ¬ k < 0 := fun z => e1 (decide_eq_true z)
        have e2 : ¬ ((Tm.ds ts).length : Int) ≤ k := fun z => e2 (decide_eq_true z)
        have hlt : k.toNat < ts.length := by omega
        have hg : ts[k.toNat]? = some ts[k.toNat] := List.getElem?_eq_getElem hlt
        have hgd : (Tm.ds ts)[k.toNat]? = some ts[k.toNat].d := by rw [Tm.ds_get, hg]; rfl
        show match atI (Tm.ds ts) k with | some z => _ | none => False
        rw [show atI (Tm.ds ts) k = some ts[k.toNat].d from (congrArg (atI (Tm.ds ts)) (show k = ((k.toNat : Nat) : Int) by omega)).trans (atI_get hgd)]
        refine ⟨ts[k.toNat], .d (.int k), ?_, rfl⟩
        rw [take_snoc hk]
        exact Tm.at?_snoc _ _ _ _ _ hu (by omega) hg
  · rintro ρ' ⟨u, x2, hu, rfl⟩
    rw [List.length_map, List.take_length] at hu
    show R.d u.d = .d _
    have hu : Tm.at? p t = some u := hu
    rw [hu]
theorem rd__law_put (n : Nat) (y : Tm × List Int × Tm) (h : (ct__law_put (n + 1)).pre y) : ds__law_put n (endsOf ((ct__law_put (n + 1)).post y) noE) (slots [.d y.1.d, .d (intsD y.2.1), .d y.2.2.d] 4) := by
  obtain ⟨t, p, s⟩ := y
  obtain ⟨h1, h2, u, hu⟩ : p.length < n + 1 ∧ t.size ≤ 10000 ∧ ∃ u, Tm.at? p t = some u := h
  cases p with
  | nil => exact ⟨s, rfl, rfl⟩
  | cons k q =>
    rw [Tm.at?] at hu
    by_cases hk : 0 ≤ k
    · rw [if_pos hk] at hu
      cases z : t.args[k.toNat]? with
      | none => rw [z] at hu; cases hu
      | some v =>
        rw [z] at hu
        have hu : Tm.at? q v = some u := hu
        cases t with
        | var x => exact absurd z (by simp [Tm.args])
        | app f ts =>
          have z : ts[k.toNat]? = some v := z
          have hlt : k.toNat < ts.length := by
            rcases Nat.lt_or_ge k.toNat ts.length with y | y
            · exact y
            · rw [List.getElem?_eq_none y] at z; cases z
          have hgd : (Tm.ds ts)[k.toNat]? = some v.d := by rw [Tm.ds_get, z]; rfl
          have hl := Tm.sizes_length ts
          have hv := Tm.size_le_of_mem (Tm.mem_of_get z)
          rw [Tm.size] at h2
          obtain ⟨kk, rfl⟩ : ∃ kk : Nat, k = (kk : Int) := ⟨k.toNat, by omega⟩
          have hlt : kk < ts.length := hlt
          have hgd : (Tm.ds ts)[kk]? = some v.d := hgd
          have e1 : (cut (Tm.ds ts) none (some (kk : Int))) = (Tm.ds ts).take kk := cut_take _ _
          have e2 : (cut (Tm.ds ts) (some ((kk : Int) + 1)) none) = (Tm.ds ts).drop (kk + 1) := cut_drop _ (kk + 1)
          have e3 : (cut (((kk : Int) :: q).map D.int) (some 1) none) = q.map D.int := (cut_drop _ 1).trans rfl
          show match atI (((kk : Int) :: q).map D.int) ((0 : Nat) : Int) with | some z => _ | none => False
          rw [atI_get (x := D.int kk) rfl]
          show match atI (Tm.ds ts) (kk : Int) with | some z => _ | none => False
          rw [atI_get hgd]
          refine ⟨(v, q, s), ?_, ⟨by show q.length < n; rw [List.length_cons] at h1; omega, by show v.size ≤ 10000; omega, u, hu⟩, fun r er => ?_, fun _ h => h⟩
          · show [R.d v.d, .d (.tup (cut (((kk : Int) :: q).map D.int) (some 1) none)), .d s.d] = _
            rw [e3]
            rfl
          · obtain ⟨m, hm, rfl⟩ := er
            refine ⟨sl 1 (by omega), sl _ ?_, sl _ ?_, sl 2 (by omega), ?_⟩
            · rw [e1, List.length_take, Tm.ds_length, List.length_singleton]; omega
            · rw [e1, e2, List.length_append, List.length_take, List.length_drop, Tm.ds_length, List.length_singleton]; omega
            · refine ⟨Tm.rep (.app f ts) kk m, ?_, ?_⟩
              · show Tm.put? ((kk : Int) :: q) (.app f ts) s = _
                rw [Tm.put?, if_pos hk, show (Tm.app f ts).args[((kk : Int)).toNat]? = some v from z]
                show (Tm.put? q v s).map _ = _
                rw [show Tm.put? q v s = some m from hm]
                rfl
              · rw [rep_d hlt, ← e1, ← e2]
    · rw [if_neg hk] at hu; cases hu
end PL

namespace PL
open PySem PySem.Spec PyProof.Rows L2
theorem filter_snoc {α : Type} {l : List α} {i : Nat} {x : α} {p : α → Bool} (h : l[i]? = some x) : (l.take (i + 1)).filter p = (l.take i).filter p ++ (if p x = true then [x] else []) := by
  rw [take_snoc h, List.filter_append]
  congr 1
  by_cases e : p x = true
  · rw [if_pos e, List.filter_cons_of_pos e, List.filter_nil]
  · rw [if_neg e, List.filter_cons_of_neg e, List.filter_nil]
theorem rd__law_variables (n : Nat) (t : Tm) (h : (ct__law_variables (n + 1)).pre t) : ds__law_variables n (endsOf ((ct__law_variables (n + 1)).post t) noE) (slots [.d t.d] 4) := by
  obtain ⟨h1, h2, hok⟩ : t.depth ≤ n + 1 ∧ t.size ≤ 10000 ∧ t.ok = true := h
  cases t with
  | var x => exact ⟨sl 1 (by omega), rfl⟩
  | app f ts =>
    rw [Tm.depth] at h1
    rw [Tm.size] at h2
    have hoks := Tm.ok_args hok
    have hoks : Tm.oks ts = true := hoks
    refine ⟨Nat.zero_le _, ?_⟩
    refine ⟨fun i ρ => ∃ x2 x3, ρ = [.d (Tm.app f ts).d, .o (.lst (strDs (Tm.more Tm.vars [] (ts.take i)))), x2, x3], ⟨.any, .any, rfl⟩, ?_, ?_⟩
    · rintro i x ρ' hx ⟨x2, x3, rfl⟩
      obtain ⟨u, hu, rfl⟩ := Tm.ds_inj_get hx
      have m := Tm.mem_of_get hu
      have m1 := Tm.size_le_of_mem m
      have m2 := Tm.depth_le_of_mem m
      have uok := Tm.oks_mem hoks m
      have hfo : ∀ x ∈ Tm.more Tm.vars [] (ts.take i), PyData.strOk x = true := Tm.mem_more_vars fun t ht => Tm.oks_mem hoks (List.mem_of_mem_take ht)
      have hlen : (Tm.more Tm.vars [] (ts.take (i + 1))).length ≤ 10001 := by
        have e := Tm.more_vars_length f (ts.take (i + 1))
        have z : Tm.sizes ts = Tm.sizes (ts.take (i + 1)) + Tm.sizes (ts.drop (i + 1)) := by rw [← Tm.sizes_append, List.take_append_drop]
        omega
      have hsn := Tm.more_snoc Tm.vars [] (ts.take i) u
      rw [← take_snoc hu] at hsn
      refine ⟨u, rfl, ⟨by omega, by omega, uok⟩, fun r er => ?_, fun _ h => h⟩
      subst er
      refine ⟨fun j acc => acc = strDs ((u.vars.take j).filter fun x => decide (x ∉ Tm.more Tm.vars [] (ts.take i))), rfl, ?_, ?_⟩
      · rintro j x acc hx rfl
        obtain ⟨q, hq, rfl⟩ := map_get hx
        have hqo := Tm.vars_ok uok q (mem_get hq)
        show SeqAt.shaped (D.str q).py = true ∧ SeqAt.shaped (.list (pyAll (strDs (Tm.more Tm.vars [] (ts.take i))))) = true ∧ (if (!((pyAll (strDs (Tm.more Tm.vars [] (ts.take i)))).any fun z => PyData.eqv z (D.str q).py)) = true then _ else _)
        refine ⟨shaped_str hqo, shaped_strs hfo, ?_⟩
        rw [any_str]
        have hl2 : ((u.vars.take j).filter fun x => decide (x ∉ Tm.more Tm.vars [] (ts.take i))).length ≤ 10000 := by
          have a1 := List.length_filter_le (fun x => decide (x ∉ Tm.more Tm.vars [] (ts.take i))) (u.vars.take j)
          have a2 : (u.vars.take j).length ≤ u.vars.length := by rw [List.length_take]; omega
          have a3 := Tm.vars_length u
          omega
        refine ite2 (fun e => ?_) (fun e => ?_)
        · refine ⟨sl' _ (by unfold strDs; rw [List.length_map]; omega), ?_⟩
          show _ = strDs _
          have e : ¬ q ∈ Tm.more Tm.vars [] (ts.take i) := by simpa using e
          rw [filter_snoc hq, if_pos (by simpa using e)]
          unfold strDs
          rw [List.map_append]
          rfl
        · show _ = strDs _
          have e : q ∈ Tm.more Tm.vars [] (ts.take i) := by simpa using e
          rw [filter_snoc hq, if_neg (by simpa using e), List.append_nil]
      · rintro acc rfl
        have el : (strDs u.vars).length = u.vars.length := by unfold strDs; rw [List.length_map]
        rw [show (strDs u.vars).length = u.vars.length from el, List.take_length]
        have e1 : strDs (Tm.more Tm.vars [] (ts.take i)) ++ strDs (u.vars.filter fun x => decide (x ∉ Tm.more Tm.vars [] (ts.take i))) = strDs (Tm.more Tm.vars [] (ts.take (i + 1))) := by
          unfold strDs
          rw [hsn, List.map_append]
        refine ⟨sl _ ?_, .d u.d, x3, ?_⟩
        · rw [← List.length_append, e1]
          unfold strDs
          rw [List.length_map]
          omega
        · rw [← e1]; rfl
    · rintro ρ' ⟨x2, x3, rfl⟩
      show R.n (.lst _) = .n (.lst _)
      rw [show (Tm.ds ts).length = ts.length from Tm.ds_length ts, List.take_length, Tm.vars_app]
theorem more_syms_ok {f : Str} {ts : List Tm} (hf : PyData.strOk f = true) (k : Nat) (h : ∀ t ∈ ts, t.ok = true) : ∀ x ∈ Tm.more Tm.syms [(f, k)] ts, PyData.strOk x.1 = true := by
  intro x hx
  have e := Tm.more_fa Tm.sname ts [(f, k)]
  have e : Tm.more Tm.syms [(f, k)] ts = _ := e
  rw [e, mem_fa] at hx
  rcases hx with hx | hx
  · rw [List.mem_singleton] at hx; subst hx; exact hf
  · obtain ⟨u, hu, e⟩ := List.mem_filterMap.mp hx
    have := Tm.partss_ok ts u (Tm.oks_of h) hu
    cases u with
    | var y => cases e
    | app g us => cases e; rw [Tm.ok, Bool.and_eq_true] at this; exact this.1
theorem more_syms_length (f : Str) (k : Nat) (ts : List Tm) : (Tm.more Tm.syms [(f, k)] ts).length ≤ 1 + Tm.sizes ts := by
  have e : Tm.more Tm.syms [(f, k)] ts = _ := Tm.more_fa Tm.sname ts [(f, k)]
  rw [e]
  have h1 := fa_length ((Tm.partss ts).filterMap Tm.sname) [(f, k)]
  have h2 := List.length_filterMap_le Tm.sname (Tm.partss ts)
  rw [Tm.partss_length] at h2
  rw [List.length_singleton] at h1
  omega
theorem rd__law_symbols (n : Nat) (t : Tm) (h : (ct__law_symbols (n + 1)).pre t) : ds__law_symbols n (endsOf ((ct__law_symbols (n + 1)).post t) noE) (slots [.d t.d] 4) := by
  obtain ⟨h1, h2, hok⟩ : t.depth ≤ n + 1 ∧ t.size ≤ 10000 ∧ t.ok = true := h
  cases t with
  | var x => exact ⟨Nat.zero_le _, rfl⟩
  | app f ts =>
    rw [Tm.depth] at h1
    rw [Tm.size] at h2
    have hoks := Tm.ok_args hok
    have hoks : Tm.oks ts = true := hoks
    have hf : PyData.strOk f = true := by rw [Tm.ok, Bool.and_eq_true] at hok; exact hok.1
    have hdl : (Tm.ds ts).length = ts.length := Tm.ds_length ts
    refine ⟨sl 2 (by omega), sl 1 (by omega), ?_⟩
    refine ⟨fun i ρ => ∃ x2 x3, ρ = [.d (Tm.app f ts).d, .o (.lst (symDs (Tm.more Tm.syms [(f, ts.length)] (ts.take i)))), x2, x3], ⟨.any, .any, ?_⟩, ?_, ?_⟩
    · show [_, A.o (.lst [D.tup [.str f, .int ((Tm.ds ts).length : Int)]]), _, _] = _
      rw [hdl]
      rfl
    · rintro i x ρ' hx ⟨x2, x3, rfl⟩
      obtain ⟨u, hu, rfl⟩ := Tm.ds_inj_get hx
      have m := Tm.mem_of_get hu
      have m1 := Tm.size_le_of_mem m
      have m2 := Tm.depth_le_of_mem m
      have uok := Tm.oks_mem hoks m
      have hfo : ∀ x ∈ Tm.more Tm.syms [(f, ts.length)] (ts.take i), PyData.strOk x.1 = true := more_syms_ok hf _ fun t ht => Tm.oks_mem hoks (List.mem_of_mem_take ht)
      have hlen : (Tm.more Tm.syms [(f, ts.length)] (ts.take (i + 1))).length ≤ 10001 := by
        have e := more_syms_length f ts.length (ts.take (i + 1))
        have z : Tm.sizes ts = Tm.sizes (ts.take (i + 1)) + Tm.sizes (ts.drop (i + 1)) := by rw [← Tm.sizes_append, List.take_append_drop]
        omega
      have hsn := Tm.more_snoc Tm.syms [(f, ts.length)] (ts.take i) u
      rw [← take_snoc hu] at hsn
      refine ⟨u, rfl, ⟨by omega, by omega, uok⟩, fun r er => ?_, fun _ h => h⟩
      subst er
      refine ⟨fun j acc => acc = symDs ((u.syms.take j).filter fun x => decide (x ∉ Tm.more Tm.syms [(f, ts.length)] (ts.take i))), rfl, ?_, ?_⟩
      · rintro j x acc hx rfl
        obtain ⟨q, hq, rfl⟩ := map_get hx
        have hqo := Tm.syms_ok uok q (mem_get hq)
        show SeqAt.shaped (symD q).py = true ∧ SeqAt.shaped (.list (pyAll (symDs (Tm.more Tm.syms [(f, ts.length)] (ts.take i))))) = true ∧ (if (!((pyAll (symDs (Tm.more Tm.syms [(f, ts.length)] (ts.take i)))).any fun z => PyData.eqv z (symD q).py)) = true then _ else _)
        refine ⟨shaped_sym hqo, shaped_syms hfo, ?_⟩
        rw [any_sym]
        have hl2 : ((u.syms.take j).filter fun x => decide (x ∉ Tm.more Tm.syms [(f, ts.length)] (ts.take i))).length ≤ 10000 := by
          have a1 := List.length_filter_le (fun x => decide (x ∉ Tm.more Tm.syms [(f, ts.length)] (ts.take i))) (u.syms.take j)
          have a2 : (u.syms.take j).length ≤ u.syms.length := by rw [List.length_take]; omega
          have a3 := Tm.syms_length u
          omega
        refine ite2 (fun e => ?_) (fun e => ?_)
        · refine ⟨sl' _ (by unfold symDs; rw [List.length_map]; omega), ?_⟩
          show _ = symDs _
          have e : ¬ q ∈ Tm.more Tm.syms [(f, ts.length)] (ts.take i) := by simpa using e
          rw [filter_snoc hq, if_pos (by simpa using e)]
          unfold symDs
          rw [List.map_append]
          rfl
        · show _ = symDs _
          have e : q ∈ Tm.more Tm.syms [(f, ts.length)] (ts.take i) := by simpa using e
          rw [filter_snoc hq, if_neg (by simpa using e), List.append_nil]
      · rintro acc rfl
        have el : (symDs u.syms).length = u.syms.length := by unfold symDs; rw [List.length_map]
        rw [show (symDs u.syms).length = u.syms.length from el, List.take_length]
        have e1 : symDs (Tm.more Tm.syms [(f, ts.length)] (ts.take i)) ++ symDs (u.syms.filter fun x => decide (x ∉ Tm.more Tm.syms [(f, ts.length)] (ts.take i))) = symDs (Tm.more Tm.syms [(f, ts.length)] (ts.take (i + 1))) := by
          unfold symDs
          rw [hsn, List.map_append]
          refine congrArg (fun z => List.map symD (Tm.more Tm.syms [(f, ts.length)] (ts.take i)) ++ List.map symD z) (List.filter_congr fun x _ => ?_)
          exact decide_eq_decide.mpr Iff.rfl
        refine ⟨sl _ ?_, .d u.d, x3, ?_⟩
        · rw [← List.length_append, e1]
          unfold symDs
          rw [List.length_map]
          omega
        · rw [← e1]; rfl
    · rintro ρ' ⟨x2, x3, rfl⟩
      show R.n (.lst _) = .n (.lst _)
      rw [show (Tm.ds ts).length = ts.length from Tm.ds_length ts, List.take_length, Tm.syms_app]
theorem erase_map {α β : Type} (f : α → β) : ∀ (l : List α) (j : Nat), (l.eraseIdx j).map f = (l.map f).eraseIdx j
  | [], _ => rfl
  | _ :: _, 0 => rfl
  | x :: r, j + 1 => congrArg (f x :: ·) (erase_map f r j)
theorem rows0_ok : ∀ k ∈ rows0, PyData.strOk k.1 = true ∧ k.2 ≤ 3 := by decide +kernel
theorem rd__law_some_symbols (m : Nat) (h : ct__law_some_symbols.pre m) : ds__law_some_symbols (endsOf (ct__law_some_symbols.post m) noE) (slots [.strm, .d (.int m)] 5) := by
  obtain ⟨h1, h2⟩ := h
  refine ⟨sl 2 (by omega), sl 2 (by omega), sl 2 (by omega), sl 2 (by omega), sl 2 (by omega), sl 2 (by omega), sl 2 (by omega), sl 2 (by omega), sl 8 (by omega), ?_⟩
  refine ⟨(2 : Int), rfl, ⟨by omega, by omega⟩, fun r hr => ?_, fun _ h => h⟩
  obtain ⟨k, k0, k1, rfl⟩ := hr
  have hk : k.toNat < rows0.length := by show k.toNat < 8; omega
  have hg : rows0[k.toNat]? = some rows0[k.toNat] := List.getElem?_eq_getElem hk
  have hgd : (symDs rows0)[k.toNat]? = some (symD rows0[k.toNat]) := by unfold symDs; rw [List.getElem?_map, hg]; rfl
  refine ⟨k.toNat, symD rows0[k.toNat], by omega, by omega, hgd, ?_⟩
  refine ⟨(m : Int), rfl, ⟨by omega, by omega⟩, fun r hr => ?_, fun _ h => h⟩
  obtain ⟨c, c0, c1, rfl⟩ := hr
  refine ⟨by omega, by omega, ?_⟩
  have he : ∀ (l : List (Str × Nat)) (j : Nat), symDs (l.eraseIdx j) = (symDs l).eraseIdx j := fun l j => erase_map symD l j
  refine ⟨fun i ρ => ∃ rows found x4, rows.length + i = 7 ∧ found.length = i + 1 ∧ (∀ k ∈ rows, k ∈ rows0) ∧ (∀ k ∈ found, k ∈ rows0) ∧ (∃ k ∈ found, k.2 = 0) ∧ ρ = [.strm, .d (.int m), .o (.lst (symDs rows)), .o (.lst (symDs found)), x4],
    ⟨rows0.eraseIdx k.toNat, [rows0[k.toNat]], .any, ?_, rfl, fun x hx => List.mem_of_mem_eraseIdx hx, fun x hx => ?_, ⟨_, List.mem_cons_self, ?_⟩, ?_⟩, ?_, ?_⟩
  · rw [List.length_eraseIdx, if_pos hk]; rfl
  · rw [List.mem_singleton] at hx; subst hx; exact List.getElem_mem hk
  · have k1 : k < 2 := k1
    have : k.toNat = 0 ∨ k.toNat = 1 := by omega
    have two : ∀ i (hi : i < rows0.length), i = 0 ∨ i = 1 → (rows0[i]).2 = 0 := fun i hi z => by rcases z with rfl | rfl <;> rfl
    exact two _ hk this
  · rw [he]; rfl
  · rintro i x ρ' hx ⟨rows, found, x4, r1, r2, r3, r4, ⟨kc, kc1, kc2⟩, rfl⟩
    obtain ⟨hi, rfl⟩ := rng_get hx
    have hr1 : 1 ≤ rows.length := by omega
    have hrl : (symDs rows).length = rows.length := by unfold symDs; rw [List.length_map]
    have hfl : (symDs found).length = found.length := by unfold symDs; rw [List.length_map]
    refine ⟨by decide, ?_, trivial⟩
    refine ⟨((symDs rows).length : Int), rfl, ⟨by omega, by omega⟩, fun r hr => ?_, fun _ h => h⟩
    obtain ⟨k, k0, k1, rfl⟩ := hr
    have hk : k.toNat < rows.length := by omega
    have hg : rows[k.toNat]? = some rows[k.toNat] := List.getElem?_eq_getElem hk
    have hgd : (symDs rows)[k.toNat]? = some (symD rows[k.toNat]) := by unfold symDs; rw [List.getElem?_map, hg]; rfl
    refine ⟨k.toNat, symD rows[k.toNat], by omega, by omega, hgd, sl' _ (by omega), ?_⟩
    refine ⟨rows.eraseIdx k.toNat, found ++ [rows[k.toNat]], .d (.int (i : Int)), ?_, ?_, fun x hx => r3 x (List.mem_of_mem_eraseIdx hx), fun x hx => ?_, ⟨kc, List.mem_append_left _ kc1, kc2⟩, ?_⟩
    · rw [List.length_eraseIdx, if_pos hk]; omega
    · rw [List.length_append, r2]; rfl
    · rcases List.mem_append.mp hx with hx | hx
      · exact r4 x hx
      · rw [List.mem_singleton] at hx; subst hx; exact r3 _ (List.getElem_mem hk)
    · rw [he]
      show _ = [_, _, _, A.o (.lst (symDs (found ++ [rows[k.toNat]]))), _]
      unfold symDs
      rw [List.map_append]
      rfl
  · rintro ρ' ⟨rows, found, x4, r1, r2, r3, r4, r5, rfl⟩
    refine ⟨found, rfl, fun k hk => rows0_ok k (r4 k hk), (fun z => by rw [z] at r2; simp at r2), ?_, r4, r5⟩
    have r2 : found.length = (rng 0 c.toNat).length + 1 := r2
    rw [rng_length] at r2
    omega
end PL

namespace PL
open PySem PySem.Spec PyProof.Rows L2
/-- an if whose test comes to an end, whatever it says -/
theorem seq_if {c : DT} {d u v : DS} {F : AE} {ρ : List A} {X Y : Prop} (hc : ∀ P : Bool → Prop, (X → P true) → (Y → P false) → c ρ P (fun C => F.ex C ρ)) (h1 : X → d { F with nx := v F } ρ) (h2 : Y → u { F with nx := v F } ρ) : dSeq (dIfS c d u) v F ρ := by
  refine hc _ (fun a => ?_) (fun b => ?_)
  · show if true = true then _ else _
    rw [if_pos rfl]
    exact h1 a
  · show if false = true then _ else _
    rw [if_neg (by decide)]
    exact h2 b
theorem b_true {P : Bool → Prop} {b : Bool} (h1 : b = true → P true) (h2 : b = false → P false) : P b := by
  cases b
  · exact h2 rfl
  · exact h1 rfl
theorem Tm.mem_wordss {z : Str} : ∀ {ts : List Tm}, z ∈ Tm.wordss ts → ∃ t, t ∈ ts ∧ z ∈ t.words
  | [], h => by rw [Tm.wordss] at h; cases h
  | t :: r, h => by
    rw [Tm.wordss, List.mem_append] at h
    rcases h with h | h
    · exact ⟨t, List.mem_cons_self, h⟩
    · obtain ⟨u, hu, h⟩ := Tm.mem_wordss h
      exact ⟨u, List.mem_cons_of_mem _ hu, h⟩
theorem symDs_length (l : List (Str × Nat)) : (symDs l).length = l.length := by unfold symDs; rw [List.length_map]
theorem strDs_length (l : List Str) : (strDs l).length = l.length := by unfold strDs; rw [List.length_map]
def Wd (N : List Str) (K : List (Str × Nat)) (t : Tm) : Prop := (∀ z ∈ t.words, z = "x" ∨ z ∈ N ∨ z ∈ K.map (·.1)) ∧ ∀ z ∈ t.vars, z ∈ N ∨ (N = [] ∧ ∀ k ∈ K, k.2 ≠ 0)
theorem Tm.mem_varsP {t : Tm} {z : Str} : z ∈ t.vars ↔ z ∈ t.parts.filterMap Tm.vname := by
  show z ∈ fa [] _ ↔ _
  rw [mem_fa]
  simp
theorem Tm.partss_vars {z : Str} : ∀ {ts : List Tm}, z ∈ (Tm.partss ts).filterMap Tm.vname → ∃ t, t ∈ ts ∧ z ∈ t.vars
  | [], h => by cases h
  | t :: r, h => by
    rw [Tm.partss, List.filterMap_append, List.mem_append] at h
    rcases h with h | h
    · exact ⟨t, List.mem_cons_self, Tm.mem_varsP.mpr h⟩
    · obtain ⟨u, hu, h⟩ := Tm.partss_vars h
      exact ⟨u, List.mem_cons_of_mem _ hu, h⟩
theorem Tm.vars_of_app {f : Str} {ts : List Tm} {z : Str} (h : z ∈ (Tm.app f ts).vars) : ∃ t, t ∈ ts ∧ z ∈ t.vars := by
  rw [Tm.mem_varsP, Tm.parts] at h
  exact Tm.partss_vars h
theorem rd__law_term (n : Nat) (y : TermIn) (h : (ct__law_term (n + 1)).pre y) : ds__law_term n (endsOf ((ct__law_term (n + 1)).post y) noE) (slots [.strm, .b (.lst (symDs y.kinds)), .b (.lst (strDs y.names)), .d (.int y.most), .d (.int y.deep)] 14) := by
  obtain ⟨K, N, m, dp⟩ := y
  obtain ⟨hK, hN, hKl, hNl, hm1, hm2, hd1, hd2, hd3⟩ := h
  have hK : ∀ k ∈ K, PyData.strOk k.1 = true ∧ k.2 ≤ 3 := hK
  have hN : ∀ x ∈ N, PyData.strOk x = true := hN
  have hKl : K.length ≤ 1000 := hKl
  have hNl : N.length ≤ 1000 := hNl
  have hm1 : 1 ≤ m := hm1
  have hm2 : m ≤ 1000 := hm2
  have hd1 : 1 ≤ dp := hd1
  have hd2 : dp ≤ n + 1 := hd2
  have hd3 : dp ≤ 40 := hd3
  -- the last part: a symbol is drawn, its arguments are made
  have last : ∀ (L : List (Str × Nat)) (x6 x7 x8 x9 x10 x11 x12 x13 : A), L.length ≤ 1000 → (∀ k ∈ L, k ∈ K ∧ (k.2 = 0 ∨ (k.2 < m ∧ 1 < dp))) → (L = [] → N = [] ∧ ∀ k ∈ K, k.2 ≠ 0) →
      (dSeq (dIfS (tdNot (tdT (dVar 5))) (dRet (dC (.str "x"))) dNext)
    (dSeq (dUnp (dCall (ct__law_pick) (aCons (dVar 0) (aCons (dVar 5) aNil))) (dgTup 2 (dgCons (dgName 7) (dgCons (dgName 8) dgNil))))
    (dSeq (dSet 9 (dOp (fI0 fun i j => .int (i - j)) (dVar 3) (dC (.int 1))))
    (dSeq (dSet 10 (dLst aNil))
    (dSeq (dFor (iR1 (aCons (dVar 8) aNil)) (dgName 11) (dSeq (dSet 12 (dCall (ct__law_term n) (aCons (dVar 0) (aCons (dVar 1) (aCons (dVar 2) (aCons (dIf (tdB (dOp fEq (dVar 11) (dOp (fI0 fun i j => .int (i - j)) (dVar 8) (dC (.int 1))))) (dCB fMax2 (aCons (dC (.int 1)) (aCons (dOp (fI0 fun i j => .int (i - j)) (dVar 9) (dOp (fI0 fun i j => .int (i - j)) (dOp (fI0 fun i j => .int (i - j)) (dVar 8) (dC (.int 1))) (dVar 11))) aNil))) (dOp fAdd (dC (.int 1)) (dCall (ctDraw) (aCons (dVar 0) (aCons (dCB fMax2 (aCons (dC (.int 1)) (aCons (dOp (fI0 fun i j => .int (i - j)) (dVar 9) (dOp (fI0 fun i j => .int (i - j)) (dOp (fI0 fun i j => .int (i - j)) (dVar 8) (dC (.int 1))) (dVar 11))) aNil))) aNil))))) (aCons (dOp (fI0 fun i j => .int (i - j)) (dVar 4) (dC (.int 1))) aNil)))))))
    (dSeq (dApp 10 (dVar 12))
    (dSet 9 (dOp (fI0 fun i j => .int (i - j)) (dVar 9) (dCall (ct__law_size 40) (aCons (dVar 12) aNil)))))))
    (dRet (dTup (aCons (dVar 7) (aCons (dCB fTuple (aCons (dVar 10) aNil)) aNil))))))))) (endsOf ((ct__law_term (n + 1)).post ⟨K, N, m, dp⟩) noE)
      [.strm, .b (.lst (symDs K)), .b (.lst (strDs N)), .d (.int m), .d (.int dp), .o (.lst (symDs L)), x6, x7, x8, x9, x10, x11, x12, x13] := by
    intro L x6 x7 x8 x9 x10 x11 x12 x13 hLl hL hE
    cases hLn : L with
    | nil =>
      subst hLn
      exact ⟨.var "x", rfl, by decide +kernel, by rw [Tm.size]; exact hm1, by rw [Tm.depth]; exact hd1, fun z hz => .inl (by rw [Tm.words, List.mem_singleton] at hz; exact hz), fun z _ => .inr (hE rfl)⟩
    | cons l0 lr =>
      rw [← hLn]
      have hne : L ≠ [] := by rw [hLn]; simp
      have hie : (symDs L).isEmpty = false := by rw [hLn]; rfl
      show (if (!(!(symDs L).isEmpty)) = true then _ else _)
      rw [if_neg (by rw [hie]; decide)]
      refine ⟨symDs L, rfl, ⟨fun z => hne (by unfold symDs at z; exact List.map_eq_nil_iff.mp z), by rw [symDs_length]; omega⟩, fun r hr => ?_, fun _ h => h⟩
      obtain ⟨x, hx, rfl⟩ := hr
      obtain ⟨⟨f, a⟩, hfa, rfl⟩ := List.mem_map.mp hx
      obtain ⟨hfK, hfc⟩ := hL _ hfa
      obtain ⟨hfo, ha3⟩ := hK _ hfK
      have ha3 : a ≤ 3 := ha3
      have hfc : a = 0 ∨ (a < m ∧ 1 < dp) := hfc
      refine ⟨rfl, Nat.zero_le _, by omega, by omega, ?_⟩
      refine ⟨fun i ρ => ∃ (ts : List Tm) (left : Int) (x11 x12 : A), ts.length = i ∧ (∀ t ∈ ts, t.ok = true ∧ t.depth ≤ dp - 1 ∧ Wd N K t) ∧ (Tm.sizes ts : Int) + left = (m : Int) - 1 ∧ (a : Int) - i ≤ left ∧
        ρ = [.strm, .b (.lst (symDs K)), .b (.lst (strDs N)), .d (.int m), .d (.int dp), .o (.lst (symDs L)), x6, .d (.str f), .d (.int a), .d (.int left), .o (.lst (Tm.ds ts)), x11, x12, x13], ⟨[], (m : Int) - 1, x11, x12, rfl, (fun _ z => by cases z), ?_, ?_, rfl⟩, ?_, ?_⟩
      · show ((Tm.sizes [] : Nat) : Int) + _ = _
        rw [Tm.sizes]
        omega
      · show (a : Int) - ((0 : Nat) : Int) ≤ _
        omega
      · rintro i x ρ' hx ⟨ts, left, y11, y12, hti, hts, hsz, hlf, rfl⟩
        obtain ⟨hi, rfl⟩ := rng_get hx
        have hi : i < a := by
          have hi : i < ((a : Int)).toNat := hi
          omega
        have hdp : 1 < dp := by omega
        have htl := Tm.sizes_length ts
        have key : ∀ (Z : R → Prop), (∀ t : Tm, t.ok = true → (t.size : Int) ≤ left - ((a : Int) - 1 - i) → t.depth ≤ dp - 1 → Wd N K t → Z (.d t.d)) → ∀ E : Int, 1 ≤ E → E ≤ left - ((a : Int) - 1 - i) →
            ∃ x : TermIn, ([R.strm, .b (.lst (symDs K)), .b (.lst (strDs N)), .d (.int E), .d (.int ((dp : Int) - 1))] : List R) = (ct__law_term n).args x ∧ (ct__law_term n).pre x ∧ (∀ r, (ct__law_term n).post x r → Z r) ∧ ∀ c, ¬ (ct__law_term n).exc x c := by
          intro Z hZ E e1 e2
          refine ⟨⟨K, N, E.toNat, dp - 1⟩, ?_, ⟨hK, hN, hKl, hNl, by show 1 ≤ E.toNat; omega, by show E.toNat ≤ 1000; omega, by show 1 ≤ dp - 1; omega, by show dp - 1 ≤ n; omega, by show dp - 1 ≤ 40; omega⟩, fun r hr => ?_, fun _ h => h⟩
          · show _ = [R.strm, .b (.lst (symDs K)), .b (.lst (strDs N)), .d (.int ((E.toNat : Nat) : Int)), .d (.int ((dp - 1 : Nat) : Int))]
            rw [show ((E.toNat : Nat) : Int) = E by omega, show ((dp - 1 : Nat) : Int) = (dp : Int) - 1 by omega]
          · obtain ⟨t, rfl, h1, h2, h3, h4⟩ := hr
            have h2 : t.size ≤ E.toNat := h2
            exact hZ t h1 (by omega) h3 h4
        have mx : (if left - ((a : Int) - 1 - i) > 1 then left - ((a : Int) - 1 - i) else 1) = left - ((a : Int) - 1 - i) := by split <;> omega
        have room : ∀ t : Tm, t.depth ≤ dp - 1 → (t.size : Int) ≤ left - ((a : Int) - 1 - i) → t.depth ≤ 40 ∧ t.size ≤ 10000 := fun t h1 h2 => ⟨by omega, by omega⟩
        have cond : ∀ t : Tm, t.ok = true → t.depth ≤ dp - 1 → Wd N K t → ∀ x ∈ ts ++ [t], x.ok = true ∧ x.depth ≤ dp - 1 ∧ Wd N K x := fun t h1 h2 h3 x hx => by
          rcases List.mem_append.mp hx with hx | hx
          · exact hts x hx
          · rw [List.mem_singleton] at hx; subst hx; exact ⟨h1, h2, h3⟩
        have sz : ∀ t : Tm, ((Tm.sizes (ts ++ [t]) : Nat) : Int) + (left - (t.size : Int)) = (m : Int) - 1 := fun t => by
          rw [Tm.sizes_append, Tm.sizes, Tm.sizes]
          omega
        have st : ∀ t : Tm, Tm.ds (ts ++ [t]) = Tm.ds ts ++ [t.d] := fun t => by rw [Tm.ds_append]; rfl
        refine ⟨shaped_int _, shaped_int _, ite2 (fun _ => ?_) (fun _ => ?_)⟩
        · refine key _ (fun t t1 t2 t3 t4 => ?_) (if left - ((a : Int) - 1 - (i : Int)) > 1 then left - ((a : Int) - 1 - (i : Int)) else (1 : Int)) (by rw [mx]; omega) (by rw [mx]; omega)
          refine ⟨sl' _ (by rw [Tm.ds_length]; omega), t, rfl, room t t3 t2, fun r er => ?_, fun _ h => h⟩
          subst er
          refine ⟨ts ++ [t], left - (t.size : Int), .d (.int (i : Int)), .d t.d, by rw [List.length_append, hti]; rfl, cond t t1 t3 t4, sz t, ?_, ?_⟩
          · show (a : Int) - ((i + 1 : Nat) : Int) ≤ _
            omega
          · rw [st]; rfl
        · refine ⟨(show Int from (if left - ((a : Int) - 1 - (i : Int)) > 1 then left - ((a : Int) - 1 - (i : Int)) else (1 : Int))), rfl, ⟨by show (1 : Int) ≤ (if left - ((a : Int) - 1 - (i : Int)) > 1 then left - ((a : Int) - 1 - (i : Int)) else (1 : Int)); rw [mx]; omega, by show (if left - ((a : Int) - 1 - (i : Int)) > 1 then left - ((a : Int) - 1 - (i : Int)) else (1 : Int)) ≤ (1000000 : Int); rw [mx]; omega⟩, fun r hr => ?_, fun _ h => h⟩
          obtain ⟨d, d0, d1, rfl⟩ := hr
          have d1 : d < (if left - ((a : Int) - 1 - (i : Int)) > 1 then left - ((a : Int) - 1 - (i : Int)) else (1 : Int)) := d1
          rw [mx] at d1
          refine key _ (fun t t1 t2 t3 t4 => ?_) (1 + d) (by omega) (by omega)
          refine ⟨sl' _ (by rw [Tm.ds_length]; omega), t, rfl, room t t3 t2, fun r er => ?_, fun _ h => h⟩
          subst er
          refine ⟨ts ++ [t], left - (t.size : Int), .d (.int (i : Int)), .d t.d, by rw [List.length_append, hti]; rfl, cond t t1 t3 t4, sz t, ?_, ?_⟩
          · show (a : Int) - ((i + 1 : Nat) : Int) ≤ _
            omega
          · rw [st]; rfl
      · rintro ρ' ⟨ts, left, y11, y12, hti, hts, hsz, hlf, rfl⟩
        rw [rng_length] at hti hlf
        have hti : ts.length = ((a : Int)).toNat := hti
        have hlf : (a : Int) - ((((a : Int)).toNat : Nat) : Int) ≤ left := hlf
        have hta : ts.length = a := by omega
        refine ⟨sl 2 (by omega), .app f ts, rfl, ?_, ?_, ?_, fun z hz => ?_, fun z hz => ?_⟩
        · rw [Tm.ok, Bool.and_eq_true]
          exact ⟨hfo, Tm.oks_of fun t ht => (hts t ht).1⟩
        · show (Tm.app f ts).size ≤ m
          rw [Tm.size]
          omega
        · show (Tm.app f ts).depth ≤ dp
          rw [Tm.depth]
          have := Tm.depths_le (d := dp - 1) fun t ht => (hts t ht).2.1
          omega
        · rw [Tm.words, List.mem_cons] at hz
          rcases hz with hz | hz
          · subst hz
            exact .inr (.inr (List.mem_map.mpr ⟨_, hfK, rfl⟩))
          · obtain ⟨t, ht, hz⟩ := Tm.mem_wordss hz
            exact (hts t ht).2.2.1 z hz
        · obtain ⟨t, ht, hz⟩ := Tm.vars_of_app hz
          exact (hts t ht).2.2.2 z hz
  -- able
  refine ⟨fun i acc => ∃ L : List (Str × Nat), acc = symDs L ∧ L.length ≤ i ∧ (∀ k ∈ L, k ∈ K ∧ (k.2 = 0 ∨ (k.2 < m ∧ 1 < dp))) ∧ ∀ k ∈ K.take i, k.2 = 0 → k ∈ L, ⟨[], rfl, Nat.zero_le _, (fun _ z => by cases z), fun _ z => by cases z⟩, ?_, ?_⟩
  · rintro i x acc hx ⟨L, rfl, hl, hL, hC⟩
    obtain ⟨⟨f, a⟩, hfa, rfl⟩ := map_get hx
    have hik : i < K.length := by
      rcases Nat.lt_or_ge i K.length with z | z
      · exact z
      · rw [List.getElem?_eq_none z] at hfa; cases hfa
    have keep : (a = 0 ∨ (a < m ∧ 1 < dp)) → (symDs L).length < sizeLine ∧ ∃ L' : List (Str × Nat), symDs L ++ [symD (f, a)] = symDs L' ∧ L'.length ≤ i + 1 ∧ (∀ k ∈ L', k ∈ K ∧ (k.2 = 0 ∨ (k.2 < m ∧ 1 < dp))) ∧ ∀ k ∈ K.take (i + 1), k.2 = 0 → k ∈ L' := fun hc => by
      refine ⟨sl' _ (by rw [symDs_length]; omega), L ++ [(f, a)], by unfold symDs; rw [List.map_append]; rfl, by rw [List.length_append, List.length_singleton]; omega, fun k hk => ?_, fun k hk hk0 => ?_⟩
      · rcases List.mem_append.mp hk with hk | hk
        · exact hL k hk
        · rw [List.mem_singleton] at hk; subst hk; exact ⟨mem_get hfa, hc⟩
      · rw [take_snoc hfa] at hk
        rcases List.mem_append.mp hk with hk | hk
        · exact List.mem_append_left _ (hC k hk hk0)
        · exact List.mem_append_right _ hk
    have skip : a ≠ 0 → ∃ L' : List (Str × Nat), symDs L = symDs L' ∧ L'.length ≤ i + 1 ∧ (∀ k ∈ L', k ∈ K ∧ (k.2 = 0 ∨ (k.2 < m ∧ 1 < dp))) ∧ ∀ k ∈ K.take (i + 1), k.2 = 0 → k ∈ L' := fun ha => ⟨L, rfl, by omega, hL, fun k hk hk0 => by
      rw [take_snoc hfa] at hk
      rcases List.mem_append.mp hk with hk | hk
      · exact hC k hk hk0
      · rw [List.mem_singleton] at hk; subst hk; exact absurd hk0 ha⟩
    have nz : ¬ PyData.eqv (D.int (a : Int)).py (D.int 0).py = true → a ≠ 0 := fun h z => h (by rw [eqv_int]; exact decide_eq_true (by omega))
    refine ⟨shaped_int _, shaped_int _, ite2 (fun e => ?_) (fun ne => ite2 (fun e => ite2 (fun e2 => ?_) (fun _ => ?_)) (fun _ => ?_))⟩
    · rw [eqv_int] at e
      have e : (a : Int) = 0 := of_decide_eq_true e
      exact keep (.inl (by omega))
    · have e : (a : Int) < m := of_decide_eq_true e
      have e2 : (1 : Int) < dp := of_decide_eq_true e2
      exact keep (.inr ⟨by omega, by omega⟩)
    · exact skip (nz ne)
    · exact skip (nz ne)
  · rintro acc ⟨L, rfl, hl, hL, hC⟩
    rw [symDs_length, List.take_length] at hC
    rw [symDs_length] at hl
    have hl : L.length ≤ 1000 := by omega
    dsimp only
    refine seq_if (X := N ≠ []) (Y := N ≠ [] → L ≠ []) (fun P pt pf => ?_) (fun hne => ?_) (fun hY => ?_)
    · refine ite2 (fun e => ?_) (fun e => pf fun hne => absurd (show (!(strDs N).isEmpty) = true by cases N with | nil => exact absurd rfl hne | cons a r => rfl) e)
      have hne : N ≠ [] := fun z => by subst z; cases e
      refine ite2 (fun _ => pt hne) (fun eL => ite2 (fun _ => pt hne) (fun _ => ?_))
      have hLn : L ≠ [] := fun z => eL (by subst z; rfl)
      refine ⟨(4 : Int), rfl, ⟨by omega, by omega⟩, fun r hr => ?_, fun _ h => h⟩
      obtain ⟨d, _, _, rfl⟩ := hr
      exact ⟨shaped_int _, shaped_int _, b_true (P := P) (fun _ => pt hne) (fun _ => pf fun _ => hLn)⟩
    · refine ⟨strDs N, rfl, ⟨fun z => hne (by unfold strDs at z; exact List.map_eq_nil_iff.mp z), by rw [strDs_length]; omega⟩, fun r hr => ?_, fun _ h => h⟩
      obtain ⟨x, hx, rfl⟩ := hr
      obtain ⟨v, hv, rfl⟩ := List.mem_map.mp hx
      exact ⟨.var v, rfl, hN v hv, by rw [Tm.size]; exact hm1, by rw [Tm.depth]; exact hd1, fun z hz => .inr (.inl (by rw [Tm.words, List.mem_singleton] at hz; subst hz; exact hv)), fun z hz => .inl (by rw [Tm.vars_var, List.mem_singleton] at hz; subst hz; exact hv)⟩
    · have hE : L = [] → N = [] ∧ ∀ k ∈ K, k.2 ≠ 0 := fun z => by
        refine ⟨?_, fun k hk hk0 => by have := hC k hk hk0; rw [z] at this; cases this⟩
        cases hn : N with
        | nil => rfl
        | cons a r => exact absurd z (hY (by rw [hn]; simp))
      dsimp only [dNext]
      refine seq_if (X := True) (Y := True) (fun P pt pf => ?_) (fun _ => ?_) (fun _ => ?_)
      · refine ite2 (fun _ => pt trivial) (fun _ => ite2 (fun _ => pt trivial) (fun _ => ?_))
        refine ⟨(4 : Int), rfl, ⟨by omega, by omega⟩, fun r hr => ?_, fun _ h => h⟩
        obtain ⟨d, _, _, rfl⟩ := hr
        exact ⟨shaped_int _, shaped_int _, b_true (P := P) (fun _ => pt trivial) (fun _ => pf trivial)⟩
      · refine ⟨fun i acc => ∃ L' : List (Str × Nat), acc = symDs L' ∧ L'.length ≤ i ∧ ∀ k ∈ L', k ∈ L, ⟨[], rfl, Nat.zero_le _, fun _ z => by cases z⟩, ?_, ?_⟩
        · rintro i x acc hx ⟨L', rfl, hl', hL'⟩
          obtain ⟨⟨f, a⟩, hfa, rfl⟩ := map_get hx
          have hik : i < L.length := by
            rcases Nat.lt_or_ge i L.length with z | z
            · exact z
            · rw [List.getElem?_eq_none z] at hfa; cases hfa
          refine ⟨shaped_int _, shaped_int _, ite2 (fun _ => ?_) (fun _ => ?_)⟩
          · refine ⟨sl' _ (by rw [symDs_length]; omega), L' ++ [(f, a)], by unfold symDs; rw [List.map_append]; rfl, by rw [List.length_append, List.length_singleton]; omega, fun k hk => ?_⟩
            rcases List.mem_append.mp hk with hk | hk
            · exact hL' k hk
            · rw [List.mem_singleton] at hk; subst hk; exact mem_get hfa
          · exact ⟨L', rfl, by omega, hL'⟩
        · rintro acc ⟨L', rfl, hl', hL'⟩
          rw [symDs_length] at hl'
          refine ite2 (fun eL => ?_) (fun _ => ?_)
          · exact .inl (last L' _ _ _ _ _ _ _ _ (by omega) (fun k hk => hL k (hL' k hk)) fun z => by subst z; cases eL)
          · exact last L _ _ _ _ _ _ _ _ hl hL hE
      · exact last L _ _ _ _ _ _ _ _ hl hL hE
end PL

namespace PL
open PySem PySem.Spec PyProof.Rows L2
/-! ### substitutions, with no program in sight -/
namespace Tm
mutual
def sub (g : Str → Tm) : Tm → Tm
  | .var x => g x
  | .app f ts => .app f (subs g ts)
def subs (g : Str → Tm) : List Tm → List Tm
  | [] => []
  | t :: r => t.sub g :: subs g r
end
theorem subs_map (g : Str → Tm) : ∀ ts : List Tm, subs g ts = ts.map (sub g)
  | [] => rfl
  | t :: r => by rw [subs, subs_map g r, List.map_cons]
mutual
theorem sub_sub (g h : Str → Tm) : ∀ t : Tm, (t.sub g).sub h = t.sub fun x => (g x).sub h
  | .var x => by rw [sub, sub]
  | .app f ts => by rw [sub, sub, sub, subs_subs g h ts]
theorem subs_subs (g h : Str → Tm) : ∀ ts : List Tm, subs h (subs g ts) = subs (fun x => (g x).sub h) ts
  | [] => rfl
  | t :: r => by rw [subs, subs, subs, sub_sub g h t, subs_subs g h r]
end
mutual
theorem sub_var : ∀ t : Tm, t.sub .var = t
  | .var x => rfl
  | .app f ts => by rw [sub, subs_var ts]
theorem subs_var : ∀ ts : List Tm, subs .var ts = ts
  | [] => rfl
  | t :: r => by rw [subs, sub_var t, subs_var r]
end
/-- the variables, as often as they stand -/
def occ (t : Tm) : List Str := t.parts.filterMap vname
def occs (ts : List Tm) : List Str := (partss ts).filterMap vname
theorem occ_var (x : Str) : occ (.var x) = [x] := rfl
theorem occ_app (f : Str) (ts : List Tm) : occ (.app f ts) = occs ts := by
  unfold occ occs
  rw [parts]
  rfl
theorem occs_nil : occs [] = [] := rfl
theorem occs_cons (t : Tm) (r : List Tm) : occs (t :: r) = t.occ ++ occs r := by
  unfold occ occs
  rw [partss, List.filterMap_append]
theorem mem_vars {t : Tm} {x : Str} : x ∈ t.vars ↔ x ∈ t.occ := by
  show x ∈ fa [] t.occ ↔ _
  rw [mem_fa]
  simp
theorem occs_mem {ts : List Tm} {x : Str} : x ∈ occs ts ↔ ∃ t, t ∈ ts ∧ x ∈ t.occ := by
  induction ts with
  | nil => simp [occs_nil]
  | cons t r ih => rw [occs_cons, List.mem_append, ih]; simp
mutual
theorem sub_congr {g h : Str → Tm} : ∀ t : Tm, (∀ x ∈ t.occ, g x = h x) → t.sub g = t.sub h
  | .var x, e => by rw [sub, sub]; exact e x (by rw [occ_var]; exact List.mem_cons_self)
  | .app f ts, e => by rw [sub, sub, subs_congr ts fun x hx => e x (by rw [occ_app]; exact hx)]
theorem subs_congr {g h : Str → Tm} : ∀ ts : List Tm, (∀ x ∈ occs ts, g x = h x) → subs g ts = subs h ts
  | [], _ => rfl
  | t :: r, e => by
    rw [subs, subs, sub_congr t fun x hx => e x (by rw [occs_cons]; exact List.mem_append_left _ hx), subs_congr r fun x hx => e x (by rw [occs_cons]; exact List.mem_append_right _ hx)]
end
mutual
theorem sub_inj {g h : Str → Tm} : ∀ t : Tm, t.sub g = t.sub h → ∀ x ∈ t.occ, g x = h x
  | .var y, e, x, hx => by
    rw [occ_var, List.mem_singleton] at hx
    subst hx
    rw [sub, sub] at e
    exact e
  | .app f ts, e, x, hx => by
    rw [sub, sub] at e
    rw [occ_app] at hx
    exact subs_inj ts (app.inj e).2 x hx
theorem subs_inj {g h : Str → Tm} : ∀ ts : List Tm, subs g ts = subs h ts → ∀ x ∈ occs ts, g x = h x
  | [], _, x, hx => by rw [occs_nil] at hx; cases hx
  | t :: r, e, x, hx => by
    rw [subs, subs] at e
    rw [occs_cons, List.mem_append] at hx
    rcases hx with hx | hx
    · exact sub_inj t (List.cons.inj e).1 x hx
    · exact subs_inj r (List.cons.inj e).2 x hx
end
mutual
theorem occ_sub (g : Str → Tm) : ∀ t : Tm, (t.sub g).occ = t.occ.flatMap fun x => (g x).occ
  | .var x => by rw [sub, occ_var, List.flatMap_singleton]
  | .app f ts => by rw [sub, occ_app, occ_app, occs_subs g ts]
theorem occs_subs (g : Str → Tm) : ∀ ts : List Tm, occs (subs g ts) = (occs ts).flatMap fun x => (g x).occ
  | [] => rfl
  | t :: r => by rw [subs, occs_cons, occs_cons, List.flatMap_append, occ_sub g t, occs_subs g r]
end
/-- variables with other names -/
def ren (f : Str → Str) (t : Tm) : Tm := t.sub fun x => .var (f x)
theorem occ_ren (f : Str → Str) (t : Tm) : (t.ren f).occ = t.occ.map f := by
  unfold ren
  rw [occ_sub]
  show t.occ.flatMap (fun x => [f x]) = _
  induction t.occ with
  | nil => rfl
  | cons x r ih => rw [List.flatMap_cons, List.map_cons, ih]; rfl
theorem ren_ren (f g : Str → Str) (t : Tm) : (t.ren f).ren g = t.ren fun x => g (f x) := by
  unfold ren
  rw [sub_sub]
  rfl
theorem ren_congr {f g : Str → Str} {t : Tm} (h : ∀ x ∈ t.occ, f x = g x) : t.ren f = t.ren g := sub_congr t fun x hx => by rw [h x hx]
theorem ren_inj {f g : Str → Str} {t : Tm} (h : t.ren f = t.ren g) : ∀ x ∈ t.occ, f x = g x := fun x hx => var.inj (sub_inj t h x hx)
theorem ren_id {f : Str → Str} {t : Tm} (h : ∀ x ∈ t.occ, f x = x) : t.ren f = t := by
  have e : t.ren f = t.ren fun x => x := ren_congr h
  rw [e]
  exact sub_var t
end Tm
/-! ### each once, under an injective map -/
section
variable {α β : Type} [DecidableEq α] [DecidableEq β]
theorem fa_map {f : α → β} : ∀ (l acc : List α), (∀ x ∈ acc ++ l, ∀ y ∈ acc ++ l, f x = f y → x = y) → fa (acc.map f) (l.map f) = (fa acc l).map f
  | [], acc, _ => rfl
  | x :: l, acc, h => by
    have e1 : fa (acc.map f) ((x :: l).map f) = fa (addNew (acc.map f) (f x)) (l.map f) := rfl
    have e2 : fa acc (x :: l) = fa (addNew acc x) l := rfl
    have e3 : addNew (acc.map f) (f x) = (addNew acc x).map f := by
      unfold addNew
      by_cases hx : x ∈ acc
      · rw [if_pos hx, if_pos (List.mem_map.mpr ⟨x, hx, rfl⟩)]
      · rw [if_neg hx, if_neg, List.map_append]
        · rfl
        · intro z
          obtain ⟨y, hy, e⟩ := List.mem_map.mp z
          have := h y (List.mem_append_left _ hy) x (List.mem_append_right _ List.mem_cons_self) e
          exact hx (this ▸ hy)
    rw [e1, e2, e3]
    refine fa_map l (addNew acc x) fun a ha b hb => ?_
    have m : ∀ a, a ∈ addNew acc x ++ l → a ∈ acc ++ x :: l := fun a ha => by
      rcases List.mem_append.mp ha with ha | ha
      · unfold addNew at ha
        split at ha
        · exact List.mem_append_left _ ha
        · rcases List.mem_append.mp ha with ha | ha
          · exact List.mem_append_left _ ha
          · rw [List.mem_singleton] at ha; subst ha; exact List.mem_append_right _ List.mem_cons_self
      · exact List.mem_append_right _ (List.mem_cons_of_mem _ ha)
    exact h a (m a ha) b (m b hb)
theorem dd_map {f : α → β} (l : List α) (h : ∀ x ∈ l, ∀ y ∈ l, f x = f y → x = y) : dd (l.map f) = (dd l).map f := fa_map l [] h
theorem fa_nodup : ∀ (l acc : List α), acc.Nodup → (fa acc l).Nodup
  | [], acc, h => h
  | x :: l, acc, h => by
    have e : fa acc (x :: l) = fa (addNew acc x) l := rfl
    rw [e]
    refine fa_nodup l _ ?_
    unfold addNew
    split
    · exact h
    · next hx =>
      rw [List.nodup_append]
      refine ⟨h, by simp, fun a ha b hb => ?_⟩
      rw [List.mem_singleton] at hb
      subst hb
      intro z
      subst z
      exact hx ha
theorem dd_nodup (l : List α) : (dd l).Nodup := fa_nodup l [] List.nodup_nil
/-- where it stands first -/
def ixOf (x : α) : List α → Nat
  | [] => 0
  | y :: r => if y = x then 0 else ixOf x r + 1
theorem ixOf_lt {x : α} : ∀ {l : List α}, x ∈ l → ixOf x l < l.length
  | y :: r, h => by
    unfold ixOf
    by_cases e : y = x
    · rw [if_pos e]; exact Nat.succ_pos _
    · rw [if_neg e]
      rcases List.mem_cons.mp h with z | h
      · exact absurd z.symm e
      · exact Nat.succ_lt_succ (ixOf_lt h)
theorem ixOf_get {x : α} : ∀ {l : List α}, x ∈ l → l[ixOf x l]? = some x
  | y :: r, h => by
    unfold ixOf
    by_cases e : y = x
    · rw [if_pos e]; subst e; rfl
    · rw [if_neg e]
      rcases List.mem_cons.mp h with z | h
      · exact absurd z.symm e
      · exact ixOf_get h
theorem ixOf_inj {x y : α} {l : List α} (hx : x ∈ l) (hy : y ∈ l) (e : ixOf x l = ixOf y l) : x = y := by
  have h1 := ixOf_get hx
  rw [e, ixOf_get hy] at h1
  exact (Option.some.inj h1).symm
theorem ixOf_nodup {l : List α} (nd : l.Nodup) {i : Nat} {x : α} (h : l[i]? = some x) : ixOf x l = i := by
  induction l generalizing i with
  | nil => simp at h
  | cons y r ih =>
    unfold ixOf
    cases i with
    | zero => simp at h; rw [if_pos h]
    | succ i =>
      have h : r[i]? = some x := by simpa using h
      have : y ≠ x := fun e => (List.nodup_cons.mp nd).1 (e ▸ List.mem_of_getElem? h)
      rw [if_neg this, ih (List.nodup_cons.mp nd).2 h]
theorem ixOf_map {f : α → β} {x : α} : ∀ {l : List α}, (∀ y ∈ l, f y = f x → y = x) → ixOf (f x) (l.map f) = ixOf x l
  | [], _ => rfl
  | y :: r, h => by
    rw [List.map_cons]
    unfold ixOf
    by_cases e : y = x
    · rw [if_pos e, if_pos (by rw [e])]
    · rw [if_neg e, if_neg fun z => e (h y List.mem_cons_self z), ixOf_map fun z hz => h z (List.mem_cons_of_mem _ hz)]
end
namespace Tm
theorem vars_ren {f : Str → Str} {t : Tm} (h : ∀ x ∈ t.occ, ∀ y ∈ t.occ, f x = f y → x = y) : (t.ren f).vars = t.vars.map f := by
  show dd (t.ren f).occ = (dd t.occ).map f
  rw [occ_ren, dd_map _ h]
/-! ### numbered variables -/
def uN (k : Nat) : Str := "u" ++ Str.ofString (toString (k : Int))
/-- few numbers, each its own name -/
theorem uN_inj : ∀ i < 64, ∀ j < 64, uN i = uN j → i = j := by decide +kernel
def canon (t : Tm) : Tm := t.ren fun x => uN (ixOf x t.vars)
theorem canon_fun_inj {t : Tm} (hl : t.vars.length ≤ 64) : ∀ x ∈ t.occ, ∀ y ∈ t.occ, uN (ixOf x t.vars) = uN (ixOf y t.vars) → x = y := fun x hx y hy e => by
  have hx := mem_vars.mpr hx
  have hy := mem_vars.mpr hy
  exact ixOf_inj hx hy (uN_inj _ (Nat.lt_of_lt_of_le (ixOf_lt hx) hl) _ (Nat.lt_of_lt_of_le (ixOf_lt hy) hl) e)
/-- another name for each variable: the same numbered term -/
theorem canon_ren {f : Str → Str} {t : Tm} (h : ∀ x ∈ t.occ, ∀ y ∈ t.occ, f x = f y → x = y) : (t.ren f).canon = t.canon := by
  unfold canon
  rw [ren_ren, vars_ren h]
  refine ren_congr fun x hx => ?_
  show uN (ixOf (f x) (t.vars.map f)) = _
  rw [ixOf_map fun y hy e => h y (mem_vars.mp hy) x hx e]
theorem canon_canon {t : Tm} (hl : t.vars.length ≤ 64) : t.canon.canon = t.canon := canon_ren (canon_fun_inj hl)
/-- one numbered term: one is the other with other names, one to one -/
theorem canon_eq {s t : Tm} (hs : s.vars.length ≤ 64) (ht : t.vars.length ≤ 64) (e : s.canon = t.canon) : ∃ f : Str → Str, t = s.ren f ∧ ∀ x ∈ s.occ, ∀ y ∈ s.occ, f x = f y → x = y := by
  have key : ∀ {t : Tm}, t.vars.length ≤ 64 → ∃ g : Str → Str, ∀ x ∈ t.occ, g (uN (ixOf x t.vars)) = x := fun {t} ht => by
    refine ⟨fun z => (t.vars.find? fun x => decide (uN (ixOf x t.vars) = z)).getD "", fun x hx => ?_⟩
    cases z : t.vars.find? fun y => decide (uN (ixOf y t.vars) = uN (ixOf x t.vars)) with
    | none =>
      have := List.find?_eq_none.mp z x (mem_vars.mpr hx)
      simp at this
    | some y =>
      have h1 := List.find?_some z
      have h2 := List.mem_of_find?_eq_some z
      have h1 : uN (ixOf y t.vars) = uN (ixOf x t.vars) := of_decide_eq_true h1
      show (t.vars.find? fun y => decide (uN (ixOf y t.vars) = uN (ixOf x t.vars))).getD _ = x
      rw [z]
      exact canon_fun_inj ht y (mem_vars.mp h2) x hx h1
  obtain ⟨gs, hgs⟩ := key hs
  obtain ⟨gt, hgt⟩ := key ht
  have e1 : t = s.ren fun x => gt (uN (ixOf x s.vars)) := by
    have h1 : t.canon.ren gt = t := by
      unfold canon
      rw [ren_ren]
      exact ren_id hgt
    rw [← h1, ← e]
    unfold canon
    rw [ren_ren]
  have e2 : s = t.ren fun x => gs (uN (ixOf x t.vars)) := by
    have h1 : s.canon.ren gs = s := by
      unfold canon
      rw [ren_ren]
      exact ren_id hgs
    rw [← h1, e]
    unfold canon
    rw [ren_ren]
  refine ⟨_, e1, fun x hx y hy h => ?_⟩
  have back : ∀ x ∈ s.occ, gs (uN (ixOf (gt (uN (ixOf x s.vars))) t.vars)) = x := by
    have e3 : s.ren (fun x => gs (uN (ixOf (gt (uN (ixOf x s.vars))) t.vars))) = s.ren fun x => x := by
      have e4 : (s.ren fun x => gt (uN (ixOf x s.vars))).ren (fun x => gs (uN (ixOf x t.vars))) = s.ren (fun x => gs (uN (ixOf (gt (uN (ixOf x s.vars))) t.vars))) := ren_ren _ _ _
      rw [← e4, ← e1, ← e2]
      exact (ren_id fun _ _ => rfl).symm
    exact ren_inj e3
  rw [← back x hx, ← back y hy]
  exact congrArg (fun z => gs (uN (ixOf z t.vars))) h
/-- each matches the other: variants -/
def vn : Tm → Str
  | .var y => y
  | .app _ _ => ""
theorem variants_of {s t : Tm} {g h : Str → Tm} (e1 : s.sub g = t) (e2 : t.sub h = s) : ∃ f : Str → Str, t = s.ren f ∧ ∀ x ∈ s.occ, ∀ y ∈ s.occ, f x = f y → x = y := by
  have e3 : s.sub (fun x => (g x).sub h) = s.sub .var := by rw [← sub_sub, e1, e2, sub_var]
  have k : ∀ x ∈ s.occ, (g x).sub h = .var x := sub_inj s e3
  refine ⟨fun x => vn (g x), ?_, fun x hx y hy e => ?_⟩
  · rw [← e1]
    refine sub_congr s fun x hx => ?_
    have := k x hx
    cases z : g x with
    | var y => show _ = Tm.var (vn (g x)); rw [z]; rfl
    | app f ts => rw [z, sub] at this; cases this
  · have e : vn (g x) = vn (g y) := e
    have k1 := k x hx
    have k2 := k y hy
    cases z1 : g x with
    | app f ts => rw [z1, sub] at k1; cases k1
    | var a =>
      cases z2 : g y with
      | app f ts => rw [z2, sub] at k2; cases k2
      | var b =>
        rw [z1, z2] at e
        have e : a = b := e
        subst e
        rw [z1] at k1
        rw [z2, k1] at k2
        exact var.inj k2
theorem canon_iff {s t : Tm} (hs : s.vars.length ≤ 64) (ht : t.vars.length ≤ 64) : s.canon = t.canon ↔ (∃ g, s.sub g = t) ∧ ∃ h, t.sub h = s := by
  constructor
  · intro e
    obtain ⟨f, e1, _⟩ := canon_eq hs ht e
    obtain ⟨f', e2, _⟩ := canon_eq ht hs e.symm
    exact ⟨⟨_, e1.symm⟩, ⟨_, e2.symm⟩⟩
  · rintro ⟨⟨g, e1⟩, ⟨h, e2⟩⟩
    obtain ⟨f, e, inj⟩ := variants_of e1 e2
    rw [e]
    exact (canon_ren inj).symm
theorem canon_table {t : Tm} {f : Str → Str} (ht : t.vars.length ≤ 64) (hf : (t.ren f).vars.length ≤ 64) : (t.ren f).canon = t.canon ↔ ∀ x ∈ t.occ, ∀ y ∈ t.occ, f x = f y → x = y := by
  constructor
  · intro e
    obtain ⟨f', e1, inj⟩ := canon_eq ht hf e.symm
    have same := ren_inj e1
    exact fun x hx y hy e => inj x hx y hy (by rw [← same x hx, ← same y hy]; exact e)
  · exact canon_ren
end Tm
end PL

namespace PL
open PySem PySem.Spec PyProof.Rows L2
/-! ### tables from variables to terms -/
abbrev Tb := List (Str × Tm)
def look : Tb → Str → Option Tm
  | [], _ => none
  | p :: r, x => if p.1 = x then some p.2 else look r x
def tblD (s : Tb) : List (Key × D) := s.map fun p => (.inr p.1, p.2.d)
def keysT (s : Tb) : List Str := s.map (·.1)
theorem valD_tbl (x : Str) : ∀ s : Tb, valD (tblD s) (.inr x) = (look s x).map Tm.d
  | [] => rfl
  | p :: r => by
    show (if (Sum.inr p.1 : Key) = .inr x then some p.2.d else valD (tblD r) (.inr x)) = _
    unfold look
    by_cases e : p.1 = x
    · rw [if_pos e, if_pos (by rw [e])]; rfl
    · rw [if_neg e, if_neg fun z => e (Sum.inr.inj z), valD_tbl x r]
theorem tblD_length (s : Tb) : (tblD s).length = s.length := by unfold tblD; rw [List.length_map]
theorem look_none {x : Str} : ∀ {s : Tb}, look s x = none ↔ x ∉ keysT s
  | [] => by simp [look, keysT]
  | p :: r => by
    unfold look keysT
    rw [List.map_cons, List.mem_cons, not_or]
    by_cases e : p.1 = x
    · rw [if_pos e]
      exact ⟨fun h => (by cases h), fun h => absurd e.symm h.1⟩
    · rw [if_neg e, look_none (s := r)]
      exact ⟨fun h => ⟨fun z => e z.symm, h⟩, fun h => h.2⟩
theorem look_mem {x : Str} {u : Tm} : ∀ {s : Tb}, look s x = some u → (x, u) ∈ s
  | p :: r, h => by
    unfold look at h
    by_cases e : p.1 = x
    · rw [if_pos e] at h; cases h; subst e; exact List.mem_cons_self
    · rw [if_neg e] at h; exact List.mem_cons_of_mem _ (look_mem h)
theorem look_of {x : Str} {u : Tm} : ∀ {s : Tb}, (keysT s).Nodup → (x, u) ∈ s → look s x = some u
  | p :: r, nd, h => by
    unfold keysT at nd
    rw [List.map_cons, List.nodup_cons] at nd
    unfold look
    rcases List.mem_cons.mp h with e | h
    · subst e; rw [if_pos rfl]
    · have : p.1 ≠ x := fun e => nd.1 (List.mem_map.mpr ⟨_, h, e.symm⟩)
      rw [if_neg this]
      exact look_of nd.2 h
theorem look_snoc {x y : Str} {u : Tm} : ∀ {s : Tb}, look (s ++ [(y, u)]) x = match look s x with | some w => some w | none => if y = x then some u else none
  | [] => by unfold look; unfold look; rfl
  | p :: r => by
    rw [List.cons_append]
    unfold look
    by_cases e : p.1 = x
    · rw [if_pos e, if_pos e]
    · rw [if_neg e, if_neg e, look_snoc (s := r)]
def lk (s : Tb) (x : Str) : Tm := (look s x).getD (.var x)
namespace Tm
theorem mem_size {g : Str → Tm} : True := trivial
theorem size_sub_args (g : Str → Tm) (f : Str) (ts : List Tm) : ((app f ts).sub g).size = 1 + sizes (subs g ts) := by rw [sub, size]
theorem depth_sub_args (g : Str → Tm) (f : Str) (ts : List Tm) : ((app f ts).sub g).depth = 1 + depths (subs g ts) := by rw [sub, depth]
mutual
theorem sub_ok {g : Str → Tm} : ∀ t : Tm, t.ok = true → (∀ x ∈ t.occ, (g x).ok = true) → (t.sub g).ok = true
  | .var x, _, h => by rw [sub]; exact h x (by rw [occ_var]; exact List.mem_cons_self)
  | .app f ts, ht, h => by
    rw [ok, Bool.and_eq_true] at ht
    rw [sub, ok, Bool.and_eq_true]
    exact ⟨ht.1, subs_ok ts ht.2 fun x hx => h x (by rw [occ_app]; exact hx)⟩
theorem subs_ok {g : Str → Tm} : ∀ ts : List Tm, oks ts = true → (∀ x ∈ occs ts, (g x).ok = true) → oks (subs g ts) = true
  | [], _, _ => rfl
  | t :: r, ht, h => by
    rw [oks, Bool.and_eq_true] at ht
    rw [subs, oks, Bool.and_eq_true]
    exact ⟨sub_ok t ht.1 fun x hx => h x (by rw [occs_cons]; exact List.mem_append_left _ hx), subs_ok r ht.2 fun x hx => h x (by rw [occs_cons]; exact List.mem_append_right _ hx)⟩
end
mutual
/-- sizes: each variable's term at most n nodes, d deep -/
theorem size_sub_le {g : Str → Tm} {n : Nat} (hn : 1 ≤ n) : ∀ t : Tm, (∀ x ∈ t.occ, (g x).size ≤ n) → (t.sub g).size ≤ n * t.size
  | .var x, h => by rw [sub, size, Nat.mul_one]; exact h x (by rw [occ_var]; exact List.mem_cons_self)
  | .app f ts, h => by
    have := sizes_sub_le hn ts fun x hx => h x (by rw [occ_app]; exact hx)
    rw [sub, size, size, Nat.mul_add, Nat.mul_one]
    omega
theorem sizes_sub_le {g : Str → Tm} {n : Nat} (hn : 1 ≤ n) : ∀ ts : List Tm, (∀ x ∈ occs ts, (g x).size ≤ n) → sizes (subs g ts) ≤ n * sizes ts
  | [], _ => Nat.zero_le _
  | t :: r, h => by
    have h1 := size_sub_le hn t fun x hx => h x (by rw [occs_cons]; exact List.mem_append_left _ hx)
    have h2 := sizes_sub_le hn r fun x hx => h x (by rw [occs_cons]; exact List.mem_append_right _ hx)
    rw [subs, sizes, sizes, Nat.mul_add]
    omega
end
mutual
theorem depth_sub_le {g : Str → Tm} {d : Nat} : ∀ t : Tm, (∀ x ∈ t.occ, (g x).depth ≤ d + 1) → (t.sub g).depth ≤ t.depth + d
  | .var x, h => by rw [sub, depth]; have := h x (by rw [occ_var]; exact List.mem_cons_self); omega
  | .app f ts, h => by
    have := depths_sub_le ts fun x hx => h x (by rw [occ_app]; exact hx)
    rw [sub, depth, depth]
    cases ts with
    | nil => rw [subs, depths]; omega
    | cons _ _ => have := this (by simp); omega
theorem depths_sub_le {g : Str → Tm} {d : Nat} : ∀ ts : List Tm, (∀ x ∈ occs ts, (g x).depth ≤ d + 1) → ts ≠ [] → depths (subs g ts) ≤ depths ts + d
  | [], _, h => absurd rfl h
  | [t], h, _ => by
    have h1 := depth_sub_le t fun x hx => h x (by rw [occs_cons]; exact List.mem_append_left _ hx)
    rw [subs, subs, depths, depths, depths, depths]
    omega
  | t :: u :: r, h, _ => by
    have h1 := depth_sub_le t fun x hx => h x (by rw [occs_cons]; exact List.mem_append_left _ hx)
    have h2 := depths_sub_le (u :: r) (fun x hx => h x (by rw [occs_cons]; exact List.mem_append_right _ hx)) (by simp)
    rw [subs, depths, depths]
    omega
end
theorem size_ren (f : Str → Str) (t : Tm) : (t.ren f).size = t.size := by
  have go : (∀ t : Tm, (t.ren f).size = t.size) := by
    intro t
    unfold ren
    have := @Tm.rec (fun t => (t.sub fun x => var (f x)).size = t.size) (fun ts => sizes (subs (fun x => var (f x)) ts) = sizes ts) (fun x => by rw [sub, size, size]) (fun g ts ih => by rw [sub, size, size, ih]) (by rw [subs]) (fun t r h1 h2 => by rw [subs, sizes, sizes, h1, h2]) t
    exact this
  exact go t
theorem depth_ren (f : Str → Str) (t : Tm) : (t.ren f).depth = t.depth := by
  unfold ren
  exact @Tm.rec (fun t => (t.sub fun x => var (f x)).depth = t.depth) (fun ts => depths (subs (fun x => var (f x)) ts) = depths ts) (fun x => by rw [sub, depth, depth]) (fun g ts ih => by rw [sub, depth, depth, ih]) (by rw [subs]) (fun t r h1 h2 => by rw [subs, depths, depths, h1, h2]) t
theorem vars_le_size (t : Tm) : t.vars.length ≤ t.size := vars_length t
end Tm
/-! ### matching -/
/-- the table is all that makes p the term t -/
structure Mat (s : Tb) (p t : Tm) : Prop where
  nd : (keysT s).Nodup
  keys : ∀ x, x ∈ keysT s ↔ x ∈ p.occ
  sub : p.sub (lk s) = t
def Fits (s : Tb) (st : List (Tm × Tm)) (g : Str → Tm) : Prop := (∀ q ∈ s, g q.1 = q.2) ∧ ∀ q ∈ st, q.1.sub g = q.2
structure MInv (p t : Tm) (s : Tb) (st : List (Tm × Tm)) : Prop where
  nd : (keysT s).Nodup
  fits : ∀ g, Fits s st g ↔ p.sub g = t
  keys : ∀ x, (x ∈ keysT s ∨ ∃ q ∈ st, x ∈ q.1.occ) ↔ x ∈ p.occ
theorem MInv.start (p t : Tm) : MInv p t [] [(p, t)] := by
  refine ⟨List.nodup_nil, fun g => ⟨fun h => h.2 _ List.mem_cons_self, fun h => ⟨(fun q z => by cases z), fun q hq => ?_⟩⟩, fun x => ?_⟩
  · rw [List.mem_singleton.mp hq]; exact h
  · unfold keysT; simp
theorem MInv.done {p t : Tm} {s : Tb} (h : MInv p t s []) : Mat s p t := by
  refine ⟨h.nd, fun x => ?_, (h.fits _).mp ⟨fun q hq => ?_, fun q z => by cases z⟩⟩
  · rw [← h.keys x]; simp
  · show (look s q.1).getD _ = _
    rw [look_of h.nd (show (q.1, q.2) ∈ s from hq)]
    rfl
/-- a variable that is known -/
theorem MInv.known {p t : Tm} {s : Tb} {st : List (Tm × Tm)} {x : Str} {u : Tm} (h : MInv p t s (st ++ [(.var x, u)])) (hx : look s x = some u) : MInv p t s st := by
  have hm := look_mem hx
  refine ⟨h.nd, fun g => ?_, fun y => ?_⟩
  · rw [← h.fits g]
    constructor
    · intro ⟨h1, h2⟩
      refine ⟨h1, fun q hq => ?_⟩
      rcases List.mem_append.mp hq with hq | hq
      · exact h2 q hq
      · rw [List.mem_singleton.mp hq]; exact h1 _ hm
    · exact fun ⟨h1, h2⟩ => ⟨h1, fun q hq => h2 q (List.mem_append_left _ hq)⟩
  · rw [← h.keys y]
    constructor
    · rintro (z | ⟨q, hq, hy⟩)
      · exact .inl z
      · exact .inr ⟨q, List.mem_append_left _ hq, hy⟩
    · rintro (z | ⟨q, hq, hy⟩)
      · exact .inl z
      · rcases List.mem_append.mp hq with hq | hq
        · exact .inr ⟨q, hq, hy⟩
        · rw [List.mem_singleton.mp hq, Tm.occ_var, List.mem_singleton] at hy
          subst hy
          exact .inl (List.mem_map.mpr ⟨_, hm, rfl⟩)
theorem MInv.clash {p t : Tm} {s : Tb} {st : List (Tm × Tm)} {x : Str} {u w : Tm} (h : MInv p t s (st ++ [(.var x, u)])) (hx : look s x = some w) (ne : w ≠ u) : ∀ g, p.sub g ≠ t := fun g e => by
  obtain ⟨h1, h2⟩ := (h.fits g).mpr e
  have e1 := h1 _ (look_mem hx)
  have e2 := h2 _ (List.mem_append_right _ List.mem_cons_self)
  exact ne (e1.symm.trans e2)
/-- a new one -/
theorem MInv.new {p t : Tm} {s : Tb} {st : List (Tm × Tm)} {x : Str} {u : Tm} (h : MInv p t s (st ++ [(.var x, u)])) (hx : look s x = none) : MInv p t (s ++ [(x, u)]) st := by
  have hn := look_none.mp hx
  refine ⟨?_, fun g => ?_, fun y => ?_⟩
  · unfold keysT at hn ⊢
    rw [List.map_append, List.nodup_append]
    refine ⟨h.nd, by simp, fun a ha b hb => ?_⟩
    rw [List.map_cons, List.map_nil, List.mem_singleton] at hb
    subst hb
    intro z
    subst z
    exact hn ha
  · rw [← h.fits g]
    constructor
    · intro ⟨h1, h2⟩
      refine ⟨fun q hq => h1 q (List.mem_append_left _ hq), fun q hq => ?_⟩
      rcases List.mem_append.mp hq with hq | hq
      · exact h2 q hq
      · rw [List.mem_singleton.mp hq]; exact h1 _ (List.mem_append_right _ List.mem_cons_self)
    · intro ⟨h1, h2⟩
      refine ⟨fun q hq => ?_, fun q hq => h2 q (List.mem_append_left _ hq)⟩
      rcases List.mem_append.mp hq with hq | hq
      · exact h1 q hq
      · rw [List.mem_singleton.mp hq]; exact h2 (.var x, u) (List.mem_append_right _ List.mem_cons_self)
  · rw [← h.keys y]
    unfold keysT
    rw [List.map_append, List.mem_append]
    constructor
    · rintro ((z | z) | ⟨q, hq, hy⟩)
      · exact .inl z
      · rw [List.map_cons, List.map_nil, List.mem_singleton] at z
        subst z
        exact .inr ⟨_, List.mem_append_right _ List.mem_cons_self, by rw [Tm.occ_var]; exact List.mem_cons_self⟩
      · exact .inr ⟨q, List.mem_append_left _ hq, hy⟩
    · rintro (z | ⟨q, hq, hy⟩)
      · exact .inl (.inl z)
      · rcases List.mem_append.mp hq with hq | hq
        · exact .inr ⟨q, hq, hy⟩
        · rw [List.mem_singleton.mp hq, Tm.occ_var, List.mem_singleton] at hy
          subst hy
          exact .inl (.inr (by simp))
theorem subs_zip {g : Str → Tm} : ∀ {ts us : List Tm}, ts.length = us.length → (Tm.subs g ts = us ↔ ∀ q ∈ ts.zip us, q.1.sub g = q.2)
  | [], [], _ => by simp [Tm.subs]
  | t :: r, u :: v, h => by
    rw [Tm.subs, List.zip_cons_cons, List.cons.injEq, subs_zip (by simpa using h)]
    simp
/-- two that begin alike -/
theorem MInv.inner {p t : Tm} {s : Tb} {st more : List (Tm × Tm)} {f : Str} {ts us : List Tm} (h : MInv p t s (st ++ [(.app f ts, .app f us)])) (hl : ts.length = us.length) (hm : ∀ q, q ∈ more ↔ q ∈ ts.zip us) : MInv p t s (st ++ more) := by
  refine ⟨h.nd, fun g => ?_, fun y => ?_⟩
  · rw [← h.fits g]
    have key : (∀ q ∈ more, q.1.sub g = q.2) ↔ (Tm.app f ts).sub g = .app f us := by
      rw [Tm.sub, Tm.app.injEq, subs_zip hl]
      exact ⟨fun z => ⟨rfl, fun q hq => z q ((hm q).mpr hq)⟩, fun z q hq => z.2 q ((hm q).mp hq)⟩
    constructor
    · intro ⟨h1, h2⟩
      refine ⟨h1, fun q hq => ?_⟩
      rcases List.mem_append.mp hq with hq | hq
      · exact h2 q (List.mem_append_left _ hq)
      · rw [List.mem_singleton.mp hq]
        exact key.mp fun q hq => h2 q (List.mem_append_right _ hq)
    · intro ⟨h1, h2⟩
      refine ⟨h1, fun q hq => ?_⟩
      rcases List.mem_append.mp hq with hq | hq
      · exact h2 q (List.mem_append_left _ hq)
      · exact key.mpr (h2 _ (List.mem_append_right _ List.mem_cons_self)) q hq
  · rw [← h.keys y]
    have key : (∃ q ∈ more, y ∈ q.1.occ) ↔ y ∈ (Tm.app f ts).occ := by
      rw [Tm.occ_app, Tm.occs_mem]
      constructor
      · rintro ⟨q, hq, hy⟩
        exact ⟨q.1, (List.of_mem_zip (show (q.1, q.2) ∈ _ from (hm q).mp hq)).1, hy⟩
      · rintro ⟨u, hu, hy⟩
        obtain ⟨i, hi⟩ := List.mem_iff_getElem?.mp hu
        have hlt : i < us.length := by
          rw [← hl]
          rcases Nat.lt_or_ge i ts.length with z | z
          · exact z
          · rw [List.getElem?_eq_none z] at hi; cases hi
        have hz : (ts.zip us)[i]? = some (u, us[i]) := by
          rw [List.getElem?_zip_eq_some]
          exact ⟨hi, List.getElem?_eq_getElem hlt⟩
        exact ⟨(u, us[i]), (hm _).mpr (List.mem_of_getElem? hz), hy⟩
    constructor
    · rintro (z | ⟨q, hq, hy⟩)
      · exact .inl z
      · rcases List.mem_append.mp hq with hq | hq
        · exact .inr ⟨q, List.mem_append_left _ hq, hy⟩
        · exact .inr ⟨_, List.mem_append_right _ List.mem_cons_self, key.mp ⟨q, hq, hy⟩⟩
    · rintro (z | ⟨q, hq, hy⟩)
      · exact .inl z
      · rcases List.mem_append.mp hq with hq | hq
        · exact .inr ⟨q, List.mem_append_left _ hq, hy⟩
        · rw [List.mem_singleton.mp hq] at hy
          obtain ⟨q', hq', hy'⟩ := key.mpr hy
          exact .inr ⟨q', List.mem_append_right _ hq', hy'⟩
theorem MInv.none {p t a b : Tm} {s : Tb} {st : List (Tm × Tm)} (h : MInv p t s (st ++ [(a, b)])) (ne : ∀ g, a.sub g ≠ b) : ∀ g, p.sub g ≠ t := fun g e => ne g (((h.fits g).mpr e).2 _ (List.mem_append_right _ List.mem_cons_self))
end PL

namespace PL
open PySem PySem.Spec PyProof.Rows L2
/-! ### promises of the defs on substitutions -/
def ct_lam_apply : Ct := { α := Str × Tb, args := fun y => [.d (.str y.1), .b (.kk (tblD y.2))], pre := fun _ => True, post := fun y r => r = .d (lk y.2 y.1).d, exc := fun _ _ => False }
def ct_lam_rename : Ct := { α := Str × Str, args := fun y => [.d (.str y.1), .d (.str y.2)], pre := fun y => y.1.length + y.2.length ≤ sizeLine, post := fun y r => r = .d (.str (y.1 ++ y.2)), exc := fun _ _ => False }
def gc_rebuilt : GC := fun r fn P => ∃ (t : Tm) (g : Str → Tm), r = .d t.d ∧ t.size ≤ 10000 ∧ (∀ x ∈ t.occ, fn (.d (.str x)) (fun r => r = .d (g x).d)) ∧ P (.d (t.sub g).d)
def TbOk (s : Tb) : Prop := s.length ≤ 10000 ∧ ∀ p ∈ s, p.2.size ≤ 10000
def ct_measure : Ct := { α := Tb × Tm, args := fun y => [.b (.kk (tblD y.1)), .d y.2.d], pre := fun y => TbOk y.1 ∧ y.2.size ≤ 10000, post := fun y r => r = .d (.tup [.int (y.2.sub (lk y.1)).size, .int (y.2.sub (lk y.1)).depth]), exc := fun _ _ => False }
def ct_apply : Ct := { α := Tb × Tm, args := fun y => [.b (.kk (tblD y.1)), .d y.2.d], pre := fun y => TbOk y.1 ∧ y.2.size ≤ 10000 ∧ (y.2.sub (lk y.1)).size ≤ 400 ∧ (y.2.sub (lk y.1)).depth ≤ 40, post := fun y r => r = .d (y.2.sub (lk y.1)).d, exc := fun _ _ => False }
def ct_rename : Ct := { α := Tm × Str, args := fun y => [.d y.1.d, .d (.str y.2)], pre := fun y => y.1.size ≤ 10000 ∧ ∀ x ∈ y.1.occ, x.length + y.2.length ≤ sizeLine, post := fun y r => r = .d (y.1.ren fun x => x ++ y.2).d, exc := fun _ _ => False }
def ct_canonical : Ct := ctT (fun t => .d t.canon.d) fun t => t.size ≤ 400 ∧ t.depth ≤ 40 ∧ t.vars.length ≤ 64
def ct__law_apply (n : Nat) : Ct := { α := Tb × Tm, args := fun y => [.b (.kk (tblD y.1)), .d y.2.d], pre := fun y => y.2.depth ≤ n ∧ y.2.size ≤ 10000, post := fun y r => r = .d (y.2.sub (lk y.1)).d, exc := fun _ _ => False }
def ct__law_marked (n : Nat) : Ct := { α := Tm × Str, args := fun y => [.d y.1.d, .d (.str y.2)], pre := fun y => y.1.depth ≤ n ∧ y.1.size ≤ 10000 ∧ ∀ x ∈ y.1.occ, x.length + y.2.length ≤ sizeLine, post := fun y r => r = .d (y.1.ren fun x => x ++ y.2).d, exc := fun _ _ => False }
def ctMatch : Ct := { α := Tm × Tm, args := fun y => [.d y.1.d, .d y.2.d], pre := fun y => (y.1.ok = true ∧ y.1.size ≤ 10000 ∧ y.1.depth ≤ 32) ∧ y.2.ok = true ∧ y.2.size ≤ 10000 ∧ y.2.depth ≤ 32, post := fun y r => (∃ s, r = .n (.dk (tblD s)) ∧ Mat s y.1 y.2) ∨ (r = .d .non ∧ ∀ g, y.1.sub g ≠ y.2), exc := fun _ _ => False }
def ct__law_match : Ct := ctMatch
def ct__law_canonical : Ct := ctT (fun t => .d t.canon.d) fun t => t.ok = true ∧ t.size ≤ 400 ∧ t.depth ≤ 40 ∧ t.vars.length ≤ 64
end PL

namespace PL
open PySem PySem.Spec PyProof.Rows L2
def ds_lam_apply : DE := (dGet2D (dVar 1) (dVar 0) (dVar 0))
def ds_lam_rename : DE := (dOp fAdd (dVar 0) (dVar 1))
def ds_rebuilt (f_change : Addr) (k_change : Hp → Prop) (C_change : Ct) (s_change : List R) : DS := (dSeq (dSet 2 (dLst aNil))
    (dSeq (dSet 3 (dLst (aCons (dTup (aCons (dVar 0) (aCons (dC (.bl false)) aNil))) aNil)))
    (dSeq (dWhile (tdT (dVar 3)) (dSeq (dPop 3 (dgTup 2 (dgCons (dgName 4) (dgCons (dgName 5) dgNil))))
    (dIfS (tdT (dCall (ct_is_variable) (aCons (dVar 4) aNil))) (dApp 2 (dFn 1 f_change k_change C_change s_change (dVar 4))) (dIfS (tdT (dVar 5)) (dSeq (dSet 6 (dCB fLen (aCons (dOp fIx (dVar 4) (dC (.int 1))) aNil)))
    (dSeq (dSet 7 (dSl (dVar 2) (oSome (dOp (fI0 fun i j => .int (i - j)) (dCB fLen (aCons (dVar 2) aNil)) (dVar 6))) oNone))
    (dSeq (dSet 2 (dSl (dVar 2) oNone (oSome (dOp (fI0 fun i j => .int (i - j)) (dCB fLen (aCons (dVar 2) aNil)) (dVar 6)))))
    (dApp 2 (dTup (aCons (dOp fIx (dVar 4) (dC (.int 0))) (aCons (dCB fTuple (aCons (dVar 7) aNil)) aNil))))))) (dSeq (dApp 3 (dTup (aCons (dVar 4) (aCons (dC (.bl true)) aNil))))
    (dExt 3 (dLc (iTp (dRev (dOp fIx (dVar 4) (dC (.int 1))))) (dgName 8) tdYes (dTup (aCons (dVar 8) (aCons (dC (.bl false)) aNil))) [8])))))))
    (dRet (dOp fIx (dVar 2) (dC (.int 0)))))))
def ds_measure  : DS := (dSeq (dSet 2 (dC (.int 0)))
    (dSeq (dSet 3 (dC (.int 0)))
    (dSeq (dSet 4 (dDc (iTp (dCall (ct_variables) (aCons (dVar 1) aNil))) (dgName 9) (tdB (dInD false (dVar 9) (dVar 0))) (dVar 9) (dTup (aCons (dCall (ct_size) (aCons (dGetD (dVar 0) (dVar 9)) aNil)) (aCons (dCall (ct_depth) (aCons (dGetD (dVar 0) (dVar 9)) aNil)) aNil))) [9]))
    (dSeq (dSet 5 (dLst (aCons (dTup (aCons (dVar 1) (aCons (dC (.int 0)) aNil))) aNil)))
    (dSeq (dWhile (tdT (dVar 5)) (dSeq (dPop 5 (dgTup 2 (dgCons (dgName 6) (dgCons (dgName 7) dgNil))))
    (dSeq (dSet 8 (dIf (tdT (dCall (ct_is_variable) (aCons (dVar 6) aNil))) (dGet2D (dVar 4) (dVar 6) (dTup (aCons (dC (.int 1)) (aCons (dC (.int 1)) aNil)))) (dTup (aCons (dC (.int 1)) (aCons (dC (.int 1)) aNil)))))
    (dSeq (dAugI 2 (fun x y => x + y) (dOp fIx (dVar 8) (dC (.int 0))))
    (dSeq (dSet 3 (dCB fMax2 (aCons (dVar 3) (aCons (dOp fAdd (dVar 7) (dOp fIx (dVar 8) (dC (.int 1)))) aNil))))
    (dExt 5 (dLc (iTp (dCall (ct_inner) (aCons (dVar 6) aNil))) (dgName 10) tdYes (dTup (aCons (dVar 10) (aCons (dOp fAdd (dVar 7) (dC (.int 1))) aNil))) [10])))))))
    (dRet (dTup (aCons (dVar 2) (aCons (dVar 3) aNil)))))))))
def ds_apply  : DS := (dSeq (dUnp (dCall (ct_measure) (aCons (dVar 0) (aCons (dVar 1) aNil))) (dgTup 2 (dgCons (dgName 2) (dgCons (dgName 3) dgNil))))
    (dSeq (dDrop (dCall (ct_need_small) (aCons (dVar 2) (aCons (dVar 3) aNil))))
    (dRet (dLam gc_rebuilt ct_lam_apply [0] (dVar 1)))))
def ds_rename  : DS := (dRet (dLam gc_rebuilt ct_lam_rename [1] (dVar 0)))
def ds_canonical  : DS := (dRet (dCall (ct_apply) (aCons (dDc (iEnD (dCall (ct_variables) (aCons (dVar 0) aNil))) (dgTup 2 (dgCons (dgName 1) (dgCons (dgName 2) dgNil))) tdYes (dVar 2) (dOp fAdd (dC (.str "u")) (dCB fStrI (aCons (dVar 1) aNil))) [1, 2]) (aCons (dVar 0) aNil))))
def ds__law_apply (n : Nat) : DS := (dSeq (dIfS (tdT (dIsi isStr (dVar 1))) (dRet (dIf (tdB (dInD false (dVar 1) (dVar 0))) (dGetD (dVar 0) (dVar 1)) (dVar 1))) dNext)
    (dRet (dTup (aCons (dOp fIx (dVar 1) (dC (.int 0))) (aCons (dCB fTuple (aCons (dLc (iTp (dOp fIx (dVar 1) (dC (.int 1)))) (dgName 2) tdYes (dCall (ct__law_apply n) (aCons (dVar 0) (aCons (dVar 2) aNil))) [2]) aNil)) aNil)))))
def ds__law_match  : DS := (dSeq (dSet 2 dNewD)
    (dSeq (dSet 3 (dLst (aCons (dTup (aCons (dVar 0) (aCons (dVar 1) aNil))) aNil)))
    (dSeq (dWhile (tdT (dVar 3)) (dSeq (dPop 3 (dgTup 2 (dgCons (dgName 4) (dgCons (dgName 5) dgNil))))
    (dIfS (tdT (dIsi isStr (dVar 4))) (dIfS (tdB (dInD false (dVar 4) (dVar 2))) (dIfS (tdB (dOp fNe (dGetD (dVar 2) (dVar 4)) (dVar 5))) (dRet (dC .non)) dNext) (dPutD 2 (dVar 4) (dVar 5))) (dIfS (tdOr (tdT (dIsi isStr (dVar 5))) (tdOr (tdB (dOp fNe (dOp fIx (dVar 4) (dC (.int 0))) (dOp fIx (dVar 5) (dC (.int 0))))) (tdB (dOp fNe (dCB fLen (aCons (dOp fIx (dVar 4) (dC (.int 1))) aNil)) (dCB fLen (aCons (dOp fIx (dVar 5) (dC (.int 1))) aNil)))))) (dRet (dC .non)) (dExt 3 (dLc (iR1 (aCons (dCB fLen (aCons (dOp fIx (dVar 4) (dC (.int 1))) aNil)) aNil)) (dgName 6) tdYes (dTup (aCons (dOp fIx (dOp fIx (dVar 4) (dC (.int 1))) (dVar 6)) (aCons (dOp fIx (dOp fIx (dVar 5) (dC (.int 1))) (dVar 6)) aNil))) [6]))))))
    (dRetV 2))))
def ds__law_marked (n : Nat) : DS := (dSeq (dIfS (tdT (dIsi isStr (dVar 0))) (dRet (dOp fAdd (dVar 0) (dVar 1))) dNext)
    (dRet (dTup (aCons (dOp fIx (dVar 0) (dC (.int 0))) (aCons (dCB fTuple (aCons (dLc (iTp (dOp fIx (dVar 0) (dC (.int 1)))) (dgName 2) tdYes (dCall (ct__law_marked n) (aCons (dVar 2) (aCons (dVar 1) aNil))) [2]) aNil)) aNil)))))
def ds__law_canonical  : DS := (dSeq (dSet 1 (dCall (ct__law_variables 40) (aCons (dVar 0) aNil)))
    (dRet (dCall (ct__law_apply 40) (aCons (dCB fDictP (aCons (dLc (iR1 (aCons (dCB fLen (aCons (dVar 1) aNil)) aNil)) (dgName 2) tdYes (dTup (aCons (dOp fIx (dVar 1) (dVar 2)) (aCons (dOp fAdd (dC (.str "u")) (dCB fStrI (aCons (dVar 2) aNil))) aNil))) [2]) aNil)) (aCons (dVar 0) aNil)))))
def ds_law3  : DS := (dSeq (dSet 2 (dCall (ct__law_some_symbols) (aCons (dVar 1) (aCons (dC (.int 5)) aNil))))
    (dSeq (dSet 3 (dCall (ct__law_term 40) (aCons (dVar 1) (aCons (dVar 2) (aCons (dLst (aCons (dC (.str "x")) (aCons (dC (.str "y")) (aCons (dC (.str "z")) (aCons (dC (.str "u1")) (aCons (dC (.str "v")) aNil)))))) (aCons (dOp fAdd (dC (.int 1)) (dCall (ctDraw) (aCons (dVar 1) (aCons (dC (.int 14)) aNil)))) (aCons (dC (.int 5)) aNil)))))))
    (dSeq (dIfS (tdOr (tdB (dOp fNe (dCall (ct_canonical) (aCons (dVar 3) aNil)) (dCall (ct__law_canonical) (aCons (dVar 3) aNil)))) (tdB (dOp fNe (dCall (ct_canonical) (aCons (dCall (ct_canonical) (aCons (dVar 3) aNil)) aNil)) (dCall (ct_canonical) (aCons (dVar 3) aNil))))) (dRet (dC (.bl false))) dNext)
    (dSeq (dSet 4 (dCB fStrI (aCons (dCall (ctDraw) (aCons (dVar 1) (aCons (dC (.int 10)) aNil))) aNil)))
    (dSeq (dIfS (tdOr (tdB (dOp fNe (dCall (ct_rename) (aCons (dVar 3) (aCons (dVar 4) aNil))) (dCall (ct__law_marked 40) (aCons (dVar 3) (aCons (dVar 4) aNil))))) (tdB (dOp fNe (dCall (ct_canonical) (aCons (dCall (ct_rename) (aCons (dVar 3) (aCons (dVar 4) aNil))) aNil)) (dCall (ct_canonical) (aCons (dVar 3) aNil))))) (dRet (dC (.bl false))) dNext)
    (dSeq (dSet 5 (dLst (aCons (dC (.str "x")) (aCons (dC (.str "y")) (aCons (dC (.str "z")) (aCons (dC (.str "u1")) (aCons (dC (.str "v")) (aCons (dC (.str "w")) aNil))))))))
    (dSeq (dSet 6 (dCB fDictP (aCons (dLc (iTp (dCall (ct_variables) (aCons (dVar 3) aNil))) (dgName 13) tdYes (dTup (aCons (dVar 13) (aCons (dCall (ct__law_pick) (aCons (dVar 1) (aCons (dVar 5) aNil))) aNil))) [13]) aNil)))
    (dSeq (dSet 7 (dCall (ct__law_apply 40) (aCons (dVar 6) (aCons (dVar 3) aNil))))
    (dSeq (dSet 8 (dCB fAll (aCons (dLc (iTp (dCall (ct_variables) (aCons (dVar 3) aNil))) (dgName 14) tdYes (dCB fAll (aCons (dLc (iTp (dCall (ct_variables) (aCons (dVar 3) aNil))) (dgName 13) tdYes (dOr (dOp fNe (dGetD (dVar 6) (dVar 13)) (dGetD (dVar 6) (dVar 14))) (dOp fEq (dVar 13) (dVar 14))) [13]) aNil)) [14]) aNil)))
    (dSeq (dIfS (tdB (dOp fNe (dOp fEq (dCall (ct_canonical) (aCons (dVar 7) aNil)) (dCall (ct_canonical) (aCons (dVar 3) aNil))) (dVar 8))) (dRet (dC (.bl false))) dNext)
    (dSeq (dSet 9 (dCall (ct__law_term 40) (aCons (dVar 1) (aCons (dVar 2) (aCons (dLst (aCons (dC (.str "x")) (aCons (dC (.str "y")) (aCons (dC (.str "z")) aNil)))) (aCons (dOp fAdd (dC (.int 1)) (dCall (ctDraw) (aCons (dVar 1) (aCons (dC (.int 6)) aNil)))) (aCons (dC (.int 4)) aNil)))))))
    (dSeq (dSet 10 (dCall (ct__law_match) (aCons (dVar 3) (aCons (dVar 9) aNil))))
    (dSeq (dSet 11 (dCall (ct__law_match) (aCons (dVar 9) (aCons (dVar 3) aNil))))
    (dSeq (dSet 12 (dAnd (dOp fNotN (dVar 10) (dC .non)) (dOp fNotN (dVar 11) (dC .non))))
    (dRet (dOp fEq (dOp fEq (dCall (ct_canonical) (aCons (dVar 9) aNil)) (dCall (ct_canonical) (aCons (dVar 3) aNil))) (dVar 12)))))))))))))))))
end PL

namespace PL
open PySem PySem.Spec PyProof.Rows L2
theorem lcMap {ρ : List A} {vs : List Nat} {j : Nat} {de : DE} {P : R → Prop} (xs : List D) (g : D → D) (hx : xs.length ≤ 1000000) (he : ∀ x ∈ xs, ∀ Z : R → Prop, Z (.d (g x)) → de (setA (wipeA ρ vs) j (.d x)) Z noE) (hP : P (.n (.lst (xs.map g)))) :
    ∃ I : Nat → List D → Prop, I 0 [] ∧
  (∀ i x acc, xs[i]? = some x → I i acc → dgName j x (wipeA ρ vs) (fun ρ2 => tdYes ρ2 (fun k => if k = true then de ρ2 (fun r => match r with | .d y => acc.length < sizeLine ∧ I (i + 1) (acc ++ [y]) | _ => False) noE else I (i + 1) acc) noE)) ∧
  ∀ acc, I xs.length acc → P (.n (.lst acc)) := by
  refine ⟨fun i acc => acc = (xs.take i).map g, rfl, fun i x acc hi e => ?_, fun acc e => ?_⟩
  · subst e
    have hl : i < xs.length := by
      rcases Nat.lt_or_ge i xs.length with z | z
      · exact z
      · rw [List.getElem?_eq_none z] at hi; cases hi
    refine he x (mem_get hi) _ ?_
    refine ⟨sl' _ (by rw [List.length_map, List.length_take]; omega), ?_⟩
    show _ = (xs.take (i + 1)).map g
    rw [take_snoc hi, List.map_append]
    rfl
  · subst e
    rw [List.take_length]
    exact hP
theorem ext_map {i j : Nat} {vs : List Nat} {de : DE} {di : DI} {F : AE} {ρ : List A} {old : List D} (xs : List D) (g : D → D) (hi : nth ρ i = .o (.lst old)) (hd : ∀ (P : List D → List A → Prop) (E : RX), P xs ρ → di ρ P E) (hx : xs.length ≤ 1000000)
    (he : ∀ x ∈ xs, ∀ Z : R → Prop, Z (.d (g x)) → de (setA (wipeA ρ vs) j (.d x)) Z noE) (hl : old.length + xs.length ≤ sizeLine) (hP : F.nx (setA ρ i (.o (.lst (old ++ xs.map g))))) : dExt i (dLc di (dgName j) tdYes de vs) F ρ := by
  unfold dExt
  rw [hi]
  refine hd _ _ (lcMap (P := fun r => match seqOf r with | some ys => old.length + ys.length ≤ sizeLine ∧ F.nx (setA ρ i (.o (.lst (old ++ ys)))) | _ => False) xs g hx he ?_)
  exact ⟨by rw [List.length_map]; exact hl, hP⟩
theorem if_bl1 {i : Nat} {d u : DS} {F : AE} {ρ : List A} (h : nth ρ i = .d (.bl true)) (k : d F ρ) : dIfS (tdT (dVar i)) d u F ρ := by
  unfold dIfS tdT dVar
  rw [h]
  exact k
theorem if_bl0 {i : Nat} {d u : DS} {F : AE} {ρ : List A} (h : nth ρ i = .d (.bl false)) (k : u F ρ) : dIfS (tdT (dVar i)) d u F ρ := by
  unfold dIfS tdT dVar
  rw [h]
  show if false = true then _ else _
  rw [if_neg (by decide)]
  exact k
theorem fnOf.mono {C : Ct} {cs : List R} {r : R} {P Q : R → Prop} (h : fnOf C cs r P) (k : ∀ r, P r → Q r) : fnOf C cs r Q := by
  obtain ⟨y, h1, h2, h3, h4⟩ := h
  exact ⟨y, h1, h2, fun r hr => k r (h3 r hr), h4⟩
/-! rebuilt -/
def evR (g : Str → Tm) : List (Tm × Bool) → List Tm → Option (List Tm)
  | [], d => some d
  | (u, false) :: r, d => evR g r (d ++ [u.sub g])
  | (.var x, true) :: r, d => evR g r (d ++ [g x])
  | (.app f ts, true) :: r, d => if ts.length ≤ d.length then evR g r (d.take (d.length - ts.length) ++ [.app f (d.drop (d.length - ts.length))]) else none
def wR : List (Tm × Bool) → Nat
  | [] => 0
  | (_, true) :: r => 1 + wR r
  | (u, false) :: r => u.size + wR r
def mR : List (Tm × Bool) → Nat
  | [] => 0
  | (_, true) :: r => 1 + mR r
  | (u, false) :: r => 2 * u.size + mR r
theorem wR_append : ∀ a b, wR (a ++ b) = wR a + wR b
  | [], b => by show wR b = 0 + wR b; omega
  | (_, true) :: r, b => by rw [List.cons_append, wR, wR, wR_append r b]; omega
  | (_, false) :: r, b => by rw [List.cons_append, wR, wR, wR_append r b]; omega
theorem mR_append : ∀ a b, mR (a ++ b) = mR a + mR b
  | [], b => by show mR b = 0 + mR b; omega
  | (_, true) :: r, b => by rw [List.cons_append, mR, mR, mR_append r b]; omega
  | (_, false) :: r, b => by rw [List.cons_append, mR, mR, mR_append r b]; omega
theorem wR_new : ∀ ts : List Tm, wR (ts.map fun u => (u, false)) = Tm.sizes ts
  | [] => rfl
  | t :: r => by rw [List.map_cons, wR, Tm.sizes, wR_new r]
theorem mR_new : ∀ ts : List Tm, mR (ts.map fun u => (u, false)) = 2 * Tm.sizes ts
  | [] => rfl
  | t :: r => by rw [List.map_cons, mR, Tm.sizes, mR_new r]; omega
theorem wR_len : ∀ l : List (Tm × Bool), l.length ≤ wR l
  | [] => Nat.le_refl _
  | (_, true) :: r => by rw [wR, List.length_cons]; have := wR_len r; omega
  | (u, false) :: r => by rw [wR, List.length_cons]; have := wR_len r; have := Tm.size_pos u; omega
theorem evR_new (g : Str → Tm) (r : List (Tm × Bool)) : ∀ (ts : List Tm) (d : List Tm), evR g ((ts.map fun u => (u, false)) ++ r) d = evR g r (d ++ Tm.subs g ts)
  | [], d => by rw [Tm.subs, List.append_nil]; rfl
  | t :: l, d => by rw [List.map_cons, List.cons_append, evR, evR_new g r l, Tm.subs, List.append_assoc]; rfl
theorem evR_true (g : Str → Tm) (f : Str) (ts : List Tm) (r : List (Tm × Bool)) (d : List Tm) : evR g ((.app f ts, true) :: r) d = if ts.length ≤ d.length then evR g r (d.take (d.length - ts.length) ++ [.app f (d.drop (d.length - ts.length))]) else none := by rw [evR]
theorem evR_open (g : Str → Tm) (f : Str) (ts : List Tm) (r : List (Tm × Bool)) (d : List Tm) : evR g ((ts.map fun u => (u, false)) ++ (.app f ts, true) :: r) d = evR g ((.app f ts, false) :: r) d := by
  have hl : (Tm.subs g ts).length = ts.length := by rw [Tm.subs_map, List.length_map]
  have e1 : evR g ((.app f ts, false) :: r) d = evR g r (d ++ [(Tm.app f ts).sub g]) := by rw [evR]
  rw [evR_new, evR_true, if_pos (by rw [List.length_append, hl]; omega), e1, Tm.sub]
  have e : (d ++ Tm.subs g ts).length - ts.length = d.length := by rw [List.length_append, hl]; omega
  rw [e, List.take_left, List.drop_left]
def rbD (q : Tm × Bool) : D := .tup [q.1.d, .bl q.2]
theorem rd_rebuilt (f : Addr) (k : Hp → Prop) (C : Ct) (s : List R) (r : R) (P : R → Prop) (h : gc_rebuilt r (fnOf C s) P) : ds_rebuilt f k C s (endsOf P noE) (argA r :: .k (.ref f) k :: anys 7) := by
  obtain ⟨t, g, rfl, hz, hg, hP⟩ := h
  refine ⟨Nat.zero_le _, sl 2 (by omega), sl 1 (by omega), ?_⟩
  refine ⟨fun m ρ => ∃ (done : List Tm) (left : List (Tm × Bool)) (x4 x5 x6 x7 x8 : A), ρ = [.d t.d, .k (.ref f) k, .o (.lst (Tm.ds done)), .o (.lst (left.map rbD)), x4, x5, x6, x7, x8] ∧ evR g left.reverse done = some [t.sub g] ∧ m = mR left ∧ done.length + wR left ≤ t.size ∧ ∀ q ∈ left, ∀ x ∈ q.1.occ, x ∈ t.occ,
    ⟨_, [], [(t, false)], .any, .any, .any, .any, .any, rfl, rfl, rfl, by rw [wR, wR]; simp, fun q hq x hx => by rw [List.mem_singleton.mp hq] at hx; exact hx⟩, ?_⟩
  rintro m ρ ⟨done, left, x4, x5, x6, x7, x8, rfl, e, rfl, hw, hx⟩
  rcases split_last left with z | ⟨a, y, z⟩
  · subst z
    have e : some done = some [t.sub g] := e
    cases e
    exact hP
  · subst z
    obtain ⟨u, b⟩ := y
    rw [List.reverse_append, List.reverse_singleton] at e
    have e : evR g ((u, b) :: a.reverse) done = _ := e
    rw [wR_append] at hw
    have hxa : ∀ q ∈ a, ∀ x ∈ q.1.occ, x ∈ t.occ := fun q hq => hx q (List.mem_append_left _ hq)
    have hxu : ∀ x ∈ u.occ, x ∈ t.occ := hx (u, b) (List.mem_append_right _ List.mem_cons_self)
    have hdl : (Tm.ds done).length = done.length := Tm.ds_length done
    have hal := wR_len a
    refine ite2 (fun _ => ?_) (fun h => absurd (by rw [List.map_append]; simp) h)
    refine ⟨a.map rbD, rbD (u, b), by rw [List.map_append]; rfl, rfl, u, rfl, trivial, fun r er => ?_, fun _ h => h⟩
    subst er
    cases u with
    | var x =>
      have ev : evR g a.reverse (done ++ [g x]) = some [t.sub g] := by cases b <;> exact e
      have w1 : wR [(Tm.var x, b)] = 1 := by cases b <;> rfl
      have m1 : 1 ≤ mR [(Tm.var x, b)] := by cases b <;> simp [mR, Tm.size]
      refine ⟨rfl, (hg x (hxu x (by rw [Tm.occ_var]; exact List.mem_cons_self))).mono fun r er => ?_⟩
      subst er
      refine ⟨sl' _ (by omega), _, ?_, done ++ [g x], a, .d (Tm.var x).d, .d (.bl b), x6, x7, x8, ?_, ev, rfl, ?_, hxa⟩
      · rw [mR_append]; omega
      · rw [Tm.ds_append]; rfl
      · rw [List.length_append, List.length_singleton]; omega
    | app fn ts =>
      cases b with
      | true =>
        have w1 : wR [(Tm.app fn ts, true)] = 1 := rfl
        have m1 : mR [(Tm.app fn ts, true)] = 1 := rfl
        rw [evR_true] at e
        by_cases hl : ts.length ≤ done.length
        · rw [if_pos hl] at e
          have hn : (((Tm.ds done).length : Int) - ((Tm.ds ts).length : Int)) = ((done.length - ts.length : Nat) : Int) := by rw [hdl, Tm.ds_length]; omega
          have c1 : cut (Tm.ds done) (some (((Tm.ds done).length : Int) - ((Tm.ds ts).length : Int))) none = Tm.ds (done.drop (done.length - ts.length)) := by
            rw [hn, cut_drop, Tm.ds_map, Tm.ds_map, List.map_drop]
          have c2 : cut (Tm.ds done) none (some (((Tm.ds done).length : Int) - ((Tm.ds ts).length : Int))) = Tm.ds (done.take (done.length - ts.length)) := by
            rw [hn, cut_take, Tm.ds_map, Tm.ds_map, List.map_take]
          refine ite2 (fun h => absurd h (show ¬ false = true by decide)) (fun _ => if_bl1 rfl ?_)
          show List.length _ ≤ sizeLine ∧ _
          refine ⟨sl 2 (by omega), ?_⟩
          refine ⟨?_, _, ?_, done.take (done.length - ts.length) ++ [.app fn (done.drop (done.length - ts.length))], a, .d (Tm.app fn ts).d, .d (.bl true), .d (.int (Tm.ds ts).length), .o (.lst (Tm.ds (done.drop (done.length - ts.length)))), x8, ?_, e, rfl, ?_, hxa⟩
          · show (cut (Tm.ds done) none (some (((Tm.ds done).length : Int) - ((Tm.ds ts).length : Int)))).length < sizeLine
            rw [c2, Tm.ds_length, List.length_take]
            exact sl' _ (by omega)
          · rw [mR_append]; omega
          · have e3 : Tm.ds [Tm.app fn (done.drop (done.length - ts.length))] = [.tup [.str fn, .tup (cut (Tm.ds done) (some (((Tm.ds done).length : Int) - ((Tm.ds ts).length : Int))) none)]] := by rw [c1]; rfl
            rw [Tm.ds_append, e3, ← c2, ← c1]; rfl
          · rw [List.length_append, List.length_singleton, List.length_take]; omega
        · rw [if_neg hl] at e; cases e
      | false =>
        have w1 : wR [(Tm.app fn ts, false)] = 1 + Tm.sizes ts := by rw [wR, wR, Tm.size]; omega
        have m1 : mR [(Tm.app fn ts, false)] = 2 + 2 * Tm.sizes ts := by rw [mR, mR, Tm.size]; omega
        have hsl := Tm.sizes_length ts
        rw [← evR_open] at e
        have e2 : (a ++ (Tm.app fn ts, true) :: (ts.reverse.map fun u => (u, false))).reverse = ts.map (fun u => (u, false)) ++ (Tm.app fn ts, true) :: a.reverse := by
          rw [List.reverse_append, List.reverse_cons, ← List.map_reverse, List.reverse_reverse, List.append_assoc]
          rfl
        rw [← e2] at e
        refine ite2 (fun h => absurd h (show ¬ false = true by decide)) (fun _ => if_bl0 rfl ?_)
        refine ⟨sl 2 (by omega), sl' _ (by rw [List.length_map]; omega), ?_⟩
        have hnew : (Tm.ds ts).reverse.map (fun x => D.tup [x, .bl false]) = (ts.reverse.map fun u => (u, false)).map rbD := by
          rw [← Tm.ds_reverse, Tm.ds_map, List.map_map, List.map_map]
          rfl
        refine ext_map (ρ := [.d t.d, .k (.ref f) k, .o (.lst (Tm.ds done)), .o (.lst (a.map rbD ++ [rbD (.app fn ts, true)])), .d (Tm.app fn ts).d, .d (.bl false), x6, x7, x8]) (i := 3) (j := 8) (vs := [8]) (di := iTp (dRev (dOp fIx (dVar 4) (dC (.int 1))))) (de := dTup (aCons (dVar 8) (aCons (dC (.bl false)) aNil))) (Tm.ds ts).reverse (fun x => .tup [x, .bl false]) (old := a.map rbD ++ [rbD (.app fn ts, true)]) rfl (fun P E h => h) (by rw [List.length_reverse, Tm.ds_length]; omega) (fun x hx Z hZ => ⟨sl 2 (by omega), hZ⟩) ?_ ?_
        · rw [List.length_append, List.length_map, List.length_singleton, List.length_reverse, Tm.ds_length]
          exact sl _ (by omega)
        refine ⟨_, ?_, done, a ++ (Tm.app fn ts, true) :: (ts.reverse.map fun u => (u, false)), .d (Tm.app fn ts).d, .d (.bl false), x6, x7, x8, ?_, e, rfl, ?_, ?_⟩
        · rw [mR_append, mR_append, m1, mR, mR_new, Tm.sizes_reverse]; omega
        · rw [hnew, List.append_assoc, List.map_append]; rfl
        · rw [wR_append, wR, wR_new, Tm.sizes_reverse]; omega
        · intro q hq
          rcases List.mem_append.mp hq with hq | hq
          · exact hxa q hq
          · rcases List.mem_cons.mp hq with hq | hq
            · subst hq; exact hxu
            · obtain ⟨v, hv, rfl⟩ := List.mem_map.mp hq
              exact fun x hx => hxu x (by rw [Tm.occ_app, Tm.occs_mem]; exact ⟨v, List.mem_reverse.mp hv, hx⟩)
theorem rd_lam_apply (y : Str × Tb) (h : ct_lam_apply.pre y) : ds_lam_apply (slots [.d (.str y.1), .b (.kk (tblD y.2))] 2) (ct_lam_apply.post y) noE := by
  obtain ⟨x, s⟩ := y
  show R.d ((valD (tblD s) (.inr x)).getD (.str x)) = _
  rw [valD_tbl]
  show _ = R.d ((look s x).getD (.var x)).d
  cases look s x <;> rfl
theorem rd_lam_rename (y : Str × Str) (h : ct_lam_rename.pre y) : ds_lam_rename (slots [.d (.str y.1), .d (.str y.2)] 2) (ct_lam_rename.post y) noE := ⟨h, rfl⟩
end PL

namespace PL
open PySem PySem.Spec PyProof.Rows L2
theorem valD_append {κ : Type} [DecidableEq κ] (k : κ) (x : D) (j : κ) : ∀ (kvs : List (κ × D)), valD (kvs ++ [(k, x)]) j = match valD kvs j with | some y => some y | none => if k = j then some x else none
  | [] => rfl
  | p :: r => by
    rw [List.cons_append]
    unfold valD
    by_cases e : p.1 = j
    · rw [if_pos e, if_pos e]
    · rw [if_neg e, if_neg e, valD_append k x j r]
def prSD (u : Tm) : D := .tup [.int u.size, .int u.depth]
def SZ (g : Str → Tm) (l : List (Tm × Nat)) : Nat := Tm.sizes (l.map fun q => q.1.sub g)
def MX (g : Str → Tm) : List (Tm × Nat) → Nat
  | [] => 0
  | q :: r => max (q.2 + (q.1.sub g).depth) (MX g r)
def WZ (l : List (Tm × Nat)) : Nat := Tm.sizes (l.map (·.1))
theorem SZ_append (g : Str → Tm) (a b : List (Tm × Nat)) : SZ g (a ++ b) = SZ g a + SZ g b := by unfold SZ; rw [List.map_append, Tm.sizes_append]
theorem WZ_append (a b : List (Tm × Nat)) : WZ (a ++ b) = WZ a + WZ b := by unfold WZ; rw [List.map_append, Tm.sizes_append]
theorem MX_append (g : Str → Tm) : ∀ (a b : List (Tm × Nat)), MX g (a ++ b) = max (MX g a) (MX g b)
  | [], b => by show MX g b = max 0 (MX g b); omega
  | q :: r, b => by rw [List.cons_append, MX, MX, MX_append g r b]; omega
theorem SZ_new (g : Str → Tm) (k : Nat) (ts : List Tm) : SZ g (ts.map fun u => (u, k)) = Tm.sizes (Tm.subs g ts) := by
  unfold SZ
  rw [List.map_map, Tm.subs_map]
  rfl
theorem WZ_new (k : Nat) (ts : List Tm) : WZ (ts.map fun u => (u, k)) = Tm.sizes ts := by
  unfold WZ
  rw [List.map_map]
  show Tm.sizes (ts.map fun x => x) = _
  rw [List.map_id']
theorem MX_new (g : Str → Tm) (k : Nat) : ∀ ts : List Tm, MX g (ts.map fun u => (u, k)) = if ts = [] then 0 else k + Tm.depths (Tm.subs g ts)
  | [] => rfl
  | [t] => by
    rw [if_neg (by simp), List.map_cons, MX, List.map_nil, MX, Tm.subs, Tm.subs, Tm.depths, Tm.depths]
    show max (k + (t.sub g).depth) 0 = _
    omega
  | t :: u :: r => by
    have e : Tm.depths (Tm.subs g (t :: u :: r)) = max (t.sub g).depth (Tm.depths (Tm.subs g (u :: r))) := by rw [Tm.subs, Tm.depths]
    rw [if_neg (by simp), List.map_cons, MX, MX_new g k (u :: r), if_neg (by simp), e]
    show max (k + (t.sub g).depth) _ = _
    omega
def lvD (q : Tm × Nat) : D := .tup [q.1.d, .int q.2]
theorem rd_measure (y : Tb × Tm) (h : ct_measure.pre y) : ds_measure (endsOf (ct_measure.post y) noE) (slots [.b (.kk (tblD y.1)), .d y.2.d] 11) := by
  obtain ⟨s, t⟩ := y
  obtain ⟨⟨hs1, hs2⟩, hz⟩ : (s.length ≤ 10000 ∧ ∀ p ∈ s, p.2.size ≤ 10000) ∧ t.size ≤ 10000 := h
  have nd : t.vars.Nodup := dd_nodup _
  have hvl := Tm.vars_length t
  refine ⟨t, rfl, hz, fun r er => ?_, fun _ h => h⟩
  subst er
  refine ⟨fun i acc => (∀ x, valD acc (.inr x) = if x ∈ t.vars.take i then (look s x).map prSD else none) ∧ acc.length ≤ i, ⟨fun x => by rw [List.take_zero, if_neg (by simp)]; rfl, Nat.le_refl _⟩, ?_, ?_⟩
  · rintro i x acc hx ⟨hv, hl⟩
    obtain ⟨x, hx0, rfl⟩ := map_get hx
    clear hx
    have hx := hx0
    clear hx0
    have hi : i < t.vars.length := by
      rcases Nat.lt_or_ge i t.vars.length with z | z
      · exact z
      · rw [List.getElem?_eq_none z] at hx; cases hx
    have hn : x ∉ t.vars.take i := fun z => by
      obtain ⟨j, hj, e⟩ := List.mem_take_iff_getElem.mp z
      have e1 := ixOf_nodup nd hx
      have e2 := ixOf_nodup nd (i := j) (x := x) (by rw [List.getElem?_eq_getElem (by omega), e])
      omega
    have hmem : ∀ y, y ∈ t.vars.take (i + 1) ↔ y ∈ t.vars.take i ∨ y = x := fun y => by rw [take_snoc hx, List.mem_append, List.mem_singleton]
    cases hlk : look s x with
    | none =>
      refine ite2 (fun h => absurd h (by rw [valD_tbl, hlk]; decide)) (fun _ => ⟨fun y => ?_, by omega⟩)
      rw [hv]
      by_cases e : y = x
      · subst e; rw [hlk, if_neg hn, if_pos ((hmem _).mpr (.inr rfl))]; rfl
      · by_cases e2 : y ∈ t.vars.take i
        · rw [if_pos e2, if_pos ((hmem _).mpr (.inl e2))]
        · rw [if_neg e2, if_neg fun z => ((hmem _).mp z).elim e2 e]
    | some u =>
      have hu := hs2 _ (look_mem hlk)
      refine ite2 (fun _ => ?_) (fun h => absurd (by rw [valD_tbl, hlk]; rfl) h)
      show match valD (tblD s) (.inr x) with | some z => _ | none => False
      rw [valD_tbl, hlk]
      refine ⟨u, rfl, hu, fun r er => ?_, fun _ h => h⟩
      subst er
      show match valD (tblD s) (.inr x) with | some z => _ | none => False
      rw [valD_tbl, hlk]
      refine ⟨u, rfl, hu, fun r er => ?_, fun _ h => h⟩
      subst er
      refine ⟨sl 2 (by omega), sl' _ (by omega), fun y => ?_, ?_⟩
      · have hnone : valD acc (.inr x) = none := by rw [hv, if_neg hn]
        rw [putD_new hnone, valD_append, hv]
        by_cases e : y = x
        · subst e
          rw [if_neg hn, if_pos ((hmem _).mpr (.inr rfl)), if_pos rfl, hlk]
          rfl
        · by_cases e2 : y ∈ t.vars.take i
          · rw [if_pos e2, if_pos ((hmem _).mpr (.inl e2))]
            cases look s y with
            | none => show (if (Sum.inr x : Key) = .inr y then _ else _) = _; rw [if_neg fun z => e (Sum.inr.inj z).symm]; rfl
            | some w => rfl
          · rw [if_neg e2, if_neg fun z => ((hmem _).mp z).elim e2 e]
            show (if (Sum.inr x : Key) = .inr y then _ else _) = _
            rw [if_neg fun z => e (Sum.inr.inj z).symm]
      · have hnone : valD acc (.inr x) = none := by rw [hv, if_neg hn]
        rw [putD_new hnone, List.length_append, List.length_singleton]
        omega
  · rintro acc ⟨hv, hl⟩
    have hv : ∀ x ∈ t.occ, (valD acc (.inr x)).getD (.tup [.int 1, .int 1]) = .tup [.int (lk s x).size, .int (lk s x).depth] := fun x hx => by
      have hx := Tm.mem_vars.mpr hx
      have e := hv x
      rw [strDs_length, List.take_length, if_pos hx] at e
      rw [e]
      unfold lk
      cases look s x <;> rfl
    refine ⟨sl 2 (by omega), sl 1 (by omega), ?_⟩
    refine ⟨fun m ρ => ∃ (nodes deep : Int) (left : List (Tm × Nat)) (x6 x7 x8 : A), ρ = [.b (.kk (tblD s)), .d t.d, .d (.int nodes), .d (.int deep), .o (.dk acc), .o (.lst (left.map lvD)), x6, x7, x8, .any, .any] ∧ nodes + (SZ (lk s) left : Nat) = ((t.sub (lk s)).size : Nat) ∧
      (deep ≤ (t.sub (lk s)).depth ∧ MX (lk s) left ≤ (t.sub (lk s)).depth ∧ (deep = (t.sub (lk s)).depth ∨ MX (lk s) left = (t.sub (lk s)).depth)) ∧ m = WZ left ∧ WZ left ≤ t.size ∧ ∀ q ∈ left, ∀ x ∈ q.1.occ, x ∈ t.occ,
      ⟨_, 0, 0, [(t, 0)], .any, .any, .any, rfl, ?_, ⟨by omega, ?_, .inr ?_⟩, rfl, ?_, fun q hq x hx => by rw [List.mem_singleton.mp hq] at hx; exact hx⟩, ?_⟩
    · show (0 : Int) + ((Tm.sizes [t.sub (lk s)] : Nat) : Int) = _
      rw [Tm.sizes, Tm.sizes]; omega
    · rw [MX, MX]; show max (0 + (t.sub (lk s)).depth) 0 ≤ _; omega
    · rw [MX, MX]; show max (0 + (t.sub (lk s)).depth) 0 = _; omega
    · show Tm.sizes [t] ≤ _
      rw [Tm.sizes, Tm.sizes]; omega
    rintro m ρ ⟨nodes, deep, left, x6, x7, x8, rfl, hn, hd, rfl, hw, hx⟩
    rcases split_last left with z | ⟨a, y, z⟩
    · subst z
      have e1 : nodes = ((t.sub (lk s)).size : Nat) := by
        have : SZ (lk s) [] = 0 := rfl
        omega
      have e2 : deep = ((t.sub (lk s)).depth : Nat) := by
        have := Tm.depth_pos (t.sub (lk s))
        have : MX (lk s) [] = 0 := rfl
        omega
      subst e1 e2
      exact ⟨sl 2 (by omega), rfl⟩
    · subst z
      obtain ⟨u, lv⟩ := y
      have hxa : ∀ q ∈ a, ∀ x ∈ q.1.occ, x ∈ t.occ := fun q hq => hx q (List.mem_append_left _ hq)
      have hxu : ∀ x ∈ u.occ, x ∈ t.occ := hx (u, lv) (List.mem_append_right _ List.mem_cons_self)
      rw [SZ_append] at hn
      rw [MX_append] at hd
      rw [WZ_append] at hw
      have s1 : SZ (lk s) [(u, lv)] = (u.sub (lk s)).size := by show Tm.sizes [u.sub (lk s)] = _; rw [Tm.sizes, Tm.sizes]; omega
      have w1 : WZ [(u, lv)] = u.size := by show Tm.sizes [u] = _; rw [Tm.sizes, Tm.sizes]; omega
      have d1 : MX (lk s) [(u, lv)] = lv + (u.sub (lk s)).depth := by rw [MX, MX]; show max (lv + (u.sub (lk s)).depth) 0 = _; omega
      rw [s1] at hn
      rw [d1] at hd
      rw [w1] at hw
      have hal : a.length ≤ WZ a := by have := Tm.sizes_length (a.map (·.1)); rw [List.length_map] at this; exact this
      have hul := Tm.sizes_length u.args
      have hua := Tm.size_args u
      -- what is left once the pair is known
      have fin : ∀ (n d : Nat) (x9 x10 : A), n + Tm.sizes (Tm.subs (lk s) u.args) = (u.sub (lk s)).size → (lv + d ≤ lv + (u.sub (lk s)).depth ∧ MX (lk s) (u.args.map fun v => (v, lv + 1)) ≤ lv + (u.sub (lk s)).depth ∧ (d = (u.sub (lk s)).depth ∨ MX (lk s) (u.args.map fun v => (v, lv + 1)) = lv + (u.sub (lk s)).depth)) →
          ∀ F : AE, (∀ ρ, (∃ m', m' < WZ (a ++ [(u, lv)]) ∧ ∃ (nodes deep : Int) (left : List (Tm × Nat)) (x6 x7 x8 : A), ρ = [.b (.kk (tblD s)), .d t.d, .d (.int nodes), .d (.int deep), .o (.dk acc), .o (.lst (left.map lvD)), x6, x7, x8, .any, .any] ∧ nodes + (SZ (lk s) left : Nat) = ((t.sub (lk s)).size : Nat) ∧
      (deep ≤ (t.sub (lk s)).depth ∧ MX (lk s) left ≤ (t.sub (lk s)).depth ∧ (deep = (t.sub (lk s)).depth ∨ MX (lk s) left = (t.sub (lk s)).depth)) ∧ m' = WZ left ∧ WZ left ≤ t.size ∧ ∀ q ∈ left, ∀ x ∈ q.1.occ, x ∈ t.occ) → F.nx ρ) →
          (dSeq (dAugI 2 (fun x y => x + y) (dOp fIx (dVar 8) (dC (.int 0))))
    (dSeq (dSet 3 (dCB fMax2 (aCons (dVar 3) (aCons (dOp fAdd (dVar 7) (dOp fIx (dVar 8) (dC (.int 1)))) aNil))))
    (dExt 5 (dLc (iTp (dCall (ct_inner) (aCons (dVar 6) aNil))) (dgName 10) tdYes (dTup (aCons (dVar 10) (aCons (dOp fAdd (dVar 7) (dC (.int 1))) aNil))) [10])))) F [.b (.kk (tblD s)), .d t.d, .d (.int nodes), .d (.int deep), .o (.dk acc), .o (.lst (a.map lvD)), .d u.d, .d (.int lv), .d (.tup [.int n, .int d]), .any, .any] := by
        intro n d _ _ e1 e2 F hF
        have hnew : (Tm.ds u.args).map (fun x => D.tup [x, .int ((lv : Int) + 1)]) = (u.args.map fun v => (v, lv + 1)).map lvD := by
          rw [Tm.ds_map, List.map_map, List.map_map]
          rfl
        refine ext_map (ρ := [.b (.kk (tblD s)), .d t.d, .d (.int (nodes + n)), .d (.int (if (lv : Int) + d > deep then (lv : Int) + d else deep)), .o (.dk acc), .o (.lst (a.map lvD)), .d u.d, .d (.int lv), .d (.tup [.int n, .int d]), .any, .any]) (i := 5) (j := 10) (vs := [10])
          (di := iTp (dCall (ct_inner) (aCons (dVar 6) aNil))) (de := dTup (aCons (dVar 10) (aCons (dOp fAdd (dVar 7) (dC (.int 1))) aNil))) (old := a.map lvD) (Tm.ds u.args) (fun x => D.tup [x, .int ((lv : Int) + 1)]) rfl (fun P E h => ⟨u, rfl, trivial, fun r er => by subst er; exact h, fun _ h => h⟩) (by rw [Tm.ds_length]; omega) (fun x hx Z hZ => ⟨sl 2 (by omega), hZ⟩) (by rw [List.length_map, Tm.ds_length]; exact sl _ (by omega)) (hF _ ⟨_, ?_, nodes + n, (if (lv : Int) + d > deep then (lv : Int) + d else deep), a ++ (u.args.map fun v => (v, lv + 1)), .d u.d, .d (.int lv), .d (.tup [.int n, .int d]), ?_, ?_, ?_, rfl, ?_, ?_⟩)
        · rw [WZ_append, WZ_append, w1, WZ_new]; omega
        · rw [hnew, List.map_append]; rfl
        · rw [SZ_append, SZ_new]; omega
        · rw [MX_append]; split <;> omega
        · rw [WZ_append, WZ_new]; omega
        · intro q hq
          rcases List.mem_append.mp hq with hq | hq
          · exact hxa q hq
          · obtain ⟨v, hv, rfl⟩ := List.mem_map.mp hq
            cases u with
            | var x => cases hv
            | app f ts => exact fun x hx => hxu x (by rw [Tm.occ_app, Tm.occs_mem]; exact ⟨v, hv, hx⟩)
      refine ite2 (fun _ => ?_) (fun h => absurd (by rw [List.map_append]; simp) h)
      refine ⟨a.map lvD, lvD (u, lv), by rw [List.map_append]; rfl, rfl, u, rfl, trivial, fun r er => ?_, fun _ h => h⟩
      subst er
      cases u with
      | var x =>
        refine ⟨sl 2 (by omega), ?_⟩
        have hX := hv x (hxu x (by rw [Tm.occ_var]; exact List.mem_cons_self))
        have e1 : (Tm.var x).sub (lk s) = lk s x := by rw [Tm.sub]
        have f := fin (lk s x).size (lk s x).depth .any .any (by rw [e1]; show _ + Tm.sizes [] = _; rw [Tm.sizes]; rfl) ⟨by rw [e1]; exact Nat.le_refl _, Nat.zero_le _, .inl (by rw [e1])⟩
        rw [← hX] at f
        exact f _ fun ρ h => h
      | app f ts =>
        have e1 : ((Tm.app f ts).sub (lk s)).depth = 1 + Tm.depths (Tm.subs (lk s) ts) := Tm.depth_sub_args _ _ _
        have e2 : ((Tm.app f ts).sub (lk s)).size = 1 + Tm.sizes (Tm.subs (lk s) ts) := Tm.size_sub_args _ _ _
        have e3 := MX_new (lk s) (lv + 1) ts
        refine ⟨sl 2 (by omega), ?_⟩
        refine fin 1 1 .any .any (by rw [e2]; rfl) ⟨by omega, ?_, ?_⟩ _ fun ρ h => h
        · show MX (lk s) (ts.map fun v => (v, lv + 1)) ≤ _
          rw [e3]; split <;> omega
        · show 1 = _ ∨ MX (lk s) (ts.map fun v => (v, lv + 1)) = _
          rw [e3]
          split
          · next z => subst z; left; rw [e1, Tm.subs, Tm.depths]
          · right; omega
theorem rd_apply (y : Tb × Tm) (h : ct_apply.pre y) : ds_apply (endsOf (ct_apply.post y) noE) (slots [.b (.kk (tblD y.1)), .d y.2.d] 4) := by
  obtain ⟨s, t⟩ := y
  obtain ⟨h1, h2, h3, h4⟩ : TbOk s ∧ t.size ≤ 10000 ∧ (t.sub (lk s)).size ≤ 400 ∧ (t.sub (lk s)).depth ≤ 40 := h
  refine ⟨(s, t), rfl, ⟨h1, h2⟩, fun r er => ?_, fun _ h => h⟩
  subst er
  refine ⟨rfl, ((((t.sub (lk s)).size : Nat) : Int), (((t.sub (lk s)).depth : Nat) : Int)), rfl, ⟨by show (((t.sub (lk s)).size : Nat) : Int) ≤ 400; omega, by show (((t.sub (lk s)).depth : Nat) : Int) ≤ 40; omega⟩, fun r er => ?_, fun _ h => h⟩
  exact ⟨[.b (.kk (tblD s))], rfl, t, lk s, rfl, h2, fun x _ => ⟨(x, s), rfl, trivial, fun r er => er, fun _ h => h⟩, rfl⟩
theorem rd_rename (y : Tm × Str) (h : ct_rename.pre y) : ds_rename (endsOf (ct_rename.post y) noE) (slots [.d y.1.d, .d (.str y.2)] 2) := by
  obtain ⟨t, m⟩ := y
  obtain ⟨h1, h2⟩ : t.size ≤ 10000 ∧ ∀ x ∈ t.occ, x.length + m.length ≤ sizeLine := h
  exact ⟨[.d (.str m)], rfl, t, fun x => .var (x ++ m), rfl, h1, fun x hx => ⟨(x, m), rfl, h2 x hx, fun r er => er, fun _ h => h⟩, rfl⟩
end PL

namespace PL
open PySem PySem.Spec PyProof.Rows L2
namespace Tm
mutual
theorem eqv_of : ∀ t u : Tm, PyData.eqv t.d.py u.d.py = true → t = u
  | .var x, .var y, h => by
    rw [d, d, eqv_str] at h
    rw [of_decide_eq_true h]
  | .var x, .app f us, h => by rw [d, d, D.py, D.py] at h; cases h
  | .app f ts, .var y, h => by rw [d, d, D.py, D.py] at h; cases h
  | .app f ts, .app g us, h => by
    rw [d, d, D.py, D.py, pyAll, pyAll, pyAll, pyAll, pyAll, pyAll] at h
    have h : PyData.eqvAll _ _ = true := h
    rw [PyData.eqvAll, PyData.eqvAll, PyData.eqvAll, eqv_str, Bool.and_true, Bool.and_eq_true, D.py, D.py] at h
    have h2 : PyData.eqvAll _ _ = true := h.2
    rw [of_decide_eq_true h.1, eqvs_of ts us h2]
theorem eqvs_of : ∀ ts us : List Tm, PyData.eqvAll (pyAll (ds ts)) (pyAll (ds us)) = true → ts = us
  | [], [], _ => rfl
  | [], u :: v, h => by rw [ds, ds, pyAll, pyAll, PyData.eqvAll] at h; cases h; all_goals simp
  | t :: r, [], h => by rw [ds, ds, pyAll, pyAll, PyData.eqvAll] at h; cases h; all_goals simp
  | t :: r, u :: v, h => by
    rw [ds, ds, pyAll, pyAll, PyData.eqvAll, Bool.and_eq_true] at h
    rw [eqv_of t u h.1, eqvs_of r v h.2]
end
theorem eqv_iff {t u : Tm} (h : t.ok = true) : PyData.eqv t.d.py u.d.py = true ↔ t = u := ⟨eqv_of t u, fun e => by subst e; exact eqv_self h⟩
end Tm
theorem lcMapA {α : Type} {ρ : List A} {vs : List Nat} {j : Nat} {de : DE} {P : R → Prop} (xs : List D) (l : List α) (f g : α → D) (hxs : xs = l.map f) (hx : l.length ≤ 1000000) (he : ∀ x ∈ l, ∀ Z : R → Prop, Z (.d (g x)) → de (setA (wipeA ρ vs) j (.d (f x))) Z noE) (hP : P (.n (.lst (l.map g)))) :
    ∃ I : Nat → List D → Prop, I 0 [] ∧
  (∀ i x acc, xs[i]? = some x → I i acc → dgName j x (wipeA ρ vs) (fun ρ2 => tdYes ρ2 (fun k => if k = true then de ρ2 (fun r => match r with | .d y => acc.length < sizeLine ∧ I (i + 1) (acc ++ [y]) | _ => False) noE else I (i + 1) acc) noE)) ∧
  ∀ acc, I xs.length acc → P (.n (.lst acc)) := by
  subst hxs
  refine ⟨fun i acc => acc = (l.take i).map g, rfl, fun i x acc hi e => ?_, fun acc e => ?_⟩
  · subst e
    obtain ⟨y, hy, rfl⟩ := map_get hi
    have hl : i < l.length := by
      rcases Nat.lt_or_ge i l.length with z | z
      · exact z
      · rw [List.getElem?_eq_none z] at hy; cases hy
    refine he y (mem_get hy) _ ?_
    refine ⟨sl' _ (by rw [List.length_map, List.length_take]; omega), ?_⟩
    show _ = (l.take (i + 1)).map g
    rw [take_snoc hy, List.map_append]
    rfl
  · subst e
    rw [List.length_map, List.take_length]
    exact hP
theorem rd__law_apply (n : Nat) (y : Tb × Tm) (h : (ct__law_apply (n + 1)).pre y) : ds__law_apply n (endsOf ((ct__law_apply (n + 1)).post y) noE) (slots [.b (.kk (tblD y.1)), .d y.2.d] 3) := by
  obtain ⟨s, t⟩ := y
  obtain ⟨h1, h2⟩ : t.depth ≤ n + 1 ∧ t.size ≤ 10000 := h
  cases t with
  | var x =>
    show (if (valD (tblD s) (.inr x)).isSome = true then _ else _)
    have e : (Tm.var x).sub (lk s) = lk s x := by rw [Tm.sub]
    cases hl : look s x with
    | none =>
      rw [if_neg (by rw [valD_tbl, hl]; decide)]
      show R.d (.str x) = .d ((Tm.var x).sub (lk s)).d
      rw [e]
      unfold lk
      rw [hl]
      rfl
    | some u =>
      rw [if_pos (by rw [valD_tbl, hl]; rfl)]
      show match valD (tblD s) (.inr x) with | some z => _ | none => False
      rw [valD_tbl, hl]
      show R.d u.d = .d ((Tm.var x).sub (lk s)).d
      rw [e]
      unfold lk
      rw [hl]
      rfl
  | app f ts =>
    rw [Tm.depth] at h1
    rw [Tm.size] at h2
    have hl := Tm.sizes_length ts
    show ∃ I : Nat → List D → Prop, _
    refine lcMapA (ρ := [.b (.kk (tblD s)), .d (Tm.app f ts).d, .any]) (vs := [2]) (j := 2) (de := dCall (ct__law_apply n) (aCons (dVar 0) (aCons (dVar 2) aNil))) (P := fun r => fTuple [r] fun x => aNil [] (fun rs => match asD (.d (.str f) :: x :: rs) with | some xs => xs.length ≤ sizeLine ∧ (ct__law_apply (n + 1)).post (s, .app f ts) (.d (.tup xs)) | none => False) noE) (Tm.ds ts) ts Tm.d (fun u => (u.sub (lk s)).d) (Tm.ds_map ts) (by omega) (fun x hx Z hZ => ?_) ?_
    · have m1 := Tm.size_le_of_mem hx
      have m2 := Tm.depth_le_of_mem hx
      exact ⟨(s, x), rfl, ⟨by show x.depth ≤ n; omega, by show x.size ≤ 10000; omega⟩, fun r er => by subst er; exact hZ, fun _ h => h⟩
    · refine ⟨sl 2 (by omega), ?_⟩
      show R.d _ = R.d ((Tm.app f ts).sub (lk s)).d
      rw [Tm.sub, Tm.d, Tm.ds_map, Tm.subs_map, List.map_map]
      rfl
theorem rd__law_marked (n : Nat) (y : Tm × Str) (h : (ct__law_marked (n + 1)).pre y) : ds__law_marked n (endsOf ((ct__law_marked (n + 1)).post y) noE) (slots [.d y.1.d, .d (.str y.2)] 3) := by
  obtain ⟨t, k⟩ := y
  obtain ⟨h1, h2, h3⟩ : t.depth ≤ n + 1 ∧ t.size ≤ 10000 ∧ ∀ x ∈ t.occ, x.length + k.length ≤ sizeLine := h
  cases t with
  | var x => exact ⟨h3 x (by rw [Tm.occ_var]; exact List.mem_cons_self), rfl⟩
  | app f ts =>
    rw [Tm.depth] at h1
    rw [Tm.size] at h2
    have hl := Tm.sizes_length ts
    show ∃ I : Nat → List D → Prop, _
    refine lcMapA (ρ := [.d (Tm.app f ts).d, .d (.str k), .any]) (vs := [2]) (j := 2) (de := dCall (ct__law_marked n) (aCons (dVar 2) (aCons (dVar 1) aNil))) (P := fun r => fTuple [r] fun x => aNil [] (fun rs => match asD (.d (.str f) :: x :: rs) with | some xs => xs.length ≤ sizeLine ∧ (ct__law_marked (n + 1)).post (.app f ts, k) (.d (.tup xs)) | none => False) noE) (Tm.ds ts) ts Tm.d (fun u => (u.ren fun x => x ++ k).d) (Tm.ds_map ts) (by omega) (fun x hx Z hZ => ?_) ?_
    · have m1 := Tm.size_le_of_mem hx
      have m2 := Tm.depth_le_of_mem hx
      exact ⟨(x, k), rfl, ⟨by show x.depth ≤ n; omega, by show x.size ≤ 10000; omega, fun z hz => h3 z (by rw [Tm.occ_app, Tm.occs_mem]; exact ⟨x, hx, hz⟩)⟩, fun r er => by subst er; exact hZ, fun _ h => h⟩
    · refine ⟨sl 2 (by omega), ?_⟩
      show R.d _ = R.d ((Tm.app f ts).ren _).d
      unfold Tm.ren
      rw [Tm.sub, Tm.d, Tm.ds_map, Tm.subs_map, List.map_map]
      rfl
/-! numbered variables -/
def canonT (t : Tm) : Tb := t.vars.mapIdx fun k x => (x, .var (Tm.uN k))
theorem canonT_get {t : Tm} {i : Nat} {x : Str} (h : t.vars[i]? = some x) : (canonT t)[i]? = some (x, .var (Tm.uN i)) := by
  unfold canonT
  rw [List.getElem?_mapIdx, h]
  rfl
theorem canonT_keys (t : Tm) : keysT (canonT t) = t.vars := by
  refine List.ext_getElem? fun i => ?_
  unfold keysT canonT
  rw [List.getElem?_map, List.getElem?_mapIdx]
  cases t.vars[i]? <;> rfl
theorem canonT_length (t : Tm) : (canonT t).length = t.vars.length := by unfold canonT; rw [List.length_mapIdx]
theorem canonT_sub (t : Tm) : t.sub (lk (canonT t)) = t.canon := by
  refine Tm.sub_congr t fun x hx => ?_
  have hx := Tm.mem_vars.mpr hx
  have e : look (canonT t) x = some (.var (Tm.uN (ixOf x t.vars))) := look_of (by rw [canonT_keys]; exact dd_nodup _) (mem_get (canonT_get (ixOf_get hx)))
  unfold lk
  rw [e]
  rfl
theorem canonT_ok (t : Tm) (h : t.vars.length ≤ 64) : TbOk (canonT t) := by
  refine ⟨by rw [canonT_length]; omega, fun p hp => ?_⟩
  obtain ⟨i, hi⟩ := List.mem_iff_getElem?.mp hp
  unfold canonT at hi
  rw [List.getElem?_mapIdx] at hi
  cases z : t.vars[i]? with
  | none => rw [z] at hi; cases hi
  | some x =>
    rw [z] at hi
    cases hi
    show (Tm.var _).size ≤ 10000
    rw [Tm.size]
    omega
theorem uN_len : ∀ i : Nat, i < 64 → (Str.ofString (toString (i : Int))).length ≤ 2 := by decide +kernel
theorem log_few {i : Nat} (h : i < 64) : (i : Int).natAbs.log2 < 1920 := by
  have := Nat.log2_le_self i
  show Nat.log2 i < 1920
  omega
theorem tbl_put {s : Tb} {x : Str} {u : Tm} (h : x ∉ keysT s) : putD (tblD s) (.inr x) u.d = tblD (s ++ [(x, u)]) := by
  rw [putD_new (by rw [valD_tbl, look_none.mpr h]; rfl)]
  unfold tblD
  rw [List.map_append]
  rfl
theorem rd_canonical (t : Tm) (h : ct_canonical.pre t) : ds_canonical (endsOf (ct_canonical.post t) noE) (slots [.d t.d] 3) := by
  obtain ⟨h1, h2, h3⟩ : t.size ≤ 400 ∧ t.depth ≤ 40 ∧ t.vars.length ≤ 64 := h
  have nd : t.vars.Nodup := dd_nodup _
  refine ⟨t, rfl, by show t.size ≤ 10000; omega, fun r er => ?_, fun _ h => h⟩
  subst er
  refine ⟨fun i acc => acc = tblD ((canonT t).take i), rfl, ?_, ?_⟩
  · rintro i x acc hx rfl
    obtain ⟨x0, hx0, rfl⟩ := enumD_get hx
    clear hx
    obtain ⟨x, hx, rfl⟩ := map_get hx0
    clear hx0
    have hi : i < t.vars.length := by
      rcases Nat.lt_or_ge i t.vars.length with z | z
      · exact z
      · rw [List.getElem?_eq_none z] at hx; cases hx
    have hn : x ∉ keysT ((canonT t).take i) := fun z => by
      have e : keysT ((canonT t).take i) = t.vars.take i := by unfold keysT; rw [List.map_take]; exact congrArg (List.take i) (canonT_keys t)
      rw [e] at z
      obtain ⟨j, hj, e⟩ := List.mem_take_iff_getElem.mp z
      have e1 := ixOf_nodup nd hx
      have e2 := ixOf_nodup nd (i := j) (x := x) (by rw [List.getElem?_eq_getElem (by omega), e])
      omega
    have hlen := uN_len i (by omega)
    refine ⟨rfl, log_few (by omega), sl _ (by show 1 + _ ≤ _; omega), sl' _ (by rw [tblD_length, List.length_take, canonT_length]; omega), ?_⟩
    show putD (tblD ((canonT t).take i)) (.inr x) (Tm.var (Tm.uN i)).d = _
    rw [tbl_put hn, take_snoc (canonT_get hx)]
  · rintro acc rfl
    have e : (canonT t).take (enumD (strDs t.vars)).length = canonT t := by
      rw [enumD_length, strDs_length, ← canonT_length, List.take_length]
    rw [e]
    have e2 := canonT_sub t
    refine ⟨(canonT t, t), rfl, ⟨canonT_ok t h3, by show t.size ≤ 10000; omega, ?_, ?_⟩, fun r er => ?_, fun _ h => h⟩
    · show (t.sub (lk (canonT t))).size ≤ 400
      rw [e2]
      unfold Tm.canon
      rw [Tm.size_ren]
      exact h1
    · show (t.sub (lk (canonT t))).depth ≤ 40
      rw [e2]
      unfold Tm.canon
      rw [Tm.depth_ren]
      exact h2
    · have er : r = .d (t.sub (lk (canonT t))).d := er
      rw [e2] at er
      exact er
def pairD (p : Str × Tm) : D := .tup [.str p.1, p.2.d]
theorem pairsOf_tbl : ∀ s : Tb, pairsOf (s.map pairD) = some (tblD s)
  | [] => rfl
  | p :: r => by
    show (match keyOfD (.str p.1), pairsOf (r.map pairD) with | some k, some kvs => some ((k, p.2.d) :: kvs) | _, _ => none) = _
    rw [pairsOf_tbl r]
    rfl
theorem merge_go : ∀ (s a : Tb), (keysT (a ++ s)).Nodup → (tblD s).foldl (fun acc kv => putD acc kv.1 kv.2) (tblD a) = tblD (a ++ s)
  | [], a, _ => by rw [List.append_nil]; rfl
  | p :: r, a, h => by
    have hn : p.1 ∉ keysT a := fun z => by
      unfold keysT at h z
      rw [List.map_append, List.nodup_append] at h
      exact h.2.2 _ z p.1 (by rw [List.map_cons]; exact List.mem_cons_self) rfl
    show (tblD r).foldl _ (putD (tblD a) (.inr p.1) p.2.d) = _
    rw [tbl_put hn, merge_go r (a ++ [(p.1, p.2)]) (by rw [List.append_assoc]; exact h), List.append_assoc]
    rfl
theorem merge_tbl {s : Tb} (h : (keysT s).Nodup) : mergeD (tblD s) = tblD s := merge_go s [] h
theorem rd__law_canonical (t : Tm) (h : ct__law_canonical.pre t) : ds__law_canonical (endsOf (ct__law_canonical.post t) noE) (slots [.d t.d] 3) := by
  obtain ⟨h0, h1, h2, h3⟩ : t.ok = true ∧ t.size ≤ 400 ∧ t.depth ≤ 40 ∧ t.vars.length ≤ 64 := h
  refine ⟨t, rfl, ⟨h2, by omega, h0⟩, fun r er => ?_, fun _ h => h⟩
  subst er
  have hvl : (strDs t.vars).length = t.vars.length := strDs_length _
  refine ⟨by omega, by show (((strDs t.vars).length : Nat) : Int) < 2 ^ 62; omega, ?_⟩
  refine ⟨fun i acc => acc = ((canonT t).take i).map pairD, rfl, ?_, ?_⟩
  · rintro i x acc hx rfl
    obtain ⟨hi, rfl⟩ := rng_get hx
    have hi : i < t.vars.length := by
      have hi : i < ((((strDs t.vars).length : Nat) : Int)).toNat := hi
      omega
    have hg : t.vars[i]? = some t.vars[i] := List.getElem?_eq_getElem hi
    have hgd : (strDs t.vars)[i]? = some (.str t.vars[i]) := by unfold strDs; rw [List.getElem?_map, hg]; rfl
    have hlen := uN_len i (by omega)
    show match atI (strDs t.vars) (i : Int) with | some z => _ | none => False
    rw [atI_get hgd]
    refine ⟨log_few (by omega), sl _ (by show 1 + _ ≤ _; omega), sl 2 (by omega), sl' _ (by rw [List.length_map, List.length_take, canonT_length]; omega), ?_⟩
    show ((canonT t).take i).map pairD ++ [pairD (t.vars[i], .var (Tm.uN i))] = _
    rw [take_snoc (canonT_get hg), List.map_append]
    rfl
  · rintro acc rfl
    have e : (canonT t).take (rng 0 ((((strDs t.vars).length : Nat) : Int)).toNat).length = canonT t := by
      rw [rng_length, show ((((strDs t.vars).length : Nat) : Int)).toNat = (canonT t).length by rw [canonT_length]; omega, List.take_length]
    have e2 := canonT_sub t
    have nd : (keysT (canonT t)).Nodup := by rw [canonT_keys]; exact dd_nodup _
    rw [e]
    show match pairsOf ((canonT t).map pairD) with | some kvs => _ | none => False
    rw [pairsOf_tbl]
    refine ⟨(canonT t, t), ?_, ⟨h2, by show t.size ≤ 10000; omega⟩, fun r er => ?_, fun _ h => h⟩
    · show [R.b (.kk (mergeD (tblD (canonT t)))), .d t.d] = _
      rw [merge_tbl nd]
      rfl
    · have er : r = .d (t.sub (lk (canonT t))).d := er
      rw [e2] at er
      exact er
end PL

namespace PL
open PySem PySem.Spec PyProof.Rows L2
theorem ite_f {X Y : Prop} (h : Y) : if false = true then X else Y := by rw [if_neg (by decide)]; exact h
def pr2 (q : Tm × Tm) : D := .tup [q.1.d, q.2.d]
def Small (t : Tm) : Prop := t.ok = true ∧ t.size ≤ 10000 ∧ t.depth ≤ 32
theorem Small.arg {f : Str} {ts : List Tm} {u : Tm} (h : Small (.app f ts)) (hu : u ∈ ts) : Small u := by
  obtain ⟨h1, h2, h3⟩ := h
  rw [Tm.ok, Bool.and_eq_true] at h1
  rw [Tm.size] at h2
  rw [Tm.depth] at h3
  have m1 := Tm.size_le_of_mem hu
  have m2 := Tm.depth_le_of_mem hu
  exact ⟨Tm.oks_mem h1.2 hu, by omega, by omega⟩
def W1 (l : List (Tm × Tm)) : Nat := Tm.sizes (l.map (·.1))
theorem W1_append (a b : List (Tm × Tm)) : W1 (a ++ b) = W1 a + W1 b := by unfold W1; rw [List.map_append, Tm.sizes_append]
theorem W1_zip (ts us : List Tm) (h : ts.length = us.length) : W1 (ts.zip us) = Tm.sizes ts := by
  unfold W1
  have e : (ts.zip us).map (·.1) = ts := by
    have := List.map_fst_zip (l₁ := ts) (l₂ := us) (by omega)
    exact this
  rw [e]
theorem zip_get {ts us : List Tm} {i : Nat} {a b : Tm} (h1 : ts[i]? = some a) (h2 : us[i]? = some b) : (ts.zip us)[i]? = some (a, b) := by
  rw [List.getElem?_zip_eq_some]
  exact ⟨h1, h2⟩
theorem rd__law_match (y : Tm × Tm) (h : ct__law_match.pre y) : ds__law_match (endsOf (ct__law_match.post y) noE) (slots [.d y.1.d, .d y.2.d] 7) := by
  obtain ⟨p, t⟩ := y
  obtain ⟨hp, ht⟩ : Small p ∧ Small t := h
  refine ⟨sl 2 (by omega), sl 1 (by omega), ?_⟩
  refine ⟨fun m ρ => ∃ (s : Tb) (st : List (Tm × Tm)) (x4 x5 : A), ρ = [.d p.d, .d t.d, .o (.dk (tblD s)), .o (.lst (st.map pr2)), x4, x5, .any] ∧ MInv p t s st ∧ m = W1 st ∧ s.length + W1 st ≤ p.size ∧ (∀ q ∈ st, Small q.1 ∧ Small q.2) ∧ ∀ q ∈ s, Small q.2,
    ⟨_, [], [(p, t)], .any, .any, rfl, MInv.start p t, rfl, ?_, fun q hq => by rw [List.mem_singleton.mp hq]; exact ⟨hp, ht⟩, fun q z => by cases z⟩, ?_⟩
  · show 0 + Tm.sizes [p] ≤ _
    rw [Tm.sizes, Tm.sizes]; omega
  rintro m ρ ⟨s, st, x4, x5, rfl, hI, rfl, hw, hst, hs⟩
  have hpz : p.size ≤ 10000 := hp.2.1
  rcases split_last st with z | ⟨a, q, z⟩
  · subst z
    exact .inl ⟨s, rfl, hI.done⟩
  · subst z
    obtain ⟨one, two⟩ := q
    obtain ⟨h1, h2⟩ : Small one ∧ Small two := hst (one, two) (List.mem_append_right _ List.mem_cons_self)
    have hsta : ∀ q ∈ a, Small q.1 ∧ Small q.2 := fun q hq => hst q (List.mem_append_left _ hq)
    rw [W1_append] at hw
    have w1 : W1 [(one, two)] = one.size := by show Tm.sizes [one] = _; rw [Tm.sizes, Tm.sizes]; omega
    have op := Tm.size_pos one
    have hal : a.length ≤ W1 a := by have := Tm.sizes_length (a.map (·.1)); rw [List.length_map] at this; exact this
    have no : (∀ g, p.sub g ≠ t) → ct__law_match.post (p, t) (.d .non) := fun h => .inr ⟨rfl, h⟩
    refine ite2 (fun _ => ?_) (fun h => absurd (by rw [List.map_append]; simp) h)
    refine ⟨a.map pr2, pr2 (one, two), by rw [List.map_append]; rfl, rfl, ?_⟩
    cases one with
    | var x =>
      cases hl : look s x with
      | some w =>
        have hsw := hs _ (look_mem hl)
        refine ite2 (fun _ => ?_) (fun h => absurd (by rw [valD_tbl, hl]; rfl) h)
        show match valD (tblD s) (.inr x) with | some z => _ | none => False
        rw [valD_tbl, hl]
        refine ⟨Tm.shaped hsw.1 hsw.2.2, Tm.shaped h2.1 h2.2.2, ite2 (fun e => ?_) (fun e => ?_)⟩
        · refine no (hI.clash hl fun z => ?_)
          have e : (!PyData.eqv w.d.py two.d.py) = true := e
          subst z
          rw [Tm.eqv_self hsw.1] at e
          cases e
        · have e : ¬ (!PyData.eqv w.d.py two.d.py) = true := e
          have e2 : w = two := Tm.eqv_of _ _ (by revert e; cases PyData.eqv w.d.py two.d.py <;> simp)
          subst e2
          exact ⟨W1 a, by rw [W1_append]; omega, s, a, .d (Tm.var x).d, .d w.d, rfl, hI.known hl, rfl, by omega, hsta, hs⟩
      | none =>
        refine ite2 (fun h => absurd h (by rw [valD_tbl, hl]; decide)) (fun _ => ?_)
        refine ⟨sl' _ (by rw [tblD_length]; omega), W1 a, by rw [W1_append]; omega, s ++ [(x, two)], a, .d (Tm.var x).d, .d two.d, ?_, hI.new hl, rfl, ?_, hsta, fun q hq => ?_⟩
        · rw [← tbl_put (look_none.mp hl)]; rfl
        · have w1 : W1 [(Tm.var x, two)] = 1 := by rw [w1, Tm.size]
          rw [List.length_append, List.length_singleton]; omega
        · rcases List.mem_append.mp hq with hq | hq
          · exact hs q hq
          · rw [List.mem_singleton.mp hq]; exact h2
    | app f ts =>
      cases two with
      | var y => exact no (hI.none fun g z => by rw [Tm.sub] at z; cases z)
      | app f' us =>
        have hf : PyData.strOk f = true := by have := h1.1; rw [Tm.ok, Bool.and_eq_true] at this; exact this.1
        have hf' : PyData.strOk f' = true := by have := h2.1; rw [Tm.ok, Bool.and_eq_true] at this; exact this.1
        have l1 : (Tm.ds ts).length = ts.length := Tm.ds_length ts
        have l2 : (Tm.ds us).length = us.length := Tm.ds_length us
        have tsz := Tm.sizes_length ts
        have w1 : W1 [(Tm.app f ts, Tm.app f' us)] = 1 + Tm.sizes ts := by rw [w1, Tm.size]
        refine ⟨shaped_str hf, shaped_str hf', ite2 (fun e => ?_) (fun e => ?_)⟩
        · refine no (hI.none fun g z => ?_)
          rw [Tm.sub] at z
          have e : (!PyData.eqv (D.str f).py (D.str f').py) = true := e
          rw [eqv_str, decide_eq_true (Tm.app.inj z).1] at e
          cases e
        · have e : ¬ (!PyData.eqv (D.str f).py (D.str f').py) = true := e
          rw [eqv_str] at e
          have ef : f = f' := by
            by_cases c : f = f'
            · exact c
            · rw [decide_eq_false c] at e; exact absurd rfl e
          subst ef
          refine ⟨shaped_int _, shaped_int _, ite2 (fun e => ?_) (fun e => ?_)⟩
          · refine no (hI.none fun g z => ?_)
            rw [Tm.sub] at z
            have e : (!PyData.eqv (D.int ((Tm.ds ts).length : Nat)).py (D.int ((Tm.ds us).length : Nat)).py) = true := e
            have el : ts.length = us.length := by rw [← (Tm.app.inj z).2, Tm.subs_map, List.length_map]
            rw [eqv_int, l1, l2, el, decide_eq_true rfl] at e
            cases e
          · have e : ¬ (!PyData.eqv (D.int ((Tm.ds ts).length : Nat)).py (D.int ((Tm.ds us).length : Nat)).py) = true := e
            rw [eqv_int, l1, l2] at e
            have el : ts.length = us.length := by
              by_cases c : (ts.length : Int) = us.length
              · omega
              · rw [decide_eq_false c] at e; exact absurd rfl e
            show -(2 ^ 62) ≤ (((Tm.ds ts).length : Nat) : Int) ∧ _
            refine ⟨by omega, by omega, ?_⟩
            refine ⟨fun i acc => acc = ((ts.zip us).take i).map pr2, rfl, ?_, ?_⟩
            · rintro i x acc hx rfl
              obtain ⟨hi, rfl⟩ := rng_get hx
              have hi : i < ts.length := by
                have hi : i < ((((Tm.ds ts).length : Nat) : Int)).toNat := hi
                omega
              have hg1 : ts[i]? = some ts[i] := List.getElem?_eq_getElem hi
              have hg2 : us[i]? = some us[i] := List.getElem?_eq_getElem (by omega)
              have hd1 : (Tm.ds ts)[i]? = some ts[i].d := by rw [Tm.ds_get, hg1]; rfl
              have hd2 : (Tm.ds us)[i]? = some us[i].d := by rw [Tm.ds_get, hg2]; rfl
              show match atI (Tm.ds ts) (i : Int) with | some z => _ | none => False
              rw [atI_get hd1]
              show match atI (Tm.ds us) (i : Int) with | some z => _ | none => False
              rw [atI_get hd2]
              refine ⟨sl 2 (by omega), sl' _ (by rw [List.length_map, List.length_take, List.length_zip]; omega), ?_⟩
              show _ = ((ts.zip us).take (i + 1)).map pr2
              rw [take_snoc (zip_get hg1 hg2), List.map_append]
              rfl
            · rintro acc rfl
              have e2 : (ts.zip us).take (rng 0 ((((Tm.ds ts).length : Nat) : Int)).toNat).length = ts.zip us := by
                rw [rng_length, List.take_of_length_le]
                rw [List.length_zip]
                omega
              rw [e2]
              refine ⟨sl _ ?_, W1 (a ++ ts.zip us), ?_, s, a ++ ts.zip us, .d (Tm.app f ts).d, .d (Tm.app f us).d, ?_, hI.inner el (fun q => Iff.rfl), rfl, ?_, fun q hq => ?_, hs⟩
              · rw [List.length_map, List.length_map, List.length_zip]; omega
              · rw [W1_append, W1_append, W1_zip _ _ el, w1]; omega
              · rw [List.map_append (l₁ := a) (l₂ := ts.zip us)]; rfl
              · rw [W1_append, W1_zip _ _ el]; omega
              · rcases List.mem_append.mp hq with hq | hq
                · exact hsta q hq
                · have := List.of_mem_zip (show (q.1, q.2) ∈ _ from hq)
                  exact ⟨h1.arg this.1, h2.arg this.2⟩
end PL

namespace PL
open PySem PySem.Spec PyProof.Rows L2
def ct_same : Ct := { α := Tm × Tm, args := fun y => [.d y.1.d, .d y.2.d], pre := fun y => Small y.1 ∧ Small y.2, post := fun y r => ∃ b, r = .d (.bl b) ∧ (b = true ↔ y.1 = y.2), exc := fun _ _ => False }
def ct_match : Ct := ctMatch
end PL

namespace PL
open PySem PySem.Spec PyProof.Rows L2
def ds_same  : DS := (dSeq (dSet 2 (dLst (aCons (dTup (aCons (dVar 0) (aCons (dVar 1) aNil))) aNil)))
    (dSeq (dWhile (tdT (dVar 2)) (dSeq (dPop 2 (dgTup 2 (dgCons (dgName 3) (dgCons (dgName 4) dgNil))))
    (dIfS (tdOr (tdT (dCall (ct_is_variable) (aCons (dVar 3) aNil))) (tdT (dCall (ct_is_variable) (aCons (dVar 4) aNil)))) (dIfS (tdOr (tdB (dOp fNe (dCall (ct_is_variable) (aCons (dVar 3) aNil)) (dCall (ct_is_variable) (aCons (dVar 4) aNil)))) (tdB (dOp fNe (dVar 3) (dVar 4)))) (dRet (dC (.bl false))) dNext) (dIfS (tdOr (tdB (dOp fNe (dOp fIx (dVar 3) (dC (.int 0))) (dOp fIx (dVar 4) (dC (.int 0))))) (tdB (dOp fNe (dCB fLen (aCons (dOp fIx (dVar 3) (dC (.int 1))) aNil)) (dCB fLen (aCons (dOp fIx (dVar 4) (dC (.int 1))) aNil))))) (dRet (dC (.bl false))) (dExt 2 (dLzip (dOp fIx (dVar 3) (dC (.int 1))) (dOp fIx (dVar 4) (dC (.int 1)))))))))
    (dRet (dC (.bl true)))))
def ds_match  : DS := (dSeq (dSet 2 dNewD)
    (dSeq (dSet 3 (dLst (aCons (dTup (aCons (dVar 0) (aCons (dVar 1) aNil))) aNil)))
    (dSeq (dWhile (tdT (dVar 3)) (dSeq (dPop 3 (dgTup 2 (dgCons (dgName 4) (dgCons (dgName 5) dgNil))))
    (dIfS (tdT (dCall (ct_is_variable) (aCons (dVar 4) aNil))) (dIfS (tdB (dInD false (dVar 4) (dVar 2))) (dIfS (tdNot (tdT (dCall (ct_same) (aCons (dGetD (dVar 2) (dVar 4)) (aCons (dVar 5) aNil))))) (dRet (dC .non)) dNext) (dPutD 2 (dVar 4) (dVar 5))) (dIfS (tdOr (tdT (dCall (ct_is_variable) (aCons (dVar 5) aNil))) (tdOr (tdB (dOp fNe (dOp fIx (dVar 4) (dC (.int 0))) (dOp fIx (dVar 5) (dC (.int 0))))) (tdB (dOp fNe (dCB fLen (aCons (dOp fIx (dVar 4) (dC (.int 1))) aNil)) (dCB fLen (aCons (dOp fIx (dVar 5) (dC (.int 1))) aNil)))))) (dRet (dC .non)) (dExt 3 (dRev (dLzip (dOp fIx (dVar 4) (dC (.int 1))) (dOp fIx (dVar 5) (dC (.int 1))))))))))
    (dRetV 2))))
def ds_law1  : DS := (dSeq (dSet 2 (dCall (ct__law_some_symbols) (aCons (dVar 1) (aCons (dC (.int 5)) aNil))))
    (dSeq (dSet 3 (dCall (ct__law_term 40) (aCons (dVar 1) (aCons (dVar 2) (aCons (dLst (aCons (dC (.str "x")) (aCons (dC (.str "y")) (aCons (dC (.str "z")) aNil)))) (aCons (dOp fAdd (dC (.int 1)) (dCall (ctDraw) (aCons (dVar 1) (aCons (dC (.int 12)) aNil)))) (aCons (dC (.int 5)) aNil)))))))
    (dSeq (dSet 4 (dCB fDictP (aCons (dLc (iNew (dLst (aCons (dC (.str "x")) (aCons (dC (.str "y")) (aCons (dC (.str "z")) aNil))))) (dgName 15) (tdB (dOp fGt (dCall (ctDraw) (aCons (dVar 1) (aCons (dC (.int 4)) aNil))) (dC (.int 0)))) (dTup (aCons (dVar 15) (aCons (dCall (ct__law_term 40) (aCons (dVar 1) (aCons (dVar 2) (aCons (dLst (aCons (dC (.str "x")) (aCons (dC (.str "y")) (aCons (dC (.str "u")) aNil)))) (aCons (dOp fAdd (dC (.int 1)) (dCall (ctDraw) (aCons (dVar 1) (aCons (dC (.int 4)) aNil)))) (aCons (dC (.int 3)) aNil)))))) aNil))) [15]) aNil)))
    (dSeq (dSet 5 (dCB fDictP (aCons (dLc (iNew (dLst (aCons (dC (.str "x")) (aCons (dC (.str "y")) (aCons (dC (.str "u")) (aCons (dC (.str "v")) aNil)))))) (dgName 15) (tdB (dOp fGt (dCall (ctDraw) (aCons (dVar 1) (aCons (dC (.int 3)) aNil))) (dC (.int 0)))) (dTup (aCons (dVar 15) (aCons (dCall (ct__law_term 40) (aCons (dVar 1) (aCons (dVar 2) (aCons (dLst (aCons (dC (.str "x")) (aCons (dC (.str "v")) aNil))) (aCons (dOp fAdd (dC (.int 1)) (dCall (ctDraw) (aCons (dVar 1) (aCons (dC (.int 3)) aNil)))) (aCons (dC (.int 3)) aNil)))))) aNil))) [15]) aNil)))
    (dSeq (dSet 6 (dCB fDictP (aCons (dLcK 4 (dgName 15) tdYes (dTup (aCons (dVar 15) (aCons (dGetD (dVar 4) (dVar 15)) aNil))) [15]) aNil)))
    (dSeq (dSet 7 (dCall (ct_apply) (aCons (dVar 4) (aCons (dVar 3) aNil))))
    (dSeq (dIfS (tdOr (tdB (dOp fNe (dVar 7) (dCall (ct__law_apply 40) (aCons (dVar 4) (aCons (dVar 3) aNil))))) (tdB (dOp fNeO (dVar 4) (dVar 6)))) (dRet (dC (.bl false))) dNext)
    (dSeq (dSet 8 (dCB fDictP (aCons (dLc (iNew (dLst (aCons (dC (.str "x")) (aCons (dC (.str "y")) (aCons (dC (.str "z")) (aCons (dC (.str "u")) (aCons (dC (.str "v")) aNil))))))) (dgName 15) tdYes (dTup (aCons (dVar 15) (aCons (dCall (ct_apply) (aCons (dVar 5) (aCons (dIf (tdB (dInD false (dVar 15) (dVar 4))) (dGetD (dVar 4) (dVar 15)) (dVar 15)) aNil))) aNil))) [15]) aNil)))
    (dSeq (dIfS (tdB (dOp fNe (dCall (ct_apply) (aCons (dVar 5) (aCons (dVar 7) aNil))) (dCall (ct_apply) (aCons (dVar 8) (aCons (dVar 3) aNil))))) (dRet (dC (.bl false))) dNext)
    (dSeq (dSet 9 (dCall (ct_match) (aCons (dVar 3) (aCons (dVar 7) aNil))))
    (dSeq (dIfS (tdOr (tdB (dOp fIsN (dVar 9) (dC .non))) (tdB (dOp fNeO (dVar 9) (dCB fDictP (aCons (dLc (iTp (dCall (ct_variables) (aCons (dVar 3) aNil))) (dgName 15) tdYes (dTup (aCons (dVar 15) (aCons (dIf (tdB (dInD false (dVar 15) (dVar 4))) (dGetD (dVar 4) (dVar 15)) (dVar 15)) aNil))) [15]) aNil))))) (dRet (dC (.bl false))) dNext)
    (dSeq (dSet 10 (dLst (aCons (dCall (ct__law_term 40) (aCons (dVar 1) (aCons (dVar 2) (aCons (dLst (aCons (dC (.str "x")) (aCons (dC (.str "y")) aNil))) (aCons (dOp fAdd (dC (.int 1)) (dCall (ctDraw) (aCons (dVar 1) (aCons (dC (.int 8)) aNil)))) (aCons (dC (.int 4)) aNil)))))) (aCons (dCall (ct__law_put 40) (aCons (dVar 7) (aCons (dCall (ct__law_pick) (aCons (dVar 1) (aCons (dCall (ct__law_places 40) (aCons (dVar 7) aNil)) aNil))) (aCons (dCall (ct__law_term 40) (aCons (dVar 1) (aCons (dVar 2) (aCons (dLst (aCons (dC (.str "x")) (aCons (dC (.str "y")) aNil))) (aCons (dOp fAdd (dC (.int 1)) (dCall (ctDraw) (aCons (dVar 1) (aCons (dC (.int 3)) aNil)))) (aCons (dC (.int 3)) aNil)))))) aNil)))) aNil))))
    (dSeq (dFor (iVar 10) (dgName 11) (dSeq (dSet 12 (dCall (ct_match) (aCons (dVar 3) (aCons (dVar 11) aNil))))
    (dSeq (dSet 13 (dCall (ct__law_match) (aCons (dVar 3) (aCons (dVar 11) aNil))))
    (dSeq (dIfS (tdOr (tdB (dOp fNeO (dVar 12) (dVar 13))) (tdB (dOp fNe (dOp fIsN (dVar 12) (dC .non)) (dOp fIsN (dVar 13) (dC .non))))) (dRet (dC (.bl false))) dNext)
    (dIfS (tdAnd (tdB (dOp fNotN (dVar 12) (dC .non))) (tdB (dOp fNe (dCall (ct_apply) (aCons (dVar 12) (aCons (dVar 3) aNil))) (dVar 11)))) (dRet (dC (.bl false))) dNext)))))
    (dSeq (dSet 14 (dCall (ct_match) (aCons (dVar 7) (aCons (dCall (ct_apply) (aCons (dVar 5) (aCons (dVar 7) aNil))) aNil))))
    (dRet (dOp fEqO (dVar 14) (dCB fDictP (aCons (dLc (iTp (dCall (ct_variables) (aCons (dVar 7) aNil))) (dgName 15) tdYes (dTup (aCons (dVar 15) (aCons (dIf (tdB (dInD false (dVar 15) (dVar 5))) (dGetD (dVar 5) (dVar 15)) (dVar 15)) aNil))) [15]) aNil))))))))))))))))))
end PL

namespace PL
open PySem PySem.Spec PyProof.Rows L2
theorem eqv_bl (a b : Bool) : PyData.eqv (D.bl a).py (D.bl b).py = (a == b) := by
  rw [D.py, D.py]
  cases a <;> cases b <;> rfl
theorem shaped_bl (b : Bool) : SeqAt.shaped (D.bl b).py = true := by cases b <;> rfl
theorem zipD_ds : ∀ (ts us : List Tm), zipD (Tm.ds ts) (Tm.ds us) = (ts.zip us).map pr2
  | [], _ => rfl
  | _ :: _, [] => rfl
  | t :: r, u :: v => by
    rw [Tm.ds, Tm.ds, List.zip_cons_cons, List.map_cons, ← zipD_ds r v]
    rfl
theorem zip_eq {ts us : List Tm} (h : ts.length = us.length) : ts = us ↔ ∀ q ∈ ts.zip us, q.1 = q.2 := by
  induction ts generalizing us with
  | nil => cases us <;> simp_all
  | cons t r ih =>
    cases us with
    | nil => simp at h
    | cons u v =>
      rw [List.zip_cons_cons, List.cons.injEq, ih (by simpa using h)]
      simp
/-- what is_variable, asked, hands over -/
theorem ask_var {t : Tm} {Z : R → Prop} (hZ : Z (.d (.bl t.isVar))) : ∃ x : ct_is_variable.α, ([R.d t.d] : List R) = ct_is_variable.args x ∧ ct_is_variable.pre x ∧ (∀ r, ct_is_variable.post x r → Z r) ∧ ∀ c, ¬ ct_is_variable.exc x c :=
  ⟨t, rfl, trivial, fun r er => by rw [show r = .d (.bl t.isVar) from er]; exact hZ, fun _ h => h⟩
theorem names_ne {f f' : Str} {P Q : Prop} (hf : PyData.strOk f = true) (hf' : PyData.strOk f' = true) (h1 : f ≠ f' → P) (h2 : f = f' → Q) : SeqAt.shaped (D.str f).py = true ∧ SeqAt.shaped (D.str f').py = true ∧ (if (!PyData.eqv (D.str f).py (D.str f').py) = true then P else Q) := by
  refine ⟨shaped_str hf, shaped_str hf', ?_⟩
  rw [eqv_str]
  by_cases c : f = f'
  · rw [decide_eq_true c, if_neg (by decide)]; exact h2 c
  · rw [decide_eq_false c, if_pos (by decide)]; exact h1 c
theorem lens_ne {a b : Nat} {P Q : Prop} (h1 : a ≠ b → P) (h2 : a = b → Q) : SeqAt.shaped (D.int a).py = true ∧ SeqAt.shaped (D.int b).py = true ∧ (if (!PyData.eqv (D.int a).py (D.int b).py) = true then P else Q) := by
  refine ⟨shaped_int _, shaped_int _, ?_⟩
  rw [eqv_int]
  by_cases c : a = b
  · subst c
    rw [decide_eq_true rfl, if_neg (by decide)]; exact h2 rfl
  · rw [decide_eq_false (by omega), if_pos (by decide)]; exact h1 c
theorem ok_name {f : Str} {ts : List Tm} (h : Small (.app f ts)) : PyData.strOk f = true := by have := h.1; rw [Tm.ok, Bool.and_eq_true] at this; exact this.1
theorem rd_same (y : Tm × Tm) (h : ct_same.pre y) : ds_same (endsOf (ct_same.post y) noE) (slots [.d y.1.d, .d y.2.d] 5) := by
  obtain ⟨p, t⟩ := y
  obtain ⟨hp, ht⟩ : Small p ∧ Small t := h
  refine ⟨sl 2 (by omega), sl 1 (by omega), ?_⟩
  refine ⟨fun m ρ => ∃ (st : List (Tm × Tm)) (x3 x4 : A), ρ = [.d p.d, .d t.d, .o (.lst (st.map pr2)), x3, x4] ∧ (p = t ↔ ∀ q ∈ st, q.1 = q.2) ∧ m = W1 st ∧ W1 st ≤ p.size ∧ ∀ q ∈ st, Small q.1 ∧ Small q.2,
    ⟨_, [(p, t)], .any, .any, rfl, by simp, rfl, ?_, fun q hq => by rw [List.mem_singleton.mp hq]; exact ⟨hp, ht⟩⟩, ?_⟩
  · show Tm.sizes [p] ≤ _
    rw [Tm.sizes, Tm.sizes]; omega
  rintro m ρ ⟨st, x3, x4, rfl, hI, rfl, hw, hst⟩
  have hpz : p.size ≤ 10000 := hp.2.1
  rcases split_last st with z | ⟨a, q, z⟩
  · subst z
    exact ⟨true, rfl, fun _ => hI.mpr (by simp), fun _ => rfl⟩
  · subst z
    obtain ⟨one, two⟩ := q
    obtain ⟨h1, h2⟩ : Small one ∧ Small two := hst (one, two) (List.mem_append_right _ List.mem_cons_self)
    have hsta : ∀ q ∈ a, Small q.1 ∧ Small q.2 := fun q hq => hst q (List.mem_append_left _ hq)
    rw [W1_append] at hw
    have w1 : W1 [(one, two)] = one.size := by show Tm.sizes [one] = _; rw [Tm.sizes, Tm.sizes]; omega
    have op := Tm.size_pos one
    have hal : a.length ≤ W1 a := by have := Tm.sizes_length (a.map (·.1)); rw [List.length_map] at this; exact this
    have no : one ≠ two → ct_same.post (p, t) (.d (.bl false)) := fun h => ⟨false, rfl, (fun z => by cases z), fun e => absurd (hI.mp e (one, two) (List.mem_append_right _ List.mem_cons_self)) h⟩
    have drop : one = two → (p = t ↔ ∀ q ∈ a, q.1 = q.2) := fun e => by
      rw [hI]
      exact ⟨fun z q hq => z q (List.mem_append_left _ hq), fun z q hq => by
        rcases List.mem_append.mp hq with hq | hq
        · exact z q hq
        · rw [List.mem_singleton.mp hq]; exact e⟩
    refine ite2 (fun _ => ?_) (fun h => absurd (by rw [List.map_append]; simp) h)
    refine ⟨a.map pr2, pr2 (one, two), by rw [List.map_append]; rfl, rfl, ?_⟩
    refine ask_var ?_
    cases one with
    | var x =>
      refine ask_var (t := .var x) (ask_var (t := two) ?_)
      refine ⟨shaped_bl _, shaped_bl _, ?_⟩
      rw [eqv_bl]
      cases two with
      | app f us => exact no fun z => by cases z
      | var y =>
        show SeqAt.shaped (D.str x).py = true ∧ SeqAt.shaped (D.str y).py = true ∧ (if (!PyData.eqv (D.str x).py (D.str y).py) = true then _ else _)
        refine names_ne h1.1 h2.1 (fun ne => no fun z => ne (Tm.var.inj z)) (fun e => ?_)
        subst e
        exact ⟨W1 a, by rw [W1_append]; omega, a, .d (Tm.var x).d, .d (Tm.var x).d, rfl, drop rfl, rfl, by omega, hsta⟩
    | app f ts =>
      refine ask_var (t := two) ?_
      cases two with
      | var y =>
        refine ask_var (t := .app f ts) (ask_var (t := .var y) ?_)
        exact ⟨shaped_bl _, shaped_bl _, no fun z => by cases z⟩
      | app f' us =>
        have l1 : (Tm.ds ts).length = ts.length := Tm.ds_length ts
        have l2 : (Tm.ds us).length = us.length := Tm.ds_length us
        have tsz := Tm.sizes_length ts
        have w1 : W1 [(Tm.app f ts, Tm.app f' us)] = 1 + Tm.sizes ts := by rw [w1, Tm.size]
        refine names_ne (ok_name h1) (ok_name h2) (fun ne => no fun z => ne (Tm.app.inj z).1) (fun ef => ?_)
        subst ef
        refine lens_ne (a := (Tm.ds ts).length) (b := (Tm.ds us).length) (fun ne => no fun z => ne (by rw [l1, l2, (Tm.app.inj z).2])) (fun el => ?_)
        rw [l1, l2] at el
        have hz := zipD_ds ts us
        refine ⟨?_, W1 (a ++ ts.zip us), ?_, a ++ ts.zip us, .d (Tm.app f ts).d, .d (Tm.app f us).d, ?_, ?_, rfl, ?_, fun q hq => ?_⟩
        · rw [hz, List.length_map, List.length_map, List.length_zip]; exact sl _ (by omega)
        · rw [W1_append, W1_append, W1_zip _ _ el, w1]; omega
        · rw [List.map_append (l₁ := a) (l₂ := ts.zip us), ← hz]; rfl
        · rw [hI]
          constructor
          · intro z q hq
            rcases List.mem_append.mp hq with hq | hq
            · exact z q (List.mem_append_left _ hq)
            · have e := z (.app f ts, .app f us) (List.mem_append_right _ List.mem_cons_self)
              exact (zip_eq el).mp (Tm.app.inj e).2 q hq
          · intro z q hq
            rcases List.mem_append.mp hq with hq | hq
            · exact z q (List.mem_append_left _ hq)
            · rw [List.mem_singleton.mp hq]
              show Tm.app f ts = Tm.app f us
              rw [(zip_eq el).mpr fun q hq => z q (List.mem_append_right _ hq)]
        · rw [W1_append, W1_zip _ _ el]; omega
        · rcases List.mem_append.mp hq with hq | hq
          · exact hsta q hq
          · have := List.of_mem_zip (show (q.1, q.2) ∈ _ from hq)
            exact ⟨h1.arg this.1, h2.arg this.2⟩
theorem rd_match (y : Tm × Tm) (h : ct_match.pre y) : ds_match (endsOf (ct_match.post y) noE) (slots [.d y.1.d, .d y.2.d] 6) := by
  obtain ⟨p, t⟩ := y
  obtain ⟨hp, ht⟩ : Small p ∧ Small t := h
  refine ⟨sl 2 (by omega), sl 1 (by omega), ?_⟩
  refine ⟨fun m ρ => ∃ (s : Tb) (st : List (Tm × Tm)) (x4 x5 : A), ρ = [.d p.d, .d t.d, .o (.dk (tblD s)), .o (.lst (st.map pr2)), x4, x5] ∧ MInv p t s st ∧ m = W1 st ∧ s.length + W1 st ≤ p.size ∧ (∀ q ∈ st, Small q.1 ∧ Small q.2) ∧ ∀ q ∈ s, Small q.2,
    ⟨_, [], [(p, t)], .any, .any, rfl, MInv.start p t, rfl, ?_, fun q hq => by rw [List.mem_singleton.mp hq]; exact ⟨hp, ht⟩, fun q z => by cases z⟩, ?_⟩
  · show 0 + Tm.sizes [p] ≤ _
    rw [Tm.sizes, Tm.sizes]; omega
  rintro m ρ ⟨s, st, x4, x5, rfl, hI, rfl, hw, hst, hs⟩
  have hpz : p.size ≤ 10000 := hp.2.1
  rcases split_last st with z | ⟨a, q, z⟩
  · subst z
    exact .inl ⟨s, rfl, hI.done⟩
  · subst z
    obtain ⟨one, two⟩ := q
    obtain ⟨h1, h2⟩ : Small one ∧ Small two := hst (one, two) (List.mem_append_right _ List.mem_cons_self)
    have hsta : ∀ q ∈ a, Small q.1 ∧ Small q.2 := fun q hq => hst q (List.mem_append_left _ hq)
    rw [W1_append] at hw
    have w1 : W1 [(one, two)] = one.size := by show Tm.sizes [one] = _; rw [Tm.sizes, Tm.sizes]; omega
    have op := Tm.size_pos one
    have hal : a.length ≤ W1 a := by have := Tm.sizes_length (a.map (·.1)); rw [List.length_map] at this; exact this
    have no : (∀ g, p.sub g ≠ t) → ct_match.post (p, t) (.d .non) := fun h => .inr ⟨rfl, h⟩
    refine ite2 (fun _ => ?_) (fun h => absurd (by rw [List.map_append]; simp) h)
    refine ⟨a.map pr2, pr2 (one, two), by rw [List.map_append]; rfl, rfl, ?_⟩
    refine ask_var ?_
    cases one with
    | var x =>
      refine ite2 (fun _ => ?_) (fun h => absurd rfl h)
      cases hl : look s x with
      | some w =>
        have hsw := hs _ (look_mem hl)
        refine ite2 (fun _ => ?_) (fun h => absurd (by rw [valD_tbl, hl]; rfl) h)
        show match valD (tblD s) (.inr x) with | some z => _ | none => False
        rw [valD_tbl, hl]
        refine ⟨(w, two), rfl, ⟨hsw, h2⟩, fun r hr => ?_, fun _ h => h⟩
        obtain ⟨b, rfl, hb⟩ := hr
        have hb : b = true ↔ w = two := hb
        cases b with
        | false => exact no (hI.clash hl fun z => by have := hb.mpr z; cases this)
        | true =>
          have e2 : w = two := hb.mp rfl
          subst e2
          exact ⟨W1 a, by rw [W1_append]; omega, s, a, .d (Tm.var x).d, .d w.d, rfl, hI.known hl, rfl, by omega, hsta, hs⟩
      | none =>
        refine ite2 (fun h => absurd h (by rw [valD_tbl, hl]; decide)) (fun _ => ?_)
        refine ⟨sl' _ (by rw [tblD_length]; omega), W1 a, by rw [W1_append]; omega, s ++ [(x, two)], a, .d (Tm.var x).d, .d two.d, ?_, hI.new hl, rfl, ?_, hsta, fun q hq => ?_⟩
        · rw [← tbl_put (look_none.mp hl)]; rfl
        · have w1 : W1 [(Tm.var x, two)] = 1 := by rw [w1, Tm.size]
          rw [List.length_append, List.length_singleton]; omega
        · rcases List.mem_append.mp hq with hq | hq
          · exact hs q hq
          · rw [List.mem_singleton.mp hq]; exact h2
    | app f ts =>
      refine ask_var (t := two) ?_
      cases two with
      | var y => exact no (hI.none fun g z => by rw [Tm.sub] at z; cases z)
      | app f' us =>
        have l1 : (Tm.ds ts).length = ts.length := Tm.ds_length ts
        have l2 : (Tm.ds us).length = us.length := Tm.ds_length us
        have tsz := Tm.sizes_length ts
        have w1 : W1 [(Tm.app f ts, Tm.app f' us)] = 1 + Tm.sizes ts := by rw [w1, Tm.size]
        refine names_ne (ok_name h1) (ok_name h2) (fun ne => no (hI.none fun g z => ne (by rw [Tm.sub] at z; exact (Tm.app.inj z).1))) (fun ef => ?_)
        subst ef
        refine lens_ne (a := (Tm.ds ts).length) (b := (Tm.ds us).length) (fun ne => no (hI.none fun g z => ne (by rw [Tm.sub] at z; rw [l1, l2, ← (Tm.app.inj z).2, Tm.subs_map, List.length_map]))) (fun el => ?_)
        rw [l1, l2] at el
        have hz : (zipD (Tm.ds ts) (Tm.ds us)).reverse = ((ts.zip us).reverse).map pr2 := by rw [zipD_ds, List.map_reverse]
        have wr : W1 (ts.zip us).reverse = Tm.sizes ts := by
          rw [← W1_zip _ _ el]
          unfold W1
          rw [List.map_reverse, Tm.sizes_reverse]
        refine ⟨?_, W1 (a ++ (ts.zip us).reverse), ?_, s, a ++ (ts.zip us).reverse, .d (Tm.app f ts).d, .d (Tm.app f us).d, ?_, hI.inner el (fun q => List.mem_reverse), rfl, ?_, fun q hq => ?_, hs⟩
        · rw [hz, List.length_map, List.length_map, List.length_reverse, List.length_zip]; exact sl _ (by omega)
        · rw [W1_append, W1_append, wr, w1]; omega
        · rw [List.map_append (l₁ := a) (l₂ := (ts.zip us).reverse), ← hz]; rfl
        · rw [W1_append, wr]; omega
        · rcases List.mem_append.mp hq with hq | hq
          · exact hsta q hq
          · have := List.of_mem_zip (show (q.1, q.2) ∈ _ from List.mem_reverse.mp hq)
            exact ⟨h1.arg this.1, h2.arg this.2⟩
end PL

namespace PL
open PySem PySem.Spec PyProof.Rows L2
theorem ne_self {d : PyData} (h : SeqAt.shaped d = true) : (!PyData.eqv d d) = false := by
  rw [SeqAt.eqv_refl d (SeqAt.canLay_of_shaped h)]
  rfl
theorem not_ne {d : PyData} (h : SeqAt.shaped d = true) : ¬ (!PyData.eqv d d) = true := by rw [ne_self h]; decide
theorem termIn_args (ks : List (Str × Nat)) (ns : List Str) (E : Int) (dp : Nat) (h : 0 ≤ E) :
    ([R.strm, .b (.lst (symDs ks)), .b (.lst (strDs ns)), .d (.int E), .d (.int dp)] : List R) = (ct__law_term 40).args ⟨ks, ns, E.toNat, dp⟩ := by
  show _ = [R.strm, .b (.lst (symDs ks)), .b (.lst (strDs ns)), .d (.int ((E.toNat : Nat) : Int)), .d (.int dp)]
  rw [show ((E.toNat : Nat) : Int) = E by omega]
theorem fDictP_arg {s : Tb} (nd : (keysT s).Nodup) {P : R → Prop} {ρ : List A} {E : RX} (h : P (.n (.dk (tblD s)))) : aNil ρ (fun rs => fDictP (.n (.lst (s.map pairD)) :: rs) P) E := by
  show match pairsOf (s.map pairD) with | some kvs => P (.n (.dk (mergeD kvs))) | none => False
  rw [pairsOf_tbl]
  show P (.n (.dk (mergeD (tblD s))))
  rw [merge_tbl nd]
  exact h
/-! tables -/
structure Tbl (s : Tb) (ns : List Str) (n d : Nat) : Prop where
  nd : (keysT s).Nodup
  sub : ∀ x ∈ keysT s, x ∈ ns
  ok : ∀ q ∈ s, q.2.ok = true ∧ q.2.size ≤ n ∧ q.2.depth ≤ d
theorem nodup_sub {α : Type} [DecidableEq α] : ∀ (a b : List α), a.Nodup → (∀ x ∈ a, x ∈ b) → a.length ≤ b.length
  | [], b, _, _ => Nat.zero_le _
  | x :: r, b, nd, h => by
    rw [List.nodup_cons] at nd
    have hx := h x List.mem_cons_self
    have := nodup_sub r (b.erase x) nd.2 fun y hy => (List.mem_erase_of_ne (show y ≠ x from fun e => nd.1 (by rw [← e]; exact hy))).mpr (h y (List.mem_cons_of_mem _ hy))
    rw [List.length_erase_of_mem hx] at this
    have hl := List.length_pos_of_mem hx
    rw [List.length_cons]
    omega
theorem keysT_length (s : Tb) : (keysT s).length = s.length := by unfold keysT; rw [List.length_map]
theorem Tbl.length {s : Tb} {ns : List Str} {n d : Nat} (h : Tbl s ns n d) : s.length ≤ ns.length := by
  rw [← keysT_length]
  exact nodup_sub _ _ h.nd h.sub
theorem Tbl.lk {s : Tb} {ns : List Str} {n d : Nat} (h : Tbl s ns n d) (hn : 1 ≤ n) (hd : 1 ≤ d) (x : Str) : (lk s x).size ≤ n ∧ (lk s x).depth ≤ d ∧ (PyData.strOk x = true → (lk s x).ok = true) := by
  unfold PL.lk
  cases hl : look s x with
  | none =>
    refine ⟨?_, ?_, fun h => ?_⟩
    · show (Tm.var x).size ≤ n; rw [Tm.size]; exact hn
    · show (Tm.var x).depth ≤ d; rw [Tm.depth]; exact hd
    · show (Tm.var x).ok = true; rw [Tm.ok]; exact h
  | some u => obtain ⟨h1, h2, h3⟩ := h.ok _ (look_mem hl); exact ⟨h2, h3, fun _ => h1⟩
theorem Tbl.tbOk {s : Tb} {ns : List Str} {n d : Nat} (h : Tbl s ns n d) (hl : ns.length ≤ 100) (hn : n ≤ 1000) : TbOk s := by
  have := h.length
  exact ⟨by omega, fun q hq => by have := (h.ok q hq).2.1; omega⟩
theorem Tbl.shaped {s : Tb} {ns : List Str} {n d : Nat} (h : Tbl s ns n d) (hd : d ≤ 32) : kShaped (tblD s) := by
  intro p hp
  obtain ⟨q, hq, rfl⟩ := List.mem_map.mp hp
  obtain ⟨h1, h2, h3⟩ := h.ok q hq
  exact Tm.shaped h1 (by omega)
theorem Tbl.none {s : Tb} {ns : List Str} {n d : Nat} (h : Tbl s ns n d) {x : Str} (hx : x ∉ ns) : PL.lk s x = .var x := by
  unfold PL.lk
  rw [look_none.mpr fun z => hx (h.sub x z)]
  rfl
def tblOf (ns : List Str) (g : Str → Tm) : Tb := ns.map fun x => (x, g x)
theorem keys_tblOf (ns : List Str) (g : Str → Tm) : keysT (tblOf ns g) = ns := by
  unfold keysT tblOf
  rw [List.map_map]
  show ns.map (fun x => x) = ns
  rw [List.map_id']
theorem lk_tblOf {ns : List Str} {g : Str → Tm} (nd : ns.Nodup) {x : Str} (hx : x ∈ ns) : lk (tblOf ns g) x = g x := by
  unfold lk
  rw [look_of (s := tblOf ns g) (u := g x) (by rw [keys_tblOf]; exact nd) (List.mem_map.mpr ⟨x, hx, rfl⟩)]
  rfl
theorem lk_tblOf_none {ns : List Str} {g : Str → Tm} {x : Str} (hx : x ∉ ns) : lk (tblOf ns g) x = .var x := by
  unfold lk
  rw [look_none.mpr (by rw [keys_tblOf]; exact hx)]
  rfl
theorem map_pairD (ns : List Str) (g : Str → Tm) : (tblOf ns g).map pairD = ns.map fun x => pairD (x, g x) := by
  unfold tblOf
  rw [List.map_map]
  rfl
theorem lk_mem {s : Tb} {x : Str} {u : Tm} (nd : (keysT s).Nodup) (h : (x, u) ∈ s) : lk s x = u := by
  unfold lk
  rw [look_of nd h]
  rfl
theorem dEqv_tbl {a b : Tb} (ha : (keysT a).Nodup) (hb : (keysT b).Nodup) (hk : ∀ x, x ∈ keysT a ↔ x ∈ keysT b) (hv : ∀ x ∈ keysT a, lk a x = lk b x) (ok : ∀ q ∈ a, q.2.ok = true) : dEqv (tblD a) (tblD b) = true := by
  unfold dEqv
  rw [Bool.and_eq_true, tblD_length, tblD_length]
  constructor
  · have := ((List.perm_ext_iff_of_nodup ha hb).mpr hk).length_eq
    rw [keysT_length, keysT_length] at this
    rw [this]
    exact beq_self_eq_true _
  · rw [List.all_eq_true]
    intro p hp
    obtain ⟨q, hq, rfl⟩ := List.mem_map.mp hp
    have hx : q.1 ∈ keysT a := List.mem_map.mpr ⟨q, hq, rfl⟩
    have hu := lk_mem ha (show (q.1, q.2) ∈ a from hq)
    have hv := hv q.1 hx
    show (match valD (tblD b) (.inr q.1) with | some y => PyData.eqv q.2.d.py y.py | none => false) = true
    rw [valD_tbl]
    cases hl : look b q.1 with
    | none => exact absurd ((hk q.1).mp hx) (look_none.mp hl)
    | some w =>
      have e : lk b q.1 = w := by unfold lk; rw [hl]; rfl
      rw [hu, e] at hv
      subst hv
      exact Tm.eqv_self (ok q hq)
theorem dEqv_mat {a b : Tb} {p t : Tm} (ha : Mat a p t) (hb : Mat b p t) (ok : ∀ q ∈ a, q.2.ok = true) : dEqv (tblD a) (tblD b) = true := by
  refine dEqv_tbl ha.nd hb.nd (fun x => by rw [ha.keys, hb.keys]) (fun x hx => ?_) ok
  exact Tm.sub_inj p (ha.sub.trans hb.sub.symm) x ((ha.keys x).mp hx)
theorem dEqv_vars {a : Tb} {p t : Tm} {g : Str → Tm} (ha : Mat a p t) (hg : p.sub g = t) (ok : ∀ q ∈ a, q.2.ok = true) : dEqv (tblD a) (tblD (tblOf p.vars g)) = true := by
  have nd : p.vars.Nodup := dd_nodup _
  refine dEqv_tbl ha.nd (by rw [keys_tblOf]; exact nd) (fun x => by rw [ha.keys, keys_tblOf, Tm.mem_vars]) (fun x hx => ?_) ok
  have hx := (ha.keys x).mp hx
  rw [lk_tblOf nd (Tm.mem_vars.mpr hx)]
  exact Tm.sub_inj p (ha.sub.trans hg.symm) x hx
namespace Tm
mutual
theorem sub_part {g : Str → Tm} : ∀ (t : Tm) (x : Str), x ∈ t.occ → (g x).size ≤ (t.sub g).size ∧ (g x).depth ≤ (t.sub g).depth ∧ ((t.sub g).ok = true → (g x).ok = true)
  | .var y, x, h => by
    rw [occ_var, List.mem_singleton] at h
    subst h
    rw [sub]
    exact ⟨Nat.le_refl _, Nat.le_refl _, fun h => h⟩
  | .app f ts, x, h => by
    rw [occ_app] at h
    obtain ⟨h1, h2, h3⟩ := subs_part ts x h
    rw [sub, size, depth, ok, Bool.and_eq_true]
    exact ⟨by omega, by omega, fun h => h3 h.2⟩
theorem subs_part {g : Str → Tm} : ∀ (ts : List Tm) (x : Str), x ∈ occs ts → (g x).size ≤ sizes (subs g ts) ∧ (g x).depth ≤ depths (subs g ts) ∧ (oks (subs g ts) = true → (g x).ok = true)
  | [], x, h => by rw [occs_nil] at h; cases h
  | t :: r, x, h => by
    rw [occs_cons, List.mem_append] at h
    rw [subs, sizes, depths, oks, Bool.and_eq_true]
    rcases h with h | h
    · obtain ⟨h1, h2, h3⟩ := sub_part t x h; exact ⟨by omega, by omega, fun h => h3 h.1⟩
    · obtain ⟨h1, h2, h3⟩ := subs_part r x h; exact ⟨by omega, by omega, fun h => h3 h.2⟩
end
end Tm
/-- a match's table is small -/
theorem Mat.tbl {a : Tb} {p t : Tm} (h : Mat a p t) (ht : Small t) : Tbl a p.vars t.size t.depth := by
  refine ⟨h.nd, fun x hx => Tm.mem_vars.mpr ((h.keys x).mp hx), fun q hq => ?_⟩
  have hx : q.1 ∈ keysT a := List.mem_map.mpr ⟨q, hq, rfl⟩
  have := Tm.sub_part (g := lk a) p q.1 ((h.keys q.1).mp hx)
  rw [h.sub, lk_mem h.nd (show (q.1, q.2) ∈ a from hq)] at this
  exact ⟨this.2.2 ht.1, this.1, this.2.1⟩
/-- s[x] if x in s else x -/
theorem dIf_lk {ρ : List A} {i j : Nat} {s : Tb} {x : Str} {P : R → Prop} {E : RX} (h1 : nth ρ j = .o (.dk (tblD s))) (h2 : nth ρ i = .d (.str x)) (hP : P (.d (lk s x).d)) :
    dIf (tdB (dInD false (dVar i) (dVar j))) (dGetD (dVar j) (dVar i)) (dVar i) ρ P E := by
  unfold dIf tdB dInD dGetD dVar
  rw [h1, h2]
  show if (valD (tblD s) (.inr x)).isSome = true then _ else _
  cases hl : look s x with
  | none =>
    rw [if_neg (by rw [valD_tbl, hl]; decide)]
    unfold lk at hP
    rw [hl] at hP
    exact hP
  | some u =>
    rw [if_pos (by rw [valD_tbl, hl]; rfl)]
    show match valD (tblD s) (.inr x) with | some z => _ | none => False
    rw [valD_tbl, hl]
    unfold lk at hP
    rw [hl] at hP
    exact hP
/-- a dict drawn: for some of the names a term -/
theorem draw_tbl {ks : List (Str × Nat)} (hks : ∀ k ∈ ks, PyData.strOk k.1 = true ∧ k.2 ≤ 3) (hkl : ks.length ≤ 8) (ns N : List Str) (dN : DE) (hdN : ∀ (ρ : List A) (P : R → Prop) (E : RX), P (.n (.lst (strDs N))) → dN ρ P E) (m k : Int) (hm : 1 ≤ m ∧ m ≤ 1000) (hk : 1 ≤ k ∧ k ≤ 100)
    (hns : ns.Nodup) (hnl : ns.length ≤ 100) (hN : ∀ x ∈ N, PyData.strOk x = true) (hNl : N.length ≤ 100) {a3 a4 a5 a6 a7 a8 a9 a10 a11 a12 a13 a14 a15 : A} {P : R → Prop} (hP : ∀ s, Tbl s ns k.toNat 3 → P (.n (.lst (s.map pairD)))) :
    ∃ I : Nat → List D → Prop, I 0 [] ∧ (∀ i x acc, (strDs ns)[i]? = some x → I i acc → dgName 15 x (wipeA [.any, .strm, .o (.lst (symDs ks)), a3, a4, a5, a6, a7, a8, a9, a10, a11, a12, a13, a14, a15] [15]) (fun ρ2 => (tdB (dOp fGt (dCall (ctDraw) (aCons (dVar 1) (aCons (dC (.int m)) aNil))) (dC (.int 0)))) ρ2 (fun b => if b = true then
      (dTup (aCons (dVar 15) (aCons (dCall (ct__law_term 40) (aCons (dVar 1) (aCons (dVar 2) (aCons dN (aCons (dOp fAdd (dC (.int 1)) (dCall (ctDraw) (aCons (dVar 1) (aCons (dC (.int k)) aNil)))) (aCons (dC (.int 3)) aNil)))))) aNil))) ρ2 (fun r => match r with | .d y => acc.length < sizeLine ∧ I (i + 1) (acc ++ [y]) | _ => False) noE else I (i + 1) acc) noE)) ∧
    ∀ acc, I (strDs ns).length acc → P (.n (.lst acc)) := by
  refine ⟨fun i acc => ∃ s : Tb, acc = s.map pairD ∧ Tbl s (ns.take i) k.toNat 3, ⟨[], rfl, List.nodup_nil, (fun x z => by cases z), fun q z => by cases z⟩, ?_, ?_⟩
  · rintro i x acc hx ⟨s, rfl, hs⟩
    obtain ⟨x0, hx0, rfl⟩ := map_get hx
    have hts := take_snoc hx0
    have hi : i < ns.length := by
      rcases Nat.lt_or_ge i ns.length with z | z
      · exact z
      · rw [List.getElem?_eq_none z] at hx0; cases hx0
    have hn : x0 ∉ ns.take i := fun z => by
      obtain ⟨j, hj, e⟩ := List.mem_take_iff_getElem.mp z
      have e1 := ixOf_nodup hns hx0
      have e2 := ixOf_nodup hns (i := j) (x := x0) (by rw [List.getElem?_eq_getElem (by omega), e])
      omega
    have hsl := hs.length
    rw [List.length_take] at hsl
    refine ⟨m, rfl, ⟨by omega, by omega⟩, fun r hr => ?_, fun _ h => h⟩
    obtain ⟨d, _, _, rfl⟩ := hr
    refine ite2 (fun _ => ?_) (fun _ => ⟨s, rfl, hs.nd, fun x hx => ?_, hs.ok⟩)
    · refine hdN _ _ _ ⟨k, rfl, ⟨by omega, by omega⟩, fun r hr => ?_, fun _ h => h⟩
      obtain ⟨d2, a2, b2, rfl⟩ := hr
      have b2 : d2 < k := b2
      refine ⟨⟨ks, N, (1 + d2).toNat, 3⟩, termIn_args ks N (1 + d2) 3 (by omega), ⟨hks, hN, by show ks.length ≤ 1000; omega, by show N.length ≤ 1000; omega, by show 1 ≤ (1 + d2).toNat; omega, by show (1 + d2).toNat ≤ 1000; omega, by show 1 ≤ 3; omega, by show 3 ≤ 40; omega, by show 3 ≤ 40; omega⟩, fun r hr => ?_, fun _ h => h⟩
      obtain ⟨t, rfl, tok, tsz, tdp, _⟩ := hr
      have tsz : t.size ≤ (1 + d2).toNat := tsz
      have ek : keysT (s ++ [(x0, t)]) = keysT s ++ [x0] := by unfold keysT; rw [List.map_append]; rfl
      refine ⟨sl 2 (by omega), sl' _ (by rw [List.length_map]; omega), s ++ [(x0, t)], by rw [List.map_append]; rfl, ?_, fun x hx => ?_, fun q hq => ?_⟩
      · rw [ek, List.nodup_append]
        refine ⟨hs.nd, by simp, fun a ha b hb => ?_⟩
        rw [List.mem_singleton] at hb
        subst hb
        intro z
        subst z
        exact hn (hs.sub _ ha)
      · rw [ek, List.mem_append, List.mem_singleton] at hx
        rw [hts, List.mem_append, List.mem_singleton]
        exact hx.elim (fun z => .inl (hs.sub _ z)) .inr
      · rcases List.mem_append.mp hq with hq | hq
        · exact hs.ok q hq
        · rw [List.mem_singleton.mp hq]
          exact ⟨tok, by show t.size ≤ k.toNat; omega, tdp⟩
    · rw [hts]; exact List.mem_append_left _ (hs.sub x hx)
  · rintro acc ⟨s, rfl, hs⟩
    rw [strDs_length, List.take_length] at hs
    exact hP s hs
end PL

namespace PL
open PySem PySem.Spec PyProof.Rows L2
/-! ### steps of rewriting, with no program in sight -/
abbrev Sys := List (Tm × Tm)
def ruleD (r : Tm × Tm) : D := .tup [r.1.d, r.2.d]
def sysD (s : Sys) : D := .tup (s.map ruleD)
def Few (t : Tm) : Prop := t.size ≤ 400 ∧ t.depth ≤ 40
namespace Tm
theorem depths_set {ts : List Tm} {i : Nat} {m : Tm} : depths (ts.set i m) ≤ max (depths ts) m.depth := by
  induction ts generalizing i with
  | nil => simp [depths]
  | cons x r ih =>
    cases i with
    | zero => rw [List.set_cons_zero, depths, depths]; omega
    | succ i => rw [List.set_cons_succ, depths, depths]; have := ih (i := i); omega
theorem at?_depth : ∀ (p : List Int) (t u : Tm), at? p t = some u → p.length + u.depth ≤ t.depth
  | [], t, u, h => by cases h; simp
  | j :: p, t, u, h => by
    rw [at?] at h
    by_cases hj : 0 ≤ j
    · rw [if_pos hj] at h
      cases z : t.args[j.toNat]? with
      | none => rw [z] at h; cases h
      | some w =>
        rw [z] at h
        have h1 := at?_depth p w u h
        have h3 := depth_le_of_mem (mem_of_get z)
        rw [depth_args t, List.length_cons]
        omega
    · rw [if_neg hj] at h; cases h
theorem put?_depth : ∀ (p : List Int) (t s m : Tm), put? p t s = some m → m.depth ≤ max t.depth (p.length + s.depth)
  | [], t, s, m, h => by cases h; simp only [List.length_nil]; omega
  | j :: p, t, s, m, h => by
    rw [put?] at h
    by_cases hj : 0 ≤ j
    · rw [if_pos hj] at h
      cases t with
      | var x => simp [args] at h
      | app f ts =>
        cases z : ts[j.toNat]? with
        | none => rw [show (app f ts).args[j.toNat]? = none from z] at h; cases h
        | some w =>
          rw [show (app f ts).args[j.toNat]? = some w from z] at h
          have h : (put? p w s).map (rep (app f ts) j.toNat) = some m := h
          cases hm : put? p w s with
          | none => rw [hm] at h; cases h
          | some m' =>
            rw [hm] at h
            cases h
            have h1 := put?_depth p w s m' hm
            have h3 := depth_le_of_mem (mem_of_get z)
            have h4 := depths_set (ts := ts) (i := j.toNat) (m := m')
            show (app f (ts.set j.toNat m')).depth ≤ _
            rw [depth, depth, List.length_cons]
            omega
    · rw [if_neg hj] at h; cases h
theorem subs_get (g : Str → Tm) (ts : List Tm) (i : Nat) : (subs g ts)[i]? = ts[i]?.map (sub g) := by rw [subs_map, List.getElem?_map]
theorem at?_sub (g : Str → Tm) : ∀ (p : List Int) (t u : Tm), at? p t = some u → at? p (t.sub g) = some (u.sub g)
  | [], t, u, h => by cases h; rfl
  | j :: p, t, u, h => by
    rw [at?] at h
    by_cases hj : 0 ≤ j
    · rw [if_pos hj] at h
      cases t with
      | var x => simp [args] at h
      | app f ts =>
        cases z : ts[j.toNat]? with
        | none => rw [show (app f ts).args[j.toNat]? = none from z] at h; cases h
        | some w =>
          rw [show (app f ts).args[j.toNat]? = some w from z] at h
          have h : at? p w = some u := h
          rw [sub, at?, if_pos hj]
          show ((subs g ts)[j.toNat]?).bind _ = _
          rw [subs_get, z]
          exact at?_sub g p w u h
    · rw [if_neg hj] at h; cases h
theorem put?_sub (g : Str → Tm) : ∀ (p : List Int) (t s m : Tm), put? p t s = some m → put? p (t.sub g) (s.sub g) = some (m.sub g)
  | [], t, s, m, h => by cases h; rfl
  | j :: p, t, s, m, h => by
    rw [put?] at h
    by_cases hj : 0 ≤ j
    · rw [if_pos hj] at h
      cases t with
      | var x => simp [args] at h
      | app f ts =>
        cases z : ts[j.toNat]? with
        | none => rw [show (app f ts).args[j.toNat]? = none from z] at h; cases h
        | some w =>
          rw [show (app f ts).args[j.toNat]? = some w from z] at h
          have h : (put? p w s).map (rep (app f ts) j.toNat) = some m := h
          cases hm : put? p w s with
          | none => rw [hm] at h; cases h
          | some m' =>
            rw [hm] at h
            cases h
            rw [sub, put?, if_pos hj]
            show ((subs g ts)[j.toNat]?).bind _ = _
            rw [subs_get, z]
            show (put? p (w.sub g) (s.sub g)).map _ = _
            rw [put?_sub g p w s m' hm]
            show some (app f ((subs g ts).set j.toNat (m'.sub g))) = some ((app f (ts.set j.toNat m')).sub g)
            rw [sub, subs_map, subs_map, List.map_set]
    · rw [if_neg hj] at h; cases h
/-- the term that was put in is a part of what comes out -/
theorem put?_part {p : List Int} {t s m : Tm} (h : put? p t s = some m) : at? p m = some s ∧ s.size ≤ m.size ∧ s.depth ≤ m.depth ∧ ∃ u, at? p t = some u ∧ m.size + u.size = t.size + s.size ∧ (t.ok = true → s.ok = true → m.ok = true) := by
  cases hu : at? p t with
  | none => rw [put?_none p t s hu] at h; cases h
  | some u =>
    obtain ⟨m', h1, h2, h3, h4, h5⟩ := put?_at p t u s hu
    rw [h] at h1
    cases h1
    exact ⟨h2, (at?_size p m s h2).1, (at?_size p m s h2).2, u, rfl, h3, h5⟩
end Tm
/-- one step: rule k at place p -/
def StepR (s : Sys) (t : Tm) (p : List Int) (k : Nat) (m : Tm) : Prop := ∃ l r g, s[k]? = some (l, r) ∧ Tm.at? p t = some (l.sub g) ∧ (∀ x, x ∉ l.occ → g x = .var x) ∧ Tm.put? p t (r.sub g) = some m
theorem StepR.det {s : Sys} {t : Tm} {p : List Int} {k : Nat} {m m' : Tm} (h : StepR s t p k m) (h' : StepR s t p k m') : m = m' := by
  obtain ⟨l, r, g, h1, h2, h3, h4⟩ := h
  obtain ⟨l', r', g', h1', h2', h3', h4'⟩ := h'
  rw [h1] at h1'
  cases h1'
  rw [h2] at h2'
  have e : g = g' := by
    funext x
    by_cases hx : x ∈ l.occ
    · exact Tm.sub_inj l (Option.some.inj h2') x hx
    · rw [h3 x hx, h3' x hx]
  subst e
  rw [h4] at h4'
  exact Option.some.inj h4'
theorem lk_off {tb : Tb} {l u : Tm} (h : Mat tb l u) {x : Str} (hx : x ∉ l.occ) : lk tb x = .var x := by
  unfold lk
  rw [look_none.mpr fun z => hx ((h.keys x).mp z)]
  rfl
theorem StepR.of_mat {s : Sys} {t : Tm} {p : List Int} {k : Nat} {l r u m : Tm} {tb : Tb} (h1 : s[k]? = some (l, r)) (h2 : Tm.at? p t = some u) (hm : Mat tb l u) (h3 : Tm.put? p t (r.sub (lk tb)) = some m) : StepR s t p k m :=
  ⟨l, r, lk tb, h1, by rw [hm.sub]; exact h2, fun x hx => lk_off hm hx, h3⟩
theorem StepR.no_mat {s : Sys} {t : Tm} {p : List Int} {k : Nat} {l r u : Tm} (h1 : s[k]? = some (l, r)) (h2 : Tm.at? p t = some u) (h : ∀ g, l.sub g ≠ u) (m : Tm) : ¬ StepR s t p k m := by
  rintro ⟨l', r', g, h1', h2', h3, h4⟩
  rw [h1] at h1'
  cases h1'
  rw [h2] at h2'
  exact h g (Option.some.inj h2').symm
theorem StepR.no_place {s : Sys} {t : Tm} {p : List Int} {k : Nat} (h2 : Tm.at? p t = none) (m : Tm) : ¬ StepR s t p k m := by
  rintro ⟨l', r', g, h1', h2', h3, h4⟩
  rw [h2] at h2'
  cases h2'
/-- a step told by the table of the match -/
theorem StepR.mat {s : Sys} {t : Tm} {p : List Int} {k : Nat} {l r u m : Tm} {tb : Tb} (h : StepR s t p k m) (h1 : s[k]? = some (l, r)) (h2 : Tm.at? p t = some u) (hm : Mat tb l u) : Tm.put? p t (r.sub (lk tb)) = some m := by
  obtain ⟨l', r', g, h1', h2', h3, h4⟩ := h
  rw [h1] at h1'
  cases h1'
  rw [h2] at h2'
  have e : g = lk tb := by
    funext x
    by_cases hx : x ∈ l.occ
    · exact Tm.sub_inj l ((Option.some.inj h2').symm.trans hm.sub.symm) x hx
    · rw [h3 x hx, lk_off hm hx]
  rw [← e]
  exact h4
/-- the rules of a system are small, their left sides no variables -/
structure SysOk (s : Sys) (n d : Nat) : Prop where
  len : s.length ≤ 10
  ok : ∀ q ∈ s, (q.1.ok = true ∧ q.1.size ≤ n ∧ q.1.depth ≤ d) ∧ (q.2.ok = true ∧ q.2.size ≤ n ∧ q.2.depth ≤ d) ∧ q.1.isVar = false
theorem occ_pos_size (l : Tm) (h : l.isVar = false) {g : Str → Tm} : ∀ x ∈ l.occ, (g x).depth + 1 ≤ (l.sub g).depth := by
  cases l with
  | var y => cases h
  | app f ts =>
    intro x hx
    rw [Tm.occ_app] at hx
    have := (Tm.subs_part (g := g) ts x hx).2.1
    rw [Tm.depth_sub_args]
    omega
/-- what a step does to the measures -/
theorem StepR.sizes {s : Sys} {t : Tm} {p : List Int} {k : Nat} {m : Tm} {n d : Nat} (hs : SysOk s n d) (ht : t.ok = true) (h : StepR s t p k m) : m.size ≤ t.size + n * t.size ∧ m.depth ≤ t.depth + d ∧ m.ok = true := by
  obtain ⟨l, r, g, h1, h2, h3, h4⟩ := h
  obtain ⟨⟨l1, l2, l3⟩, ⟨r1, r2, r3⟩, lv⟩ := hs.ok _ (mem_get h1)
  obtain ⟨_, _, _, u, hu, hz, hok⟩ := Tm.put?_part h4
  rw [h2] at hu
  cases hu
  obtain ⟨z1, z2⟩ := Tm.at?_size p t _ h2
  have z3 := Tm.at?_depth p t _ h2
  have r2 : r.size ≤ n := r2
  have r3 : r.depth ≤ d := r3
  have uok := Tm.at?_ok p t _ ht h2
  have tp := Tm.size_pos t
  have gsz : ∀ x, (g x).size ≤ t.size ∧ p.length + (g x).depth ≤ t.depth ∧ (PyData.strOk x = true → (g x).ok = true) := fun x => by
    by_cases hx : x ∈ l.occ
    · obtain ⟨a, b, c⟩ := Tm.sub_part (g := g) l x hx
      exact ⟨by omega, by omega, fun _ => c uok⟩
    · rw [h3 x hx]
      have := Tm.depth_pos (l.sub g)
      exact ⟨by rw [Tm.size]; omega, by rw [Tm.depth]; omega, fun h => by rw [Tm.ok]; exact h⟩
  have rz := Tm.size_sub_le (g := g) (n := t.size) tp r fun x _ => (gsz x).1
  have rz2 : t.size * r.size ≤ n * t.size := by rw [Nat.mul_comm]; exact Nat.mul_le_mul_right _ r2
  have hpl : p.length ≤ t.depth := by omega
  have rd := Tm.depth_sub_le (g := g) (d := t.depth - p.length) r fun x _ => by have := (gsz x).2.1; omega
  have md := Tm.put?_depth p t _ m h4
  refine ⟨by omega, by omega, hok ht (Tm.sub_ok r r1 fun x hx => (gsz x).2.2 (Tm.vars_ok r1 x (Tm.mem_vars.mpr hx)))⟩
theorem StepR.stable {s : Sys} {t : Tm} {p : List Int} {k : Nat} {m : Tm} (h : StepR s t p k m) (hv : ∀ q ∈ s, ∀ x ∈ q.2.occ, x ∈ q.1.occ) (σ : Str → Tm) : StepR s (t.sub σ) p k (m.sub σ) := by
  obtain ⟨l, r, g, h1, h2, h3, h4⟩ := h
  refine ⟨l, r, fun x => if x ∈ l.occ then (g x).sub σ else .var x, h1, ?_, fun x hx => if_neg hx, ?_⟩
  · rw [Tm.at?_sub σ p t _ h2, Tm.sub_sub]
    congr 1
    exact Tm.sub_congr l fun x hx => by rw [if_pos hx]
  · have e : (r.sub fun x => if x ∈ l.occ then (g x).sub σ else .var x) = (r.sub g).sub σ := by
      rw [Tm.sub_sub]
      exact Tm.sub_congr r fun x hx => if_pos (hv _ (mem_get h1) x hx)
    rw [e]
    exact Tm.put?_sub σ p t _ m h4
/-! ### ways of steps -/
inductive Way (s : Sys) : Tm → List (List Int × Int) → Tm → Prop
  | nil {t : Tm} : Way s t [] t
  | cons {t m e : Tm} {p : List Int} {k : Int} {w : List (List Int × Int)} : 0 ≤ k → StepR s t p k.toNat m → Few m → Way s m w e → Way s t ((p, k) :: w) e
theorem Way.snoc {s : Sys} {t m e : Tm} {w : List (List Int × Int)} {p : List Int} {k : Int} (h : Way s t w m) (hk : 0 ≤ k) (hs : StepR s m p k.toNat e) (hf : Few e) : Way s t (w ++ [(p, k)]) e := by
  induction h with
  | nil => exact .cons hk hs hf .nil
  | cons a b c _ ih => exact .cons a b c (ih hs)
theorem Way.det {s : Sys} {t m m' : Tm} {w : List (List Int × Int)} (h : Way s t w m) (h' : Way s t w m') : m = m' := by
  induction h with
  | nil => cases h'; rfl
  | cons a b c _ ih =>
    cases h' with
    | cons a' b' c' d' =>
      have e := b.det b'
      subst e
      exact ih d'
/-- a way cut in two -/
theorem Way.cut {s : Sys} {e : Tm} : ∀ {t : Tm} {a b : List (List Int × Int)}, Way s t (a ++ b) e → ∃ m, Way s t a m ∧ Way s m b e
  | t, [], b, h => ⟨t, .nil, h⟩
  | t, (p, k) :: a, b, h => by
    cases h with
    | cons h1 h2 h3 h4 =>
      obtain ⟨m, hm1, hm2⟩ := Way.cut h4
      exact ⟨m, .cons h1 h2 h3 hm1, hm2⟩
theorem Way.sizes {s : Sys} {d n : Nat} (hs : SysOk s n d) {t m : Tm} {w : List (List Int × Int)} (h : Way s t w m) (ht : t.ok = true) (hf : Few t) : m.ok = true ∧ Few m ∧ m.depth ≤ t.depth + d * w.length := by
  induction h with
  | nil => exact ⟨ht, hf, by simp⟩
  | cons a b c _ ih =>
    obtain ⟨h1, h2, h3⟩ := b.sizes hs ht
    obtain ⟨i1, i2, i3⟩ := ih h3 c
    refine ⟨i1, i2, ?_⟩
    rw [List.length_cons, Nat.mul_add, Nat.mul_one]
    omega
open Classical in
/-- the step there is -/
noncomputable def stepO (s : Sys) (t : Tm) (p : List Nat) (k : Nat) : Option Tm := if h : ∃ m, StepR s t (Tm.plI p) k m then some (Classical.choose h) else none
theorem stepO_some {s : Sys} {t : Tm} {p : List Nat} {k : Nat} {m : Tm} : stepO s t p k = some m ↔ StepR s t (Tm.plI p) k m := by
  unfold stepO
  constructor
  · intro h
    split at h
    · next z => cases h; exact Classical.choose_spec z
    · cases h
  · intro h
    have z : ∃ m, StepR s t (Tm.plI p) k m := ⟨m, h⟩
    rw [dif_pos z, (Classical.choose_spec z).det h]
theorem stepO_none {s : Sys} {t : Tm} {p : List Nat} {k : Nat} : stepO s t p k = none ↔ ∀ m, ¬ StepR s t (Tm.plI p) k m := by
  constructor
  · intro h m hm
    rw [stepO_some.mpr hm] at h
    cases h
  · intro h
    cases z : stepO s t p k with
    | none => rfl
    | some m => exact absurd (stepO_some.mp z) (h m)
end PL

namespace PL
open PySem PySem.Spec PyProof.Rows L2
/-! ### promises of the defs on steps -/
def ct_needL (c : Addr) : Ct := { α := Nat × Nat, args := fun y => [.d (.int y.1), .d (.int y.2)], pre := fun _ => True, post := fun y r => (y.1 ≤ 400 ∧ y.2 ≤ 40) ∧ r = .d .non, exc := fun y c' => c' = c ∧ ¬ (y.1 ≤ 400 ∧ y.2 ≤ 40) }
def ct_putL (cS cL : Addr) : Ct := { α := Tm × List Int × Tm, args := fun y => [.d y.1.d, .d (intsD y.2.1), .d y.2.2.d], pre := fun y => y.1.size + y.2.2.size ≤ 10000 ∧ y.2.1.length ≤ 1000, post := fun y r => ∃ m, Tm.put? y.2.1 y.1 y.2.2 = some m ∧ Few m ∧ r = .d m.d, exc := fun y c' => (c' = cS ∧ Tm.at? y.2.1 y.1 = none) ∨ (c' = cL ∧ ∃ m, Tm.put? y.2.1 y.1 y.2.2 = some m ∧ ¬ Few m) }
def ct_applyL (cL : Addr) : Ct := { α := Tb × Tm, args := fun y => [.b (.kk (tblD y.1)), .d y.2.d], pre := fun y => TbOk y.1 ∧ y.2.size ≤ 10000, post := fun y r => Few (y.2.sub (lk y.1)) ∧ r = .d (y.2.sub (lk y.1)).d, exc := fun y c' => c' = cL ∧ ¬ Few (y.2.sub (lk y.1)) }
/-- a term that steps are asked of -/
def Mid (t : Tm) : Prop := t.ok = true ∧ Few t ∧ t.depth ≤ 32
def stD (q : List Int × Int) : D := .tup [intsD q.1, .int q.2]
def ct_rewritten (cS cL : Addr) : Ct := { α := Sys × Tm × List Int × Nat, args := fun y => [.d (sysD y.1), .d y.2.1.d, .d (intsD y.2.2.1), .d (.int y.2.2.2)], pre := fun y => SysOk y.1 15 4 ∧ y.2.2.2 < y.1.length ∧ Mid y.2.1 ∧ y.2.2.1.length ≤ 1000, post := fun y r => (r = .d .non ∧ ∀ m, ¬ StepR y.1 y.2.1 y.2.2.1 y.2.2.2 m) ∨ ∃ m, StepR y.1 y.2.1 y.2.2.1 y.2.2.2 m ∧ Few m ∧ r = .d m.d, exc := fun y c' => (c' = cS ∧ Tm.at? y.2.2.1 y.2.1 = none) ∨ (c' = cL ∧ ∃ m, StepR y.1 y.2.1 y.2.2.1 y.2.2.2 m ∧ ¬ Few m) }
def ct_step (cS cL : Addr) : Ct := { α := Sys × Tm × List Int × Int, args := fun y => [.d (sysD y.1), .d y.2.1.d, .d (stD y.2.2)], pre := fun y => SysOk y.1 15 4 ∧ Mid y.2.1 ∧ y.2.2.1.length ≤ 1000, post := fun y r => ∃ m, 0 ≤ y.2.2.2 ∧ StepR y.1 y.2.1 y.2.2.1 y.2.2.2.toNat m ∧ Few m ∧ r = .d m.d, exc := fun y c' => (c' = cS ∧ ¬ ∃ m, 0 ≤ y.2.2.2 ∧ StepR y.1 y.2.1 y.2.2.1 y.2.2.2.toNat m) ∨ (c' = cL ∧ ∃ m, 0 ≤ y.2.2.2 ∧ StepR y.1 y.2.1 y.2.2.1 y.2.2.2.toNat m ∧ ¬ Few m) }
def ct_derive (cS cL : Addr) : Ct := { α := Sys × Tm × List (List Int × Int), args := fun y => [.d (sysD y.1), .d y.2.1.d, .d (.tup (y.2.2.map stD))], pre := fun y => SysOk y.1 15 4 ∧ y.2.1.ok = true ∧ Few y.2.1 ∧ y.2.1.depth + 4 * y.2.2.length ≤ 32 ∧ ∀ q ∈ y.2.2, q.1.length ≤ 1000, post := fun y r => ∃ m, Way y.1 y.2.1 y.2.2 m ∧ r = .d m.d, exc := fun y c' => (c' = cS ∧ ∃ a p k b m, y.2.2 = a ++ (p, k) :: b ∧ Way y.1 y.2.1 a m ∧ ¬ ∃ e, 0 ≤ k ∧ StepR y.1 m p k.toNat e) ∨ (c' = cL ∧ ∃ a p k b m e, y.2.2 = a ++ (p, k) :: b ∧ Way y.1 y.2.1 a m ∧ 0 ≤ k ∧ StepR y.1 m p k.toNat e ∧ ¬ Few e) }
noncomputable def succAt (s : Sys) (t : Tm) (p : List Nat) (n : Nat) : List ((List Nat × Nat) × Tm) := (List.range n).filterMap fun k => (stepO s t p k).map fun m => ((p, k), m)
noncomputable def succL (s : Sys) (t : Tm) (ps : List (List Nat)) : List ((List Nat × Nat) × Tm) := ps.flatMap fun p => succAt s t p s.length
def sucD (x : (List Nat × Nat) × Tm) : D := .tup [.tup [plD x.1.1, .int x.1.2], x.2.d]
def ct_successors (cL : Addr) : Ct := { α := Sys × Tm, args := fun y => [.d (sysD y.1), .d y.2.d], pre := fun y => SysOk y.1 15 4 ∧ Mid y.2, post := fun y r => r = .n (.lst ((succL y.1 y.2 y.2.places).map sucD)) ∧ ∀ x ∈ succL y.1 y.2 y.2.places, Few x.2, exc := fun y c' => c' = cL ∧ ∃ x ∈ succL y.1 y.2 y.2.places, ¬ Few x.2 }
def ct__law_steps : Ct := { α := Sys × Tm, args := fun y => [.d (sysD y.1), .d y.2.d], pre := fun y => SysOk y.1 15 4 ∧ Mid y.2, post := fun y r => r = .n (.lst ((succL y.1 y.2 y.2.places).map sucD)), exc := fun _ _ => False }
def ct__law_is_large : Ct := { α := Tm, args := fun t => [.d t.d], pre := fun t => t.depth ≤ 100 ∧ t.size ≤ 10000, post := fun t r => ∃ b, r = .d (.bl b) ∧ (b = true ↔ ¬ Few t), exc := fun _ _ => False }
structure KindsOk (ks : List (Str × Nat)) : Prop where
  ok : ∀ k ∈ ks, PyData.strOk k.1 = true ∧ k.2 ≤ 3
  ne : ks ≠ []
  len : ks.length ≤ 8
  con : ∃ k ∈ ks, k.2 = 0
def RuleOk (q : Tm × Tm) : Prop := ((q.1.ok = true ∧ q.1.size ≤ 15 ∧ q.1.depth ≤ 4) ∧ (q.2.ok = true ∧ q.2.size ≤ 15 ∧ q.2.depth ≤ 4) ∧ q.1.isVar = false) ∧ ∀ x ∈ q.2.occ, x ∈ q.1.occ
def ct__law_rule : Ct := { α := List (Str × Nat) × Nat, args := fun y => [.strm, .b (.lst (symDs y.1)), .d (.int y.2)], pre := fun y => KindsOk y.1 ∧ 1 ≤ y.2 ∧ y.2 ≤ 6, post := fun y r => ∃ q, r = .d (ruleD q) ∧ RuleOk q, exc := fun _ _ => False }
def ct__law_system : Ct := { α := List (Str × Nat) × Nat × Nat, args := fun y => [.strm, .b (.lst (symDs y.1)), .d (.int y.2.1), .d (.int y.2.2)], pre := fun y => KindsOk y.1 ∧ y.2.1 ≤ 5 ∧ 1 ≤ y.2.2 ∧ y.2.2 ≤ 6, post := fun y r => ∃ s : Sys, r = .d (sysD s) ∧ s.length = y.2.1 ∧ ∀ q ∈ s, RuleOk q, exc := fun _ _ => False }
def bulkF : Nat → Nat → Tm
  | 0, _ => .app "a" []
  | n + 1, y => if y < 3 then .app "a" [] else if (y - 1) / 2 % 2 = 0 then .app "g" [bulkF n ((y - 1) / 2 - 1), bulkF n (y - 1 - ((y - 1) / 2 - 1))] else .app "g" [bulkF n ((y - 1) / 2), bulkF n (y - 1 - (y - 1) / 2)]
def ct__law_bulk (n : Nat) : Ct := { α := Nat, args := fun y => [.d (.int y)], pre := fun y => y % 2 = 1 ∧ y + 1 ≤ 2 ^ n ∧ y ≤ 1000, post := fun y r => ∃ t : Tm, t = bulkF n y ∧ r = .d t.d ∧ t.ok = true ∧ t.size = y ∧ (∀ j, y + 1 ≤ 2 ^ j → t.depth ≤ j) ∧ t.occ = [] ∧ ∀ z ∈ t.words, z = "a" ∨ z = "g", exc := fun _ _ => False }
def dbl : Nat → Tm
  | 0 => .var "x"
  | k + 1 => .app "g" [dbl k, dbl k]
def ct__law_doubled (n : Nat) : Ct := { α := Nat, args := fun y => [.d (.int y)], pre := fun y => y < n, post := fun y r => r = .d (dbl y).d, exc := fun _ _ => False }
def ct__law_raises : Ct := { α := Nat × Sys × Tm × (List Int × Int), args := fun y => [.d (.int y.1), .d (sysD y.2.1), .d y.2.2.1.d, .d (stD y.2.2.2)], pre := fun y => SysOk y.2.1 15 4 ∧ Mid y.2.2.1 ∧ y.2.2.1.depth + 4 ≤ 32 ∧ y.2.2.2 = ([], 0) ∧ ∃ m, StepR y.2.1 y.2.2.1 [] 0 m ∧ ∀ p k e, StepR y.2.1 y.2.2.1 p k e → e = m, post := fun y r => ∃ b m, r = .d (.bl b) ∧ StepR y.2.1 y.2.2.1 [] 0 m ∧ (b = true ↔ ¬ Few m), exc := fun _ _ => False }
def ct__law_at_the_end : Ct := { α := Unit, args := fun _ => [.strm], pre := fun _ => True, post := fun _ r => r = .d (.bl true), exc := fun _ _ => False }
end PL

namespace PL
open PySem PySem.Spec PyProof.Rows L2
def ds_put7 (c_StepError : Addr) (c_LimitError : Addr) : DS := (dSeq (dSet 3 (dLst aNil))
    (dSeq (dFor (iTp (dVar 1)) (dgName 4) (dSeq (dSet 5 (dCall (ct_inner) (aCons (dVar 0) aNil)))
    (dSeq (dIfS (tdNot (tdB (dChain fLe fLt (dC (.int 0)) (dVar 4) (dCB fLen (aCons (dVar 5) aNil))))) (dRaise c_StepError) dNext)
    (dSeq (dApp 3 (dTup (aCons (dVar 0) (aCons (dVar 4) aNil))))
    (dSet 0 (dOp fIx (dVar 5) (dVar 4)))))))
    (dSeq (dFor (iNew (dRev (dVar 3))) (dgTup 2 (dgCons (dgName 6) (dgCons (dgName 4) dgNil))) (dSet 2 (dTup (aCons (dOp fIx (dVar 6) (dC (.int 0))) (aCons (dOp fAdd (dOp fAdd (dSl (dOp fIx (dVar 6) (dC (.int 1))) oNone (oSome (dVar 4))) (dTup (aCons (dVar 2) aNil))) (dSl (dOp fIx (dVar 6) (dC (.int 1))) (oSome (dOp fAdd (dVar 4) (dC (.int 1)))) oNone)) aNil)))))
    (dSeq (dDrop (dCallX (ct_needL c_LimitError) (aCons (dCall (ct_size) (aCons (dVar 2) aNil)) (aCons (dCall (ct_depth) (aCons (dVar 2) aNil)) aNil))))
    (dRet (dVar 2))))))
def ds_apply7 (c_LimitError : Addr) : DS := (dSeq (dUnp (dCall (ct_measure) (aCons (dVar 0) (aCons (dVar 1) aNil))) (dgTup 2 (dgCons (dgName 2) (dgCons (dgName 3) dgNil))))
    (dSeq (dDrop (dCallX (ct_needL c_LimitError) (aCons (dVar 2) (aCons (dVar 3) aNil))))
    (dRet (dLam gc_rebuilt ct_lam_apply [0] (dVar 1)))))
def ds_rewritten (c_StepError : Addr) (c_LimitError : Addr) : DS := (dSeq (dUnp (dOp fIx (dVar 0) (dVar 3)) (dgTup 2 (dgCons (dgName 4) (dgCons (dgName 5) dgNil))))
    (dSeq (dSet 6 (dCall (ct_match) (aCons (dVar 4) (aCons (dCallX (ct_at c_StepError) (aCons (dVar 1) (aCons (dVar 2) aNil))) aNil))))
    (dSeq (dIfS (tdB (dOp fIsN (dVar 6) (dC .non))) (dRet (dC .non)) dNext)
    (dRet (dCallX (ct_putL c_StepError c_LimitError) (aCons (dVar 1) (aCons (dVar 2) (aCons (dCallX (ct_applyL c_LimitError) (aCons (dVar 6) (aCons (dVar 5) aNil))) aNil))))))))
def ds_step (c_StepError : Addr) (c_LimitError : Addr) : DS := (dSeq (dUnp (dVar 2) (dgTup 2 (dgCons (dgName 3) (dgCons (dgName 4) dgNil))))
    (dSeq (dIfS (tdNot (tdB (dChain fLe fLt (dC (.int 0)) (dVar 4) (dCB fLen (aCons (dVar 0) aNil))))) (dRaise c_StepError) dNext)
    (dSeq (dSet 5 (dCallX (ct_rewritten c_StepError c_LimitError) (aCons (dVar 0) (aCons (dVar 1) (aCons (dVar 3) (aCons (dVar 4) aNil))))))
    (dSeq (dIfS (tdB (dOp fIsN (dVar 5) (dC .non))) (dRaise c_StepError) dNext)
    (dRet (dVar 5))))))
def ds_derive (c_StepError : Addr) (c_LimitError : Addr) : DS := (dSeq (dFor (iTp (dVar 2)) (dgName 3) (dSet 1 (dCallX (ct_step c_StepError c_LimitError) (aCons (dVar 0) (aCons (dVar 1) (aCons (dVar 3) aNil))))))
    (dRet (dVar 1)))
def ds_successors (c_StepError : Addr) (c_LimitError : Addr) : DS := (dSeq (dSet 2 (dLst aNil))
    (dSeq (dFor (iNew (dCall (ct_positions) (aCons (dVar 1) aNil))) (dgName 3) (dIfS (tdNot (tdT (dCall (ct_is_variable) (aCons (dCallX (ct_at c_StepError) (aCons (dVar 1) (aCons (dVar 3) aNil))) aNil)))) (dFor (iR1 (aCons (dCB fLen (aCons (dVar 0) aNil)) aNil)) (dgName 4) (dSeq (dSet 5 (dCallX (ct_rewritten c_StepError c_LimitError) (aCons (dVar 0) (aCons (dVar 1) (aCons (dVar 3) (aCons (dVar 4) aNil))))))
    (dIfS (tdB (dOp fNotN (dVar 5) (dC .non))) (dApp 2 (dTup (aCons (dTup (aCons (dVar 3) (aCons (dVar 4) aNil))) (aCons (dVar 5) aNil)))) dNext))) dNext))
    (dRetV 2)))
def ds__law_rule  : DS := (dSeq (dSet 3 (dLc (iVar 1) (dgName 5) (tdB (dOp fGt (dOp fIx (dVar 5) (dC (.int 1))) (dC (.int 0)))) (dVar 5) [5]))
    (dSeq (dSet 4 (dCall (ct__law_term 40) (aCons (dVar 0) (aCons (dIf (tdAnd (tdT (dVar 3)) (tdB (dOp fGt (dCall (ctDraw) (aCons (dVar 0) (aCons (dC (.int 4)) aNil))) (dC (.int 0))))) (dVar 3) (dVar 1)) (aCons (dView (dCall (ct__law_pick) (aCons (dVar 0) (aCons (dLst (aCons (dLock (dLst (aCons (dC (.str "x")) (aCons (dC (.str "y")) (aCons (dC (.str "z")) aNil))))) (aCons (dLock (dLst (aCons (dC (.str "x")) (aCons (dC (.str "x1")) (aCons (dC (.str "x2")) aNil))))) (aCons (dLock (dLst (aCons (dC (.str "u0")) (aCons (dC (.str "x")) (aCons (dC (.str "u1")) aNil))))) aNil)))) aNil)))) (aCons (dVar 2) (aCons (dC (.int 4)) aNil)))))))
    (dSeq (dIfS (tdT (dIsi isStr (dVar 4))) (dSet 4 (dTup (aCons (dOp fIx (dOp fIx (dVar 1) (dC (.int 0))) (dC (.int 0))) (aCons (dCB fTuple (aCons (dRep (dLst (aCons (dC (.str "x")) aNil)) (dOp fIx (dOp fIx (dVar 1) (dC (.int 0))) (dC (.int 1)))) aNil)) aNil)))) dNext)
    (dRet (dTup (aCons (dVar 4) (aCons (dCall (ct__law_term 40) (aCons (dVar 0) (aCons (dVar 1) (aCons (dCall (ct__law_variables 40) (aCons (dVar 4) aNil)) (aCons (dVar 2) (aCons (dC (.int 4)) aNil)))))) aNil)))))))
def ds__law_system  : DS := (dSeq (dSet 4 (dLc (iR1 (aCons (dVar 2) aNil)) (dgName 7) tdYes (dCall (ct__law_rule) (aCons (dVar 0) (aCons (dVar 1) (aCons (dVar 3) aNil)))) [7]))
    (dSeq (dIfS (tdAnd (tdB (dOp fGt (dVar 2) (dC (.int 1)))) (tdB (dOp fEq (dCall (ctDraw) (aCons (dVar 0) (aCons (dC (.int 4)) aNil))) (dC (.int 0))))) (dSeq (dUnp (dOp fIx (dVar 4) (dC (.int 0))) (dgTup 2 (dgCons (dgName 5) (dgCons (dgName 6) dgNil))))
    (dSetIx 4 (dOp (fI0 fun i j => .int (i - j)) (dVar 2) (dC (.int 1))) (dCall (ct__law_pick) (aCons (dVar 0) (aCons (dLst (aCons (dTup (aCons (dVar 5) (aCons (dVar 6) aNil))) (aCons (dTup (aCons (dVar 5) (aCons (dCall (ct__law_term 40) (aCons (dVar 0) (aCons (dVar 1) (aCons (dCall (ct__law_variables 40) (aCons (dVar 5) aNil)) (aCons (dVar 3) (aCons (dC (.int 4)) aNil)))))) aNil))) aNil))) aNil))))) dNext)
    (dRet (dCB fTuple (aCons (dVar 4) aNil)))))
def ds__law_steps  : DS := (dSeq (dSet 2 (dLst aNil))
    (dSeq (dFor (iNew (dCall (ct__law_places 40) (aCons (dVar 1) aNil))) (dgName 3) (dSeq (dSet 4 (dCall (ct__law_at) (aCons (dVar 1) (aCons (dVar 3) aNil))))
    (dFor (iR1 (aCons (dCB fLen (aCons (dVar 0) aNil)) aNil)) (dgName 5) (dSeq (dSet 6 (dCall (ct__law_match) (aCons (dOp fIx (dOp fIx (dVar 0) (dVar 5)) (dC (.int 0))) (aCons (dVar 4) aNil))))
    (dIfS (tdAnd (tdB (dOp fNotN (dVar 6) (dC .non))) (tdNot (tdT (dIsi isStr (dOp fIx (dOp fIx (dVar 0) (dVar 5)) (dC (.int 0))))))) (dApp 2 (dTup (aCons (dTup (aCons (dVar 3) (aCons (dVar 5) aNil))) (aCons (dCall (ct__law_put 40) (aCons (dVar 1) (aCons (dVar 3) (aCons (dCall (ct__law_apply 40) (aCons (dVar 6) (aCons (dOp fIx (dOp fIx (dVar 0) (dVar 5)) (dC (.int 1))) aNil))) aNil)))) aNil)))) dNext)))))
    (dRetV 2)))
def ds__law_is_large  : DS := (dRet (dOr (dOp fGt (dCall (ct__law_size 100) (aCons (dVar 0) aNil)) (dC (.int 400))) (dOp fGt (dCall (ct__law_depth 100) (aCons (dVar 0) aNil)) (dC (.int 40)))))
def ds__law_bulk (n : Nat) : DS := (dSeq (dIfS (tdB (dOp fLt (dVar 0) (dC (.int 3)))) (dRet (dTup (aCons (dC (.str "a")) (aCons (dTup aNil) aNil)))) dNext)
    (dSeq (dSet 1 (dOp (fI CDiv fun i j => .int (i / j)) (dOp (fI0 fun i j => .int (i - j)) (dVar 0) (dC (.int 1))) (dC (.int 2))))
    (dSeq (dIfS (tdB (dOp fEq (dOp (fI (fun _ j => 0 < j) fun i j => .int (i % j)) (dVar 1) (dC (.int 2))) (dC (.int 0)))) (dSet 1 (dOp (fI0 fun i j => .int (i - j)) (dVar 1) (dC (.int 1)))) dNext)
    (dRet (dTup (aCons (dC (.str "g")) (aCons (dTup (aCons (dCall (ct__law_bulk n) (aCons (dVar 1) aNil)) (aCons (dCall (ct__law_bulk n) (aCons (dOp (fI0 fun i j => .int (i - j)) (dOp (fI0 fun i j => .int (i - j)) (dVar 0) (dC (.int 1))) (dVar 1)) aNil)) aNil))) aNil)))))))
def ds__law_doubled (n : Nat) : DS := (dRet (dIf (tdB (dOp fEq (dVar 0) (dC (.int 0)))) (dC (.str "x")) (dTup (aCons (dC (.str "g")) (aCons (dTup (aCons (dCall (ct__law_doubled n) (aCons (dOp (fI0 fun i j => .int (i - j)) (dVar 0) (dC (.int 1))) aNil)) (aCons (dCall (ct__law_doubled n) (aCons (dOp (fI0 fun i j => .int (i - j)) (dVar 0) (dC (.int 1))) aNil)) aNil))) aNil)))))
def ds__law_raises (K : PySem.W.Frag) (c_StepError : Addr) (c_LimitError : Addr) : DS := (dSeq (dTry K c_LimitError (dIfS (tdB (dOp fEq (dVar 0) (dC (.int 0)))) (dDrop (dCallX (ct_step c_StepError c_LimitError) (aCons (dVar 1) (aCons (dVar 2) (aCons (dVar 3) aNil))))) (dIfS (tdB (dOp fEq (dVar 0) (dC (.int 1)))) (dDrop (dCallX (ct_derive c_StepError c_LimitError) (aCons (dVar 1) (aCons (dVar 2) (aCons (dTup (aCons (dVar 3) aNil)) aNil))))) (dDrop (dCallX (ct_successors c_LimitError) (aCons (dVar 1) (aCons (dVar 2) aNil)))))) (dRet (dC (.bl true))))
    (dRet (dC (.bl false))))
def ds__law_at_the_end (c_StepError : Addr) (c_LimitError : Addr) : DS := (dSeq (dSet 1 (dTup (aCons (dTup (aCons (dTup (aCons (dC (.str "f")) (aCons (dTup (aCons (dC (.str "x")) aNil)) aNil))) (aCons (dCall (ct__law_doubled 40) (aCons (dC (.int 3)) aNil)) aNil))) aNil)))
    (dSeq (dSet 2 (dOp fAdd (dC (.int 45)) (dOp (fI CMul fun i j => .int (i * j)) (dC (.int 2)) (dCall (ctDraw) (aCons (dVar 0) (aCons (dC (.int 5)) aNil))))))
    (dSeq (dSet 3 (dTup (aCons (dC (.str "f")) (aCons (dTup (aCons (dCall (ct__law_bulk 40) (aCons (dVar 2) aNil)) aNil)) aNil))))
    (dSeq (dSet 4 (dOp fGt (dOp fAdd (dOp (fI CMul fun i j => .int (i * j)) (dC (.int 8)) (dVar 2)) (dC (.int 7))) (dC (.int 400))))
    (dSeq (dIfS (tdT (dCB fAny (aCons (dLc (iR1 (aCons (dC (.int 3)) aNil)) (dgName 5) tdYes (dOp fNe (dCall (ct__law_raises) (aCons (dVar 5) (aCons (dVar 1) (aCons (dVar 3) (aCons (dTup (aCons (dTup aNil) (aCons (dC (.int 0)) aNil))) aNil))))) (dVar 4)) [5]) aNil))) (dRet (dC (.bl false))) dNext)
    (dRet (dOr (dVar 4) (dOp fEq (dCallX (ct_step c_StepError c_LimitError) (aCons (dVar 1) (aCons (dVar 3) (aCons (dTup (aCons (dTup aNil) (aCons (dC (.int 0)) aNil))) aNil)))) (dCall (ct__law_apply 40) (aCons (dDisp [((dC (.str "x")), (dCall (ct__law_bulk 40) (aCons (dVar 2) aNil)))]) (aCons (dCall (ct__law_doubled 40) (aCons (dC (.int 3)) aNil)) aNil)))))))))))
def ds_law7 (K : PySem.W.Frag) (c_StepError : Addr) (c_LimitError : Addr) : DS := (dSeq (dIfS (tdB (dOp fEq (dCall (ctDraw) (aCons (dVar 1) (aCons (dC (.int 5)) aNil))) (dC (.int 0)))) (dRet (dCall (ct__law_at_the_end) (aCons (dVar 1) aNil))) dNext)
    (dSeq (dSet 2 (dCall (ct__law_some_symbols) (aCons (dVar 1) (aCons (dC (.int 5)) aNil))))
    (dSeq (dSet 3 (dCall (ct__law_system) (aCons (dVar 1) (aCons (dVar 2) (aCons (dCall (ctDraw) (aCons (dVar 1) (aCons (dC (.int 5)) aNil))) (aCons (dC (.int 6)) aNil))))))
    (dSeq (dSet 4 (dCall (ct__law_term 40) (aCons (dVar 1) (aCons (dVar 2) (aCons (dLst (aCons (dC (.str "x")) (aCons (dC (.str "y")) aNil))) (aCons (dOp fAdd (dC (.int 1)) (dCall (ctDraw) (aCons (dVar 1) (aCons (dC (.int 12)) aNil)))) (aCons (dC (.int 5)) aNil)))))))
    (dSeq (dSet 5 (dCall (ct__law_steps) (aCons (dVar 3) (aCons (dVar 4) aNil))))
    (dSeq (dIfS (tdT (dCB fAny (aCons (dLc (iVar 5) (dgTup 2 (dgCons (dgName 6) (dgCons (dgName 7) dgNil))) tdYes (dCall (ct__law_is_large) (aCons (dVar 7) aNil)) [6, 7]) aNil))) (dRet (dC (.bl true))) dNext)
    (dSeq (dIfS (tdB (dOp fNe (dCallX (ct_successors c_LimitError) (aCons (dVar 3) (aCons (dVar 4) aNil))) (dVar 5))) (dRet (dC (.bl false))) dNext)
    (dSeq (dFor (iVar 5) (dgTup 2 (dgCons (dgName 6) (dgCons (dgName 7) dgNil))) (dIfS (tdB (dOp fNe (dCallX (ct_step c_StepError c_LimitError) (aCons (dVar 3) (aCons (dVar 4) (aCons (dVar 6) aNil)))) (dVar 7))) (dRet (dC (.bl false))) dNext))
    (dSeq (dFor (iR1 (aCons (dC (.int 4)) aNil)) (dgName 8) (dSeq (dSet 6 (dTup (aCons (dCall (ct__law_pick) (aCons (dVar 1) (aCons (dOp fAdd (dCall (ct__law_places 40) (aCons (dVar 4) aNil)) (dLst (aCons (dTup (aCons (dC (.int 7)) aNil)) (aCons (dTup (aCons (dC (.int 0)) (aCons (dC (.int 0)) (aCons (dC (.int 0)) (aCons (dC (.int 0)) (aCons (dC (.int 0)) (aCons (dC (.int 0)) aNil))))))) aNil)))) aNil))) (aCons (dOp (fI0 fun i j => .int (i - j)) (dCall (ctDraw) (aCons (dVar 1) (aCons (dOp fAdd (dCB fLen (aCons (dVar 3) aNil)) (dC (.int 2))) aNil))) (dC (.int 1))) aNil))))
    (dSeq (dSet 9 (dLc (iVar 5) (dgTup 2 (dgCons (dgName 17) (dgCons (dgName 7) dgNil))) (tdB (dOp fEq (dVar 17) (dVar 6))) (dVar 7) [17, 7]))
    (dSeq (dTry K c_StepError (dSet 10 (dCallX (ct_step c_StepError c_LimitError) (aCons (dVar 3) (aCons (dVar 4) (aCons (dVar 6) aNil))))) (dSeq (dIfS (tdT (dVar 9)) (dRet (dC (.bl false))) dNext)
    dCont))
    (dIfS (tdOr (tdNot (tdT (dVar 9))) (tdB (dOp fNe (dVar 10) (dOp fIx (dVar 9) (dC (.int 0)))))) (dRet (dC (.bl false))) dNext)))))
    (dSeq (dSet 11 (dVar 4))
    (dSeq (dSet 12 (dLst aNil))
    (dSeq (dFor (iR1 (aCons (dCall (ctDraw) (aCons (dVar 1) (aCons (dC (.int 5)) aNil))) aNil)) (dgName 8) (dSeq (dSet 13 (dCall (ct__law_steps) (aCons (dVar 3) (aCons (dVar 11) aNil))))
    (dSeq (dIfS (tdNot (tdT (dVar 13))) dBrk dNext)
    (dSeq (dUnp (dCall (ct__law_pick) (aCons (dVar 1) (aCons (dVar 13) aNil))) (dgTup 2 (dgCons (dgName 6) (dgCons (dgName 11) dgNil))))
    (dSeq (dIfS (tdT (dCall (ct__law_is_large) (aCons (dVar 11) aNil))) (dRet (dC (.bl true))) dNext)
    (dApp 12 (dVar 6)))))))
    (dSeq (dIfS (tdOr (tdB (dOp fNe (dCallX (ct_derive c_StepError c_LimitError) (aCons (dVar 3) (aCons (dVar 4) (aCons (dCB fTuple (aCons (dVar 12) aNil)) aNil)))) (dVar 11))) (tdB (dOp fNe (dCallX (ct_derive c_StepError c_LimitError) (aCons (dVar 3) (aCons (dVar 4) (aCons (dTup aNil) aNil)))) (dVar 4)))) (dRet (dC (.bl false))) dNext)
    (dSeq (dSet 14 (dTup (aCons (dOp fRepT (dTup (aCons (dCall (ctDraw) (aCons (dVar 1) (aCons (dC (.int 3)) aNil))) aNil)) (dCall (ctDraw) (aCons (dVar 1) (aCons (dC (.int 4)) aNil)))) (aCons (dOp fAdd (dCB fLen (aCons (dVar 3) aNil)) (dCall (ctDraw) (aCons (dVar 1) (aCons (dC (.int 2)) aNil)))) aNil))))
    (dSeq (dSet 15 (dC (.bl false)))
    (dSeq (dTry K c_StepError (dDrop (dCallX (ct_derive c_StepError c_LimitError) (aCons (dVar 3) (aCons (dVar 4) (aCons (dOp fAdd (dCB fTuple (aCons (dVar 12) aNil)) (dTup (aCons (dVar 14) aNil))) aNil))))) (dSet 15 (dC (.bl true))))
    (dSeq (dIfS (tdNot (tdT (dVar 15))) (dRet (dC (.bl false))) dNext)
    (dSeq (dSet 16 (dCB fDictP (aCons (dLc (iNew (dLst (aCons (dC (.str "x")) (aCons (dC (.str "y")) aNil)))) (dgName 18) tdYes (dTup (aCons (dVar 18) (aCons (dCall (ct__law_term 40) (aCons (dVar 1) (aCons (dVar 2) (aCons (dLst (aCons (dC (.str "z")) aNil)) (aCons (dOp fAdd (dC (.int 1)) (dCall (ctDraw) (aCons (dVar 1) (aCons (dC (.int 4)) aNil)))) (aCons (dC (.int 3)) aNil)))))) aNil))) [18]) aNil)))
    (dTry K c_LimitError (dRet (dOp fEq (dCallX (ct_derive c_StepError c_LimitError) (aCons (dVar 3) (aCons (dCallX (ct_applyL c_LimitError) (aCons (dVar 16) (aCons (dVar 4) aNil))) (aCons (dCB fTuple (aCons (dVar 12) aNil)) aNil)))) (dCallX (ct_applyL c_LimitError) (aCons (dVar 16) (aCons (dVar 11) aNil))))) (dRet (dC (.bl true))))))))))))))))))))))
end PL

namespace PL
open PySem PySem.Spec PyProof.Rows L2
theorem rd_need7 (c : Addr) (y : Nat × Nat) (h : (ct_needL c).pre y) : ds_need_small c (endsOf ((ct_needL c).post y) ((ct_needL c).exc y)) (slots [.d (.int y.1), .d (.int y.2)] 2) := by
  obtain ⟨a, b⟩ := y
  refine ite2 (fun e => ?_) (fun e1 => ite2 (fun e => ?_) (fun e2 => ?_))
  · have e : (400 : Int) < a := of_decide_eq_true e
    exact ⟨rfl, fun z => by have : a ≤ 400 := z.1; omega⟩
  · have e : (40 : Int) < b := of_decide_eq_true e
    exact ⟨rfl, fun z => by have : b ≤ 40 := z.2; omega⟩
  · have e1 : ¬ (400 : Int) < a := fun z => e1 (decide_eq_true z)
    have e2 : ¬ (40 : Int) < b := fun z => e2 (decide_eq_true z)
    exact ⟨⟨show a ≤ 400 by omega, show b ≤ 40 by omega⟩, rfl⟩
theorem rd_put7 (c cL : Addr) (y : Tm × List Int × Tm) (h : (ct_putL c cL).pre y) : ds_put7 c cL (endsOf ((ct_putL c cL).post y) ((ct_putL c cL).exc y)) (slots [.d y.1.d, .d (intsD y.2.1), .d y.2.2.d] 7) := by
  obtain ⟨t, p, s⟩ := y
  obtain ⟨hsz, hpl⟩ : t.size + s.size ≤ 10000 ∧ p.length ≤ 1000 := h
  refine ⟨Nat.zero_le _, ?_⟩
  refine ⟨fun i ρ => ∃ u w x4 x5, Tm.at? (p.take i) t = some u ∧ (∀ s, Tm.put? (p.take i) t s = some (up w s)) ∧ w.length = i ∧ (∀ x ∈ w, 0 ≤ x.2 ∧ x.2.toNat < x.1.args.length ∧ x.1.args.length ≤ 10000) ∧ ρ = [.d u.d, .d (intsD p), .d s.d, .o (.lst (wayD w)), x4, x5, .any],
    ⟨t, [], .any, .any, rfl, fun _ => rfl, rfl, (fun _ z => by cases z), rfl⟩, ?_, ?_⟩
  · rintro i x ρ' hx ⟨u, w, x4, x5, hu, hp, hw, hok, rfl⟩
    obtain ⟨k, hk, rfl⟩ := ints_get hx
    have hk : p[i]? = some k := hk
    have hilt : i < p.length := by
      rcases Nat.lt_or_ge i p.length with z | z
      · exact z
      · rw [List.getElem?_eq_none z] at hk; cases hk
    refine ⟨u, rfl, trivial, fun r er => ?_, fun _ h => h⟩
    subst er
    have hl : ((Tm.ds u.args).length : Int) = u.args.length := by rw [Tm.ds_length]
    dsimp only [dSeq, dIfS, tdNot, tdB]
    refine dChain_ll (da := dC (.int 0)) (db := dVar 4) (dc := dCB fLen (aCons (dVar 5) aNil)) 0 k (Tm.ds u.args).length ?_ ?_ ?_ (fun h0 h1 => ?_) (fun hn => ?_)
    · exact fun _ h => h
    · exact fun _ h => h
    · exact fun _ h => h
    · have hlt : k.toNat < u.args.length := by omega
      have hg : u.args[k.toNat]? = some u.args[k.toNat] := List.getElem?_eq_getElem hlt
      have hgd : (Tm.ds u.args)[k.toNat]? = some u.args[k.toNat].d := by rw [Tm.ds_get, hg]; rfl
      have hus := (Tm.at?_size _ _ _ hu).1
      have hua := Tm.size_args u
      have hul := Tm.sizes_length u.args
      refine ⟨sl 2 (by omega), sl' _ (by unfold wayD; rw [List.length_map]; omega), ?_⟩
      show match atI (Tm.ds u.args) k with | some z => _ | none => False
      rw [show atI (Tm.ds u.args) k = some u.args[k.toNat].d from (congrArg (atI (Tm.ds u.args)) (show k = ((k.toNat : Nat) : Int) by omega)).trans (atI_get hgd)]
      refine ⟨u.args[k.toNat], w ++ [(u, k)], .d (.int k), .d (.tup (Tm.ds u.args)), ?_, fun s' => ?_, ?_, ?_, ?_⟩
      · rw [take_snoc hk]
        exact Tm.at?_snoc _ _ _ _ _ hu h0 hg
      · rw [take_snoc hk, Tm.put?_snoc _ _ _ _ _ _ hu h0 hg, hp, up_snoc]
      · rw [List.length_append, hw]; rfl
      · intro x hx
        rcases List.mem_append.mp hx with hx | hx
        · exact hok x hx
        · rw [List.mem_singleton] at hx; subst hx; exact ⟨h0, hlt, by show u.args.length ≤ 10000; omega⟩
      · unfold wayD
        rw [List.map_append]
        rfl
    · refine .inl ⟨rfl, ?_⟩
      show Tm.at? p t = none
      rw [take_split hk]
      exact Tm.at?_stop _ _ _ _ _ hu fun z => hn ⟨z.1, by omega⟩
  · rintro ρ' ⟨u, w, x4, x5, hu, hp, hw, hok, rfl⟩
    rw [List.length_map, List.take_length] at hu
    rw [List.length_map] at hw
    have hp : ∀ s, Tm.put? p t s = some (up w s) := fun s => by have := hp s; rw [List.length_map, List.take_length] at this; exact this
    obtain ⟨m, hm, _, hms, hmd, _⟩ := Tm.put?_at p t u s hu
    rw [hp s] at hm
    cases hm
    have hup := Tm.size_pos u
    refine ⟨fun j ρ => ∃ x4 x6, ρ = [.d u.d, .d (intsD p), .d (up (w.drop (w.length - j)) s).d, .o (.lst (wayD w)), x4, x5, x6], ⟨x4, .any, ?_⟩, ?_, ?_⟩
    · rw [Nat.sub_zero, List.drop_length]
      rfl
    · rintro j x ρ' hx ⟨x4, x6, rfl⟩
      have hj : j < w.length := by
        rcases Nat.lt_or_ge j w.length with z | z
        · exact z
        · rw [List.getElem?_eq_none (by rw [List.length_reverse]; unfold wayD; rw [List.length_map]; exact z)] at hx; cases hx
      obtain ⟨q, hq⟩ : ∃ q, w.length - j = q + 1 := ⟨w.length - j - 1, by omega⟩
      have hql : q < w.length := by omega
      have hwq : w[q]? = some w[q] := List.getElem?_eq_getElem hql
      have hx2 : x = .tup [w[q].1.d, .int w[q].2] := by
        unfold wayD at hx
        rw [← List.map_reverse, List.getElem?_map, List.getElem?_reverse hj, show w.length - 1 - j = q by omega, hwq] at hx
        cases hx
        rfl
      subst hx2
      obtain ⟨k0, k1, k2⟩ := hok w[q] (List.getElem_mem hql)
      cases hv : w[q].1 with
      | var x => rw [hv] at k1; exact absurd k1 (by simp [Tm.args])
      | app f ts =>
        rw [hv] at k1 k2
        have k1 : w[q].2.toNat < ts.length := k1
        have k2 : ts.length ≤ 10000 := k2
        refine ⟨rfl, ?_⟩
        rw [Tm.d]
        obtain ⟨kk, hkk⟩ : ∃ kk : Nat, w[q].2 = (kk : Int) := ⟨w[q].2.toNat, by omega⟩
        rw [hkk] at k1 ⊢
        have k1 : kk < ts.length := k1
        have e1 : (cut (Tm.ds ts) none (some (kk : Int))) = (Tm.ds ts).take kk := cut_take _ _
        have e2 : (cut (Tm.ds ts) (some ((kk : Int) + 1)) none) = (Tm.ds ts).drop (kk + 1) := cut_drop _ (kk + 1)
        show ([(up (w.drop (w.length - j)) s).d] : List D).length ≤ sizeLine ∧ _ ≤ sizeLine ∧ _
        refine ⟨sl 1 (by omega), ?_⟩
        refine ⟨sl _ ?_, ?_⟩
        · rw [e1, List.length_take, Tm.ds_length, List.length_singleton]; omega
        refine ⟨sl _ ?_, sl 2 (by omega), .d (.int kk), .d (.tup [.str f, .tup (Tm.ds ts)]), ?_⟩
        · rw [e1, e2, List.length_append, List.length_take, List.length_drop, Tm.ds_length, List.length_singleton]; omega
        · rw [show w.length - (j + 1) = q by omega, drop_get hwq]
          have e3 : (up (w[q] :: w.drop (q + 1)) s).d = .tup [.str f, .tup ((Tm.ds ts).take kk ++ [(up (w.drop (w.length - j)) s).d] ++ (Tm.ds ts).drop (kk + 1))] := by
            have e4 : w[q] = (.app f ts, (kk : Int)) := Prod.ext hv hkk
            rw [e4, up, hq]
            exact rep_d k1
          rw [e3, ← e1, ← e2]
          rfl
    · rintro ρ' ⟨x4, x6, rfl⟩
      have e0 : up (w.drop (w.length - (wayD w).reverse.length)) s = up w s := by
        unfold wayD
        rw [List.length_reverse, List.length_map, Nat.sub_self, List.drop_zero]
      rw [e0]
      refine ⟨up w s, rfl, by show (up w s).size ≤ 10000; omega, fun r er => ?_, fun _ h => h⟩
      subst er
      refine ⟨up w s, rfl, by show (up w s).size ≤ 10000; omega, fun r er => ?_, fun _ h => h⟩
      subst er
      refine ⟨((up w s).size, (up w s).depth), rfl, trivial, fun r hr => ?_, fun c' hc => ?_⟩
      · exact ⟨up w s, hp s, hr.1, rfl⟩
      · exact .inr ⟨hc.1, up w s, hp s, hc.2⟩
theorem rd_apply7 (cL : Addr) (y : Tb × Tm) (h : (ct_applyL cL).pre y) : ds_apply7 cL (endsOf ((ct_applyL cL).post y) ((ct_applyL cL).exc y)) (slots [.b (.kk (tblD y.1)), .d y.2.d] 4) := by
  obtain ⟨s, t⟩ := y
  obtain ⟨h1, h2⟩ : TbOk s ∧ t.size ≤ 10000 := h
  refine ⟨(s, t), rfl, ⟨h1, h2⟩, fun r er => ?_, fun _ h => h⟩
  subst er
  refine ⟨rfl, ((t.sub (lk s)).size, (t.sub (lk s)).depth), rfl, trivial, fun r hr => ?_, fun c' hc => hc⟩
  exact ⟨[.b (.kk (tblD s))], rfl, t, lk s, rfl, h2, fun x _ => ⟨(x, s), rfl, trivial, fun r er => er, fun _ h => h⟩, hr.1, rfl⟩
end PL

namespace PL
open PySem PySem.Spec PyProof.Rows L2
theorem Mid.small {t : Tm} (h : Mid t) : Small t := ⟨h.1, by have := h.2.1.1; omega, h.2.2⟩
theorem Mid.part {p : List Int} {t u : Tm} (h : Mid t) (hu : Tm.at? p t = some u) : Small u := by
  obtain ⟨z1, z2⟩ := Tm.at?_size p t u hu
  have := h.2.1.1
  have := h.2.2
  exact ⟨Tm.at?_ok p t u h.1 hu, by omega, by omega⟩
theorem SysOk.rule {s : Sys} {k : Nat} {l r : Tm} (hs : SysOk s 15 4) (h : s[k]? = some (l, r)) : Small l ∧ Small r ∧ r.size ≤ 15 ∧ r.depth ≤ 4 ∧ l.isVar = false := by
  obtain ⟨⟨l1, l2, l3⟩, ⟨r1, r2, r3⟩, lv⟩ := hs.ok _ (mem_get h)
  have l2 : l.size ≤ 15 := l2
  have l3 : l.depth ≤ 4 := l3
  have r2 : r.size ≤ 15 := r2
  have r3 : r.depth ≤ 4 := r3
  exact ⟨⟨l1, by omega, by omega⟩, ⟨r1, by omega, by omega⟩, r2, r3, lv⟩
theorem ruleD_get {s : Sys} {k : Nat} (h : k < s.length) : ∃ l r, s[k]? = some (l, r) ∧ (s.map ruleD)[k]? = some (.tup [l.d, r.d]) := by
  refine ⟨s[k].1, s[k].2, List.getElem?_eq_getElem h, ?_⟩
  rw [List.getElem?_map, List.getElem?_eq_getElem h]
  rfl
theorem notNon (m : Tm) : isNonR (.d m.d) = false := by cases m <;> rfl
theorem rd_rewritten (c cL : Addr) (y : Sys × Tm × List Int × Nat) (h : (ct_rewritten c cL).pre y) : ds_rewritten c cL (endsOf ((ct_rewritten c cL).post y) ((ct_rewritten c cL).exc y)) (slots [.d (sysD y.1), .d y.2.1.d, .d (intsD y.2.2.1), .d (.int y.2.2.2)] 7) := by
  obtain ⟨s, t, p, k⟩ := y
  obtain ⟨hs, hk, hm, hp⟩ : SysOk s 15 4 ∧ k < s.length ∧ Mid t ∧ p.length ≤ 1000 := h
  obtain ⟨l, r, hlr, hg⟩ := ruleD_get hk
  obtain ⟨sl1, sr, r2, r3, lv⟩ := hs.rule hlr
  have tz := hm.2.1.1
  show match atI (s.map ruleD) (k : Int) with | some z => _ | none => False
  rw [atI_get hg]
  refine ⟨rfl, ?_⟩
  refine ⟨(t, p), rfl, by show t.size ≤ 10000; omega, fun r' hr => ?_, fun c' hc => .inl hc⟩
  obtain ⟨u, hu, rfl⟩ := hr
  have hu : Tm.at? p t = some u := hu
  refine ⟨(l, u), rfl, ⟨sl1, hm.part hu⟩, fun r' hr => ?_, fun _ h => h⟩
  rcases hr with ⟨tb, rfl, mt⟩ | ⟨rfl, mt⟩
  · have mt : Mat tb l u := mt
    have tt := mt.tbl (hm.part hu)
    have tl := tt.length
    have lz := sl1.2.1
    have lvl := Tm.vars_length l
    have uz := (Tm.at?_size p t u hu).1
    obtain ⟨m, hput, _⟩ := Tm.put?_at p t u (r.sub (lk tb)) hu
    have hst := StepR.of_mat hlr hu mt hput
    obtain ⟨_, q1, q2, _⟩ := Tm.put?_part hput
    refine ⟨(tb, r), rfl, ⟨⟨?_, fun q hq => by have := (tt.ok q hq).2.1; omega⟩, by show r.size ≤ 10000; omega⟩, fun r' hr => ?_, fun c' hc => .inr ⟨hc.1, m, hst, fun z => hc.2 ⟨by have := z.1; show (r.sub (lk tb)).size ≤ 400; omega, by have := z.2; show (r.sub (lk tb)).depth ≤ 40; omega⟩⟩⟩
    · show tb.length ≤ 10000; omega
    obtain ⟨hf, rfl⟩ := hr
    have hf : Few (r.sub (lk tb)) := hf
    have hf1 := hf.1
    refine ⟨(t, p, r.sub (lk tb)), rfl, ⟨by show t.size + (r.sub (lk tb)).size ≤ 10000; omega, hp⟩, fun r' hr => ?_, fun c' hc => ?_⟩
    · obtain ⟨m', hm', hf', rfl⟩ := hr
      exact .inr ⟨m', StepR.of_mat hlr hu mt hm', hf', rfl⟩
    · rcases hc with ⟨hc, ha⟩ | ⟨hc, m', hm', hf'⟩
      · have ha : Tm.at? p t = none := ha
        rw [hu] at ha
        cases ha
      · exact .inr ⟨hc, m', StepR.of_mat hlr hu mt hm', hf'⟩
  · exact .inl ⟨rfl, StepR.no_mat hlr hu mt⟩
theorem rd_step (c cL : Addr) (y : Sys × Tm × List Int × Int) (h : (ct_step c cL).pre y) : ds_step c cL (endsOf ((ct_step c cL).post y) ((ct_step c cL).exc y)) (slots [.d (sysD y.1), .d y.2.1.d, .d (stD y.2.2)] 6) := by
  obtain ⟨s, t, p, k⟩ := y
  obtain ⟨hs, hm, hp⟩ : SysOk s 15 4 ∧ Mid t ∧ p.length ≤ 1000 := h
  refine ⟨rfl, ?_⟩
  dsimp only [dSeq, dIfS, tdNot, tdB, dgCons, dgName, dgNil]
  refine dChain_ll (da := dC (.int 0)) (db := dVar 4) (dc := dCB fLen (aCons (dVar 0) aNil)) 0 k (s.map ruleD).length ?_ ?_ ?_ (fun h0 h1 => ?_) (fun hn => ?_)
  · exact fun _ h => h
  · exact fun _ h => h
  · exact fun _ h => h
  · rw [List.length_map] at h1
    obtain ⟨kk, rfl⟩ : ∃ kk : Nat, k = (kk : Int) := ⟨k.toNat, by omega⟩
    have hkk : ((kk : Int)).toNat = kk := by omega
    refine ⟨(s, t, p, kk), rfl, ⟨hs, by show kk < s.length; omega, hm, hp⟩, fun r hr => ?_, fun c' hc => ?_⟩
    · rcases hr with ⟨rfl, hno⟩ | ⟨m, hst, hf, rfl⟩
      · exact .inl ⟨rfl, fun ⟨m, _, hs⟩ => hno m (by have hs : StepR s t p ((kk : Int)).toNat m := hs; rw [hkk] at hs; exact hs)⟩
      · refine ite2 (fun z => ?_) (fun _ => ⟨m, h0, by show StepR s t p ((kk : Int)).toNat m; rw [hkk]; exact hst, hf, rfl⟩)
        have z : isNonR (.d m.d) = true := z
        rw [notNon] at z
        cases z
    · rcases hc with ⟨hc, ha⟩ | ⟨hc, m, hst, hf⟩
      · exact .inl ⟨hc, fun ⟨m, _, hs⟩ => StepR.no_place ha m hs⟩
      · exact .inr ⟨hc, m, h0, by show StepR s t p ((kk : Int)).toNat m; rw [hkk]; exact hst, hf⟩
  · refine .inl ⟨rfl, fun ⟨m, h0, l, r, g, hlr, _⟩ => hn ⟨h0, ?_⟩⟩
    have hlr : s[k.toNat]? = some (l, r) := hlr
    have h0 : 0 ≤ k := h0
    rw [List.length_map]
    have : k.toNat < s.length := by
      rcases Nat.lt_or_ge k.toNat s.length with z | z
      · exact z
      · rw [List.getElem?_eq_none z] at hlr; cases hlr
    omega
theorem rd_derive (c cL : Addr) (y : Sys × Tm × List (List Int × Int)) (h : (ct_derive c cL).pre y) : ds_derive c cL (endsOf ((ct_derive c cL).post y) ((ct_derive c cL).exc y)) (slots [.d (sysD y.1), .d y.2.1.d, .d (.tup (y.2.2.map stD))] 4) := by
  obtain ⟨s, t, w⟩ := y
  obtain ⟨hs, ht, hf, hd, hp⟩ : SysOk s 15 4 ∧ t.ok = true ∧ Few t ∧ t.depth + 4 * w.length ≤ 32 ∧ ∀ q ∈ w, q.1.length ≤ 1000 := h
  refine ⟨fun i ρ => ∃ m x3, Way s t (w.take i) m ∧ ρ = [.d (sysD s), .d m.d, .d (.tup (w.map stD)), x3], ⟨t, .any, .nil, rfl⟩, ?_, ?_⟩
  · rintro i x ρ' hx ⟨m, x3, hw, rfl⟩
    obtain ⟨⟨p, k⟩, hq, rfl⟩ := map_get hx
    have hi : i < w.length := by
      rcases Nat.lt_or_ge i w.length with z | z
      · exact z
      · rw [List.getElem?_eq_none z] at hq; cases hq
    obtain ⟨m1, m2, m3⟩ := hw.sizes hs ht hf
    have hl : (w.take i).length = i := by rw [List.length_take]; omega
    rw [hl] at m3
    have hsplit := take_split hq
    refine ⟨(s, m, p, k), rfl, ⟨hs, ⟨m1, m2, by show m.depth ≤ 32; omega⟩, hp _ (mem_get hq)⟩, fun r hr => ?_, fun c' hc => ?_⟩
    · obtain ⟨e, h0, hst, hfe, rfl⟩ := hr
      refine ⟨e, .d (stD (p, k)), ?_, rfl⟩
      rw [take_snoc hq]
      exact hw.snoc h0 hst hfe
    · rcases hc with ⟨hc, hno⟩ | ⟨hc, e, h0, hst, hfe⟩
      · exact .inl ⟨hc, w.take i, p, k, w.drop (i + 1), m, hsplit, hw, hno⟩
      · exact .inr ⟨hc, w.take i, p, k, w.drop (i + 1), m, e, hsplit, hw, h0, hst, hfe⟩
  · rintro ρ' ⟨m, x3, hw, rfl⟩
    rw [List.length_map, List.take_length] at hw
    exact ⟨m, hw, rfl⟩
end PL

namespace PL
open PySem PySem.Spec PyProof.Rows L2
theorem succAt_succ (s : Sys) (t : Tm) (q : List Nat) (k : Nat) : succAt s t q (k + 1) = succAt s t q k ++ (match stepO s t q k with | some m => [((q, k), m)] | none => []) := by
  unfold succAt
  rw [List.range_succ, List.filterMap_append]
  congr 1
  show (List.filterMap _ [k]) = _
  rw [List.filterMap_cons]
  cases stepO s t q k <;> rfl
theorem succAt_some {s : Sys} {t : Tm} {q : List Nat} {k : Nat} {m : Tm} (h : StepR s t (Tm.plI q) k m) : succAt s t q (k + 1) = succAt s t q k ++ [((q, k), m)] := by rw [succAt_succ, stepO_some.mpr h]
theorem succAt_none {s : Sys} {t : Tm} {q : List Nat} {k : Nat} (h : ∀ m, ¬ StepR s t (Tm.plI q) k m) : succAt s t q (k + 1) = succAt s t q k := by rw [succAt_succ, stepO_none.mpr h, List.append_nil]
theorem succAt_len (s : Sys) (t : Tm) (q : List Nat) (n : Nat) : (succAt s t q n).length ≤ n := by
  unfold succAt
  have := List.length_filterMap_le (fun k => (stepO s t q k).map fun m => ((q, k), m)) (List.range n)
  rw [List.length_range] at this
  exact this
theorem succL_snoc (s : Sys) (t : Tm) (ps : List (List Nat)) (q : List Nat) : succL s t (ps ++ [q]) = succL s t ps ++ succAt s t q s.length := by
  unfold succL
  rw [List.flatMap_append, List.flatMap_singleton]
theorem succL_len (s : Sys) (t : Tm) (h : s.length ≤ 10) : ∀ ps : List (List Nat), (succL s t ps).length ≤ ps.length * 10
  | [] => Nat.zero_le _
  | q :: r => by
    have ih := succL_len s t h r
    have := succAt_len s t q s.length
    show (succAt s t q s.length ++ succL s t r).length ≤ _
    rw [List.length_append, List.length_cons]
    omega
theorem mem_succAt {s : Sys} {t : Tm} {q : List Nat} {n : Nat} {x : (List Nat × Nat) × Tm} : x ∈ succAt s t q n ↔ x.1.1 = q ∧ x.1.2 < n ∧ StepR s t (Tm.plI q) x.1.2 x.2 := by
  unfold succAt
  rw [List.mem_filterMap]
  constructor
  · rintro ⟨k, hk, h⟩
    rw [Option.map_eq_some_iff] at h
    obtain ⟨m, hm, rfl⟩ := h
    exact ⟨rfl, List.mem_range.mp hk, stepO_some.mp hm⟩
  · rintro ⟨h1, h2, h3⟩
    refine ⟨x.1.2, List.mem_range.mpr h2, ?_⟩
    rw [stepO_some.mpr h3, ← h1]
    rfl
theorem mem_succL {s : Sys} {t : Tm} {ps : List (List Nat)} {x : (List Nat × Nat) × Tm} : x ∈ succL s t ps ↔ x.1.1 ∈ ps ∧ x.1.2 < s.length ∧ StepR s t (Tm.plI x.1.1) x.1.2 x.2 := by
  unfold succL
  rw [List.mem_flatMap]
  constructor
  · rintro ⟨q, hq, h⟩
    obtain ⟨h1, h2, h3⟩ := mem_succAt.mp h
    subst h1
    exact ⟨hq, h2, h3⟩
  · rintro ⟨h1, h2, h3⟩
    exact ⟨_, h1, mem_succAt.mpr ⟨rfl, h2, h3⟩⟩
theorem no_var_step {s : Sys} {t : Tm} {p : List Int} {x : Str} (hs : SysOk s 15 4) (h : Tm.at? p t = some (.var x)) (k : Nat) (m : Tm) : ¬ StepR s t p k m := by
  rintro ⟨l, r, g, h1, h2, _⟩
  have lv : l.isVar = false := (hs.ok _ (mem_get h1)).2.2
  rw [h] at h2
  cases l with
  | var y => cases lv
  | app f ts => rw [Tm.sub] at h2; cases h2
theorem succAt_var {s : Sys} {t : Tm} {q : List Nat} {x : Str} (hs : SysOk s 15 4) (h : Tm.at? (Tm.plI q) t = some (.var x)) (n : Nat) : succAt s t q n = [] := by
  cases z : succAt s t q n with
  | nil => rfl
  | cons a r =>
    obtain ⟨_, _, h3⟩ := mem_succAt.mp (show a ∈ succAt s t q n by rw [z]; exact List.mem_cons_self)
    exact absurd h3 (no_var_step hs h _ _)
theorem rd_successors (c cL : Addr) (y : Sys × Tm) (h : (ct_successors cL).pre y) : ds_successors c cL (endsOf ((ct_successors cL).post y) ((ct_successors cL).exc y)) (slots [.d (sysD y.1), .d y.2.d] 6) := by
  obtain ⟨s, t⟩ := y
  obtain ⟨hs, hm⟩ : SysOk s 15 4 ∧ Mid t := h
  have tz := hm.2.1.1
  have sl10 := hs.len
  have hpl := Tm.places_length t
  refine ⟨Nat.zero_le _, ?_⟩
  refine ⟨t, rfl, by show t.size ≤ 10000; omega, fun r er => ?_, fun _ h => h⟩
  subst er
  refine ⟨fun i ρ => ∃ x3 x4 x5, ρ = [.d (sysD s), .d t.d, .o (.lst ((succL s t (t.places.take i)).map sucD)), x3, x4, x5] ∧ ∀ x ∈ succL s t (t.places.take i), Few x.2, ⟨.any, .any, .any, rfl, fun x z => by cases z⟩, ?_, ?_⟩
  · rintro i x ρ' hx ⟨x3, x4, x5, rfl, hfew⟩
    obtain ⟨q, hq, rfl⟩ := map_get hx
    have hqm := mem_get hq
    obtain ⟨u, hu⟩ := Tm.places_at t q hqm
    have hql := Tm.places_len t q hqm
    have hpI : (Tm.plI q).length = q.length := by unfold Tm.plI; rw [List.length_map]
    have hdp := hm.2.2
    have hcnt : (succL s t (t.places.take i)).length ≤ 4000 := by
      have := succL_len s t sl10 (t.places.take i)
      have h2 : (t.places.take i).length ≤ t.places.length := by rw [List.length_take]; omega
      omega
    refine ⟨(t, Tm.plI q), by rw [plD_eq]; rfl, by show t.size ≤ 10000; omega, fun r hr => ?_, fun c' hc => ?_⟩
    · obtain ⟨u', hu', rfl⟩ := hr
      have hu' : Tm.at? (Tm.plI q) t = some u' := hu'
      rw [hu] at hu'
      cases hu'
      refine ask_var ?_
      cases u with
      | var z =>
        refine ⟨.d (plD q), x4, x5, ?_, ?_⟩
        · rw [take_snoc hq, succL_snoc, succAt_var hs hu, List.append_nil]; rfl
        · rw [take_snoc hq, succL_snoc, succAt_var hs hu, List.append_nil]; exact hfew
      | app f ts =>
        have hsl : (s.map ruleD).length = s.length := List.length_map _
        show -(2 ^ 62) ≤ (((s.map ruleD).length : Nat) : Int) ∧ _
        refine ⟨by omega, by omega, ?_⟩
        refine ⟨fun k ρ => ∃ x4 x5, ρ = [.d (sysD s), .d t.d, .o (.lst ((succL s t (t.places.take i) ++ succAt s t q k).map sucD)), .d (plD q), x4, x5] ∧ ∀ x ∈ succAt s t q k, Few x.2, ⟨x4, x5, ?_, fun x z => by cases z⟩, ?_, ?_⟩
        · show _ = [_, _, A.o (.lst ((succL s t (t.places.take i) ++ []).map sucD)), _, _, _]
          rw [List.append_nil]
          rfl
        · rintro k x ρ' hx ⟨x4, x5, rfl, hf2⟩
          obtain ⟨hk, rfl⟩ := rng_get hx
          have hk : k < s.length := by
            have hk : k < ((((s.map ruleD).length : Nat) : Int)).toNat := hk
            omega
          have hal := succAt_len s t q k
          refine ⟨(s, t, Tm.plI q, k), ?_, ⟨hs, hk, hm, by show (Tm.plI q).length ≤ 1000; omega⟩, fun r hr => ?_, fun c' hc => ?_⟩
          · rw [plD_eq]; rfl
          · rcases hr with ⟨rfl, hno⟩ | ⟨m, hst, hf, rfl⟩
            · exact ⟨.d (.int (k : Int)), .d .non, by rw [succAt_none hno]; rfl, by rw [succAt_none hno]; exact hf2⟩
            · have hst : StepR s t (Tm.plI q) k m := hst
              refine ite2 (fun _ => ?_) (fun z => absurd (show (!isNonR (.d m.d)) = true by rw [notNon]; rfl) z)
              refine ⟨sl 2 (by omega), sl 2 (by omega), sl' _ (by rw [List.length_map, List.length_append]; omega), .d (.int (k : Int)), .d m.d, ?_, ?_⟩
              · rw [succAt_some hst, ← List.append_assoc, List.map_append (l₂ := [((q, k), m)])]; rfl
              · rw [succAt_some hst]
                intro x hx
                rcases List.mem_append.mp hx with hx | hx
                · exact hf2 x hx
                · rw [List.mem_singleton.mp hx]; exact hf
          · rcases hc with ⟨_, ha⟩ | ⟨hc, m, hst, hf⟩
            · have ha : Tm.at? (Tm.plI q) t = none := ha
              rw [hu] at ha
              cases ha
            · exact ⟨hc, ((q, k), m), mem_succL.mpr ⟨hqm, hk, hst⟩, hf⟩
        · rintro ρ' ⟨x4, x5, rfl, hf2⟩
          have hl : (rng 0 ((((s.map ruleD).length : Nat) : Int)).toNat).length = s.length := by rw [rng_length, hsl]; omega
          rw [hl] at hf2 ⊢
          refine ⟨.d (plD q), x4, x5, by rw [take_snoc hq, succL_snoc], ?_⟩
          rw [take_snoc hq, succL_snoc]
          intro x hx
          rcases List.mem_append.mp hx with hx | hx
          · exact hfew x hx
          · exact hf2 x hx
    · obtain ⟨_, ha⟩ := hc
      have ha : Tm.at? (Tm.plI q) t = none := ha
      rw [hu] at ha
      cases ha
  · rintro ρ' ⟨x3, x4, x5, rfl, hfew⟩
    rw [List.length_map, List.take_length] at hfew ⊢
    exact ⟨rfl, hfew⟩
theorem rd__law_is_large (t : Tm) (h : ct__law_is_large.pre t) : ds__law_is_large (endsOf (ct__law_is_large.post t) noE) (slots [.d t.d] 1) := by
  obtain ⟨h1, h2⟩ : t.depth ≤ 100 ∧ t.size ≤ 10000 := h
  refine ⟨t, rfl, ⟨h1, h2⟩, fun r er => ?_, fun _ h => h⟩
  subst er
  show (match (R.d (.bl (decide ((400 : Int) < (t.size : Nat))))) with | .d (.bl true) => _ | .d (.bl false) => _ | _ => False)
  by_cases c1 : 400 < t.size
  · rw [decide_eq_true (by omega : (400 : Int) < (t.size : Nat))]
    exact ⟨true, rfl, fun _ z => by have := z.1; omega, fun _ => rfl⟩
  · rw [decide_eq_false (by omega : ¬ (400 : Int) < (t.size : Nat))]
    refine ⟨t, rfl, ⟨h1, h2⟩, fun r er => ?_, fun _ h => h⟩
    subst er
    refine ⟨decide ((40 : Int) < (t.depth : Nat)), rfl, ?_⟩
    rw [decide_eq_true_iff]
    constructor
    · intro z f; have := f.2; omega
    · intro z
      have : ¬ t.depth ≤ 40 := fun y => z ⟨by omega, y⟩
      omega
end PL

namespace PL
open PySem PySem.Spec PyProof.Rows L2
theorem rd__law_steps (y : Sys × Tm) (h : ct__law_steps.pre y) : ds__law_steps (endsOf (ct__law_steps.post y) noE) (slots [.d (sysD y.1), .d y.2.d] 7) := by
  obtain ⟨s, t⟩ := y
  obtain ⟨hs, hm⟩ : SysOk s 15 4 ∧ Mid t := h
  have tz := hm.2.1.1
  have sl10 := hs.len
  have hpl := Tm.places_length t
  have hdp := hm.2.2
  refine ⟨Nat.zero_le _, ?_⟩
  refine ⟨t, rfl, ⟨by show t.depth ≤ 40; omega, by show t.size ≤ 10000; omega⟩, fun r er => ?_, fun _ h => h⟩
  subst er
  refine ⟨fun i ρ => ∃ x3 x4 x5 x6, ρ = [.d (sysD s), .d t.d, .o (.lst ((succL s t (t.places.take i)).map sucD)), x3, x4, x5, x6], ⟨.any, .any, .any, .any, rfl⟩, ?_, ?_⟩
  · rintro i x ρ' hx ⟨x3, x4, x5, x6, rfl⟩
    obtain ⟨q, hq, rfl⟩ := map_get hx
    have hqm := mem_get hq
    obtain ⟨u, hu⟩ := Tm.places_at t q hqm
    have hql := Tm.places_len t q hqm
    have hpI : (Tm.plI q).length = q.length := by unfold Tm.plI; rw [List.length_map]
    have hcnt : (succL s t (t.places.take i)).length ≤ 4000 := by
      have := succL_len s t sl10 (t.places.take i)
      have h2 : (t.places.take i).length ≤ t.places.length := by rw [List.length_take]; omega
      omega
    have su := hm.part hu
    have uz := (Tm.at?_size _ t u hu).1
    refine ⟨(t, Tm.plI q), by rw [plD_eq]; rfl, by show t.size ≤ 10000; omega, fun r er => ?_, fun _ h => h⟩
    have er : r = .d (match Tm.at? (Tm.plI q) t with | some u => u.d | none => .non) := er
    rw [hu] at er
    subst er
    have hsl : (s.map ruleD).length = s.length := List.length_map _
    show -(2 ^ 62) ≤ (((s.map ruleD).length : Nat) : Int) ∧ _
    refine ⟨by omega, by omega, ?_⟩
    refine ⟨fun k ρ => ∃ x5 x6, ρ = [.d (sysD s), .d t.d, .o (.lst ((succL s t (t.places.take i) ++ succAt s t q k).map sucD)), .d (plD q), .d u.d, x5, x6], ⟨x5, x6, ?_⟩, ?_, ?_⟩
    · show _ = [_, _, A.o (.lst ((succL s t (t.places.take i) ++ []).map sucD)), _, _, _, _]
      rw [List.append_nil]
      rfl
    · rintro k x ρ' hx ⟨x5, x6, rfl⟩
      obtain ⟨hk, rfl⟩ := rng_get hx
      have hk : k < s.length := by
        have hk : k < ((((s.map ruleD).length : Nat) : Int)).toNat := hk
        omega
      have hal := succAt_len s t q k
      obtain ⟨l, r, hlr, hg⟩ := ruleD_get hk
      obtain ⟨sl1, sr, r2, r3, lv⟩ := hs.rule hlr
      show match atI (s.map ruleD) (k : Int) with | some z => _ | none => False
      rw [atI_get hg]
      refine ⟨(l, u), rfl, ⟨sl1, su⟩, fun r' hr => ?_, fun _ h => h⟩
      rcases hr with ⟨tb, rfl, mt⟩ | ⟨rfl, mt⟩
      · have mt : Mat tb l u := mt
        have tt := mt.tbl su
        obtain ⟨m, hput, _⟩ := Tm.put?_at (Tm.plI q) t u (r.sub (lk tb)) hu
        have hst := StepR.of_mat hlr hu mt hput
        have hup := Tm.size_pos u
        have hud := Tm.depth_pos u
        have gz := fun x => tt.lk (by omega : 1 ≤ u.size) hud x
        have z1 := Tm.size_sub_le (g := lk tb) (n := u.size) hup r fun x _ => (gz x).1
        have z2 : u.size * r.size ≤ 400 * 15 := Nat.mul_le_mul (by omega) r2
        -- the left side is no variable
        show match atI (s.map ruleD) (k : Int) with | some z => _ | none => False
        rw [atI_get hg]
        cases l with
        | var y => cases lv
        | app f ts =>
          refine ⟨sl 2 (by omega), ?_⟩
          show match atI (s.map ruleD) (k : Int) with | some z => _ | none => False
          rw [atI_get hg]
          refine ⟨(tb, r), rfl, ⟨by show r.depth ≤ 40; omega, by show r.size ≤ 10000; omega⟩, fun r' er => ?_, fun _ h => h⟩
          have er : r' = .d (r.sub (lk tb)).d := er
          subst er
          refine ⟨(t, Tm.plI q, r.sub (lk tb)), by rw [plD_eq]; rfl, ⟨by show (Tm.plI q).length < 40; omega, by show t.size ≤ 10000; omega, u, hu⟩, fun r' hr => ?_, fun _ h => h⟩
          obtain ⟨m', hm', rfl⟩ := hr
          have hm' : Tm.put? (Tm.plI q) t (r.sub (lk tb)) = some m' := hm'
          rw [hput] at hm'
          cases hm'
          refine ⟨sl 2 (by omega), sl' _ (by rw [List.length_map, List.length_append]; omega), .d (.int (k : Int)), .o (.dk (tblD tb)), ?_⟩
          rw [succAt_some hst, ← List.append_assoc, List.map_append (l₂ := [((q, k), m)])]; rfl
      · have hno := StepR.no_mat hlr hu mt
        exact ⟨.d (.int (k : Int)), .d .non, by rw [succAt_none hno]; rfl⟩
    · rintro ρ' ⟨x5, x6, rfl⟩
      have hl : (rng 0 ((((s.map ruleD).length : Nat) : Int)).toNat).length = s.length := by rw [rng_length, hsl]; omega
      rw [hl]
      exact ⟨.d (plD q), .d u.d, x5, x6, by rw [take_snoc hq, succL_snoc]⟩
  · rintro ρ' ⟨x3, x4, x5, x6, rfl⟩
    rw [List.length_map, List.take_length]
    rfl
theorem pow_even {n : Nat} (h : n ≠ 0) : ∃ q, 2 ^ n = 2 * q := by
  cases n with
  | zero => exact absurd rfl h
  | succ n => exact ⟨2 ^ n, by rw [Nat.pow_succ, Nat.mul_comm]⟩
theorem rd__law_bulk (n : Nat) (y : Nat) (h : (ct__law_bulk (n + 1)).pre y) : ds__law_bulk n (endsOf ((ct__law_bulk (n + 1)).post y) noE) (slots [.d (.int y)] 2) := by
  obtain ⟨h1, h2, h3⟩ : y % 2 = 1 ∧ y + 1 ≤ 2 ^ (n + 1) ∧ y ≤ 1000 := h
  rw [Nat.pow_succ] at h2
  refine ite2 (fun e => ?_) (fun e => ?_)
  · have e : (y : Int) < 3 := of_decide_eq_true e
    have e : y = 1 := by omega
    subst e
    refine ⟨sl 0 (by omega), sl 2 (by omega), .app "a" [], rfl, rfl, by decide +kernel, rfl, fun j hj => ?_, rfl, fun z hz => ?_⟩
    · show (Tm.app "a" []).depth ≤ j
      have : (Tm.app "a" []).depth = 1 := rfl
      cases j with
      | zero => simp at hj
      | succ j => omega
    · rw [Tm.words, Tm.wordss, List.mem_singleton] at hz; exact .inl hz
  · have e : ¬ (y : Int) < 3 := fun z => e (decide_eq_true z)
    have hn : n ≠ 0 := fun z => by subst z; simp at h2; omega
    obtain ⟨P, hP⟩ := pow_even hn
    -- what the two parts give
    have done : ∀ a b : Nat, a % 2 = 1 → b % 2 = 1 → a + b + 1 = y → a ≤ y / 2 + 1 → b ≤ y / 2 + 1 → (y % 4 = 3 → a ≤ y / 2 ∧ b ≤ y / 2) → bulkF (n + 1) y = .app "g" [bulkF n a, bulkF n b] → ∀ F : R → Prop, (∀ r, (ct__law_bulk (n + 1)).post y r → F r) →
        (dTup (aCons (dC (.str "g")) (aCons (dTup (aCons (dCall (ct__law_bulk n) (aCons (dVar 1) aNil)) (aCons (dCall (ct__law_bulk n) (aCons (dOp (fI0 fun i j => .int (i - j)) (dOp (fI0 fun i j => .int (i - j)) (dVar 0) (dC (.int 1))) (dVar 1)) aNil)) aNil))) aNil))) [.d (.int y), .d (.int a)] F noE := by
      intro a b ha hb hab la lb l3 hbf F hF
      have bound : ∀ (c j : Nat), c % 2 = 1 → (c ≤ y / 2 + 1) → (y % 4 = 3 → c ≤ y / 2) → y + 1 ≤ 2 ^ (j + 1) → c + 1 ≤ 2 ^ j := fun c j hc h1' h2' hj => by
        rw [Nat.pow_succ] at hj
        cases j with
        | zero => simp at hj; omega
        | succ j =>
          rw [Nat.pow_succ] at hj ⊢
          have : y % 4 = 1 ∨ y % 4 = 3 := by omega
          rcases this with z | z
          · omega
          · have := h2' z; omega
      have hy2 : y + 1 ≤ 2 ^ (n + 1) := by rw [Nat.pow_succ]; exact h2
      refine ⟨a, rfl, ⟨ha, bound a n ha la (fun z => (l3 z).1) hy2, by omega⟩, fun r hr => ?_, fun _ h => h⟩
      obtain ⟨ta, ea, rfl, a1, a2, a3, a4, a5⟩ := hr
      refine ⟨b, ?_, ⟨hb, bound b n hb lb (fun z => (l3 z).2) hy2, by omega⟩, fun r hr => ?_, fun _ h => h⟩
      · show [R.d (.int ((y : Int) - 1 - (a : Int)))] = [R.d (.int (b : Nat))]
        rw [show (y : Int) - 1 - (a : Int) = ((b : Nat) : Int) by omega]
      obtain ⟨tb, eb, rfl, b1, b2, b3, b4, b5⟩ := hr
      have a2 : ta.size = a := a2
      have b2 : tb.size = b := b2
      refine ⟨sl 2 (by omega), sl 2 (by omega), hF _ ⟨.app "g" [ta, tb], by rw [hbf, ea, eb], rfl, ?_, ?_, fun j hj => ?_, ?_, fun z hz => ?_⟩⟩
      · rw [Tm.ok, Tm.oks, Tm.oks, Tm.oks, a1, b1]; decide +kernel
      · show (Tm.app "g" [ta, tb]).size = y
        rw [Tm.size, Tm.sizes, Tm.sizes, Tm.sizes]; omega
      · show (Tm.app "g" [ta, tb]).depth ≤ j
        cases j with
        | zero => simp at hj; omega
        | succ j =>
          have := a3 j (bound a j ha la (fun z => (l3 z).1) hj)
          have := b3 j (bound b j hb lb (fun z => (l3 z).2) hj)
          rw [Tm.depth, Tm.depths, Tm.depths, Tm.depths]; omega
      · rw [Tm.occ_app, Tm.occs_cons, Tm.occs_cons, Tm.occs_nil, a4, b4]; rfl
      · rw [Tm.words, Tm.wordss, Tm.wordss, Tm.wordss, List.append_nil, List.mem_cons, List.mem_append] at hz
        rcases hz with z | z | z
        · exact .inr z
        · exact a5 _ z
        · exact b5 _ z
    refine ⟨⟨by omega, by omega⟩, by omega, shaped_int _, shaped_int _, ite2 (fun e => ?_) (fun e => ?_)⟩
    · rw [eqv_int] at e
      have e : ((y : Int) - 1) / 2 % 2 = 0 := of_decide_eq_true e
      have ea : ((y : Int) - 1) / 2 - 1 = ((y / 2 - 1 : Nat) : Int) := by omega
      have f := done (y / 2 - 1) (y / 2 + 1) (by omega) (by omega) (by omega) (by omega) (by omega) (fun z => by omega) (by rw [bulkF, if_neg (by omega), if_pos (by omega), show (y - 1) / 2 - 1 = y / 2 - 1 by omega, show y - 1 - (y / 2 - 1) = y / 2 + 1 by omega]) _ fun r h => h
      rw [← ea] at f
      exact f
    · rw [eqv_int] at e
      have e : ¬ ((y : Int) - 1) / 2 % 2 = 0 := fun z => e (decide_eq_true z)
      have ea : ((y : Int) - 1) / 2 = ((y / 2 : Nat) : Int) := by omega
      have f := done (y / 2) (y / 2) (by omega) (by omega) (by omega) (by omega) (by omega) (fun z => by omega) (by rw [bulkF, if_neg (by omega), if_neg (by omega), show (y - 1) / 2 = y / 2 by omega, show y - 1 - y / 2 = y / 2 by omega]) _ fun r h => h
      rw [← ea] at f
      exact f
theorem rd__law_doubled (n : Nat) (y : Nat) (h : (ct__law_doubled (n + 1)).pre y) : ds__law_doubled n (endsOf ((ct__law_doubled (n + 1)).post y) noE) (slots [.d (.int y)] 1) := by
  have h : y < n + 1 := h
  refine ⟨shaped_int _, shaped_int _, ite2 (fun e => ?_) (fun e => ?_)⟩
  · rw [eqv_int] at e
    have e : (y : Int) = 0 := of_decide_eq_true e
    have e : y = 0 := by omega
    subst e
    exact rfl
  · rw [eqv_int] at e
    have e : ¬ (y : Int) = 0 := fun z => e (decide_eq_true z)
    obtain ⟨k, rfl⟩ : ∃ k, y = k + 1 := ⟨y - 1, by omega⟩
    have ek : (((k + 1 : Nat) : Int) - 1) = ((k : Nat) : Int) := by omega
    refine ⟨k, ?_, show k < n by omega, fun r er => ?_, fun _ h => h⟩
    · show [R.d (.int (((k + 1 : Nat) : Int) - 1))] = [R.d (.int (k : Nat))]
      rw [ek]
    subst er
    refine ⟨k, ?_, show k < n by omega, fun r er => ?_, fun _ h => h⟩
    · show [R.d (.int (((k + 1 : Nat) : Int) - 1))] = [R.d (.int (k : Nat))]
      rw [ek]
    subst er
    exact ⟨sl 2 (by omega), sl 2 (by omega), rfl⟩
end PL

namespace PL
open PySem PySem.Spec PyProof.Rows L2
theorem rd__law_raises (K : PySem.W.Frag) (c cL : Addr) (hex : PySem.W.exmOne K (.ref cL) (.ref cL) = some true) (y : Nat × Sys × Tm × (List Int × Int)) (h : ct__law_raises.pre y) : ds__law_raises K c cL (endsOf (ct__law_raises.post y) noE) (slots [.d (.int y.1), .d (sysD y.2.1), .d y.2.2.1.d, .d (stD y.2.2.2)] 4) := by
  obtain ⟨w, s, t, q⟩ := y
  obtain ⟨hs, hm, hd, hq, m, hst, uniq⟩ : SysOk s 15 4 ∧ Mid t ∧ t.depth + 4 ≤ 32 ∧ q = ([], 0) ∧ ∃ m, StepR s t [] 0 m ∧ ∀ p k e, StepR s t p k e → e = m := h
  subst hq
  have yes : ¬ Few m → ct__law_raises.post (w, s, t, ([], 0)) (.d (.bl true)) := fun z => ⟨true, m, rfl, hst, fun _ => z, fun _ => rfl⟩
  have no : Few m → ct__law_raises.post (w, s, t, ([], 0)) (.d (.bl false)) := fun z => ⟨false, m, rfl, hst, (fun y => by cases y), fun y => absurd z y⟩
  have raised : ∀ (c' : Addr), c' = cL → ¬ Few m → ∃ b, PySem.W.exmOne K (.ref c') (.ref cL) = some b ∧ (b = true → ct__law_raises.post (w, s, t, ([], 0)) (.d (.bl true))) ∧ (b = false → False) := fun c' e z => ⟨true, by rw [e]; exact hex, fun _ => yes z, fun y => by cases y⟩
  refine ⟨shaped_int _, shaped_int _, ite2 (fun e => ?_) (fun e => ⟨shaped_int _, shaped_int _, ite2 (fun e2 => ?_) (fun e2 => ?_)⟩)⟩
  · refine ⟨(s, t, [], 0), rfl, ⟨hs, hm, by show 0 ≤ 1000; omega⟩, fun r hr => ?_, fun c' hc => ?_⟩
    · obtain ⟨m', _, hs', hf, rfl⟩ := hr
      have e := uniq _ _ _ hs'
      subst e
      exact no hf
    · rcases hc with ⟨_, hno⟩ | ⟨hc, m', _, hs', hf⟩
      · exact absurd ⟨m, by show (0 : Int) ≤ 0; omega, hst⟩ hno
      · have e := uniq _ _ _ hs'
        subst e
        exact raised c' hc hf
  · refine ⟨sl 1 (by omega), (s, t, [([], 0)]), rfl, ⟨hs, hm.1, hm.2.1, by show t.depth + 4 * 1 ≤ 32; omega, fun q hq => by rw [List.mem_singleton.mp hq]; show 0 ≤ 1000; omega⟩, fun r hr => ?_, fun c' hc => ?_⟩
    · obtain ⟨m', hw, rfl⟩ := hr
      have hw : Way s t [([], 0)] m' := hw
      cases hw with
      | cons a b f z =>
        have e := uniq _ _ _ b
        subst e
        exact no f
    · have one : ∀ {a b : List (List Int × Int)} {p : List Int} {k : Int}, [(([] : List Int), (0 : Int))] = a ++ (p, k) :: b → a = [] := fun {a b p k} e => by
        cases a with
        | nil => rfl
        | cons x r => simp at e
      rcases hc with ⟨_, a, p, k, b, m', e, hw, hno⟩ | ⟨hc, a, p, k, b, m', e', e, hw, _, hs', hf⟩
      · have e : [(([] : List Int), (0 : Int))] = a ++ (p, k) :: b := e
        have ea := one e
        subst ea
        cases e
        cases hw
        exact absurd ⟨m, by omega, hst⟩ hno
      · have e : [(([] : List Int), (0 : Int))] = a ++ (p, k) :: b := e
        have ea := one e
        subst ea
        cases hw
        have e := uniq _ _ _ hs'
        subst e
        exact raised c' hc hf
  · refine ⟨(s, t), rfl, ⟨hs, hm⟩, fun r hr => ?_, fun c' hc => ?_⟩
    · obtain ⟨rfl, hf⟩ := hr
      refine no (hf (([], 0), m) (mem_succL.mpr ⟨?_, ?_, hst⟩))
      · show [] ∈ t.places
        rw [Tm.places_args]
        exact List.mem_cons_self
      · obtain ⟨l, r, g, h1, _⟩ := hst
        show 0 < s.length
        rcases Nat.lt_or_ge 0 s.length with z | z
        · exact z
        · rw [List.getElem?_eq_none z] at h1; cases h1
    · obtain ⟨hc, x, hx, hf⟩ := hc
      have e := uniq _ _ _ (mem_succL.mp hx).2.2
      rw [e] at hf
      exact raised c' hc hf
/-! rules drawn -/
theorem termIn7 (ks : List (Str × Nat)) (ns : List Str) (E : Nat) (dp : Nat) : ([R.strm, .b (.lst (symDs ks)), .b (.lst (strDs ns)), .d (.int E), .d (.int dp)] : List R) = (ct__law_term 40).args ⟨ks, ns, E, dp⟩ := rfl
/-- a term drawn over the variables of another one -/
theorem right_ok {ks : List (Str × Nat)} (hk : KindsOk ks) {l t : Tm} (hv : ∀ z ∈ t.vars, z ∈ l.vars ∨ (l.vars = [] ∧ ∀ k ∈ ks, k.2 ≠ 0)) : ∀ x ∈ t.occ, x ∈ l.occ := fun x hx => by
  rcases hv x (Tm.mem_vars.mpr hx) with z | ⟨_, z⟩
  · exact Tm.mem_vars.mp z
  · obtain ⟨k, hk1, hk2⟩ := hk.con
    exact absurd hk2 (z k hk1)
def rows3 : List (List Str) := [["x", "y", "z"], ["x", "x1", "x2"], ["u0", "x", "u1"]]
theorem rows3_ok : ∀ r ∈ rows3, r ≠ [] ∧ r.length = 3 ∧ ∀ x ∈ r, PyData.strOk x = true := by decide +kernel
theorem tail_rule {ks : List (Str × Nat)} (hk : KindsOk ks) (most : Nat) (h1 : 1 ≤ most) (h2 : most ≤ 6) (x3 x5 : A) (l : Tm) (hl : (l.ok = true ∧ l.size ≤ 15 ∧ l.depth ≤ 4) ∧ l.isVar = false) :
    (dRet (dTup (aCons (dVar 4) (aCons (dCall (ct__law_term 40) (aCons (dVar 0) (aCons (dVar 1) (aCons (dCall (ct__law_variables 40) (aCons (dVar 4) aNil)) (aCons (dVar 2) (aCons (dC (.int 4)) aNil)))))) aNil)))) (endsOf (ct__law_rule.post (ks, most)) noE) [.strm, .b (.lst (symDs ks)), .d (.int most), x3, .d l.d, x5] := by
  obtain ⟨⟨lok, lsz, ldp⟩, lv⟩ := hl
  have lvl := Tm.vars_length l
  refine ⟨l, rfl, ⟨by omega, by omega, lok⟩, fun r er => ?_, fun _ h => h⟩
  have er : r = .n (.lst (strDs l.vars)) := er
  subst er
  refine ⟨⟨ks, l.vars, most, 4⟩, termIn7 _ _ _ _, ⟨hk.ok, Tm.vars_ok lok, by have := hk.len; show ks.length ≤ 1000; omega, by show l.vars.length ≤ 1000; omega, h1, by show most ≤ 1000; omega, by show 1 ≤ 4; omega, by show 4 ≤ 40; omega, by show 4 ≤ 40; omega⟩, fun r hr => ?_, fun _ h => h⟩
  obtain ⟨t, rfl, tok, tsz, tdp, _, tv⟩ := hr
  have tsz : t.size ≤ most := tsz
  exact ⟨sl 2 (by omega), (l, t), rfl, ⟨⟨lok, lsz, ldp⟩, ⟨tok, by show t.size ≤ 15; omega, tdp⟩, lv⟩, right_ok hk tv⟩
theorem rd__law_rule (y : List (Str × Nat) × Nat) (h : ct__law_rule.pre y) : ds__law_rule (endsOf (ct__law_rule.post y) noE) (slots [.strm, .b (.lst (symDs y.1)), .d (.int y.2)] 6) := by
  obtain ⟨ks, most⟩ := y
  obtain ⟨hk, h1, h2⟩ : KindsOk ks ∧ 1 ≤ most ∧ most ≤ 6 := h
  have hkl := hk.len
  -- able
  refine ⟨fun i acc => ∃ L : List (Str × Nat), acc = symDs L ∧ L.length ≤ i ∧ ∀ k ∈ L, k ∈ ks, ⟨[], rfl, Nat.zero_le _, fun _ z => by cases z⟩, ?_, ?_⟩
  · rintro i x acc hx ⟨L, rfl, hl, hL⟩
    obtain ⟨⟨f, a⟩, hfa, rfl⟩ := map_get hx
    have hik : i < ks.length := by
      rcases Nat.lt_or_ge i ks.length with z | z
      · exact z
      · rw [List.getElem?_eq_none z] at hfa; cases hfa
    refine ite2 (fun _ => ?_) (fun _ => ⟨L, rfl, by omega, hL⟩)
    refine ⟨sl' _ (by rw [symDs_length]; omega), L ++ [(f, a)], by unfold symDs; rw [List.map_append]; rfl, by rw [List.length_append, List.length_singleton]; omega, fun k hk => ?_⟩
    rcases List.mem_append.mp hk with hk | hk
    · exact hL k hk
    · rw [List.mem_singleton.mp hk]; exact mem_get hfa
  rintro acc ⟨L, rfl, hl, hL⟩
  rw [symDs_length] at hl
  have hl : L.length ≤ ks.length := hl
  -- the left side, over kinds Q
  have left : ∀ Q : List (Str × Nat), (∀ k ∈ Q, k ∈ ks) → Q.length ≤ 8 → ∀ F : R → Prop, (∀ t : Tm, t.ok = true → t.size ≤ 6 → t.depth ≤ 4 → F (.d t.d)) → ∀ r ∈ rows3, ∃ x : (ct__law_term 40).α, ([R.strm, .b (.lst (symDs Q)), .b (.lst (strDs r)), .d (.int most), .d (.int 4)] : List R) = (ct__law_term 40).args x ∧ (ct__law_term 40).pre x ∧ (∀ r', (ct__law_term 40).post x r' → F r') ∧ ∀ c, ¬ (ct__law_term 40).exc x c := fun Q hQ hQl F hF r hr => by
    obtain ⟨r0, r1, r2⟩ := rows3_ok r hr
    refine ⟨⟨Q, r, most, 4⟩, rfl, ⟨fun k hk' => hk.ok k (hQ k hk'), r2, by show Q.length ≤ 1000; omega, by show r.length ≤ 1000; omega, h1, by show most ≤ 1000; omega, by show 1 ≤ 4; omega, by show 4 ≤ 40; omega, by show 4 ≤ 40; omega⟩, fun r' hr' => ?_, fun _ h => h⟩
    obtain ⟨t, rfl, tok, tsz, tdp, _⟩ := hr'
    exact hF t tok (Nat.le_trans tsz h2) tdp
  have fin : ∀ t : Tm, t.ok = true → t.size ≤ 6 → t.depth ≤ 4 → (dSeq (dIfS (tdT (dIsi isStr (dVar 4))) (dSet 4 (dTup (aCons (dOp fIx (dOp fIx (dVar 1) (dC (.int 0))) (dC (.int 0))) (aCons (dCB fTuple (aCons (dRep (dLst (aCons (dC (.str "x")) aNil)) (dOp fIx (dOp fIx (dVar 1) (dC (.int 0))) (dC (.int 1)))) aNil)) aNil)))) dNext)
    (dRet (dTup (aCons (dVar 4) (aCons (dCall (ct__law_term 40) (aCons (dVar 0) (aCons (dVar 1) (aCons (dCall (ct__law_variables 40) (aCons (dVar 4) aNil)) (aCons (dVar 2) (aCons (dC (.int 4)) aNil)))))) aNil))))) (endsOf (ct__law_rule.post (ks, most)) noE) [.strm, .b (.lst (symDs ks)), .d (.int most), .o (.lst (symDs L)), .d t.d, .any] := by
    intro t tok tsz tdp
    cases t with
    | app f ts => exact tail_rule hk most h1 h2 _ _ (.app f ts) ⟨⟨tok, by omega, tdp⟩, rfl⟩
    | var v =>
      obtain ⟨⟨f, a⟩, hka⟩ : ∃ k, ks[0]? = some k := by
        cases hks : ks with
        | nil => exact absurd hks hk.ne
        | cons k r => exact ⟨k, rfl⟩
      obtain ⟨fok, ha3⟩ := hk.ok _ (mem_get hka)
      have fok : PyData.strOk f = true := fok
      have ha3 : a ≤ 3 := ha3
      have hgd : (symDs ks)[0]? = some (symD (f, a)) := by unfold symDs; rw [List.getElem?_map, hka]; rfl
      have hat : atI (symDs ks) 0 = some (symD (f, a)) := atI_get (i := 0) hgd
      show match atI (symDs ks) 0 with | some z => _ | none => False
      rw [hat]
      show List.length _ ≤ sizeLine ∧ _
      refine ⟨sl 1 (by show 1 ≤ 1000000; omega), ?_⟩
      show match atI (symDs ks) 0 with | some z => _ | none => False
      rw [hat]
      refine ⟨by show -(2 ^ 63) ≤ (a : Int); omega, by show (a : Int) < 2 ^ 63; omega, sl _ (by show 1 * ((a : Int)).toNat ≤ 1000000; omega), sl 2 (by omega), ?_⟩
      have rep : ∀ n : Nat, (List.replicate n [D.str "x"]).flatten = Tm.ds (List.replicate n (.var "x")) := fun n => by
        induction n with
        | zero => rfl
        | succ n ih => rw [List.replicate_succ, List.replicate_succ, List.flatten_cons, ih, Tm.ds]; rfl
      have e : D.tup [.str f, .tup (List.replicate ((a : Int)).toNat [D.str "x"]).flatten] = (Tm.app f (List.replicate a (.var "x"))).d := by
        rw [rep, show ((a : Int)).toNat = a by omega, Tm.d]
      have szs : ∀ n : Nat, Tm.sizes (List.replicate n (.var "x")) = n ∧ Tm.depths (List.replicate n (.var "x")) ≤ 1 ∧ Tm.oks (List.replicate n (.var "x")) = true := fun n => by
        induction n with
        | zero => exact ⟨rfl, by decide, rfl⟩
        | succ n ih =>
          rw [List.replicate_succ, Tm.sizes, Tm.depths, Tm.oks, Tm.size, Tm.depth, Tm.ok, ih.1, ih.2.2]
          refine ⟨by omega, by have := ih.2.1; omega, by decide +kernel⟩
      obtain ⟨q1, q2, q3⟩ := szs a
      have g := tail_rule hk most h1 h2 (.o (.lst (symDs L))) .any (.app f (List.replicate a (.var "x"))) ⟨⟨by rw [Tm.ok, fok, q3]; rfl, by rw [Tm.size, q1]; omega, by rw [Tm.depth]; omega⟩, rfl⟩
      rw [← e] at g
      exact g
  have hsub : ∀ k ∈ ks, k ∈ ks := fun _ h => h
  refine ite2 (fun _ => ?_) (fun _ => ?_)
  · refine ⟨(4 : Int), rfl, ⟨by omega, by omega⟩, fun r hr => ?_, fun _ h => h⟩
    obtain ⟨d, _, _, rfl⟩ := hr
    refine ite2 (fun _ => ?_) (fun _ => ?_)
    · refine ⟨sl 3 (by omega), sl 3 (by omega), sl 3 (by omega), sl 3 (by omega), rows3.map fun r => .lst (strDs r), rfl, ⟨by decide, by decide⟩, fun r hr => ?_, fun _ h => h⟩
      obtain ⟨x, hx, rfl⟩ := hr
      obtain ⟨w, hw, rfl⟩ := List.mem_map.mp hx
      exact left L hL (by omega) _ (fun t a b c => fin t a b c) w hw
    · refine ⟨sl 3 (by omega), sl 3 (by omega), sl 3 (by omega), sl 3 (by omega), rows3.map fun r => .lst (strDs r), rfl, ⟨by decide, by decide⟩, fun r hr => ?_, fun _ h => h⟩
      obtain ⟨x, hx, rfl⟩ := hr
      obtain ⟨w, hw, rfl⟩ := List.mem_map.mp hx
      exact left ks hsub hkl _ (fun t a b c => fin t a b c) w hw
  · refine ⟨sl 3 (by omega), sl 3 (by omega), sl 3 (by omega), sl 3 (by omega), rows3.map fun r => .lst (strDs r), rfl, ⟨by decide, by decide⟩, fun r hr => ?_, fun _ h => h⟩
    obtain ⟨x, hx, rfl⟩ := hr
    obtain ⟨w, hw, rfl⟩ := List.mem_map.mp hx
    exact left ks hsub hkl _ (fun t a b c => fin t a b c) w hw
end PL

namespace PL
open PySem PySem.Spec PyProof.Rows L2
theorem rd__law_system (y : List (Str × Nat) × Nat × Nat) (h : ct__law_system.pre y) : ds__law_system (endsOf (ct__law_system.post y) noE) (slots [.strm, .b (.lst (symDs y.1)), .d (.int y.2.1), .d (.int y.2.2)] 8) := by
  obtain ⟨ks, many, most⟩ := y
  obtain ⟨hk, hm, h1, h2⟩ : KindsOk ks ∧ many ≤ 5 ∧ 1 ≤ most ∧ most ≤ 6 := h
  have hkl := hk.len
  show -(2 ^ 62) ≤ ((many : Nat) : Int) ∧ _
  refine ⟨by omega, by show ((many : Nat) : Int) < 2 ^ 62; omega, ?_⟩
  refine ⟨fun i acc => ∃ s : Sys, acc = s.map ruleD ∧ s.length = i ∧ ∀ q ∈ s, RuleOk q, ⟨[], rfl, rfl, fun _ z => by cases z⟩, ?_, ?_⟩
  · rintro i x acc hx ⟨s, rfl, hl, hs⟩
    obtain ⟨hi, rfl⟩ := rng_get hx
    have hi : i < ((many : Nat) : Int).toNat := hi
    refine ⟨(ks, most), rfl, ⟨hk, h1, h2⟩, fun r hr => ?_, fun _ h => h⟩
    obtain ⟨q, rfl, hq⟩ := hr
    refine ⟨sl' _ (by rw [List.length_map]; omega), s ++ [q], by rw [List.map_append]; rfl, by rw [List.length_append, hl]; rfl, fun p hp => ?_⟩
    rcases List.mem_append.mp hp with hp | hp
    · exact hs p hp
    · rw [List.mem_singleton.mp hp]; exact hq
  rintro acc ⟨s, rfl, hl, hs⟩
  have hl : s.length = many := by rw [hl, rng_length]; show ((many : Nat) : Int).toNat = many; omega
  have keep : ∀ (x5 x6 : A), (dRet (dCB fTuple (aCons (dVar 4) aNil))) (endsOf (ct__law_system.post (ks, many, most)) noE) [.strm, .b (.lst (symDs ks)), .d (.int many), .d (.int most), .o (.lst (s.map ruleD)), x5, x6, .any] := fun x5 x6 => ⟨s, rfl, hl, hs⟩
  refine ite2 (fun e => ?_) (fun _ => ⟨s, rfl, hl, hs⟩)
  have e : (1 : Int) < many := of_decide_eq_true e
  refine ⟨(4 : Int), rfl, ⟨by omega, by omega⟩, fun r hr => ?_, fun _ h => h⟩
  obtain ⟨d, _, _, rfl⟩ := hr
  refine ⟨shaped_int _, shaped_int _, ite2 (fun _ => ?_) (fun _ => ⟨s, rfl, hl, hs⟩)⟩
  obtain ⟨q0, hq0⟩ : ∃ q, s[0]? = some q := ⟨s[0]'(by omega), List.getElem?_eq_getElem (by omega)⟩
  have rq0 := hs _ (mem_get hq0)
  obtain ⟨⟨⟨lok, lsz, ldp⟩, rk, lv⟩, rv⟩ := id rq0
  have lvl := Tm.vars_length q0.1
  have hgd : (s.map ruleD)[0]? = some (ruleD q0) := by rw [List.getElem?_map, hq0]; rfl
  have hat : atI (s.map ruleD) 0 = some (ruleD q0) := atI_get (i := 0) hgd
  show match atI (s.map ruleD) 0 with | some z => _ | none => False
  rw [hat]
  refine ⟨rfl, ?_⟩
  refine ⟨sl 2 (by omega), q0.1, rfl, ⟨by omega, by omega, lok⟩, fun r er => ?_, fun _ h => h⟩
  have er : r = .n (.lst (strDs q0.1.vars)) := er
  subst er
  refine ⟨⟨ks, q0.1.vars, most, 4⟩, termIn7 _ _ _ _, ⟨hk.ok, Tm.vars_ok lok, by show ks.length ≤ 1000; omega, by show q0.1.vars.length ≤ 1000; omega, h1, by show most ≤ 1000; omega, by show 1 ≤ 4; omega, by show 4 ≤ 40; omega, by show 4 ≤ 40; omega⟩, fun r hr => ?_, fun _ h => h⟩
  obtain ⟨t, rfl, tok, tsz, tdp, _, tv⟩ := hr
  have tsz : t.size ≤ most := tsz
  have rt : RuleOk (q0.1, t) := ⟨⟨⟨lok, lsz, ldp⟩, ⟨tok, by show t.size ≤ 15; omega, tdp⟩, lv⟩, right_ok hk tv⟩
  refine ⟨sl 2 (by omega), sl 2 (by omega), [ruleD q0, ruleD (q0.1, t)], rfl, ⟨by simp, by show 2 ≤ 1000000; omega⟩, fun r hr => ?_, fun _ h => h⟩
  obtain ⟨x, hx, rfl⟩ := hr
  obtain ⟨q', hq', rfl⟩ : ∃ q', RuleOk q' ∧ x = ruleD q' := by
    rcases List.mem_cons.mp hx with z | hx
    · exact ⟨q0, rq0, z⟩
    · exact ⟨(q0.1, t), rt, List.mem_singleton.mp hx⟩
  have hix : ixN (s.map ruleD).length ((many : Int) - 1) = some (many - 1) := by
    rw [show (many : Int) - 1 = ((many - 1 : Nat) : Int) by omega]
    unfold ixN
    rw [List.length_map, if_pos (by omega), if_pos (by omega)]
    rfl
  show match ixN (s.map ruleD).length ((many : Int) - 1) with | some k => _ | none => False
  rw [hix]
  refine ⟨s.set (many - 1) q', ?_, by show (s.set (many - 1) q').length = many; rw [List.length_set]; exact hl, fun p hp => ?_⟩
  · show R.d (.tup ((s.map ruleD).set (many - 1) (ruleD q'))) = .d (sysD (s.set (many - 1) q'))
    unfold sysD
    rw [List.map_set]
  · rcases List.mem_or_eq_of_mem_set hp with hp | hp
    · exact hs p hp
    · subst hp; exact hq'
end PL

namespace PL
open PySem PySem.Spec PyProof.Rows L2
theorem Tm.at?_words : ∀ (p : List Int) (t : Tm) (f : Str) (ts : List Tm), Tm.at? p t = some (.app f ts) → f ∈ t.words
  | [], t, f, ts, h => by cases h; rw [Tm.words]; exact List.mem_cons_self
  | j :: p, t, f, ts, h => by
    rw [Tm.at?] at h
    by_cases hj : 0 ≤ j
    · rw [if_pos hj] at h
      cases t with
      | var x => simp [Tm.args] at h
      | app g us =>
        cases z : us[j.toNat]? with
        | none => rw [show (Tm.app g us).args[j.toNat]? = none from z] at h; cases h
        | some w =>
          rw [show (Tm.app g us).args[j.toNat]? = some w from z] at h
          have ih := Tm.at?_words p w f ts h
          rw [Tm.words]
          refine List.mem_cons_of_mem _ ?_
          have : ∀ (l : List Tm), w ∈ l → f ∈ Tm.wordss l := fun l => by
            induction l with
            | nil => intro z; cases z
            | cons a r ih2 =>
              intro hm
              rw [Tm.wordss, List.mem_append]
              rcases List.mem_cons.mp hm with e | hm
              · subst e; exact .inl ih
              · exact .inr (ih2 hm)
          exact this us (Tm.mem_of_get z)
    · rw [if_neg hj] at h; cases h
def wideS : Sys := [(.app "f" [.var "x"], dbl 3)]
theorem wide_ok : SysOk wideS 15 4 := by
  refine ⟨by decide, fun q hq => ?_⟩
  rw [List.mem_singleton.mp hq]
  exact ⟨⟨by decide +kernel, by decide, by decide⟩, ⟨by decide +kernel, by decide, by decide⟩, rfl⟩
theorem dbl_measures (b : Tm) : ((dbl 3).sub (lk [("x", b)])).size = 8 * b.size + 7 ∧ ((dbl 3).sub (lk [("x", b)])).depth = b.depth + 3 ∧ (b.ok = true → ((dbl 3).sub (lk [("x", b)])).ok = true) := by
  have e : (Tm.var "x").sub (lk [("x", b)]) = b := by
    rw [Tm.sub]
    rfl
  have step : ∀ k, (dbl (k + 1)).sub (lk [("x", b)]) = .app "g" [(dbl k).sub (lk [("x", b)]), (dbl k).sub (lk [("x", b)])] := fun k => by rw [dbl, Tm.sub, Tm.subs, Tm.subs, Tm.subs]
  have e0 : (dbl 0).sub (lk [("x", b)]) = b := e
  have m : ∀ t : Tm, (Tm.app "g" [t, t]).size = 2 * t.size + 1 ∧ (Tm.app "g" [t, t]).depth = t.depth + 1 ∧ (t.ok = true → (Tm.app "g" [t, t]).ok = true) := fun t => by
    refine ⟨?_, ?_, fun h => ?_⟩
    · rw [Tm.size, Tm.sizes, Tm.sizes, Tm.sizes]; omega
    · rw [Tm.depth, Tm.depths, Tm.depths, Tm.depths]; omega
    · rw [Tm.ok, Tm.oks, Tm.oks, Tm.oks, h]; decide +kernel
  obtain ⟨a1, a2, a3⟩ := m b
  obtain ⟨b1, b2, b3⟩ := m (.app "g" [b, b])
  obtain ⟨c1, c2, c3⟩ := m (.app "g" [.app "g" [b, b], .app "g" [b, b]])
  rw [step, step, step, e0]
  exact ⟨by omega, by omega, fun h => c3 (b3 (a3 h))⟩
theorem rd__law_at_the_end (c cL : Addr) (y : Unit) (h : ct__law_at_the_end.pre y) : ds__law_at_the_end c cL (endsOf (ct__law_at_the_end.post y) noE) (slots [.strm] 6) := by
  refine ⟨sl 1 (by omega), sl 2 (by omega), (3 : Nat), rfl, by show 3 < 40; omega, fun r er => ?_, fun _ h => h⟩
  have er : r = .d (dbl 3).d := er
  subst er
  refine ⟨sl 2 (by omega), sl 1 (by omega), ?_⟩
  refine ⟨(5 : Int), rfl, ⟨by omega, by omega⟩, fun r hr => ?_, fun _ h => h⟩
  obtain ⟨d, d0, d1, rfl⟩ := hr
  obtain ⟨dn, rfl⟩ : ∃ dn : Nat, d = (dn : Int) := ⟨d.toNat, by omega⟩
  have d1 : (dn : Int) < 5 := d1
  refine ⟨.inl ⟨by omega, by omega⟩, ?_⟩
  obtain ⟨many, hmany⟩ : ∃ many, many = 45 + 2 * dn := ⟨_, rfl⟩
  have ei : (45 : Int) + 2 * (dn : Int) = ((many : Nat) : Int) := by omega
  have rest : (dSeq (dSet 3 (dTup (aCons (dC (.str "f")) (aCons (dTup (aCons (dCall (ct__law_bulk 40) (aCons (dVar 2) aNil)) aNil)) aNil))))
    (dSeq (dSet 4 (dOp fGt (dOp fAdd (dOp (fI CMul fun i j => .int (i * j)) (dC (.int 8)) (dVar 2)) (dC (.int 7))) (dC (.int 400))))
    (dSeq (dIfS (tdT (dCB fAny (aCons (dLc (iR1 (aCons (dC (.int 3)) aNil)) (dgName 5) tdYes (dOp fNe (dCall (ct__law_raises) (aCons (dVar 5) (aCons (dVar 1) (aCons (dVar 3) (aCons (dTup (aCons (dTup aNil) (aCons (dC (.int 0)) aNil))) aNil))))) (dVar 4)) [5]) aNil))) (dRet (dC (.bl false))) dNext)
    (dRet (dOr (dVar 4) (dOp fEq (dCallX (ct_step c cL) (aCons (dVar 1) (aCons (dVar 3) (aCons (dTup (aCons (dTup aNil) (aCons (dC (.int 0)) aNil))) aNil)))) (dCall (ct__law_apply 40) (aCons (dDisp [((dC (.str "x")), (dCall (ct__law_bulk 40) (aCons (dVar 2) aNil)))]) (aCons (dCall (ct__law_doubled 40) (aCons (dC (.int 3)) aNil)) aNil))))))))) (endsOf (ct__law_at_the_end.post y) noE) [.strm, .d (sysD wideS), .d (.int many), .any, .any, .any] := by
    have bulk : ∀ F : R → Prop, (∀ b : Tm, b = bulkF 40 many → b.ok = true → b.size = many → b.depth ≤ 6 → (∀ z ∈ b.words, z = "a" ∨ z = "g") → F (.d b.d)) → ∃ x : (ct__law_bulk 40).α, ([R.d (.int many)] : List R) = (ct__law_bulk 40).args x ∧ (ct__law_bulk 40).pre x ∧ (∀ r, (ct__law_bulk 40).post x r → F r) ∧ ∀ c, ¬ (ct__law_bulk 40).exc x c := fun F hF => by
      refine ⟨many, rfl, ⟨by omega, by show many + 1 ≤ 1099511627776; omega, by omega⟩, fun r hr => ?_, fun _ h => h⟩
      obtain ⟨b, h1, rfl, h2, h3, h4, _, h5⟩ := hr
      exact hF b h1 h2 h3 (h4 6 (by show many + 1 ≤ 64; omega)) h5
    refine bulk _ fun b hb bok bsz bdp bwd => ?_
    obtain ⟨m1, m2, m3⟩ := dbl_measures b
    obtain ⟨m, hm⟩ : ∃ m, m = (dbl 3).sub (lk [("x", b)]) := ⟨_, rfl⟩
    rw [← hm] at m1 m2 m3
    have tok : (Tm.app "f" [b]).ok = true := by rw [Tm.ok, Tm.oks, Tm.oks, bok]; decide +kernel
    have tsz : (Tm.app "f" [b]).size = many + 1 := by rw [Tm.size, Tm.sizes, Tm.sizes]; omega
    have tdp : (Tm.app "f" [b]).depth ≤ 7 := by rw [Tm.depth, Tm.depths, Tm.depths]; omega
    have mid : Mid (.app "f" [b]) := ⟨tok, ⟨by omega, by omega⟩, by omega⟩
    have hst : StepR wideS (.app "f" [b]) [] 0 m := by
      refine ⟨.app "f" [.var "x"], dbl 3, lk [("x", b)], rfl, ?_, fun x hx => ?_, by rw [hm]; rfl⟩
      · rw [Tm.sub, Tm.subs, Tm.subs, Tm.sub]; rfl
      · have hne : ¬ ("x" : Str) = x := fun z => hx (by rw [← z]; decide +kernel)
        unfold lk look
        rw [if_neg hne]
        rfl
    have uniq : ∀ p k e, StepR wideS (.app "f" [b]) p k e → e = m := fun p k e he => by
      obtain ⟨l, r, g, h1, h2, h3, h4⟩ := id he
      cases k with
      | succ k => rw [wideS, List.getElem?_cons_succ] at h1; cases h1
      | zero =>
        cases h1
        rw [Tm.sub] at h2
        cases p with
        | nil => exact StepR.det he hst
        | cons j q =>
          rw [Tm.at?] at h2
          by_cases hj : 0 ≤ j
          · rw [if_pos hj] at h2
            have z : j.toNat = 0 ∨ 1 ≤ j.toNat := by omega
            rcases z with z | z
            · rw [z] at h2
              have h2 : Tm.at? q b = some (.app "f" (Tm.subs g [.var "x"])) := h2
              have := bwd _ (Tm.at?_words q b _ _ h2)
              exact absurd this (by decide +kernel)
            · have : (Tm.app "f" [b]).args[j.toNat]? = none := List.getElem?_eq_none (by show 1 ≤ j.toNat; exact z)
              rw [this] at h2
              cases h2
          · rw [if_neg hj] at h2; cases h2
    refine ⟨sl 1 (by omega), sl 2 (by omega), .inl ⟨by omega, by omega⟩, ?_⟩
    have few : Few m ↔ ¬ (400 : Int) < 8 * (many : Int) + 7 := by
      constructor
      · intro f; have := f.1; omega
      · intro z; exact ⟨by omega, by omega⟩
    have tail : ∀ L : Bool, (L = true ↔ ¬ Few m) → (dSeq (dIfS (tdT (dCB fAny (aCons (dLc (iR1 (aCons (dC (.int 3)) aNil)) (dgName 5) tdYes (dOp fNe (dCall (ct__law_raises) (aCons (dVar 5) (aCons (dVar 1) (aCons (dVar 3) (aCons (dTup (aCons (dTup aNil) (aCons (dC (.int 0)) aNil))) aNil))))) (dVar 4)) [5]) aNil))) (dRet (dC (.bl false))) dNext)
    (dRet (dOr (dVar 4) (dOp fEq (dCallX (ct_step c cL) (aCons (dVar 1) (aCons (dVar 3) (aCons (dTup (aCons (dTup aNil) (aCons (dC (.int 0)) aNil))) aNil)))) (dCall (ct__law_apply 40) (aCons (dDisp [((dC (.str "x")), (dCall (ct__law_bulk 40) (aCons (dVar 2) aNil)))]) (aCons (dCall (ct__law_doubled 40) (aCons (dC (.int 3)) aNil)) aNil))))))) (endsOf (ct__law_at_the_end.post y) noE) [.strm, .d (sysD wideS), .d (.int many), .d (Tm.app "f" [b]).d, .d (.bl L), .any] := by
      intro L hL
      show -(2 ^ 62) ≤ (3 : Int) ∧ _
      refine ⟨by omega, by omega, ?_⟩
      refine ⟨fun i acc => acc = List.replicate i (.bl false), rfl, ?_, ?_⟩
      · rintro i x acc hx rfl
        obtain ⟨hi, rfl⟩ := rng_get hx
        have hi : i < 3 := hi
        refine ⟨sl 0 (by omega), sl 2 (by omega), (i, wideS, .app "f" [b], ([], 0)), rfl, ⟨wide_ok, mid, by show (Tm.app "f" [b]).depth + 4 ≤ 32; omega, rfl, m, hst, uniq⟩, fun r hr => ?_, fun _ h => h⟩
        obtain ⟨bb, m', rfl, hs', hb'⟩ := hr
        have e := uniq _ _ _ hs'
        subst e
        have ebb : bb = L := by rw [Bool.eq_iff_iff, hb', hL]
        subst ebb
        refine ⟨shaped_bl _, shaped_bl _, sl' _ (by rw [List.length_replicate]; omega), ?_⟩
        rw [eqv_bl]
        show List.replicate i (D.bl false) ++ [D.bl !bb == bb] = List.replicate (i + 1) (D.bl false)
        rw [List.replicate_succ']
        cases bb <;> rfl
      · rintro acc rfl
        cases L with
        | true => rfl
        | false =>
          have hf : Few m := by
            rcases Classical.em (Few m) with z | z
            · exact z
            · have := hL.mpr z; cases this
          refine ⟨sl 0 (by omega), sl 2 (by omega), (wideS, .app "f" [b], [], 0), rfl, ⟨wide_ok, mid, by show 0 ≤ 1000; omega⟩, fun r hr => ?_, fun c' hc => ?_⟩
          · obtain ⟨m', _, hs', _, rfl⟩ := hr
            have e := uniq _ _ _ hs'
            subst e
            refine bulk _ fun b' hb' _ _ _ _ => ?_
            have eb : b' = b := by rw [hb', hb]
            subst eb
            refine ⟨by show 1 ≤ 15; omega, (3 : Nat), rfl, by show 3 < 40; omega, fun r er => ?_, fun _ h => h⟩
            have er : r = .d (dbl 3).d := er
            subst er
            refine ⟨([("x", b')], dbl 3), rfl, ⟨show (dbl 3).depth ≤ 40 by decide, show (dbl 3).size ≤ 10000 by decide⟩, fun r er => ?_, fun _ h => h⟩
            have er : r = .d ((dbl 3).sub (lk [("x", b')])).d := er
            rw [← hm] at er
            subst er
            have sh := Tm.shaped (m3 bok) (by omega)
            exact ⟨sh, sh, by rw [Tm.eqv_self (m3 bok)]; rfl⟩
          · rcases hc with ⟨_, hno⟩ | ⟨_, e, _, hs', hfe⟩
            · exact absurd ⟨m, by show (0 : Int) ≤ 0; omega, hst⟩ hno
            · have e := uniq _ _ _ hs'
              subst e
              exact absurd hf hfe
    exact tail _ (by rw [decide_eq_true_iff, few]; omega)
  rw [← ei] at rest
  exact rest
end PL

namespace PL
open PySem PySem.Spec PyProof.Rows L2
/-! ### what the law sees -/
def keyI (q : List Nat × Nat) : List Int × Int := (Tm.plI q.1, (q.2 : Int))
theorem keyI_d (q : List Nat × Nat) : D.tup [plD q.1, .int q.2] = stD (keyI q) := by
  unfold stD keyI
  rw [plD_eq]
/-- a derivation's errors: not along a way -/
theorem Way.step_at {s : Sys} {t e m : Tm} {a b : List (List Int × Int)} {p : List Int} {k : Int} (h : Way s t (a ++ (p, k) :: b) e) (h' : Way s t a m) : ∃ m', 0 ≤ k ∧ StepR s m p k.toNat m' ∧ Few m' := by
  obtain ⟨m0, h1, h2⟩ := Way.cut h
  have e0 := h1.det h'
  subst e0
  cases h2 with
  | cons a1 a2 a3 _ => exact ⟨_, a1, a2, a3⟩
theorem Way.stable {s : Sys} {t e : Tm} {w : List (List Int × Int)} (h : Way s t w e) (hv : ∀ q ∈ s, ∀ x ∈ q.2.occ, x ∈ q.1.occ) (σ : Str → Tm) : ∀ {m : Tm}, Way s (t.sub σ) w m → m = e.sub σ := by
  induction h with
  | nil => intro m h; cases h; rfl
  | cons a b c _ ih =>
    intro m h
    cases h with
    | cons a' b' c' d' =>
      have e0 := b'.det (b.stable hv σ)
      subst e0
      exact ih d'
theorem sysOk_of {s : Sys} (hl : s.length ≤ 5) (h : ∀ q ∈ s, RuleOk q) : SysOk s 15 4 := ⟨by omega, fun q hq => (h q hq).1⟩
/-! ### values that are compared -/
theorem lay_key (q : List Int × Int) : (stD q).py.canLay0 = true := by
  unfold stD
  rw [D.py, PyData.canLay0, pyAll, pyAll, pyAll, PyData.canLayAll0, PyData.canLayAll0, PyData.canLayAll0, lay_intsD, D.py, PyData.canLay0]
  rfl
theorem dep_intsD (l : List Int) : (intsD l).py.depth ≤ 1 := by
  unfold intsD
  rw [D.py, PyData.depth, dep_ints]
  omega
theorem dep_key (q : List Int × Int) : (stD q).py.depth ≤ 2 := by
  unfold stD
  have := dep_intsD q.1
  rw [D.py, PyData.depth, pyAll, pyAll, pyAll, PyData.depthAll, PyData.depthAll, PyData.depthAll, D.py, PyData.depth]
  omega
theorem shaped_key (q : List Int × Int) : SeqAt.shaped (stD q).py = true := by
  have h1 := lay_key q
  have h2 := dep_key q
  unfold stD at h1 h2 ⊢
  refine shaped_tup ?_ ?_
  · rw [D.py, PyData.canLay0] at h1; exact h1
  · rw [D.py, PyData.depth] at h2; omega
theorem eqv_ints : ∀ (a b : List Int), PyData.eqvAll (pyAll (a.map D.int)) (pyAll (b.map D.int)) = decide (a = b)
  | [], [] => by rw [List.map_nil, pyAll, PyData.eqvAll]; rfl
  | [], y :: r => by rw [List.map_nil, List.map_cons, pyAll, pyAll, PyData.eqvAll] <;> simp
  | x :: r, [] => by rw [List.map_nil, List.map_cons, pyAll, pyAll, PyData.eqvAll] <;> simp
  | x :: r, y :: v => by
    rw [List.map_cons, List.map_cons, pyAll, pyAll, PyData.eqvAll, eqv_int, eqv_ints r v, Bool.eq_iff_iff]
    simp
theorem eqv_key (a b : List Int × Int) : PyData.eqv (stD a).py (stD b).py = decide (a = b) := by
  have e1 : PyData.eqv (stD a).py (stD b).py = (PyData.eqv (intsD a.1).py (intsD b.1).py && PyData.eqv (D.int a.2).py (D.int b.2).py) := by
    unfold stD
    have h : ∀ xs, (D.tup xs).py = .tuple (pyAll xs) := fun xs => by rw [D.py]
    rw [h, h, pyAll, pyAll, pyAll, pyAll, pyAll, pyAll]
    show PyData.eqvAll _ _ = _
    rw [PyData.eqvAll, PyData.eqvAll, PyData.eqvAll, Bool.and_true]
  have e2 : PyData.eqv (intsD a.1).py (intsD b.1).py = decide (a.1 = b.1) := by
    unfold intsD
    rw [D.py, D.py]
    exact eqv_ints _ _
  rw [e1, e2, eqv_int, Bool.eq_iff_iff]
  simp [Prod.ext_iff]
theorem lay_suc {x : (List Nat × Nat) × Tm} (h : x.2.ok = true) : (sucD x).py.canLay0 = true := by
  unfold sucD
  rw [keyI_d, D.py, PyData.canLay0, pyAll, pyAll, pyAll, PyData.canLayAll0, PyData.canLayAll0, PyData.canLayAll0, lay_key, Tm.lay _ h]
  rfl
theorem dep_suc {x : (List Nat × Nat) × Tm} (h : x.2.depth ≤ 25) : (sucD x).py.depth ≤ 51 := by
  unfold sucD
  rw [keyI_d, D.py, PyData.depth, pyAll, pyAll, pyAll, PyData.depthAll, PyData.depthAll, PyData.depthAll]
  have h1 := dep_key (keyI x.1)
  have h2 := Tm.pdepth x.2
  omega
theorem shaped_sucs {l : List ((List Nat × Nat) × Tm)} (h : ∀ x ∈ l, x.2.ok = true ∧ x.2.depth ≤ 25) : SeqAt.shaped (.list (pyAll (l.map sucD))) = true := by
  have go : PyData.canLayAll0 (pyAll (l.map sucD)) = true ∧ PyData.depthAll (pyAll (l.map sucD)) ≤ 51 := by
    induction l with
    | nil => rw [List.map_nil, pyAll, PyData.canLayAll0, PyData.depthAll]; exact ⟨rfl, by omega⟩
    | cons x r ih =>
      obtain ⟨i1, i2⟩ := ih fun y hy => h y (List.mem_cons_of_mem _ hy)
      obtain ⟨h1, h2⟩ := h x List.mem_cons_self
      have d := dep_suc h2
      rw [List.map_cons, pyAll, PyData.canLayAll0, PyData.depthAll, lay_suc h1, i1]
      exact ⟨rfl, by omega⟩
  exact shaped_lst go.1 (by omega)
end PL

set_option pp.maxSteps 1500
namespace PL
open PySem PySem.Spec PyProof.Rows L2
theorem nm7 : ∀ x ∈ (["x", "y"] : List Str), PyData.strOk x = true := by decide +kernel
theorem nm7z : ∀ x ∈ (["z"] : List Str), PyData.strOk x = true := by decide +kernel
/-- where a way's end and its steps are asked again -/
theorem way_asked {s : Sys} {t e : Tm} {w : List (List Int × Int)} {cS cL : Addr} {Z : R → Prop} {E : RX} (hs : SysOk s 15 4) (hok : t.ok = true) (hf : Few t) (hd : t.depth + 4 * w.length ≤ 32) (hl : ∀ q ∈ w, q.1.length ≤ 1000) (h : Way s t w e) (hZ : Z (.d e.d)) :
    ∃ x : (ct_derive cS cL).α, ([R.d (sysD s), .d t.d, .d (.tup (w.map stD))] : List R) = (ct_derive cS cL).args x ∧ (ct_derive cS cL).pre x ∧ (∀ r, (ct_derive cS cL).post x r → Z r) ∧ ∀ c, (ct_derive cS cL).exc x c → E c := by
  refine ⟨(s, t, w), rfl, ⟨hs, hok, hf, hd, hl⟩, fun r hr => ?_, fun c hc => ?_⟩
  · obtain ⟨m, hm, rfl⟩ := hr
    have e0 : m = e := Way.det hm h
    subst e0
    exact hZ
  · rcases hc with ⟨_, a, p, k, b, m, e1, hw, hno⟩ | ⟨_, a, p, k, b, m, e', e1, hw, h0, hst, hfe⟩
    · have e1 : w = a ++ (p, k) :: b := e1
      rw [e1] at h
      obtain ⟨m', h0, h1, _⟩ := Way.step_at h hw
      exact absurd ⟨m', h0, h1⟩ hno
    · have e1 : w = a ++ (p, k) :: b := e1
      rw [e1] at h
      obtain ⟨m', _, h1, hf'⟩ := Way.step_at h hw
      have e0 : e' = m' := StepR.det hst h1
      subst e0
      exact absurd hf' hfe
theorem snoc_split {α : Type} {w a b : List α} {x y : α} (h : w ++ [x] = a ++ y :: b) : (a = w ∧ y = x) ∨ ∃ b', w = a ++ y :: b' := by
  rcases split_last b with z | ⟨c, u, z⟩
  · subst z
    have := List.append_inj' h rfl
    exact .inl ⟨this.1.symm, (List.cons.inj this.2).1.symm⟩
  · subst z
    rw [← List.cons_append, ← List.append_assoc] at h
    have := List.append_inj' h rfl
    exact .inr ⟨c, this.1⟩
theorem aft7 (K : PySem.W.Frag) (cS cL : Addr) (hS : PySem.W.exmOne K (.ref cS) (.ref cS) = some true) (hL : PySem.W.exmOne K (.ref cL) (.ref cL) = some true) {ks : List (Str × Nat)} (hks : ∀ k ∈ ks, PyData.strOk k.1 = true ∧ k.2 ≤ 3) (hkl : ks.length ≤ 8) {s : Sys} (hs : SysOk s 15 4) (hv : ∀ q ∈ s, ∀ x ∈ q.2.occ, x ∈ q.1.occ)
    {t here : Tm} (tok : t.ok = true) (tsz : t.size ≤ 12) (tdp : t.depth ≤ 5) {w : List (List Nat × Nat)} (hw : Way s t (w.map keyI) here) (hwl : w.length ≤ 4) (hwp : ∀ q ∈ w, q.1.length ≤ 100) (x5 x6 x7 x8 x9 x10 x13 : A) :
    (dSeq (dIfS (tdOr (tdB (dOp fNe (dCallX (ct_derive cS cL) (aCons (dVar 3) (aCons (dVar 4) (aCons (dCB fTuple (aCons (dVar 12) aNil)) aNil)))) (dVar 11))) (tdB (dOp fNe (dCallX (ct_derive cS cL) (aCons (dVar 3) (aCons (dVar 4) (aCons (dTup aNil) aNil)))) (dVar 4)))) (dRet (dC (.bl false))) dNext)
    (dSeq (dSet 14 (dTup (aCons (dOp fRepT (dTup (aCons (dCall (ctDraw) (aCons (dVar 1) (aCons (dC (.int 3)) aNil))) aNil)) (dCall (ctDraw) (aCons (dVar 1) (aCons (dC (.int 4)) aNil)))) (aCons (dOp fAdd (dCB fLen (aCons (dVar 3) aNil)) (dCall (ctDraw) (aCons (dVar 1) (aCons (dC (.int 2)) aNil)))) aNil))))
    (dSeq (dSet 15 (dC (.bl false)))
    (dSeq (dTry K cS (dDrop (dCallX (ct_derive cS cL) (aCons (dVar 3) (aCons (dVar 4) (aCons (dOp fAdd (dCB fTuple (aCons (dVar 12) aNil)) (dTup (aCons (dVar 14) aNil))) aNil))))) (dSet 15 (dC (.bl true))))
    (dSeq (dIfS (tdNot (tdT (dVar 15))) (dRet (dC (.bl false))) dNext)
    (dSeq (dSet 16 (dCB fDictP (aCons (dLc (iNew (dLst (aCons (dC (.str "x")) (aCons (dC (.str "y")) aNil)))) (dgName 18) tdYes (dTup (aCons (dVar 18) (aCons (dCall (ct__law_term 40) (aCons (dVar 1) (aCons (dVar 2) (aCons (dLst (aCons (dC (.str "z")) aNil)) (aCons (dOp fAdd (dC (.int 1)) (dCall (ctDraw) (aCons (dVar 1) (aCons (dC (.int 4)) aNil)))) (aCons (dC (.int 3)) aNil)))))) aNil))) [18]) aNil)))
    (dTry K cL (dRet (dOp fEq (dCallX (ct_derive cS cL) (aCons (dVar 3) (aCons (dCallX (ct_applyL cL) (aCons (dVar 16) (aCons (dVar 4) aNil))) (aCons (dCB fTuple (aCons (dVar 12) aNil)) aNil)))) (dCallX (ct_applyL cL) (aCons (dVar 16) (aCons (dVar 11) aNil))))) (dRet (dC (.bl true)))))))))) (endsOf (fun x => x = .d (.bl true)) noE) [.any, .strm, .o (.lst (symDs ks)), .d (sysD s), .d t.d, x5, x6, x7, x8, x9, x10, .d here.d, .o (.lst (w.map fun q => .tup [plD q.1, .int q.2])), x13, .any, .any, .any, .any, .any] := by
  have wd : (w.map fun q => D.tup [plD q.1, .int q.2]) = (w.map keyI).map stD := by
    rw [List.map_map]
    exact List.map_congr_left fun q _ => keyI_d q
  have wl : (w.map keyI).length = w.length := List.length_map _
  have wp : ∀ q ∈ w.map keyI, q.1.length ≤ 1000 := fun q hq => by
    obtain ⟨q', hq', rfl⟩ := List.mem_map.mp hq
    have := hwp q' hq'
    show (Tm.plI q'.1).length ≤ 1000
    unfold Tm.plI
    rw [List.length_map]
    omega
  have tf : Few t := ⟨by omega, by omega⟩
  obtain ⟨hok, hf, hd⟩ := hw.sizes hs tok tf
  rw [wl] at hd
  have hsh := Tm.shaped hok (by omega)
  have tsh := Tm.shaped tok (by omega)
  rw [wd]
  refine seq_if (X := False) (Y := True) (fun P pt pf => ?_) (fun h => h.elim) (fun _ => ?_)
  · refine way_asked hs tok tf (by rw [wl]; omega) wp hw ⟨hsh, hsh, ite2 (fun e => absurd e (not_ne hsh)) (fun _ => ?_)⟩
    refine ⟨sl 0 (by omega), ?_⟩
    exact way_asked (w := []) hs tok tf (by show t.depth + 4 * 0 ≤ 32; omega) (fun q z => by cases z) .nil ⟨tsh, tsh, b_true (P := P) (fun e => absurd e (not_ne tsh)) (fun _ => pf trivial)⟩
  dsimp only [dNext]
  -- a wrong step
  refine ⟨(3 : Int), rfl, ⟨by omega, by omega⟩, fun r hr => ?_, fun _ h => h⟩
  obtain ⟨d3, _, _, rfl⟩ := hr
  refine ⟨sl 1 (by omega), (4 : Int), rfl, ⟨by omega, by omega⟩, fun r hr => ?_, fun _ h => h⟩
  obtain ⟨d4, a4, b4, rfl⟩ := hr
  have b4 : d4 < 4 := b4
  refine ⟨by simp, by omega, by omega, by show 1 ≤ 1000; omega, ?_⟩
  have hsm : (s.map ruleD).length = s.length := List.length_map _
  refine ⟨(2 : Int), rfl, ⟨by omega, by omega⟩, fun r hr => ?_, fun _ h => h⟩
  obtain ⟨d5, a5, b5, rfl⟩ := hr
  refine ⟨sl 2 (by omega), ?_⟩
  have wr : (List.replicate d4.toNat [D.int d3]).flatten = (List.replicate d4.toNat d3).map D.int := by
    generalize d4.toNat = n
    induction n with
    | zero => rfl
    | succ n ih => rw [List.replicate_succ, List.replicate_succ, List.flatten_cons, ih]; rfl
  obtain ⟨kw, hkw⟩ : ∃ kw : Int, kw = (((s.map ruleD).length : Nat) : Int) + d5 := ⟨_, rfl⟩
  have wrong : D.tup [.tup (List.replicate d4.toNat [D.int d3]).flatten, .int ((((s.map ruleD).length : Nat) : Int) + d5)] = stD (List.replicate d4.toNat d3, kw) := by
    rw [wr, hkw]
    rfl
  have nostep : ∀ m e, ¬ StepR s m (List.replicate d4.toNat d3) kw.toNat e := fun m e ⟨l, r, g, h1, _⟩ => by
    rw [List.getElem?_eq_none (by omega)] at h1
    cases h1
  have wpr : (List.replicate d4.toNat d3).length ≤ 1000 := by rw [List.length_replicate]; omega
  refine ⟨sl 1 (by omega), sl _ (by rw [List.length_map, wl]; show _ + 1 ≤ _; omega), (s, t, w.map keyI ++ [(List.replicate d4.toNat d3, kw)]), ?_, ⟨hs, tok, tf, ?_, ?_⟩, fun r hr => ?_, fun c' hc => ?_⟩
  · show _ = [R.d (sysD s), .d t.d, .d (.tup ((w.map keyI ++ [(List.replicate d4.toNat d3, kw)]).map stD))]
    rw [List.map_append (l₂ := [(List.replicate d4.toNat d3, kw)])]
    show _ = [R.d (sysD s), .d t.d, .d (.tup ((w.map keyI).map stD ++ [stD (List.replicate d4.toNat d3, kw)]))]
    rw [← wrong]
    rfl
  · show t.depth + 4 * (w.map keyI ++ [(List.replicate d4.toNat d3, kw)]).length ≤ 32
    rw [List.length_append, wl]
    show t.depth + 4 * (w.length + 1) ≤ 32
    omega
  · intro q hq
    rcases List.mem_append.mp hq with hq | hq
    · exact wp q hq
    · rw [List.mem_singleton.mp hq]; exact wpr
  · obtain ⟨m, hm, _⟩ := hr
    have hm : Way s t (w.map keyI ++ [(List.replicate d4.toNat d3, kw)]) m := hm
    obtain ⟨m', _, h1, _⟩ := Way.step_at (b := []) hm hw
    exact absurd h1 (nostep _ _)
  have hc : c' = cS := by
    rcases hc with ⟨hc, _⟩ | ⟨_, a, p, k, b, m, e', e1, hw', h0, hst, hfe⟩
    · exact hc
    · exfalso
      have e1 : w.map keyI ++ [(List.replicate d4.toNat d3, kw)] = a ++ (p, k) :: b := e1
      rcases snoc_split e1 with ⟨_, e2⟩ | ⟨b', e2⟩
      · cases e2
        exact nostep _ _ hst
      · have hw2 := hw
        rw [e2] at hw2
        obtain ⟨m', _, h1, hf'⟩ := Way.step_at hw2 hw'
        have e0 : e' = m' := StepR.det hst h1
        subst e0
        exact hfe hf'
  refine ⟨true, by rw [hc]; exact hS, fun _ => ?_, fun z => by cases z⟩
  -- an instance
  refine ⟨sl 2 (by omega), ?_⟩
  refine ⟨fun i acc => ∃ tb : Tb, acc = tb.map pairD ∧ keysT tb = (["x", "y"] : List Str).take i ∧ ∀ q ∈ tb, q.2.ok = true ∧ q.2.size ≤ 4 ∧ q.2.depth ≤ 3, ⟨[], rfl, rfl, fun _ z => by cases z⟩, ?_, ?_⟩
  · rintro i x acc hx0 ⟨tb, rfl, hk, htb⟩
    obtain ⟨x0, hx, rfl⟩ := map_get (f := D.str) (l := (["x", "y"] : List Str)) hx0
    have htl : tb.length ≤ 2 := by
      have := congrArg List.length hk
      rw [keysT_length, List.length_take] at this
      have h2 : (["x", "y"] : List Str).length = 2 := rfl
      omega
    refine ⟨sl 1 (by omega), (4 : Int), rfl, ⟨by omega, by omega⟩, fun r hr => ?_, fun _ h => h⟩
    obtain ⟨d6, a6, b6, rfl⟩ := hr
    have b6 : d6 < 4 := b6
    refine ⟨⟨ks, ["z"], (1 + d6).toNat, 3⟩, termIn_args ks ["z"] (1 + d6) 3 (by omega), ⟨hks, nm7z, by show ks.length ≤ 1000; omega, by show 1 ≤ 1000; omega, by show 1 ≤ (1 + d6).toNat; omega, by show (1 + d6).toNat ≤ 1000; omega, by show 1 ≤ 3; omega, by show 3 ≤ 40; omega, by show 3 ≤ 40; omega⟩, fun r hr => ?_, fun _ h => h⟩
    obtain ⟨u, rfl, uok, usz, udp, _⟩ := hr
    have usz : u.size ≤ (1 + d6).toNat := usz
    refine ⟨sl 2 (by omega), sl' _ (by rw [List.length_map]; omega), tb ++ [(x0, u)], by rw [List.map_append]; rfl, ?_, fun q hq => ?_⟩
    · have e : keysT (tb ++ [(x0, u)]) = keysT tb ++ [x0] := by unfold keysT; rw [List.map_append]; rfl
      rw [e, hk]
      exact (take_snoc hx).symm
    · rcases List.mem_append.mp hq with hq | hq
      · exact htb q hq
      · rw [List.mem_singleton.mp hq]; exact ⟨uok, by show u.size ≤ 4; omega, udp⟩
  rintro acc ⟨tb, rfl, hk, htb⟩
  have hk : keysT tb = (["x", "y"] : List Str) := hk
  have tbl : Tbl tb (["x", "y"] : List Str) 4 3 := ⟨by rw [hk]; decide +kernel, fun x hx => by rw [hk] at hx; exact hx, htb⟩
  have tbo := tbl.tbOk (by decide) (by omega)
  have tk := fun x => tbl.lk (by omega) (by omega) x
  refine fDictP_arg tbl.nd ?_
  have lim : ∀ (c' : Addr), c' = cL → ∃ b, PySem.W.exmOne K (.ref c') (.ref cL) = some b ∧ (b = true → R.d (.bl true) = R.d (.bl true)) ∧ (b = false → False) := fun c' e => ⟨true, by rw [e]; exact hL, fun _ => rfl, fun z => by cases z⟩
  have sok : (t.sub (lk tb)).ok = true := Tm.sub_ok t tok fun x hx => (tk x).2.2 (Tm.vars_ok tok x (Tm.mem_vars.mpr hx))
  have sdp := Tm.depth_sub_le (g := lk tb) (d := 2) t fun x _ => (tk x).2.1
  have hsok : (here.sub (lk tb)).ok = true := Tm.sub_ok here hok fun x hx => (tk x).2.2 (Tm.vars_ok hok x (Tm.mem_vars.mpr hx))
  have hsdp := Tm.depth_sub_le (g := lk tb) (d := 2) here fun x _ => (tk x).2.1
  refine ⟨(tb, t), rfl, ⟨tbo, by show t.size ≤ 10000; omega⟩, fun r hr => ?_, fun c' hc => lim c' hc.1⟩
  obtain ⟨sf, rfl⟩ := hr
  have sf : Few (t.sub (lk tb)) := sf
  refine ⟨(s, t.sub (lk tb), w.map keyI), rfl, ⟨hs, sok, sf, by show (t.sub (lk tb)).depth + 4 * (w.map keyI).length ≤ 32; rw [wl]; omega, wp⟩, fun r hr => ?_, fun c' hc => ?_⟩
  · obtain ⟨m, hm, rfl⟩ := hr
    have e0 : m = here.sub (lk tb) := hw.stable hv (lk tb) hm
    subst e0
    refine ⟨(tb, here), rfl, ⟨tbo, by have := hf.1; show here.size ≤ 10000; omega⟩, fun r hr => ?_, fun c' hc => lim c' hc.1⟩
    obtain ⟨_, rfl⟩ := hr
    have sh := Tm.shaped hsok (by omega)
    exact ⟨sh, sh, by rw [Tm.eqv_self hsok]; rfl⟩
  · rcases hc with ⟨_, a, p, k, b, m, e1, hw', hno⟩ | ⟨hc, _⟩
    · exfalso
      have e1 : w.map keyI = a ++ (p, k) :: b := e1
      have hw2 := hw
      rw [e1] at hw2
      obtain ⟨m0, h1, h2⟩ := Way.cut hw2
      have e0 : m = m0.sub (lk tb) := h1.stable hv (lk tb) hw'
      cases h2 with
      | cons q1 q2 q3 q4 =>
        have := q2.stable hv (lk tb)
        rw [← e0] at this
        exact hno ⟨_, q1, this⟩
    · exact lim c' hc
theorem ld7 (K : PySem.W.Frag) (cS cL : Addr) (hS : PySem.W.exmOne K (.ref cS) (.ref cS) = some true) (hL : PySem.W.exmOne K (.ref cL) (.ref cL) = some true) : ds_law7 K cS cL (endsOf (fun x => x = .d (.bl true)) noE) (.any :: .strm :: anys 17) := by
  refine ⟨(5 : Int), rfl, ⟨by omega, by omega⟩, fun r hr => ?_, fun _ h => h⟩
  obtain ⟨d0, _, _, rfl⟩ := hr
  refine ⟨shaped_int _, shaped_int _, ite2 (fun _ => ⟨(), rfl, trivial, fun r er => er, fun _ h => h⟩) (fun _ => ?_)⟩
  refine ⟨(5 : Nat), rfl, ⟨by omega, by omega⟩, fun r hr => ?_, fun _ h => h⟩
  obtain ⟨ks, rfl, hks, hkne, hkl, hkr, hkc⟩ := hr
  have hk : KindsOk ks := ⟨hks, hkne, hkl, hkc⟩
  refine ⟨(5 : Int), rfl, ⟨by omega, by omega⟩, fun r hr => ?_, fun _ h => h⟩
  obtain ⟨dm, a0, b0, rfl⟩ := hr
  obtain ⟨many, rfl⟩ : ∃ n : Nat, dm = (n : Int) := ⟨dm.toNat, by omega⟩
  have b0 : (many : Int) < 5 := b0
  refine ⟨(ks, many, 6), rfl, ⟨hk, by show many ≤ 5; omega, by show 1 ≤ 6; omega, by show 6 ≤ 6; omega⟩, fun r hr => ?_, fun _ h => h⟩
  obtain ⟨s, rfl, hsl, hsr⟩ := hr
  have hsl : s.length = many := hsl
  have hs : SysOk s 15 4 := sysOk_of (by omega) hsr
  have hv : ∀ q ∈ s, ∀ x ∈ q.2.occ, x ∈ q.1.occ := fun q hq => (hsr q hq).2
  refine ⟨sl 2 (by omega), (12 : Int), rfl, ⟨by omega, by omega⟩, fun r hr => ?_, fun _ h => h⟩
  obtain ⟨d1, a1, b1, rfl⟩ := hr
  refine ⟨⟨ks, ["x", "y"], (1 + d1).toNat, 5⟩, termIn_args ks ["x", "y"] (1 + d1) 5 (by omega), ⟨hks, nm7, by show ks.length ≤ 1000; omega, by show 2 ≤ 1000; omega, by show 1 ≤ (1 + d1).toNat; omega, by show (1 + d1).toNat ≤ 1000; omega, by show 1 ≤ 5; omega, by show 5 ≤ 40; omega, by show 5 ≤ 40; omega⟩, fun r hr => ?_, fun _ h => h⟩
  obtain ⟨t, rfl, tok, tsz, tdp, _⟩ := hr
  have tsz : t.size ≤ 12 := by have tsz : t.size ≤ (1 + d1).toNat := tsz; omega
  have tdp : t.depth ≤ 5 := tdp
  have tmid : Mid t := ⟨tok, ⟨by omega, by omega⟩, by omega⟩
  refine ⟨(s, t), rfl, ⟨hs, tmid⟩, fun r er => ?_, fun _ h => h⟩
  have er : r = .n (.lst ((succL s t t.places).map sucD)) := er
  subst er
  -- the steps that are due
  obtain ⟨due, hdue⟩ : ∃ due, due = succL s t t.places := ⟨_, rfl⟩
  rw [← hdue]
  have dueS : ∀ x ∈ due, StepR s t (Tm.plI x.1.1) x.1.2 x.2 ∧ x.1.2 < s.length := fun x hx => by rw [hdue] at hx; exact ⟨(mem_succL.mp hx).2.2, (mem_succL.mp hx).2.1⟩
  have dueM : ∀ x ∈ due, x.2.ok = true ∧ x.2.size ≤ 500 ∧ x.2.depth ≤ 9 := fun x hx => by
    obtain ⟨z1, z2, z3⟩ := (dueS x hx).1.sizes hs tok
    exact ⟨z3, by omega, by omega⟩
  have hdl : due.length ≤ 4000 := by
    have := succL_len s t hs.len t.places
    have h2 := Tm.places_length t
    rw [hdue]
    omega
  -- any of them large
  dsimp only
  refine seq_if (X := True) (Y := ∀ x ∈ due, Few x.2) (fun P pt pf => ?_) (fun _ => ?_) (fun few => ?_)
  · refine ⟨fun i acc => ∃ bs : List Bool, acc = bs.map D.bl ∧ bs.length = i ∧ ((bs.any id) = false → ∀ x ∈ due.take i, Few x.2), ⟨[], rfl, rfl, fun _ x z => by cases z⟩, ?_, ?_⟩
    · rintro i x acc hx0 ⟨bs, rfl, hl, hb⟩
      obtain ⟨x, hx, rfl⟩ := map_get hx0
      have hi : i < due.length := by
        rcases Nat.lt_or_ge i due.length with z | z
        · exact z
        · rw [List.getElem?_eq_none z] at hx; cases hx
      obtain ⟨z1, z2, z3⟩ := dueM x (mem_get hx)
      refine ⟨rfl, x.2, rfl, ⟨by show x.2.depth ≤ 100; omega, by show x.2.size ≤ 10000; omega⟩, fun r hr => ?_, fun _ h => h⟩
      obtain ⟨b, rfl, hbb⟩ := hr
      refine ⟨sl' _ (by rw [List.length_map]; omega), bs ++ [b], by rw [List.map_append]; rfl, by rw [List.length_append, hl]; rfl, fun ha y hy => ?_⟩
      rw [List.any_append, Bool.or_eq_false_iff] at ha
      rw [take_snoc hx] at hy
      rcases List.mem_append.mp hy with hy | hy
      · exact hb ha.1 y hy
      · rw [List.mem_singleton.mp hy]
        have hbf : b = false := by have := ha.2; rw [List.any_cons, List.any_nil, Bool.or_false] at this; exact this
        rcases Classical.em (Few x.2) with z | z
        · exact z
        · have := hbb.mpr z; rw [hbf] at this; cases this
    · rintro acc ⟨bs, rfl, hl, hb⟩
      show match (some (bs.map D.bl)).bind blsOf with | some bs => _ | none => False
      rw [Option.bind_some, blsOf_map]
      show P (bs.any id)
      cases ha : bs.any id with
      | true => exact pt trivial
      | false =>
        refine pf fun x hx => hb ha x ?_
        rw [List.length_map, List.take_length]
        exact hx
  · exact rfl
  dsimp only [dNext]
  have shd := shaped_sucs (l := due) fun x hx => ⟨(dueM x hx).1, by have := (dueM x hx).2.2; omega⟩
  have few1 : ∀ {p : List Int} {k : Nat} {m : Tm}, StepR s t p k m → Few m ∧ ∃ q, p = Tm.plI q ∧ ((q, k), m) ∈ due := fun {p k m} hst => by
    obtain ⟨l, r, g, h1, h2, _⟩ := id hst
    obtain ⟨q, hq, rfl⟩ := Tm.at_places t p _ h2
    have hk' : k < s.length := by
      rcases Nat.lt_or_ge k s.length with z | z
      · exact z
      · rw [List.getElem?_eq_none z] at h1; cases h1
    have hmem : ((q, k), m) ∈ due := by rw [hdue]; exact mem_succL.mpr ⟨hq, hk', hst⟩
    exact ⟨few _ hmem, q, rfl, hmem⟩
  refine seq_if (X := False) (Y := True) (fun P pt pf => ?_) (fun h => h.elim) (fun _ => ?_)
  · refine ⟨(s, t), rfl, ⟨hs, tmid⟩, fun r hr => ?_, fun c' hc => ?_⟩
    · have er : r = .n (.lst ((succL s t t.places).map sucD)) := hr.1
      rw [← hdue] at er
      subst er
      exact ⟨shd, shd, b_true (P := P) (fun e => absurd e (not_ne shd)) (fun _ => pf trivial)⟩
    · obtain ⟨_, x, hx, hf⟩ := hc
      have hx : x ∈ succL s t t.places := hx
      rw [← hdue] at hx
      exact absurd (few x hx) hf
  dsimp only [dNext]
  -- each of them, as a step
  have plen : ∀ {p : List Int} {k : Nat} {m : Tm}, StepR s t p k m → p.length ≤ 10 := fun {p k m} hst => by
    obtain ⟨l, r, g, h1, h2, _⟩ := hst
    have := Tm.at?_depth p t _ h2
    omega
  refine ⟨fun i ρ => ∃ x6 x7, ρ = [.any, .strm, .o (.lst (symDs ks)), .d (sysD s), .d t.d, .f (.lst (due.map sucD)), x6, x7, .any, .any, .any, .any, .any, .any, .any, .any, .any, .any, .any], ⟨.any, .any, rfl⟩, ?_, ?_⟩
  · rintro i x ρ' hx0 ⟨x6, x7, rfl⟩
    obtain ⟨x, hx, rfl⟩ := map_get hx0
    have hxm := mem_get hx
    obtain ⟨hst, hkl'⟩ := dueS x hxm
    obtain ⟨z1, z2, z3⟩ := dueM x hxm
    have sh := Tm.shaped z1 (by omega)
    have hk0 : (keyI x.1).2.toNat = x.1.2 := by show ((x.1.2 : Nat) : Int).toNat = x.1.2; omega
    refine ⟨rfl, (s, t, keyI x.1), by rw [keyI_d]; rfl, ⟨hs, tmid, by have := plen hst; show (Tm.plI x.1.1).length ≤ 1000; omega⟩, fun r hr => ?_, fun c' hc => ?_⟩
    · obtain ⟨m, _, hs', _, rfl⟩ := hr
      have hs' : StepR s t (Tm.plI x.1.1) (keyI x.1).2.toNat m := hs'
      rw [hk0] at hs'
      have e := hs'.det hst
      subst e
      exact ⟨sh, sh, ite2 (fun e => absurd e (not_ne sh)) (fun _ => ⟨_, _, rfl⟩)⟩
    · rcases hc with ⟨_, hno⟩ | ⟨_, e, _, hs', hf⟩
      · exact absurd ⟨x.2, by show (0 : Int) ≤ ((x.1.2 : Nat) : Int); omega, by show StepR s t (Tm.plI x.1.1) (keyI x.1).2.toNat x.2; rw [hk0]; exact hst⟩ hno
      · exact absurd (few1 hs').1 hf
  rintro ρ' ⟨x6, x7, rfl⟩
  -- steps drawn
  have hpt := Tm.places_length t
  show -(2 ^ 62) ≤ (4 : Int) ∧ _
  refine ⟨by omega, by omega, ?_⟩
  refine ⟨fun i ρ => ∃ x6 x7 x8 x9 x10, ρ = [.any, .strm, .o (.lst (symDs ks)), .d (sysD s), .d t.d, .f (.lst (due.map sucD)), x6, x7, x8, x9, x10, .any, .any, .any, .any, .any, .any, .any, .any], ⟨x6, x7, .any, .any, .any, rfl⟩, ?_, ?_⟩
  · rintro i x ρ' hx ⟨x6, x7, x8, x9, x10, rfl⟩
    obtain ⟨hi, rfl⟩ := rng_get hx
    refine ⟨t, rfl, ⟨by omega, by omega⟩, fun r er => ?_, fun _ h => h⟩
    subst er
    refine ⟨sl 1 (by omega), sl 6 (by omega), sl 2 (by omega), sl _ (by rw [List.length_map]; show _ + 2 ≤ _; omega), ?_⟩
    refine ⟨t.places.map plD ++ [intsD [7], intsD [0, 0, 0, 0, 0, 0]], rfl, ⟨by simp, by rw [List.length_append, List.length_map]; show _ + 2 ≤ _; omega⟩, fun r hr => ?_, fun _ h => h⟩
    obtain ⟨x, hx, rfl⟩ := hr
    obtain ⟨P, hP, rfl⟩ : ∃ P : List Int, P.length ≤ 10 ∧ x = intsD P := by
      rcases List.mem_append.mp hx with hx | hx
      · obtain ⟨q, hq, rfl⟩ := List.mem_map.mp hx
        have := Tm.places_len t q hq
        exact ⟨Tm.plI q, by unfold Tm.plI; rw [List.length_map]; omega, plD_eq q⟩
      · rcases List.mem_cons.mp hx with e | hx
        · exact ⟨_, by decide, e⟩
        · exact ⟨_, by decide, List.mem_singleton.mp hx⟩
    have hsm : (s.map ruleD).length = s.length := List.length_map _
    refine ⟨((s.map ruleD).length : Int) + 2, rfl, ⟨by omega, by omega⟩, fun r hr => ?_, fun _ h => h⟩
    obtain ⟨d, d0, d1, rfl⟩ := hr
    refine ⟨sl 2 (by omega), ?_⟩
    refine ⟨fun i acc => acc = ((due.take i).filter fun x => decide (keyI x.1 = (P, d - 1))).map fun x => x.2.d, rfl, ?_, ?_⟩
    · rintro i x acc hx0 rfl
      obtain ⟨x, hx, rfl⟩ := map_get hx0
      have hlen : ((due.take i).filter fun x => decide (keyI x.1 = (P, d - 1))).length ≤ 4000 := by
        have h1 := List.length_filter_le (fun x : (List Nat × Nat) × Tm => decide (keyI x.1 = (P, d - 1))) (due.take i)
        have h2 : (due.take i).length ≤ due.length := by rw [List.length_take]; omega
        omega
      refine ⟨rfl, ?_⟩
      show SeqAt.shaped (D.tup [plD x.1.1, .int x.1.2]).py = true ∧ SeqAt.shaped (stD (P, d - 1)).py = true ∧ (if PyData.eqv (D.tup [plD x.1.1, .int x.1.2]).py (stD (P, d - 1)).py = true then _ else _)
      rw [keyI_d, eqv_key]
      refine ⟨shaped_key _, shaped_key _, ite2 (fun e => ?_) (fun e => ?_)⟩
      · refine ⟨sl' _ (by rw [List.length_map]; omega), ?_⟩
        show _ = ((due.take (i + 1)).filter _).map _
        rw [filter_snoc hx, if_pos e, List.map_append]
        rfl
      · show _ = ((due.take (i + 1)).filter _).map _
        rw [filter_snoc hx, if_neg e, List.append_nil]
    · rintro acc rfl
      rw [List.length_map, List.take_length]
      have inR : ∀ x ∈ due.filter (fun x => decide (keyI x.1 = (P, d - 1))), 0 ≤ d - 1 ∧ StepR s t P (d - 1).toNat x.2 := fun x hx => by
        obtain ⟨h1, h2⟩ := List.mem_filter.mp hx
        have h2 : keyI x.1 = (P, d - 1) := of_decide_eq_true h2
        have e1 : Tm.plI x.1.1 = P := congrArg (·.1) h2
        have e2 : ((x.1.2 : Nat) : Int) = d - 1 := congrArg (·.2) h2
        have h3 := (dueS x h1).1
        rw [e1] at h3
        exact ⟨by omega, by rw [show (d - 1).toNat = x.1.2 by omega]; exact h3⟩
      have toR : ∀ m, 0 ≤ d - 1 → StepR s t P (d - 1).toNat m → ∃ x, x ∈ due.filter (fun x => decide (keyI x.1 = (P, d - 1))) := fun m h0 hst => by
        obtain ⟨_, q, hq, hmem⟩ := few1 hst
        refine ⟨_, List.mem_filter.mpr ⟨hmem, decide_eq_true ?_⟩⟩
        show (Tm.plI q, (((d - 1).toNat : Nat) : Int)) = (P, d - 1)
        rw [hq, show (((d - 1).toNat : Nat) : Int) = d - 1 by omega]
      generalize (due.filter fun x => decide (keyI x.1 = (P, d - 1))) = RL at inR toR ⊢
      refine ⟨(s, t, P, d - 1), rfl, ⟨hs, tmid, by show P.length ≤ 1000; omega⟩, fun r hr => ?_, fun c' hc => ?_⟩
      · obtain ⟨m, h0, hst, hf, rfl⟩ := hr
        obtain ⟨x0, hx0⟩ := toR m h0 hst
        cases RL with
        | nil => cases hx0
        | cons y rr =>
          have hy := (inR y List.mem_cons_self).2
          have e : m = y.2 := hst.det hy
          subst e
          obtain ⟨_, q, _, hmem⟩ := few1 hy
          obtain ⟨z1, z2, z3⟩ := dueM _ hmem
          have z3 : y.2.depth ≤ 9 := z3
          have sh := Tm.shaped z1 (by show y.2.depth ≤ 32; omega)
          have hat : atI (y.2.d :: rr.map fun x => x.2.d) 0 = some y.2.d := atI_get (l := y.2.d :: rr.map fun x => x.2.d) (i := 0) rfl
          show match atI (y.2.d :: rr.map fun x => x.2.d) 0 with | some z => _ | none => False
          rw [hat]
          exact ⟨sh, sh, ite2 (fun e => absurd e (not_ne sh)) (fun _ => ⟨_, _, _, _, _, rfl⟩)⟩
      · rcases hc with ⟨hc, hno⟩ | ⟨_, e, _, hs', hf⟩
        · refine ⟨true, by rw [hc]; exact hS, fun _ => ?_, fun z => by cases z⟩
          cases RL with
          | nil => exact ⟨_, _, _, _, _, rfl⟩
          | cons y rr => exact absurd ⟨y.2, inR y List.mem_cons_self⟩ hno
        · exact absurd (few1 hs').1 hf
  rintro ρ' ⟨x6, x7, x8, x9, x10, rfl⟩
  -- a way drawn
  refine ⟨Nat.zero_le _, (5 : Int), rfl, ⟨by omega, by omega⟩, fun r hr => ?_, fun _ h => h⟩
  obtain ⟨dw, aw, bw, rfl⟩ := hr
  have bw : dw < 5 := bw
  refine ⟨by omega, by omega, ?_⟩
  refine ⟨fun i ρ => ∃ (here : Tm) (w : List (List Nat × Nat)) (x6 x7 x8 x9 x10 x13 : A), Way s t (w.map keyI) here ∧ w.length ≤ i ∧ (∀ q ∈ w, q.1.length ≤ 100) ∧ ρ = [.any, .strm, .o (.lst (symDs ks)), .d (sysD s), .d t.d, .f (.lst (due.map sucD)), x6, x7, x8, x9, x10, .d here.d, .o (.lst (w.map fun q => .tup [plD q.1, .int q.2])), x13, .any, .any, .any, .any, .any],
    ⟨t, [], x6, x7, x8, x9, x10, .any, .nil, Nat.le_refl _, (fun _ z => by cases z), rfl⟩, ?_, ?_⟩
  · rintro i x ρ' hx ⟨here, w, x6, x7, x8, x9, x10, x13, hw, hwl, hwp, rfl⟩
    obtain ⟨hi, rfl⟩ := rng_get hx
    have hi : i < dw.toNat := hi
    obtain ⟨hok, hf, hd⟩ := hw.sizes hs tok tmid.2.1
    rw [List.length_map] at hd
    have hf1 := hf.1
    have mid : Mid here := ⟨hok, hf, by omega⟩
    refine ⟨(s, here), rfl, ⟨hs, mid⟩, fun r er => ?_, fun _ h => h⟩
    have er : r = .n (.lst ((succL s here here.places).map sucD)) := er
    subst er
    have hhl : (succL s here here.places).length ≤ 4000 := by
      have := succL_len s here hs.len here.places
      have h2 := Tm.places_length here
      omega
    have hmem : ∀ y ∈ succL s here here.places, StepR s here (Tm.plI y.1.1) y.1.2 y.2 := fun y hy => (mem_succL.mp hy).2.2
    generalize succL s here here.places = fd at hhl hmem
    refine ite2 (fun _ => ?_) (fun ne => ?_)
    · exact aft7 K cS cL hS hL hks hkl hs hv tok tsz tdp hw (by omega) hwp _ _ _ _ _ _ _
    · refine ⟨fd.map sucD, rfl, ⟨fun z => ne (by rw [z]; rfl), by rw [List.length_map]; omega⟩, fun r hr => ?_, fun _ h => h⟩
      obtain ⟨x, hx, rfl⟩ := hr
      obtain ⟨y, hy, rfl⟩ := List.mem_map.mp hx
      have hst := hmem y hy
      obtain ⟨z1, z2, z3⟩ := hst.sizes hs hok
      refine ⟨rfl, y.2, rfl, ⟨by show y.2.depth ≤ 100; omega, by show y.2.size ≤ 10000; omega⟩, fun r hr => ?_, fun _ h => h⟩
      obtain ⟨b, rfl, hb⟩ := hr
      have hb : b = true ↔ ¬ Few y.2 := hb
      refine ite2 (fun _ => rfl) (fun nb => ?_)
      have fy : Few y.2 := by
        rcases Classical.em (Few y.2) with z | z
        · exact z
        · exact absurd (hb.mpr z) nb
      have hpl : y.1.1.length ≤ 100 := by
        obtain ⟨l, r, g, _, h2, _⟩ := hst
        have := Tm.at?_depth _ here _ h2
        unfold Tm.plI at this
        rw [List.length_map] at this
        omega
      refine ⟨sl' _ (by rw [List.length_map]; omega), y.2, w ++ [y.1], .d (.tup [plD y.1.1, .int y.1.2]), x7, .d (.int (i : Int)), x9, x10, .o (.lst (fd.map sucD)), ?_, by rw [List.length_append]; show w.length + 1 ≤ i + 1; omega, fun q hq => ?_, ?_⟩
      · rw [List.map_append]
        exact hw.snoc (p := Tm.plI y.1.1) (k := (y.1.2 : Int)) (by omega) (by rw [show ((y.1.2 : Int)).toNat = y.1.2 by omega]; exact hst) fy
      · rcases List.mem_append.mp hq with hq | hq
        · exact hwp q hq
        · rw [List.mem_singleton.mp hq]; exact hpl
      · rw [List.map_append]; rfl
  · rintro ρ' ⟨here, w, x6, x7, x8, x9, x10, x13, hw, hwl, hwp, rfl⟩
    rw [rng_length] at hwl
    exact aft7 K cS cL hS hL hks hkl hs hv tok tsz tdp hw (by omega) hwp _ _ _ _ _ _ _
theorem bulk_void (y : Nat) (h : (ct__law_bulk 0).pre y) : False := by
  obtain ⟨h1, h2, _⟩ : y % 2 = 1 ∧ y + 1 ≤ 2 ^ 0 ∧ y ≤ 1000 := h
  simp at h2
  omega
end PL

namespace PL
open PySem PySem.Spec PyProof.Rows L2
def topS (i : Nat) : Stmt := PySem.Challenge.pw_termtide_k07_whole_steps.main.body.getD i (.Pass ⟨0, 0, 0, 0⟩)
abbrev s_is_variable : Stmt := topS 7
abbrev s_inner : Stmt := topS 8
abbrev s_same : Stmt := topS 9
abbrev s_parts : Stmt := topS 10
abbrev s_size : Stmt := topS 11
abbrev s_depth : Stmt := topS 12
abbrev s_positions : Stmt := topS 13
abbrev s_at : Stmt := topS 14
abbrev s_put : Stmt := topS 15
abbrev s_need_small : Stmt := topS 16
abbrev s_variables : Stmt := topS 17
abbrev s_rebuilt : Stmt := topS 18
abbrev s_measure : Stmt := topS 19
abbrev s_apply : Stmt := topS 20
abbrev s_match : Stmt := topS 21
abbrev s_rewritten : Stmt := topS 23
abbrev s_step : Stmt := topS 24
abbrev s_derive : Stmt := topS 25
abbrev s_successors : Stmt := topS 26
abbrev s__law_stream : Stmt := topS 28
abbrev s__law_draw : Stmt := topS 29
abbrev s__law_pick : Stmt := topS 30
abbrev s__law_size : Stmt := topS 31
abbrev s__law_depth : Stmt := topS 32
abbrev s__law_places : Stmt := topS 33
abbrev s__law_at : Stmt := topS 34
abbrev s__law_put : Stmt := topS 35
abbrev s__law_variables : Stmt := topS 36
abbrev s__law_apply : Stmt := topS 37
abbrev s__law_match : Stmt := topS 38
abbrev s__law_term : Stmt := topS 39
abbrev s__law_some_symbols : Stmt := topS 40
abbrev s__law_rule : Stmt := topS 41
abbrev s__law_system : Stmt := topS 42
abbrev s__law_steps : Stmt := topS 43
abbrev s__law_is_large : Stmt := topS 44
abbrev s__law_bulk : Stmt := topS 45
abbrev s__law_doubled : Stmt := topS 46
abbrev s__law_raises : Stmt := topS 47
abbrev s__law_at_the_end : Stmt := topS 48
abbrev s_law : Stmt := topS 49
theorem sc_is_variable : FnScope ["t"] ["t"] (defScope s_is_variable) := ⟨rfl, rfl, rfl, by decide +kernel, rfl, by decide +kernel, by decide +kernel⟩
theorem sc_inner : FnScope ["t"] ["t"] (defScope s_inner) := ⟨rfl, rfl, rfl, by decide +kernel, rfl, by decide +kernel, by decide +kernel⟩
theorem sc_same : FnScope ["s", "t", "left", "one", "other"] ["s", "t"] (defScope s_same) := ⟨rfl, rfl, rfl, by decide +kernel, rfl, by decide +kernel, by decide +kernel⟩
theorem sc_parts : FnScope ["t", "found", "left", "one"] ["t"] (defScope s_parts) := ⟨rfl, rfl, rfl, by decide +kernel, rfl, by decide +kernel, by decide +kernel⟩
theorem sc_size : FnScope ["t"] ["t"] (defScope s_size) := ⟨rfl, rfl, rfl, by decide +kernel, rfl, by decide +kernel, by decide +kernel⟩
theorem sc_depth : FnScope ["t", "level", "count", "below", "one"] ["t"] (defScope s_depth) := ⟨rfl, rfl, rfl, by decide +kernel, rfl, by decide +kernel, by decide +kernel⟩
theorem sc_positions : FnScope ["t", "found", "left", "place", "one", "arguments", "k"] ["t"] (defScope s_positions) := ⟨rfl, rfl, rfl, by decide +kernel, rfl, by decide +kernel, by decide +kernel⟩
theorem sc_at : FnScope ["t", "p", "k", "arguments"] ["t", "p"] (defScope s_at) := ⟨rfl, rfl, rfl, by decide +kernel, rfl, by decide +kernel, by decide +kernel⟩
theorem sc_put : FnScope ["t", "p", "s", "way", "k", "arguments", "one"] ["t", "p", "s"] (defScope s_put) := ⟨rfl, rfl, rfl, by decide +kernel, rfl, by decide +kernel, by decide +kernel⟩
theorem sc_need_small : FnScope ["nodes", "deep"] ["nodes", "deep"] (defScope s_need_small) := ⟨rfl, rfl, rfl, by decide +kernel, rfl, by decide +kernel, by decide +kernel⟩
theorem sc_variables : FnScope ["t", "one"] ["t"] (defScope s_variables) := ⟨rfl, rfl, rfl, by decide +kernel, rfl, by decide +kernel, by decide +kernel⟩
theorem sc_rebuilt : FnScope ["t", "change", "done", "left", "one", "ready", "many", "arguments", "part"] ["t", "change"] (defScope s_rebuilt) := ⟨rfl, rfl, rfl, by decide +kernel, rfl, by decide +kernel, by decide +kernel⟩
theorem sc_measure : FnScope ["s", "t", "nodes", "deep", "sizes", "left", "one", "level", "more", "x", "part"] ["s", "t"] (defScope s_measure) := ⟨rfl, rfl, rfl, by decide +kernel, rfl, by decide +kernel, by decide +kernel⟩
theorem sc_apply : FnScope ["s", "t", "nodes", "deep"] ["s", "t"] (defScope s_apply) := ⟨rfl, rfl, rfl, by decide +kernel, rfl, by decide +kernel, by decide +kernel⟩
theorem sc_match : FnScope ["pattern", "t", "found", "left", "one", "other"] ["pattern", "t"] (defScope s_match) := ⟨rfl, rfl, rfl, by decide +kernel, rfl, by decide +kernel, by decide +kernel⟩
theorem sc_rewritten : FnScope ["system", "t", "place", "number", "left", "right", "found"] ["system", "t", "place", "number"] (defScope s_rewritten) := ⟨rfl, rfl, rfl, by decide +kernel, rfl, by decide +kernel, by decide +kernel⟩
theorem sc_step : FnScope ["system", "t", "one", "place", "number", "result"] ["system", "t", "one"] (defScope s_step) := ⟨rfl, rfl, rfl, by decide +kernel, rfl, by decide +kernel, by decide +kernel⟩
theorem sc_derive : FnScope ["system", "t", "steps", "one"] ["system", "t", "steps"] (defScope s_derive) := ⟨rfl, rfl, rfl, by decide +kernel, rfl, by decide +kernel, by decide +kernel⟩
theorem sc_successors : FnScope ["system", "t", "found", "place", "number", "result"] ["system", "t"] (defScope s_successors) := ⟨rfl, rfl, rfl, by decide +kernel, rfl, by decide +kernel, by decide +kernel⟩
theorem sc__law_stream : FnScope ["script", "mixed", "cell"] ["script"] (defScope s__law_stream) := ⟨rfl, rfl, rfl, by decide +kernel, rfl, by decide +kernel, by decide +kernel⟩
theorem sc__law_draw : FnScope ["stream", "many", "value"] ["stream", "many"] (defScope s__law_draw) := ⟨rfl, rfl, rfl, by decide +kernel, rfl, by decide +kernel, by decide +kernel⟩
theorem sc__law_pick : FnScope ["stream", "rows"] ["stream", "rows"] (defScope s__law_pick) := ⟨rfl, rfl, rfl, by decide +kernel, rfl, by decide +kernel, by decide +kernel⟩
theorem sc__law_size : FnScope ["t", "one"] ["t"] (defScope s__law_size) := ⟨rfl, rfl, rfl, by decide +kernel, rfl, by decide +kernel, by decide +kernel⟩
theorem sc__law_depth : FnScope ["t", "one"] ["t"] (defScope s__law_depth) := ⟨rfl, rfl, rfl, by decide +kernel, rfl, by decide +kernel, by decide +kernel⟩
theorem sc__law_places : FnScope ["t", "found", "k", "place"] ["t"] (defScope s__law_places) := ⟨rfl, rfl, rfl, by decide +kernel, rfl, by decide +kernel, by decide +kernel⟩
theorem sc__law_at : FnScope ["t", "place", "k"] ["t", "place"] (defScope s__law_at) := ⟨rfl, rfl, rfl, by decide +kernel, rfl, by decide +kernel, by decide +kernel⟩
theorem sc__law_put : FnScope ["t", "place", "s", "k"] ["t", "place", "s"] (defScope s__law_put) := ⟨rfl, rfl, rfl, by decide +kernel, rfl, by decide +kernel, by decide +kernel⟩
theorem sc__law_variables : FnScope ["t", "found", "one", "x"] ["t"] (defScope s__law_variables) := ⟨rfl, rfl, rfl, by decide +kernel, rfl, by decide +kernel, by decide +kernel⟩
theorem sc__law_apply : FnScope ["table", "t", "one"] ["table", "t"] (defScope s__law_apply) := ⟨rfl, rfl, rfl, by decide +kernel, rfl, by decide +kernel, by decide +kernel⟩
theorem sc__law_match : FnScope ["pattern", "t", "found", "todo", "one", "two", "k"] ["pattern", "t"] (defScope s__law_match) := ⟨rfl, rfl, rfl, by decide +kernel, rfl, by decide +kernel, by decide +kernel⟩
theorem sc__law_term : FnScope ["stream", "symbols", "names", "most", "deep", "able", "small", "symbol", "many", "left", "parts_v", "k", "part", "pair"] ["stream", "symbols", "names", "most", "deep"] (defScope s__law_term) := ⟨rfl, rfl, rfl, by decide +kernel, rfl, by decide +kernel, by decide +kernel⟩
theorem sc__law_some_symbols : FnScope ["stream", "most", "rows", "found", "k"] ["stream", "most"] (defScope s__law_some_symbols) := ⟨rfl, rfl, rfl, by decide +kernel, rfl, by decide +kernel, by decide +kernel⟩
theorem sc__law_rule : FnScope ["stream", "symbols", "most", "able", "left", "pair"] ["stream", "symbols", "most"] (defScope s__law_rule) := ⟨rfl, rfl, rfl, by decide +kernel, rfl, by decide +kernel, by decide +kernel⟩
theorem sc__law_system : FnScope ["stream", "symbols", "many", "most", "found", "left", "right", "k"] ["stream", "symbols", "many", "most"] (defScope s__law_system) := ⟨rfl, rfl, rfl, by decide +kernel, rfl, by decide +kernel, by decide +kernel⟩
theorem sc__law_steps : FnScope ["system", "t", "found", "place", "part", "k", "table"] ["system", "t"] (defScope s__law_steps) := ⟨rfl, rfl, rfl, by decide +kernel, rfl, by decide +kernel, by decide +kernel⟩
theorem sc__law_is_large : FnScope ["t"] ["t"] (defScope s__law_is_large) := ⟨rfl, rfl, rfl, by decide +kernel, rfl, by decide +kernel, by decide +kernel⟩
theorem sc__law_bulk : FnScope ["many", "one"] ["many"] (defScope s__law_bulk) := ⟨rfl, rfl, rfl, by decide +kernel, rfl, by decide +kernel, by decide +kernel⟩
theorem sc__law_doubled : FnScope ["many"] ["many"] (defScope s__law_doubled) := ⟨rfl, rfl, rfl, by decide +kernel, rfl, by decide +kernel, by decide +kernel⟩
theorem sc__law_raises : FnScope ["what", "system", "t", "one"] ["what", "system", "t", "one"] (defScope s__law_raises) := ⟨rfl, rfl, rfl, by decide +kernel, rfl, by decide +kernel, by decide +kernel⟩
theorem sc__law_at_the_end : FnScope ["stream", "wide", "many", "t", "is_large", "what"] ["stream"] (defScope s__law_at_the_end) := ⟨rfl, rfl, rfl, by decide +kernel, rfl, by decide +kernel, by decide +kernel⟩
theorem sc_law : FnScope ["script", "stream", "names", "system", "t", "due", "one", "result", "k", "right", "told", "here", "way", "found", "wrong", "refused", "table", "other", "x"] ["script"] (defScope s_law) := ⟨rfl, rfl, rfl, by decide +kernel, rfl, by decide +kernel, by decide +kernel⟩
abbrev TB (p_apply : Addr) : List (Addr × Str) := [(p_apply, lamQ "apply")]
structure Tops (K : PySem.W.Frag) (mg : Str → Option Value) (base : Heap) (c_LimitError : Addr) (c_StepError : Addr) (l_apply p_apply : Addr) : Prop where
  D_is_variable : DefOf K mg "is_variable" s_is_variable ["t"]
  D_inner : DefOf K mg "inner" s_inner ["t"]
  D_same : DefOf K mg "same" s_same ["s", "t"]
  D_parts : DefOf K mg "parts" s_parts ["t"]
  D_size : DefOf K mg "size" s_size ["t"]
  D_depth : DefOf K mg "depth" s_depth ["t"]
  D_positions : DefOf K mg "positions" s_positions ["t"]
  D_at : DefOf K mg "at" s_at ["t", "p"]
  D_put : DefOf K mg "put" s_put ["t", "p", "s"]
  D_need_small : DefOf K mg "need_small" s_need_small ["nodes", "deep"]
  D_variables : DefOf K mg "variables" s_variables ["t"]
  D_rebuilt : DefOf K mg "rebuilt" s_rebuilt ["t", "change"]
  D_measure : DefOf K mg "measure" s_measure ["s", "t"]
  D_apply : DefOfC K mg "apply" s_apply ["s", "t"] l_apply
  D_match : DefOf K mg "match" s_match ["pattern", "t"]
  D_rewritten : DefOf K mg "rewritten" s_rewritten ["system", "t", "place", "number"]
  D_step : DefOf K mg "step" s_step ["system", "t", "one"]
  D_derive : DefOf K mg "derive" s_derive ["system", "t", "steps"]
  D_successors : DefOf K mg "successors" s_successors ["system", "t"]
  D__law_stream : DefOf K mg "_law_stream" s__law_stream ["script"]
  D__law_draw : DefOf K mg "_law_draw" s__law_draw ["stream", "many"]
  D__law_pick : DefOf K mg "_law_pick" s__law_pick ["stream", "rows"]
  D__law_size : DefOf K mg "_law_size" s__law_size ["t"]
  D__law_depth : DefOf K mg "_law_depth" s__law_depth ["t"]
  D__law_places : DefOf K mg "_law_places" s__law_places ["t"]
  D__law_at : DefOf K mg "_law_at" s__law_at ["t", "place"]
  D__law_put : DefOf K mg "_law_put" s__law_put ["t", "place", "s"]
  D__law_variables : DefOf K mg "_law_variables" s__law_variables ["t"]
  D__law_apply : DefOf K mg "_law_apply" s__law_apply ["table", "t"]
  D__law_match : DefOf K mg "_law_match" s__law_match ["pattern", "t"]
  D__law_term : DefOf K mg "_law_term" s__law_term ["stream", "symbols", "names", "most", "deep"]
  D__law_some_symbols : DefOf K mg "_law_some_symbols" s__law_some_symbols ["stream", "most"]
  D__law_rule : DefOf K mg "_law_rule" s__law_rule ["stream", "symbols", "most"]
  D__law_system : DefOf K mg "_law_system" s__law_system ["stream", "symbols", "many", "most"]
  D__law_steps : DefOf K mg "_law_steps" s__law_steps ["system", "t"]
  D__law_is_large : DefOf K mg "_law_is_large" s__law_is_large ["t"]
  D__law_bulk : DefOf K mg "_law_bulk" s__law_bulk ["many"]
  D__law_doubled : DefOf K mg "_law_doubled" s__law_doubled ["many"]
  D__law_raises : DefOf K mg "_law_raises" s__law_raises ["what", "system", "t", "one"]
  D__law_at_the_end : DefOf K mg "_law_at_the_end" s__law_at_the_end ["stream"]
  tb_apply : LamX.TabB base mg l_apply p_apply
  lt_apply : LamTab (TB p_apply) p_apply (lamQ "apply")
  z_abs : mg "abs" = none
  z_any : mg "any" = none
  z_dict : mg "dict" = none
  z_int : mg "int" = none
  z_isinstance : mg "isinstance" = none
  z_len : mg "len" = none
  z_list : mg "list" = none
  z_max : mg "max" = none
  z_range : mg "range" = none
  z_str : mg "str" = none
  z_sum : mg "sum" = none
  z_tuple : mg "tuple" = none
  z_zip : mg "zip" = none
  g_MOST_NODES : ∃ t, mg "MOST_NODES" = some (.int 400 t)
  g_MOST_DEPTH : ∃ t, mg "MOST_DEPTH" = some (.int 40 t)
  x_LimitError : ExC K mg "LimitError" c_LimitError
  m_LimitError : PySem.W.exmOne K (.ref c_LimitError) (.ref c_LimitError) = some true
  x_StepError : ExC K mg "StepError" c_StepError
  m_StepError : PySem.W.exmOne K (.ref c_StepError) (.ref c_StepError) = some true
section
variable {P : Program} {w : World} {K : PySem.W.Frag} {mg : Str → Option Value} {base : Heap} {c_LimitError c_StepError l_apply p_apply : Addr}
theorem cal__law_draw (T : Tops K mg base c_LimitError c_StepError l_apply p_apply) : Cal P w K (TB p_apply) mg base CX0 1 "_law_draw" ["stream", "many"] ctDraw :=
  cal_draw T.D__law_draw sc__law_draw fun cdv f A outer s H E => (pss_cons (ps_if (PW.pt (pw_and (pt_cmpR op_eq (pe_ix ix_list (pv 0) pe_int (fun _ _ => rfl)) pe_int (nomark _)) (pw_and1 (pt_cmpR op_lt (pe_ix ix_list (pv 0) pe_int (fun _ _ => rfl)) (pe_callB call_len_seq rfl T.z_len PySem.boot_len (pa_cons (pe_ix ix_list (pv 0) pe_int (fun _ _ => rfl)) pa_nil)) (nomark _)))))
      (pss_cons (ps_asg (pe_callB call_abs rfl T.z_abs PyProof.Rows.boot_abs (pa_cons (pe_callTy call_int1 rfl T.z_int PyProof.Rows.boot_int (pa_cons (pe_ix ix_list (pe_ix ix_list (pv 0) pe_int (fun _ _ => rfl)) (pe_ix ix_list (pv 0) pe_int (fun _ _ => rfl)) (fun _ _ => rfl)) pa_nil)) pa_nil)) (pg_sub (pv 0) pe_int set_list)) (pss_one (ps_asg (pe_op op_add (pe_ix ix_list (pv 0) pe_int (fun _ _ => rfl)) pe_int) (pg_sub (pv 0) pe_int set_list)))) pss_nil)
    (pss_cons (ps_if (pt_cmpR op_eq (pe_ix ix_list (pv 0) pe_int (fun _ _ => rfl)) pe_int (nomark _)) (pss_cons (ps_asg (pe_op op_mod (pe_callTy call_int1 rfl T.z_int PyProof.Rows.boot_int (pa_cons (pe_op op_add (pe_op op_mul (pe_ix ix_list (pv 0) pe_int (fun _ _ => rfl)) pe_int) pe_int) pa_nil)) pe_int) (pg_sub (pv 0) pe_int set_list)) (pss_one (ps_ret (pe_op op_mod (pe_callTy call_int1 rfl T.z_int PyProof.Rows.boot_int (pa_cons (pe_op op_fdiv (pe_ix ix_list (pv 0) pe_int (fun _ _ => rfl)) pe_int) pa_nil)) (pv 1))))) pss_nil)
    (pss_cons (ps_set (i := 2) sc__law_draw.nd rfl (.inl rfl) (pe_op op_mod (pe_callTy call_int1 rfl T.z_int PyProof.Rows.boot_int (pa_cons (pe_ix ix_list (pv 0) pe_int (fun _ _ => rfl)) pa_nil)) (pv 1)))
    (pss_cons (ps_asg (pe_op op_fdiv (pe_ix ix_list (pv 0) pe_int (fun _ _ => rfl)) (pv 1)) (pg_sub (pv 0) pe_int set_list))
    (pss_one (ps_ret (pv 2)))))))
theorem ok__law_stream (T : Tops K mg base c_LimitError c_StepError l_apply p_apply) : StreamOf P w K mg base 160 "_law_stream" :=
  ok_stream (k := 159) T.D__law_stream sc__law_stream fun cdv f A outer s H E => (pss_cons (ps_set (i := 1) sc__law_stream.nd rfl (.inl rfl) pe_int)
    (pss_cons (ps_for PassesOwn.never rfl (pi_list (pv 0)) (pg_name (i := 2) sc__law_stream.nd rfl (.inl rfl)) (pss_one (ps_set (i := 1) sc__law_stream.nd rfl (.inl rfl) (pe_op op_mod (pe_callTy call_int1 rfl T.z_int PyProof.Rows.boot_int (pa_cons (pe_op op_add (pe_op op_add (pe_op op_mul (pv 1) pe_int) (pe_op op_mod (pe_callTy call_int1 rfl T.z_int PyProof.Rows.boot_int (pa_cons (pv 2) pa_nil)) pe_int)) pe_int) pa_nil)) pe_int))))
    (pss_one (ps_ret (pe_lst (pa_cons (pe_callTy call_list_of rfl T.z_list PyProof.Rows.boot_list (pa_cons (pv 0) pa_nil)) (pa_cons pe_int (pa_cons pe_int (pa_cons (pv 1) pa_nil)))))))))
theorem cal_is_variable (T : Tops K mg base c_LimitError c_StepError l_apply p_apply) : Cal P w K (TB p_apply) mg base CX0 1 "is_variable" ["t"] (ct_is_variable) := by
  exact cal_ok (k := 0) T.D_is_variable sc_is_variable _ (fun _ => rfl) fun cdv f A outer s H E S hS hr => ⟨_, ds_is_variable, (ss_one (sd_ret (pd_isi kit_str rfl (pd_var (pv 0)) T.z_isinstance T.z_str))), fun y hy => rd_is_variable y⟩
theorem cal_inner (T : Tops K mg base c_LimitError c_StepError l_apply p_apply) : Cal P w K (TB p_apply) mg base CX0 2 "inner" ["t"] (ct_inner) := by
  have G_is_variable := cal_is_variable (P := P) (w := w) (base := base) T
  exact cal_ok (k := 1) T.D_inner sc_inner _ (fun _ => rfl) fun cdv f A outer s H E S hS hr => ⟨_, ds_inner, (ss_one (sd_ret (pd_if (td_truth (pd_cal (G_is_variable.mono (by omega)) hS hr (ad_cons (pd_var (pv 0)) ad_nil))) (pd_tup ad_nil) (pd_ix (pd_var (pv 0)) pd_int)))), fun y hy => rd_inner y⟩
theorem cal_same (T : Tops K mg base c_LimitError c_StepError l_apply p_apply) : Cal P w K (TB p_apply) mg base CX0 3 "same" ["s", "t"] (ct_same) := by
  have G_is_variable := cal_is_variable (P := P) (w := w) (base := base) T
  exact cal_ok (k := 2) T.D_same sc_same _ (fun _ => rfl) fun cdv f A outer s H E S hS hr => ⟨_, ds_same, (ss_cons (sd_set (i := 2) sc_same.nd rfl (.inl rfl) (pd_lst (ad_cons (pd_tup (ad_cons (pd_var (pv 0)) (ad_cons (pd_var (pv 1)) ad_nil))) ad_nil)))
    (ss_cons (sd_while PassesOwn.never (td_truth (pd_var (pv 2))) (ss_cons (sd_pop (i := 2) (pv 2) (gd_tup rfl (gs_cons (gd_name (i := 3) sc_same.nd rfl (.inl rfl)) (gs_cons (gd_name (i := 4) sc_same.nd rfl (.inl rfl)) gs_nil))))
    (ss_one (sd_if (WD.td (wd_or (td_truth (pd_cal (G_is_variable.mono (by omega)) hS hr (ad_cons (pd_var (pv 3)) ad_nil))) (wd_or1 (td_truth (pd_cal (G_is_variable.mono (by omega)) hS hr (ad_cons (pd_var (pv 4)) ad_nil)))))) (ss_one (sd_if (WD.td (wd_or (td_ne (hu64 hr) (pd_cal (G_is_variable.mono (by omega)) hS hr (ad_cons (pd_var (pv 3)) ad_nil)) (pd_cal (G_is_variable.mono (by omega)) hS hr (ad_cons (pd_var (pv 4)) ad_nil))) (wd_or1 (td_ne (hu64 hr) (pd_var (pv 3)) (pd_var (pv 4)))))) (ss_one (sd_ret pd_bl)) ss_nil)) (ss_one (sd_if (WD.td (wd_or (td_ne (hu64 hr) (pd_ix (pd_var (pv 3)) pd_int) (pd_ix (pd_var (pv 4)) pd_int)) (wd_or1 (td_ne (hu64 hr) (pd_len T.z_len (ad_cons (pd_ix (pd_var (pv 3)) pd_int) ad_nil)) (pd_len T.z_len (ad_cons (pd_ix (pd_var (pv 4)) pd_int) ad_nil)))))) (ss_one (sd_ret pd_bl)) (ss_one (sd_ext (i := 2) (pv 2) (pd_lzip rfl T.z_list T.z_zip (pd_ix (pd_var (pv 3)) pd_int) (pd_ix (pd_var (pv 4)) pd_int))))))))))
    (ss_one (sd_ret pd_bl)))), fun y hy => rd_same y hy⟩
theorem cal_parts (T : Tops K mg base c_LimitError c_StepError l_apply p_apply) : Cal P w K (TB p_apply) mg base CX0 3 "parts" ["t"] (ct_parts) := by
  have G_inner := cal_inner (P := P) (w := w) (base := base) T
  exact cal_ok (k := 2) T.D_parts sc_parts _ (fun _ => rfl) fun cdv f A outer s H E S hS hr => ⟨_, ds_parts, (ss_cons (sd_set (i := 1) sc_parts.nd rfl (.inl rfl) (pd_lst ad_nil))
    (ss_cons (sd_set (i := 2) sc_parts.nd rfl (.inl rfl) (pd_lst (ad_cons (pd_var (pv 0)) ad_nil)))
    (ss_cons (sd_while PassesOwn.never (td_truth (pd_var (pv 2))) (ss_cons (sd_pop (i := 2) (pv 2) (gd_name (i := 3) sc_parts.nd rfl (.inl rfl)))
    (ss_cons (sd_app (i := 1) (pv 1) (pd_var (pv 3)))
    (ss_one (sd_ext (i := 2) (pv 2) (pd_rev (pd_cal (G_inner.mono (by omega)) hS hr (ad_cons (pd_var (pv 3)) ad_nil))))))))
    (ss_one (sd_retV (pv 1)))))), fun y hy => rd_parts y hy⟩
theorem cal_size (T : Tops K mg base c_LimitError c_StepError l_apply p_apply) : Cal P w K (TB p_apply) mg base CX0 4 "size" ["t"] (ct_size) := by
  have G_parts := cal_parts (P := P) (w := w) (base := base) T
  exact cal_ok (k := 3) T.D_size sc_size _ (fun _ => rfl) fun cdv f A outer s H E S hS hr => ⟨_, ds_size, (ss_one (sd_ret (pd_len T.z_len (ad_cons (pd_cal (G_parts.mono (by omega)) hS hr (ad_cons (pd_var (pv 0)) ad_nil)) ad_nil)))), fun y hy => rd_size y hy⟩
theorem cal_depth (T : Tops K mg base c_LimitError c_StepError l_apply p_apply) : Cal P w K (TB p_apply) mg base CX0 3 "depth" ["t"] (ct_depth) := by
  have G_inner := cal_inner (P := P) (w := w) (base := base) T
  exact cal_ok (k := 2) T.D_depth sc_depth _ (fun _ => rfl) fun cdv f A outer s H E S hS hr => ⟨_, ds_depth, (ss_cons (sd_set (i := 1) sc_depth.nd rfl (.inl rfl) (pd_lst (ad_cons (pd_var (pv 0)) ad_nil)))
    (ss_cons (sd_set (i := 2) sc_depth.nd rfl (.inl rfl) pd_int)
    (ss_cons (sd_while PassesOwn.never (td_truth (pd_var (pv 1))) (ss_cons (sd_augI (i := 2) ip_add sc_depth.nd rfl (.inl rfl) pd_int)
    (ss_cons (sd_set (i := 3) sc_depth.nd rfl (.inl rfl) (pd_lst ad_nil))
    (ss_cons (sd_for PassesOwn.never rfl (id_var (pv 1)) (gd_name (i := 4) sc_depth.nd rfl (.inl rfl)) (ss_one (sd_ext (i := 3) (pv 3) (pd_cal (G_inner.mono (by omega)) hS hr (ad_cons (pd_var (pv 4)) ad_nil)))))
    (ss_one (sd_alias (i := 1) sc_depth.nd rfl (.inl rfl) (pv 3)))))))
    (ss_one (sd_ret (pd_var (pv 2))))))), fun y hy => rd_depth y hy⟩
theorem cal_positions (T : Tops K mg base c_LimitError c_StepError l_apply p_apply) : Cal P w K (TB p_apply) mg base CX0 3 "positions" ["t"] (ct_positions) := by
  have G_inner := cal_inner (P := P) (w := w) (base := base) T
  exact cal_ok (k := 2) T.D_positions sc_positions _ (fun _ => rfl) fun cdv f A outer s H E S hS hr => ⟨_, ds_positions, (ss_cons (sd_set (i := 1) sc_positions.nd rfl (.inl rfl) (pd_lst ad_nil))
    (ss_cons (sd_set (i := 2) sc_positions.nd rfl (.inl rfl) (pd_lst (ad_cons (pd_tup (ad_cons (pd_tup ad_nil) (ad_cons (pd_var (pv 0)) ad_nil))) ad_nil)))
    (ss_cons (sd_while PassesOwn.never (td_truth (pd_var (pv 2))) (ss_cons (sd_pop (i := 2) (pv 2) (gd_tup rfl (gs_cons (gd_name (i := 3) sc_positions.nd rfl (.inl rfl)) (gs_cons (gd_name (i := 4) sc_positions.nd rfl (.inl rfl)) gs_nil))))
    (ss_cons (sd_app (i := 1) (pv 1) (pd_var (pv 3)))
    (ss_cons (sd_set (i := 5) sc_positions.nd rfl (.inl rfl) (pd_cal (G_inner.mono (by omega)) hS hr (ad_cons (pd_var (pv 4)) ad_nil)))
    (ss_one (sd_for PassesOwn.never rfl (id_rng3 T.z_range (ad_cons (pd_sub (pd_len T.z_len (ad_cons (pd_var (pv 5)) ad_nil)) pd_int) (ad_cons (pd_neg pd_int) (ad_cons (pd_neg pd_int) ad_nil)))) (gd_name (i := 6) sc_positions.nd rfl (.inl rfl)) (ss_one (sd_app (i := 2) (pv 2) (pd_tup (ad_cons (pd_add (pd_var (pv 3)) (pd_tup (ad_cons (pd_var (pv 6)) ad_nil))) (ad_cons (pd_ix (pd_var (pv 5)) (pd_var (pv 6))) ad_nil)))))))))))
    (ss_one (sd_retV (pv 1)))))), fun y hy => rd_positions y hy⟩
theorem cal_at (T : Tops K mg base c_LimitError c_StepError l_apply p_apply) : Cal P w K (TB p_apply) mg base (L2.CX P w) 3 "at" ["t", "p"] (ct_at c_StepError) := by
  have G_inner := cal_inner (P := P) (w := w) (base := base) T
  exact cal_okX (k := 2) T.D_at sc_at _ (fun _ => rfl) fun cdv f A outer s H E S hS hr => ⟨_, ds_at c_StepError, (ss_cons (sd_for (passes_of rfl) rfl (id_tup (pd_var (pv 1))) (gd_name (i := 2) sc_at.nd rfl (.inl rfl)) (ss_cons (sd_set (i := 3) sc_at.nd rfl (.inl rfl) (pd_cal (G_inner.mono (by omega)) hS hr (ad_cons (pd_var (pv 0)) ad_nil)))
    (ss_cons (sd_if (td_not (td_chain op_le op_lt op_fLe op_fLt pd_int (pd_var (pv 2)) (pd_len T.z_len (ad_cons (pd_var (pv 3)) ad_nil)))) (ss_one (sd_raise T.x_StepError rfl (takes_of rfl rfl rfl rfl))) ss_nil)
    (ss_one (sd_set (i := 0) sc_at.nd rfl (.inl rfl) (pd_ix (pd_var (pv 3)) (pd_var (pv 2))))))))
    (ss_one (sd_ret (pd_var (pv 0))))), fun y hy => rd_at c_StepError y hy⟩
theorem cal_need_small (T : Tops K mg base c_LimitError c_StepError l_apply p_apply) : Cal P w K (TB p_apply) mg base (L2.CX P w) 1 "need_small" ["nodes", "deep"] (ct_needL c_LimitError) := by
  exact cal_okX (k := 0) T.D_need_small sc_need_small _ (fun _ => rfl) fun cdv f A outer s H E S hS hr => ⟨_, ds_need_small c_LimitError, (ss_one (sd_if (WD.td (wd_or (td_gt (pd_var (pv 0)) (pd_gint rfl T.g_MOST_NODES)) (wd_or1 (td_gt (pd_var (pv 1)) (pd_gint rfl T.g_MOST_DEPTH))))) (ss_one (sd_raise T.x_LimitError rfl (takes_of rfl rfl rfl rfl))) ss_nil)), fun y hy => rd_need7 c_LimitError y hy⟩
theorem cal_put (T : Tops K mg base c_LimitError c_StepError l_apply p_apply) : Cal P w K (TB p_apply) mg base (L2.CX P w) 5 "put" ["t", "p", "s"] (ct_putL c_StepError c_LimitError) := by
  have G_inner := cal_inner (P := P) (w := w) (base := base) T
  have G_need_small := cal_need_small (P := P) (w := w) (base := base) T
  have G_size := cal_size (P := P) (w := w) (base := base) T
  have G_depth := cal_depth (P := P) (w := w) (base := base) T
  exact cal_okX (k := 4) T.D_put sc_put _ (fun _ => rfl) fun cdv f A outer s H E S hS hr => ⟨_, ds_put7 c_StepError c_LimitError, (ss_cons (sd_set (i := 3) sc_put.nd rfl (.inl rfl) (pd_lst ad_nil))
    (ss_cons (sd_for (passes_of rfl) rfl (id_tup (pd_var (pv 1))) (gd_name (i := 4) sc_put.nd rfl (.inl rfl)) (ss_cons (sd_set (i := 5) sc_put.nd rfl (.inl rfl) (pd_cal (G_inner.mono (by omega)) hS hr (ad_cons (pd_var (pv 0)) ad_nil)))
    (ss_cons (sd_if (td_not (td_chain op_le op_lt op_fLe op_fLt pd_int (pd_var (pv 4)) (pd_len T.z_len (ad_cons (pd_var (pv 5)) ad_nil)))) (ss_one (sd_raise T.x_StepError rfl (takes_of rfl rfl rfl rfl))) ss_nil)
    (ss_cons (sd_app (i := 3) (pv 3) (pd_tup (ad_cons (pd_var (pv 0)) (ad_cons (pd_var (pv 4)) ad_nil))))
    (ss_one (sd_set (i := 0) sc_put.nd rfl (.inl rfl) (pd_ix (pd_var (pv 5)) (pd_var (pv 4)))))))))
    (ss_cons (sd_for (passes_of rfl) rfl (id_new (pd_rev (pd_var (pv 3)))) (gd_tup rfl (gs_cons (gd_name (i := 6) sc_put.nd rfl (.inl rfl)) (gs_cons (gd_name (i := 4) sc_put.nd rfl (.inl rfl)) gs_nil))) (ss_one (sd_set (i := 2) sc_put.nd rfl (.inl rfl) (pd_tup (ad_cons (pd_ix (pd_var (pv 6)) pd_int) (ad_cons (pd_add (pd_add (pd_slice (pd_ix (pd_var (pv 6)) pd_int) od_none (od_some (pd_var (pv 4)))) (pd_tup (ad_cons (pd_var (pv 2)) ad_nil))) (pd_slice (pd_ix (pd_var (pv 6)) pd_int) (od_some (pd_add (pd_var (pv 4)) pd_int)) od_none)) ad_nil))))))
    (ss_cons (sd_expr (pd_calX (G_need_small.mono (by omega)) hS hr (takes_of rfl rfl rfl rfl) (ad_cons (pd_cal (G_size.mono (by omega)) hS hr (ad_cons (pd_var (pv 2)) ad_nil)) (ad_cons (pd_cal (G_depth.mono (by omega)) hS hr (ad_cons (pd_var (pv 2)) ad_nil)) ad_nil))))
    (ss_one (sd_ret (pd_var (pv 2)))))))), fun y hy => rd_put7 c_StepError c_LimitError y hy⟩
theorem cal_variables (T : Tops K mg base c_LimitError c_StepError l_apply p_apply) : Cal P w K (TB p_apply) mg base CX0 5 "variables" ["t"] (ct_variables) := by
  have G_parts := cal_parts (P := P) (w := w) (base := base) T
  have G_is_variable := cal_is_variable (P := P) (w := w) (base := base) T
  exact cal_ok (k := 4) T.D_variables sc_variables _ (fun _ => rfl) fun cdv f A outer s H E S hS hr => ⟨_, ds_variables, (ss_one (sd_ret (pd_tupD rfl T.z_tuple (ad_cons (pd_dc (own := [("one", 1)]) rfl sc_variables.nd (id_new (pd_cal (G_parts.mono (by omega)) hS hr (ad_cons (pd_var (pv 0)) ad_nil))) (blkOk_by (N := ["t", "one"]) (sc := defScope s_variables) (by decide +kernel)) (fun _ _ _ _ _ => (gd_name (i := 1) sc_variables.nd rfl (.inl rfl))) (fun _ _ _ _ _ => (ts_one (td_truth (pd_cal (G_is_variable.mono (by omega)) hS hr (ad_cons (pd_var (pv 1)) ad_nil))))) (fun _ _ _ _ _ => (pd_var (pv 1))) (fun _ _ _ _ _ => pd_bl)) ad_nil)))), fun y hy => rd_variables y hy⟩
theorem der_rebuilt (T : Tops K mg base c_LimitError c_StepError l_apply p_apply) {S : Sm} (hS : S.tb = (TB p_apply)) {cdv : Value} {g f : Addr} {A : Around} {outer : List Env} {s : Shared} {H : Hp} {F : Lw} {Nl fr : List Str} {al : Str} {C : Ct} {cvs : List V} {cs : List R} (hr : Room 20 (A.deeper (envOfC "rebuilt" (defScope s_rebuilt) s.heap.objs.size g cdv))) (L_change : LamIn (cxOf CX0 P w K mg base ["t", "change", "done", "left", "one", "ready", "many", "arguments", "part"] "rebuilt" (defScope s_rebuilt) g cdv A outer s H E0).nox S 10 f F Nl [al] fr C cvs cs) :
    ∃ t ds, SsD K (cxOf CX0 P w K mg base ["t", "change", "done", "left", "one", "ready", "many", "arguments", "part"] "rebuilt" (defScope s_rebuilt) g cdv A outer s H E0).nox S W0 (defBody s_rebuilt) t ds ∧ ∀ r P, gc_rebuilt r (fnOf C cs) P → ds (endsOf P noE) (argA r :: .k (.ref f) (LamAt K S f F cvs cs) :: anys (9 - 2)) := by
  have G_is_variable := cal_is_variable (P := P) (w := w) (base := base) T
  exact ⟨_, ds_rebuilt f (LamAt K S f F cvs cs) C cs, (ss_cons (sd_set (i := 2) sc_rebuilt.nd rfl (.inl rfl) (pd_lst ad_nil))
    (ss_cons (sd_set (i := 3) sc_rebuilt.nd rfl (.inl rfl) (pd_lst (ad_cons (pd_tup (ad_cons (pd_var (pv 0)) (ad_cons pd_bl ad_nil))) ad_nil)))
    (ss_cons (sd_while PassesOwn.never (td_truth (pd_var (pv 3))) (ss_cons (sd_pop (i := 3) (pv 3) (gd_tup rfl (gs_cons (gd_name (i := 4) sc_rebuilt.nd rfl (.inl rfl)) (gs_cons (gd_name (i := 5) sc_rebuilt.nd rfl (.inl rfl)) gs_nil))))
    (ss_one (sd_if (td_truth (pd_cal (G_is_variable.mono (by omega)) hS hr (ad_cons (pd_var (pv 4)) ad_nil))) (ss_one (sd_app (i := 2) (pv 2) (pd_fn (i := 1) L_change (hr.mono (by omega)) rfl (pd_var (pv 4))))) (ss_one (sd_if (td_truth (pd_var (pv 5))) (ss_cons (sd_set (i := 6) sc_rebuilt.nd rfl (.inl rfl) (pd_len T.z_len (ad_cons (pd_ix (pd_var (pv 4)) pd_int) ad_nil)))
    (ss_cons (sd_set (i := 7) sc_rebuilt.nd rfl (.inl rfl) (pd_slice (pd_var (pv 2)) (od_some (pd_sub (pd_len T.z_len (ad_cons (pd_var (pv 2)) ad_nil)) (pd_var (pv 6)))) od_none))
    (ss_cons (sd_set (i := 2) sc_rebuilt.nd rfl (.inl rfl) (pd_slice (pd_var (pv 2)) od_none (od_some (pd_sub (pd_len T.z_len (ad_cons (pd_var (pv 2)) ad_nil)) (pd_var (pv 6))))))
    (ss_one (sd_app (i := 2) (pv 2) (pd_tup (ad_cons (pd_ix (pd_var (pv 4)) pd_int) (ad_cons (pd_tuple T.z_tuple (ad_cons (pd_var (pv 7)) ad_nil)) ad_nil)))))))) (ss_cons (sd_app (i := 3) (pv 3) (pd_tup (ad_cons (pd_var (pv 4)) (ad_cons pd_bl ad_nil))))
    (ss_one (sd_ext (i := 3) (pv 3) (pd_lc (own := [("part", 8)]) rfl sc_rebuilt.nd (id_tup (pd_rev (pd_ix (pd_var (pv 4)) pd_int))) (blkOk_by (N := ["t", "change", "done", "left", "one", "ready", "many", "arguments", "part"]) (sc := defScope s_rebuilt) (by decide +kernel)) (fun _ _ _ _ _ => (gd_name (i := 8) sc_rebuilt.nd rfl (.inl rfl))) (fun _ _ _ _ _ => ts_nil) (fun _ _ _ _ _ => (pd_tup (ad_cons (pd_var (pv 8)) (ad_cons pd_bl ad_nil))))))))))))))
    (ss_one (sd_ret (pd_ix (pd_var (pv 2)) pd_int)))))), fun r P h => rd_rebuilt f _ C cs r P h⟩
theorem cal_measure (T : Tops K mg base c_LimitError c_StepError l_apply p_apply) : Cal P w K (TB p_apply) mg base CX0 8 "measure" ["s", "t"] (ct_measure) := by
  have G_variables := cal_variables (P := P) (w := w) (base := base) T
  have G_size := cal_size (P := P) (w := w) (base := base) T
  have G_depth := cal_depth (P := P) (w := w) (base := base) T
  have G_is_variable := cal_is_variable (P := P) (w := w) (base := base) T
  have G_inner := cal_inner (P := P) (w := w) (base := base) T
  exact cal_ok (k := 7) T.D_measure sc_measure _ (fun _ => rfl) fun cdv f A outer s H E S hS hr => ⟨_, ds_measure, (ss_cons (sd_set (i := 2) sc_measure.nd rfl (.inl rfl) pd_int)
    (ss_cons (sd_set (i := 3) sc_measure.nd rfl (.inl rfl) pd_int)
    (ss_cons (sd_setDc (i := 4) (own := [("x", 9)]) rfl sc_measure.nd rfl rfl rfl (id_tup (pd_cal (G_variables.mono (by omega)) hS hr (ad_cons (pd_var (pv 1)) ad_nil))) (blkOk_by (N := ["s", "t", "nodes", "deep", "sizes", "left", "one", "level", "more", "x", "part"]) (sc := defScope s_measure) (by decide +kernel)) (fun _ _ _ _ _ => (gd_name (i := 9) sc_measure.nd rfl (.inl rfl))) (fun _ _ _ _ _ => (ts_one (td_inDk (hu1 hr) (pd_var (pv 9)) (pd_var (pv 0))))) (fun _ _ _ _ _ => (pd_var (pv 9))) (fun _ _ _ _ _ => (pd_tup (ad_cons (pd_cal (G_size.mono (by omega)) hS hr (ad_cons (pd_getD (hu1 hr) (pd_var (pv 0)) (pd_var (pv 9))) ad_nil)) (ad_cons (pd_cal (G_depth.mono (by omega)) hS hr (ad_cons (pd_getD (hu1 hr) (pd_var (pv 0)) (pd_var (pv 9))) ad_nil)) ad_nil)))))
    (ss_cons (sd_set (i := 5) sc_measure.nd rfl (.inl rfl) (pd_lst (ad_cons (pd_tup (ad_cons (pd_var (pv 1)) (ad_cons pd_int ad_nil))) ad_nil)))
    (ss_cons (sd_while PassesOwn.never (td_truth (pd_var (pv 5))) (ss_cons (sd_pop (i := 5) (pv 5) (gd_tup rfl (gs_cons (gd_name (i := 6) sc_measure.nd rfl (.inl rfl)) (gs_cons (gd_name (i := 7) sc_measure.nd rfl (.inr rfl)) gs_nil))))
    (ss_cons (sd_set (i := 8) sc_measure.nd rfl (.inl rfl) (pd_if (td_truth (pd_cal (G_is_variable.mono (by omega)) hS hr (ad_cons (pd_var (pv 6)) ad_nil))) (pd_get2 (hu1 hr) (pd_var (pv 4)) (pd_var (pv 6)) (pd_tup (ad_cons pd_int (ad_cons pd_int ad_nil)))) (pd_tup (ad_cons pd_int (ad_cons pd_int ad_nil)))))
    (ss_cons (sd_augI (i := 2) ip_add sc_measure.nd rfl (.inl rfl) (pd_ix (pd_var (pv 8)) pd_int))
    (ss_cons (sd_set (i := 3) sc_measure.nd rfl (.inl rfl) (pd_max2 rfl T.z_max (ad_cons (pd_var (pv 3)) (ad_cons (pd_add (pd_var (pv 7)) (pd_ix (pd_var (pv 8)) pd_int)) ad_nil))))
    (ss_one (sd_ext (i := 5) (pv 5) (pd_lc (own := [("part", 10)]) rfl sc_measure.nd (id_tup (pd_cal (G_inner.mono (by omega)) hS hr (ad_cons (pd_var (pv 6)) ad_nil))) (blkOk_by (N := ["s", "t", "nodes", "deep", "sizes", "left", "one", "level", "more", "x", "part"]) (sc := defScope s_measure) (by decide +kernel)) (fun _ _ _ _ _ => (gd_name (i := 10) sc_measure.nd rfl (.inl rfl))) (fun _ _ _ _ _ => ts_nil) (fun _ _ _ _ _ => (pd_tup (ad_cons (pd_var (pv 10)) (ad_cons (pd_add (pd_var (pv 7)) pd_int) ad_nil))))))))))))
    (ss_one (sd_ret (pd_tup (ad_cons (pd_var (pv 2)) (ad_cons (pd_var (pv 3)) ad_nil)))))))))), fun y hy => rd_measure y hy⟩
theorem cal_apply (T : Tops K mg base c_LimitError c_StepError l_apply p_apply) : Cal P w K (TB p_apply) mg base (L2.CX P w) 25 "apply" ["s", "t"] (ct_applyL c_LimitError) := by
  have G_measure := cal_measure (P := P) (w := w) (base := base) T
  have G_need_small := cal_need_small (P := P) (w := w) (base := base) T
  exact cal_okLX (k := 24) T.D_apply sc_apply _ (fun _ => rfl) fun f A outer s H E S hS hr => ⟨_, ds_apply7 c_LimitError, (ss_cons (sd_unp (pd_cal (G_measure.mono (by omega)) hS hr (ad_cons (pd_var (pv 0)) (ad_cons (pd_var (pv 1)) ad_nil))) (gd_tup rfl (gs_cons (gd_name (i := 2) sc_apply.nd rfl (.inl rfl)) (gs_cons (gd_name (i := 3) sc_apply.nd rfl (.inl rfl)) gs_nil))))
    (ss_cons (sd_expr (pd_calX (G_need_small.mono (by omega)) hS hr (takes_of rfl rfl rfl rfl) (ad_cons (pd_var (pv 2)) (ad_cons (pd_var (pv 3)) ad_nil))))
    (ss_one (sd_ret (pd_lam (js := [0]) (fr := ["s"]) (Nl := ["x", "s"]) (al := "x") (k := 20) (m := 10) (C := ct_lam_apply) (Gc := gc_rebuilt) T.D_rebuilt sc_rebuilt (hr.mono (by omega)) T.tb_apply rfl (by rw [hS]; exact T.lt_apply.1) (by rw [hS]; exact T.lt_apply.2) (NdefX.nscope_by (by decide +kernel)) rfl (lamNames_by (fr := ["s"]) (sc := defScope s_apply) (by decide +kernel)).free (lamNames_by (fr := ["s"]) (sc := defScope s_apply) (by decide +kernel)).has rfl (fun _ _ _ _ _ us hl => match us, hl with | [_], _ => rfl) (fun cl c1 f1 A1 o1 s1 H1 hr => ⟨_, ds_lam_apply, (pd_get2 (hu1 hr) (pd_var (pv 1)) (pd_var (pv 0)) (pd_var (pv 0))), fun y hy hl => rd_lam_apply y hy⟩) (fun cdv g1 f1 A1 o1 s1 H1 F1 cvs cs hr L1 => der_rebuilt T hS hr L1) (pd_var (pv 1))))))), fun y hy => rd_apply7 c_LimitError y hy⟩
theorem cal_match (T : Tops K mg base c_LimitError c_StepError l_apply p_apply) : Cal P w K (TB p_apply) mg base CX0 5 "match" ["pattern", "t"] (ct_match) := by
  have G_is_variable := cal_is_variable (P := P) (w := w) (base := base) T
  have G_same := cal_same (P := P) (w := w) (base := base) T
  exact cal_ok (k := 4) T.D_match sc_match _ (fun _ => rfl) fun cdv f A outer s H E S hS hr => ⟨_, ds_match, (ss_cons (sd_set (i := 2) sc_match.nd rfl (.inl rfl) pd_dnew)
    (ss_cons (sd_set (i := 3) sc_match.nd rfl (.inl rfl) (pd_lst (ad_cons (pd_tup (ad_cons (pd_var (pv 0)) (ad_cons (pd_var (pv 1)) ad_nil))) ad_nil)))
    (ss_cons (sd_while PassesOwn.never (td_truth (pd_var (pv 3))) (ss_cons (sd_pop (i := 3) (pv 3) (gd_tup rfl (gs_cons (gd_name (i := 4) sc_match.nd rfl (.inl rfl)) (gs_cons (gd_name (i := 5) sc_match.nd rfl (.inl rfl)) gs_nil))))
    (ss_one (sd_if (td_truth (pd_cal (G_is_variable.mono (by omega)) hS hr (ad_cons (pd_var (pv 4)) ad_nil))) (ss_one (sd_if (td_inDk (hu1 hr) (pd_var (pv 4)) (pd_var (pv 2))) (ss_one (sd_if (td_not (td_truth (pd_cal (G_same.mono (by omega)) hS hr (ad_cons (pd_getD (hu1 hr) (pd_var (pv 2)) (pd_var (pv 4))) (ad_cons (pd_var (pv 5)) ad_nil))))) (ss_one (sd_ret pd_non)) ss_nil)) (ss_one (sd_putD (j := 2) (hu1 hr) (pv 2) (pd_var (pv 4)) (pd_var (pv 5)))))) (ss_one (sd_if (WD.td (wd_or (td_truth (pd_cal (G_is_variable.mono (by omega)) hS hr (ad_cons (pd_var (pv 5)) ad_nil))) (wd_or (td_ne (hu64 hr) (pd_ix (pd_var (pv 4)) pd_int) (pd_ix (pd_var (pv 5)) pd_int)) (wd_or1 (td_ne (hu64 hr) (pd_len T.z_len (ad_cons (pd_ix (pd_var (pv 4)) pd_int) ad_nil)) (pd_len T.z_len (ad_cons (pd_ix (pd_var (pv 5)) pd_int) ad_nil))))))) (ss_one (sd_ret pd_non)) (ss_one (sd_ext (i := 3) (pv 3) (pd_rev (pd_lzip rfl T.z_list T.z_zip (pd_ix (pd_var (pv 4)) pd_int) (pd_ix (pd_var (pv 5)) pd_int)))))))))))
    (ss_one (sd_retV (pv 2)))))), fun y hy => rd_match y hy⟩
theorem cal_rewritten (T : Tops K mg base c_LimitError c_StepError l_apply p_apply) : Cal P w K (TB p_apply) mg base (L2.CX P w) 26 "rewritten" ["system", "t", "place", "number"] (ct_rewritten c_StepError c_LimitError) := by
  have G_match := cal_match (P := P) (w := w) (base := base) T
  have G_at := cal_at (P := P) (w := w) (base := base) T
  have G_put := cal_put (P := P) (w := w) (base := base) T
  have G_apply := cal_apply (P := P) (w := w) (base := base) T
  exact cal_okX (k := 25) T.D_rewritten sc_rewritten _ (fun _ => rfl) fun cdv f A outer s H E S hS hr => ⟨_, ds_rewritten c_StepError c_LimitError, (ss_cons (sd_unp (pd_ix (pd_var (pv 0)) (pd_var (pv 3))) (gd_tup rfl (gs_cons (gd_name (i := 4) sc_rewritten.nd rfl (.inl rfl)) (gs_cons (gd_name (i := 5) sc_rewritten.nd rfl (.inl rfl)) gs_nil))))
    (ss_cons (sd_set (i := 6) sc_rewritten.nd rfl (.inl rfl) (pd_cal (G_match.mono (by omega)) hS hr (ad_cons (pd_var (pv 4)) (ad_cons (pd_calX (G_at.mono (by omega)) hS hr (takes_of rfl rfl rfl rfl) (ad_cons (pd_var (pv 1)) (ad_cons (pd_var (pv 2)) ad_nil))) ad_nil))))
    (ss_cons (sd_if (td_isN (pd_var (pv 6)) pd_non) (ss_one (sd_ret pd_non)) ss_nil)
    (ss_one (sd_ret (pd_calX (G_put.mono (by omega)) hS hr (takes_of rfl rfl rfl rfl) (ad_cons (pd_var (pv 1)) (ad_cons (pd_var (pv 2)) (ad_cons (pd_calX (G_apply.mono (by omega)) hS hr (takes_of rfl rfl rfl rfl) (ad_cons (pd_var (pv 6)) (ad_cons (pd_var (pv 5)) ad_nil))) ad_nil))))))))), fun y hy => rd_rewritten c_StepError c_LimitError y hy⟩
theorem cal_step (T : Tops K mg base c_LimitError c_StepError l_apply p_apply) : Cal P w K (TB p_apply) mg base (L2.CX P w) 27 "step" ["system", "t", "one"] (ct_step c_StepError c_LimitError) := by
  have G_rewritten := cal_rewritten (P := P) (w := w) (base := base) T
  exact cal_okX (k := 26) T.D_step sc_step _ (fun _ => rfl) fun cdv f A outer s H E S hS hr => ⟨_, ds_step c_StepError c_LimitError, (ss_cons (sd_unp (pd_var (pv 2)) (gd_tup rfl (gs_cons (gd_name (i := 3) sc_step.nd rfl (.inl rfl)) (gs_cons (gd_name (i := 4) sc_step.nd rfl (.inl rfl)) gs_nil))))
    (ss_cons (sd_if (td_not (td_chain op_le op_lt op_fLe op_fLt pd_int (pd_var (pv 4)) (pd_len T.z_len (ad_cons (pd_var (pv 0)) ad_nil)))) (ss_one (sd_raise T.x_StepError rfl (takes_of rfl rfl rfl rfl))) ss_nil)
    (ss_cons (sd_set (i := 5) sc_step.nd rfl (.inl rfl) (pd_calX (G_rewritten.mono (by omega)) hS hr (takes_of rfl rfl rfl rfl) (ad_cons (pd_var (pv 0)) (ad_cons (pd_var (pv 1)) (ad_cons (pd_var (pv 3)) (ad_cons (pd_var (pv 4)) ad_nil))))))
    (ss_cons (sd_if (td_isN (pd_var (pv 5)) pd_non) (ss_one (sd_raise T.x_StepError rfl (takes_of rfl rfl rfl rfl))) ss_nil)
    (ss_one (sd_ret (pd_var (pv 5)))))))), fun y hy => rd_step c_StepError c_LimitError y hy⟩
theorem cal_derive (T : Tops K mg base c_LimitError c_StepError l_apply p_apply) : Cal P w K (TB p_apply) mg base (L2.CX P w) 28 "derive" ["system", "t", "steps"] (ct_derive c_StepError c_LimitError) := by
  have G_step := cal_step (P := P) (w := w) (base := base) T
  exact cal_okX (k := 27) T.D_derive sc_derive _ (fun _ => rfl) fun cdv f A outer s H E S hS hr => ⟨_, ds_derive c_StepError c_LimitError, (ss_cons (sd_for (passes_of rfl) rfl (id_tup (pd_var (pv 2))) (gd_name (i := 3) sc_derive.nd rfl (.inl rfl)) (ss_one (sd_set (i := 1) sc_derive.nd rfl (.inl rfl) (pd_calX (G_step.mono (by omega)) hS hr (takes_of rfl rfl rfl rfl) (ad_cons (pd_var (pv 0)) (ad_cons (pd_var (pv 1)) (ad_cons (pd_var (pv 3)) ad_nil)))))))
    (ss_one (sd_ret (pd_var (pv 1))))), fun y hy => rd_derive c_StepError c_LimitError y hy⟩
theorem cal_successors (T : Tops K mg base c_LimitError c_StepError l_apply p_apply) : Cal P w K (TB p_apply) mg base (L2.CX P w) 28 "successors" ["system", "t"] (ct_successors c_LimitError) := by
  have G_positions := cal_positions (P := P) (w := w) (base := base) T
  have G_is_variable := cal_is_variable (P := P) (w := w) (base := base) T
  have G_at := cal_at (P := P) (w := w) (base := base) T
  have G_rewritten := cal_rewritten (P := P) (w := w) (base := base) T
  exact cal_okX (k := 27) T.D_successors sc_successors _ (fun _ => rfl) fun cdv f A outer s H E S hS hr => ⟨_, ds_successors c_StepError c_LimitError, (ss_cons (sd_set (i := 2) sc_successors.nd rfl (.inl rfl) (pd_lst ad_nil))
    (ss_cons (sd_for (passes_of rfl) rfl (id_new (pd_cal (G_positions.mono (by omega)) hS hr (ad_cons (pd_var (pv 1)) ad_nil))) (gd_name (i := 3) sc_successors.nd rfl (.inl rfl)) (ss_one (sd_if (td_not (td_truth (pd_cal (G_is_variable.mono (by omega)) hS hr (ad_cons (pd_calX (G_at.mono (by omega)) hS hr (takes_of rfl rfl rfl rfl) (ad_cons (pd_var (pv 1)) (ad_cons (pd_var (pv 3)) ad_nil))) ad_nil)))) (ss_one (sd_for (passes_of rfl) rfl (id_rng1 T.z_range (ad_cons (pd_len T.z_len (ad_cons (pd_var (pv 0)) ad_nil)) ad_nil)) (gd_name (i := 4) sc_successors.nd rfl (.inl rfl)) (ss_cons (sd_set (i := 5) sc_successors.nd rfl (.inl rfl) (pd_calX (G_rewritten.mono (by omega)) hS hr (takes_of rfl rfl rfl rfl) (ad_cons (pd_var (pv 0)) (ad_cons (pd_var (pv 1)) (ad_cons (pd_var (pv 3)) (ad_cons (pd_var (pv 4)) ad_nil))))))
    (ss_one (sd_if (td_notN (pd_var (pv 5)) pd_non) (ss_one (sd_app (i := 2) (pv 2) (pd_tup (ad_cons (pd_tup (ad_cons (pd_var (pv 3)) (ad_cons (pd_var (pv 4)) ad_nil))) (ad_cons (pd_var (pv 5)) ad_nil))))) ss_nil))))) ss_nil)))
    (ss_one (sd_retV (pv 2))))), fun y hy => rd_successors c_StepError c_LimitError y hy⟩
theorem cal__law_pick (T : Tops K mg base c_LimitError c_StepError l_apply p_apply) : Cal P w K (TB p_apply) mg base CX0 2 "_law_pick" ["stream", "rows"] (ct__law_pick) := by
  have G__law_draw := cal__law_draw (P := P) (w := w) (base := base) T
  exact cal_ok (k := 1) T.D__law_pick sc__law_pick _ (fun _ => rfl) fun cdv f A outer s H E S hS hr => ⟨_, ds__law_pick, (ss_one (sd_ret (pd_ix (pd_var (pv 1)) (pd_cal (G__law_draw.mono (by omega)) hS hr (ad_cons (pd_var (pv 0)) (ad_cons (pd_len T.z_len (ad_cons (pd_var (pv 1)) ad_nil)) ad_nil)))))), fun y hy => rd__law_pick y hy⟩
theorem cal__law_size (T : Tops K mg base c_LimitError c_StepError l_apply p_apply) : ∀ n, Cal P w K (TB p_apply) mg base CX0 (1 + n) "_law_size" ["t"] (ct__law_size n)
  | 0 => cal_void T.D__law_size fun y h => absurd h.1 (by have := Tm.depth_pos y; show ¬ y.depth ≤ 0; omega)
  | n + 1 => by
    have G__law_size := cal__law_size T n
    exact cal_ok (k := 1 + n) T.D__law_size sc__law_size _ (fun _ => rfl) fun cdv f A outer s H E S hS hr => ⟨_, ds__law_size n, (ss_one (sd_ret (pd_if (td_truth (pd_isi kit_str rfl (pd_var (pv 0)) T.z_isinstance T.z_str)) pd_int (pd_add pd_int (pd_sum rfl T.z_sum (ad_cons (pd_lc (own := [("one", 1)]) rfl sc__law_size.nd (id_tup (pd_ix (pd_var (pv 0)) pd_int)) (blkOk_by (N := ["t", "one"]) (sc := defScope s__law_size) (by decide +kernel)) (fun _ _ _ _ _ => (gd_name (i := 1) sc__law_size.nd rfl (.inl rfl))) (fun _ _ _ _ _ => ts_nil) (fun _ _ _ _ _ => (pd_cal (G__law_size.mono (by omega)) hS hr (ad_cons (pd_var (pv 1)) ad_nil)))) ad_nil)))))), fun y hy => rd__law_size n y hy⟩
theorem cal__law_depth (T : Tops K mg base c_LimitError c_StepError l_apply p_apply) : ∀ n, Cal P w K (TB p_apply) mg base CX0 (1 + n) "_law_depth" ["t"] (ct__law_depth n)
  | 0 => cal_void T.D__law_depth fun y h => absurd h.1 (by have := Tm.depth_pos y; show ¬ y.depth ≤ 0; omega)
  | n + 1 => by
    have G__law_depth := cal__law_depth T n
    exact cal_ok (k := 1 + n) T.D__law_depth sc__law_depth _ (fun _ => rfl) fun cdv f A outer s H E S hS hr => ⟨_, ds__law_depth n, (ss_cons (sd_if (WD.td (wd_or (td_truth (pd_isi kit_str rfl (pd_var (pv 0)) T.z_isinstance T.z_str)) (wd_or1 (td_not (td_truth (pd_ix (pd_var (pv 0)) pd_int)))))) (ss_one (sd_ret pd_int)) ss_nil)
    (ss_one (sd_ret (pd_add pd_int (pd_maxL rfl T.z_max (ad_cons (pd_lc (own := [("one", 1)]) rfl sc__law_depth.nd (id_tup (pd_ix (pd_var (pv 0)) pd_int)) (blkOk_by (N := ["t", "one"]) (sc := defScope s__law_depth) (by decide +kernel)) (fun _ _ _ _ _ => (gd_name (i := 1) sc__law_depth.nd rfl (.inl rfl))) (fun _ _ _ _ _ => ts_nil) (fun _ _ _ _ _ => (pd_cal (G__law_depth.mono (by omega)) hS hr (ad_cons (pd_var (pv 1)) ad_nil)))) ad_nil)))))), fun y hy => rd__law_depth n y hy⟩
theorem cal__law_places (T : Tops K mg base c_LimitError c_StepError l_apply p_apply) : ∀ n, Cal P w K (TB p_apply) mg base CX0 (1 + n) "_law_places" ["t"] (ct__law_places n)
  | 0 => cal_void T.D__law_places fun y h => absurd h.1 (by have := Tm.depth_pos y; show ¬ y.depth ≤ 0; omega)
  | n + 1 => by
    have G__law_places := cal__law_places T n
    exact cal_ok (k := 1 + n) T.D__law_places sc__law_places _ (fun _ => rfl) fun cdv f A outer s H E S hS hr => ⟨_, ds__law_places n, (ss_cons (sd_set (i := 1) sc__law_places.nd rfl (.inl rfl) (pd_lst (ad_cons (pd_tup ad_nil) ad_nil)))
    (ss_cons (sd_if (td_not (td_truth (pd_isi kit_str rfl (pd_var (pv 0)) T.z_isinstance T.z_str))) (ss_one (sd_for PassesOwn.never rfl (id_rng1 T.z_range (ad_cons (pd_len T.z_len (ad_cons (pd_ix (pd_var (pv 0)) pd_int) ad_nil)) ad_nil)) (gd_name (i := 2) sc__law_places.nd rfl (.inr rfl)) (ss_one (sd_ext (i := 1) (pv 1) (pd_lc (own := [("place", 3)]) rfl sc__law_places.nd (id_new (pd_cal (G__law_places.mono (by omega)) hS hr (ad_cons (pd_ix (pd_ix (pd_var (pv 0)) pd_int) (pd_var (pv 2))) ad_nil))) (blkOk_by (N := ["t", "found", "k", "place"]) (sc := defScope s__law_places) (by decide +kernel)) (fun _ _ _ _ _ => (gd_name (i := 3) sc__law_places.nd rfl (.inl rfl))) (fun _ _ _ _ _ => ts_nil) (fun _ _ _ _ _ => (pd_add (pd_tup (ad_cons (pd_var (pv 2)) ad_nil)) (pd_var (pv 3))))))))) ss_nil)
    (ss_one (sd_retV (pv 1))))), fun y hy => rd__law_places n y hy⟩
theorem cal__law_at (T : Tops K mg base c_LimitError c_StepError l_apply p_apply) : Cal P w K (TB p_apply) mg base CX0 1 "_law_at" ["t", "place"] (ct__law_at) := by
  exact cal_ok (k := 0) T.D__law_at sc__law_at _ (fun _ => rfl) fun cdv f A outer s H E S hS hr => ⟨_, ds__law_at, (ss_cons (sd_for PassesOwn.never rfl (id_tup (pd_var (pv 1))) (gd_name (i := 2) sc__law_at.nd rfl (.inl rfl)) (ss_cons (sd_if (WD.td (wd_or (td_truth (pd_isi kit_str rfl (pd_var (pv 0)) T.z_isinstance T.z_str)) (wd_or (td_lt (pd_var (pv 2)) pd_int) (wd_or1 (td_ge (pd_var (pv 2)) (pd_len T.z_len (ad_cons (pd_ix (pd_var (pv 0)) pd_int) ad_nil))))))) (ss_one (sd_ret pd_non)) ss_nil)
    (ss_one (sd_set (i := 0) sc__law_at.nd rfl (.inl rfl) (pd_ix (pd_ix (pd_var (pv 0)) pd_int) (pd_var (pv 2)))))))
    (ss_one (sd_ret (pd_var (pv 0))))), fun y hy => rd__law_at y hy⟩
theorem cal__law_put (T : Tops K mg base c_LimitError c_StepError l_apply p_apply) : ∀ n, Cal P w K (TB p_apply) mg base CX0 (1 + n) "_law_put" ["t", "place", "s"] (ct__law_put n)
  | 0 => cal_void T.D__law_put fun y h => absurd h.1 (Nat.not_lt_zero _)
  | n + 1 => by
    have G__law_put := cal__law_put T n
    exact cal_ok (k := 1 + n) T.D__law_put sc__law_put _ (fun _ => rfl) fun cdv f A outer s H E S hS hr => ⟨_, ds__law_put n, (ss_cons (sd_if (td_not (td_truth (pd_var (pv 1)))) (ss_one (sd_ret (pd_var (pv 2)))) ss_nil)
    (ss_cons (sd_set (i := 3) sc__law_put.nd rfl (.inl rfl) (pd_ix (pd_var (pv 1)) pd_int))
    (ss_one (sd_ret (pd_tup (ad_cons (pd_ix (pd_var (pv 0)) pd_int) (ad_cons (pd_add (pd_add (pd_slice (pd_ix (pd_var (pv 0)) pd_int) od_none (od_some (pd_var (pv 3)))) (pd_tup (ad_cons (pd_cal (G__law_put.mono (by omega)) hS hr (ad_cons (pd_ix (pd_ix (pd_var (pv 0)) pd_int) (pd_var (pv 3))) (ad_cons (pd_slice (pd_var (pv 1)) (od_some pd_int) od_none) (ad_cons (pd_var (pv 2)) ad_nil)))) ad_nil))) (pd_slice (pd_ix (pd_var (pv 0)) pd_int) (od_some (pd_add (pd_var (pv 3)) pd_int)) od_none)) ad_nil))))))), fun y hy => rd__law_put n y hy⟩
theorem cal__law_variables (T : Tops K mg base c_LimitError c_StepError l_apply p_apply) : ∀ n, Cal P w K (TB p_apply) mg base CX0 (1 + n) "_law_variables" ["t"] (ct__law_variables n)
  | 0 => cal_void T.D__law_variables fun y h => absurd h.1 (by have := Tm.depth_pos y; show ¬ y.depth ≤ 0; omega)
  | n + 1 => by
    have G__law_variables := cal__law_variables T n
    exact cal_ok (k := 1 + n) T.D__law_variables sc__law_variables _ (fun _ => rfl) fun cdv f A outer s H E S hS hr => ⟨_, ds__law_variables n, (ss_cons (sd_if (td_truth (pd_isi kit_str rfl (pd_var (pv 0)) T.z_isinstance T.z_str)) (ss_one (sd_ret (pd_lst (ad_cons (pd_var (pv 0)) ad_nil)))) ss_nil)
    (ss_cons (sd_set (i := 1) sc__law_variables.nd rfl (.inr rfl) (pd_lst ad_nil))
    (ss_cons (sd_for PassesOwn.never rfl (id_tup (pd_ix (pd_var (pv 0)) pd_int)) (gd_name (i := 2) sc__law_variables.nd rfl (.inl rfl)) (ss_one (sd_ext (i := 1) (pv 1) (pd_lc (own := [("x", 3)]) rfl sc__law_variables.nd (id_new (pd_cal (G__law_variables.mono (by omega)) hS hr (ad_cons (pd_var (pv 2)) ad_nil))) (blkOk_by (N := ["t", "found", "one", "x"]) (sc := defScope s__law_variables) (by decide +kernel)) (fun _ _ _ _ _ => (gd_name (i := 3) sc__law_variables.nd rfl (.inl rfl))) (fun _ _ _ _ _ => (ts_one (td_notIn (hu65 hr) (pd_var (pv 3)) (pd_var (pv 1))))) (fun _ _ _ _ _ => (pd_var (pv 3)))))))
    (ss_one (sd_retV (pv 1)))))), fun y hy => rd__law_variables n y hy⟩
theorem cal__law_apply (T : Tops K mg base c_LimitError c_StepError l_apply p_apply) : ∀ n, Cal P w K (TB p_apply) mg base CX0 (1 + n) "_law_apply" ["table", "t"] (ct__law_apply n)
  | 0 => cal_void T.D__law_apply fun y h => absurd h.1 (by have := Tm.depth_pos y.2; show ¬ y.2.depth ≤ 0; omega)
  | n + 1 => by
    have G__law_apply := cal__law_apply T n
    exact cal_ok (k := 1 + n) T.D__law_apply sc__law_apply _ (fun _ => rfl) fun cdv f A outer s H E S hS hr => ⟨_, ds__law_apply n, (ss_cons (sd_if (td_truth (pd_isi kit_str rfl (pd_var (pv 1)) T.z_isinstance T.z_str)) (ss_one (sd_ret (pd_if (td_inDk (hu1 hr) (pd_var (pv 1)) (pd_var (pv 0))) (pd_getD (hu1 hr) (pd_var (pv 0)) (pd_var (pv 1))) (pd_var (pv 1))))) ss_nil)
    (ss_one (sd_ret (pd_tup (ad_cons (pd_ix (pd_var (pv 1)) pd_int) (ad_cons (pd_tuple T.z_tuple (ad_cons (pd_lc (own := [("one", 2)]) rfl sc__law_apply.nd (id_tup (pd_ix (pd_var (pv 1)) pd_int)) (blkOk_by (N := ["table", "t", "one"]) (sc := defScope s__law_apply) (by decide +kernel)) (fun _ _ _ _ _ => (gd_name (i := 2) sc__law_apply.nd rfl (.inl rfl))) (fun _ _ _ _ _ => ts_nil) (fun _ _ _ _ _ => (pd_cal (G__law_apply.mono (by omega)) hS hr (ad_cons (pd_var (pv 0)) (ad_cons (pd_var (pv 2)) ad_nil))))) ad_nil)) ad_nil)))))), fun y hy => rd__law_apply n y hy⟩
theorem cal__law_match (T : Tops K mg base c_LimitError c_StepError l_apply p_apply) : Cal P w K (TB p_apply) mg base CX0 3 "_law_match" ["pattern", "t"] (ct__law_match) := by
  exact cal_ok (k := 2) T.D__law_match sc__law_match _ (fun _ => rfl) fun cdv f A outer s H E S hS hr => ⟨_, ds__law_match, (ss_cons (sd_set (i := 2) sc__law_match.nd rfl (.inl rfl) pd_dnew)
    (ss_cons (sd_set (i := 3) sc__law_match.nd rfl (.inl rfl) (pd_lst (ad_cons (pd_tup (ad_cons (pd_var (pv 0)) (ad_cons (pd_var (pv 1)) ad_nil))) ad_nil)))
    (ss_cons (sd_while PassesOwn.never (td_truth (pd_var (pv 3))) (ss_cons (sd_pop (i := 3) (pv 3) (gd_tup rfl (gs_cons (gd_name (i := 4) sc__law_match.nd rfl (.inr rfl)) (gs_cons (gd_name (i := 5) sc__law_match.nd rfl (.inr rfl)) gs_nil))))
    (ss_one (sd_if (td_truth (pd_isi kit_str rfl (pd_var (pv 4)) T.z_isinstance T.z_str)) (ss_one (sd_if (td_inDk (hu1 hr) (pd_var (pv 4)) (pd_var (pv 2))) (ss_one (sd_if (td_ne (hu64 hr) (pd_getD (hu1 hr) (pd_var (pv 2)) (pd_var (pv 4))) (pd_var (pv 5))) (ss_one (sd_ret pd_non)) ss_nil)) (ss_one (sd_putD (j := 2) (hu1 hr) (pv 2) (pd_var (pv 4)) (pd_var (pv 5)))))) (ss_one (sd_if (WD.td (wd_or (td_truth (pd_isi kit_str rfl (pd_var (pv 5)) T.z_isinstance T.z_str)) (wd_or (td_ne (hu64 hr) (pd_ix (pd_var (pv 4)) pd_int) (pd_ix (pd_var (pv 5)) pd_int)) (wd_or1 (td_ne (hu64 hr) (pd_len T.z_len (ad_cons (pd_ix (pd_var (pv 4)) pd_int) ad_nil)) (pd_len T.z_len (ad_cons (pd_ix (pd_var (pv 5)) pd_int) ad_nil))))))) (ss_one (sd_ret pd_non)) (ss_one (sd_ext (i := 3) (pv 3) (pd_lc (own := [("k", 6)]) rfl sc__law_match.nd (id_rng1 T.z_range (ad_cons (pd_len T.z_len (ad_cons (pd_ix (pd_var (pv 4)) pd_int) ad_nil)) ad_nil)) (blkOk_by (N := ["pattern", "t", "found", "todo", "one", "two", "k"]) (sc := defScope s__law_match) (by decide +kernel)) (fun _ _ _ _ _ => (gd_name (i := 6) sc__law_match.nd rfl (.inl rfl))) (fun _ _ _ _ _ => ts_nil) (fun _ _ _ _ _ => (pd_tup (ad_cons (pd_ix (pd_ix (pd_var (pv 4)) pd_int) (pd_var (pv 6))) (ad_cons (pd_ix (pd_ix (pd_var (pv 5)) pd_int) (pd_var (pv 6))) ad_nil)))))))))))))
    (ss_one (sd_retV (pv 2)))))), fun y hy => rd__law_match y hy⟩
theorem cal__law_term (T : Tops K mg base c_LimitError c_StepError l_apply p_apply) : ∀ n, Cal P w K (TB p_apply) mg base CX0 (50 + n) "_law_term" ["stream", "symbols", "names", "most", "deep"] (ct__law_term n)
  | 0 => cal_void T.D__law_term fun y h => by obtain ⟨_, _, _, _, _, _, h1, h2, _⟩ := h; have h1 : 1 ≤ y.deep := h1; have h2 : y.deep ≤ 0 := h2; omega
  | n + 1 => by
    have G__law_term := cal__law_term T n
    have G__law_draw := cal__law_draw (P := P) (w := w) (base := base) T
    have G__law_pick := cal__law_pick (P := P) (w := w) (base := base) T
    have G__law_size := cal__law_size (P := P) (w := w) (base := base) T 40
    exact cal_ok (k := 50 + n) T.D__law_term sc__law_term _ (fun _ => rfl) fun cdv f A outer s H E S hS hr => ⟨_, ds__law_term n, (ss_cons (sd_setLc (i := 5) (own := [("pair", 13)]) rfl sc__law_term.nd rfl rfl rfl (id_var (pv 1)) (blkOk_by (N := ["stream", "symbols", "names", "most", "deep", "able", "small", "symbol", "many", "left", "parts_v", "k", "part", "pair"]) (sc := defScope s__law_term) (by decide +kernel)) (fun _ _ _ _ _ => (gd_name (i := 13) sc__law_term.nd rfl (.inl rfl))) (fun _ _ _ _ _ => (ts_one (WD.td (wd_or (td_eq (hu64 hr) (pd_ix (pd_var (pv 13)) pd_int) pd_int) (wd_or1 (WD.td (wd_and (td_gt (pd_var (pv 3)) (pd_ix (pd_var (pv 13)) pd_int)) (wd_and1 (td_gt (pd_var (pv 4)) pd_int))))))))) (fun _ _ _ _ _ => (pd_var (pv 13))))
    (ss_cons (sd_if (WD.td (wd_and (td_truth (pd_var (pv 2))) (wd_and1 (WD.td (wd_or (td_not (td_truth (pd_var (pv 5)))) (wd_or (td_le (pd_var (pv 3)) pd_int) (wd_or1 (td_eq (hu64 hr) (pd_cal (G__law_draw.mono (by omega)) hS hr (ad_cons (pd_var (pv 0)) (ad_cons pd_int ad_nil))) pd_int)))))))) (ss_one (sd_ret (pd_cal (G__law_pick.mono (by omega)) hS hr (ad_cons (pd_var (pv 0)) (ad_cons (pd_var (pv 2)) ad_nil))))) ss_nil)
    (ss_cons (sd_if (WD.td (wd_or (td_le (pd_var (pv 3)) pd_int) (wd_or (td_le (pd_var (pv 4)) pd_int) (wd_or1 (td_eq (hu64 hr) (pd_cal (G__law_draw.mono (by omega)) hS hr (ad_cons (pd_var (pv 0)) (ad_cons pd_int ad_nil))) pd_int))))) (ss_cons (sd_setLc (i := 6) (own := [("pair", 13)]) rfl sc__law_term.nd rfl rfl rfl (id_var (pv 5)) (blkOk_by (N := ["stream", "symbols", "names", "most", "deep", "able", "small", "symbol", "many", "left", "parts_v", "k", "part", "pair"]) (sc := defScope s__law_term) (by decide +kernel)) (fun _ _ _ _ _ => (gd_name (i := 13) sc__law_term.nd rfl (.inl rfl))) (fun _ _ _ _ _ => (ts_one (td_eq (hu64 hr) (pd_ix (pd_var (pv 13)) pd_int) pd_int))) (fun _ _ _ _ _ => (pd_var (pv 13))))
    (ss_one (sd_if (td_truth (pd_var (pv 6))) (ss_one (sd_alias (i := 5) sc__law_term.nd rfl (.inl rfl) (pv 6))) ss_nil))) ss_nil)
    (ss_cons (sd_if (td_not (td_truth (pd_var (pv 5)))) (ss_one (sd_ret pd_str)) ss_nil)
    (ss_cons (sd_unp (pd_cal (G__law_pick.mono (by omega)) hS hr (ad_cons (pd_var (pv 0)) (ad_cons (pd_var (pv 5)) ad_nil))) (gd_tup rfl (gs_cons (gd_name (i := 7) sc__law_term.nd rfl (.inl rfl)) (gs_cons (gd_name (i := 8) sc__law_term.nd rfl (.inl rfl)) gs_nil))))
    (ss_cons (sd_set (i := 9) sc__law_term.nd rfl (.inl rfl) (pd_sub (pd_var (pv 3)) pd_int))
    (ss_cons (sd_set (i := 10) sc__law_term.nd rfl (.inl rfl) (pd_lst ad_nil))
    (ss_cons (sd_for PassesOwn.never rfl (id_rng1 T.z_range (ad_cons (pd_var (pv 8)) ad_nil)) (gd_name (i := 11) sc__law_term.nd rfl (.inl rfl)) (ss_cons (sd_set (i := 12) sc__law_term.nd rfl (.inl rfl) (pd_cal (G__law_term.mono (by omega)) hS hr (ad_cons (pd_var (pv 0)) (ad_cons (pd_var (pv 1)) (ad_cons (pd_var (pv 2)) (ad_cons (pd_if (td_eq (hu64 hr) (pd_var (pv 11)) (pd_sub (pd_var (pv 8)) pd_int)) (pd_max2 rfl T.z_max (ad_cons pd_int (ad_cons (pd_sub (pd_var (pv 9)) (pd_sub (pd_sub (pd_var (pv 8)) pd_int) (pd_var (pv 11)))) ad_nil))) (pd_add pd_int (pd_cal (G__law_draw.mono (by omega)) hS hr (ad_cons (pd_var (pv 0)) (ad_cons (pd_max2 rfl T.z_max (ad_cons pd_int (ad_cons (pd_sub (pd_var (pv 9)) (pd_sub (pd_sub (pd_var (pv 8)) pd_int) (pd_var (pv 11)))) ad_nil))) ad_nil))))) (ad_cons (pd_sub (pd_var (pv 4)) pd_int) ad_nil)))))))
    (ss_cons (sd_app (i := 10) (pv 10) (pd_var (pv 12)))
    (ss_one (sd_set (i := 9) sc__law_term.nd rfl (.inl rfl) (pd_sub (pd_var (pv 9)) (pd_cal (G__law_size.mono (by omega)) hS hr (ad_cons (pd_var (pv 12)) ad_nil))))))))
    (ss_one (sd_ret (pd_tup (ad_cons (pd_var (pv 7)) (ad_cons (pd_tuple T.z_tuple (ad_cons (pd_var (pv 10)) ad_nil)) ad_nil))))))))))))), fun y hy => rd__law_term n y hy⟩
theorem cal__law_some_symbols (T : Tops K mg base c_LimitError c_StepError l_apply p_apply) : Cal P w K (TB p_apply) mg base CX0 3 "_law_some_symbols" ["stream", "most"] (ct__law_some_symbols) := by
  have G__law_draw := cal__law_draw (P := P) (w := w) (base := base) T
  exact cal_ok (k := 2) T.D__law_some_symbols sc__law_some_symbols _ (fun _ => rfl) fun cdv f A outer s H E S hS hr => ⟨_, ds__law_some_symbols, (ss_cons (sd_set (i := 2) sc__law_some_symbols.nd rfl (.inl rfl) (pd_lst (ad_cons (pd_tup (ad_cons pd_str (ad_cons pd_int ad_nil))) (ad_cons (pd_tup (ad_cons pd_str (ad_cons pd_int ad_nil))) (ad_cons (pd_tup (ad_cons pd_str (ad_cons pd_int ad_nil))) (ad_cons (pd_tup (ad_cons pd_str (ad_cons pd_int ad_nil))) (ad_cons (pd_tup (ad_cons pd_str (ad_cons pd_int ad_nil))) (ad_cons (pd_tup (ad_cons pd_str (ad_cons pd_int ad_nil))) (ad_cons (pd_tup (ad_cons pd_str (ad_cons pd_int ad_nil))) (ad_cons (pd_tup (ad_cons pd_str (ad_cons pd_int ad_nil))) ad_nil))))))))))
    (ss_cons (sd_setPop (i := 3) (j := 2) sc__law_some_symbols.nd rfl (.inl rfl) (pv 2) (pd_cal (G__law_draw.mono (by omega)) hS hr (ad_cons (pd_var (pv 0)) (ad_cons pd_int ad_nil))))
    (ss_cons (sd_for PassesOwn.never rfl (id_rng1 T.z_range (ad_cons (pd_cal (G__law_draw.mono (by omega)) hS hr (ad_cons (pd_var (pv 0)) (ad_cons (pd_var (pv 1)) ad_nil))) ad_nil)) (gd_name (i := 4) sc__law_some_symbols.nd rfl (.inl rfl)) (ss_one (sd_appPop (i := 3) (j := 2) (pv 3) (pv 2) (pd_cal (G__law_draw.mono (by omega)) hS hr (ad_cons (pd_var (pv 0)) (ad_cons (pd_len T.z_len (ad_cons (pd_var (pv 2)) ad_nil)) ad_nil))))))
    (ss_one (sd_retV (pv 3)))))), fun y hy => rd__law_some_symbols y hy⟩
theorem cal__law_rule (T : Tops K mg base c_LimitError c_StepError l_apply p_apply) : Cal P w K (TB p_apply) mg base CX0 92 "_law_rule" ["stream", "symbols", "most"] (ct__law_rule) := by
  have G__law_term := cal__law_term (P := P) (w := w) (base := base) T 40
  have G__law_draw := cal__law_draw (P := P) (w := w) (base := base) T
  have G__law_pick := cal__law_pick (P := P) (w := w) (base := base) T
  have G__law_variables := cal__law_variables (P := P) (w := w) (base := base) T 40
  exact cal_ok (k := 91) T.D__law_rule sc__law_rule _ (fun _ => rfl) fun cdv f A outer s H E S hS hr => ⟨_, ds__law_rule, (ss_cons (sd_setLc (i := 3) (own := [("pair", 5)]) rfl sc__law_rule.nd rfl rfl rfl (id_var (pv 1)) (blkOk_by (N := ["stream", "symbols", "most", "able", "left", "pair"]) (sc := defScope s__law_rule) (by decide +kernel)) (fun _ _ _ _ _ => (gd_name (i := 5) sc__law_rule.nd rfl (.inl rfl))) (fun _ _ _ _ _ => (ts_one (td_gt (pd_ix (pd_var (pv 5)) pd_int) pd_int))) (fun _ _ _ _ _ => (pd_var (pv 5))))
    (ss_cons (sd_set (i := 4) sc__law_rule.nd rfl (.inl rfl) (pd_cal (G__law_term.mono (by omega)) hS hr (ad_cons (pd_var (pv 0)) (ad_cons (pd_if (WD.td (wd_and (td_truth (pd_var (pv 3))) (wd_and1 (td_gt (pd_cal (G__law_draw.mono (by omega)) hS hr (ad_cons (pd_var (pv 0)) (ad_cons pd_int ad_nil))) pd_int)))) (pd_var (pv 3)) (pd_var (pv 1))) (ad_cons (pd_view (pd_cal (G__law_pick.mono (by omega)) hS hr (ad_cons (pd_var (pv 0)) (ad_cons (pd_lst (ad_cons (pd_lock (pd_lst (ad_cons pd_str (ad_cons pd_str (ad_cons pd_str ad_nil))))) (ad_cons (pd_lock (pd_lst (ad_cons pd_str (ad_cons pd_str (ad_cons pd_str ad_nil))))) (ad_cons (pd_lock (pd_lst (ad_cons pd_str (ad_cons pd_str (ad_cons pd_str ad_nil))))) ad_nil)))) ad_nil)))) (ad_cons (pd_var (pv 2)) (ad_cons pd_int ad_nil)))))))
    (ss_cons (sd_if (td_truth (pd_isi kit_str rfl (pd_var (pv 4)) T.z_isinstance T.z_str)) (ss_one (sd_set (i := 4) sc__law_rule.nd rfl (.inl rfl) (pd_tup (ad_cons (pd_ix (pd_ix (pd_var (pv 1)) pd_int) pd_int) (ad_cons (pd_tuple T.z_tuple (ad_cons (pd_rep (pd_lst (ad_cons pd_str ad_nil)) (pd_ix (pd_ix (pd_var (pv 1)) pd_int) pd_int)) ad_nil)) ad_nil))))) ss_nil)
    (ss_one (sd_ret (pd_tup (ad_cons (pd_var (pv 4)) (ad_cons (pd_cal (G__law_term.mono (by omega)) hS hr (ad_cons (pd_var (pv 0)) (ad_cons (pd_var (pv 1)) (ad_cons (pd_cal (G__law_variables.mono (by omega)) hS hr (ad_cons (pd_var (pv 4)) ad_nil)) (ad_cons (pd_var (pv 2)) (ad_cons pd_int ad_nil)))))) ad_nil)))))))), fun y hy => rd__law_rule y hy⟩
theorem cal__law_system (T : Tops K mg base c_LimitError c_StepError l_apply p_apply) : Cal P w K (TB p_apply) mg base CX0 93 "_law_system" ["stream", "symbols", "many", "most"] (ct__law_system) := by
  have G__law_rule := cal__law_rule (P := P) (w := w) (base := base) T
  have G__law_draw := cal__law_draw (P := P) (w := w) (base := base) T
  have G__law_pick := cal__law_pick (P := P) (w := w) (base := base) T
  have G__law_term := cal__law_term (P := P) (w := w) (base := base) T 40
  have G__law_variables := cal__law_variables (P := P) (w := w) (base := base) T 40
  exact cal_ok (k := 92) T.D__law_system sc__law_system _ (fun _ => rfl) fun cdv f A outer s H E S hS hr => ⟨_, ds__law_system, (ss_cons (sd_setLc (i := 4) (own := [("k", 7)]) rfl sc__law_system.nd rfl rfl rfl (id_rng1 T.z_range (ad_cons (pd_var (pv 2)) ad_nil)) (blkOk_by (N := ["stream", "symbols", "many", "most", "found", "left", "right", "k"]) (sc := defScope s__law_system) (by decide +kernel)) (fun _ _ _ _ _ => (gd_name (i := 7) sc__law_system.nd rfl (.inl rfl))) (fun _ _ _ _ _ => ts_nil) (fun _ _ _ _ _ => (pd_cal (G__law_rule.mono (by omega)) hS hr (ad_cons (pd_var (pv 0)) (ad_cons (pd_var (pv 1)) (ad_cons (pd_var (pv 3)) ad_nil))))))
    (ss_cons (sd_if (WD.td (wd_and (td_gt (pd_var (pv 2)) pd_int) (wd_and1 (td_eq (hu64 hr) (pd_cal (G__law_draw.mono (by omega)) hS hr (ad_cons (pd_var (pv 0)) (ad_cons pd_int ad_nil))) pd_int)))) (ss_cons (sd_unp (pd_ix (pd_var (pv 4)) pd_int) (gd_tup rfl (gs_cons (gd_name (i := 5) sc__law_system.nd rfl (.inl rfl)) (gs_cons (gd_name (i := 6) sc__law_system.nd rfl (.inl rfl)) gs_nil))))
    (ss_one (sd_setIx (j := 4) (pv 4) (pd_sub (pd_var (pv 2)) pd_int) (pd_cal (G__law_pick.mono (by omega)) hS hr (ad_cons (pd_var (pv 0)) (ad_cons (pd_lst (ad_cons (pd_tup (ad_cons (pd_var (pv 5)) (ad_cons (pd_var (pv 6)) ad_nil))) (ad_cons (pd_tup (ad_cons (pd_var (pv 5)) (ad_cons (pd_cal (G__law_term.mono (by omega)) hS hr (ad_cons (pd_var (pv 0)) (ad_cons (pd_var (pv 1)) (ad_cons (pd_cal (G__law_variables.mono (by omega)) hS hr (ad_cons (pd_var (pv 5)) ad_nil)) (ad_cons (pd_var (pv 3)) (ad_cons pd_int ad_nil)))))) ad_nil))) ad_nil))) ad_nil)))))) ss_nil)
    (ss_one (sd_ret (pd_tuple T.z_tuple (ad_cons (pd_var (pv 4)) ad_nil)))))), fun y hy => rd__law_system y hy⟩
theorem cal__law_steps (T : Tops K mg base c_LimitError c_StepError l_apply p_apply) : Cal P w K (TB p_apply) mg base CX0 42 "_law_steps" ["system", "t"] (ct__law_steps) := by
  have G__law_places := cal__law_places (P := P) (w := w) (base := base) T 40
  have G__law_at := cal__law_at (P := P) (w := w) (base := base) T
  have G__law_match := cal__law_match (P := P) (w := w) (base := base) T
  have G__law_put := cal__law_put (P := P) (w := w) (base := base) T 40
  have G__law_apply := cal__law_apply (P := P) (w := w) (base := base) T 40
  exact cal_ok (k := 41) T.D__law_steps sc__law_steps _ (fun _ => rfl) fun cdv f A outer s H E S hS hr => ⟨_, ds__law_steps, (ss_cons (sd_set (i := 2) sc__law_steps.nd rfl (.inl rfl) (pd_lst ad_nil))
    (ss_cons (sd_for PassesOwn.never rfl (id_new (pd_cal (G__law_places.mono (by omega)) hS hr (ad_cons (pd_var (pv 1)) ad_nil))) (gd_name (i := 3) sc__law_steps.nd rfl (.inl rfl)) (ss_cons (sd_set (i := 4) sc__law_steps.nd rfl (.inl rfl) (pd_cal (G__law_at.mono (by omega)) hS hr (ad_cons (pd_var (pv 1)) (ad_cons (pd_var (pv 3)) ad_nil))))
    (ss_one (sd_for PassesOwn.never rfl (id_rng1 T.z_range (ad_cons (pd_len T.z_len (ad_cons (pd_var (pv 0)) ad_nil)) ad_nil)) (gd_name (i := 5) sc__law_steps.nd rfl (.inl rfl)) (ss_cons (sd_set (i := 6) sc__law_steps.nd rfl (.inl rfl) (pd_cal (G__law_match.mono (by omega)) hS hr (ad_cons (pd_ix (pd_ix (pd_var (pv 0)) (pd_var (pv 5))) pd_int) (ad_cons (pd_var (pv 4)) ad_nil))))
    (ss_one (sd_if (WD.td (wd_and (td_notN (pd_var (pv 6)) pd_non) (wd_and1 (td_not (td_truth (pd_isi kit_str rfl (pd_ix (pd_ix (pd_var (pv 0)) (pd_var (pv 5))) pd_int) T.z_isinstance T.z_str)))))) (ss_one (sd_app (i := 2) (pv 2) (pd_tup (ad_cons (pd_tup (ad_cons (pd_var (pv 3)) (ad_cons (pd_var (pv 5)) ad_nil))) (ad_cons (pd_cal (G__law_put.mono (by omega)) hS hr (ad_cons (pd_var (pv 1)) (ad_cons (pd_var (pv 3)) (ad_cons (pd_cal (G__law_apply.mono (by omega)) hS hr (ad_cons (pd_var (pv 6)) (ad_cons (pd_ix (pd_ix (pd_var (pv 0)) (pd_var (pv 5))) pd_int) ad_nil))) ad_nil)))) ad_nil))))) ss_nil)))))))
    (ss_one (sd_retV (pv 2))))), fun y hy => rd__law_steps y hy⟩
theorem cal__law_is_large (T : Tops K mg base c_LimitError c_StepError l_apply p_apply) : Cal P w K (TB p_apply) mg base CX0 102 "_law_is_large" ["t"] (ct__law_is_large) := by
  have G__law_size := cal__law_size (P := P) (w := w) (base := base) T 100
  have G__law_depth := cal__law_depth (P := P) (w := w) (base := base) T 100
  exact cal_ok (k := 101) T.D__law_is_large sc__law_is_large _ (fun _ => rfl) fun cdv f A outer s H E S hS hr => ⟨_, ds__law_is_large, (ss_one (sd_ret (pd_or (pd_gt (pd_cal (G__law_size.mono (by omega)) hS hr (ad_cons (pd_var (pv 0)) ad_nil)) pd_int) (pd_one (pd_gt (pd_cal (G__law_depth.mono (by omega)) hS hr (ad_cons (pd_var (pv 0)) ad_nil)) pd_int))))), fun y hy => rd__law_is_large y hy⟩
theorem cal__law_bulk (T : Tops K mg base c_LimitError c_StepError l_apply p_apply) : ∀ n, Cal P w K (TB p_apply) mg base CX0 (1 + n) "_law_bulk" ["many"] (ct__law_bulk n)
  | 0 => cal_void T.D__law_bulk fun y h => bulk_void y h
  | n + 1 => by
    have G__law_bulk := cal__law_bulk T n
    exact cal_ok (k := 1 + n) T.D__law_bulk sc__law_bulk _ (fun _ => rfl) fun cdv f A outer s H E S hS hr => ⟨_, ds__law_bulk n, (ss_cons (sd_if (td_lt (pd_var (pv 0)) pd_int) (ss_one (sd_ret (pd_tup (ad_cons pd_str (ad_cons (pd_tup ad_nil) ad_nil))))) ss_nil)
    (ss_cons (sd_set (i := 1) sc__law_bulk.nd rfl (.inl rfl) (pd_fdiv (pd_sub (pd_var (pv 0)) pd_int) pd_int))
    (ss_cons (sd_if (td_eq (hu64 hr) (pd_mod (pd_var (pv 1)) pd_int) pd_int) (ss_one (sd_set (i := 1) sc__law_bulk.nd rfl (.inl rfl) (pd_sub (pd_var (pv 1)) pd_int))) ss_nil)
    (ss_one (sd_ret (pd_tup (ad_cons pd_str (ad_cons (pd_tup (ad_cons (pd_cal (G__law_bulk.mono (by omega)) hS hr (ad_cons (pd_var (pv 1)) ad_nil)) (ad_cons (pd_cal (G__law_bulk.mono (by omega)) hS hr (ad_cons (pd_sub (pd_sub (pd_var (pv 0)) pd_int) (pd_var (pv 1))) ad_nil)) ad_nil))) ad_nil)))))))), fun y hy => rd__law_bulk n y hy⟩
theorem cal__law_doubled (T : Tops K mg base c_LimitError c_StepError l_apply p_apply) : ∀ n, Cal P w K (TB p_apply) mg base CX0 (1 + n) "_law_doubled" ["many"] (ct__law_doubled n)
  | 0 => cal_void T.D__law_doubled fun y h => absurd h (Nat.not_lt_zero _)
  | n + 1 => by
    have G__law_doubled := cal__law_doubled T n
    exact cal_ok (k := 1 + n) T.D__law_doubled sc__law_doubled _ (fun _ => rfl) fun cdv f A outer s H E S hS hr => ⟨_, ds__law_doubled n, (ss_one (sd_ret (pd_if (td_eq (hu64 hr) (pd_var (pv 0)) pd_int) pd_str (pd_tup (ad_cons pd_str (ad_cons (pd_tup (ad_cons (pd_cal (G__law_doubled.mono (by omega)) hS hr (ad_cons (pd_sub (pd_var (pv 0)) pd_int) ad_nil)) (ad_cons (pd_cal (G__law_doubled.mono (by omega)) hS hr (ad_cons (pd_sub (pd_var (pv 0)) pd_int) ad_nil)) ad_nil))) ad_nil)))))), fun y hy => rd__law_doubled n y hy⟩
theorem cal__law_raises (T : Tops K mg base c_LimitError c_StepError l_apply p_apply) : Cal P w K (TB p_apply) mg base (L2.CX P w) 30 "_law_raises" ["what", "system", "t", "one"] (ct__law_raises) := by
  have G_step := cal_step (P := P) (w := w) (base := base) T
  have G_derive := cal_derive (P := P) (w := w) (base := base) T
  have G_successors := cal_successors (P := P) (w := w) (base := base) T
  exact cal_okX (k := 29) T.D__law_raises sc__law_raises _ (fun _ => rfl) fun cdv f A outer s H E S hS hr => ⟨_, ds__law_raises K c_StepError c_LimitError, (ss_cons (sd_try rfl rfl ⟨rfl, by decide, Or.inl T.x_LimitError.g⟩ (takes_of rfl rfl rfl rfl) (fun W1 pn1 xe1 tk1 ps1 => (ss_one (sd_if (td_eq (hu64 hr) (pd_var (pv 0)) pd_int) (ss_one (sd_expr (pd_calX (G_step.mono (by omega)) hS hr tk1 (ad_cons (pd_var (pv 1)) (ad_cons (pd_var (pv 2)) (ad_cons (pd_var (pv 3)) ad_nil)))))) (ss_one (sd_if (td_eq (hu64 hr) (pd_var (pv 0)) pd_int) (ss_one (sd_expr (pd_calX (G_derive.mono (by omega)) hS hr tk1 (ad_cons (pd_var (pv 1)) (ad_cons (pd_var (pv 2)) (ad_cons (pd_tup (ad_cons (pd_var (pv 3)) ad_nil)) ad_nil)))))) (ss_one (sd_expr (pd_calX (G_successors.mono (by omega)) hS hr tk1 (ad_cons (pd_var (pv 1)) (ad_cons (pd_var (pv 2)) ad_nil)))))))))) (fun a1 oe1 cls1 d1 pn1 zc1 hf1 => (ss_one (sd_ret pd_bl))))
    (ss_one (sd_ret pd_bl))), fun y hy => rd__law_raises K c_StepError c_LimitError T.m_LimitError y hy⟩
theorem cal__law_at_the_end (T : Tops K mg base c_LimitError c_StepError l_apply p_apply) : Cal P w K (TB p_apply) mg base (L2.CX P w) 42 "_law_at_the_end" ["stream"] (ct__law_at_the_end) := by
  have G__law_doubled := cal__law_doubled (P := P) (w := w) (base := base) T 40
  have G__law_draw := cal__law_draw (P := P) (w := w) (base := base) T
  have G__law_bulk := cal__law_bulk (P := P) (w := w) (base := base) T 40
  have G__law_raises := (cal__law_raises (P := P) (w := w) (base := base) T).calm (fun _ _ _ h => h)
  have G_step := cal_step (P := P) (w := w) (base := base) T
  have G__law_apply := cal__law_apply (P := P) (w := w) (base := base) T 40
  exact cal_okX (k := 41) T.D__law_at_the_end sc__law_at_the_end _ (fun _ => rfl) fun cdv f A outer s H E S hS hr => ⟨_, ds__law_at_the_end c_StepError c_LimitError, (ss_cons (sd_set (i := 1) sc__law_at_the_end.nd rfl (.inr rfl) (pd_tup (ad_cons (pd_tup (ad_cons (pd_tup (ad_cons pd_str (ad_cons (pd_tup (ad_cons pd_str ad_nil)) ad_nil))) (ad_cons (pd_cal (G__law_doubled.mono (by omega)) hS hr (ad_cons pd_int ad_nil)) ad_nil))) ad_nil)))
    (ss_cons (sd_set (i := 2) sc__law_at_the_end.nd rfl (.inl rfl) (pd_add pd_int (pd_mul pd_int (pd_cal (G__law_draw.mono (by omega)) hS hr (ad_cons (pd_var (pv 0)) (ad_cons pd_int ad_nil))))))
    (ss_cons (sd_set (i := 3) sc__law_at_the_end.nd rfl (.inr rfl) (pd_tup (ad_cons pd_str (ad_cons (pd_tup (ad_cons (pd_cal (G__law_bulk.mono (by omega)) hS hr (ad_cons (pd_var (pv 2)) ad_nil)) ad_nil)) ad_nil))))
    (ss_cons (sd_set (i := 4) sc__law_at_the_end.nd rfl (.inr rfl) (pd_gt (pd_add (pd_mul pd_int (pd_var (pv 2))) pd_int) pd_int))
    (ss_cons (sd_if (td_truth (pd_any rfl T.z_any (ad_cons (pd_lc (own := [("what", 5)]) rfl sc__law_at_the_end.nd (id_rng1 T.z_range (ad_cons pd_int ad_nil)) (blkOk_by (N := ["stream", "wide", "many", "t", "is_large", "what"]) (sc := defScope s__law_at_the_end) (by decide +kernel)) (fun _ _ _ _ _ => (gd_name (i := 5) sc__law_at_the_end.nd rfl (.inl rfl))) (fun _ _ _ _ _ => ts_nil) (fun _ _ _ _ _ => (pd_ne (hu64 hr) (pd_cal (G__law_raises.mono (by omega)) hS hr (ad_cons (pd_var (pv 5)) (ad_cons (pd_var (pv 1)) (ad_cons (pd_var (pv 3)) (ad_cons (pd_tup (ad_cons (pd_tup ad_nil) (ad_cons pd_int ad_nil))) ad_nil))))) (pd_var (pv 4))))) ad_nil))) (ss_one (sd_ret pd_bl)) ss_nil)
    (ss_one (sd_ret (pd_or (pd_var (pv 4)) (pd_one (pd_eq (hu64 hr) (pd_calX (G_step.mono (by omega)) hS hr (takes_of rfl rfl rfl rfl) (ad_cons (pd_var (pv 1)) (ad_cons (pd_var (pv 3)) (ad_cons (pd_tup (ad_cons (pd_tup ad_nil) (ad_cons pd_int ad_nil))) ad_nil)))) (pd_cal (G__law_apply.mono (by omega)) hS hr (ad_cons (pd_disp (prd_cons pd_str (pd_cal (G__law_bulk.mono (by omega)) hS hr (ad_cons (pd_var (pv 2)) ad_nil)) prd_nil)) (ad_cons (pd_cal (G__law_doubled.mono (by omega)) hS hr (ad_cons pd_int ad_nil)) ad_nil))))))))))))), fun y hy => rd__law_at_the_end c_StepError c_LimitError y hy⟩
theorem law_main (T : Tops K mg base c_LimitError c_StepError l_apply p_apply) {f : Addr} {fd : FuncData} (F : Fun K "law" "law" s_law f fd) : FnOk P w K mg base (L2.CX P w) 161 f fd ["script"] (spLaw K (TB p_apply)) := by
  have G__law_draw := cal__law_draw (P := P) (w := w) (base := base) T
  have G__law_at_the_end := (cal__law_at_the_end (P := P) (w := w) (base := base) T).calm (fun _ _ _ h => h)
  have G__law_some_symbols := cal__law_some_symbols (P := P) (w := w) (base := base) T
  have G__law_system := cal__law_system (P := P) (w := w) (base := base) T
  have G__law_term := cal__law_term (P := P) (w := w) (base := base) T 40
  have G__law_steps := cal__law_steps (P := P) (w := w) (base := base) T
  have G__law_is_large := cal__law_is_large (P := P) (w := w) (base := base) T
  have G_successors := cal_successors (P := P) (w := w) (base := base) T
  have G_step := cal_step (P := P) (w := w) (base := base) T
  have G__law_pick := cal__law_pick (P := P) (w := w) (base := base) T
  have G__law_places := cal__law_places (P := P) (w := w) (base := base) T 40
  have G_derive := cal_derive (P := P) (w := w) (base := base) T
  have G_apply := cal_apply (P := P) (w := w) (base := base) T
  have GS := ok__law_stream (P := P) (w := w) (base := base) T
  refine law_ok F sc_law rfl fun cdv A outer s H E hr => ⟨ps_set (i := 1) sc_law.nd rfl (.inr rfl) (pe_stream GS hr (pv 0)), _, ds_law7 K c_StepError c_LimitError, fun S hS => (ss_cons (sd_if (td_eq (hu64 hr) (pd_cal (G__law_draw.mono (by omega)) hS hr (ad_cons (pd_var (pv 1)) (ad_cons pd_int ad_nil))) pd_int) (ss_one (sd_ret (pd_cal (G__law_at_the_end.mono (by omega)) hS hr (ad_cons (pd_var (pv 1)) ad_nil)))) ss_nil)
    (ss_cons (sd_set (i := 2) sc_law.nd rfl (.inr rfl) (pd_cal (G__law_some_symbols.mono (by omega)) hS hr (ad_cons (pd_var (pv 1)) (ad_cons pd_int ad_nil))))
    (ss_cons (sd_set (i := 3) sc_law.nd rfl (.inl rfl) (pd_cal (G__law_system.mono (by omega)) hS hr (ad_cons (pd_var (pv 1)) (ad_cons (pd_var (pv 2)) (ad_cons (pd_cal (G__law_draw.mono (by omega)) hS hr (ad_cons (pd_var (pv 1)) (ad_cons pd_int ad_nil))) (ad_cons pd_int ad_nil))))))
    (ss_cons (sd_set (i := 4) sc_law.nd rfl (.inl rfl) (pd_cal (G__law_term.mono (by omega)) hS hr (ad_cons (pd_var (pv 1)) (ad_cons (pd_var (pv 2)) (ad_cons (pd_lst (ad_cons pd_str (ad_cons pd_str ad_nil))) (ad_cons (pd_add pd_int (pd_cal (G__law_draw.mono (by omega)) hS hr (ad_cons (pd_var (pv 1)) (ad_cons pd_int ad_nil)))) (ad_cons pd_int ad_nil)))))))
    (ss_cons (sd_set (i := 5) sc_law.nd rfl (.inl rfl) (pd_cal (G__law_steps.mono (by omega)) hS hr (ad_cons (pd_var (pv 3)) (ad_cons (pd_var (pv 4)) ad_nil))))
    (ss_cons (sd_if (td_truth (pd_any rfl T.z_any (ad_cons (pd_lc (own := [("one", 6), ("result", 7)]) rfl sc_law.nd (id_var (pv 5)) (blkOk_by (N := ["script", "stream", "names", "system", "t", "due", "one", "result", "k", "right", "told", "here", "way", "found", "wrong", "refused", "table", "other", "x"]) (sc := defScope s_law) (by decide +kernel)) (fun _ _ _ _ _ => (gd_tup rfl (gs_cons (gd_name (i := 6) sc_law.nd rfl (.inl rfl)) (gs_cons (gd_name (i := 7) sc_law.nd rfl (.inl rfl)) gs_nil)))) (fun _ _ _ _ _ => ts_nil) (fun _ _ _ _ _ => (pd_cal (G__law_is_large.mono (by omega)) hS hr (ad_cons (pd_var (pv 7)) ad_nil)))) ad_nil))) (ss_one (sd_ret pd_bl)) ss_nil)
    (ss_cons (sd_if (td_ne (hu64 hr) (pd_calX (G_successors.mono (by omega)) hS hr (takes_of rfl rfl rfl rfl) (ad_cons (pd_var (pv 3)) (ad_cons (pd_var (pv 4)) ad_nil))) (pd_var (pv 5))) (ss_one (sd_ret pd_bl)) ss_nil)
    (ss_cons (sd_for (passes_of rfl) rfl (id_var (pv 5)) (gd_tup rfl (gs_cons (gd_name (i := 6) sc_law.nd rfl (.inr rfl)) (gs_cons (gd_name (i := 7) sc_law.nd rfl (.inl rfl)) gs_nil))) (ss_one (sd_if (td_ne (hu64 hr) (pd_calX (G_step.mono (by omega)) hS hr (takes_of rfl rfl rfl rfl) (ad_cons (pd_var (pv 3)) (ad_cons (pd_var (pv 4)) (ad_cons (pd_var (pv 6)) ad_nil)))) (pd_var (pv 7))) (ss_one (sd_ret pd_bl)) ss_nil)))
    (ss_cons (sd_for (passes_of rfl) rfl (id_rng1 T.z_range (ad_cons pd_int ad_nil)) (gd_name (i := 8) sc_law.nd rfl (.inl rfl)) (ss_cons (sd_set (i := 6) sc_law.nd rfl (.inr rfl) (pd_tup (ad_cons (pd_cal (G__law_pick.mono (by omega)) hS hr (ad_cons (pd_var (pv 1)) (ad_cons (pd_add (pd_cal (G__law_places.mono (by omega)) hS hr (ad_cons (pd_var (pv 4)) ad_nil)) (pd_lst (ad_cons (pd_tup (ad_cons pd_int ad_nil)) (ad_cons (pd_tup (ad_cons pd_int (ad_cons pd_int (ad_cons pd_int (ad_cons pd_int (ad_cons pd_int (ad_cons pd_int ad_nil))))))) ad_nil)))) ad_nil))) (ad_cons (pd_sub (pd_cal (G__law_draw.mono (by omega)) hS hr (ad_cons (pd_var (pv 1)) (ad_cons (pd_add (pd_len T.z_len (ad_cons (pd_var (pv 3)) ad_nil)) pd_int) ad_nil))) pd_int) ad_nil))))
    (ss_cons (sd_setLc (i := 9) (own := [("other", 17), ("result", 7)]) rfl sc_law.nd rfl rfl rfl (id_var (pv 5)) (blkOk_by (N := ["script", "stream", "names", "system", "t", "due", "one", "result", "k", "right", "told", "here", "way", "found", "wrong", "refused", "table", "other", "x"]) (sc := defScope s_law) (by decide +kernel)) (fun _ _ _ _ _ => (gd_tup rfl (gs_cons (gd_name (i := 17) sc_law.nd rfl (.inl rfl)) (gs_cons (gd_name (i := 7) sc_law.nd rfl (.inl rfl)) gs_nil)))) (fun _ _ _ _ _ => (ts_one (td_eq (hu64 hr) (pd_var (pv 17)) (pd_var (pv 6))))) (fun _ _ _ _ _ => (pd_var (pv 7))))
    (ss_cons (sd_try rfl rfl ⟨rfl, by decide, Or.inl T.x_StepError.g⟩ (takes_of rfl rfl rfl rfl) (fun W1 pn1 xe1 tk1 ps1 => (ss_one (sd_set (i := 10) sc_law.nd rfl (.inl rfl) (pd_calX (G_step.mono (by omega)) hS hr tk1 (ad_cons (pd_var (pv 3)) (ad_cons (pd_var (pv 4)) (ad_cons (pd_var (pv 6)) ad_nil))))))) (fun a1 oe1 cls1 d1 pn1 zc1 hf1 => (ss_cons (sd_if (td_truth (pd_var (pv 9))) (ss_one (sd_ret pd_bl)) ss_nil)
    (ss_one sd_continue))))
    (ss_one (sd_if (WD.td (wd_or (td_not (td_truth (pd_var (pv 9)))) (wd_or1 (td_ne (hu64 hr) (pd_var (pv 10)) (pd_ix (pd_var (pv 9)) pd_int))))) (ss_one (sd_ret pd_bl)) ss_nil))))))
    (ss_cons (sd_set (i := 11) sc_law.nd rfl (.inl rfl) (pd_var (pv 4)))
    (ss_cons (sd_set (i := 12) sc_law.nd rfl (.inl rfl) (pd_lst ad_nil))
    (ss_cons (sd_for (passes_of rfl) rfl (id_rng1 T.z_range (ad_cons (pd_cal (G__law_draw.mono (by omega)) hS hr (ad_cons (pd_var (pv 1)) (ad_cons pd_int ad_nil))) ad_nil)) (gd_name (i := 8) sc_law.nd rfl (.inl rfl)) (ss_cons (sd_set (i := 13) sc_law.nd rfl (.inl rfl) (pd_cal (G__law_steps.mono (by omega)) hS hr (ad_cons (pd_var (pv 3)) (ad_cons (pd_var (pv 11)) ad_nil))))
    (ss_cons (sd_if (td_not (td_truth (pd_var (pv 13)))) (ss_one sd_break) ss_nil)
    (ss_cons (sd_unp (pd_cal (G__law_pick.mono (by omega)) hS hr (ad_cons (pd_var (pv 1)) (ad_cons (pd_var (pv 13)) ad_nil))) (gd_tup rfl (gs_cons (gd_name (i := 6) sc_law.nd rfl (.inr rfl)) (gs_cons (gd_name (i := 11) sc_law.nd rfl (.inl rfl)) gs_nil))))
    (ss_cons (sd_if (td_truth (pd_cal (G__law_is_large.mono (by omega)) hS hr (ad_cons (pd_var (pv 11)) ad_nil))) (ss_one (sd_ret pd_bl)) ss_nil)
    (ss_one (sd_app (i := 12) (pv 12) (pd_var (pv 6)))))))))
    (ss_cons (sd_if (WD.td (wd_or (td_ne (hu64 hr) (pd_calX (G_derive.mono (by omega)) hS hr (takes_of rfl rfl rfl rfl) (ad_cons (pd_var (pv 3)) (ad_cons (pd_var (pv 4)) (ad_cons (pd_tuple T.z_tuple (ad_cons (pd_var (pv 12)) ad_nil)) ad_nil)))) (pd_var (pv 11))) (wd_or1 (td_ne (hu64 hr) (pd_calX (G_derive.mono (by omega)) hS hr (takes_of rfl rfl rfl rfl) (ad_cons (pd_var (pv 3)) (ad_cons (pd_var (pv 4)) (ad_cons (pd_tup ad_nil) ad_nil)))) (pd_var (pv 4)))))) (ss_one (sd_ret pd_bl)) ss_nil)
    (ss_cons (sd_set (i := 14) sc_law.nd rfl (.inl rfl) (pd_tup (ad_cons (pd_repT (pd_tup (ad_cons (pd_cal (G__law_draw.mono (by omega)) hS hr (ad_cons (pd_var (pv 1)) (ad_cons pd_int ad_nil))) ad_nil)) (pd_cal (G__law_draw.mono (by omega)) hS hr (ad_cons (pd_var (pv 1)) (ad_cons pd_int ad_nil)))) (ad_cons (pd_add (pd_len T.z_len (ad_cons (pd_var (pv 3)) ad_nil)) (pd_cal (G__law_draw.mono (by omega)) hS hr (ad_cons (pd_var (pv 1)) (ad_cons pd_int ad_nil)))) ad_nil))))
    (ss_cons (sd_set (i := 15) sc_law.nd rfl (.inl rfl) pd_bl)
    (ss_cons (sd_try rfl rfl ⟨rfl, by decide, Or.inl T.x_StepError.g⟩ (takes_of rfl rfl rfl rfl) (fun W1 pn1 xe1 tk1 ps1 => (ss_one (sd_expr (pd_calX (G_derive.mono (by omega)) hS hr tk1 (ad_cons (pd_var (pv 3)) (ad_cons (pd_var (pv 4)) (ad_cons (pd_add (pd_tuple T.z_tuple (ad_cons (pd_var (pv 12)) ad_nil)) (pd_tup (ad_cons (pd_var (pv 14)) ad_nil))) ad_nil))))))) (fun a1 oe1 cls1 d1 pn1 zc1 hf1 => (ss_one (sd_set (i := 15) sc_law.nd rfl (.inl rfl) pd_bl))))
    (ss_cons (sd_if (td_not (td_truth (pd_var (pv 15)))) (ss_one (sd_ret pd_bl)) ss_nil)
    (ss_cons (sd_set (i := 16) sc_law.nd rfl (.inl rfl) (pd_dictP rfl T.z_dict (ad_cons (pd_lc (own := [("x", 18)]) rfl sc_law.nd (id_new (pd_lst (ad_cons pd_str (ad_cons pd_str ad_nil)))) (blkOk_by (N := ["script", "stream", "names", "system", "t", "due", "one", "result", "k", "right", "told", "here", "way", "found", "wrong", "refused", "table", "other", "x"]) (sc := defScope s_law) (by decide +kernel)) (fun _ _ _ _ _ => (gd_name (i := 18) sc_law.nd rfl (.inl rfl))) (fun _ _ _ _ _ => ts_nil) (fun _ _ _ _ _ => (pd_tup (ad_cons (pd_var (pv 18)) (ad_cons (pd_cal (G__law_term.mono (by omega)) hS hr (ad_cons (pd_var (pv 1)) (ad_cons (pd_var (pv 2)) (ad_cons (pd_lst (ad_cons pd_str ad_nil)) (ad_cons (pd_add pd_int (pd_cal (G__law_draw.mono (by omega)) hS hr (ad_cons (pd_var (pv 1)) (ad_cons pd_int ad_nil)))) (ad_cons pd_int ad_nil)))))) ad_nil))))) ad_nil)))
    (ss_one (sd_try rfl rfl ⟨rfl, by decide, Or.inl T.x_LimitError.g⟩ (takes_of rfl rfl rfl rfl) (fun W1 pn1 xe1 tk1 ps1 => (ss_one (sd_ret (pd_eq (hu64 hr) (pd_calX (G_derive.mono (by omega)) hS hr tk1 (ad_cons (pd_var (pv 3)) (ad_cons (pd_calX (G_apply.mono (by omega)) hS hr tk1 (ad_cons (pd_var (pv 16)) (ad_cons (pd_var (pv 4)) ad_nil))) (ad_cons (pd_tuple T.z_tuple (ad_cons (pd_var (pv 12)) ad_nil)) ad_nil)))) (pd_calX (G_apply.mono (by omega)) hS hr tk1 (ad_cons (pd_var (pv 16)) (ad_cons (pd_var (pv 11)) ad_nil))))))) (fun a1 oe1 cls1 d1 pn1 zc1 hf1 => (ss_one (sd_ret pd_bl))))))))))))))))))))))), ld7 K c_StepError c_LimitError T.m_StepError T.m_LimitError⟩
end
theorem all_mk {l : PySem.W.OpenLaw} {w : World} {K : PySem.W.Frag} {h : Heap} {mg : Str → Option Value} {fa : Addr} {q : Program} (X : K.In h) (G : h.Ns mainGlobals mg) (hfa : mg "law" = some (.ref fa)) (tabs : ∀ (y : Str) (c P : Addr), ((recsOf q).find? fun e => e.name == y).isSome = true → PySem.W.tabIn K y = some (c, P) → PySem.W.CodeHd h c P ∧ h.get? P = some { cls := .none, data := .fields #[] }) (rc_apply : ((recsOf q).find? fun e => e.name == ("apply" : Str)).isSome = true)
    {od1 an1 : Option Addr} {sl1 : Array (Option Value)} {oc1 kV1 dc1 pm1 cd1 ct1 : Value} {f1 : Addr}
    {od2 an2 : Option Addr} {sl2 : Array (Option Value)} {oc2 kV2 dc2 pm2 cd2 ct2 : Value} {f2 : Addr}
    {od3 an3 : Option Addr} {sl3 : Array (Option Value)} {oc3 kV3 dc3 pm3 cd3 ct3 : Value} {f3 : Addr}
    {od4 an4 : Option Addr} {sl4 : Array (Option Value)} {oc4 kV4 dc4 pm4 cd4 ct4 : Value} {f4 : Addr}
    {od5 an5 : Option Addr} {sl5 : Array (Option Value)} {oc5 kV5 dc5 pm5 cd5 ct5 : Value} {f5 : Addr}
    {od6 an6 : Option Addr} {sl6 : Array (Option Value)} {oc6 kV6 dc6 pm6 cd6 ct6 : Value} {f6 : Addr}
    {od7 an7 : Option Addr} {sl7 : Array (Option Value)} {oc7 kV7 dc7 pm7 cd7 ct7 : Value} {f7 : Addr}
    {od8 an8 : Option Addr} {sl8 : Array (Option Value)} {oc8 kV8 dc8 pm8 cd8 ct8 : Value} {f8 : Addr}
    {od9 an9 : Option Addr} {sl9 : Array (Option Value)} {oc9 kV9 dc9 pm9 cd9 ct9 : Value} {f9 : Addr}
    {od10 an10 : Option Addr} {sl10 : Array (Option Value)} {oc10 kV10 dc10 pm10 cd10 ct10 : Value} {f10 : Addr}
    {od11 an11 : Option Addr} {sl11 : Array (Option Value)} {oc11 kV11 dc11 pm11 cd11 ct11 : Value} {f11 : Addr}
    {od12 an12 : Option Addr} {sl12 : Array (Option Value)} {oc12 kV12 dc12 pm12 cd12 ct12 : Value} {f12 : Addr}
    {od13 an13 : Option Addr} {sl13 : Array (Option Value)} {oc13 kV13 dc13 pm13 cd13 ct13 : Value} {f13 : Addr}
    {od14 an14 : Option Addr} {sl14 : Array (Option Value)} {oc14 kV14 dc14 pm14 ct14 : Value} {f14 : Addr}
    {od15 an15 : Option Addr} {sl15 : Array (Option Value)} {oc15 kV15 dc15 pm15 cd15 ct15 : Value} {f15 : Addr}
    {od16 an16 : Option Addr} {sl16 : Array (Option Value)} {oc16 kV16 dc16 pm16 cd16 ct16 : Value} {f16 : Addr}
    {od17 an17 : Option Addr} {sl17 : Array (Option Value)} {oc17 kV17 dc17 pm17 cd17 ct17 : Value} {f17 : Addr}
    {od18 an18 : Option Addr} {sl18 : Array (Option Value)} {oc18 kV18 dc18 pm18 cd18 ct18 : Value} {f18 : Addr}
    {od19 an19 : Option Addr} {sl19 : Array (Option Value)} {oc19 kV19 dc19 pm19 cd19 ct19 : Value} {f19 : Addr}
    {od20 an20 : Option Addr} {sl20 : Array (Option Value)} {oc20 kV20 dc20 pm20 cd20 ct20 : Value} {f20 : Addr}
    {od21 an21 : Option Addr} {sl21 : Array (Option Value)} {oc21 kV21 dc21 pm21 cd21 ct21 : Value} {f21 : Addr}
    {od22 an22 : Option Addr} {sl22 : Array (Option Value)} {oc22 kV22 dc22 pm22 cd22 ct22 : Value} {f22 : Addr}
    {od23 an23 : Option Addr} {sl23 : Array (Option Value)} {oc23 kV23 dc23 pm23 cd23 ct23 : Value} {f23 : Addr}
    {od24 an24 : Option Addr} {sl24 : Array (Option Value)} {oc24 kV24 dc24 pm24 cd24 ct24 : Value} {f24 : Addr}
    {od25 an25 : Option Addr} {sl25 : Array (Option Value)} {oc25 kV25 dc25 pm25 cd25 ct25 : Value} {f25 : Addr}
    {od26 an26 : Option Addr} {sl26 : Array (Option Value)} {oc26 kV26 dc26 pm26 cd26 ct26 : Value} {f26 : Addr}
    {od27 an27 : Option Addr} {sl27 : Array (Option Value)} {oc27 kV27 dc27 pm27 cd27 ct27 : Value} {f27 : Addr}
    {od28 an28 : Option Addr} {sl28 : Array (Option Value)} {oc28 kV28 dc28 pm28 cd28 ct28 : Value} {f28 : Addr}
    {od29 an29 : Option Addr} {sl29 : Array (Option Value)} {oc29 kV29 dc29 pm29 cd29 ct29 : Value} {f29 : Addr}
    {od30 an30 : Option Addr} {sl30 : Array (Option Value)} {oc30 kV30 dc30 pm30 cd30 ct30 : Value} {f30 : Addr}
    {od31 an31 : Option Addr} {sl31 : Array (Option Value)} {oc31 kV31 dc31 pm31 cd31 ct31 : Value} {f31 : Addr}
    {od32 an32 : Option Addr} {sl32 : Array (Option Value)} {oc32 kV32 dc32 pm32 cd32 ct32 : Value} {f32 : Addr}
    {od33 an33 : Option Addr} {sl33 : Array (Option Value)} {oc33 kV33 dc33 pm33 cd33 ct33 : Value} {f33 : Addr}
    {od34 an34 : Option Addr} {sl34 : Array (Option Value)} {oc34 kV34 dc34 pm34 cd34 ct34 : Value} {f34 : Addr}
    {od35 an35 : Option Addr} {sl35 : Array (Option Value)} {oc35 kV35 dc35 pm35 cd35 ct35 : Value} {f35 : Addr}
    {od36 an36 : Option Addr} {sl36 : Array (Option Value)} {oc36 kV36 dc36 pm36 cd36 ct36 : Value} {f36 : Addr}
    {od37 an37 : Option Addr} {sl37 : Array (Option Value)} {oc37 kV37 dc37 pm37 cd37 ct37 : Value} {f37 : Addr}
    {od38 an38 : Option Addr} {sl38 : Array (Option Value)} {oc38 kV38 dc38 pm38 cd38 ct38 : Value} {f38 : Addr}
    {od39 an39 : Option Addr} {sl39 : Array (Option Value)} {oc39 kV39 dc39 pm39 cd39 ct39 : Value} {f39 : Addr}
    {od40 an40 : Option Addr} {sl40 : Array (Option Value)} {oc40 kV40 dc40 pm40 cd40 ct40 : Value} {f40 : Addr}
    {od41 an41 : Option Addr} {sl41 : Array (Option Value)} {oc41 kV41 dc41 pm41 cd41 ct41 : Value} {f41 : Addr}
    {l_apply p_apply : Addr} {te_apply : Value} {td_apply : Option Addr} {tv_apply : Array Value} {ts_apply : Array (Option Value)}
    {t_MOST_NODES : Tok}
    {t_MOST_DEPTH : Tok}
    {c_LimitError : Addr}
    {c_StepError : Addr}
    (a1 : PySem.W.nsIn K mainGlobals "is_variable" = some (some (.ref f1))) (l1 : K.lookup f1 = some ⟨oc1, od1, .func (PySem.W.fnOf "is_variable" "is_variable" (defArgs s_is_variable) (defBody s_is_variable) (defScope s_is_variable) .none kV1 dc1 pm1 an1 cd1 ct1), sl1⟩) (c1 : PySem.W.codeIn K cd1 "is_variable" = true) (k1 : PySem.W.keepIn K (.ref f1) = true)
    (a2 : PySem.W.nsIn K mainGlobals "inner" = some (some (.ref f2))) (l2 : K.lookup f2 = some ⟨oc2, od2, .func (PySem.W.fnOf "inner" "inner" (defArgs s_inner) (defBody s_inner) (defScope s_inner) .none kV2 dc2 pm2 an2 cd2 ct2), sl2⟩) (c2 : PySem.W.codeIn K cd2 "inner" = true) (k2 : PySem.W.keepIn K (.ref f2) = true)
    (a3 : PySem.W.nsIn K mainGlobals "same" = some (some (.ref f3))) (l3 : K.lookup f3 = some ⟨oc3, od3, .func (PySem.W.fnOf "same" "same" (defArgs s_same) (defBody s_same) (defScope s_same) .none kV3 dc3 pm3 an3 cd3 ct3), sl3⟩) (c3 : PySem.W.codeIn K cd3 "same" = true) (k3 : PySem.W.keepIn K (.ref f3) = true)
    (a4 : PySem.W.nsIn K mainGlobals "parts" = some (some (.ref f4))) (l4 : K.lookup f4 = some ⟨oc4, od4, .func (PySem.W.fnOf "parts" "parts" (defArgs s_parts) (defBody s_parts) (defScope s_parts) .none kV4 dc4 pm4 an4 cd4 ct4), sl4⟩) (c4 : PySem.W.codeIn K cd4 "parts" = true) (k4 : PySem.W.keepIn K (.ref f4) = true)
    (a5 : PySem.W.nsIn K mainGlobals "size" = some (some (.ref f5))) (l5 : K.lookup f5 = some ⟨oc5, od5, .func (PySem.W.fnOf "size" "size" (defArgs s_size) (defBody s_size) (defScope s_size) .none kV5 dc5 pm5 an5 cd5 ct5), sl5⟩) (c5 : PySem.W.codeIn K cd5 "size" = true) (k5 : PySem.W.keepIn K (.ref f5) = true)
    (a6 : PySem.W.nsIn K mainGlobals "depth" = some (some (.ref f6))) (l6 : K.lookup f6 = some ⟨oc6, od6, .func (PySem.W.fnOf "depth" "depth" (defArgs s_depth) (defBody s_depth) (defScope s_depth) .none kV6 dc6 pm6 an6 cd6 ct6), sl6⟩) (c6 : PySem.W.codeIn K cd6 "depth" = true) (k6 : PySem.W.keepIn K (.ref f6) = true)
    (a7 : PySem.W.nsIn K mainGlobals "positions" = some (some (.ref f7))) (l7 : K.lookup f7 = some ⟨oc7, od7, .func (PySem.W.fnOf "positions" "positions" (defArgs s_positions) (defBody s_positions) (defScope s_positions) .none kV7 dc7 pm7 an7 cd7 ct7), sl7⟩) (c7 : PySem.W.codeIn K cd7 "positions" = true) (k7 : PySem.W.keepIn K (.ref f7) = true)
    (a8 : PySem.W.nsIn K mainGlobals "at" = some (some (.ref f8))) (l8 : K.lookup f8 = some ⟨oc8, od8, .func (PySem.W.fnOf "at" "at" (defArgs s_at) (defBody s_at) (defScope s_at) .none kV8 dc8 pm8 an8 cd8 ct8), sl8⟩) (c8 : PySem.W.codeIn K cd8 "at" = true) (k8 : PySem.W.keepIn K (.ref f8) = true)
    (a9 : PySem.W.nsIn K mainGlobals "put" = some (some (.ref f9))) (l9 : K.lookup f9 = some ⟨oc9, od9, .func (PySem.W.fnOf "put" "put" (defArgs s_put) (defBody s_put) (defScope s_put) .none kV9 dc9 pm9 an9 cd9 ct9), sl9⟩) (c9 : PySem.W.codeIn K cd9 "put" = true) (k9 : PySem.W.keepIn K (.ref f9) = true)
    (a10 : PySem.W.nsIn K mainGlobals "need_small" = some (some (.ref f10))) (l10 : K.lookup f10 = some ⟨oc10, od10, .func (PySem.W.fnOf "need_small" "need_small" (defArgs s_need_small) (defBody s_need_small) (defScope s_need_small) .none kV10 dc10 pm10 an10 cd10 ct10), sl10⟩) (c10 : PySem.W.codeIn K cd10 "need_small" = true) (k10 : PySem.W.keepIn K (.ref f10) = true)
    (a11 : PySem.W.nsIn K mainGlobals "variables" = some (some (.ref f11))) (l11 : K.lookup f11 = some ⟨oc11, od11, .func (PySem.W.fnOf "variables" "variables" (defArgs s_variables) (defBody s_variables) (defScope s_variables) .none kV11 dc11 pm11 an11 cd11 ct11), sl11⟩) (c11 : PySem.W.codeIn K cd11 "variables" = true) (k11 : PySem.W.keepIn K (.ref f11) = true)
    (a12 : PySem.W.nsIn K mainGlobals "rebuilt" = some (some (.ref f12))) (l12 : K.lookup f12 = some ⟨oc12, od12, .func (PySem.W.fnOf "rebuilt" "rebuilt" (defArgs s_rebuilt) (defBody s_rebuilt) (defScope s_rebuilt) .none kV12 dc12 pm12 an12 cd12 ct12), sl12⟩) (c12 : PySem.W.codeIn K cd12 "rebuilt" = true) (k12 : PySem.W.keepIn K (.ref f12) = true)
    (a13 : PySem.W.nsIn K mainGlobals "measure" = some (some (.ref f13))) (l13 : K.lookup f13 = some ⟨oc13, od13, .func (PySem.W.fnOf "measure" "measure" (defArgs s_measure) (defBody s_measure) (defScope s_measure) .none kV13 dc13 pm13 an13 cd13 ct13), sl13⟩) (c13 : PySem.W.codeIn K cd13 "measure" = true) (k13 : PySem.W.keepIn K (.ref f13) = true)
    (a14 : PySem.W.nsIn K mainGlobals "apply" = some (some (.ref f14))) (l14 : K.lookup f14 = some ⟨oc14, od14, .func (PySem.W.fnOf "apply" "apply" (defArgs s_apply) (defBody s_apply) (defScope s_apply) .none kV14 dc14 pm14 an14 (.ref l_apply) ct14), sl14⟩) (c14 : PySem.W.codeIn K (.ref l_apply) "apply" = true) (k14 : PySem.W.keepIn K (.ref f14) = true)
    (a15 : PySem.W.nsIn K mainGlobals "match" = some (some (.ref f15))) (l15 : K.lookup f15 = some ⟨oc15, od15, .func (PySem.W.fnOf "match" "match" (defArgs s_match) (defBody s_match) (defScope s_match) .none kV15 dc15 pm15 an15 cd15 ct15), sl15⟩) (c15 : PySem.W.codeIn K cd15 "match" = true) (k15 : PySem.W.keepIn K (.ref f15) = true)
    (a16 : PySem.W.nsIn K mainGlobals "rewritten" = some (some (.ref f16))) (l16 : K.lookup f16 = some ⟨oc16, od16, .func (PySem.W.fnOf "rewritten" "rewritten" (defArgs s_rewritten) (defBody s_rewritten) (defScope s_rewritten) .none kV16 dc16 pm16 an16 cd16 ct16), sl16⟩) (c16 : PySem.W.codeIn K cd16 "rewritten" = true) (k16 : PySem.W.keepIn K (.ref f16) = true)
    (a17 : PySem.W.nsIn K mainGlobals "step" = some (some (.ref f17))) (l17 : K.lookup f17 = some ⟨oc17, od17, .func (PySem.W.fnOf "step" "step" (defArgs s_step) (defBody s_step) (defScope s_step) .none kV17 dc17 pm17 an17 cd17 ct17), sl17⟩) (c17 : PySem.W.codeIn K cd17 "step" = true) (k17 : PySem.W.keepIn K (.ref f17) = true)
    (a18 : PySem.W.nsIn K mainGlobals "derive" = some (some (.ref f18))) (l18 : K.lookup f18 = some ⟨oc18, od18, .func (PySem.W.fnOf "derive" "derive" (defArgs s_derive) (defBody s_derive) (defScope s_derive) .none kV18 dc18 pm18 an18 cd18 ct18), sl18⟩) (c18 : PySem.W.codeIn K cd18 "derive" = true) (k18 : PySem.W.keepIn K (.ref f18) = true)
    (a19 : PySem.W.nsIn K mainGlobals "successors" = some (some (.ref f19))) (l19 : K.lookup f19 = some ⟨oc19, od19, .func (PySem.W.fnOf "successors" "successors" (defArgs s_successors) (defBody s_successors) (defScope s_successors) .none kV19 dc19 pm19 an19 cd19 ct19), sl19⟩) (c19 : PySem.W.codeIn K cd19 "successors" = true) (k19 : PySem.W.keepIn K (.ref f19) = true)
    (a20 : PySem.W.nsIn K mainGlobals "_law_stream" = some (some (.ref f20))) (l20 : K.lookup f20 = some ⟨oc20, od20, .func (PySem.W.fnOf "_law_stream" "_law_stream" (defArgs s__law_stream) (defBody s__law_stream) (defScope s__law_stream) .none kV20 dc20 pm20 an20 cd20 ct20), sl20⟩) (c20 : PySem.W.codeIn K cd20 "_law_stream" = true) (k20 : PySem.W.keepIn K (.ref f20) = true)
    (a21 : PySem.W.nsIn K mainGlobals "_law_draw" = some (some (.ref f21))) (l21 : K.lookup f21 = some ⟨oc21, od21, .func (PySem.W.fnOf "_law_draw" "_law_draw" (defArgs s__law_draw) (defBody s__law_draw) (defScope s__law_draw) .none kV21 dc21 pm21 an21 cd21 ct21), sl21⟩) (c21 : PySem.W.codeIn K cd21 "_law_draw" = true) (k21 : PySem.W.keepIn K (.ref f21) = true)
    (a22 : PySem.W.nsIn K mainGlobals "_law_pick" = some (some (.ref f22))) (l22 : K.lookup f22 = some ⟨oc22, od22, .func (PySem.W.fnOf "_law_pick" "_law_pick" (defArgs s__law_pick) (defBody s__law_pick) (defScope s__law_pick) .none kV22 dc22 pm22 an22 cd22 ct22), sl22⟩) (c22 : PySem.W.codeIn K cd22 "_law_pick" = true) (k22 : PySem.W.keepIn K (.ref f22) = true)
    (a23 : PySem.W.nsIn K mainGlobals "_law_size" = some (some (.ref f23))) (l23 : K.lookup f23 = some ⟨oc23, od23, .func (PySem.W.fnOf "_law_size" "_law_size" (defArgs s__law_size) (defBody s__law_size) (defScope s__law_size) .none kV23 dc23 pm23 an23 cd23 ct23), sl23⟩) (c23 : PySem.W.codeIn K cd23 "_law_size" = true) (k23 : PySem.W.keepIn K (.ref f23) = true)
    (a24 : PySem.W.nsIn K mainGlobals "_law_depth" = some (some (.ref f24))) (l24 : K.lookup f24 = some ⟨oc24, od24, .func (PySem.W.fnOf "_law_depth" "_law_depth" (defArgs s__law_depth) (defBody s__law_depth) (defScope s__law_depth) .none kV24 dc24 pm24 an24 cd24 ct24), sl24⟩) (c24 : PySem.W.codeIn K cd24 "_law_depth" = true) (k24 : PySem.W.keepIn K (.ref f24) = true)
    (a25 : PySem.W.nsIn K mainGlobals "_law_places" = some (some (.ref f25))) (l25 : K.lookup f25 = some ⟨oc25, od25, .func (PySem.W.fnOf "_law_places" "_law_places" (defArgs s__law_places) (defBody s__law_places) (defScope s__law_places) .none kV25 dc25 pm25 an25 cd25 ct25), sl25⟩) (c25 : PySem.W.codeIn K cd25 "_law_places" = true) (k25 : PySem.W.keepIn K (.ref f25) = true)
    (a26 : PySem.W.nsIn K mainGlobals "_law_at" = some (some (.ref f26))) (l26 : K.lookup f26 = some ⟨oc26, od26, .func (PySem.W.fnOf "_law_at" "_law_at" (defArgs s__law_at) (defBody s__law_at) (defScope s__law_at) .none kV26 dc26 pm26 an26 cd26 ct26), sl26⟩) (c26 : PySem.W.codeIn K cd26 "_law_at" = true) (k26 : PySem.W.keepIn K (.ref f26) = true)
    (a27 : PySem.W.nsIn K mainGlobals "_law_put" = some (some (.ref f27))) (l27 : K.lookup f27 = some ⟨oc27, od27, .func (PySem.W.fnOf "_law_put" "_law_put" (defArgs s__law_put) (defBody s__law_put) (defScope s__law_put) .none kV27 dc27 pm27 an27 cd27 ct27), sl27⟩) (c27 : PySem.W.codeIn K cd27 "_law_put" = true) (k27 : PySem.W.keepIn K (.ref f27) = true)
    (a28 : PySem.W.nsIn K mainGlobals "_law_variables" = some (some (.ref f28))) (l28 : K.lookup f28 = some ⟨oc28, od28, .func (PySem.W.fnOf "_law_variables" "_law_variables" (defArgs s__law_variables) (defBody s__law_variables) (defScope s__law_variables) .none kV28 dc28 pm28 an28 cd28 ct28), sl28⟩) (c28 : PySem.W.codeIn K cd28 "_law_variables" = true) (k28 : PySem.W.keepIn K (.ref f28) = true)
    (a29 : PySem.W.nsIn K mainGlobals "_law_apply" = some (some (.ref f29))) (l29 : K.lookup f29 = some ⟨oc29, od29, .func (PySem.W.fnOf "_law_apply" "_law_apply" (defArgs s__law_apply) (defBody s__law_apply) (defScope s__law_apply) .none kV29 dc29 pm29 an29 cd29 ct29), sl29⟩) (c29 : PySem.W.codeIn K cd29 "_law_apply" = true) (k29 : PySem.W.keepIn K (.ref f29) = true)
    (a30 : PySem.W.nsIn K mainGlobals "_law_match" = some (some (.ref f30))) (l30 : K.lookup f30 = some ⟨oc30, od30, .func (PySem.W.fnOf "_law_match" "_law_match" (defArgs s__law_match) (defBody s__law_match) (defScope s__law_match) .none kV30 dc30 pm30 an30 cd30 ct30), sl30⟩) (c30 : PySem.W.codeIn K cd30 "_law_match" = true) (k30 : PySem.W.keepIn K (.ref f30) = true)
    (a31 : PySem.W.nsIn K mainGlobals "_law_term" = some (some (.ref f31))) (l31 : K.lookup f31 = some ⟨oc31, od31, .func (PySem.W.fnOf "_law_term" "_law_term" (defArgs s__law_term) (defBody s__law_term) (defScope s__law_term) .none kV31 dc31 pm31 an31 cd31 ct31), sl31⟩) (c31 : PySem.W.codeIn K cd31 "_law_term" = true) (k31 : PySem.W.keepIn K (.ref f31) = true)
    (a32 : PySem.W.nsIn K mainGlobals "_law_some_symbols" = some (some (.ref f32))) (l32 : K.lookup f32 = some ⟨oc32, od32, .func (PySem.W.fnOf "_law_some_symbols" "_law_some_symbols" (defArgs s__law_some_symbols) (defBody s__law_some_symbols) (defScope s__law_some_symbols) .none kV32 dc32 pm32 an32 cd32 ct32), sl32⟩) (c32 : PySem.W.codeIn K cd32 "_law_some_symbols" = true) (k32 : PySem.W.keepIn K (.ref f32) = true)
    (a33 : PySem.W.nsIn K mainGlobals "_law_rule" = some (some (.ref f33))) (l33 : K.lookup f33 = some ⟨oc33, od33, .func (PySem.W.fnOf "_law_rule" "_law_rule" (defArgs s__law_rule) (defBody s__law_rule) (defScope s__law_rule) .none kV33 dc33 pm33 an33 cd33 ct33), sl33⟩) (c33 : PySem.W.codeIn K cd33 "_law_rule" = true) (k33 : PySem.W.keepIn K (.ref f33) = true)
    (a34 : PySem.W.nsIn K mainGlobals "_law_system" = some (some (.ref f34))) (l34 : K.lookup f34 = some ⟨oc34, od34, .func (PySem.W.fnOf "_law_system" "_law_system" (defArgs s__law_system) (defBody s__law_system) (defScope s__law_system) .none kV34 dc34 pm34 an34 cd34 ct34), sl34⟩) (c34 : PySem.W.codeIn K cd34 "_law_system" = true) (k34 : PySem.W.keepIn K (.ref f34) = true)
    (a35 : PySem.W.nsIn K mainGlobals "_law_steps" = some (some (.ref f35))) (l35 : K.lookup f35 = some ⟨oc35, od35, .func (PySem.W.fnOf "_law_steps" "_law_steps" (defArgs s__law_steps) (defBody s__law_steps) (defScope s__law_steps) .none kV35 dc35 pm35 an35 cd35 ct35), sl35⟩) (c35 : PySem.W.codeIn K cd35 "_law_steps" = true) (k35 : PySem.W.keepIn K (.ref f35) = true)
    (a36 : PySem.W.nsIn K mainGlobals "_law_is_large" = some (some (.ref f36))) (l36 : K.lookup f36 = some ⟨oc36, od36, .func (PySem.W.fnOf "_law_is_large" "_law_is_large" (defArgs s__law_is_large) (defBody s__law_is_large) (defScope s__law_is_large) .none kV36 dc36 pm36 an36 cd36 ct36), sl36⟩) (c36 : PySem.W.codeIn K cd36 "_law_is_large" = true) (k36 : PySem.W.keepIn K (.ref f36) = true)
    (a37 : PySem.W.nsIn K mainGlobals "_law_bulk" = some (some (.ref f37))) (l37 : K.lookup f37 = some ⟨oc37, od37, .func (PySem.W.fnOf "_law_bulk" "_law_bulk" (defArgs s__law_bulk) (defBody s__law_bulk) (defScope s__law_bulk) .none kV37 dc37 pm37 an37 cd37 ct37), sl37⟩) (c37 : PySem.W.codeIn K cd37 "_law_bulk" = true) (k37 : PySem.W.keepIn K (.ref f37) = true)
    (a38 : PySem.W.nsIn K mainGlobals "_law_doubled" = some (some (.ref f38))) (l38 : K.lookup f38 = some ⟨oc38, od38, .func (PySem.W.fnOf "_law_doubled" "_law_doubled" (defArgs s__law_doubled) (defBody s__law_doubled) (defScope s__law_doubled) .none kV38 dc38 pm38 an38 cd38 ct38), sl38⟩) (c38 : PySem.W.codeIn K cd38 "_law_doubled" = true) (k38 : PySem.W.keepIn K (.ref f38) = true)
    (a39 : PySem.W.nsIn K mainGlobals "_law_raises" = some (some (.ref f39))) (l39 : K.lookup f39 = some ⟨oc39, od39, .func (PySem.W.fnOf "_law_raises" "_law_raises" (defArgs s__law_raises) (defBody s__law_raises) (defScope s__law_raises) .none kV39 dc39 pm39 an39 cd39 ct39), sl39⟩) (c39 : PySem.W.codeIn K cd39 "_law_raises" = true) (k39 : PySem.W.keepIn K (.ref f39) = true)
    (a40 : PySem.W.nsIn K mainGlobals "_law_at_the_end" = some (some (.ref f40))) (l40 : K.lookup f40 = some ⟨oc40, od40, .func (PySem.W.fnOf "_law_at_the_end" "_law_at_the_end" (defArgs s__law_at_the_end) (defBody s__law_at_the_end) (defScope s__law_at_the_end) .none kV40 dc40 pm40 an40 cd40 ct40), sl40⟩) (c40 : PySem.W.codeIn K cd40 "_law_at_the_end" = true) (k40 : PySem.W.keepIn K (.ref f40) = true)
    (a41 : PySem.W.nsIn K mainGlobals "law" = some (some (.ref f41))) (l41 : K.lookup f41 = some ⟨oc41, od41, .func (PySem.W.fnOf "law" "law" (defArgs s_law) (defBody s_law) (defScope s_law) .none kV41 dc41 pm41 an41 cd41 ct41), sl41⟩) (c41 : PySem.W.codeIn K cd41 "law" = true) (k41 : PySem.W.keepIn K (.ref f41) = true)
    (tl_apply : K.lookup l_apply = some ⟨te_apply, td_apply, .fields tv_apply, ts_apply⟩) (tp_apply : tv_apply[11]? = some (.ref p_apply)) (tn_apply : K.lookup p_apply = none)
    (z_abs : PySem.W.nsIn K mainGlobals "abs" = some none)
    (z_any : PySem.W.nsIn K mainGlobals "any" = some none)
    (z_dict : PySem.W.nsIn K mainGlobals "dict" = some none)
    (z_int : PySem.W.nsIn K mainGlobals "int" = some none)
    (z_isinstance : PySem.W.nsIn K mainGlobals "isinstance" = some none)
    (z_len : PySem.W.nsIn K mainGlobals "len" = some none)
    (z_list : PySem.W.nsIn K mainGlobals "list" = some none)
    (z_max : PySem.W.nsIn K mainGlobals "max" = some none)
    (z_range : PySem.W.nsIn K mainGlobals "range" = some none)
    (z_str : PySem.W.nsIn K mainGlobals "str" = some none)
    (z_sum : PySem.W.nsIn K mainGlobals "sum" = some none)
    (z_tuple : PySem.W.nsIn K mainGlobals "tuple" = some none)
    (z_zip : PySem.W.nsIn K mainGlobals "zip" = some none)
    (g_MOST_NODES : PySem.W.nsIn K mainGlobals "MOST_NODES" = some (some (.int 400 t_MOST_NODES)))
    (g_MOST_DEPTH : PySem.W.nsIn K mainGlobals "MOST_DEPTH" = some (some (.int 40 t_MOST_DEPTH)))
    (e1_LimitError : PySem.W.nsIn K mainGlobals "LimitError" = some (some (.ref c_LimitError))) (e2_LimitError : PySem.W.excIn K c_LimitError [.type "ValueError", .type "Exception", .type "BaseException", .type "object"] "ValueError.__new__" = true) (e3_LimitError : PySem.W.keepIn K (.ref c_LimitError) = true) (e4_LimitError : PySem.W.subIn K (.ref c_LimitError) (.type "BaseException") = some true) (e5_LimitError : PySem.W.typeIn K (.ref c_LimitError) = some (.type "type")) (e6_LimitError : PySem.W.isClsIn K c_LimitError = true) (e7_LimitError : PySem.W.subIn K (.ref c_LimitError) (.ref c_LimitError) = some true)
    (e1_StepError : PySem.W.nsIn K mainGlobals "StepError" = some (some (.ref c_StepError))) (e2_StepError : PySem.W.excIn K c_StepError [.type "ValueError", .type "Exception", .type "BaseException", .type "object"] "ValueError.__new__" = true) (e3_StepError : PySem.W.keepIn K (.ref c_StepError) = true) (e4_StepError : PySem.W.subIn K (.ref c_StepError) (.type "BaseException") = some true) (e5_StepError : PySem.W.typeIn K (.ref c_StepError) = some (.type "type")) (e6_StepError : PySem.W.isClsIn K c_StepError = true) (e7_StepError : PySem.W.subIn K (.ref c_StepError) (.ref c_StepError) = some true)
    : LamX.LawAtS l w K (L2.CX l.prog w) 161 63 "script" mg fa h := by
  have e := hfa.symm.trans (PySem.W.mg_of X G a41)
  cases e
  have F1 := fun_mk (st := s_is_variable) l1 c1 k1
  have b1 := F1.binds (ps := ["t"]) fun _ _ _ _ _ _ us hl => match us, hl with | [_], _ => rfl
  have F2 := fun_mk (st := s_inner) l2 c2 k2
  have b2 := F2.binds (ps := ["t"]) fun _ _ _ _ _ _ us hl => match us, hl with | [_], _ => rfl
  have F3 := fun_mk (st := s_same) l3 c3 k3
  have b3 := F3.binds (ps := ["s", "t"]) fun _ _ _ _ _ _ us hl => match us, hl with | [_, _], _ => rfl
  have F4 := fun_mk (st := s_parts) l4 c4 k4
  have b4 := F4.binds (ps := ["t"]) fun _ _ _ _ _ _ us hl => match us, hl with | [_], _ => rfl
  have F5 := fun_mk (st := s_size) l5 c5 k5
  have b5 := F5.binds (ps := ["t"]) fun _ _ _ _ _ _ us hl => match us, hl with | [_], _ => rfl
  have F6 := fun_mk (st := s_depth) l6 c6 k6
  have b6 := F6.binds (ps := ["t"]) fun _ _ _ _ _ _ us hl => match us, hl with | [_], _ => rfl
  have F7 := fun_mk (st := s_positions) l7 c7 k7
  have b7 := F7.binds (ps := ["t"]) fun _ _ _ _ _ _ us hl => match us, hl with | [_], _ => rfl
  have F8 := fun_mk (st := s_at) l8 c8 k8
  have b8 := F8.binds (ps := ["t", "p"]) fun _ _ _ _ _ _ us hl => match us, hl with | [_, _], _ => rfl
  have F9 := fun_mk (st := s_put) l9 c9 k9
  have b9 := F9.binds (ps := ["t", "p", "s"]) fun _ _ _ _ _ _ us hl => match us, hl with | [_, _, _], _ => rfl
  have F10 := fun_mk (st := s_need_small) l10 c10 k10
  have b10 := F10.binds (ps := ["nodes", "deep"]) fun _ _ _ _ _ _ us hl => match us, hl with | [_, _], _ => rfl
  have F11 := fun_mk (st := s_variables) l11 c11 k11
  have b11 := F11.binds (ps := ["t"]) fun _ _ _ _ _ _ us hl => match us, hl with | [_], _ => rfl
  have F12 := fun_mk (st := s_rebuilt) l12 c12 k12
  have b12 := F12.binds (ps := ["t", "change"]) fun _ _ _ _ _ _ us hl => match us, hl with | [_, _], _ => rfl
  have F13 := fun_mk (st := s_measure) l13 c13 k13
  have b13 := F13.binds (ps := ["s", "t"]) fun _ _ _ _ _ _ us hl => match us, hl with | [_, _], _ => rfl
  have F14 := fun_mk (st := s_apply) l14 c14 k14
  have b14 := F14.binds (ps := ["s", "t"]) fun _ _ _ _ _ _ us hl => match us, hl with | [_, _], _ => rfl
  have F15 := fun_mk (st := s_match) l15 c15 k15
  have b15 := F15.binds (ps := ["pattern", "t"]) fun _ _ _ _ _ _ us hl => match us, hl with | [_, _], _ => rfl
  have F16 := fun_mk (st := s_rewritten) l16 c16 k16
  have b16 := F16.binds (ps := ["system", "t", "place", "number"]) fun _ _ _ _ _ _ us hl => match us, hl with | [_, _, _, _], _ => rfl
  have F17 := fun_mk (st := s_step) l17 c17 k17
  have b17 := F17.binds (ps := ["system", "t", "one"]) fun _ _ _ _ _ _ us hl => match us, hl with | [_, _, _], _ => rfl
  have F18 := fun_mk (st := s_derive) l18 c18 k18
  have b18 := F18.binds (ps := ["system", "t", "steps"]) fun _ _ _ _ _ _ us hl => match us, hl with | [_, _, _], _ => rfl
  have F19 := fun_mk (st := s_successors) l19 c19 k19
  have b19 := F19.binds (ps := ["system", "t"]) fun _ _ _ _ _ _ us hl => match us, hl with | [_, _], _ => rfl
  have F20 := fun_mk (st := s__law_stream) l20 c20 k20
  have b20 := F20.binds (ps := ["script"]) fun _ _ _ _ _ _ us hl => match us, hl with | [_], _ => rfl
  have F21 := fun_mk (st := s__law_draw) l21 c21 k21
  have b21 := F21.binds (ps := ["stream", "many"]) fun _ _ _ _ _ _ us hl => match us, hl with | [_, _], _ => rfl
  have F22 := fun_mk (st := s__law_pick) l22 c22 k22
  have b22 := F22.binds (ps := ["stream", "rows"]) fun _ _ _ _ _ _ us hl => match us, hl with | [_, _], _ => rfl
  have F23 := fun_mk (st := s__law_size) l23 c23 k23
  have b23 := F23.binds (ps := ["t"]) fun _ _ _ _ _ _ us hl => match us, hl with | [_], _ => rfl
  have F24 := fun_mk (st := s__law_depth) l24 c24 k24
  have b24 := F24.binds (ps := ["t"]) fun _ _ _ _ _ _ us hl => match us, hl with | [_], _ => rfl
  have F25 := fun_mk (st := s__law_places) l25 c25 k25
  have b25 := F25.binds (ps := ["t"]) fun _ _ _ _ _ _ us hl => match us, hl with | [_], _ => rfl
  have F26 := fun_mk (st := s__law_at) l26 c26 k26
  have b26 := F26.binds (ps := ["t", "place"]) fun _ _ _ _ _ _ us hl => match us, hl with | [_, _], _ => rfl
  have F27 := fun_mk (st := s__law_put) l27 c27 k27
  have b27 := F27.binds (ps := ["t", "place", "s"]) fun _ _ _ _ _ _ us hl => match us, hl with | [_, _, _], _ => rfl
  have F28 := fun_mk (st := s__law_variables) l28 c28 k28
  have b28 := F28.binds (ps := ["t"]) fun _ _ _ _ _ _ us hl => match us, hl with | [_], _ => rfl
  have F29 := fun_mk (st := s__law_apply) l29 c29 k29
  have b29 := F29.binds (ps := ["table", "t"]) fun _ _ _ _ _ _ us hl => match us, hl with | [_, _], _ => rfl
  have F30 := fun_mk (st := s__law_match) l30 c30 k30
  have b30 := F30.binds (ps := ["pattern", "t"]) fun _ _ _ _ _ _ us hl => match us, hl with | [_, _], _ => rfl
  have F31 := fun_mk (st := s__law_term) l31 c31 k31
  have b31 := F31.binds (ps := ["stream", "symbols", "names", "most", "deep"]) fun _ _ _ _ _ _ us hl => match us, hl with | [_, _, _, _, _], _ => rfl
  have F32 := fun_mk (st := s__law_some_symbols) l32 c32 k32
  have b32 := F32.binds (ps := ["stream", "most"]) fun _ _ _ _ _ _ us hl => match us, hl with | [_, _], _ => rfl
  have F33 := fun_mk (st := s__law_rule) l33 c33 k33
  have b33 := F33.binds (ps := ["stream", "symbols", "most"]) fun _ _ _ _ _ _ us hl => match us, hl with | [_, _, _], _ => rfl
  have F34 := fun_mk (st := s__law_system) l34 c34 k34
  have b34 := F34.binds (ps := ["stream", "symbols", "many", "most"]) fun _ _ _ _ _ _ us hl => match us, hl with | [_, _, _, _], _ => rfl
  have F35 := fun_mk (st := s__law_steps) l35 c35 k35
  have b35 := F35.binds (ps := ["system", "t"]) fun _ _ _ _ _ _ us hl => match us, hl with | [_, _], _ => rfl
  have F36 := fun_mk (st := s__law_is_large) l36 c36 k36
  have b36 := F36.binds (ps := ["t"]) fun _ _ _ _ _ _ us hl => match us, hl with | [_], _ => rfl
  have F37 := fun_mk (st := s__law_bulk) l37 c37 k37
  have b37 := F37.binds (ps := ["many"]) fun _ _ _ _ _ _ us hl => match us, hl with | [_], _ => rfl
  have F38 := fun_mk (st := s__law_doubled) l38 c38 k38
  have b38 := F38.binds (ps := ["many"]) fun _ _ _ _ _ _ us hl => match us, hl with | [_], _ => rfl
  have F39 := fun_mk (st := s__law_raises) l39 c39 k39
  have b39 := F39.binds (ps := ["what", "system", "t", "one"]) fun _ _ _ _ _ _ us hl => match us, hl with | [_, _, _, _], _ => rfl
  have F40 := fun_mk (st := s__law_at_the_end) l40 c40 k40
  have b40 := F40.binds (ps := ["stream"]) fun _ _ _ _ _ _ us hl => match us, hl with | [_], _ => rfl
  have F41 := fun_mk (st := s_law) l41 c41 k41
  have tq_apply := tabs "apply" l_apply p_apply rc_apply (tabIn_of a14 l14 rfl tl_apply tp_apply)
  have T : ∀ (base : Heap) (tb_apply : LamX.TabB base mg l_apply p_apply), Tops K mg base c_LimitError c_StepError l_apply p_apply := fun base tb_apply =>
    { D_is_variable := ⟨_, _, F1, PySem.W.mg_of X G a1, b1⟩,
      D_inner := ⟨_, _, F2, PySem.W.mg_of X G a2, b2⟩,
      D_same := ⟨_, _, F3, PySem.W.mg_of X G a3, b3⟩,
      D_parts := ⟨_, _, F4, PySem.W.mg_of X G a4, b4⟩,
      D_size := ⟨_, _, F5, PySem.W.mg_of X G a5, b5⟩,
      D_depth := ⟨_, _, F6, PySem.W.mg_of X G a6, b6⟩,
      D_positions := ⟨_, _, F7, PySem.W.mg_of X G a7, b7⟩,
      D_at := ⟨_, _, F8, PySem.W.mg_of X G a8, b8⟩,
      D_put := ⟨_, _, F9, PySem.W.mg_of X G a9, b9⟩,
      D_need_small := ⟨_, _, F10, PySem.W.mg_of X G a10, b10⟩,
      D_variables := ⟨_, _, F11, PySem.W.mg_of X G a11, b11⟩,
      D_rebuilt := ⟨_, _, F12, PySem.W.mg_of X G a12, b12⟩,
      D_measure := ⟨_, _, F13, PySem.W.mg_of X G a13, b13⟩,
      D_apply := ⟨_, _, F14, PySem.W.mg_of X G a14, b14, rfl⟩,
      D_match := ⟨_, _, F15, PySem.W.mg_of X G a15, b15⟩,
      D_rewritten := ⟨_, _, F16, PySem.W.mg_of X G a16, b16⟩,
      D_step := ⟨_, _, F17, PySem.W.mg_of X G a17, b17⟩,
      D_derive := ⟨_, _, F18, PySem.W.mg_of X G a18, b18⟩,
      D_successors := ⟨_, _, F19, PySem.W.mg_of X G a19, b19⟩,
      D__law_stream := ⟨_, _, F20, PySem.W.mg_of X G a20, b20⟩,
      D__law_draw := ⟨_, _, F21, PySem.W.mg_of X G a21, b21⟩,
      D__law_pick := ⟨_, _, F22, PySem.W.mg_of X G a22, b22⟩,
      D__law_size := ⟨_, _, F23, PySem.W.mg_of X G a23, b23⟩,
      D__law_depth := ⟨_, _, F24, PySem.W.mg_of X G a24, b24⟩,
      D__law_places := ⟨_, _, F25, PySem.W.mg_of X G a25, b25⟩,
      D__law_at := ⟨_, _, F26, PySem.W.mg_of X G a26, b26⟩,
      D__law_put := ⟨_, _, F27, PySem.W.mg_of X G a27, b27⟩,
      D__law_variables := ⟨_, _, F28, PySem.W.mg_of X G a28, b28⟩,
      D__law_apply := ⟨_, _, F29, PySem.W.mg_of X G a29, b29⟩,
      D__law_match := ⟨_, _, F30, PySem.W.mg_of X G a30, b30⟩,
      D__law_term := ⟨_, _, F31, PySem.W.mg_of X G a31, b31⟩,
      D__law_some_symbols := ⟨_, _, F32, PySem.W.mg_of X G a32, b32⟩,
      D__law_rule := ⟨_, _, F33, PySem.W.mg_of X G a33, b33⟩,
      D__law_system := ⟨_, _, F34, PySem.W.mg_of X G a34, b34⟩,
      D__law_steps := ⟨_, _, F35, PySem.W.mg_of X G a35, b35⟩,
      D__law_is_large := ⟨_, _, F36, PySem.W.mg_of X G a36, b36⟩,
      D__law_bulk := ⟨_, _, F37, PySem.W.mg_of X G a37, b37⟩,
      D__law_doubled := ⟨_, _, F38, PySem.W.mg_of X G a38, b38⟩,
      D__law_raises := ⟨_, _, F39, PySem.W.mg_of X G a39, b39⟩,
      D__law_at_the_end := ⟨_, _, F40, PySem.W.mg_of X G a40, b40⟩,
      tb_apply := tb_apply,
      lt_apply := lamTab_mem (List.mem_cons_self) (List.nodup_cons.mpr ⟨List.not_mem_nil, List.nodup_nil⟩),
      z_abs := PySem.W.mg_none_of X G z_abs,
      z_any := PySem.W.mg_none_of X G z_any,
      z_dict := PySem.W.mg_none_of X G z_dict,
      z_int := PySem.W.mg_none_of X G z_int,
      z_isinstance := PySem.W.mg_none_of X G z_isinstance,
      z_len := PySem.W.mg_none_of X G z_len,
      z_list := PySem.W.mg_none_of X G z_list,
      z_max := PySem.W.mg_none_of X G z_max,
      z_range := PySem.W.mg_none_of X G z_range,
      z_str := PySem.W.mg_none_of X G z_str,
      z_sum := PySem.W.mg_none_of X G z_sum,
      z_tuple := PySem.W.mg_none_of X G z_tuple,
      z_zip := PySem.W.mg_none_of X G z_zip,
      g_MOST_NODES := ⟨_, PySem.W.mg_of X G g_MOST_NODES⟩,
      g_MOST_DEPTH := ⟨_, PySem.W.mg_of X G g_MOST_DEPTH⟩,
      x_LimitError := ⟨PySem.W.mg_of X G e1_LimitError, e2_LimitError, e3_LimitError, e4_LimitError, e5_LimitError⟩,
      m_LimitError := exm_self e4_LimitError e6_LimitError e5_LimitError e7_LimitError,
      x_StepError := ⟨PySem.W.mg_of X G e1_StepError, e2_StepError, e3_StepError, e4_StepError, e5_StepError⟩,
      m_StepError := exm_self e4_StepError e6_StepError e5_StepError e7_StepError }
  refine ⟨PySem.W.fnOf "law" "law" (defArgs s_law) (defBody s_law) (defScope s_law) .none kV41 dc41 pm41 an41 cd41 ct41, [(l_apply, p_apply)], spLaw K (TB p_apply), (fun p hp => by
    simp only [List.mem_cons, List.not_mem_nil, or_false] at hp
    rcases hp with rfl
    · exact tq_apply.2), (fun p hp => by
    simp only [List.mem_cons, List.not_mem_nil, or_false] at hp
    rcases hp with rfl
    · exact tn_apply), (fun p hp => by
    simp only [List.mem_cons, List.not_mem_nil, or_false] at hp
    rcases hp with rfl
    · exact tq_apply.1), fun s v => .of_eq rfl, fun H a ns hl _ hT hS => ⟨a, ns, rfl, hS, Nat.le_trans hl (by decide), ?_, fun _ => rfl⟩, fun base _ _ hB => law_main (T base (hB (l_apply, p_apply) (List.mem_cons_self))) F41⟩
  intro p hp
  simp only [TB, List.mem_cons, List.not_mem_nil, or_false] at hp
  rcases hp with rfl
  · exact LamX.TabS.nil (hT (l_apply, p_apply) (List.mem_cons_self))
end PL

open PySem PySem.W PyProof.Rows
set_option maxHeartbeats 0 in
theorem PySem.Challenge.cw_termtide_k07_whole_steps_holds : PySem.Challenge.rw_termtide_k07_whole_steps.Holds := by
  w_on; o_law; k_head; (case hw => w_witness2)
  k_fill
  refine PL.walk_tabs (l := PySem.Challenge.rw_termtide_k07_whole_steps) (n := 63) (k := 161) (x := "script") (CX := fun w => L2.CX PySem.Challenge.rw_termtide_k07_whole_steps.prog w) rfl (by decide) rfl ⟨rfl, by decide, by decide⟩ (fun w h Y => by first | exact PySem.W.km_in_of Y | exact PySem.W.kIn_of Y) ?F (fun _ _ _ _ _ h => PL.cx_false h)
  case F =>
    intro w mg fa h KX G hmg tabs
    refine' PL.all_mk KX G hmg tabs ?rc_apply ?a1 ?l1 ?c1 ?k1 ?a2 ?l2 ?c2 ?k2 ?a3 ?l3 ?c3 ?k3 ?a4 ?l4 ?c4 ?k4 ?a5 ?l5 ?c5 ?k5 ?a6 ?l6 ?c6 ?k6 ?a7 ?l7 ?c7 ?k7 ?a8 ?l8 ?c8 ?k8 ?a9 ?l9 ?c9 ?k9 ?a10 ?l10 ?c10 ?k10 ?a11 ?l11 ?c11 ?k11 ?a12 ?l12 ?c12 ?k12 ?a13 ?l13 ?c13 ?k13 ?a14 ?l14 ?c14 ?k14 ?a15 ?l15 ?c15 ?k15 ?a16 ?l16 ?c16 ?k16 ?a17 ?l17 ?c17 ?k17 ?a18 ?l18 ?c18 ?k18 ?a19 ?l19 ?c19 ?k19 ?a20 ?l20 ?c20 ?k20 ?a21 ?l21 ?c21 ?k21 ?a22 ?l22 ?c22 ?k22 ?a23 ?l23 ?c23 ?k23 ?a24 ?l24 ?c24 ?k24 ?a25 ?l25 ?c25 ?k25 ?a26 ?l26 ?c26 ?k26 ?a27 ?l27 ?c27 ?k27 ?a28 ?l28 ?c28 ?k28 ?a29 ?l29 ?c29 ?k29 ?a30 ?l30 ?c30 ?k30 ?a31 ?l31 ?c31 ?k31 ?a32 ?l32 ?c32 ?k32 ?a33 ?l33 ?c33 ?k33 ?a34 ?l34 ?c34 ?k34 ?a35 ?l35 ?c35 ?k35 ?a36 ?l36 ?c36 ?k36 ?a37 ?l37 ?c37 ?k37 ?a38 ?l38 ?c38 ?k38 ?a39 ?l39 ?c39 ?k39 ?a40 ?l40 ?c40 ?k40 ?a41 ?l41 ?c41 ?k41 ?tl_apply ?tp_apply ?tn_apply ?z_abs ?z_any ?z_dict ?z_int ?z_isinstance ?z_len ?z_list ?z_max ?z_range ?z_str ?z_sum ?z_tuple ?z_zip ?g_MOST_NODES ?g_MOST_DEPTH ?e1_LimitError ?e2_LimitError ?e3_LimitError ?e4_LimitError ?e5_LimitError ?e6_LimitError ?e7_LimitError ?e1_StepError ?e2_StepError ?e3_StepError ?e4_StepError ?e5_StepError ?e6_StepError ?e7_StepError
    (case rc_apply => decide +kernel)
    (case a1 => k_is)
    (case l1 => k_is)
    (case c1 => k_is)
    (case k1 => k_is)
    (case a2 => k_is)
    (case l2 => k_is)
    (case c2 => k_is)
    (case k2 => k_is)
    (case a3 => k_is)
    (case l3 => k_is)
    (case c3 => k_is)
    (case k3 => k_is)
    (case a4 => k_is)
    (case l4 => k_is)
    (case c4 => k_is)
    (case k4 => k_is)
    (case a5 => k_is)
    (case l5 => k_is)
    (case c5 => k_is)
    (case k5 => k_is)
    (case a6 => k_is)
    (case l6 => k_is)
    (case c6 => k_is)
    (case k6 => k_is)
    (case a7 => k_is)
    (case l7 => k_is)
    (case c7 => k_is)
    (case k7 => k_is)
    (case a8 => k_is)
    (case l8 => k_is)
    (case c8 => k_is)
    (case k8 => k_is)
    (case a9 => k_is)
    (case l9 => k_is)
    (case c9 => k_is)
    (case k9 => k_is)
    (case a10 => k_is)
    (case l10 => k_is)
    (case c10 => k_is)
    (case k10 => k_is)
    (case a11 => k_is)
    (case l11 => k_is)
    (case c11 => k_is)
    (case k11 => k_is)
    (case a12 => k_is)
    (case l12 => k_is)
    (case c12 => k_is)
    (case k12 => k_is)
    (case a13 => k_is)
    (case l13 => k_is)
    (case c13 => k_is)
    (case k13 => k_is)
    (case a14 => k_is)
    (case l14 => k_is)
    (case c14 => k_is)
    (case k14 => k_is)
    (case a15 => k_is)
    (case l15 => k_is)
    (case c15 => k_is)
    (case k15 => k_is)
    (case a16 => k_is)
    (case l16 => k_is)
    (case c16 => k_is)
    (case k16 => k_is)
    (case a17 => k_is)
    (case l17 => k_is)
    (case c17 => k_is)
    (case k17 => k_is)
    (case a18 => k_is)
    (case l18 => k_is)
    (case c18 => k_is)
    (case k18 => k_is)
    (case a19 => k_is)
    (case l19 => k_is)
    (case c19 => k_is)
    (case k19 => k_is)
    (case a20 => k_is)
    (case l20 => k_is)
    (case c20 => k_is)
    (case k20 => k_is)
    (case a21 => k_is)
    (case l21 => k_is)
    (case c21 => k_is)
    (case k21 => k_is)
    (case a22 => k_is)
    (case l22 => k_is)
    (case c22 => k_is)
    (case k22 => k_is)
    (case a23 => k_is)
    (case l23 => k_is)
    (case c23 => k_is)
    (case k23 => k_is)
    (case a24 => k_is)
    (case l24 => k_is)
    (case c24 => k_is)
    (case k24 => k_is)
    (case a25 => k_is)
    (case l25 => k_is)
    (case c25 => k_is)
    (case k25 => k_is)
    (case a26 => k_is)
    (case l26 => k_is)
    (case c26 => k_is)
    (case k26 => k_is)
    (case a27 => k_is)
    (case l27 => k_is)
    (case c27 => k_is)
    (case k27 => k_is)
    (case a28 => k_is)
    (case l28 => k_is)
    (case c28 => k_is)
    (case k28 => k_is)
    (case a29 => k_is)
    (case l29 => k_is)
    (case c29 => k_is)
    (case k29 => k_is)
    (case a30 => k_is)
    (case l30 => k_is)
    (case c30 => k_is)
    (case k30 => k_is)
    (case a31 => k_is)
    (case l31 => k_is)
    (case c31 => k_is)
    (case k31 => k_is)
    (case a32 => k_is)
    (case l32 => k_is)
    (case c32 => k_is)
    (case k32 => k_is)
    (case a33 => k_is)
    (case l33 => k_is)
    (case c33 => k_is)
    (case k33 => k_is)
    (case a34 => k_is)
    (case l34 => k_is)
    (case c34 => k_is)
    (case k34 => k_is)
    (case a35 => k_is)
    (case l35 => k_is)
    (case c35 => k_is)
    (case k35 => k_is)
    (case a36 => k_is)
    (case l36 => k_is)
    (case c36 => k_is)
    (case k36 => k_is)
    (case a37 => k_is)
    (case l37 => k_is)
    (case c37 => k_is)
    (case k37 => k_is)
    (case a38 => k_is)
    (case l38 => k_is)
    (case c38 => k_is)
    (case k38 => k_is)
    (case a39 => k_is)
    (case l39 => k_is)
    (case c39 => k_is)
    (case k39 => k_is)
    (case a40 => k_is)
    (case l40 => k_is)
    (case c40 => k_is)
    (case k40 => k_is)
    (case a41 => k_is)
    (case l41 => k_is)
    (case c41 => k_is)
    (case k41 => k_is)
    (case tl_apply => k_is)
    (case tp_apply => rfl)
    (case tn_apply => kernel_rfl)
    (case z_abs => k_is)
    (case z_any => k_is)
    (case z_dict => k_is)
    (case z_int => k_is)
    (case z_isinstance => k_is)
    (case z_len => k_is)
    (case z_list => k_is)
    (case z_max => k_is)
    (case z_range => k_is)
    (case z_str => k_is)
    (case z_sum => k_is)
    (case z_tuple => k_is)
    (case z_zip => k_is)
    (case g_MOST_NODES => k_is)
    (case g_MOST_DEPTH => k_is)
    (case e1_LimitError => k_is)
    (case e2_LimitError => first | k_exc | k_is)
    (case e3_LimitError => k_is)
    (case e4_LimitError => k_is)
    (case e5_LimitError => k_is)
    (case e6_LimitError => k_is)
    (case e7_LimitError => first | rfl | k_is)
    (case e1_StepError => k_is)
    (case e2_StepError => first | k_exc | k_is)
    (case e3_StepError => k_is)
    (case e4_StepError => k_is)
    (case e5_StepError => k_is)
    (case e6_StepError => k_is)
    (case e7_StepError => first | rfl | k_is)

