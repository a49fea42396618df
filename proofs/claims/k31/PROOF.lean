import PyProof.Rows.All
import Wide.All
import OpenK.AllK
import Wide.FinOn
import HandS.ForMost
import HandS.Exc
import HandS.ExcOwn
import HandS.WordsExc
import HandS.ExcInit
import HandS.TryOnly
import HandS.Deep
import HandS.Iter
import HandS.Dict
import HandS.Text
import HandS.Style
import HandS.IsInst
import HandS.SortInts
import HandS.More
import HandS.SetFor
import HandS.Ends
import PySem.Challenge.RW_evenclimb_k31_exchanges_of_climbs
set_option Elab.async false
set_option linter.all false
set_option maxRecDepth 100000
set_option maxHeartbeats 4000000
set_option autoImplicit false
/-! DLa: data with value semantics over HandS: what a part of the heap holds, slots, the judgements DE, DT, DS. -/
namespace DL
open PySem PySem.Spec L2

/-- data -/
inductive D where
  | non | bl (b : Bool) | int (i : Int) | str (s : Str)
  | lst (xs : List D) | tup (xs : List D) | lkd (xs : List D) | lkt (xs : List D)
  | ins (c : Nat) (ns : List Str) (vs : List D)
  | dK (ks : List Key) (vs : List D)
  | dT (ks : List (List Key)) (vs : List D)
  | exn (c : Nat) (ns : List Str) (vs : List D)
  | «at» (t : Nat)

instance : Inhabited D := ⟨.non⟩

/-- an exception of the class cls at a, its own dict at od -/
def ExH (cls : Value) (od : Option Addr) (a : Addr) : HO := .ext fun h => ∃ oe vs, h.get? a = some oe ∧ Zc cls od oe ∧ oe.data = .fields vs

mutual
/-- in the heap part G the value holds the data -/
inductive Is (K : PySem.W.Frag) (cl : Nat → Addr) (G : Hp) : V → D → Prop
  | non : Is K cl G .non .non
  | bl (b : Bool) : Is K cl G (.bl b) (.bl b)
  | int (i : Int) : Is K cl G (.int i) (.int i)
  | str (x : Str) : Is K cl G (.str x) (.str x)
  | «at» (t : Nat) : Is K cl G (.ref (cl t)) (.at t)
  | lst {a : Addr} {xs : List V} {ds : List D} : G a = some (.lst xs) → IsL K cl G xs ds → Is K cl G (.ref a) (.lst ds)
  | lkd {a : Addr} {xs : List V} {ds : List D} : SqL K G a xs → IsL K cl G xs ds → Is K cl G (.ref a) (.lkd ds)
  | tup {a : Addr} {xs : List V} {ds : List D} : G a = some (.tup xs) → IsL K cl G xs ds → Is K cl G (.ref a) (.tup ds)
  | lkt {a : Addr} {xs : List V} {ds : List D} : SqT K G a xs → IsL K cl G xs ds → Is K cl G (.ref a) (.lkt ds)
  | ins {a dx : Addr} {c : Nat} {fs : List (Str × V)} {ns : List Str} {ds : List D} : G a = some (.ins (cl c) dx fs) → fs.map (·.1) = ns → IsL K cl G (fs.map (·.2)) ds → Is K cl G (.ref a) (.ins c ns ds)
  | dK {a : Addr} {kvs : List (Key × V)} {ks : List Key} {ds : List D} : G a = some (.dK kvs) → kvs.map (·.1) = ks → IsL K cl G (kvs.map (·.2)) ds → Is K cl G (.ref a) (.dK ks ds)
  | dT {a : Addr} {kvs : List (List Key × V)} {ks : List (List Key)} {ds : List D} : G a = some (.dT kvs) → kvs.map (·.1) = ks → IsL K cl G (kvs.map (·.2)) ds → Is K cl G (.ref a) (.dT ks ds)
  | exn0 {a : Addr} {c : Nat} : G a = some (ExH (.ref (cl c)) none a) → Is K cl G (.ref a) (.exn c [] [])
  | exn1 {a d : Addr} {c : Nat} {fs : List (Str × V)} {ns : List Str} {ds : List D} : G a = some (ExH (.ref (cl c)) (some d) a) → G d = some (.xd fs) → fs.map (·.1) = ns → IsL K cl G (fs.map (·.2)) ds → Is K cl G (.ref a) (.exn c ns ds)
inductive IsL (K : PySem.W.Frag) (cl : Nat → Addr) (G : Hp) : List V → List D → Prop
  | nil : IsL K cl G [] []
  | cons {v : V} {vs : List V} {d : D} {ds : List D} : Is K cl G v d → IsL K cl G vs ds → IsL K cl G (v :: vs) (d :: ds)
end

theorem same_sqt {K : PySem.W.Frag} {H H' : Hp} {a : Addr} {xs : List V} (e : Same H H') (h : SqT K H a xs) : SqT K H' a xs := by
  rcases h with (h | ⟨o, h⟩) | h
  · exact .inl (.inl (e _ _ h))
  · exact .inl (.inr ⟨o, e _ _ h⟩)
  · exact .inr h

section
variable {K : PySem.W.Frag} {cl : Nat → Addr} {G G' H H' : Hp}
mutual
theorem Is.mono (e : Same G G') : ∀ {v : V} {d : D}, Is K cl G v d → Is K cl G' v d
  | _, _, .non => .non
  | _, _, .bl b => .bl b
  | _, _, .int i => .int i
  | _, _, .str x => .str x
  | _, _, .at a => .at a
  | _, _, .lst h t => .lst (e _ _ h) (IsL.mono e t)
  | _, _, .lkd h t => .lkd (e.seq h) (IsL.mono e t)
  | _, _, .tup h t => .tup (e _ _ h) (IsL.mono e t)
  | _, _, .lkt h t => .lkt (same_sqt e h) (IsL.mono e t)
  | _, _, .ins h q t => .ins (e _ _ h) q (IsL.mono e t)
  | _, _, .dK h q t => .dK (e _ _ h) q (IsL.mono e t)
  | _, _, .dT h q t => .dT (e _ _ h) q (IsL.mono e t)
  | _, _, .exn0 h => .exn0 (e _ _ h)
  | _, _, .exn1 h h2 q t => .exn1 (e _ _ h) (e _ _ h2) q (IsL.mono e t)
theorem IsL.mono (e : Same G G') : ∀ {vs : List V} {ds : List D}, IsL K cl G vs ds → IsL K cl G' vs ds
  | _, _, .nil => .nil
  | _, _, .cons h t => .cons (Is.mono e h) (IsL.mono e t)
end
theorem IsL.length : ∀ {vs : List V} {ds : List D}, IsL K cl G vs ds → vs.length = ds.length
  | _, _, .nil => rfl
  | _, _, .cons _ t => by rw [List.length_cons, List.length_cons, IsL.length t]
theorem IsL.append : ∀ {vs ws : List V} {ds es : List D}, IsL K cl G vs ds → IsL K cl G ws es → IsL K cl G (vs ++ ws) (ds ++ es)
  | _, _, _, _, .nil, h => h
  | _, _, _, _, .cons h t, h2 => .cons h (IsL.append t h2)
theorem IsL.one {v : V} {d : D} (h : Is K cl G v d) : IsL K cl G [v] [d] := .cons h .nil
theorem IsL.get : ∀ {vs : List V} {ds : List D} {i : Nat} {d : D}, IsL K cl G vs ds → ds[i]? = some d → ∃ v, vs[i]? = some v ∧ Is K cl G v d
  | _, _, _, _, .nil, h => by simp at h
  | _, _, 0, _, .cons h t, q => by simp at q; subst q; exact ⟨_, rfl, h⟩
  | _, _, i + 1, _, .cons h t, q => by
    obtain ⟨v, a, b⟩ := IsL.get t (i := i) (by simpa using q)
    exact ⟨v, by simpa using a, b⟩
theorem IsL.getV : ∀ {vs : List V} {ds : List D} {i : Nat} {v : V}, IsL K cl G vs ds → vs[i]? = some v → ∃ d, ds[i]? = some d ∧ Is K cl G v d
  | _, _, _, _, .nil, h => by simp at h
  | _, _, 0, _, .cons h t, q => by simp at q; subst q; exact ⟨_, rfl, h⟩
  | _, _, i + 1, _, .cons h t, q => by
    obtain ⟨v, a, b⟩ := IsL.getV t (i := i) (by simpa using q)
    exact ⟨v, by simpa using a, b⟩
theorem IsL.set : ∀ {vs : List V} {ds : List D} {v : V} {d : D} (i : Nat), IsL K cl G vs ds → Is K cl G v d → IsL K cl G (vs.set i v) (ds.set i d)
  | _, _, _, _, _, .nil, _ => .nil
  | _, _, _, _, 0, .cons _ t, h => .cons h t
  | _, _, _, _, i + 1, .cons h t, q => .cons h (IsL.set i t q)
theorem IsL.take : ∀ {vs : List V} {ds : List D} (n : Nat), IsL K cl G vs ds → IsL K cl G (vs.take n) (ds.take n)
  | _, _, 0, _ => .nil
  | _, _, _ + 1, .nil => .nil
  | _, _, n + 1, .cons h t => .cons h (IsL.take n t)
theorem IsL.drop : ∀ {vs : List V} {ds : List D} (n : Nat), IsL K cl G vs ds → IsL K cl G (vs.drop n) (ds.drop n)
  | _, _, 0, h => h
  | _, _, _ + 1, .nil => .nil
  | _, _, n + 1, .cons _ t => IsL.drop n t
theorem IsL.erase : ∀ {vs : List V} {ds : List D} (n : Nat), IsL K cl G vs ds → IsL K cl G (vs.eraseIdx n) (ds.eraseIdx n)
  | _, _, _, .nil => .nil
  | _, _, 0, .cons _ t => t
  | _, _, n + 1, .cons h t => .cons h (IsL.erase n t)
theorem IsL.reverse {vs : List V} {ds : List D} (h : IsL K cl G vs ds) : IsL K cl G vs.reverse ds.reverse := by
  induction vs generalizing ds with
  | nil => cases h; exact .nil
  | cons v vs ih =>
    cases h with
    | cons h t => rw [List.reverse_cons, List.reverse_cons]; exact IsL.append (ih t) (.one h)
theorem IsL.rep {vs : List V} {ds : List D} (h : IsL K cl G vs ds) : ∀ k : Nat, IsL K cl G (List.replicate k vs).flatten (List.replicate k ds).flatten
  | 0 => .nil
  | k + 1 => by
    rw [List.replicate_succ, List.replicate_succ, List.flatten_cons, List.flatten_cons]
    exact IsL.append h (IsL.rep h k)
theorem IsL.cut {vs : List V} {ds : List D} (h : IsL K cl G vs ds) (lo hi : Option Int) : IsL K cl G (cutV vs lo hi)
    ((ds.drop (HT.sIx ds.length 0 lo)).take (HT.sIx ds.length ds.length hi - HT.sIx ds.length 0 lo)) := by
  unfold cutV
  rw [h.length]
  exact (h.drop _).take _
theorem IsL.ints : ∀ {ns : List Int} {vs : List V}, IsL K cl G vs (ns.map D.int) → vs = ns.map V.int
  | [], _, h => by cases h; rfl
  | n :: ns, _, h => by
    cases h with
    | cons h t => cases h; rw [List.map_cons, IsL.ints t]
theorem isl_ints : ∀ {ns : List Int}, IsL K cl G (ns.map V.int) (ns.map D.int)
  | [] => .nil
  | n :: ns => .cons (.int n) isl_ints
end

/-! ### the heap goes on -/
/-- G the fixed part, H the whole: all that was stands, and nothing that stood outside the fixed part comes into it -/
structure Ext (G H G' H' : Hp) : Prop where
  g : Same G G'
  h : Same H H'
  i : Same G' H'
  n : ∀ a, H a ≠ none → G a = none → G' a = none
theorem Ext.refl {G H : Hp} (s : Same G H) : Ext G H G H := ⟨.refl _, .refl _, s, fun _ _ h => h⟩
theorem Same.some_of {H H' : Hp} (e : Same H H') {a : Addr} (h : H a ≠ none) : H' a ≠ none := by
  cases q : H a with
  | none => exact absurd q h
  | some o => rw [e a o q]; simp
theorem Ext.trans {G H G1 H1 G2 H2 : Hp} (a : Ext G H G1 H1) (b : Ext G1 H1 G2 H2) : Ext G H G2 H2 :=
  ⟨a.g.trans b.g, a.h.trans b.h, b.i, fun x h h' => b.n x (Same.some_of a.h h) (a.n x h h')⟩
theorem same_upd {H : Hp} {p : Addr} {o : HO} (h : H p = none) : Same H (upd H p o) := fun b u e => by
  rw [upd_ne (ne_of_none e h)]; exact e
/-- a new object, outside the fixed part -/
theorem Ext.new {G H : Hp} (s : Same G H) {p : Addr} {o : HO} (h : H p = none) : Ext G H G (upd H p o) :=
  ⟨.refl _, same_upd h, s.trans (same_upd h), fun _ _ h => h⟩
/-- a new object, fixed -/
theorem Ext.newG {G H : Hp} (s : Same G H) {p : Addr} {o : HO} (h : H p = none) : Ext G H (upd G p o) (upd H p o) :=
  ⟨same_upd (s.free h), same_upd h, fun b u e => by
    by_cases hb : b = p
    · subst hb; rw [upd_same] at e ⊢; exact e
    · rw [upd_ne hb] at e ⊢; exact s b u e, fun a ha hg => by
    have : a ≠ p := fun z => ha (by rw [z]; exact h)
    rw [upd_ne this]; exact hg⟩
/-- what stands new in H is fixed -/
theorem Ext.fix {G H G' H' : Hp} (e : Ext G H G' H') {p : Addr} {o : HO} (h : H p = none) (g : G' p = none) (hp : H' p = some o) : Ext G H (upd G' p o) H' :=
  ⟨e.g.trans (same_upd g), e.h, fun b u q => by
    by_cases hb : b = p
    · subst hb; rw [upd_same] at q; cases q; exact hp
    · rw [upd_ne hb] at q; exact e.i b u q, fun a ha hg => by
    have : a ≠ p := fun z => ha (by rw [z]; exact h)
    rw [upd_ne this]; exact e.n a ha hg⟩

/-! ### slots -/
/-- what a slot holds: fixed data, or a list (a dict) of the def's own -/
inductive L where
  | sh (d : D)
  | ow (ds : List D)
  | oK (ks : List Key) (vs : List D)
  | oT (ks : List (List Key)) (vs : List D)
  | oI (c : Nat) (ns : List Str) (vs : List D)
  | oP (t : Nat) (ks : List (List Key)) (vs : List D)
def L.own : L → Bool
  | .sh _ => false
  | _ => true
def L.d : L → D
  | .sh d => d
  | .ow ds => .lst ds
  | .oK ks vs => .dK ks vs
  | .oT ks vs => .dT ks vs
  | .oI c ns vs => .ins c ns vs
  | .oP _ ks vs => .dT ks vs
abbrev Ev := List (Option L)

inductive LIs (K : PySem.W.Frag) (cl : Nat → Addr) (G H : Hp) : V → L → Prop
  | sh {v : V} {d : D} : Is K cl G v d → LIs K cl G H v (.sh d)
  | ow {p : Addr} {xs : List V} {ds : List D} : G p = none → H p = some (.lst xs) → IsL K cl G xs ds → LIs K cl G H (.ref p) (.ow ds)
  | oK {p : Addr} {kvs : List (Key × V)} {ks : List Key} {ds : List D} : G p = none → H p = some (.dK kvs) → kvs.map (·.1) = ks → IsL K cl G (kvs.map (·.2)) ds → LIs K cl G H (.ref p) (.oK ks ds)
  | oT {p : Addr} {kvs : List (List Key × V)} {ks : List (List Key)} {ds : List D} : G p = none → H p = some (.dT kvs) → kvs.map (·.1) = ks → IsL K cl G (kvs.map (·.2)) ds → LIs K cl G H (.ref p) (.oT ks ds)
  | oI {dx : Addr} {c : Nat} {fs : List (Str × V)} {ns : List Str} {ds : List D} : G (cl 102) = none → H (cl 102) = some (.ins (cl c) dx fs) → fs.map (·.1) = ns → IsL K cl G (fs.map (·.2)) ds → LIs K cl G H (.ref (cl 102)) (.oI c ns ds)
  | oP {t : Nat} {kvs : List (List Key × V)} {ks : List (List Key)} {ds : List D} : G (cl t) = none → H (cl t) = some (.dT kvs) → kvs.map (·.1) = ks → IsL K cl G (kvs.map (·.2)) ds → LIs K cl G H (.ref (cl t)) (.oP t ks ds)

/-- the value is read as the data -/
inductive Vw (K : PySem.W.Frag) (cl : Nat → Addr) (G H : Hp) : V → D → Prop
  | of {v : V} {d : D} : Is K cl G v d → Vw K cl G H v d
  | lst {p : Addr} {xs : List V} {ds : List D} : H p = some (.lst xs) → IsL K cl G xs ds → Vw K cl G H (.ref p) (.lst ds)
  | dK {p : Addr} {kvs : List (Key × V)} {ks : List Key} {ds : List D} : H p = some (.dK kvs) → kvs.map (·.1) = ks → IsL K cl G (kvs.map (·.2)) ds → Vw K cl G H (.ref p) (.dK ks ds)
  | dT {p : Addr} {kvs : List (List Key × V)} {ks : List (List Key)} {ds : List D} : H p = some (.dT kvs) → kvs.map (·.1) = ks → IsL K cl G (kvs.map (·.2)) ds → Vw K cl G H (.ref p) (.dT ks ds)
  | ins {p dx : Addr} {c : Nat} {fs : List (Str × V)} {ns : List Str} {ds : List D} : H p = some (.ins (cl c) dx fs) → fs.map (·.1) = ns → IsL K cl G (fs.map (·.2)) ds → Vw K cl G H (.ref p) (.ins c ns ds)

section
variable {K : PySem.W.Frag} {cl : Nat → Addr} {G G' G1 G2 H H' H1 H2 : Hp} {v : V} {l : L} {d : D}
theorem LIs.vw (h : LIs K cl G H v l) : Vw K cl G H v l.d := by
  cases h with
  | sh h => exact .of h
  | ow _ h t => exact .lst h t
  | oK _ h q t => exact .dK h q t
  | oT _ h q t => exact .dT h q t
  | oI _ h q t => exact .ins h q t
  | oP _ h q t => exact .dT h q t
theorem LIs.ext (h : LIs K cl G H v l) (e : Ext G H G' H') : LIs K cl G' H' v l := by
  cases h with
  | sh h => exact .sh (h.mono e.g)
  | ow g h t => exact .ow (e.n _ (by rw [h]; simp) g) (e.h _ _ h) (t.mono e.g)
  | oK g h q t => exact .oK (e.n _ (by rw [h]; simp) g) (e.h _ _ h) q (t.mono e.g)
  | oT g h q t => exact .oT (e.n _ (by rw [h]; simp) g) (e.h _ _ h) q (t.mono e.g)
  | oI g h q t => exact .oI (e.n _ (by rw [h]; simp) g) (e.h _ _ h) q (t.mono e.g)
  | oP g h q t => exact .oP (e.n _ (by rw [h]; simp) g) (e.h _ _ h) q (t.mono e.g)
theorem Vw.ext (h : Vw K cl G H v d) (e : Ext G H G' H') : Vw K cl G' H' v d := by
  cases h with
  | of h => exact .of (h.mono e.g)
  | lst h t => exact .lst (e.h _ _ h) (t.mono e.g)
  | dK h q t => exact .dK (e.h _ _ h) q (t.mono e.g)
  | dT h q t => exact .dT (e.h _ _ h) q (t.mono e.g)
  | ins h q t => exact .ins (e.h _ _ h) q (t.mono e.g)
/-- readings -/
theorem Vw.list {ds : List D} (s : Same G H) (h : Vw K cl G H v (.lst ds)) : ∃ p xs, v = .ref p ∧ H p = some (.lst xs) ∧ IsL K cl G xs ds := by
  cases h with
  | of h => cases h with | lst h t => exact ⟨_, _, rfl, s _ _ h, t⟩
  | lst h t => exact ⟨_, _, rfl, h, t⟩
/-- the items of what is read as a list (a locked one too) -/
def D.seq : D → Option (List D)
  | .lst ds => some ds
  | .lkd ds => some ds
  | _ => none
theorem Vw.seq {ds : List D} (s : Same G H) (h : Vw K cl G H v d) (e : d.seq = some ds) : ∃ p xs, v = .ref p ∧ SqL K H p xs ∧ IsL K cl G xs ds := by
  cases d with
  | lst es =>
    cases e
    obtain ⟨p, xs, a, b, c⟩ := h.list s
    exact ⟨p, xs, a, .of b, c⟩
  | lkd es =>
    cases e
    cases h with | of h => cases h with | lkd h t => exact ⟨_, _, rfl, s.seq h, t⟩
  | _ => cases e
theorem Vw.tuple {ds : List D} (s : Same G H) (h : Vw K cl G H v (.tup ds)) : ∃ p xs, v = .ref p ∧ H p = some (.tup xs) ∧ IsL K cl G xs ds := by
  cases h with
  | of h => cases h with | tup h t => exact ⟨_, _, rfl, s _ _ h, t⟩
/-- the items of what is read as a tuple -/
def D.tseq : D → Option (List D)
  | .tup ds => some ds
  | .lkt ds => some ds
  | _ => none
theorem Vw.tseq {ds : List D} (s : Same G H) (h : Vw K cl G H v d) (e : d.tseq = some ds) : ∃ p xs, v = .ref p ∧ SqT K H p xs ∧ IsL K cl G xs ds := by
  cases d with
  | tup es =>
    cases e
    obtain ⟨p, xs, a, b, c⟩ := h.tuple s
    exact ⟨p, xs, a, .of b, c⟩
  | lkt es =>
    cases e
    cases h with | of h => cases h with | lkt h t => exact ⟨_, _, rfl, same_sqt s h, t⟩
  | _ => cases e
theorem Vw.int {i : Int} (h : Vw K cl G H v (.int i)) : v = .int i := by
  cases h with | of h => cases h; rfl
theorem Vw.bl {i : Bool} (h : Vw K cl G H v (.bl i)) : v = .bl i := by
  cases h with | of h => cases h; rfl
theorem Vw.str {i : Str} (h : Vw K cl G H v (.str i)) : v = .str i := by
  cases h with | of h => cases h; rfl
theorem Vw.non (h : Vw K cl G H v .non) : v = .non := by
  cases h with | of h => cases h; rfl
end

/-! ### results -/
/-- an expression's result: fixed data, a new list (dict) that nobody holds, or one that a slot owns -/
inductive R where
  | sh (d : D) | fr (l : L) | bo (l : L)
def R.d : R → D
  | .sh d => d
  | .fr l => l.d
  | .bo l => l.d
inductive RIs (K : PySem.W.Frag) (cl : Nat → Addr) (H G' H' : Hp) : V → R → Prop
  | sh {v : V} {d : D} : Is K cl G' v d → RIs K cl H G' H' v (.sh d)
  | fr {p : Addr} {l : L} : l.own = true → LIs K cl G' H' (.ref p) l → H p = none → RIs K cl H G' H' (.ref p) (.fr l)
  | bo {v : V} {l : L} : LIs K cl G' H' v l → RIs K cl H G' H' v (.bo l)
/-- an exception: its class, its fields -/
structure Ex where
  c : Nat
  ns : List Str := []
  vs : List D := []
inductive XIs (K : PySem.W.Frag) (cl : Nat → Addr) (G' H' : Hp) : Ex → Value → Option Addr → Prop
  | x0 {c : Nat} : XIs K cl G' H' ⟨c, [], []⟩ (.ref (cl c)) none
  | x1 {c : Nat} {d : Addr} {fs : List (Str × V)} {ns : List Str} {ds : List D} : G' d = some (.xd fs) → fs.map (·.1) = ns → IsL K cl G' (fs.map (·.2)) ds → XIs K cl G' H' ⟨c, ns, ds⟩ (.ref (cl c)) (some d)
/-- an outcome -/
inductive O (α : Type) where
  | ok (a : α) | ex (x : Ex) | no
def O.bind {α β : Type} : O α → (α → O β) → O β
  | .ok a, f => f a
  | .ex x, _ => .ex x
  | .no, _ => .no
def O.map {α β : Type} (f : α → β) : O α → O β
  | .ok a => .ok (f a)
  | .ex x => .ex x
  | .no => .no
/-- the data that may be kept -/
def R.fz : R → O D
  | .sh d => .ok d
  | .fr l => .ok l.d
  | .bo _ => .no

section
variable {K : PySem.W.Frag} {cl : Nat → Addr} {G G' G1 G2 H H' H1 H2 : Hp} {v : V} {r : R} {d : D}
theorem RIs.vw (h : RIs K cl H G' H' v r) : Vw K cl G' H' v r.d := by
  cases h with
  | sh h => exact .of h
  | fr _ h _ => exact h.vw
  | bo h => exact h.vw
theorem RIs.start (e : Same H1 H) (h : RIs K cl H G' H' v r) : RIs K cl H1 G' H' v r := by
  cases h with
  | sh h => exact .sh h
  | fr o h q => exact .fr o h (e.free q)
  | bo h => exact .bo h
/-- fixed -/
theorem RIs.fix (e : Ext G H G' H') (h : RIs K cl H G' H' v r) (z : r.fz = .ok d) : ∃ G2, Ext G H G2 H' ∧ Same G' G2 ∧ Is K cl G2 v d := by
  cases h with
  | sh h => cases z; exact ⟨G', e, .refl _, h⟩
  | bo h => cases z
  | fr o h q =>
    cases z
    cases h with
    | sh h => cases o
    | ow g h t => exact ⟨_, e.fix q g h, same_upd g, .lst upd_same (t.mono (same_upd g))⟩
    | oK g h z t => exact ⟨_, e.fix q g h, same_upd g, .dK upd_same z (t.mono (same_upd g))⟩
    | oT g h z t => exact ⟨_, e.fix q g h, same_upd g, .dT upd_same z (t.mono (same_upd g))⟩
    | oI g h z t => exact ⟨_, e.fix q g h, same_upd g, .ins upd_same z (t.mono (same_upd g))⟩
    | oP g h z t => exact ⟨_, e.fix q g h, same_upd g, .dT upd_same z (t.mono (same_upd g))⟩
theorem XIs.mono (e : Same G G') {x : Ex} {c : Value} {od : Option Addr} (h : XIs K cl G H x c od) : XIs K cl G' H' x c od := by
  cases h with
  | x0 => exact .x0
  | x1 h q t => exact .x1 (e _ _ h) q (t.mono e)
end

/-! ### the state of a def -/
structure Rep (K : PySem.W.Frag) (cl : Nat → Addr) (G H : Hp) (σ : L2.St) (env : Ev) : Prop where
  same : Same G H
  len : env.length = σ.length
  «at» : ∀ (i : Nat) (l : L), env[i]? = some (some l) → ∃ v, σ[i]? = some (some v) ∧ LIs K cl G H v l
  sep : ∀ (i j : Nat) (l l' : L) (v : V), env[i]? = some (some l) → env[j]? = some (some l') → l.own = true → l'.own = true → σ[i]? = some (some v) → σ[j]? = some (some v) → i = j
structure RepE (K : PySem.W.Frag) (cl : Nat → Addr) (G0 H0 G H : Hp) (σ : L2.St) (env : Ev) : Prop extends Rep K cl G H σ env where
  ext : Ext G0 H0 G H
  new : ∀ (i : Nat) (l : L) (p : Addr), env[i]? = some (some l) → l.own = true → σ[i]? = some (some (.ref p)) → H0 p = none

section
variable {K : PySem.W.Frag} {cl : Nat → Addr} {G G' G0 G1 G2 H H0 H' H1 H2 : Hp} {σ : St} {env : Ev}
theorem Rep.ext (r : Rep K cl G H σ env) (e : Ext G H G' H') : Rep K cl G' H' σ env :=
  ⟨e.i, r.len, fun i l h => let ⟨v, a, b⟩ := r.at i l h; ⟨v, a, b.ext e⟩, r.sep⟩
theorem RepE.go (r : RepE K cl G0 H0 G H σ env) (e : Ext G H G' H') : RepE K cl G0 H0 G' H' σ env :=
  ⟨r.toRep.ext e, r.ext.trans e, r.new⟩
theorem LIs.ref {v : V} {l : L} (h : LIs K cl G H v l) (o : l.own = true) : ∃ p, v = .ref p ∧ G p = none ∧ H p ≠ none := by
  cases h with
  | sh => cases o
  | ow g h _ => exact ⟨_, rfl, g, by rw [h]; simp⟩
  | oK g h _ => exact ⟨_, rfl, g, by rw [h]; simp⟩
  | oT g h _ => exact ⟨_, rfl, g, by rw [h]; simp⟩
  | oI g h _ => exact ⟨_, rfl, g, by rw [h]; simp⟩
  | oP g h _ => exact ⟨_, rfl, g, by rw [h]; simp⟩
theorem getElem?_set_some {α : Type} {l : List α} {i j : Nat} {a b : α} (h : (l.set i a)[j]? = some b) : (j = i ∧ b = a) ∨ (j ≠ i ∧ l[j]? = some b) := by
  by_cases hj : j = i
  · subst hj
    by_cases hl : j < l.length
    · rw [List.getElem?_set_self hl] at h; cases h; exact .inl ⟨rfl, rfl⟩
    · rw [List.getElem?_eq_none (by simpa using hl)] at h; cases h
  · rw [List.getElem?_set_ne (Ne.symm hj)] at h; exact .inr ⟨hj, h⟩
/-- slot i is set to fixed data -/
theorem Rep.setSh (r : Rep K cl G H σ env) {v : V} {d : D} (h : Is K cl G v d) (i : Nat) : Rep K cl G H (σ.set i (some v)) (env.set i (some (.sh d))) := by
  refine ⟨r.same, by simp [r.len], fun j l hj => ?_, fun j k l l' w hj hk o o' sj sk => ?_⟩
  · rcases getElem?_set_some hj with ⟨rfl, e⟩ | ⟨hn, q⟩
    · cases e
      have hl : j < env.length := by
        by_cases hl : j < env.length
        · exact hl
        · rw [List.getElem?_eq_none (by simpa using hl)] at hj; cases hj
      exact ⟨v, List.getElem?_set_self (by rw [← r.len]; exact hl), .sh h⟩
    · obtain ⟨w, a, b⟩ := r.at j l q
      exact ⟨w, by rw [List.getElem?_set_ne (Ne.symm hn)]; exact a, b⟩
  · rcases getElem?_set_some hj with ⟨rfl, e⟩ | ⟨hn, q⟩
    · cases e; cases o
    · rcases getElem?_set_some hk with ⟨rfl, e⟩ | ⟨hn', q'⟩
      · cases e; cases o'
      · rw [List.getElem?_set_ne (Ne.symm hn)] at sj
        rw [List.getElem?_set_ne (Ne.symm hn')] at sk
        exact r.sep j k l l' w q q' o o' sj sk
/-- slot i comes to own -/
theorem Rep.setOw {i : Nat} (r : Rep K cl G H σ env) {p : Addr} {l : L} (h : LIs K cl G H (.ref p) l) (hn : ∀ (j : Nat) (l' : L), env[j]? = some (some l') → l'.own = true → j ≠ i → σ[j]? ≠ some (some (.ref p))) : Rep K cl G H (σ.set i (some (.ref p))) (env.set i (some l)) := by
  refine ⟨r.same, by simp [r.len], fun j l hj => ?_, fun j k l l' w hj hk o o' sj sk => ?_⟩
  · rcases getElem?_set_some hj with ⟨rfl, e⟩ | ⟨hn, q⟩
    · cases e
      have hl : j < env.length := by
        by_cases hl : j < env.length
        · exact hl
        · rw [List.getElem?_eq_none (by simpa using hl)] at hj; cases hj
      exact ⟨_, List.getElem?_set_self (by rw [← r.len]; exact hl), h⟩
    · obtain ⟨w, a, b⟩ := r.at j _ q
      exact ⟨w, by rw [List.getElem?_set_ne (Ne.symm hn)]; exact a, b⟩
  · rcases getElem?_set_some hj with ⟨rfl, e⟩ | ⟨hjn, q⟩
    · rcases getElem?_set_some hk with ⟨rfl, _⟩ | ⟨hkn, q'⟩
      · rfl
      · rw [List.getElem?_set_ne (Ne.symm hkn)] at sk
        rcases getElem?_set_some sj with ⟨_, ew⟩ | ⟨z, _⟩
        · cases ew; exact absurd sk (hn k l' q' o' hkn)
        · exact absurd rfl z
    · rcases getElem?_set_some hk with ⟨rfl, e'⟩ | ⟨hkn, q'⟩
      · rw [List.getElem?_set_ne (Ne.symm hjn)] at sj
        rcases getElem?_set_some sk with ⟨_, ew⟩ | ⟨z, _⟩
        · cases ew; exact absurd sj (hn j l q o hjn)
        · exact absurd rfl z
      · rw [List.getElem?_set_ne (Ne.symm hjn)] at sj
        rw [List.getElem?_set_ne (Ne.symm hkn)] at sk
        exact r.sep j k l l' w q q' o o' sj sk
/-- slot i is wiped -/
theorem Rep.setNone (r : Rep K cl G H σ env) (i : Nat) (y : Option V) : Rep K cl G H (σ.set i y) (env.set i none) := by
  refine ⟨r.same, by simp [r.len], fun j l hj => ?_, fun j k l l' w hj hk o o' sj sk => ?_⟩
  · rcases getElem?_set_some hj with ⟨rfl, e⟩ | ⟨hn, q⟩
    · cases e
    · obtain ⟨w, a, b⟩ := r.at j l q
      exact ⟨w, by rw [List.getElem?_set_ne (Ne.symm hn)]; exact a, b⟩
  · rcases getElem?_set_some hj with ⟨rfl, e⟩ | ⟨hn, q⟩
    · cases e
    · rcases getElem?_set_some hk with ⟨rfl, e⟩ | ⟨hn', q'⟩
      · cases e
      · rw [List.getElem?_set_ne (Ne.symm hn)] at sj
        rw [List.getElem?_set_ne (Ne.symm hn')] at sk
        exact r.sep j k l l' w q q' o o' sj sk
end
def wipeE (env : Ev) : List Nat → Ev
  | [] => env
  | v :: vs => (wipeE env vs).set v none
theorem Rep.wipe {K : PySem.W.Frag} {cl : Nat → Addr} {G H : Hp} {σ : St} {env : Ev} (r : Rep K cl G H σ env) : ∀ vs : List Nat, Rep K cl G H (L2.wipe σ vs) (wipeE env vs)
  | [] => r
  | v :: vs => (Rep.wipe r vs).setNone v none

/-! ### judgements -/
section
variable (cl : Nat → Addr) (X : Cx) (W : WX)
def EPo (G H : Hp) (σ : L2.St) (Q : VK) : O R → Prop
  | .ok r => ∀ v G' H', Ext G H G' H' → RIs X.K cl H G' H' v r → Q v H'
  | .ex x => ∀ c d G' H', Ext G H G' H' → XIs X.K cl G' H' x c d → W c d σ H'
  | .no => False
/-- an expression, as a function of the slots' data -/
def DE (e : Expr) (f : Ev → O R) : Prop :=
  ∃ t : TE, PE X e t ∧ ∀ (G H : Hp) (σ : L2.St) (env : Ev) (Q : VK), Rep X.K cl G H σ env → EPo cl X W G H σ Q (f env) → t σ H Q
def TPo (G H : Hp) (σ : L2.St) (Q : Bool → Hp → Prop) : O Bool → Prop
  | .ok b => ∀ G' H', Ext G H G' H' → Q b H'
  | .ex x => ∀ c d G' H', Ext G H G' H' → XIs X.K cl G' H' x c d → W c d σ H'
  | .no => False
/-- a test -/
def DT (e : Expr) (f : Ev → O Bool) : Prop :=
  ∃ t : TT, PT X e t ∧ ∀ (G H : Hp) (σ : L2.St) (env : Ev) (Q : Bool → Hp → Prop), Rep X.K cl G H σ env → TPo cl X W G H σ Q (f env) → t σ H Q
/-- a test whatever its whole is -/
def DW (e : Expr) (f : Ev → O Bool) : Prop :=
  ∃ t : TT, PW X e t ∧ ∀ (G H : Hp) (σ : L2.St) (env : Ev) (Q : Bool → Hp → Prop), Rep X.K cl G H σ env → TPo cl X W G H σ Q (f env) → t σ H Q
def APo (G H : Hp) (σ : L2.St) (Q : List V → Hp → Prop) : O (List D) → Prop
  | .ok ds => ∀ vs G' H', Ext G H G' H' → IsL X.K cl G' vs ds → Q vs H'
  | .ex x => ∀ c d G' H', Ext G H G' H' → XIs X.K cl G' H' x c d → W c d σ H'
  | .no => False
/-- arguments -/
def DA (es : List Expr) (f : Ev → O (List D)) : Prop :=
  ∃ t : TA, PA X es t ∧ ∀ (G H : Hp) (σ : L2.St) (env : Ev) (Q : List V → Hp → Prop), Rep X.K cl G H σ env → APo cl X W G H σ Q (f env) → t σ H Q
end
/-- a statement's outcome -/
inductive SO where
  | nx (env : Ev) | bk (env : Ev) | ct (env : Ev) | rt (r : R) | ex (x : Ex) (env : Ev) | no
section
variable (cl : Nat → Addr) (X : Cx) (W : WX)
def SPo (G0 H0 : Hp) (D : Ends) : SO → Prop
  | .nx env => ∀ G H σ, RepE X.K cl G0 H0 G H σ env → D.nx σ H
  | .bk env => ∀ G H σ, RepE X.K cl G0 H0 G H σ env → D.bk σ H
  | .ct env => ∀ G H σ, RepE X.K cl G0 H0 G H σ env → D.ct σ H
  | .rt r => ∀ v G H, Ext G0 H0 G H → RIs X.K cl H0 G H v r → D.rt v H
  | .ex x env => ∀ c d G H σ, RepE X.K cl G0 H0 G H σ env → XIs X.K cl G H x c d → W c d σ H
  | .no => False
def DS (st : Stmt) (f : Ev → SO) : Prop :=
  ∃ t : TS, PS X st t ∧ ∀ (G0 H0 G H : Hp) (σ : L2.St) (env : Ev) (D : Ends), RepE X.K cl G0 H0 G H σ env → SPo cl X W G0 H0 D (f env) → t D σ H
def DSs (st : List Stmt) (f : Ev → SO) : Prop :=
  ∃ t : TS, PSs X st t ∧ ∀ (G0 H0 G H : Hp) (σ : L2.St) (env : Ev) (D : Ends), RepE X.K cl G0 H0 G H σ env → SPo cl X W G0 H0 D (f env) → t D σ H
end
/-- what a context must have -/
structure Ctx (X : Cx) (W : WX) : Prop where
  calm : X.calm = true
  nd : X.N.Nodup
  hp : PassesOwn (model X.prog X.w) X.A X.env X.xe
  tk : Takes X W
end DL

/-! DLb: expressions. -/
namespace DL
open PySem PySem.Spec L2

def lim : Nat := 16777216
theorem lim_eq : (sizeLine : Nat) = lim := sizeLine_eq
def O.of {α : Type} : Option α → O α
  | some a => .ok a
  | none => .no

/-! ### data as the model's own plain data -/
mutual
def D.py : D → Option PyData
  | .non => some .none
  | .bl b => some (.bool b)
  | .int i => some (.int i)
  | .str x => some (.str x)
  | .lst xs => (D.pyL xs).map .list
  | .tup xs => (D.pyL xs).map .tuple
  | .lkd xs => (D.pyL xs).map .list
  | .lkt xs => (D.pyL xs).map .tuple
  | _ => none
def D.pyL : List D → Option (List PyData)
  | [] => some []
  | x :: xs => match D.py x, D.pyL xs with
    | some p, some ps => some (p :: ps)
    | _, _ => none
end
section
variable {K : PySem.W.Frag} {cl : Nat → Addr} {G H : Hp}
mutual
theorem Is.dp (s : Same G H) : ∀ {v : V} {d : D} {p : PyData}, Is K cl G v d → d.py = some p → Dp K H v p
  | _, _, _, .non, e => by simp only [D.py] at e; cases e; exact .non
  | _, _, _, .bl b, e => by simp only [D.py] at e; cases e; exact .bl b
  | _, _, _, .int i, e => by simp only [D.py] at e; cases e; exact .int i
  | _, _, _, .str x, e => by simp only [D.py] at e; cases e; exact .str x
  | _, _, _, .lst h t, e => by
    simp only [D.py] at e
    obtain ⟨ps, a, rfl⟩ := Option.map_eq_some_iff.mp e
    exact .lst (.of (s _ _ h)) (IsL.dp s t a)
  | _, _, _, .lkd h t, e => by
    simp only [D.py] at e
    obtain ⟨ps, a, rfl⟩ := Option.map_eq_some_iff.mp e
    exact .lst (s.seq h) (IsL.dp s t a)
  | _, _, _, .tup h t, e => by
    simp only [D.py] at e
    obtain ⟨ps, a, rfl⟩ := Option.map_eq_some_iff.mp e
    exact .tup (.of (s _ _ h)) (IsL.dp s t a)
  | _, _, _, .lkt h t, e => by
    simp only [D.py] at e
    obtain ⟨ps, a, rfl⟩ := Option.map_eq_some_iff.mp e
    exact .tup (same_sqt s h) (IsL.dp s t a)
  | _, _, _, .ins _ _ _, e => by simp only [D.py] at e; cases e
  | _, _, _, .dK _ _ _, e => by simp only [D.py] at e; cases e
  | _, _, _, .dT _ _ _, e => by simp only [D.py] at e; cases e
  | _, _, _, .at _, e => by simp only [D.py] at e; cases e
  | _, _, _, .exn0 _, e => by simp only [D.py] at e; cases e
  | _, _, _, .exn1 _ _ _ _, e => by simp only [D.py] at e; cases e
theorem IsL.dp (s : Same G H) : ∀ {vs : List V} {ds : List D} {ps : List PyData}, IsL K cl G vs ds → D.pyL ds = some ps → DpAll K H vs ps
  | _, _, _, .nil, e => by simp only [D.pyL] at e; cases e; exact .nil
  | _, _, _, .cons h t, e => by
    simp only [D.pyL] at e
    split at e
    · rename_i p ps h1 h2
      cases e
      exact .cons (Is.dp s h h1) (IsL.dp s t h2)
    · cases e
end
theorem Vw.dp {v : V} {d : D} {p : PyData} (s : Same G H) (h : Vw K cl G H v d) (e : d.py = some p) : Dp K H v p := by
  cases h with
  | of h => exact h.dp s e
  | lst h t =>
    simp only [D.py] at e
    obtain ⟨ps, a, rfl⟩ := Option.map_eq_some_iff.mp e
    exact .lst (.of h) (t.dp s a)
  | dK => simp only [D.py] at e; cases e
  | dT => simp only [D.py] at e; cases e
  | ins => simp only [D.py] at e; cases e
end

section
variable {cl : Nat → Addr} {X : Cx} {W : WX} {e a b c : Expr} {fe fa fb fc : Ev → O R} {pos p p2 : Pos}

/-! ### the forms in which results are taken -/
def VPo (cl : Nat → Addr) (X : Cx) (W : WX) (G H : Hp) (σ : L2.St) (Q : VK) : O D → Prop
  | .ok d => ∀ v G' H', Ext G H G' H' → Vw X.K cl G' H' v d → Q v H'
  | .ex x => ∀ c d G' H', Ext G H G' H' → XIs X.K cl G' H' x c d → W c d σ H'
  | .no => False
def FPo (cl : Nat → Addr) (X : Cx) (W : WX) (G H : Hp) (σ : L2.St) (Q : VK) : O D → Prop
  | .ok d => ∀ v G' H', Ext G H G' H' → Is X.K cl G' v d → Q v H'
  | .ex x => ∀ c d G' H', Ext G H G' H' → XIs X.K cl G' H' x c d → W c d σ H'
  | .no => False
theorem DE.vw (h : DE cl X W e fe) : ∃ t : TE, PE X e t ∧ ∀ (G H : Hp) (σ : L2.St) (env : Ev) (Q : VK), Rep X.K cl G H σ env → VPo cl X W G H σ Q ((fe env).map R.d) → t σ H Q := by
  obtain ⟨t, q, h⟩ := h
  refine ⟨t, q, fun G H σ env Q r z => h G H σ env Q r ?_⟩
  cases he : fe env with
  | ok r => rw [he] at z; exact fun v G' H' e i => z v G' H' e i.vw
  | ex x => rw [he] at z; exact z
  | no => rw [he] at z; exact z
theorem DE.fz (h : DE cl X W e fe) : ∃ t : TE, PE X e t ∧ ∀ (G H : Hp) (σ : L2.St) (env : Ev) (Q : VK), Rep X.K cl G H σ env → FPo cl X W G H σ Q ((fe env).bind R.fz) → t σ H Q := by
  obtain ⟨t, q, h⟩ := h
  refine ⟨t, q, fun G H σ env Q r z => h G H σ env Q r ?_⟩
  cases he : fe env with
  | ok r =>
    rw [he] at z
    intro v G' H' e i
    cases hr : r.fz with
    | ok d =>
      have z' : FPo cl X W G H σ Q (.ok d) := by rw [← hr]; exact z
      obtain ⟨G2, e2, _, i2⟩ := i.fix e hr
      exact z' v G2 H' e2 i2
    | ex x =>
      exfalso
      cases r <;> simp [R.fz] at hr
    | no =>
      have z' : FPo cl X W G H σ Q .no := by rw [← hr]; exact z
      exact z'.elim
  | ex x => rw [he] at z; exact z
  | no => rw [he] at z; exact z
/-- the exception's way, for a later state -/
theorem ex_ext {G H G1 H1 : Hp} {σ : L2.St} {x : Ex} (e : Ext G H G1 H1) (h : ∀ c d G' H', Ext G H G' H' → XIs X.K cl G' H' x c d → W c d σ H') :
    ∀ c d G' H', Ext G1 H1 G' H' → XIs X.K cl G' H' x c d → W c d σ H' := fun c d G' H' e' i => h c d G' H' (e.trans e') i
theorem EPo.ext {G H G1 H1 : Hp} {σ : L2.St} {Q : VK} {o : O R} (e : Ext G H G1 H1) (h : EPo cl X W G H σ Q o) : EPo cl X W G1 H1 σ Q o := by
  cases o with
  | ok r => exact fun v G' H' e' i => h v G' H' (e.trans e') (i.start e.h)
  | ex x => exact ex_ext e h
  | no => exact h

/-! ### names, constants -/
def eVar (i : Nat) : Ev → O R := fun env => match env[i]? with
  | some (some (.sh d)) => .ok (.sh d)
  | some (some l) => .ok (.bo l)
  | _ => .no
theorem dvar {i : Nat} {x : Str} (hN : X.N[i]? = some x) (hv : Vis X.env.scope x) (hd : (x == ("__debug__" : Str)) = false) (hcd : (x == ("__classdict__" : Str)) = false) : DE cl X W (.Name x pos) (eVar i) := by
  refine ⟨_, pe_var hN hv hd hcd, fun G H σ env Q r z => ?_⟩
  unfold eVar at z
  cases he : env[i]? with
  | none => rw [he] at z; exact z.elim
  | some o =>
    cases o with
    | none => rw [he] at z; exact z.elim
    | some l =>
      obtain ⟨v, hv, hl⟩ := r.at i l he
      refine ⟨v, hv, ?_⟩
      cases l with
      | sh d =>
        rw [he] at z
        cases hl with | sh hl => exact z v G H (.refl r.same) (.sh hl)
      | ow ds => rw [he] at z; exact z v G H (.refl r.same) (.bo hl)
      | oK ks ds => rw [he] at z; exact z v G H (.refl r.same) (.bo hl)
      | oT ks ds => rw [he] at z; exact z v G H (.refl r.same) (.bo hl)
      | oI c ns ds => rw [he] at z; exact z v G H (.refl r.same) (.bo hl)
      | oP a ks ds => rw [he] at z; exact z v G H (.refl r.same) (.bo hl)
theorem dv (i : Nat) {x : Str} (hN : X.N[i]? = some x := by rfl) (hv : Vis X.env.scope x := by first | exact Or.inl rfl | exact Or.inr (Or.inl rfl) | exact Or.inr (Or.inr rfl)) (hd : (x == ("__debug__" : Str)) = false := by decide)
    (hcd : (x == ("__classdict__" : Str)) = false := by decide) : DE cl X W (.Name x pos) (eVar i) := dvar hN hv hd hcd
def eC (d : D) : Ev → O R := fun _ => .ok (.sh d)
theorem de_c {v : V} {d : D} (h : PE X e (tC v)) (i : ∀ G, Is X.K cl G v d) : DE cl X W e (eC d) := ⟨_, h, fun G H σ env Q r z => z v G H (.refl r.same) (.sh (i G))⟩
theorem de_int {i : Int} {j : Nat} : DE cl X W (.Constant (.int i) j pos) (eC (.int i)) := de_c pe_int fun _ => .int i
theorem de_bl {b : Bool} {j : Nat} : DE cl X W (.Constant (.bool b) j pos) (eC (.bl b)) := de_c pe_bl fun _ => .bl b
theorem de_non {j : Nat} : DE cl X W (.Constant .none j pos) (eC .non) := de_c pe_non fun _ => .non
theorem de_str {x : Str} {j : Nat} : DE cl X W (.Constant (.str x) j pos) (eC (.str x)) := de_c pe_str fun _ => .str x
theorem de_glob {x : Str} {d : D} {v : V} {u : Value} (hg : Gl X x) (hm : X.mg x = some u) (r : RelV v u) (i : ∀ G, Is X.K cl G v d) (hd : (x == ("__debug__" : Str)) = false := by decide) : DE cl X W (.Name x pos) (eC d) := de_c (pe_glob hg hm r hd) i

/-! ### operations on values -/
def GPo (cl : Nat → Addr) (X : Cx) (G H : Hp) (Q : VK) : Option R → Prop
  | some r => ∀ v G' H', Ext G H G' H' → RIs X.K cl H G' H' v r → Q v H'
  | none => False
theorem GPo.same {G H : Hp} {Q : VK} {v : V} {d : D} (s : Same G H) (h : GPo cl X G H Q (some (.sh d))) (i : Is X.K cl G v d) : Q v H := h v G H (.refl s) (.sh i)
theorem GPo.newL {G H : Hp} {Q : VK} {xs : List V} {ds : List D} (s : Same G H) (h : GPo cl X G H Q (some (.fr (.ow ds)))) (i : IsL X.K cl G xs ds) : ∀ p, H p = none → Q (.ref p) (upd H p (.lst xs)) :=
  fun p hp => h (.ref p) G _ (.new s hp) (.fr rfl (.ow (s.free hp) upd_same i) hp)
theorem GPo.newT {G H : Hp} {Q : VK} {xs : List V} {ds : List D} (s : Same G H) (h : GPo cl X G H Q (some (.sh (.tup ds)))) (i : IsL X.K cl G xs ds) : ∀ p, H p = none → Q (.ref p) (upd H p (.tup xs)) :=
  fun p hp => h (.ref p) _ _ (.newG s hp) (.sh (.tup upd_same (i.mono (same_upd (s.free hp)))))

def OpD (cl : Nat → Addr) (X : Cx) (f : Value → Value → Sem Value) (g : D → D → Option R) : Prop :=
  ∃ r : R2, OpR X f r ∧ ∀ (G H : Hp) (x y : V) (a b : D) (Q : VK), Same G H → Vw X.K cl G H x a → Vw X.K cl G H y b → GPo cl X G H Q (g a b) → r x y H Q
theorem OpD.orE {f : Value → Value → Sem Value} {g g1 g2 : D → D → Option R} (h1 : OpD cl X f g1) (h2 : OpD cl X f g2) (hg : ∀ a b, g a b = g1 a b ∨ g a b = g2 a b) : OpD cl X f g := by
  obtain ⟨r1, o1, q1⟩ := h1
  obtain ⟨r2, o2, q2⟩ := h2
  refine ⟨_, o1.or o2, fun G H x y a b Q s ha hb z => ?_⟩
  rcases hg a b with e | e
  · rw [e] at z; exact .inl (q1 G H x y a b Q s ha hb z)
  · rw [e] at z; exact .inr (q2 G H x y a b Q s ha hb z)
def fBin (g : D → D → Option R) (fa fb : Ev → O R) : Ev → O R := fun env => (fa env).bind fun a => (fb env).bind fun b => O.of (g a.d b.d)
theorem of_bin {ta tb : TE} {r : R2} {g : D → D → Option R}
    (ha : ∀ (G H : Hp) (σ : L2.St) (env : Ev) (Q : VK), Rep X.K cl G H σ env → VPo cl X W G H σ Q ((fa env).map R.d) → ta σ H Q)
    (hb : ∀ (G H : Hp) (σ : L2.St) (env : Ev) (Q : VK), Rep X.K cl G H σ env → VPo cl X W G H σ Q ((fb env).map R.d) → tb σ H Q)
    (hr : ∀ (G H : Hp) (x y : V) (a b : D) (Q : VK), Same G H → Vw X.K cl G H x a → Vw X.K cl G H y b → GPo cl X G H Q (g a b) → r x y H Q)
    (G H : Hp) (σ : L2.St) (env : Ev) (Q : VK) (rep : Rep X.K cl G H σ env) (z : EPo cl X W G H σ Q (fBin g fa fb env)) : tOp r ta tb σ H Q := by
  refine ha G H σ env _ rep ?_
  unfold fBin at z
  cases h1 : fa env with
  | no => rw [h1] at z; exact z.elim
  | ex x => rw [h1] at z; exact z
  | ok r1 =>
    rw [h1] at z
    intro v1 G1 H1 e1 i1
    refine hb G1 H1 σ env _ (rep.ext e1) ?_
    have z : EPo cl X W G H σ Q ((fb env).bind fun b => O.of (g r1.d b.d)) := z
    cases h2 : fb env with
    | no => rw [h2] at z; exact z.elim
    | ex x => rw [h2] at z; exact ex_ext e1 z
    | ok r2 =>
      rw [h2] at z
      intro v2 G2 H2 e2 i2
      refine hr G2 H2 v1 v2 r1.d r2.d Q e2.i (i1.ext e2) i2 ?_
      have z : EPo cl X W G H σ Q (O.of (g r1.d r2.d)) := z
      cases hg : g r1.d r2.d with
      | none => rw [hg] at z; exact z.elim
      | some r => rw [hg] at z; exact fun v G' H' e i => z v G' H' ((e1.trans e2).trans e) (i.start (e1.trans e2).h)
theorem de_bin {op : Operator} {g : D → D → Option R} (ho : OpD cl X (binaryOp op) g) (ha : DE cl X W a fa) (hb : DE cl X W b fb) : DE cl X W (.BinOp a op b pos) (fBin g fa fb) := by
  obtain ⟨r, o, q⟩ := ho
  obtain ⟨ta, pa, qa⟩ := ha.vw
  obtain ⟨tb, pb, qb⟩ := hb.vw
  exact ⟨_, pe_op o pa pb, of_bin qa qb q⟩
theorem de_cmp {op : CmpOp} {g : D → D → Option R} (ho : OpD cl X (compareOp op) g) (ha : DE cl X W a fa) (hb : DE cl X W b fb) (hm : behindInMarks op b = false) : DE cl X W (.Compare a [op] [b] pos) (fBin g fa fb) := by
  obtain ⟨r, o, q⟩ := ho
  obtain ⟨ta, pa, qa⟩ := ha.vw
  obtain ⟨tb, pb, qb⟩ := hb.vw
  exact ⟨_, pe_cmpR o pa pb hm, of_bin qa qb q⟩
def O.bool : O R → O Bool
  | .ok (.sh (.bl b)) => .ok b
  | .ok _ => .no
  | .ex x => .ex x
  | .no => .no
def fB (f : Ev → O R) : Ev → O Bool := fun env => (f env).bool
theorem tb_of {t : TE} (h : ∀ (G H : Hp) (σ : L2.St) (env : Ev) (Q : VK), Rep X.K cl G H σ env → EPo cl X W G H σ Q (fe env) → t σ H Q)
    (G H : Hp) (σ : L2.St) (env : Ev) (Q : Bool → Hp → Prop) (rep : Rep X.K cl G H σ env) (z : TPo cl X W G H σ Q (fB fe env)) : tB t σ H Q := by
  refine h G H σ env _ rep ?_
  unfold fB at z
  cases h1 : fe env with
  | no => rw [h1] at z; exact z.elim
  | ex x => rw [h1] at z; exact z
  | ok r =>
    rw [h1] at z
    intro v G' H' e i
    cases i with
    | fr => exact z.elim
    | bo => exact z.elim
    | sh i =>
      cases i with
      | bl b => exact ⟨b, rfl, z G' H' e⟩
      | _ => exact z.elim
theorem dt_cmp {op : CmpOp} {g : D → D → Option R} (ho : OpD cl X (compareOp op) g) (ha : DE cl X W a fa) (hb : DE cl X W b fb) (hm : behindInMarks op b = false) : DT cl X W (.Compare a [op] [b] pos) (fB (fBin g fa fb)) := by
  obtain ⟨r, o, q⟩ := ho
  obtain ⟨ta, pa, qa⟩ := ha.vw
  obtain ⟨tb, pb, qb⟩ := hb.vw
  exact ⟨_, pt_cmpR o pa pb hm, tb_of (of_bin qa qb q)⟩
theorem dt_val (h : DE cl X W e fe) (he : ∀ whole, isTrue e X.env whole = (do let v ← whole; standAt e.pos; holding [v] (truthy v)) := by intro _; rfl) : DT cl X W e (fB fe) := by
  obtain ⟨t, p, q⟩ := h
  exact ⟨_, pt_val p he, tb_of q⟩

/-! ### ints -/
def gI (C : Int → Int → Prop) [∀ i j, Decidable (C i j)] (h : Int → Int → D) : D → D → Option R
  | .int i, .int j => if C i j then some (.sh (h i j)) else none
  | _, _ => none
def gI0 (h : Int → Int → D) : D → D → Option R
  | .int i, .int j => some (.sh (h i j))
  | _, _ => none
theorem opd_i {f : Value → Value → Sem Value} {C : Int → Int → Prop} [∀ i j, Decidable (C i j)] {g : Int → Int → V} {h : Int → Int → D} (ho : OpR X f (rI C g)) (hh : ∀ G i j, Is X.K cl G (g i j) (h i j)) : OpD cl X f (gI C h) := by
  refine ⟨_, ho, fun G H x y a b Q s ha hb z => ?_⟩
  cases a with
  | int i =>
    cases b with
    | int j =>
      simp only [gI] at z
      split at z
      · rename_i c
        exact ⟨i, j, ha.int, hb.int, c, z.same s (hh G i j)⟩
      · exact z.elim
    | _ => exact z.elim
  | _ => exact z.elim
theorem opd_i0 {f : Value → Value → Sem Value} {g : Int → Int → V} {h : Int → Int → D} (ho : OpR X f (rI0 g)) (hh : ∀ G i j, Is X.K cl G (g i j) (h i j)) : OpD cl X f (gI0 h) := by
  refine ⟨_, ho, fun G H x y a b Q s ha hb z => ?_⟩
  cases a with
  | int i =>
    cases b with
    | int j => exact ⟨i, j, ha.int, hb.int, z.same s (hh G i j)⟩
    | _ => exact z.elim
  | _ => exact z.elim
instance (i j : Int) : Decidable (CDiv i j) := by unfold CDiv; infer_instance
instance (i j : Int) : Decidable (CMul i j) := by unfold CMul; infer_instance
instance (i j : Int) : Decidable (CPow i j) := by unfold CPow; infer_instance
def dSub := gI0 fun i j => .int (i - j)
def dFdiv := gI CDiv fun i j => .int (i / j)
def dMod := gI (fun _ j => 0 < j) fun i j => .int (i % j)
def dPow := gI CPow fun i j => .int (i ^ j.toNat)
def dShl := gI CPow fun i j => .int (i * 2 ^ j.toNat)
def dShr := gI (fun _ j => 0 ≤ j) fun i j => .int (i / 2 ^ j.toNat)
def dAnd := gI0 fun i j => .int (Builtin.bitAnd i j)
def dOr := gI0 fun i j => .int (Builtin.bitOr i j)
def dXor := gI0 fun i j => .int (Builtin.bitXor i j)
def dLt := gI0 fun i j => .bl (decide (i < j))
def dGt := gI0 fun i j => .bl (decide (j < i))
theorem od_sub : OpD cl X (binaryOp .Sub) dSub := opd_i0 op_sub fun _ _ _ => .int _
theorem od_fdiv : OpD cl X (binaryOp .FloorDiv) dFdiv := opd_i op_fdiv fun _ _ _ => .int _
theorem od_mod : OpD cl X (binaryOp .Mod) dMod := opd_i op_mod fun _ _ _ => .int _
theorem od_pow : OpD cl X (binaryOp .Pow) dPow := opd_i op_pow fun _ _ _ => .int _
theorem od_shl : OpD cl X (binaryOp .LShift) dShl := opd_i op_shl fun _ _ _ => .int _
theorem od_shr : OpD cl X (binaryOp .RShift) dShr := opd_i op_shr fun _ _ _ => .int _
theorem od_and : OpD cl X (binaryOp .BitAnd) dAnd := opd_i0 op_and fun _ _ _ => .int _
theorem od_or : OpD cl X (binaryOp .BitOr) dOr := opd_i0 op_or fun _ _ _ => .int _
theorem od_xor : OpD cl X (binaryOp .BitXor) dXor := opd_i0 op_xor fun _ _ _ => .int _
theorem od_lt : OpD cl X (compareOp .Lt) dLt := opd_i0 op_lt fun _ _ _ => .bl _
theorem od_gt : OpD cl X (compareOp .Gt) dGt := opd_i0 op_gt fun _ _ _ => .bl _
/-- <=, >= of ints and of texts -/
def dLe : D → D → Option R
  | .int i, .int j => some (.sh (.bl (decide (i ≤ j))))
  | .str i, .str j => some (.sh (.bl (!decide (j.cps.toList < i.cps.toList))))
  | _, _ => none
theorem od_le : OpD cl X (compareOp .LtE) dLe := by
  refine ⟨_, op_le.or op_le_str, fun G H x y a b Q s ha hb z => ?_⟩
  cases a with
  | int i =>
    cases b with
    | int j => exact .inl ⟨i, j, ha.int, hb.int, z.same s (.bl _)⟩
    | _ => exact z.elim
  | str i =>
    cases b with
    | str j => exact .inr ⟨i, j, ha.str, hb.str, z.same s (.bl _)⟩
    | _ => exact z.elim
  | _ => exact z.elim
def dGe := gI0 fun i j => .bl (decide (j ≤ i))
theorem od_ge : OpD cl X (compareOp .GtE) dGe := opd_i0 op_ge fun _ _ _ => .bl _
/-- + -/
def dAdd : D → D → Option R
  | .int i, .int j => some (.sh (.int (i + j)))
  | .str i, .str j => if i.length + j.length ≤ lim then some (.sh (.str (i ++ j))) else none
  | .lst xs, .lst ys => if xs.length + ys.length ≤ lim then some (.fr (.ow (xs ++ ys))) else none
  | .tup xs, .tup ys => if xs ≠ [] ∧ ys ≠ [] ∧ xs.length + ys.length ≤ lim then some (.sh (.tup (xs ++ ys))) else none
  | _, _ => none
theorem od_add : OpD cl X (binaryOp .Add) dAdd := by
  refine ⟨_, op_add.or (op_add_str.or (op_cat.or op_catT)), fun G H x y a b Q s ha hb z => ?_⟩
  cases a with
  | int i =>
    cases b with
    | int j => exact .inl ⟨i, j, ha.int, hb.int, z.same s (.int _)⟩
    | _ => exact z.elim
  | str i =>
    cases b with
    | str j =>
      simp only [dAdd] at z
      split at z
      · exact .inr (.inl ⟨i, j, ha.str, hb.str, by rw [lim_eq]; assumption, z.same s (.str _)⟩)
      · exact z.elim
    | _ => exact z.elim
  | lst xs =>
    cases b with
    | lst ys =>
      simp only [dAdd] at z
      split at z
      · rename_i hl
        obtain ⟨pa, va, rfl, h1, i1⟩ := ha.list s
        obtain ⟨pb, vb, rfl, h2, i2⟩ := hb.list s
        exact .inr (.inr (.inl ⟨pa, pb, va, vb, rfl, rfl, h1, h2, by rw [lim_eq, i1.length, i2.length]; exact hl, z.newL s (i1.append i2)⟩))
      · exact z.elim
    | _ => exact z.elim
  | tup xs =>
    cases b with
    | tup ys =>
      simp only [dAdd] at z
      split at z
      · rename_i hl
        obtain ⟨pa, va, rfl, h1, i1⟩ := ha.tuple s
        obtain ⟨pb, vb, rfl, h2, i2⟩ := hb.tuple s
        refine .inr (.inr (.inr ⟨pa, pb, va, vb, rfl, rfl, .of h1, .of h2, ?_, by rw [lim_eq, i1.length, i2.length]; exact hl.2.2, ?_, fun _ => z.newT s (i1.append i2)⟩))
        · rintro rfl
          cases i1
          exact hl.1 rfl
        · rintro rfl
          cases i2
          exact absurd rfl hl.2.1
      · exact z.elim
    | _ => exact z.elim
  | _ => exact z.elim
/-- * -/
def dMul : D → D → Option R
  | .int i, .int j => if CMul i j then some (.sh (.int (i * j))) else none
  | .lst xs, .int k => if -(2 ^ 63) ≤ k ∧ k < 2 ^ 63 ∧ xs.length * k.toNat ≤ lim then some (.fr (.ow (List.replicate k.toNat xs).flatten)) else none
  | _, _ => none
theorem od_mul : OpD cl X (binaryOp .Mult) dMul := by
  refine ⟨_, op_mul.or op_rep, fun G H x y a b Q s ha hb z => ?_⟩
  cases a with
  | int i =>
    cases b with
    | int j =>
      simp only [dMul] at z
      split at z
      · exact .inl ⟨i, j, ha.int, hb.int, by assumption, z.same s (.int _)⟩
      · exact z.elim
    | _ => exact z.elim
  | lst xs =>
    cases b with
    | int k =>
      simp only [dMul] at z
      split at z
      · rename_i hl
        obtain ⟨pa, va, rfl, h1, i1⟩ := ha.list s
        exact .inr ⟨pa, k, va, rfl, hb.int, h1, hl.1, hl.2.1, by rw [lim_eq, i1.length]; exact hl.2.2, z.newL s (i1.rep _)⟩
      · exact z.elim
    | _ => exact z.elim
  | _ => exact z.elim

/-! ### == != in -/
def D.eqv (a b : D) : Option Bool := match a.py, b.py with
  | some p, some q => if SeqAt.shaped p = true ∧ SeqAt.shaped q = true then some (PyData.eqv p q) else none
  | _, _ => none
def dEq (a b : D) : Option R := (a.eqv b).map fun k => .sh (.bl k)
def dNe (a b : D) : Option R := (a.eqv b).map fun k => .sh (.bl (!k))
theorem D.eqv_some {a b : D} {k : Bool} (h : a.eqv b = some k) : ∃ p q, a.py = some p ∧ b.py = some q ∧ SeqAt.shaped p = true ∧ SeqAt.shaped q = true ∧ k = PyData.eqv p q := by
  unfold D.eqv at h
  split at h
  · rename_i p q h1 h2
    split at h
    · rename_i hs
      cases h
      exact ⟨p, q, h1, h2, hs.1, hs.2, rfl⟩
    · cases h
  · cases h
theorem od_eq (hu : X.A.units + 64 < cLine) : OpD cl X (compareOp .Eq) dEq := by
  refine ⟨_, op_eqD hu, fun G H x y a b Q s ha hb z => ?_⟩
  cases h : a.eqv b with
  | none => unfold dEq at z; rw [h] at z; exact z.elim
  | some k =>
    unfold dEq at z; rw [h] at z
    obtain ⟨p, q, h1, h2, s1, s2, rfl⟩ := D.eqv_some h
    exact ⟨p, q, ha.dp s h1, hb.dp s h2, s1, s2, GPo.same (d := .bl _) s z (.bl _)⟩
theorem od_ne (hu : X.A.units + 64 < cLine) : OpD cl X (compareOp .NotEq) dNe := by
  refine ⟨_, op_neD hu, fun G H x y a b Q s ha hb z => ?_⟩
  cases h : a.eqv b with
  | none => unfold dNe at z; rw [h] at z; exact z.elim
  | some k =>
    unfold dNe at z; rw [h] at z
    obtain ⟨p, q, h1, h2, s1, s2, rfl⟩ := D.eqv_some h
    exact ⟨p, q, ha.dp s h1, hb.dp s h2, s1, s2, GPo.same (d := .bl _) s z (.bl _)⟩
def dIs : D → D → Option R
  | a, .non => some (.sh (.bl (match a with | .non => true | _ => false)))
  | _, _ => none
def dIsn : D → D → Option R
  | a, .non => some (.sh (.bl (match a with | .non => false | _ => true)))
  | _, _ => none
theorem vw_non {G H : Hp} {v : V} {d : D} (h : Vw X.K cl G H v d) : decide (v = .non) = (match d with | .non => true | _ => false) := by
  cases h with
  | of h => cases h <;> rfl
  | _ => rfl
theorem od_is : OpD cl X (compareOp .Is) dIs := by
  refine ⟨_, op_isN, fun G H x y a b Q s ha hb z => ?_⟩
  cases b with
  | non =>
    refine ⟨hb.non, ?_⟩
    rw [vw_non ha]
    refine GPo.same (d := .bl _) s z ?_
    cases a <;> exact .bl _
  | _ => cases a <;> exact z.elim
theorem od_isn : OpD cl X (compareOp .IsNot) dIsn := by
  refine ⟨_, op_notN, fun G H x y a b Q s ha hb z => ?_⟩
  cases b with
  | non =>
    refine ⟨hb.non, ?_⟩
    rw [vw_non ha]
    refine GPo.same (d := .bl _) s z ?_
    cases a <;> exact .bl _
  | _ => cases a <;> exact z.elim

/-! ### a[b] -/
def atD (ds : List D) (i : Int) : Option R := (atI ds i).map .sh
theorem IsL.at {G : Hp} {K : PySem.W.Frag} {xs : List V} {ds : List D} {i : Int} {d : D} (h : IsL K cl G xs ds) (e : atI ds i = some d) : ∃ v, atI xs i = some v ∧ Is K cl G v d := by
  unfold atI at e ⊢
  rw [h.length]
  cases q : ixN ds.length i with
  | none => rw [q] at e; cases e
  | some j =>
    rw [q] at e
    exact h.get (i := j) e
def D.key : D → Option Key
  | .int i => some (.inl i)
  | .str x => some (.inr x)
  | _ => none
def D.keys : List D → Option (List Key)
  | [] => some []
  | d :: ds => match d.key, D.keys ds with
    | some k, some ks => some (k :: ks)
    | _, _ => none
def D.tkey : D → Option (List Key)
  | .tup ds => D.keys ds
  | _ => none
def lookD {κ : Type} [DecidableEq κ] (ks : List κ) (vs : List D) (k : κ) : Option D := (ks.zip vs).lookup k
theorem Vw.key {G H : Hp} {v : V} {d : D} {k : Key} (h : Vw X.K cl G H v d) (e : d.key = some k) : v = kV k := by
  cases d with
  | int i => cases e; exact h.int
  | str i => cases e; exact h.str
  | _ => cases e
theorem IsL.keysV {G : Hp} {K : PySem.W.Frag} : ∀ {xs : List V} {ds : List D} {ks : List Key}, IsL K cl G xs ds → D.keys ds = some ks → xs = ks.map kV
  | _, _, _, .nil, e => by cases e; rfl
  | _, _, _, .cons (d := d) h t, e => by
    simp only [D.keys] at e
    split at e
    · rename_i k ks h1 h2
      cases e
      rw [List.map_cons, IsL.keysV t h2]
      congr 1
      cases d with
      | int i => cases h1; cases h; rfl
      | str i => cases h1; cases h; rfl
      | _ => cases h1
    · cases e
theorem Vw.tkey {G H : Hp} {v : V} {d : D} {k : List Key} (s : Same G H) (h : Vw X.K cl G H v d) (e : d.tkey = some k) : ∃ b, v = .ref b ∧ H b = some (.tup (k.map kV)) := by
  cases d with
  | tup ds =>
    obtain ⟨b, xs, rfl, hb, i⟩ := h.tuple s
    exact ⟨b, rfl, by rw [hb, i.keysV e]⟩
  | _ => cases e
end
end DL

/-! DLc: subscripts, slices, in, displays, arguments, calls, and, or, not, chains, fields. -/
namespace DL
open PySem PySem.Spec L2
section
variable {cl : Nat → Addr} {X : Cx} {W : WX} {e a b c : Expr} {fe fa fb fc : Ev → O R} {pos p p2 : Pos}

/-! ### dicts -/
def lk {κ : Type} [DecidableEq κ] : List κ → List D → κ → Option D
  | k :: ks, d :: ds, q => if k = q then some d else lk ks ds q
  | _, _, _ => none
theorem lk_val {κ : Type} [DecidableEq κ] {K : PySem.W.Frag} {G : Hp} : ∀ {kvs : List (κ × V)} {ks : List κ} {ds : List D} (q : κ), kvs.map (·.1) = ks → IsL K cl G (kvs.map (·.2)) ds →
    (match lk ks ds q with | some d => ∃ v, valV kvs q = some v ∧ Is K cl G v d | none => valV kvs q = none)
  | [], _, _, q, rfl, i => by cases i; exact rfl
  | (k, v) :: kvs, _, _, q, rfl, i => by
    rw [List.map_cons] at i
    cases i with
    | cons h t =>
      rw [List.map_cons]
      unfold lk
      by_cases e : k = q
      · rw [if_pos e]; exact ⟨v, valV_pos e, h⟩
      · rw [if_neg e, valV_neg e]; exact lk_val q rfl t
theorem Vw.dkG {G H : Hp} {v : V} {ks : List Key} {ds : List D} {q : Key} (s : Same G H) (h : Vw X.K cl G H v (.dK ks ds)) :
    ∃ a, v = .ref a ∧ (match lk ks ds q with | some d => ∃ z, DGet H a (kV q) (some z) ∧ Is X.K cl G z d | none => DGet H a (kV q) none) := by
  have go : ∀ {a : Addr} {kvs : List (Key × V)}, H a = some (.dK kvs) → kvs.map (·.1) = ks → IsL X.K cl G (kvs.map (·.2)) ds → (match lk ks ds q with | some d => ∃ z, DGet H a (kV q) (some z) ∧ Is X.K cl G z d | none => DGet H a (kV q) none) := by
    intro a kvs ha hk hi
    have z := lk_val q hk hi
    have g := DGet.k (k := q) ha
    cases hl : lk ks ds q with
    | none => rw [hl] at z; simp only at z; rw [z] at g; exact g
    | some d =>
      rw [hl] at z
      obtain ⟨v, e, i⟩ := z
      rw [e] at g
      exact ⟨v, g, i⟩
  cases h with
  | of h => cases h with | dK h k i => exact ⟨_, rfl, go (s _ _ h) k i⟩
  | dK h k i => exact ⟨_, rfl, go h k i⟩
theorem Vw.dtG {G H : Hp} {v : V} {ks : List (List Key)} {ds : List D} {q : List Key} {b : Addr} (s : Same G H) (h : Vw X.K cl G H v (.dT ks ds)) (hb : H b = some (.tup (q.map kV))) :
    ∃ a, v = .ref a ∧ (match lk ks ds q with | some d => ∃ z, DGet H a (.ref b) (some z) ∧ Is X.K cl G z d | none => DGet H a (.ref b) none) := by
  have go : ∀ {a : Addr} {kvs : List (List Key × V)}, H a = some (.dT kvs) → kvs.map (·.1) = ks → IsL X.K cl G (kvs.map (·.2)) ds → (match lk ks ds q with | some d => ∃ z, DGet H a (.ref b) (some z) ∧ Is X.K cl G z d | none => DGet H a (.ref b) none) := by
    intro a kvs ha hk hi
    have z := lk_val q hk hi
    have g := DGet.t (k := q) ha hb
    cases hl : lk ks ds q with
    | none => rw [hl] at z; simp only at z; rw [z] at g; exact g
    | some d =>
      rw [hl] at z
      obtain ⟨v, e, i⟩ := z
      rw [e] at g
      exact ⟨v, g, i⟩
  cases h with
  | of h => cases h with | dT h k i => exact ⟨_, rfl, go (s _ _ h) k i⟩
  | dT h k i => exact ⟨_, rfl, go h k i⟩

/-! ### a[b] -/
def dIx : D → D → Option R
  | .lst ds, .int i => atD ds i
  | .lkd ds, .int i => atD ds i
  | .tup ds, .int i => atD ds i
  | .lkt ds, .int i => atD ds i
  | .str x, .int i => if x.length ≤ lim then (atI x.cps.toList i).map fun c => .sh (.str ⟨#[c]⟩) else none
  | .dK ks ds, k => k.key.bind fun q => (lk ks ds q).map .sh
  | .dT ks ds, k => k.tkey.bind fun q => (lk ks ds q).map .sh
  | _, _ => none
def rDictGet : R2 := fun x y H Q => ∃ a v, x = .ref a ∧ DGet H a y (some v) ∧ Q v H
theorem ix_dict (hu : X.A.units + 1 < cLine) : IxR X rDictGet := by
  intro value slice pins s σ H x y v u Q I rx ry h hs
  obtain ⟨a, z, rfl, g, q⟩ := h
  cases rx
  exact PyProof.Rows.tail_any (dict_typeIs I g) PySem.F.slot_dict_getitem.lookup (d_getItem hu I g ry fun w' s3 I3 rw' => ⟨z, H, I3, rw', q⟩) hs
theorem ixd (hu : X.A.units + 1 < cLine) : ∃ r : R2, IxR X r ∧ ∀ (G H : Hp) (x y : V) (a b : D) (Q : VK), Same G H → Vw X.K cl G H x a → Vw X.K cl G H y b → GPo cl X G H Q (dIx a b) → r x y H Q := by
  refine ⟨_, ix_list.or (ix_tup.or (ix_str.or (ix_dict hu))), fun G H x y a b Q s ha hb z => ?_⟩
  have sq : ∀ {ds : List D} {i : Int}, a.seq = some ds → b = .int i → GPo cl X G H Q (atD ds i) → rIxL X.K x y H Q := by
    intro ds i ea eb zz
    obtain ⟨p, xs, rfl, h1, i1⟩ := ha.seq s ea
    subst eb
    have z : GPo cl X G H Q ((atI ds i).map .sh) := zz
    cases h : atI ds i with
    | none => rw [h] at z; exact z.elim
    | some d =>
      rw [h] at z
      obtain ⟨v, ev, iv⟩ := i1.at h
      exact ⟨p, xs, i, v, rfl, hb.int, h1, ev, GPo.same (d := d) s z iv⟩
  have tq : ∀ {ds : List D} {i : Int}, a.tseq = some ds → b = .int i → GPo cl X G H Q (atD ds i) → rIxT X.K x y H Q := by
    intro ds i ea eb zz
    obtain ⟨p, xs, rfl, h1, i1⟩ := ha.tseq s ea
    subst eb
    have z : GPo cl X G H Q ((atI ds i).map .sh) := zz
    cases h : atI ds i with
    | none => rw [h] at z; exact z.elim
    | some d =>
      rw [h] at z
      obtain ⟨v, ev, iv⟩ := i1.at h
      exact ⟨p, xs, i, v, rfl, hb.int, h1, ev, GPo.same (d := d) s z iv⟩
  cases a with
  | lst ds => cases b with
    | int i => exact .inl (sq rfl rfl z)
    | _ => exact z.elim
  | lkd ds => cases b with
    | int i => exact .inl (sq rfl rfl z)
    | _ => exact z.elim
  | tup ds => cases b with
    | int i => exact .inr (.inl (tq rfl rfl z))
    | _ => exact z.elim
  | lkt ds => cases b with
    | int i => exact .inr (.inl (tq rfl rfl z))
    | _ => exact z.elim
  | str t => cases b with
    | int i =>
      simp only [dIx] at z
      split at z
      · rename_i hl
        cases h : atI t.cps.toList i with
        | none => rw [h] at z; exact z.elim
        | some c => rw [h] at z; exact .inr (.inr (.inl ⟨t, i, c, ha.str, hb.int, by rw [lim_eq]; exact hl, h, GPo.same (d := .str _) s z (.str _)⟩))
      · exact z.elim
    | _ => exact z.elim
  | dK ks ds =>
    have z : GPo cl X G H Q (b.key.bind fun q => (lk ks ds q).map .sh) := by cases b <;> exact z
    cases hk : b.key with
    | none => rw [hk] at z; exact z.elim
    | some q =>
      rw [hk] at z
      obtain ⟨p, rfl, g⟩ := ha.dkG (q := q) s
      cases hl : lk ks ds q with
      | none => rw [Option.bind_some, hl] at z; exact z.elim
      | some d =>
        rw [Option.bind_some, hl] at z
        rw [hl] at g
        obtain ⟨v, gv, iv⟩ := g
        exact .inr (.inr (.inr ⟨p, v, rfl, by rw [hb.key hk]; exact gv, GPo.same (d := d) s z iv⟩))
  | dT ks ds =>
    have z : GPo cl X G H Q (b.tkey.bind fun q => (lk ks ds q).map .sh) := by cases b <;> exact z
    cases hk : b.tkey with
    | none => rw [hk] at z; exact z.elim
    | some q =>
      rw [hk] at z
      obtain ⟨kb, rfl, hkb⟩ := hb.tkey s hk
      obtain ⟨p, rfl, g⟩ := ha.dtG s hkb
      cases hl : lk ks ds q with
      | none => rw [Option.bind_some, hl] at z; exact z.elim
      | some d =>
        rw [Option.bind_some, hl] at z
        rw [hl] at g
        obtain ⟨v, gv, iv⟩ := g
        exact .inr (.inr (.inr ⟨p, v, rfl, gv, GPo.same (d := d) s z iv⟩))
  | _ => cases b <;> exact z.elim
theorem de_ix (hu : X.A.units + 1 < cLine) (ha : DE cl X W a fa) (hb : DE cl X W b fb) (hs : PlainIx b := by exact fun _ _ => rfl) : DE cl X W (.Subscript a b pos) (fBin dIx fa fb) := by
  obtain ⟨r, o, q⟩ := ixd (cl := cl) hu
  obtain ⟨ta, pa, qa⟩ := ha.vw
  obtain ⟨tb, pb, qb⟩ := hb.vw
  exact ⟨_, pe_ix o pa pb hs, of_bin qa qb q⟩

/-! ### in -/
def anyEq (d : D) (ds : List D) : Option Bool := match d.py, D.pyL ds with
  | some p, some ps => if SeqAt.shaped p = true ∧ SeqAt.shaped (.list ps) = true then some (ps.any fun z => PyData.eqv z p) else none
  | _, _ => none
def flatD : D → Bool
  | .non => true
  | .bl _ => true
  | .int _ => true
  | .str _ => true
  | _ => false
def vD : D → V
  | .non => .non
  | .bl b => .bl b
  | .int i => .int i
  | .str x => .str x
  | _ => .non
theorem flat_is {G : Hp} {v : V} {d : D} (h : Is X.K cl G v d) (f : flatD d = true) : v = vD d ∧ flatV v = true := by
  cases h <;> first | exact ⟨rfl, rfl⟩ | cases f
theorem flat_isL {G : Hp} : ∀ {vs : List V} {ds : List D}, IsL X.K cl G vs ds → ds.all flatD = true → vs = ds.map vD ∧ vs.all flatV = true
  | _, _, .nil, _ => ⟨rfl, rfl⟩
  | _, _, .cons h t, f => by
    rw [List.all_cons, Bool.and_eq_true] at f
    obtain ⟨e1, f1⟩ := flat_is h f.1
    obtain ⟨e2, f2⟩ := flat_isL t f.2
    exact ⟨by rw [List.map_cons, e1, e2], by rw [List.all_cons, f1, f2]; rfl⟩
/-- whether it is in -/
def isIn : D → D → Option Bool
  | d, .lst ds => anyEq d ds
  | d, .lkd ds => anyEq d ds
  | d, .tup ds => if flatD d = true ∧ ds.all flatD = true then some (inV (vD d) (ds.map vD)) else none
  | d, .lkt ds => if flatD d = true ∧ ds.all flatD = true then some (inV (vD d) (ds.map vD)) else none
  | .str i, .str j => some (!(Builtin.Str.occurrences j i 0 j.length 1).isEmpty)
  | d, .dK ks ds => d.key.map fun q => (lk ks ds q).isSome
  | d, .dT ks ds => d.tkey.map fun q => (lk ks ds q).isSome
  | _, _ => none
def dIn (a b : D) : Option R := (isIn a b).map fun k => .sh (.bl k)
def dNin (a b : D) : Option R := (isIn a b).map fun k => .sh (.bl (!k))
def rDIn (neg : Bool) : R2 := fun y x H Q => ∃ a o, x = .ref a ∧ DGet H a y o ∧ Q (.bl (if neg then !o.isSome else o.isSome)) H
theorem op_inDict (hu : X.A.units + 1 < cLine) : OpR X (compareOp .In) (rDIn false) := by
  intro pins s σ H y x u v Q I ry rx h
  obtain ⟨a, o, rfl, g, q⟩ := h
  cases rx
  exact d_in hu I g ry fun s3 I3 => ⟨.bl o.isSome, H, I3, rfl, q⟩
theorem op_notInDict (hu : X.A.units + 1 < cLine) : OpR X (compareOp .NotIn) (rDIn true) := by
  intro pins s σ H y x u v Q I ry rx h
  obtain ⟨a, o, rfl, g, q⟩ := h
  cases rx
  exact d_notIn hu I g ry fun s3 I3 => ⟨.bl (!o.isSome), H, I3, rfl, q⟩
/-- the four ways of in, to be read of any k that comes -/
def rIns (K : PySem.W.Frag) (g : Bool → Bool) : R2 := fun x y H Q => (∃ d ds, Dp K H x d ∧ Dp K H y (.list ds) ∧ SeqAt.shaped d = true ∧ SeqAt.shaped (.list ds) = true ∧ Q (.bl (g (ds.any fun z => PyData.eqv z d))) H) ∨
  (∃ p xs, y = .ref p ∧ (SqL K H p xs ∨ SqT K H p xs) ∧ flatV x = true ∧ xs.all flatV = true ∧ Q (.bl (g (inV x xs))) H) ∨
  (∃ i j, x = .str i ∧ y = .str j ∧ Q (.bl (g (!(Builtin.Str.occurrences j i 0 j.length 1).isEmpty))) H) ∨ (∃ a o, y = .ref a ∧ DGet H a x o ∧ Q (.bl (g o.isSome)) H)
theorem op_ins (hu : X.A.units + 65 < cLine) : OpR X (compareOp .In) (rIns X.K id) := by
  have h1 : OpR X (compareOp .In) (rInD X.K) := op_inD hu
  have h2 : OpR X (compareOp .In) (rIn X.K false) := op_in_seq
  have h4 : OpR X (compareOp .In) (rDIn false) := op_inDict (by omega)
  intro pins s σ H x y v u Q I rx ry h
  rcases h with h | ⟨p, xs, a, b, c, d, q⟩ | h | h
  · exact h1 pins s σ H x y v u Q I rx ry h
  · exact h2 pins s σ H x y v u Q I rx ry ⟨p, xs, a, b, c, d, q⟩
  · exact op_in_str pins s σ H x y v u Q I rx ry h
  · exact h4 pins s σ H x y v u Q I rx ry h
theorem op_nins (hu : X.A.units + 65 < cLine) : OpR X (compareOp .NotIn) (rIns X.K not) := by
  have h1 : OpR X (compareOp .NotIn) (rNotInD X.K) := op_notInD hu
  have h2 : OpR X (compareOp .NotIn) (rIn X.K true) := op_notIn_seq
  have h4 : OpR X (compareOp .NotIn) (rDIn true) := op_notInDict (by omega)
  intro pins s σ H x y v u Q I rx ry h
  rcases h with h | ⟨p, xs, a, b, c, d, q⟩ | h | h
  · exact h1 pins s σ H x y v u Q I rx ry h
  · exact h2 pins s σ H x y v u Q I rx ry ⟨p, xs, a, b, c, d, q⟩
  · exact op_notin_str pins s σ H x y v u Q I rx ry h
  · exact h4 pins s σ H x y v u Q I rx ry h
theorem ins_of {g : Bool → Bool} (G H : Hp) (x y : V) (a b : D) (Q : VK) (s : Same G H) (ha : Vw X.K cl G H x a) (hb : Vw X.K cl G H y b) {k : Bool} (hk : isIn a b = some k) (q : Q (.bl (g k)) H) : rIns X.K g x y H Q := by
  have any : ∀ {ds : List D}, b.seq = some ds → D.py b = (D.pyL ds).map .list → anyEq a ds = some k → rIns X.K g x y H Q := by
    intro ds eb pb ek
    unfold anyEq at ek
    split at ek
    · rename_i p ps h1 h2
      split at ek
      · rename_i hs
        cases ek
        exact .inl ⟨p, ps, ha.dp s h1, hb.dp s (by rw [pb, h2]; rfl), hs.1, hs.2, q⟩
      · cases ek
    · cases ek
  have tup : ∀ {ds : List D}, b.tseq = some ds → (if flatD a = true ∧ ds.all flatD = true then some (inV (vD a) (ds.map vD)) else none) = some k → rIns X.K g x y H Q := by
    intro ds eb ek
    split at ek
    · rename_i hf
      cases ek
      obtain ⟨p, xs, rfl, h1, i1⟩ := hb.tseq s eb
      obtain ⟨e2, f2⟩ := flat_isL i1 hf.2
      cases ha with
      | of ha =>
        obtain ⟨e1, f1⟩ := flat_is ha hf.1
        exact .inr (.inl ⟨p, xs, rfl, .inr h1, f1, f2, by rw [e1, e2]; exact q⟩)
      | lst => cases hf.1
      | dK => cases hf.1
      | dT => cases hf.1
      | ins => cases hf.1
    · cases ek
  cases b with
  | lst ds => exact any rfl rfl (by cases a <;> exact hk)
  | lkd ds => exact any rfl rfl (by cases a <;> exact hk)
  | tup ds => exact tup rfl (by cases a <;> exact hk)
  | lkt ds => exact tup rfl (by cases a <;> exact hk)
  | str j => cases a with
    | str i => cases hk; exact .inr (.inr (.inl ⟨i, j, ha.str, hb.str, q⟩))
    | _ => cases hk
  | dK ks ds =>
    have hk : (a.key.map fun q => (lk ks ds q).isSome) = some k := by cases a <;> exact hk
    obtain ⟨qk, h1, rfl⟩ := Option.map_eq_some_iff.mp hk
    obtain ⟨p, rfl, gt⟩ := hb.dkG (q := qk) s
    refine .inr (.inr (.inr ?_))
    rw [ha.key h1]
    cases hl : lk ks ds qk with
    | none => rw [hl] at gt q; exact ⟨p, none, rfl, gt, q⟩
    | some d => rw [hl] at gt q; obtain ⟨z, g1, _⟩ := gt; exact ⟨p, some z, rfl, g1, q⟩
  | dT ks ds =>
    have hk : (a.tkey.map fun q => (lk ks ds q).isSome) = some k := by cases a <;> exact hk
    obtain ⟨qk, h1, rfl⟩ := Option.map_eq_some_iff.mp hk
    obtain ⟨kb, rfl, hkb⟩ := ha.tkey s h1
    obtain ⟨p, rfl, gt⟩ := hb.dtG s hkb
    refine .inr (.inr (.inr ?_))
    cases hl : lk ks ds qk with
    | none => rw [hl] at gt q; exact ⟨p, none, rfl, gt, q⟩
    | some d => rw [hl] at gt q; obtain ⟨z, g1, _⟩ := gt; exact ⟨p, some z, rfl, g1, q⟩
  | _ => cases a <;> cases hk
theorem od_in (hu : X.A.units + 65 < cLine) : OpD cl X (compareOp .In) dIn := by
  refine ⟨_, op_ins hu, fun G H x y a b Q s ha hb z => ?_⟩
  unfold dIn at z
  cases hk : isIn a b with
  | none => rw [hk] at z; exact z.elim
  | some k => rw [hk] at z; exact ins_of G H x y a b Q s ha hb hk (GPo.same (d := .bl _) s z (.bl _))
theorem od_nin (hu : X.A.units + 65 < cLine) : OpD cl X (compareOp .NotIn) dNin := by
  refine ⟨_, op_nins hu, fun G H x y a b Q s ha hb z => ?_⟩
  unfold dNin at z
  cases hk : isIn a b with
  | none => rw [hk] at z; exact z.elim
  | some k => rw [hk] at z; exact ins_of (g := not) G H x y a b Q s ha hb hk (GPo.same (d := .bl _) s z (.bl _))

/-! ### one-place operations, and, or, not -/
def fMap (g : D → Option R) (fa : Ev → O R) : Ev → O R := fun env => (fa env).bind fun a => O.of (g a.d)
def dNeg : D → Option R
  | .int i => some (.sh (.int (-i)))
  | _ => none
theorem de_neg (ha : DE cl X W a fa) : DE cl X W (.UnaryOp .USub a pos) (fMap dNeg fa) := by
  obtain ⟨ta, pa, qa⟩ := ha.vw
  refine ⟨_, pe_un un_neg pa, fun G H σ env Q rep z => qa G H σ env _ rep ?_⟩
  unfold fMap at z
  cases h1 : fa env with
  | no => rw [h1] at z; exact z.elim
  | ex x => rw [h1] at z; exact z
  | ok r1 =>
    rw [h1] at z
    intro v1 G1 H1 e1 i1
    have z : EPo cl X W G H σ Q (O.of (dNeg r1.d)) := z
    cases hd : r1.d with
    | int i => rw [hd] at z i1; exact ⟨i, i1.int, z _ G1 H1 e1 (.sh (.int _))⟩
    | _ => rw [hd] at z; exact z.elim
def fNot (f : Ev → O Bool) : Ev → O Bool := fun env => (f env).map not
theorem dt_not {f : Ev → O Bool} (h : DT cl X W a f) : DT cl X W (.UnaryOp .Not a pos) (fNot f) := by
  obtain ⟨t, q, h⟩ := h
  refine ⟨_, pt_not q, fun G H σ env Q rep z => h G H σ env _ rep ?_⟩
  unfold fNot at z
  cases h1 : f env with
  | no => rw [h1] at z; exact z.elim
  | ex x => rw [h1] at z; exact z
  | ok k => rw [h1] at z; exact fun G' H' e => z G' H' e
def fAnd (f g : Ev → O Bool) : Ev → O Bool := fun env => (f env).bind fun k => if k then g env else .ok false
def fOr (f g : Ev → O Bool) : Ev → O Bool := fun env => (f env).bind fun k => if k then .ok true else g env
theorem TPo.ext {G H G1 H1 : Hp} {σ : L2.St} {Q : Bool → Hp → Prop} {o : O Bool} (e : Ext G H G1 H1) (h : TPo cl X W G H σ Q o) : TPo cl X W G1 H1 σ Q o := by
  cases o with
  | ok r => exact fun G' H' e' => h G' H' (e.trans e')
  | ex x => exact ex_ext e h
  | no => exact h
variable {rest : List Expr}
theorem dw_and1 {f : Ev → O Bool} (h : DT cl X W a f) : DW cl X W (.BoolOp .And [a] pos) f := by
  obtain ⟨t, q, h⟩ := h
  exact ⟨t, pw_and1 q, h⟩
theorem dw_or1 {f : Ev → O Bool} (h : DT cl X W a f) : DW cl X W (.BoolOp .Or [a] pos) f := by
  obtain ⟨t, q, h⟩ := h
  exact ⟨t, pw_or1 q, h⟩
theorem dw_and {f g : Ev → O Bool} (h : DT cl X W a f) (h2 : DW cl X W (.BoolOp .And (b :: rest) pos) g) : DW cl X W (.BoolOp .And (a :: b :: rest) pos) (fAnd f g) := by
  obtain ⟨t, q, h⟩ := h
  obtain ⟨t2, q2, h2⟩ := h2
  refine ⟨_, pw_and q q2, fun G H σ env Q rep z => h G H σ env _ rep ?_⟩
  unfold fAnd at z
  cases h1 : f env with
  | no => rw [h1] at z; exact z.elim
  | ex x => rw [h1] at z; exact z
  | ok k =>
    rw [h1] at z
    intro G' H' e
    cases k with
    | true => exact h2 G' H' σ env Q (rep.ext e) (TPo.ext e z)
    | false => exact z G' H' e
theorem dw_or {f g : Ev → O Bool} (h : DT cl X W a f) (h2 : DW cl X W (.BoolOp .Or (b :: rest) pos) g) : DW cl X W (.BoolOp .Or (a :: b :: rest) pos) (fOr f g) := by
  obtain ⟨t, q, h⟩ := h
  obtain ⟨t2, q2, h2⟩ := h2
  refine ⟨_, pw_or q q2, fun G H σ env Q rep z => h G H σ env _ rep ?_⟩
  unfold fOr at z
  cases h1 : f env with
  | no => rw [h1] at z; exact z.elim
  | ex x => rw [h1] at z; exact z
  | ok k =>
    rw [h1] at z
    intro G' H' e
    cases k with
    | false => exact h2 G' H' σ env Q (rep.ext e) (TPo.ext e z)
    | true => exact z G' H' e
theorem dw_t {f : Ev → O Bool} (h : DW cl X W a f) : DT cl X W a f := by
  obtain ⟨t, q, h⟩ := h
  exact ⟨t, q.pt, h⟩
/-- as values -/
def eNot (f : Ev → O R) : Ev → O R := fun env => (f env).bool.map fun k => .sh (.bl (!k))
def eAnd (f g : Ev → O R) : Ev → O R := fun env => (f env).bool.bind fun k => if k then g env else .ok (.sh (.bl false))
def eOr (f g : Ev → O R) : Ev → O R := fun env => (f env).bool.bind fun k => if k then .ok (.sh (.bl true)) else g env
/-- an expression that gives a truth -/
theorem bool_of {t : TE} {σ : L2.St} {env : Ev} {G H : Hp} (h : ∀ (G H : Hp) (σ : L2.St) (env : Ev) (Q : VK), Rep X.K cl G H σ env → EPo cl X W G H σ Q (fa env) → t σ H Q) (rep : Rep X.K cl G H σ env) {Q : VK} {o : O R} {g : Bool → O R}
    (z : EPo cl X W G H σ Q ((fa env).bool.bind g)) {Q2 : VK} (k : ∀ b G' H', (fa env).bool = .ok b → Ext G H G' H' → EPo cl X W G' H' σ Q (g b) → Q2 (.bl b) H') : t σ H Q2 := by
  refine h G H σ env _ rep ?_
  cases h1 : fa env with
  | no => rw [h1] at z; exact z.elim
  | ex x => rw [h1] at z; exact z
  | ok r =>
    rw [h1] at z k
    intro v G' H' e i
    cases i with
    | fr => exact z.elim
    | bo => exact z.elim
    | sh i =>
      cases i with
      | bl b => exact k b G' H' rfl e (EPo.ext e z)
      | _ => exact z.elim
theorem de_not (h : DE cl X W a fa) : DE cl X W (.UnaryOp .Not a pos) (eNot fa) := by
  obtain ⟨t, q, h⟩ := h
  refine ⟨_, pe_not q, fun G H σ env Q rep z => ?_⟩
  have z : EPo cl X W G H σ Q ((fa env).bool.bind fun k => .ok (.sh (.bl (!k)))) := by
    unfold eNot at z
    cases h1 : (fa env).bool <;> rw [h1] at z <;> exact z
  exact bool_of (o := .no) h rep z fun b G' H' _ e z => ⟨b, rfl, z _ G' H' (.refl e.i) (.sh (.bl _))⟩
theorem de_one {op : PySem.BoolOp} (h : DE cl X W a fa) : DE cl X W (.BoolOp op [a] pos) fa := by
  obtain ⟨t, q, h⟩ := h
  exact ⟨_, pe_one q, h⟩
theorem de_and (h : DE cl X W a fa) (h2 : DE cl X W (.BoolOp .And (b :: rest) pos) fb) : DE cl X W (.BoolOp .And (a :: b :: rest) pos) (eAnd fa fb) := by
  obtain ⟨t, q, h⟩ := h
  obtain ⟨t2, q2, h2⟩ := h2
  refine ⟨_, pe_and q q2, fun G H σ env Q rep z => bool_of (o := .no) h rep z fun b G' H' _ e z => ⟨b, rfl, ?_⟩⟩
  cases b with
  | true => exact h2 G' H' σ env Q (rep.ext e) z
  | false => exact z _ G' H' (.refl e.i) (.sh (.bl _))
theorem de_or (h : DE cl X W a fa) (h2 : DE cl X W (.BoolOp .Or (b :: rest) pos) fb) : DE cl X W (.BoolOp .Or (a :: b :: rest) pos) (eOr fa fb) := by
  obtain ⟨t, q, h⟩ := h
  obtain ⟨t2, q2, h2⟩ := h2
  refine ⟨_, pe_or q q2, fun G H σ env Q rep z => bool_of (o := .no) h rep z fun b G' H' _ e z => ⟨b, rfl, ?_⟩⟩
  cases b with
  | false => exact h2 G' H' σ env Q (rep.ext e) z
  | true => exact z _ G' H' (.refl e.i) (.sh (.bl _))
/-- a < b < c -/
def fChain (g g' : D → D → Option R) (fa fb fc : Ev → O R) : Ev → O R := fun env => (fa env).bind fun a => (fb env).bind fun b => (O.of (g a.d b.d)).bool.bind fun k =>
  if k then (fc env).bind fun c => O.of (g' b.d c.d) else .ok (.sh (.bl false))
theorem chain_of {op op' : CmpOp} {g g' : D → D → Option R} {r r' : R2} {ta tb tc : TE}
    (qa : ∀ (G H : Hp) (σ : L2.St) (env : Ev) (Q : VK), Rep X.K cl G H σ env → VPo cl X W G H σ Q ((fa env).map R.d) → ta σ H Q)
    (qb : ∀ (G H : Hp) (σ : L2.St) (env : Ev) (Q : VK), Rep X.K cl G H σ env → VPo cl X W G H σ Q ((fb env).map R.d) → tb σ H Q)
    (qc : ∀ (G H : Hp) (σ : L2.St) (env : Ev) (Q : VK), Rep X.K cl G H σ env → VPo cl X W G H σ Q ((fc env).map R.d) → tc σ H Q)
    (q : ∀ (G H : Hp) (x y : V) (a b : D) (Q : VK), Same G H → Vw X.K cl G H x a → Vw X.K cl G H y b → GPo cl X G H Q (g a b) → r x y H Q)
    (q' : ∀ (G H : Hp) (x y : V) (a b : D) (Q : VK), Same G H → Vw X.K cl G H x a → Vw X.K cl G H y b → GPo cl X G H Q (g' a b) → r' x y H Q)
    (G H : Hp) (σ : L2.St) (env : Ev) (Q : VK) (rep : Rep X.K cl G H σ env) (z : EPo cl X W G H σ Q (fChain g g' fa fb fc env)) : tChain r r' ta tb tc σ H Q := by
  refine qa G H σ env _ rep ?_
  unfold fChain at z
  cases h1 : fa env with
  | no => rw [h1] at z; exact z.elim
  | ex x => rw [h1] at z; exact z
  | ok r1 =>
  rw [h1] at z
  intro v1 G1 H1 e1 i1
  refine qb G1 H1 σ env _ (rep.ext e1) ?_
  have z : EPo cl X W G H σ Q ((fb env).bind fun b => (O.of (g r1.d b.d)).bool.bind fun k => if k then (fc env).bind fun c => O.of (g' b.d c.d) else .ok (.sh (.bl false))) := z
  cases h2 : fb env with
  | no => rw [h2] at z; exact z.elim
  | ex x => rw [h2] at z; exact ex_ext e1 z
  | ok r2 =>
  rw [h2] at z
  intro v2 G2 H2 e2 i2
  refine q G2 H2 v1 v2 r1.d r2.d _ e2.i (i1.ext e2) i2 ?_
  have z : EPo cl X W G H σ Q ((O.of (g r1.d r2.d)).bool.bind fun k => if k then (fc env).bind fun c => O.of (g' r2.d c.d) else .ok (.sh (.bl false))) := z
  cases hg : g r1.d r2.d with
  | none => rw [hg] at z; exact z.elim
  | some rr =>
  rw [hg] at z
  intro v3 G3 H3 e3 i3
  cases i3 with
  | fr => exact z.elim
  | bo => exact z.elim
  | sh i3 =>
  cases i3 with
  | bl k =>
    refine ⟨k, rfl, ?_⟩
    have e := (e1.trans e2).trans e3
    cases k with
    | false => exact z _ G3 H3 e (.sh (.bl _))
    | true =>
      have z : EPo cl X W G H σ Q ((fc env).bind fun c => O.of (g' r2.d c.d)) := z
      refine qc G3 H3 σ env _ (rep.ext e) ?_
      cases h4 : fc env with
      | no => rw [h4] at z; exact z.elim
      | ex x => rw [h4] at z; exact ex_ext e z
      | ok r4 =>
        rw [h4] at z
        intro v4 G4 H4 e4 i4
        refine q' G4 H4 v2 v4 r2.d r4.d _ e4.i ((i2.ext e3).ext e4) i4 ?_
        have z : EPo cl X W G H σ Q (O.of (g' r2.d r4.d)) := z
        cases hg' : g' r2.d r4.d with
        | none => rw [hg'] at z; exact z.elim
        | some r5 => rw [hg'] at z; exact fun v G' H' e' i => z v G' H' ((e.trans e4).trans e') (i.start (e.trans e4).h)
  | _ => exact z.elim
theorem de_chain {op op' : CmpOp} {g g' : D → D → Option R} (ho : OpD cl X (compareOp op) g) (ho' : OpD cl X (compareOp op') g') (ha : DE cl X W a fa) (hb : DE cl X W b fb) (hc : DE cl X W c fc) (hm : lastMarks [op, op'] [b, c] = false := by with_unfolding_all rfl) : DE cl X W (.Compare a [op, op'] [b, c] pos) (fChain g g' fa fb fc) := by
  obtain ⟨r, o, q⟩ := ho
  obtain ⟨r', o', q'⟩ := ho'
  obtain ⟨ta, pa, qa⟩ := ha.vw
  obtain ⟨tb, pb, qb⟩ := hb.vw
  obtain ⟨tc, pc, qc⟩ := hc.vw
  exact ⟨_, pe_chain o o' pa pb pc hm, chain_of (op := op) (op' := op') qa qb qc q q'⟩
theorem dt_chain {op op' : CmpOp} {g g' : D → D → Option R} (ho : OpD cl X (compareOp op) g) (ho' : OpD cl X (compareOp op') g') (ha : DE cl X W a fa) (hb : DE cl X W b fb) (hc : DE cl X W c fc) (hm : lastMarks [op, op'] [b, c] = false := by with_unfolding_all rfl) : DT cl X W (.Compare a [op, op'] [b, c] pos) (fB (fChain g g' fa fb fc)) := by
  obtain ⟨r, o, q⟩ := ho
  obtain ⟨r', o', q'⟩ := ho'
  obtain ⟨ta, pa, qa⟩ := ha.vw
  obtain ⟨tb, pb, qb⟩ := hb.vw
  obtain ⟨tc, pc, qc⟩ := hc.vw
  exact ⟨_, pt_chain o o' pa pb pc hm, tb_of (chain_of (op := op) (op' := op') qa qb qc q q')⟩
end
end DL

/-! DLd: arguments, displays, slices, calls of defs, methods and built-ins, fields. -/
namespace DL
open PySem PySem.Spec L2
section
variable {cl : Nat → Addr} {X : Cx} {W : WX} {e a b c o : Expr} {es : List Expr} {fe fa fb fc fo : Ev → O R} {pos p p2 apos : Pos}

/-! ### arguments: kept -/
def aNil : Ev → O (List D) := fun _ => .ok []
def aCons (f : Ev → O R) (g : Ev → O (List D)) : Ev → O (List D) := fun env => ((f env).bind R.fz).bind fun d => (g env).map (d :: ·)
theorem da_nil : DA cl X W [] aNil := ⟨_, pa_nil, fun G H σ env Q rep z => z [] G H (.refl rep.same) .nil⟩
theorem APo.ext {G H G1 H1 : Hp} {σ : L2.St} {Q : List V → Hp → Prop} {o : O (List D)} (e : Ext G H G1 H1) (h : APo cl X W G H σ Q o) : APo cl X W G1 H1 σ Q o := by
  cases o with
  | ok r => exact fun v G' H' e' i => h v G' H' (e.trans e') i
  | ex x => exact ex_ext e h
  | no => exact h
theorem da_cons {g : Ev → O (List D)} (h : DE cl X W e fe) (hs : DA cl X W es g) (hst : starEach (e :: es) X.env = (false, eval e X.env) :: starEach es X.env := by rfl) : DA cl X W (e :: es) (aCons fe g) := by
  obtain ⟨t, q, h⟩ := h.fz
  obtain ⟨t2, q2, h2⟩ := hs
  refine ⟨_, pa_cons q q2 hst, fun G H σ env Q rep z => h G H σ env _ rep ?_⟩
  unfold aCons at z
  cases h1 : (fe env).bind R.fz with
  | no => rw [h1] at z; exact z.elim
  | ex x => rw [h1] at z; exact z
  | ok d =>
    rw [h1] at z
    intro v G1 H1 e1 i1
    refine h2 G1 H1 σ env _ (rep.ext e1) ?_
    have z : APo cl X W G H σ Q ((g env).map (d :: ·)) := z
    cases hg : g env with
    | no => rw [hg] at z; exact z.elim
    | ex x => rw [hg] at z; exact ex_ext e1 z
    | ok ds => rw [hg] at z; exact fun vs G2 H2 e2 i2 => z (v :: vs) G2 H2 (e1.trans e2) (.cons (i1.mono e2.g) i2)
/-! ### arguments: looked at -/
abbrev VwL (cl : Nat → Addr) (X : Cx) (G H : Hp) : List V → List D → Prop := Paired (Vw X.K cl G H)
theorem VwL.ext {G H G' H' : Hp} (e : Ext G H G' H') : ∀ {vs : List V} {ds : List D}, VwL cl X G H vs ds → VwL cl X G' H' vs ds
  | _, _, .nil => .nil
  | _, _, .cons h t => .cons (h.ext e) (VwL.ext e t)
def LPo (cl : Nat → Addr) (X : Cx) (W : WX) (G H : Hp) (σ : L2.St) (Q : List V → Hp → Prop) : O (List D) → Prop
  | .ok ds => ∀ vs G' H', Ext G H G' H' → VwL cl X G' H' vs ds → Q vs H'
  | .ex x => ∀ c d G' H', Ext G H G' H' → XIs X.K cl G' H' x c d → W c d σ H'
  | .no => False
def DAv (cl : Nat → Addr) (X : Cx) (W : WX) (es : List Expr) (f : Ev → O (List D)) : Prop :=
  ∃ t : TA, PA X es t ∧ ∀ (G H : Hp) (σ : L2.St) (env : Ev) (Q : List V → Hp → Prop), Rep X.K cl G H σ env → LPo cl X W G H σ Q (f env) → t σ H Q
def vCons (f : Ev → O R) (g : Ev → O (List D)) : Ev → O (List D) := fun env => (f env).bind fun r => (g env).map (r.d :: ·)
theorem dav_nil : DAv cl X W [] aNil := ⟨_, pa_nil, fun G H σ env Q rep z => z [] G H (.refl rep.same) .nil⟩
theorem dav_cons {g : Ev → O (List D)} (h : DE cl X W e fe) (hs : DAv cl X W es g) (hst : starEach (e :: es) X.env = (false, eval e X.env) :: starEach es X.env := by rfl) : DAv cl X W (e :: es) (vCons fe g) := by
  obtain ⟨t, q, h⟩ := h.vw
  obtain ⟨t2, q2, h2⟩ := hs
  refine ⟨_, pa_cons q q2 hst, fun G H σ env Q rep z => h G H σ env _ rep ?_⟩
  unfold vCons at z
  cases h1 : fe env with
  | no => rw [h1] at z; exact z.elim
  | ex x => rw [h1] at z; exact z
  | ok r =>
    rw [h1] at z
    intro v G1 H1 e1 i1
    refine h2 G1 H1 σ env _ (rep.ext e1) ?_
    have z : LPo cl X W G H σ Q ((g env).map (r.d :: ·)) := z
    cases hg : g env with
    | no => rw [hg] at z; exact z.elim
    | ex x => rw [hg] at z; exact ex_ext e1 z
    | ok ds => rw [hg] at z; exact fun vs G2 H2 e2 i2 => z (v :: vs) G2 H2 (e1.trans e2) (.cons (i1.ext e2) i2)

/-! ### displays -/
def eTup (g : Ev → O (List D)) : Ev → O R := fun env => (g env).bind fun ds => if ds.length ≤ lim then .ok (.sh (.tup ds)) else .no
def eLst (g : Ev → O (List D)) : Ev → O R := fun env => (g env).bind fun ds => if ds.length ≤ lim then .ok (.fr (.ow ds)) else .no
theorem de_tup {x1 : Nat} {g : Ev → O (List D)} (h : DA cl X W es g) : DE cl X W (.Tuple es x1 pos) (eTup g) := by
  obtain ⟨t, q, h⟩ := h
  refine ⟨_, pe_tup q, fun G H σ env Q rep z => h G H σ env _ rep ?_⟩
  unfold eTup at z
  cases h1 : g env with
  | no => rw [h1] at z; exact z.elim
  | ex x => rw [h1] at z; exact z
  | ok ds =>
    rw [h1] at z
    intro vs G1 H1 e1 i1
    have z : EPo cl X W G H σ Q (if ds.length ≤ lim then .ok (.sh (.tup ds)) else .no) := z
    split at z
    · rename_i hl
      refine ⟨by rw [lim_eq, i1.length]; exact hl, fun p hp => ?_⟩
      exact z (.ref p) _ _ (e1.trans (.newG e1.i hp)) (.sh (.tup upd_same (i1.mono (same_upd (e1.i.free hp)))))
    · exact z.elim
theorem de_lst {g : Ev → O (List D)} (h : DA cl X W es g) : DE cl X W (.List es pos) (eLst g) := by
  obtain ⟨t, q, h⟩ := h
  refine ⟨_, pe_lst q, fun G H σ env Q rep z => h G H σ env _ rep ?_⟩
  unfold eLst at z
  cases h1 : g env with
  | no => rw [h1] at z; exact z.elim
  | ex x => rw [h1] at z; exact z
  | ok ds =>
    rw [h1] at z
    intro vs G1 H1 e1 i1
    have z : EPo cl X W G H σ Q (if ds.length ≤ lim then .ok (.fr (.ow ds)) else .no) := z
    split at z
    · rename_i hl
      refine ⟨by rw [lim_eq, i1.length]; exact hl, fun p hp => ?_⟩
      exact z (.ref p) _ _ (e1.trans (.new e1.i hp)) (.fr rfl (.ow (e1.i.free hp) upd_same i1) (e1.h.free hp))
    · exact z.elim
theorem de_dnewK : DE cl X W (.Dict [] [] pos) (fun _ => .ok (.fr (.oK [] []))) :=
  ⟨_, pe_dnewK, fun G H σ env Q rep z p hp => z (.ref p) G _ (.new rep.same hp) (.fr rfl (.oK (rep.same.free hp) upd_same rfl .nil) hp)⟩
theorem de_dnewT : DE cl X W (.Dict [] [] pos) (fun _ => .ok (.fr (.oT [] []))) :=
  ⟨_, pe_dnewT, fun G H σ env Q rep z p hp => z (.ref p) G _ (.new rep.same hp) (.fr rfl (.oT (rep.same.free hp) upd_same rfl .nil) hp)⟩

/-! ### slices -/
def cutD (ds : List D) (lo hi : Option Int) : List D := (ds.drop (HT.sIx ds.length 0 lo)).take (HT.sIx ds.length ds.length hi - HT.sIx ds.length 0 lo)
def DPO (cl : Nat → Addr) (X : Cx) (W : WX) (e : Option Expr) (f : Ev → O (Option Int)) : Prop :=
  ∃ t : TO, PO X e t ∧ ∀ (G H : Hp) (σ : L2.St) (env : Ev) (Q : Option Int → Hp → Prop), Rep X.K cl G H σ env →
    (match f env with | .ok i => ∀ G' H', Ext G H G' H' → Q i H' | .ex x => ∀ c d G' H', Ext G H G' H' → XIs X.K cl G' H' x c d → W c d σ H' | .no => False) → t σ H Q
theorem dpo_none : DPO cl X W none (fun _ => .ok none) := ⟨_, po_none, fun G H σ env Q rep z => z G H (.refl rep.same)⟩
def fPart (f : Ev → O R) : Ev → O (Option Int) := fun env => (f env).bind fun r => match r.d with | .int i => .ok (some i) | _ => .no
theorem dpo_some (h : DE cl X W e fe) : DPO cl X W (some e) (fPart fe) := by
  obtain ⟨t, q, h⟩ := h.vw
  refine ⟨_, po_some q, fun G H σ env Q rep z => h G H σ env _ rep ?_⟩
  unfold fPart at z
  cases h1 : fe env with
  | no => rw [h1] at z; exact z.elim
  | ex x => rw [h1] at z; exact z
  | ok r =>
    rw [h1] at z
    intro v G1 H1 e1 i1
    simp only [O.bind] at z
    cases hd : r.d with
    | int i => rw [hd] at z i1; exact ⟨i, i1.int, z G1 H1 e1⟩
    | _ => rw [hd] at z; exact z.elim
def dSl : D → Option Int → Option Int → Option R
  | .lst ds, lo, hi => some (.fr (.ow (cutD ds lo hi)))
  | .lkd ds, lo, hi => some (.fr (.ow (cutD ds lo hi)))
  | .str x, lo, hi => if x.length ≤ lim then some (.sh (.str (cutS x lo hi))) else none
  | .tup ds, lo, hi => if HT.sIx ds.length 0 lo = 0 ∧ HT.sIx ds.length ds.length hi = ds.length then none else some (.sh (.tup (cutD ds lo hi)))
  | _, _, _ => none
def fSl (fa : Ev → O R) (fl fh : Ev → O (Option Int)) : Ev → O R := fun env => (fa env).bind fun a => (fl env).bind fun l => (fh env).bind fun h => O.of (dSl a.d l h)
theorem de_slice {lo hi : Option Expr} {fl fh : Ev → O (Option Int)} (ha : DE cl X W a fa) (hl : DPO cl X W lo fl) (hh : DPO cl X W hi fh) : DE cl X W (.Subscript a (.Slice lo hi none p2) pos) (fSl fa fl fh) := by
  obtain ⟨t, q, h⟩ := ha.vw
  obtain ⟨t1, q1, h1⟩ := hl
  obtain ⟨t2, q2, h2⟩ := hh
  refine ⟨_, pe_slice (sl_list.or (sl_str.or sl_tup)) q q1 q2, fun G H σ env Q rep z => h G H σ env _ rep ?_⟩
  unfold fSl at z
  cases e1 : fa env with
  | no => rw [e1] at z; exact z.elim
  | ex x => rw [e1] at z; exact z
  | ok r =>
  rw [e1] at z
  intro v G1 H1 x1 i1
  refine h1 G1 H1 σ env _ (rep.ext x1) ?_
  have z : EPo cl X W G H σ Q ((fl env).bind fun l => (fh env).bind fun h => O.of (dSl r.d l h)) := z
  cases e2 : fl env with
  | no => rw [e2] at z; exact z.elim
  | ex x => rw [e2] at z; exact ex_ext x1 z
  | ok l =>
  rw [e2] at z
  intro G2 H2 x2
  refine h2 G2 H2 σ env _ (rep.ext (x1.trans x2)) ?_
  have z : EPo cl X W G H σ Q ((fh env).bind fun h => O.of (dSl r.d l h)) := z
  cases e3 : fh env with
  | no => rw [e3] at z; exact z.elim
  | ex x => rw [e3] at z; exact ex_ext (x1.trans x2) z
  | ok u =>
  rw [e3] at z
  intro G3 H3 x3
  have z : EPo cl X W G H σ Q (O.of (dSl r.d l u)) := z
  have ee := (x1.trans x2).trans x3
  have i3 := (i1.ext x2).ext x3
  cases hd : r.d with
  | lst ds =>
    rw [hd] at z i3
    obtain ⟨p, xs, rfl, hp, ii⟩ := i3.list ee.i
    exact .inl ⟨p, xs, rfl, .of hp, fun q hq => z (.ref q) _ _ (ee.trans (.new ee.i hq)) (.fr rfl (.ow (ee.i.free hq) upd_same (ii.cut l u)) (ee.h.free hq))⟩
  | lkd ds =>
    rw [hd] at z i3
    obtain ⟨p, xs, rfl, hp, ii⟩ := i3.seq ee.i rfl
    exact .inl ⟨p, xs, rfl, hp, fun q hq => z (.ref q) _ _ (ee.trans (.new ee.i hq)) (.fr rfl (.ow (ee.i.free hq) upd_same (ii.cut l u)) (ee.h.free hq))⟩
  | str x =>
    rw [hd] at z i3
    simp only [dSl] at z
    split at z
    · rename_i hl
      exact .inr (.inl ⟨x, i3.str, by rw [lim_eq]; exact hl, z _ G3 H3 ee (.sh (.str _))⟩)
    · exact z.elim
  | tup ds =>
    rw [hd] at z i3
    simp only [dSl] at z
    split at z
    · exact z.elim
    · rename_i hl
      obtain ⟨p, xs, rfl, hp, ii⟩ := i3.tuple ee.i
      refine .inr (.inr ⟨p, xs, rfl, .of hp, by rw [ii.length]; exact hl, fun q hq => z (.ref q) _ _ (ee.trans (.newG ee.i hq)) (.sh (.tup upd_same ((ii.cut l u).mono (same_upd (ee.i.free hq)))))⟩)
  | _ => rw [hd] at z; exact z.elim
def dRev : D → Option R
  | .lst ds => some (.fr (.ow ds.reverse))
  | .lkd ds => some (.fr (.ow ds.reverse))
  | _ => none
theorem de_rev {k : Nat} {p1 p3 : Pos} (ha : DE cl X W a fa) : DE cl X W (.Subscript a (.Slice none none (some (.UnaryOp .USub (.Constant (.int 1) k p1) p2)) p3) pos) (fMap dRev fa) := by
  obtain ⟨t, q, h⟩ := ha.vw
  refine ⟨_, pe_revL q, fun G H σ env Q rep z => h G H σ env _ rep ?_⟩
  unfold fMap at z
  cases e1 : fa env with
  | no => rw [e1] at z; exact z.elim
  | ex x => rw [e1] at z; exact z
  | ok r =>
  rw [e1] at z
  intro v G1 H1 x1 i1
  have z : EPo cl X W G H σ Q (O.of (dRev r.d)) := z
  cases hd : r.d with
  | lst ds =>
    rw [hd] at z i1
    obtain ⟨p, xs, rfl, hp, ii⟩ := i1.list x1.i
    exact ⟨p, xs, rfl, .of hp, fun q hq => z (.ref q) _ _ (x1.trans (.new x1.i hq)) (.fr rfl (.ow (x1.i.free hq) upd_same ii.reverse) (x1.h.free hq))⟩
  | lkd ds =>
    rw [hd] at z i1
    obtain ⟨p, xs, rfl, hp, ii⟩ := i1.seq x1.i rfl
    exact ⟨p, xs, rfl, hp, fun q hq => z (.ref q) _ _ (x1.trans (.new x1.i hq)) (.fr rfl (.ow (x1.i.free hq) upd_same ii.reverse) (x1.h.free hq))⟩
  | _ => rw [hd] at z; exact z.elim

/-! ### what a def promises -/
def spD (cl : Nat → Addr) (K : PySem.W.Frag) (n : Nat) (F : List D → O R) : Sp := fun vs H Q E => vs.length = n ∧ ∃ (G : Hp) (ds : List D), Same G H ∧ IsL K cl G vs ds ∧
  match F ds with
  | .ok r => ∀ v G' H', Ext G H G' H' → RIs K cl H G' H' v r → Q v H'
  | .ex x => ∀ c d G' H', Ext G H G' H' → XIs K cl G' H' x c d → E c d H'
  | .no => False
def fCall (F : List D → O R) (g : Ev → O (List D)) : Ev → O R := fun env => (g env).bind F
theorem call_of {n : Nat} {F : List D → O R} {G H G1 H1 : Hp} {σ : L2.St} {Q : VK} {vs : List V} {ds : List D} (hn : ds.length = n) (e : Ext G H G1 H1) (i : IsL X.K cl G1 vs ds) (z : EPo cl X W G H σ Q (F ds)) : spD cl X.K n F vs H1 Q (WE W σ) := by
  refine ⟨by rw [i.length]; exact hn, G1, ds, e.i, i, ?_⟩
  cases h : F ds with
  | ok r => rw [h] at z; exact fun v G' H' e' ir => z v G' H' (e.trans e') (ir.start e.h)
  | ex x => rw [h] at z; exact fun c d G' H' e' ix => z c d G' H' (e.trans e') ix
  | no => rw [h] at z; exact z.elim
/-- F asks for so many -/
def Ary (n : Nat) (F : List D → O R) : Prop := ∀ ds, ds.length ≠ n → F ds = .no
theorem Ary.len {n : Nat} {F : List D → O R} (A : Ary n F) {ds : List D} (h : F ds ≠ .no) : ds.length = n := by
  by_cases q : ds.length = n
  · exact q
  · exact absurd (A ds q) h
theorem EPo.ne {G H : Hp} {σ : L2.St} {Q : VK} {o : O R} (h : EPo cl X W G H σ Q o) : o ≠ .no := by
  intro e; rw [e] at h; exact h
theorem de_call {k : Nat} {f : Addr} {fd : FuncData} {ps : List Str} {x : Str} {F : List D → O R} {g : Ev → O (List D)} {n : Nat} (A : Ary n F) (Fk : FnOk X.prog X.w X.K X.mg X.base (L2.CX X.prog X.w) k f fd ps (spD cl X.K n F)) (hr : Room k X.A) (tk : Takes X W)
    (hm : X.mg x = some (.ref f)) (hk : PySem.W.keepIn X.K (.ref f) = true) (hb : Binds X.K fd ps []) (ha : DA cl X W (e :: es) g) (hg : Gl X x := by rfl)
    (hdb : (x == ("__debug__" : Str)) = false := by decide) (he : starEach (e :: es) X.env = (false, eval e X.env) :: starEach es X.env := by rfl) (hpl : (backTo pos (starEach es X.env)).any (·.1) = false := by rfl) :
    DE cl X W (.Call (.Name x p) (e :: es) [] pos) (fCall F g) := by
  obtain ⟨t, q, h⟩ := ha
  refine ⟨_, pe_callS Fk hr hg hm hk hb (fun σ => passAt tk σ) q hdb he hpl, fun G H σ env Q rep z => h G H σ env _ rep ?_⟩
  unfold fCall at z
  cases h1 : g env with
  | no => rw [h1] at z; exact z.elim
  | ex x => rw [h1] at z; exact z
  | ok ds => rw [h1] at z; exact fun vs G1 H1 e1 i1 => call_of (A.len (EPo.ne z)) e1 i1 z
/-! ### methods -/
theorem pe_methS {C : Addr} {m : Str} {k : Nat} {f : Addr} {fd : FuncData} {ps : List Str} {sp : Sp} {ta : TE} {t : TA} {E : L2.St → XK} {pl : Sem Bool} (he : PE X o ta) (c : Cls X.K C) (hm : Meth X.K C m f) (F : FnOk X.prog X.w X.K X.mg X.base (L2.CX X.prog X.w) k f fd ps sp) (hr : Room k X.A) (hb : Binds X.K fd ps []) (hx : ∀ σ, PassesAt (L2.CX X.prog X.w) X σ (E σ)) (ha : PA X (e :: es) t)
    (hst : starEach (e :: es) X.env = (false, eval e X.env) :: starEach es X.env) (hpl : (backTo pos (starEach es X.env)).any (·.1) = false)
    (ht : eval (.Call (.Attribute o m apos) (e :: es) [] pos) X.env = (do
      let ov ← eval o X.env
      standAt apos.atName
      let (f, first) ← holding [ov] (getMethod ov m pl)
      callWith pos f first (backTo pos (starEach (e :: es) X.env)) (backToKw pos (keywordEach [] X.env)))) :
    PE X (.Call (.Attribute o m apos) (e :: es) [] pos) (fun σ H Q => ta σ H fun x H1 => ∃ a dx fs, x = .ref a ∧ H1 a = some (.ins C dx fs) ∧ fs.lookup m = none ∧ t σ H1 fun vs H2 => sp (x :: vs) H2 Q (E σ)) := by
  refine ⟨fun pins s σ H Q I h => ?_⟩
  refine PySem.W.methodCall_KW (pl := pl) (thn (he.run pins s σ H _ I h) fun u s1 ⟨x, H1, I1, rx, a, dx, fs, ex, ea, l, q⟩ => ?_) ht
  subst ex
  obtain rfl : u = Value.ref a := rx
  refine getmeth_ok I1 ea c hm l ?_
  refine PySem.W.callWith_K (first := [.ref a]) (h₀ := X.base) I.ok.mod.kin hm.kp (thn (ha.run pos pins s1 σ H1 _ I1 q) fun us s2 ⟨vs, H2, I2, r, q2⟩ => ⟨I2.kIn, ?_⟩) hst hpl
  exact run_fnS (us := .ref a :: us) (vs := .ref a :: vs) F hr hb (hx σ) I2 (.cons rfl r) q2
theorem pe_methS0 {C : Addr} {m : Str} {k : Nat} {f : Addr} {fd : FuncData} {ps : List Str} {sp : Sp} {ta : TE} {E : L2.St → XK} {pl : Sem Bool} (he : PE X o ta) (c : Cls X.K C) (hm : Meth X.K C m f) (F : FnOk X.prog X.w X.K X.mg X.base (L2.CX X.prog X.w) k f fd ps sp) (hr : Room k X.A) (hb : Binds X.K fd ps []) (hx : ∀ σ, PassesAt (L2.CX X.prog X.w) X σ (E σ))
    (ht : eval (.Call (.Attribute o m apos) [] [] pos) X.env = (do
      let ov ← eval o X.env
      standAt apos.atName
      let (f, first) ← holding [ov] (getMethod ov m pl)
      callWith pos f first (backTo pos (starEach [] X.env)) (backToKw pos (keywordEach [] X.env)))) :
    PE X (.Call (.Attribute o m apos) [] [] pos) (fun σ H Q => ta σ H fun x H1 => ∃ a dx fs, x = .ref a ∧ H1 a = some (.ins C dx fs) ∧ fs.lookup m = none ∧ sp [x] H1 Q (E σ)) := by
  refine ⟨fun pins s σ H Q I h => ?_⟩
  refine PySem.W.methodCall_KW (pl := pl) (thn (he.run pins s σ H _ I h) fun u s1 ⟨x, H1, I1, rx, a, dx, fs, ex, ea, l, q⟩ => ?_) ht
  subst ex
  obtain rfl : u = Value.ref a := rx
  refine getmeth_ok I1 ea c hm l ?_
  exact PySem.W.callWith_K0 (first := [.ref a]) I1.kIn hm.kp (run_fnS (us := [.ref a]) (vs := [.ref a]) F hr hb (hx σ) I1 (.cons rfl .nil) q)
theorem lookup_none_of {fs : List (Str × V)} {m : Str} : m ∉ fs.map (·.1) → fs.lookup m = none := by
  induction fs with
  | nil => intro _; rfl
  | cons q fs ih =>
    intro h
    rw [List.map_cons, List.mem_cons, not_or] at h
    have e : (m == q.1) = false := by simpa using h.1
    rw [show (q :: fs).lookup m = (match m == q.1 with | true => some q.2 | false => fs.lookup m) from by obtain ⟨a, b⟩ := q; rfl, e]
    exact ih h.2
def fMeth (c : Nat) (m : Str) (F : List D → O R) (fo : Ev → O R) (g : Ev → O (List D)) : Ev → O R := fun env => ((fo env).bind R.fz).bind fun d => match d with
  | .ins c' ns vs => if c' = c ∧ m ∉ ns then (g env).bind fun ds => F (.ins c' ns vs :: ds) else .no
  | _ => .no
theorem meth_of {n : Nat} {c : Nat} {m : Str} {F : List D → O R} {g : Ev → O (List D)} (A : Ary n F) {ta : TE} {t : TA}
    (ho : ∀ (G H : Hp) (σ : L2.St) (env : Ev) (Q : VK), Rep X.K cl G H σ env → FPo cl X W G H σ Q ((fo env).bind R.fz) → ta σ H Q)
    (ha : ∀ (G H : Hp) (σ : L2.St) (env : Ev) (Q : List V → Hp → Prop), Rep X.K cl G H σ env → APo cl X W G H σ Q (g env) → t σ H Q)
    (G H : Hp) (σ : L2.St) (env : Ev) (Q : VK) (rep : Rep X.K cl G H σ env) (z : EPo cl X W G H σ Q (fMeth c m F fo g env)) :
    ta σ H fun x H1 => ∃ a dx fs, x = .ref a ∧ H1 a = some (.ins (cl c) dx fs) ∧ fs.lookup m = none ∧ t σ H1 fun vs H2 => spD cl X.K n F (x :: vs) H2 Q (WE W σ) := by
  refine ho G H σ env _ rep ?_
  unfold fMeth at z
  cases h1 : (fo env).bind R.fz with
  | no => rw [h1] at z; exact z.elim
  | ex x => rw [h1] at z; exact z
  | ok d =>
    rw [h1] at z
    intro v G1 H1 e1 i1
    cases d with
    | ins c' ns vs =>
      have z2 : EPo cl X W G H σ Q (if c' = c ∧ m ∉ ns then (g env).bind fun ds => F (.ins c' ns vs :: ds) else .no) := z
      clear z
      split at z2
      · rename_i hc
        obtain ⟨hcc, hm⟩ := hc
        have z := z2
        clear z2
        subst hcc
        obtain ⟨a, dx, fs, rfl, ha1, hns⟩ : ∃ a dx fs, v = .ref a ∧ G1 a = some (.ins (cl c') dx fs) ∧ fs.map (·.1) = ns := by
          cases i1 with | ins h q t => exact ⟨_, _, _, rfl, h, q⟩
        refine ⟨a, dx, fs, rfl, e1.i _ _ ha1, lookup_none_of (by rw [hns]; exact hm), ?_⟩
        refine ha G1 H1 σ env _ (rep.ext e1) ?_
        cases h2 : g env with
        | no => rw [h2] at z; exact z.elim
        | ex x => rw [h2] at z; exact ex_ext e1 z
        | ok ds =>
          rw [h2] at z
          intro vs2 G2 H2 e2 i2
          exact call_of (A.len (EPo.ne z)) (e1.trans e2) (.cons (i1.mono e2.g) i2) z
      · exact z2.elim
    | _ => exact z.elim
theorem de_meth {c : Nat} {m : Str} {k : Nat} {f : Addr} {fd : FuncData} {ps : List Str} {F : List D → O R} {g : Ev → O (List D)} {n : Nat} {pl : Sem Bool} (A : Ary n F) (hc : Cls X.K (cl c)) (hm : Meth X.K (cl c) m f) (Fk : FnOk X.prog X.w X.K X.mg X.base (L2.CX X.prog X.w) k f fd ps (spD cl X.K n F)) (hr : Room k X.A) (tk : Takes X W) (hb : Binds X.K fd ps [])
    (ho : DE cl X W o fo) (ha : DA cl X W (e :: es) g)
    (hst : starEach (e :: es) X.env = (false, eval e X.env) :: starEach es X.env := by rfl) (hpl : (backTo pos (starEach es X.env)).any (·.1) = false := by rfl)
    (ht : eval (.Call (.Attribute o m apos) (e :: es) [] pos) X.env = (do
      let ov ← eval o X.env
      standAt apos.atName
      let (f, first) ← holding [ov] (getMethod ov m pl)
      callWith pos f first (backTo pos (starEach (e :: es) X.env)) (backToKw pos (keywordEach [] X.env))) := by rfl) :
    DE cl X W (.Call (.Attribute o m apos) (e :: es) [] pos) (fMeth c m F fo g) := by
  obtain ⟨t, q, h⟩ := ho.fz
  obtain ⟨t2, q2, h2⟩ := ha
  exact ⟨_, pe_methS (E := WE W) q hc hm Fk hr hb (fun σ => passAt tk σ) q2 hst hpl ht, meth_of A h h2⟩
theorem de_meth0 {c : Nat} {m : Str} {k : Nat} {f : Addr} {fd : FuncData} {ps : List Str} {F : List D → O R} {n : Nat} {pl : Sem Bool} (A : Ary n F) (hc : Cls X.K (cl c)) (hm : Meth X.K (cl c) m f) (Fk : FnOk X.prog X.w X.K X.mg X.base (L2.CX X.prog X.w) k f fd ps (spD cl X.K n F)) (hr : Room k X.A) (tk : Takes X W) (hb : Binds X.K fd ps [])
    (ho : DE cl X W o fo)
    (ht : eval (.Call (.Attribute o m apos) [] [] pos) X.env = (do
      let ov ← eval o X.env
      standAt apos.atName
      let (f, first) ← holding [ov] (getMethod ov m pl)
      callWith pos f first (backTo pos (starEach [] X.env)) (backToKw pos (keywordEach [] X.env))) := by rfl) :
    DE cl X W (.Call (.Attribute o m apos) [] [] pos) (fMeth c m F fo aNil) := by
  obtain ⟨t, q, h⟩ := ho.fz
  refine ⟨_, pe_methS0 (E := WE W) q hc hm Fk hr hb (fun σ => passAt tk σ) ht, fun G H σ env Q rep z => ?_⟩
  exact meth_of (g := aNil) (t := tNil) A h (fun G H σ env Q rep z => z [] G H (.refl rep.same) .nil) G H σ env Q rep z
/-! ### fields -/
def fldD (ns : List Str) (vs : List D) (f : Str) : Option D := (ns.zip vs).lookup f
theorem fld_look {G : Hp} {K : PySem.W.Frag} : ∀ {fs : List (Str × V)} {ns : List Str} {ds : List D} {f : Str} {d : D}, fs.map (·.1) = ns → IsL K cl G (fs.map (·.2)) ds → fldD ns ds f = some d → ∃ v, fs.lookup f = some v ∧ Is K cl G v d
  | [], _, _, f, d, rfl, i, h => by cases i; cases h
  | (g, v) :: fs, _, _, f, d, rfl, i, h => by
    rw [List.map_cons] at i
    cases i with
    | cons h1 t =>
      unfold fldD at h
      rw [List.map_cons, List.zip_cons_cons, List.lookup_cons] at h
      rw [List.lookup_cons]
      cases e : f == g with
      | true => rw [e] at h; cases h; exact ⟨v, rfl, h1⟩
      | false => rw [e] at h; exact fld_look rfl t h
def eFld (c : Nat) (f : Str) (fo : Ev → O R) : Ev → O R := fun env => (fo env).bind fun r => match r.d with
  | .ins c' ns vs => if c' = c then O.of ((fldD ns vs f).map .sh) else .no
  | _ => .no
theorem de_fld {c : Nat} {f : Str} (ho : DE cl X W o fo) (hc : Cls X.K (cl c)) (hn : NoAttr X.K (cl c) f) (hb : attributeBase o f X.env (eval o X.env) = eval o X.env := by rfl) : DE cl X W (.Attribute o f pos) (eFld c f fo) := by
  obtain ⟨t, q, h⟩ := ho.vw
  refine ⟨_, pe_fld q hb, fun G H σ env Q rep z => h G H σ env _ rep ?_⟩
  unfold eFld at z
  cases h1 : fo env with
  | no => rw [h1] at z; exact z.elim
  | ex x => rw [h1] at z; exact z
  | ok r =>
    rw [h1] at z
    intro v G1 H1 e1 i1
    simp only [O.bind] at z
    cases hd : r.d with
    | ins c' ns vs =>
      rw [hd] at z i1
      dsimp only at z
      split at z
      · rename_i hcc
        subst hcc
        obtain ⟨a, dx, fs, rfl, ha, hq, hi⟩ : ∃ a dx fs, v = .ref a ∧ H1 a = some (.ins (cl c') dx fs) ∧ fs.map (·.1) = ns ∧ IsL X.K cl G1 (fs.map (·.2)) vs := by
          cases i1 with
          | of i1 => cases i1 with | ins ha hq hi => exact ⟨_, _, _, rfl, e1.i _ _ ha, hq, hi⟩
          | ins ha hq hi => exact ⟨_, _, _, rfl, ha, hq, hi⟩
        cases hf : fldD ns vs f with
        | none => rw [hf] at z; exact z.elim
        | some d =>
          rw [hf] at z
          obtain ⟨v, l, i⟩ := fld_look hq hi hf
          exact ⟨a, cl c', dx, fs, v, rfl, ha, hc, hn, l, z v G1 H1 e1 (.sh i)⟩
      · exact z.elim
    | _ => rw [hd] at z; exact z.elim

/-! ### built-ins -/
def CallD (cl : Nat → Addr) (X : Cx) (f : Value) (g : List D → Option R) : Prop :=
  ∃ r : List V → Hp → VK → Prop, CallR X f r ∧ ∀ (G H : Hp) (xs : List V) (ds : List D) (Q : VK), Same G H → VwL cl X G H xs ds → GPo cl X G H Q (g ds) → r xs H Q
def fBlt (g : List D → Option R) (fa : Ev → O (List D)) : Ev → O R := fun env => (fa env).bind fun ds => O.of (g ds)
theorem blt_of {r : List V → Hp → VK → Prop} {g : List D → Option R} {ga : Ev → O (List D)} {t : TA} (hr : ∀ (G H : Hp) (xs : List V) (ds : List D) (Q : VK), Same G H → VwL cl X G H xs ds → GPo cl X G H Q (g ds) → r xs H Q)
    (ha : ∀ (G H : Hp) (σ : L2.St) (env : Ev) (Q : List V → Hp → Prop), Rep X.K cl G H σ env → LPo cl X W G H σ Q (ga env) → t σ H Q)
    (G H : Hp) (σ : L2.St) (env : Ev) (Q : VK) (rep : Rep X.K cl G H σ env) (z : EPo cl X W G H σ Q (fBlt g ga env)) : tCB r t σ H Q := by
  refine ha G H σ env _ rep ?_
  unfold fBlt at z
  cases h1 : ga env with
  | no => rw [h1] at z; exact z.elim
  | ex x => rw [h1] at z; exact z
  | ok ds =>
    rw [h1] at z
    intro vs G1 H1 e1 i1
    refine hr G1 H1 vs ds Q e1.i i1 ?_
    have z : EPo cl X W G H σ Q (O.of (g ds)) := z
    cases hg : g ds with
    | none => rw [hg] at z; exact z.elim
    | some r => rw [hg] at z; exact fun v G' H' e i => z v G' H' (e1.trans e) (i.start e1.h)
theorem de_blt {id : String} {x : Str} {g : List D → Option R} {ga : Ev → O (List D)} (hc : CallD cl X (.builtin id) g) (hm : X.mg x = none) (ha : DAv cl X W (e :: es) ga) (hv : bootBuiltins x = some (.builtin id) := by decide +kernel) (hg : Gl X x := by rfl) (hn : x ≠ "__name__" := by decide) (hdb : (x == ("__debug__" : Str)) = false := by decide)
    (he : starEach (e :: es) X.env = (false, eval e X.env) :: starEach es X.env := by rfl) (hpl : (backTo pos (starEach es X.env)).any (·.1) = false := by rfl) : DE cl X W (.Call (.Name x p) (e :: es) [] pos) (fBlt g ga) := by
  obtain ⟨r, c, q⟩ := hc
  obtain ⟨t, pa, h⟩ := ha
  exact ⟨_, pe_callB c hg hm hv pa hn hdb he hpl, blt_of q h⟩
theorem de_bty {T : String} {x : Str} {g : List D → Option R} {ga : Ev → O (List D)} (hc : CallD cl X (.type T) g) (hm : X.mg x = none) (ha : DAv cl X W (e :: es) ga) (hv : bootBuiltins x = some (.type T) := by decide +kernel) (hg : Gl X x := by rfl) (hn : x ≠ "__name__" := by decide) (hdb : (x == ("__debug__" : Str)) = false := by decide)
    (he : starEach (e :: es) X.env = (false, eval e X.env) :: starEach es X.env := by rfl) (hpl : (backTo pos (starEach es X.env)).any (·.1) = false := by rfl) : DE cl X W (.Call (.Name x p) (e :: es) [] pos) (fBlt g ga) := by
  obtain ⟨r, c, q⟩ := hc
  obtain ⟨t, pa, h⟩ := ha
  exact ⟨_, pe_callTy c hg hm hv pa hn hdb he hpl, blt_of q h⟩
theorem VwL.one {G H : Hp} {xs : List V} {d : D} (h : VwL cl X G H xs [d]) : ∃ v, xs = [v] ∧ Vw X.K cl G H v d := by
  cases h with | cons h t => cases t; exact ⟨_, rfl, h⟩
theorem VwL.two {G H : Hp} {xs : List V} {d e : D} (h : VwL cl X G H xs [d, e]) : ∃ v w, xs = [v, w] ∧ Vw X.K cl G H v d ∧ Vw X.K cl G H w e := by
  cases h with | cons h t => cases t with | cons h2 t => cases t; exact ⟨_, _, rfl, h, h2⟩
def bOne (g : D → Option R) : List D → Option R
  | [d] => g d
  | _ => none
theorem cd_one {f : Value} {r : List V → Hp → VK → Prop} {g : D → Option R} (hr : CallR X f r) (h : ∀ (G H : Hp) (v : V) (d : D) (Q : VK), Same G H → Vw X.K cl G H v d → GPo cl X G H Q (g d) → r [v] H Q) : CallD cl X f (bOne g) := by
  refine ⟨r, hr, fun G H xs ds Q s i z => ?_⟩
  match ds, i, z with
  | [], _, z => exact z.elim
  | [d], i0, z => obtain ⟨v, rfl, iv⟩ := i0.one; exact h G H v d Q s iv z
  | _ :: _ :: _, _, z => exact z.elim
/-- len -/
def dLen : D → Option R
  | .lst ds => some (.sh (.int ds.length))
  | .lkd ds => some (.sh (.int ds.length))
  | .tup ds => some (.sh (.int ds.length))
  | .lkt ds => some (.sh (.int ds.length))
  | .str x => if x.length ≤ lim then some (.sh (.int x.length)) else none
  | _ => none
theorem cd_len : CallD cl X (.builtin "len") (bOne dLen) := cd_one (call_len_seq.or call_len_str) fun G H v d Q s i z => by
  cases d with
  | lst es => obtain ⟨p, xs, rfl, hp, ii⟩ := i.list s; exact .inl ⟨p, xs, rfl, .inl (.of hp), by rw [ii.length]; exact GPo.same (d := .int _) s z (.int _)⟩
  | lkd es => obtain ⟨p, xs, rfl, hp, ii⟩ := i.seq s rfl; exact .inl ⟨p, xs, rfl, .inl hp, by rw [ii.length]; exact GPo.same (d := .int _) s z (.int _)⟩
  | tup es => obtain ⟨p, xs, rfl, hp, ii⟩ := i.tuple s; exact .inl ⟨p, xs, rfl, .inr (.of hp), by rw [ii.length]; exact GPo.same (d := .int _) s z (.int _)⟩
  | lkt es => obtain ⟨p, xs, rfl, hp, ii⟩ := i.tseq s rfl; exact .inl ⟨p, xs, rfl, .inr hp, by rw [ii.length]; exact GPo.same (d := .int _) s z (.int _)⟩
  | str x =>
    simp only [dLen] at z
    split at z
    · exact .inr ⟨x, by rw [i.str], by rw [lim_eq]; assumption, GPo.same (d := .int _) s z (.int _)⟩
    · exact z.elim
  | _ => exact z.elim
/-- list(..), tuple(..) -/
def dList : D → Option R
  | .lst ds => some (.fr (.ow ds))
  | .lkd ds => some (.fr (.ow ds))
  | .tup ds => some (.fr (.ow ds))
  | .lkt ds => some (.fr (.ow ds))
  | _ => none
theorem cd_list : CallD cl X (.type "list") (bOne dList) := cd_one call_list_of fun G H v d Q s i z => by
  cases d with
  | lst es => obtain ⟨p, xs, rfl, hp, ii⟩ := i.list s; exact ⟨p, xs, rfl, .inl (.of hp), GPo.newL s z ii⟩
  | lkd es => obtain ⟨p, xs, rfl, hp, ii⟩ := i.seq s rfl; exact ⟨p, xs, rfl, .inl hp, GPo.newL s z ii⟩
  | tup es => obtain ⟨p, xs, rfl, hp, ii⟩ := i.tuple s; exact ⟨p, xs, rfl, .inr (.of hp), GPo.newL s z ii⟩
  | lkt es => obtain ⟨p, xs, rfl, hp, ii⟩ := i.tseq s rfl; exact ⟨p, xs, rfl, .inr hp, GPo.newL s z ii⟩
  | _ => exact z.elim
def dTuple : D → Option R
  | .lst ds => some (.sh (.tup ds))
  | .lkd ds => some (.sh (.tup ds))
  | .tup ds => some (.sh (.tup ds))
  | _ => none
theorem cd_tuple : CallD cl X (.type "tuple") (bOne dTuple) := cd_one call_tuple_of fun G H v d Q s i z => by
  cases d with
  | lst es => obtain ⟨p, xs, rfl, hp, ii⟩ := i.list s; exact ⟨p, xs, rfl, .inl ⟨.of hp, GPo.newT s z ii⟩⟩
  | lkd es => obtain ⟨p, xs, rfl, hp, ii⟩ := i.seq s rfl; exact ⟨p, xs, rfl, .inl ⟨hp, GPo.newT s z ii⟩⟩
  | tup es =>
    obtain ⟨p, xs, e, hp, ii⟩ := i.tuple s
    subst e
    cases i with | of i => exact ⟨p, xs, rfl, .inr ⟨.of hp, GPo.same (d := .tup es) s z i⟩⟩
  | _ => exact z.elim
/-- ints of data -/
def D.ints : List D → Option (List Int)
  | [] => some []
  | .int i :: ds => (D.ints ds).map (i :: ·)
  | _ => none
theorem ints_eq : ∀ {ds : List D} {ns : List Int}, D.ints ds = some ns → ds = ns.map D.int
  | [], _, h => by cases h; rfl
  | .int i :: ds, _, h => by
    simp only [D.ints] at h
    obtain ⟨ns, h1, rfl⟩ := Option.map_eq_some_iff.mp h
    rw [ints_eq h1]; rfl
  | .non :: _, _, h => by cases h
  | .bl _ :: _, _, h => by cases h
  | .str _ :: _, _, h => by cases h
  | .lst _ :: _, _, h => by cases h
  | .tup _ :: _, _, h => by cases h
  | .lkd _ :: _, _, h => by cases h
  | .lkt _ :: _, _, h => by cases h
  | .ins _ _ _ :: _, _, h => by cases h
  | .dK _ _ :: _, _, h => by cases h
  | .dT _ _ :: _, _, h => by cases h
  | .exn _ _ _ :: _, _, h => by cases h
  | .at _ :: _, _, h => by cases h
theorem ints_map : ∀ ns : List Int, D.ints (ns.map D.int) = some ns
  | [] => rfl
  | n :: ns => by rw [List.map_cons]; simp only [D.ints, ints_map ns, Option.map_some]
def D.bls : List D → Option (List Bool)
  | [] => some []
  | .bl i :: ds => (D.bls ds).map (i :: ·)
  | _ => none
theorem bls_isl {G : Hp} {K : PySem.W.Frag} : ∀ {ds : List D} {ns : List Bool} {xs : List V}, D.bls ds = some ns → IsL K cl G xs ds → xs = ns.map V.bl
  | [], _, _, h, i => by cases h; cases i; rfl
  | d :: ds, _, _, h, i => by
    cases i with
    | cons i t =>
      cases d with
      | bl b =>
        simp only [D.bls] at h
        obtain ⟨ns, h1, rfl⟩ := Option.map_eq_some_iff.mp h
        cases i
        rw [bls_isl h1 t]; rfl
      | _ => cases h
theorem bls_map : ∀ ns : List Bool, D.bls (ns.map D.bl) = some ns
  | [] => rfl
  | n :: ns => by rw [List.map_cons]; simp only [D.bls, bls_map ns, Option.map_some]
theorem seq_ints {G H : Hp} {v : V} {d : D} {ds : List D} {ns : List Int} (s : Same G H) (i : Vw X.K cl G H v d) (h : d.seq = some ds) (hn : D.ints ds = some ns) : ∃ p, v = .ref p ∧ SqL X.K H p (ns.map V.int) := by
  obtain ⟨p, xs, rfl, hp, ii⟩ := i.seq s h
  rw [ints_eq hn] at ii
  exact ⟨p, rfl, by rw [← ii.ints]; exact hp⟩
/-- sum, all -/
def dSum (d : D) : Option R := d.seq.bind fun ds => (D.ints ds).map fun ns => .sh (.int ns.sum)
def dAll (d : D) : Option R := d.seq.bind fun ds => (D.bls ds).map fun bs => .sh (.bl (bs.all id))
theorem cd_sum (hc : X.calm = true) : CallD cl X (.builtin "sum") (bOne dSum) := cd_one (cr_sum hc) fun G H v d Q s i z => by
  unfold dSum at z
  cases h : d.seq with
  | none => rw [h] at z; exact z.elim
  | some ds =>
    rw [h] at z
    cases hn : D.ints ds with
    | none => rw [Option.bind_some, hn] at z; exact z.elim
    | some ns =>
      rw [Option.bind_some, hn] at z
      obtain ⟨p, rfl, hp⟩ := seq_ints s i h hn
      exact ⟨p, ns, rfl, hp, GPo.same (d := .int _) s z (.int _)⟩
theorem cd_all (hc : X.calm = true) : CallD cl X (.builtin "all") (bOne dAll) := cd_one (cr_all hc) fun G H v d Q s i z => by
  unfold dAll at z
  cases h : d.seq with
  | none => rw [h] at z; exact z.elim
  | some ds =>
    rw [h] at z
    cases hn : D.bls ds with
    | none => rw [Option.bind_some, hn] at z; exact z.elim
    | some bs =>
      rw [Option.bind_some, hn] at z
      obtain ⟨p, xs, rfl, hp, ii⟩ := i.seq s h
      exact ⟨p, bs, rfl, by rw [← bls_isl hn ii]; exact hp, GPo.same (d := .bl _) s z (.bl _)⟩
/-- int(..) of an int, a truth; str(..) of an int -/
def dInt : D → Option R
  | .int i => some (.sh (.int i))
  | .bl b => some (.sh (.int (if b then 1 else 0)))
  | _ => none
theorem cd_int : CallD cl X (.type "int") (bOne dInt) := cd_one call_int1 fun G H v d Q s i z => by
  cases d with
  | int j => exact .inl ⟨j, by rw [i.int], GPo.same (d := .int _) s z (.int _)⟩
  | bl b => exact .inr ⟨b, by rw [i.bl], GPo.same (d := .int _) s z (.int _)⟩
  | _ => exact z.elim
def dStr : D → Option R
  | .int i => if i.natAbs.log2 < 1920 then some (.sh (.str (toString i))) else none
  | _ => none
theorem cd_str : CallD cl X (.type "str") (bOne dStr) := cd_one call_str_int fun G H v d Q s i z => by
  cases d with
  | int j =>
    simp only [dStr] at z
    split at z
    · exact ⟨j, by rw [i.int], by assumption, GPo.same (d := .str _) s z (.str _)⟩
    · exact z.elim
  | _ => exact z.elim
/-- min, max of two ints; of a list -/
def bMax : List D → Option R
  | [.int i, .int j] => some (.sh (.int (if j > i then j else i)))
  | [d] => d.seq.bind fun ds => (D.ints ds).bind fun ns => ns.max?.map fun m => .sh (.int m)
  | _ => none
def bMin : List D → Option R
  | [.int i, .int j] => some (.sh (.int (if j < i then j else i)))
  | [d] => d.seq.bind fun ds => (D.ints ds).bind fun ns => ns.min?.map fun m => .sh (.int m)
  | _ => none
theorem cd_max (hc : X.calm = true) : CallD cl X (.builtin "max") bMax := by
  refine ⟨_, (call_max2 hc).or (cr_max hc), fun G H xs ds Q s i z => ?_⟩
  match ds, i, z with
  | [], _, z => exact z.elim
  | [d], i0, z =>
    obtain ⟨v, rfl, iv⟩ := i0.one
    have z : GPo cl X G H Q (d.seq.bind fun ds => (D.ints ds).bind fun ns => ns.max?.map fun m => .sh (.int m)) := by cases d <;> exact z
    cases h : d.seq with
    | none => rw [h] at z; exact z.elim
    | some ds =>
      rw [h] at z
      cases hn : D.ints ds with
      | none => rw [Option.bind_some, hn] at z; exact z.elim
      | some ns =>
        rw [Option.bind_some, hn, Option.bind_some] at z
        cases hm : ns.max? with
        | none => rw [hm] at z; exact z.elim
        | some m =>
          rw [hm] at z
          obtain ⟨p, rfl, hp⟩ := seq_ints s iv h hn
          obtain ⟨m1, m2⟩ := List.max?_eq_some_iff.mp hm
          refine .inr ⟨p, ns, rfl, hp, List.length_pos_of_mem m1, fun k k1 k2 => ?_⟩
          have : k = m := Int.le_antisymm (m2 k k1) (k2 m m1)
          rw [this]
          exact GPo.same (d := .int _) s z (.int _)
  | [a, b], i0, z =>
    obtain ⟨v, w, rfl, i1, i2⟩ := i0.two
    cases a with
    | int x => cases b with
      | int y => exact .inl ⟨x, y, by rw [i1.int, i2.int], GPo.same (d := .int _) s z (.int _)⟩
      | _ => exact z.elim
    | _ => exact z.elim
  | a :: b :: _ :: _, _, z => cases a <;> first | exact z.elim | (cases b <;> exact z.elim)
theorem cd_min (hc : X.calm = true) : CallD cl X (.builtin "min") bMin := by
  refine ⟨_, (call_min2 hc).or (cr_min hc), fun G H xs ds Q s i z => ?_⟩
  match ds, i, z with
  | [], _, z => exact z.elim
  | [d], i0, z =>
    obtain ⟨v, rfl, iv⟩ := i0.one
    have z : GPo cl X G H Q (d.seq.bind fun ds => (D.ints ds).bind fun ns => ns.min?.map fun m => .sh (.int m)) := by cases d <;> exact z
    cases h : d.seq with
    | none => rw [h] at z; exact z.elim
    | some ds =>
      rw [h] at z
      cases hn : D.ints ds with
      | none => rw [Option.bind_some, hn] at z; exact z.elim
      | some ns =>
        rw [Option.bind_some, hn, Option.bind_some] at z
        cases hm : ns.min? with
        | none => rw [hm] at z; exact z.elim
        | some m =>
          rw [hm] at z
          obtain ⟨p, rfl, hp⟩ := seq_ints s iv h hn
          obtain ⟨m1, m2⟩ := List.min?_eq_some_iff.mp hm
          refine .inr ⟨p, ns, rfl, hp, List.length_pos_of_mem m1, fun k k1 k2 => ?_⟩
          have : k = m := Int.le_antisymm (k2 m m1) (m2 k k1)
          rw [this]
          exact GPo.same (d := .int _) s z (.int _)
  | [a, b], i0, z =>
    obtain ⟨v, w, rfl, i1, i2⟩ := i0.two
    cases a with
    | int x => cases b with
      | int y => exact .inl ⟨x, y, by rw [i1.int, i2.int], GPo.same (d := .int _) s z (.int _)⟩
      | _ => exact z.elim
    | _ => exact z.elim
  | a :: b :: _ :: _, _, z => cases a <;> first | exact z.elim | (cases b <;> exact z.elim)
/-- sorted of ints: the one rising list -/
def insI (x : Int) : List Int → List Int
  | [] => [x]
  | y :: ys => if x ≤ y then x :: y :: ys else y :: insI x ys
def sortI : List Int → List Int
  | [] => []
  | x :: xs => insI x (sortI xs)
theorem insI_perm (x : Int) : ∀ ys, (insI x ys).Perm (x :: ys)
  | [] => .refl _
  | y :: ys => by
    unfold insI
    split
    · exact .refl _
    · exact ((insI_perm x ys).cons y).trans (.swap x y ys)
theorem sortI_perm : ∀ xs, (sortI xs).Perm xs
  | [] => .refl _
  | x :: xs => (insI_perm x _).trans ((sortI_perm xs).cons x)
theorem insI_srt (x : Int) : ∀ {ys : List Int}, ys.Pairwise (· ≤ ·) → (insI x ys).Pairwise (· ≤ ·)
  | [], _ => by simp [insI]
  | y :: ys, h => by
    unfold insI
    split
    · rename_i hxy
      rw [List.pairwise_cons] at h ⊢
      refine ⟨fun z hz => ?_, List.pairwise_cons.mpr h⟩
      rcases List.mem_cons.mp hz with rfl | hz
      · exact hxy
      · exact Int.le_trans hxy (h.1 z hz)
    · rename_i hxy
      rw [List.pairwise_cons] at h ⊢
      refine ⟨fun z hz => ?_, insI_srt x h.2⟩
      rcases List.mem_cons.mp ((insI_perm x ys).mem_iff.mp hz) with rfl | hz
      · omega
      · exact h.1 z hz
theorem sortI_srt : ∀ xs, (sortI xs).Pairwise (· ≤ ·)
  | [] => .nil
  | x :: xs => insI_srt x (sortI_srt xs)
theorem sort_one : ∀ {xs ys : List Int}, xs.Perm ys → xs.Pairwise (· ≤ ·) → ys.Pairwise (· ≤ ·) → xs = ys
  | [], ys, p, _, _ => by rw [List.nil_perm.mp p]
  | x :: xs, [], p, _, _ => absurd (List.perm_nil.mp p) (by simp)
  | x :: xs, y :: ys, p, h1, h2 => by
    rw [List.pairwise_cons] at h1 h2
    have e : x = y := by
      have a : x ∈ y :: ys := p.mem_iff.mp List.mem_cons_self
      have b : y ∈ x :: xs := p.mem_iff.mpr List.mem_cons_self
      rcases List.mem_cons.mp a with e | a
      · exact e
      · rcases List.mem_cons.mp b with e | b
        · exact e.symm
        · exact Int.le_antisymm (h1.1 y b) (h2.1 x a)
    subst e
    rw [sort_one (List.perm_cons _ |>.mp p) h1.2 h2.2]
def dSortI (d : D) : Option R := d.seq.bind fun ds => (D.ints ds).map fun ns => .fr (.ow ((sortI ns).map D.int))
theorem cd_sortI : CallD cl X (.builtin "sorted") (bOne dSortI) := cd_one cr_sortedI fun G H v d Q s i z => by
  unfold dSortI at z
  cases h : d.seq with
  | none => rw [h] at z; exact z.elim
  | some ds =>
    rw [h] at z
    cases hn : D.ints ds with
    | none => rw [Option.bind_some, hn] at z; exact z.elim
    | some ns =>
      rw [Option.bind_some, hn] at z
      obtain ⟨p, rfl, hp⟩ := seq_ints s i h hn
      refine ⟨p, ns, rfl, hp, fun ns' q pm so hq => ?_⟩
      rw [sort_one (pm.trans (sortI_perm ns).symm) so (sortI_srt ns)]
      exact GPo.newL s z isl_ints q hq
end
end DL

/-! DLe: targets, what is walked, comprehensions. -/
namespace DL
open PySem PySem.Spec L2

theorem wipe_get (σ : L2.St) (j : Nat) : ∀ vs : List Nat, (L2.wipe σ vs)[j]? = if j ∈ vs then (σ[j]?).map (fun _ => none) else σ[j]?
  | [] => by simp [L2.wipe]
  | v :: vs => by
    unfold L2.wipe
    by_cases h : j = v
    · subst h
      rw [if_pos List.mem_cons_self]
      by_cases hl : j < σ.length
      · rw [List.getElem?_set_self (by rw [wipe_length]; exact hl), List.getElem?_eq_getElem hl]; rfl
      · rw [List.getElem?_eq_none (by rw [List.length_set, wipe_length]; omega), List.getElem?_eq_none (by omega)]; rfl
    · rw [List.getElem?_set_ne (Ne.symm h), wipe_get σ j vs]
      by_cases hm : j ∈ vs
      · rw [if_pos hm, if_pos (List.mem_cons_of_mem _ hm)]
      · rw [if_neg hm, if_neg (by simp [h, hm])]
theorem wipe_set (σ : L2.St) {i : Nat} (x : Option V) {vs : List Nat} (h : i ∈ vs) : L2.wipe (σ.set i x) vs = L2.wipe σ vs := by
  apply List.ext_getElem?
  intro j
  rw [wipe_get, wipe_get]
  by_cases hj : j ∈ vs
  · rw [if_pos hj, if_pos hj]
    by_cases e : j = i
    · subst e
      by_cases hl : j < σ.length
      · rw [List.getElem?_set_self hl, List.getElem?_eq_getElem hl]; rfl
      · rw [List.getElem?_eq_none (by simpa using hl), List.getElem?_eq_none (by simpa using hl)]
    · rw [List.getElem?_set_ne (Ne.symm e)]
  · rw [if_neg hj, if_neg hj, List.getElem?_set_ne]
    rintro rfl
    exact hj h
theorem wipe_wipe (σ : L2.St) (vs : List Nat) : L2.wipe (L2.wipe σ vs) vs = L2.wipe σ vs := by
  apply List.ext_getElem?
  intro j
  rw [wipe_get, wipe_get]
  by_cases hj : j ∈ vs
  · rw [if_pos hj, if_pos hj]
    cases σ[j]? <;> rfl
  · rw [if_neg hj, if_neg hj]

section
variable {cl : Nat → Addr} {X : Cx} {W : WX} {e a b c : Expr} {es : List Expr} {fe fa fb fc : Ev → O R} {pos p p2 : Pos}

/-! ### targets -/
/-- what a target's assignment keeps: slots that own, the wiped state -/
structure Kept (ts : List Nat) (env : Ev) (σ : L2.St) (env' : Ev) (σ' : L2.St) : Prop where
  own : ∀ (i : Nat) (l : L), env'[i]? = some (some l) → l.own = true → env[i]? = some (some l) ∧ σ'[i]? = σ[i]?
  wipe : ∀ vs, (∀ i ∈ ts, i ∈ vs) → L2.wipe σ' vs = L2.wipe σ vs
theorem Kept.refl {ts : List Nat} {env : Ev} {σ : L2.St} : Kept ts env σ env σ := ⟨fun _ _ h _ => ⟨h, rfl⟩, fun _ _ => rfl⟩
theorem Kept.trans {ts ts' : List Nat} {env env1 env2 : Ev} {σ σ1 σ2 : L2.St} (h : Kept ts env σ env1 σ1) (h' : Kept ts' env1 σ1 env2 σ2) : Kept (ts ++ ts') env σ env2 σ2 :=
  ⟨fun i l q o => let ⟨a, b⟩ := h'.own i l q o; let ⟨c, d⟩ := h.own i l a o; ⟨c, b.trans d⟩,
   fun vs hv => (h'.wipe vs fun i hi => hv i (List.mem_append_right _ hi)).trans (h.wipe vs fun i hi => hv i (List.mem_append_left _ hi))⟩
theorem RepE.kept {K : PySem.W.Frag} {G0 H0 G H : Hp} {ts : List Nat} {env env' : Ev} {σ σ' : L2.St} (r : RepE K cl G0 H0 G H σ env) (k : Kept ts env σ env' σ') (r' : Rep K cl G H σ' env') : RepE K cl G0 H0 G H σ' env' :=
  ⟨r', r.ext, fun i l p h o s => let ⟨a, b⟩ := k.own i l h o; r.new i l p a o (by rw [← b]; exact s)⟩
def DG (cl : Nat → Addr) (X : Cx) (tg : Expr) (ts : List Nat) (g : D → Ev → Option Ev) : Prop :=
  ∃ t : TG, PG X tg t ∧ ∀ (G H : Hp) (σ : L2.St) (env env' : Ev) (v : V) (d : D) (Q : L2.St → Hp → Prop), Rep X.K cl G H σ env → Is X.K cl G v d → g d env = some env' →
    (∀ σ', Rep X.K cl G H σ' env' → Kept ts env σ env' σ' → Q σ' H) → t v σ H Q
def gN (i : Nat) : D → Ev → Option Ev := fun d env => some (env.set i (some (.sh d)))
theorem kept_set {i : Nat} {env : Ev} {σ : L2.St} {d : D} {v : V} : Kept [i] env σ (env.set i (some (.sh d))) (σ.set i (some v)) := by
  refine ⟨fun j l h o => ?_, fun vs hv => wipe_set σ _ (hv i (by simp))⟩
  rcases getElem?_set_some h with ⟨rfl, e⟩ | ⟨hn, q⟩
  · cases e; cases o
  · exact ⟨q, List.getElem?_set_ne (Ne.symm hn)⟩
theorem dg_name {i : Nat} {x : Str} (hN : X.N.Nodup) (hi : X.N[i]? = some x) (hx : Loc X.env.scope x) (hf : X.fn x = true ∨ X.env.scope.names.lookup x = some .local) : DG cl X (.Name x pos) [i] (gN i) :=
  ⟨_, pg_name hN hi hx hf, fun G H σ env env' v d Q rep iv e k => by
    cases e
    exact k _ (rep.setSh iv i) kept_set⟩
theorem dgn (i : Nat) {x : Str} (hN : X.N.Nodup) (hi : X.N[i]? = some x := by rfl) (hx : Loc X.env.scope x := by first | exact Or.inl rfl | exact Or.inr rfl) (hf : X.fn x = true ∨ X.env.scope.names.lookup x = some .local := by first | exact .inl rfl | exact .inr rfl) : DG cl X (.Name x pos) [i] (gN i) := dg_name hN hi hx hf
def DGs (cl : Nat → Addr) (X : Cx) (tgs : List Expr) (ts : List Nat) (g : List D → Ev → Option Ev) : Prop :=
  ∃ t : TGs, PGs X tgs t ∧ ∀ (G H : Hp) (σ : L2.St) (env env' : Ev) (vs : List V) (ds : List D) (Q : L2.St → Hp → Prop), Rep X.K cl G H σ env → IsL X.K cl G vs ds → g ds env = some env' →
    (∀ σ', Rep X.K cl G H σ' env' → Kept ts env σ env' σ' → Q σ' H) → t vs σ H Q
def gNil : List D → Ev → Option Ev
  | [], env => some env
  | _, _ => none
def gCons (g : D → Ev → Option Ev) (gs : List D → Ev → Option Ev) : List D → Ev → Option Ev
  | d :: ds, env => (g d env).bind (gs ds)
  | _, _ => none
theorem dgs_nil : DGs cl X [] [] gNil := ⟨_, pgs_nil, fun G H σ env env' vs ds Q rep iv e k => by
  cases iv with
  | nil => cases e; exact ⟨rfl, k _ rep .refl⟩
  | cons => cases e⟩
theorem dgs_cons {ts ts' : List Nat} {g : D → Ev → Option Ev} {gs : List D → Ev → Option Ev} (h1 : DG cl X e ts g) (h2 : DGs cl X es ts' gs)
    (hs : (assignEach (e :: es) X.env).map (·.2) = assign e X.env :: (assignEach es X.env).map (·.2) := by rfl) : DGs cl X (e :: es) (ts ++ ts') (gCons g gs) := by
  obtain ⟨t, q, h⟩ := h1
  obtain ⟨t2, q2, h2⟩ := h2
  refine ⟨_, pgs_cons q q2 hs, fun G H σ env env' vs ds Q rep iv e k => ?_⟩
  cases iv with
  | nil => cases e
  | @cons v vs d ds iv it =>
    simp only [gCons] at e
    cases h3 : g d env with
    | none => rw [h3] at e; cases e
    | some env1 =>
      rw [h3] at e
      exact ⟨v, vs, rfl, h G H σ env env1 v d _ rep iv h3 fun σ1 rep1 k1 => h2 G H σ1 env1 env' vs ds Q rep1 it e fun σ2 rep2 k2 => k σ2 rep2 (k1.trans k2)⟩
def gT (n : Nat) (gs : List D → Ev → Option Ev) : D → Ev → Option Ev := fun d env => match d.tseq with
  | some ds => if ds.length = n then gs ds env else none
  | none => none
theorem dg_tup {k n : Nat} {ts : List Nat} {gs : List D → Ev → Option Ev} (hc : X.calm = true) (h : DGs cl X es ts gs) (hn : (assignEach es X.env).length = n := by rfl) (hst : (assignEach es X.env).findIdx? (·.1) = none := by rfl) : DG cl X (.Tuple es k pos) ts (gT n gs) := by
  obtain ⟨t, q, h⟩ := h
  refine ⟨_, pg_tup hc q hn hst, fun G H σ env env' v d Q rep iv e k => ?_⟩
  unfold gT at e
  cases hd : d.tseq with
  | none => rw [hd] at e; cases e
  | some ds =>
    rw [hd] at e
    dsimp only at e
    split at e
    · rename_i hl
      obtain ⟨p, xs, rfl, hp, ii⟩ := (Vw.of iv).tseq rep.same hd
      exact ⟨p, xs, rfl, hp, by rw [ii.length]; exact hl, h G H σ env env' xs ds Q rep ii e k⟩
    · cases e
/-- from a list -/
def gTL (n : Nat) (gs : List D → Ev → Option Ev) : D → Ev → Option Ev := fun d env => match d.seq with
  | some ds => if ds.length = n then gs ds env else none
  | none => none
theorem dg_lst {k n : Nat} {ts : List Nat} {gs : List D → Ev → Option Ev} (hc : X.calm = true) (h : DGs cl X es ts gs) (hn : (assignEach es X.env).length = n := by rfl) (hst : (assignEach es X.env).findIdx? (·.1) = none := by rfl) : DG cl X (.Tuple es k pos) ts (gTL n gs) := by
  obtain ⟨t, q, h⟩ := h
  refine ⟨_, pg_lst hc q hn hst, fun G H σ env env' v d Q rep iv e k => ?_⟩
  unfold gTL at e
  cases hd : d.seq with
  | none => rw [hd] at e; cases e
  | some ds =>
    rw [hd] at e
    dsimp only at e
    split at e
    · rename_i hl
      obtain ⟨p, xs, rfl, hp, ii⟩ := (Vw.of iv).seq rep.same hd
      exact ⟨p, xs, rfl, hp, by rw [ii.length]; exact hl, h G H σ env env' xs ds Q rep ii e k⟩
    · cases e

/-- from a tuple or a list -/
def D.items2 (d : D) : Option (List D) := match d with
  | .tup ds => some ds
  | .lkt ds => some ds
  | .lst ds => some ds
  | .lkd ds => some ds
  | _ => none
def gS (n : Nat) (gs : List D → Ev → Option Ev) : D → Ev → Option Ev := fun d env => match d.items2 with
  | some ds => if ds.length = n then gs ds env else none
  | none => none
theorem dg_seq {k n : Nat} {ts : List Nat} {gs : List D → Ev → Option Ev} (hc : X.calm = true) (h : DGs cl X es ts gs) (hn : (assignEach es X.env).length = n := by rfl) (hst : (assignEach es X.env).findIdx? (·.1) = none := by rfl) : DG cl X (.Tuple es k pos) ts (gS n gs) := by
  obtain ⟨t, q, h⟩ := h
  refine ⟨fun v σ H Q => gTup X.K n t v σ H Q ∨ gLst X.K n t v σ H Q, ⟨fun pins s σ H v u Q I r hw => ?_⟩, fun G H σ env env' v d Q rep iv e k => ?_⟩
  · rcases hw with hw | hw
    · exact (pg_tup hc q hn hst).run pins s σ H v u Q I r hw
    · exact (pg_lst hc q hn hst).run pins s σ H v u Q I r hw
  · unfold gS at e
    cases hd : d.items2 with
    | none => rw [hd] at e; cases e
    | some ds =>
      rw [hd] at e
      dsimp only at e
      split at e
      · rename_i hl
        have tt : d.tseq = some ds → gTup X.K n t v σ H Q := fun hd => by
          obtain ⟨p, xs, rfl, hp, ii⟩ := (Vw.of iv).tseq rep.same hd
          exact ⟨p, xs, rfl, hp, by rw [ii.length]; exact hl, h G H σ env env' xs ds Q rep ii e k⟩
        have ll : d.seq = some ds → gLst X.K n t v σ H Q := fun hd => by
          obtain ⟨p, xs, rfl, hp, ii⟩ := (Vw.of iv).seq rep.same hd
          exact ⟨p, xs, rfl, hp, by rw [ii.length]; exact hl, h G H σ env env' xs ds Q rep ii e k⟩
        cases d with
        | tup => exact .inl (tt hd)
        | lkt => exact .inl (tt hd)
        | lst => exact .inr (ll hd)
        | lkd => exact .inr (ll hd)
        | _ => cases hd
      · cases e

/-! ### what is walked -/
def ItD (cl : Nat → Addr) (K : PySem.W.Frag) (J : It) (G1 : Hp) (ds : List D) : Prop := ∀ (i : Nat) (G H : Hp), Same G1 G → Same G H →
  (∀ d, ds[i]? = some d → J.go i H ∧ ∀ x H', J.yld i H x H' → ∃ G', Ext G H G' H' ∧ Is K cl G' x d) ∧ (ds.length ≤ i → J.stop i H)
def IPo (cl : Nat → Addr) (X : Cx) (W : WX) (G H : Hp) (σ : L2.St) (RR : It → Hp → Prop) : O (List D) → Prop
  | .ok ds => ∀ J G' H', Ext G H G' H' → ItD cl X.K J G' ds → RR J H'
  | .ex x => ∀ c d G' H', Ext G H G' H' → XIs X.K cl G' H' x c d → W c d σ H'
  | .no => False
def DI (cl : Nat → Addr) (X : Cx) (W : WX) (tg iter : Expr) (f : Ev → O (List D)) : Prop :=
  ∃ wi : TI, PI X tg iter wi ∧ ∀ (G H : Hp) (σ : L2.St) (env : Ev) (RR : It → Hp → Prop), Rep X.K cl G H σ env → IPo cl X W G H σ RR (f env) → wi σ H RR
theorem itd_list {K : PySem.W.Frag} {G : Hp} {p : Addr} {xs : List V} {ds : List D} (h : SqL K G p xs) (i : IsL K cl G xs ds) : ItD cl K (Itl K p) G ds := by
  intro n G2 H2 s1 s2
  have hq : SqL K H2 p xs := s2.seq (s1.seq h)
  refine ⟨fun d hd => ?_, fun hl => ⟨xs, hq, by rw [i.length]; exact hl⟩⟩
  obtain ⟨v, hv, iv⟩ := i.get hd
  refine ⟨⟨xs, v, hq, hv⟩, fun x H' y => ?_⟩
  obtain ⟨rfl, y⟩ := y
  have e := y xs hq
  rw [hv] at e
  cases e
  exact ⟨G2, .refl s2, iv.mono s1⟩
theorem itd_tup {K : PySem.W.Frag} {G : Hp} {p : Addr} {xs : List V} {ds : List D} (h : SqT K G p xs) (i : IsL K cl G xs ds) : ItD cl K (Itt K p) G ds := by
  intro n G2 H2 s1 s2
  have hq : SqT K H2 p xs := same_sqt s2 (same_sqt s1 h)
  refine ⟨fun d hd => ?_, fun hl => ⟨xs, hq, by rw [i.length]; exact hl⟩⟩
  obtain ⟨v, hv, iv⟩ := i.get hd
  refine ⟨⟨xs, v, hq, hv⟩, fun x H' y => ?_⟩
  obtain ⟨rfl, y⟩ := y
  have e := y xs hq
  rw [hv] at e
  cases e
  exact ⟨G2, .refl s2, iv.mono s1⟩
/-- a list, a tuple, a text -/
def signs (x : Str) : List D := x.cps.toList.map fun c => .str ⟨#[c]⟩
theorem itd_str {K : PySem.W.Frag} {G : Hp} {x : Str} : ItD cl K (Its x) G (signs x) := by
  intro n G2 H2 s1 s2
  refine ⟨fun d hd => ?_, fun hl => ?_⟩
  · unfold signs at hd
    rw [List.getElem?_map] at hd
    obtain ⟨c, hc, rfl⟩ := Option.map_eq_some_iff.mp hd
    have hc' : x.cps[n]? = some c := by rw [← Array.getElem?_toList]; exact hc
    refine ⟨?_, fun y H' q => ?_⟩
    · show n < x.cps.size
      obtain ⟨h, _⟩ := Array.getElem?_eq_some_iff.mp hc'
      exact h
    · obtain ⟨rfl, c2, e, rfl⟩ := q
      rw [hc'] at e
      cases e
      exact ⟨G2, .refl s2, .str _⟩
  · show x.cps.size ≤ n
    unfold signs at hl
    simpa using hl
def items : D → O (List D)
  | .lst ds => .ok ds
  | .lkd ds => .ok ds
  | .tup ds => .ok ds
  | .lkt ds => .ok ds
  | .str x => .ok (signs x)
  | _ => .no
def iSeq (K : PySem.W.Frag) (te : TE) : TI := fun σ H R => te σ H fun x H1 => (∃ a, x = .ref a ∧ (∃ xs, SqL K H1 a xs) ∧ R (Itl K a) H1) ∨ (∃ a, x = .ref a ∧ (∃ xs, SqT K H1 a xs) ∧ R (Itt K a) H1) ∨ (∃ x', x = .str x' ∧ R (Its x') H1)
theorem pi_seq {tg l : Expr} {tl : TE} (hl : PE X l tl) : PI X tg l (iSeq X.K tl) := by
  refine ⟨fun pins s σ H R I h => ?_⟩
  refine thn (hl.run pins s σ H _ I h) fun v s1 ⟨x, H1, I1, r1, q1⟩ => ?_
  rcases q1 with ⟨a, e, ⟨xs, hq⟩, q⟩ | ⟨a, e, ⟨xs, hq⟩, q⟩ | ⟨y, e, q⟩
  · subst e
    cases r1
    obtain ⟨its, rv, p, hz⟩ := I1.list hq
    refine PySem.wpAny_pyIter_list p.isList ?_
    refine ⟨s1.heap.objs.size, [s1.heap.objs.size], _, _, H1, rfl, I1.kept (t' := s1.toks) fun b o e => Heap.get?_push_of_some _ e, turn_list a _, ⟨_, Heap.get?_push_size _ rfl, rfl, rfl⟩, fun b hb => ?_, q⟩
    have e : b = s1.heap.objs.size := by simpa using hb
    subst e
    exact I1.fpOk (Nat.le_refl _) (I1.hok.fresh (Nat.le_refl _))
  · subst e
    cases r1
    obtain ⟨its, rv, p, hz⟩ := I1.tuple hq
    refine PySem.wpAny_pyIter_tuple (show s1.heap.IsTuple a its.toArray from p) ?_
    refine ⟨s1.heap.objs.size, [s1.heap.objs.size], _, _, H1, rfl, I1.kept (t' := s1.toks) fun b o e => Heap.get?_push_of_some _ e, turn_tuple a _, ⟨_, Heap.get?_push_size _ rfl, rfl, rfl⟩, fun b hb => ?_, q⟩
    have e : b = s1.heap.objs.size := by simpa using hb
    subst e
    exact I1.fpOk (Nat.le_refl _) (I1.hok.fresh (Nat.le_refl _))
  · subst e
    obtain ⟨t, rfl⟩ := r1
    cases ha : y.cps.all (· < 128)
    · exact wpAny_pyIter_wide ha (pi_one (tk := s1.toks) I1 _ (turn_str _ y t "str_iterator" (.inr rfl)) ⟨_, Heap.get?_push_size _ rfl, rfl, rfl⟩ q)
    · exact wpAny_pyIter_ascii ha (pi_one (tk := s1.toks) I1 _ (turn_str _ y t "str_ascii_iterator" (.inl rfl)) ⟨_, Heap.get?_push_size _ rfl, rfl, rfl⟩ q)
def iSeqF (fe : Ev → O R) : Ev → O (List D) := fun env => ((fe env).bind R.fz).bind items
theorem di_seq {tg : Expr} (h : DE cl X W e fe) : DI cl X W tg e (iSeqF fe) := by
  obtain ⟨t, q, h⟩ := h.fz
  refine ⟨_, pi_seq q, fun G H σ env RR rep z => h G H σ env _ rep ?_⟩
  unfold iSeqF at z
  cases h1 : (fe env).bind R.fz with
  | no => rw [h1] at z; exact z.elim
  | ex x => rw [h1] at z; exact z
  | ok d =>
    rw [h1] at z
    intro v G1 H1 e1 i1
    have z : IPo cl X W G H σ RR (items d) := z
    cases d with
    | lst ds => cases i1 with | lst hp ii => exact .inl ⟨_, rfl, ⟨_, .of (e1.i _ _ hp)⟩, z _ G1 H1 e1 (itd_list (.of hp) ii)⟩
    | lkd ds => cases i1 with | lkd hp ii => exact .inl ⟨_, rfl, ⟨_, e1.i.seq hp⟩, z _ G1 H1 e1 (itd_list hp ii)⟩
    | tup ds => cases i1 with | tup hp ii => exact .inr (.inl ⟨_, rfl, ⟨_, .of (e1.i _ _ hp)⟩, z _ G1 H1 e1 (itd_tup (.of hp) ii)⟩)
    | lkt ds => cases i1 with | lkt hp ii => exact .inr (.inl ⟨_, rfl, ⟨_, same_sqt e1.i hp⟩, z _ G1 H1 e1 (itd_tup hp ii)⟩)
    | str x => cases i1; exact .inr (.inr ⟨x, rfl, z _ G1 H1 e1 itd_str⟩)
    | _ => exact z.elim
/-- ranges -/
def rangeD (lo : Int) (n : Nat) : List D := (List.range n).map fun i : Nat => .int (lo + (i : Int))
theorem rangeD_get {lo : Int} {n i : Nat} {d : D} : (rangeD lo n)[i]? = some d ↔ i < n ∧ d = .int (lo + (i : Int)) := by
  unfold rangeD
  rw [List.getElem?_map]
  constructor
  · intro h
    obtain ⟨j, hj, rfl⟩ := Option.map_eq_some_iff.mp h
    obtain ⟨h1, h2⟩ := List.getElem?_eq_some_iff.mp hj
    rw [List.length_range] at h1
    rw [List.getElem_range] at h2
    exact ⟨h1, by rw [h2]⟩
  · rintro ⟨h, rfl⟩
    rw [List.getElem?_range h]; rfl
theorem rangeD_length {lo : Int} {n : Nat} : (rangeD lo n).length = n := by unfold rangeD; rw [List.length_map, List.length_range]
theorem itd_range {K : PySem.W.Frag} {G : Hp} {lo : Int} {n : Nat} : ItD cl K (Itr lo n) G (rangeD lo n) := by
  intro i G2 H2 s1 s2
  refine ⟨fun d hd => ?_, fun hl => by rw [rangeD_length] at hl; exact hl⟩
  obtain ⟨h, rfl⟩ := rangeD_get.mp hd
  refine ⟨h, fun x H' y => ?_⟩
  obtain ⟨rfl, rfl⟩ := y
  exact ⟨G2, .refl s2, .int _⟩
def small (i : Int) : Prop := -(2 ^ 62) ≤ i ∧ i < 2 ^ 62
instance (i : Int) : Decidable (small i) := by unfold small; infer_instance
def fIt (g : Ev → O (List D)) (b : List D → O (List D)) : Ev → O (List D) := fun env => (g env).bind b
def rng1 : List D → O (List D)
  | [.int j] => if small j then .ok (rangeD 0 j.toNat) else .no
  | _ => .no
def rng2 : List D → O (List D)
  | [.int i, .int j] => if small i ∧ small j then .ok (rangeD i (j - i).toNat) else .no
  | _ => .no
theorem di_range1 {tg : Expr} {g : Ev → O (List D)} (hm : X.mg "range" = none) (ha : DAv cl X W [a] g) (hg : Gl X "range" := by rfl) (hs : starEach [a] X.env = [(false, eval a X.env)] := by rfl) : DI cl X W tg (.Call (.Name "range" p) [a] [] pos) (fIt g rng1) := by
  obtain ⟨t, q, h⟩ := ha
  refine ⟨_, pi_range1 hg hm q hs, fun G H σ env RR rep z => h G H σ env _ rep ?_⟩
  unfold fIt at z
  cases h1 : g env with
  | no => rw [h1] at z; exact z.elim
  | ex x => rw [h1] at z; exact z
  | ok ds =>
    rw [h1] at z
    intro vs G1 H1 e1 i1
    have z : IPo cl X W G H σ RR (rng1 ds) := z
    match ds, i1, z with
    | [.int j], i0, z =>
      obtain ⟨v, rfl, iv⟩ := i0.one
      simp only [rng1] at z
      split at z
      · rename_i hj
        exact ⟨j, by rw [iv.int], hj.1, hj.2, z _ G1 H1 e1 itd_range⟩
      · exact z.elim
    | [], _, z => exact z.elim
    | .non :: _, _, z => exact z.elim
    | .bl _ :: _, _, z => exact z.elim
    | .str _ :: _, _, z => exact z.elim
    | .lst _ :: _, _, z => exact z.elim
    | .tup _ :: _, _, z => exact z.elim
    | .lkd _ :: _, _, z => exact z.elim
    | .lkt _ :: _, _, z => exact z.elim
    | .ins _ _ _ :: _, _, z => exact z.elim
    | .dK _ _ :: _, _, z => exact z.elim
    | .dT _ _ :: _, _, z => exact z.elim
    | .exn _ _ _ :: _, _, z => exact z.elim
    | .at _ :: _, _, z => exact z.elim
    | .int _ :: _ :: _, _, z => exact z.elim
theorem di_range2 {tg : Expr} {g : Ev → O (List D)} (hm : X.mg "range" = none) (ha : DAv cl X W [a, b] g) (hg : Gl X "range" := by rfl) (hs : starEach [a, b] X.env = [(false, eval a X.env), (false, eval b X.env)] := by rfl) (hs2 : starEach [b] X.env = [(false, eval b X.env)] := by rfl) : DI cl X W tg (.Call (.Name "range" p) [a, b] [] pos) (fIt g rng2) := by
  obtain ⟨t, q, h⟩ := ha
  refine ⟨_, pi_range2 hg hm q hs hs2, fun G H σ env RR rep z => h G H σ env _ rep ?_⟩
  unfold fIt at z
  cases h1 : g env with
  | no => rw [h1] at z; exact z.elim
  | ex x => rw [h1] at z; exact z
  | ok ds =>
    rw [h1] at z
    intro vs G1 H1 e1 i1
    have z : IPo cl X W G H σ RR (rng2 ds) := z
    unfold rng2 at z
    split at z
    · rename_i i j _
      obtain ⟨v, w, rfl, iv, iw⟩ := i1.two
      split at z
      · rename_i hj
        exact ⟨i, j, by rw [iv.int, iw.int], ⟨hj.1.1, hj.1.2, hj.2.1, hj.2.2⟩, z _ G1 H1 e1 itd_range⟩
      · exact z.elim
    · exact z.elim
/-- zip of two lists, enumerate of a list: to a tuple's names -/
def zipD : List D → List D → List D
  | x :: xs, y :: ys => .tup [x, y] :: zipD xs ys
  | _, _ => []
theorem zipD_get : ∀ {xs ys : List D} {i : Nat} {d : D}, (zipD xs ys)[i]? = some d ↔ ∃ x y, xs[i]? = some x ∧ ys[i]? = some y ∧ d = .tup [x, y]
  | [], ys, i, d => by simp [zipD]
  | x :: xs, [], i, d => by simp [zipD]
  | x :: xs, y :: ys, 0, d => by
    simp only [zipD, List.getElem?_cons_zero, Option.some.injEq]
    constructor
    · rintro rfl; exact ⟨x, y, rfl, rfl, rfl⟩
    · rintro ⟨a, b, rfl, rfl, rfl⟩; rfl
  | x :: xs, y :: ys, i + 1, d => by
    simp only [zipD, List.getElem?_cons_succ]
    exact zipD_get
theorem zipD_length : ∀ xs ys : List D, (zipD xs ys).length = min xs.length ys.length
  | [], ys => by simp [zipD]
  | x :: xs, [] => by simp [zipD]
  | x :: xs, y :: ys => by simp only [zipD, List.length_cons, zipD_length xs ys]; omega
def bZip : List D → O (List D)
  | [a, b] => match a.seq, b.seq with
    | some xs, some ys => .ok (zipD xs ys)
    | _, _ => .no
  | _ => .no
theorem itd_zip {K : PySem.W.Frag} {G : Hp} {p q : Addr} {xs ys : List V} {ds es : List D} (h : SqL K G p xs) (h' : SqL K G q ys) (i : IsL K cl G xs ds) (i' : IsL K cl G ys es) : ItD cl K (Itz K p q) G (zipD ds es) := by
  intro n G2 H2 s1 s2
  have hq : SqL K H2 p xs := s2.seq (s1.seq h)
  have hq' : SqL K H2 q ys := s2.seq (s1.seq h')
  refine ⟨fun d hd => ?_, fun hl => ⟨xs, ys, hq, hq', ?_⟩⟩
  · obtain ⟨x, y, hx, hy, rfl⟩ := zipD_get.mp hd
    obtain ⟨v, hv, iv⟩ := i.get hx
    obtain ⟨w, hw, iw⟩ := i'.get hy
    refine ⟨⟨xs, ys, v, w, hq, hq', hv, hw⟩, fun x H' y => ?_⟩
    obtain ⟨T, x1, y1, rfl, hT, rfl, a1, a2⟩ := y
    have e1 := a1 xs hq
    have e2 := a2 ys hq'
    rw [hv] at e1
    rw [hw] at e2
    cases e1
    cases e2
    exact ⟨_, .newG s2 hT, .tup upd_same (.cons ((iv.mono s1).mono (same_upd (s2.free hT))) (.one ((iw.mono s1).mono (same_upd (s2.free hT)))))⟩
  · rw [zipD_length] at hl
    rw [i.length, i'.length]
    omega
theorem di_zip {elts : List Expr} {kk : Nat} {tpos : Pos} {g : Ev → O (List D)} (hm : X.mg "zip" = none) (ha : DA cl X W [a, b] g) (hg : Gl X "zip" := by rfl) (hs : starEach [a, b] X.env = (false, eval a X.env) :: starEach [b] X.env := by rfl) (hpl : (backTo pos (starEach [b] X.env)).any (·.1) = false := by rfl) :
    DI cl X W (.Tuple elts kk tpos) (.Call (.Name "zip" p) [a, b] [] pos) (fIt g bZip) := by
  obtain ⟨t, q, h⟩ := ha
  refine ⟨_, pi_zip hg hm q hs hpl, fun G H σ env RR rep z => h G H σ env _ rep ?_⟩
  unfold fIt at z
  cases h1 : g env with
  | no => rw [h1] at z; exact z.elim
  | ex x => rw [h1] at z; exact z
  | ok ds =>
    rw [h1] at z
    intro vs G1 H1 e1 i1
    have z : IPo cl X W G H σ RR (bZip ds) := z
    unfold bZip at z
    split at z
    · rename_i da db
      cases i1 with
      | cons ia it =>
        cases it with
        | cons ib it =>
          cases it
          split at z
          · rename_i xs ys hx hy
            obtain ⟨p1, vx, rfl, q1, j1⟩ := (Vw.of ia).seq (.refl G1) hx
            obtain ⟨p2, vy, rfl, q2, j2⟩ := (Vw.of ib).seq (.refl G1) hy
            exact ⟨p1, p2, vx, vy, rfl, e1.i.seq q1, e1.i.seq q2, z _ G1 H1 e1 (itd_zip q1 q2 j1 j2)⟩
          · exact z.elim
    · exact z.elim
def enumD (k : Nat) : List D → List D
  | [] => []
  | d :: ds => .tup [.int k, d] :: enumD (k + 1) ds
theorem enumD_get : ∀ {ds : List D} {k i : Nat} {d : D}, (enumD k ds)[i]? = some d ↔ ∃ x, ds[i]? = some x ∧ d = .tup [.int ((k + i : Nat) : Int), x]
  | [], k, i, d => by simp [enumD]
  | x :: xs, k, 0, d => by
    simp only [enumD, List.getElem?_cons_zero, Option.some.injEq, Nat.add_zero]
    constructor
    · rintro rfl; exact ⟨x, rfl, rfl⟩
    · rintro ⟨a, rfl, rfl⟩; rfl
  | x :: xs, k, i + 1, d => by
    simp only [enumD, List.getElem?_cons_succ]
    rw [enumD_get, show k + 1 + i = k + (i + 1) by omega]
theorem enumD_length : ∀ (ds : List D) (k : Nat), (enumD k ds).length = ds.length
  | [], _ => rfl
  | d :: ds, k => by simp only [enumD, List.length_cons, enumD_length ds]
def bEnum : List D → O (List D)
  | [a] => match a.seq with
    | some xs => .ok (enumD 0 xs)
    | none => .no
  | _ => .no
theorem itd_enum {K : PySem.W.Frag} {G : Hp} {p : Addr} {xs : List V} {ds : List D} (h : SqL K G p xs) (i : IsL K cl G xs ds) : ItD cl K (Ite K p) G (enumD 0 ds) := by
  intro n G2 H2 s1 s2
  have hq : SqL K H2 p xs := s2.seq (s1.seq h)
  refine ⟨fun d hd => ?_, fun hl => ⟨xs, hq, by rw [enumD_length] at hl; rw [i.length]; exact hl⟩⟩
  obtain ⟨x, hx, rfl⟩ := enumD_get.mp hd
  obtain ⟨v, hv, iv⟩ := i.get hx
  refine ⟨⟨xs, v, hq, hv⟩, fun x H' y => ?_⟩
  obtain ⟨T, x1, rfl, hT, rfl, a1⟩ := y
  have e1 := a1 xs hq
  rw [hv] at e1
  cases e1
  rw [Nat.zero_add]
  exact ⟨_, .newG s2 hT, .tup upd_same (.cons (.int _) (.one ((iv.mono s1).mono (same_upd (s2.free hT)))))⟩
theorem di_enum {elts : List Expr} {kk : Nat} {tpos : Pos} {g : Ev → O (List D)} (hm : X.mg "enumerate" = none) (ha : DA cl X W [a] g) (hg : Gl X "enumerate" := by rfl) (hs : starEach [a] X.env = [(false, eval a X.env)] := by rfl) :
    DI cl X W (.Tuple elts kk tpos) (.Call (.Name "enumerate" p) [a] [] pos) (fIt g bEnum) := by
  obtain ⟨t, q, h⟩ := ha
  refine ⟨_, pi_enum hg hm q hs, fun G H σ env RR rep z => h G H σ env _ rep ?_⟩
  unfold fIt at z
  cases h1 : g env with
  | no => rw [h1] at z; exact z.elim
  | ex x => rw [h1] at z; exact z
  | ok ds =>
    rw [h1] at z
    intro vs G1 H1 e1 i1
    have z : IPo cl X W G H σ RR (bEnum ds) := z
    unfold bEnum at z
    split at z
    · cases i1 with
      | cons ia it =>
        cases it
        split at z
        · rename_i xs hx
          obtain ⟨p1, vx, rfl, q1, j1⟩ := (Vw.of ia).seq (.refl G1) hx
          exact ⟨p1, vx, rfl, e1.i.seq q1, z _ G1 H1 e1 (itd_enum q1 j1)⟩
        · exact z.elim
    · exact z.elim

/-! ### comprehensions -/
/-- a clause's tests -/
def DTs (cl : Nat → Addr) (X : Cx) (W : WX) (ifs : List Expr) (f : Ev → O Bool) : Prop :=
  ∃ t : TT, PTs X ifs t ∧ ∀ (G H : Hp) (σ : L2.St) (env : Ev) (Q : Bool → Hp → Prop), Rep X.K cl G H σ env → TPo cl X W G H σ Q (f env) → t σ H Q
def fYes : Ev → O Bool := fun _ => .ok true
theorem dts_nil : DTs cl X W [] fYes := ⟨_, pts_nil, fun G H σ env Q rep z => z G H (.refl rep.same)⟩
theorem dts_one {f : Ev → O Bool} (h : DT cl X W c f) : DTs cl X W [c] f := by
  obtain ⟨t, q, h⟩ := h
  exact ⟨t, pts_one q, h⟩
def compL (g : D → Ev → Option Ev) (ft : Ev → O Bool) (fe : Ev → O R) (env : Ev) : List D → O (List D)
  | [] => .ok []
  | d :: ds => match g d env with
    | none => .no
    | some e1 => match ft e1 with
      | .ok true => match (fe e1).bind R.fz with
        | .ok y => (compL g ft fe env ds).map (y :: ·)
        | _ => .no
      | .ok false => compL g ft fe env ds
      | _ => .no
def eComp (vs : List Nat) (fi : Ev → O (List D)) (g : D → Ev → Option Ev) (ft : Ev → O Bool) (fe : Ev → O R) : Ev → O R := fun env =>
  (fi env).bind fun ds => if ds.length ≤ lim then (match compL g ft fe (wipeE env vs) ds with | .ok es => .ok (.fr (.ow es)) | _ => .no) else .no
theorem compL_len {g : D → Ev → Option Ev} {ft : Ev → O Bool} {fe : Ev → O R} {env : Ev} : ∀ {ds es : List D}, compL g ft fe env ds = .ok es → es.length ≤ ds.length
  | [], _, h => by cases h; exact Nat.le_refl _
  | d :: ds, es, h => by
    unfold compL at h
    split at h
    · cases h
    · split at h
      · split at h
        · cases h2 : compL g ft fe env ds with
          | ok es2 => rw [h2] at h; cases h; have := compL_len h2; rw [List.length_cons, List.length_cons]; omega
          | ex x => rw [h2] at h; cases h
          | no => rw [h2] at h; cases h
        · cases h
      · have := compL_len h; rw [List.length_cons]; omega
      · cases h
/-- the judgements of a block, whatever its frame -/
abbrev Blk (X : Cx) (s : Shared) (H : Hp) (scope : Scope) (C : Addr) (cs : List (Str × Addr)) (fp : List Addr) : Cx := X.blk s H scope (compEnvC scope cs C X.env) fp
abbrev W0 : WX := fun _ _ _ _ => False
theorem de_lc_gen {own : List (Str × Nat)} {ts : List Nat} {fi : Ev → O (List D)} {g : D → Ev → Option Ev} {ft : Ev → O Bool} {fe : Ev → O R} {wi : TI} {tg' : TG} {tt : TT} {te : TE}
    (hts : ∀ i ∈ ts, i ∈ own.map (·.2))
    (qi : ∀ (G H : Hp) (σ : L2.St) (env : Ev) (RR : It → Hp → Prop), Rep X.K cl G H σ env → IPo cl X W G H σ RR (fi env) → wi σ H RR)
    (qg : ∀ (G H : Hp) (σ : L2.St) (env env' : Ev) (v : V) (d : D) (Q : L2.St → Hp → Prop), Rep X.K cl G H σ env → Is X.K cl G v d → g d env = some env' → (∀ σ', Rep X.K cl G H σ' env' → Kept ts env σ env' σ' → Q σ' H) → tg' v σ H Q)
    (qt : ∀ (G H : Hp) (σ : L2.St) (env : Ev) (Q : Bool → Hp → Prop), Rep X.K cl G H σ env → TPo cl X W0 G H σ Q (ft env) → tt σ H Q)
    (qe : ∀ (G H : Hp) (σ : L2.St) (env : Ev) (Q : VK), Rep X.K cl G H σ env → FPo cl X W0 G H σ Q ((fe env).bind R.fz) → te σ H Q)
    (G H : Hp) (σ : L2.St) (env : Ev) (Q : VK) (rep : Rep X.K cl G H σ env) (z : EPo cl X W G H σ Q (eComp (own.map (·.2)) fi g ft fe env)) : tLc wi tg' tt te (own.map (·.2)) σ H Q := by
  refine qi G H σ env _ rep ?_
  unfold eComp at z
  cases h1 : fi env with
  | no => rw [h1] at z; exact z.elim
  | ex x => rw [h1] at z; exact z
  | ok ds =>
    rw [h1] at z
    intro J G1 H1 e1 it P hP
    have z : EPo cl X W G H σ Q (if ds.length ≤ lim then (match compL g ft fe (wipeE env (own.map (·.2))) ds with | .ok es => .ok (.fr (.ow es)) | _ => .no) else .no) := z
    split at z
    · rename_i hlim
      cases h2 : compL g ft fe (wipeE env (own.map (·.2))) ds with
      | no => rw [h2] at z; exact z.elim
      | ex x => rw [h2] at z; exact z.elim
      | ok es =>
        rw [h2] at z
        -- the invariant: what is made so far stands at P, the rest is still to come
        have wr := rep.wipe (own.map (·.2))
        refine ⟨fun i m H' => m = ds.length - i ∧ i ≤ ds.length ∧ ∃ (G' : Hp) (acc : List V) (da de : List D), Ext G1 H1 G' H' ∧ G' P = none ∧ H' P = some (.lst acc) ∧ IsL X.K cl G' acc da ∧ da.length ≤ i ∧ compL g ft fe (wipeE env (own.map (·.2))) (ds.drop i) = .ok de ∧ da ++ de = es,
          ⟨ds.length, by simp, Nat.zero_le _, G1, [], [], es, .new e1.i hP, e1.i.free hP, upd_same, .nil, Nat.zero_le _, h2, rfl⟩, ?_⟩
        rintro i m H' ⟨rfl, hi, G', acc, da, de, ex, gP, hPa, ia, hlen, hc, hes⟩
        obtain ⟨it1, it2⟩ := it i G' H' ex.g ex.i
        by_cases hlt : i < ds.length
        · have hd : ds[i]? = some ds[i] := List.getElem?_eq_getElem hlt
          obtain ⟨go, yl⟩ := it1 _ hd
          rw [List.drop_eq_getElem_cons hlt] at hc
          refine .inr ⟨go, fun H2 => ∃ (G2 : Hp) (acc : List V) (da de : List D), Ext G1 H1 G2 H2 ∧ G2 P = none ∧ H2 P = some (.lst acc) ∧ IsL X.K cl G2 acc da ∧ da.length ≤ i + 1 ∧ compL g ft fe (wipeE env (own.map (·.2))) (ds.drop (i + 1)) = .ok de ∧ da ++ de = es,
            fun H2 n => ⟨ds.length - (i + 1), by omega, rfl, hlt, n⟩, fun x H2 y => ?_⟩
          obtain ⟨G2, e2, ix⟩ := yl x H2 y
          unfold compL at hc
          cases h3 : g ds[i] (wipeE env (own.map (·.2))) with
          | none => rw [h3] at hc; cases hc
          | some env1 =>
            rw [h3] at hc
            dsimp only at hc
            have rep2 : Rep X.K cl G2 H2 (L2.wipe σ (own.map (·.2))) (wipeE env (own.map (·.2))) := wr.ext ((e1.trans ex).trans e2)
            refine qg G2 H2 _ _ env1 x ds[i] _ rep2 ix h3 fun σ3 rep3 k3 => ?_
            refine ⟨(k3.wipe _ hts).trans (wipe_wipe _ _), ?_⟩
            refine qt G2 H2 σ3 env1 _ rep3 ?_
            have ex2 := ex.trans e2
            have gP2 : G2 P = none := e2.n P (by rw [hPa]; simp) gP
            have hP2 : H2 P = some (.lst acc) := e2.h _ _ hPa
            cases h4 : ft env1 with
            | no => rw [h4] at hc; cases hc
            | ex x => rw [h4] at hc; cases hc
            | ok b =>
              rw [h4] at hc
              intro G3 H3 e3
              have gP3 : G3 P = none := e3.n P (by rw [hP2]; simp) gP2
              have hP3 : H3 P = some (.lst acc) := e3.h _ _ hP2
              have ex3 := ex2.trans e3
              have ia3 := (ia.mono e2.g).mono e3.g
              cases b with
              | false => exact ⟨G3, acc, da, de, ex3, gP3, hP3, ia3, by omega, hc, hes⟩
              | true =>
                refine qe G3 H3 σ3 env1 _ (rep3.ext e3) ?_
                dsimp only at hc
                cases h5 : (fe env1).bind R.fz with
                | no => rw [h5] at hc; cases hc
                | ex x => rw [h5] at hc; cases hc
                | ok d =>
                  rw [h5] at hc
                  intro w G4 H4 e4 iw
                  have gP4 : G4 P = none := e4.n P (by rw [hP3]; simp) gP3
                  have hP4 : H4 P = some (.lst acc) := e4.h _ _ hP3
                  have ex4 := ex3.trans e4
                  cases h6 : compL g ft fe (wipeE env (own.map (·.2))) (ds.drop (i + 1)) with
                  | no => rw [h6] at hc; cases hc
                  | ex x => rw [h6] at hc; cases hc
                  | ok de2 =>
                    rw [h6] at hc
                    cases hc
                    refine ⟨acc, hP4, by rw [lim_eq, ia.length]; omega, G4, acc ++ [w], da ++ [d], de2, ⟨ex4.g, fun b o q => ?_, fun b o q => ?_, ex4.n⟩, gP4, upd_same, (ia3.mono e4.g).append (.one iw), by rw [List.length_append]; simp; omega, rfl, ?_⟩
                    · rw [upd_ne (ne_of_none q hP)]; exact ex4.h b o q
                    · rw [upd_ne (ne_of_none q gP4)]; exact ex4.i b o q
                    · rw [List.append_assoc]; exact hes
        · have e : i = ds.length := by omega
          subst e
          rw [List.drop_length] at hc
          cases hc
          rw [List.append_nil] at hes
          subst hes
          refine .inl ⟨it2 (Nat.le_refl _), z (.ref P) G' H' (e1.trans ex) (.fr rfl (.ow gP hPa ia) (e1.h.free hP))⟩
    · exact z.elim
/-- the readings by the data alone: the same in every block -/
def canE (cl : Nat → Addr) (X : Cx) (W : WX) (f : Ev → O R) : TE := fun σ H Q => ∃ (G : Hp) (env : Ev), Rep X.K cl G H σ env ∧ EPo cl X W G H σ Q (f env)
def canT (cl : Nat → Addr) (X : Cx) (W : WX) (f : Ev → O Bool) : TT := fun σ H Q => ∃ (G : Hp) (env : Ev), Rep X.K cl G H σ env ∧ TPo cl X W G H σ Q (f env)
def canG (cl : Nat → Addr) (X : Cx) (ts : List Nat) (g : D → Ev → Option Ev) : TG := fun v σ H Q => ∃ (G : Hp) (env env' : Ev) (d : D), Rep X.K cl G H σ env ∧ Is X.K cl G v d ∧ g d env = some env' ∧ ∀ σ', Rep X.K cl G H σ' env' → Kept ts env σ env' σ' → Q σ' H
theorem DE.can (h : DE cl X W e fe) : PE X e (canE cl X W fe) := by
  obtain ⟨t, q, h⟩ := h
  exact ⟨fun pins s σ H Q I ⟨G, env, r, z⟩ => q.run pins s σ H Q I (h G H σ env Q r z)⟩
theorem DTs.can {ifs : List Expr} {f : Ev → O Bool} (h : DTs cl X W ifs f) : PTs X ifs (canT cl X W f) := by
  obtain ⟨t, q, h⟩ := h
  exact ⟨fun pins s σ H Q I ⟨G, env, r, z⟩ => q.run pins s σ H Q I (h G H σ env Q r z)⟩
theorem DG.can {tg : Expr} {ts : List Nat} {g : D → Ev → Option Ev} (h : DG cl X tg ts g) : PG X tg (canG cl X ts g) := by
  obtain ⟨t, q, h⟩ := h
  exact ⟨fun pins s σ H v u Q I r ⟨G, env, env', d, rep, iv, e, k⟩ => q.run pins s σ H v u Q I r (h G H σ env env' v d Q rep iv e k)⟩
section
variable {elt tg iter : Expr} {ifs : List Expr} {scope : Scope} {own : List (Str × Nat)} {ts : List Nat} {fi : Ev → O (List D)} {g : D → Ev → Option Ev} {ft : Ev → O Bool} {fe : Ev → O R}
theorem lc_read {wi : TI} (hts : ∀ i ∈ ts, i ∈ own.map (·.2)) (qi : ∀ (G H : Hp) (σ : L2.St) (env : Ev) (RR : It → Hp → Prop), Rep X.K cl G H σ env → IPo cl X W G H σ RR (fi env) → wi σ H RR)
    (G H : Hp) (σ : L2.St) (env : Ev) (Q : VK) (rep : Rep X.K cl G H σ env) (z : EPo cl X W G H σ Q (eComp (own.map (·.2)) fi g ft fe env)) :
    tLc wi (canG cl X ts g) (canT cl X W0 ft) (canE cl X W0 fe) (own.map (·.2)) σ H Q := by
  refine de_lc_gen hts qi (fun G H σ env env' v d Q r i e k => ⟨G, env, env', d, r, i, e, k⟩) (fun G H σ env Q r z => ⟨G, env, r, z⟩) (fun G H σ env Q r z => ⟨G, env, r, ?_⟩) G H σ env Q rep z
  cases he : fe env with
  | ok r2 =>
    rw [he] at z
    intro v G' H' e i
    cases hr : r2.fz with
    | ok d =>
      have z' : FPo cl X W0 G H σ Q (.ok d) := by rw [← hr]; exact z
      obtain ⟨G2, e2, _, i2⟩ := i.fix e hr
      exact z' v G2 H' e2 i2
    | ex x =>
      exfalso
      cases r2 <;> simp [R.fz] at hr
    | no =>
      have z' : FPo cl X W0 G H σ Q .no := by rw [← hr]; exact z
      exact z'.elim
  | ex x => rw [he] at z; exact z
  | no => rw [he] at z; exact z
theorem de_lc {own : List (Str × Nat)} (hc : X.calm = true) (hN : X.N.Nodup) (hi : DI cl X W tg iter fi) (ok : BlkOk X.N X.env.scope scope own)
    (hg : ∀ (s : Shared) (H : Hp) (C : Addr) (cs : List (Str × Addr)) (fp : List Addr), DG cl (Blk X s H scope C cs fp) tg ts g) (ht : ∀ (s : Shared) (H : Hp) (C : Addr) (cs : List (Str × Addr)) (fp : List Addr), DTs cl (Blk X s H scope C cs fp) W0 ifs ft)
    (he : ∀ (s : Shared) (H : Hp) (C : Addr) (cs : List (Str × Addr)) (fp : List Addr), DE cl (Blk X s H scope C cs fp) W0 elt fe) (hts : ∀ i ∈ ts, i ∈ own.map (·.2) := by decide) (hs : ∀ x, foldedSetIterable iter X.env x = pure x := by intro _; rfl) :
    DE cl X W (.ListComp elt [⟨tg, iter, ifs, 0⟩] scope pos) (eComp (own.map (·.2)) fi g ft fe) := by
  obtain ⟨wi, pi, qi⟩ := hi
  exact ⟨_, pe_lc hc hN pi ok (fun s H C cs fp => (hg s H C cs fp).can) (fun s H C cs fp => (ht s H C cs fp).can) (fun s H C cs fp => (he s H C cs fp).can) hs, lc_read hts qi⟩
end
end
end DL

/-! DLf: statements. -/
namespace DL
open PySem PySem.Spec L2

section
variable {K : PySem.W.Frag} {cl : Nat → Addr} {G G0 H H0 G' H' : Hp} {σ : L2.St} {env : Ev}
theorem RepE.sh (r : RepE K cl G0 H0 G H σ env) {v : V} {d : D} (h : Is K cl G v d) (i : Nat) : RepE K cl G0 H0 G H (σ.set i (some v)) (env.set i (some (.sh d))) :=
  r.kept (kept_set (i := i) (d := d) (v := v)) (r.toRep.setSh h i)
theorem RepE.ow (r : RepE K cl G0 H0 G H σ env) {p : Addr} {l : L} (h : LIs K cl G' H' (.ref p) l) (e : Ext G H G' H') (hp : H p = none) (i : Nat) : RepE K cl G0 H0 G' H' (σ.set i (some (.ref p))) (env.set i (some l)) := by
  have r' := r.go e
  refine ⟨r'.toRep.setOw h fun j l' hj o hn s => ?_, r'.ext, fun j l' q hj o s => ?_⟩
  · obtain ⟨v, a, b⟩ := r.at j l' hj
    rw [s] at a
    cases a
    obtain ⟨p', e1, _, e2⟩ := b.ref o
    cases e1
    exact e2 hp
  · rcases getElem?_set_some hj with ⟨rfl, el⟩ | ⟨hn, a⟩
    · rcases getElem?_set_some s with ⟨_, e1⟩ | ⟨e1, _⟩
      · cases e1
        exact r.ext.h.free hp
      · exact absurd rfl e1
    · rw [List.getElem?_set_ne (Ne.symm hn)] at s
      exact r'.new j l' q a o s
/-- the object of an owning slot is changed -/
theorem RepE.mut (r : RepE K cl G0 H0 G H σ env) {i : Nat} {l l' : L} {p : Addr} {o : HO} (hi : env[i]? = some (some l)) (ho : l.own = true) (hs : σ[i]? = some (some (.ref p))) (h : LIs K cl G (upd H p o) (.ref p) l') :
    RepE K cl G0 H0 G (upd H p o) σ (env.set i (some l')) := by
  obtain ⟨v, a, b⟩ := r.at i l hi
  rw [hs] at a
  cases a
  obtain ⟨p', e1, gp, hp⟩ := b.ref ho
  cases e1
  have hn := r.new i l p hi ho hs
  have il : i < env.length := by
    by_cases h : i < env.length
    · exact h
    · rw [List.getElem?_eq_none (by omega)] at hi; cases hi
  have sm : Same G (upd H p o) := fun b o q => by rw [upd_ne (ne_of_none q gp)]; exact r.same b o q
  refine ⟨⟨sm, by rw [List.length_set]; exact r.len, fun j m hj => ?_, fun j k m m' w hj hk oj ok sj sk => ?_⟩, ⟨r.ext.g, fun b o q => by rw [upd_ne (ne_of_none q hn)]; exact r.ext.h b o q, sm, r.ext.n⟩, fun j m q hj oj sj => ?_⟩
  · rcases getElem?_set_some hj with ⟨rfl, e⟩ | ⟨hne, q⟩
    · cases e; exact ⟨_, hs, h⟩
    · obtain ⟨w, sw, lw⟩ := r.at j m q
      refine ⟨w, sw, ?_⟩
      cases hm : m.own with
      | false =>
        cases m with
        | sh d => cases lw with | sh x => exact .sh x
        | _ => cases hm
      | true =>
        obtain ⟨p2, rfl, _, _⟩ := lw.ref hm
        have np : p2 ≠ p := by
          rintro rfl
          exact hne (r.sep j i m l _ q hi hm ho sw hs)
        cases lw with
        | sh => cases hm
        | ow g qq t => exact .ow g (by rw [upd_ne np]; exact qq) t
        | oK g qq z t => exact .oK g (by rw [upd_ne np]; exact qq) z t
        | oT g qq z t => exact .oT g (by rw [upd_ne np]; exact qq) z t
        | oI g qq z t => exact .oI g (by rw [upd_ne np]; exact qq) z t
        | oP g qq z t => exact .oP g (by rw [upd_ne np]; exact qq) z t
  · have old : ∀ {j : Nat} {m : L}, (env.set i (some l'))[j]? = some (some m) → m.own = true → ∃ m0, env[j]? = some (some m0) ∧ m0.own = true := fun {j m} hj oj => by
      rcases getElem?_set_some hj with ⟨rfl, e⟩ | ⟨_, q⟩
      · exact ⟨l, hi, ho⟩
      · exact ⟨m, q, oj⟩
    obtain ⟨a, a1, a2⟩ := old hj oj
    obtain ⟨b, b1, b2⟩ := old hk ok
    exact r.sep j k a b w a1 b1 a2 b2 sj sk
  · rcases getElem?_set_some hj with ⟨rfl, e⟩ | ⟨_, q'⟩
    · rw [hs] at sj; cases sj; exact hn
    · exact r.new j m q q' oj sj
/-- a slot's own list is given to the fixed part -/
def fzE (i : Nat) (env : Ev) : Ev := match env[i]? with
  | some (some l) => env.set i (some (.sh l.d))
  | _ => env
theorem RepE.fz (r : RepE K cl G0 H0 G H σ env) (i : Nat) : ∃ G2, RepE K cl G0 H0 G2 H σ (fzE i env) ∧ Same G G2 := by
  unfold fzE
  cases hi : env[i]? with
  | none => exact ⟨G, r, .refl _⟩
  | some o =>
    cases o with
    | none => exact ⟨G, r, .refl _⟩
    | some l =>
      dsimp only
      cases ho : l.own with
      | false =>
        cases l with
        | sh d =>
          refine ⟨G, ?_, .refl _⟩
          have e : env.set i (some (.sh d)) = env := by
            apply List.ext_getElem?
            intro j
            by_cases hj : j = i
            · subst hj
              rw [hi]
              refine List.getElem?_set_self ?_
              by_cases h : j < env.length
              · exact h
              · rw [List.getElem?_eq_none (by omega)] at hi; cases hi
            · rw [List.getElem?_set_ne (Ne.symm hj)]
          show RepE K cl G0 H0 G H σ (env.set i (some (.sh d)))
          rw [e]
          exact r
        | _ => cases ho
      | true =>
        obtain ⟨v, sv, lv⟩ := r.at i l hi
        obtain ⟨p, rfl, gp, hp⟩ := lv.ref ho
        have hn := r.new i l p hi ho sv
        obtain ⟨o, hpo⟩ : ∃ o, H p = some o := by
          cases q : H p with
          | none => exact absurd q hp
          | some o => exact ⟨o, rfl⟩
        have ex : Ext G0 H0 (upd G p o) H := r.ext.fix hn gp hpo
        have sg : Same G (upd G p o) := same_upd gp
        have new : Is K cl (upd G p o) (.ref p) l.d := by
          cases lv with
          | sh => cases ho
          | ow g q t => rw [hpo] at q; cases q; exact .lst upd_same (t.mono sg)
          | oK g q z t => rw [hpo] at q; cases q; exact .dK upd_same z (t.mono sg)
          | oT g q z t => rw [hpo] at q; cases q; exact .dT upd_same z (t.mono sg)
          | oI g q z t => rw [hpo] at q; cases q; exact .ins upd_same z (t.mono sg)
          | oP g q z t => rw [hpo] at q; cases q; exact .dT upd_same z (t.mono sg)
        refine ⟨upd G p o, ⟨⟨ex.i, by rw [List.length_set]; exact r.len, fun j m hj => ?_, fun j k m m' w hj hk oj ok sj sk => ?_⟩, ex, fun j m q hj oj sj => ?_⟩, sg⟩
        · rcases getElem?_set_some hj with ⟨rfl, e⟩ | ⟨hne, q⟩
          · cases e; exact ⟨_, sv, .sh new⟩
          · obtain ⟨w, sw, lw⟩ := r.at j m q
            refine ⟨w, sw, ?_⟩
            cases hm : m.own with
            | false =>
              cases m with
              | sh d => cases lw with | sh x => exact .sh (x.mono sg)
              | _ => cases hm
            | true =>
              obtain ⟨p2, rfl, _, _⟩ := lw.ref hm
              have np : p2 ≠ p := by
                rintro rfl
                exact hne (r.sep j i m l _ q hi hm ho sw sv)
              cases lw with
              | sh => cases hm
              | ow g qq t => exact .ow (by rw [upd_ne np]; exact g) qq (t.mono sg)
              | oK g qq z t => exact .oK (by rw [upd_ne np]; exact g) qq z (t.mono sg)
              | oT g qq z t => exact .oT (by rw [upd_ne np]; exact g) qq z (t.mono sg)
              | oI g qq z t => exact .oI (by rw [upd_ne np]; exact g) qq z (t.mono sg)
              | oP g qq z t => exact .oP (by rw [upd_ne np]; exact g) qq z (t.mono sg)
        · rcases getElem?_set_some hj with ⟨rfl, e⟩ | ⟨_, q⟩
          · cases e; cases oj
          · rcases getElem?_set_some hk with ⟨rfl, e⟩ | ⟨_, q'⟩
            · cases e; cases ok
            · exact r.sep j k m m' w q q' oj ok sj sk
        · rcases getElem?_set_some hj with ⟨rfl, e⟩ | ⟨_, q'⟩
          · cases e; cases oj
          · exact r.new j m q q' oj sj
end

section
variable {cl : Nat → Addr} {X : Cx} {W : WX} {e a b c : Expr} {es : List Expr} {st : Stmt} {rest : List Stmt} {fe fa fb fc : Ev → O R} {f g : Ev → SO} {pos p p2 : Pos}
variable {G0 H0 G H G1 H1 : Hp} {σ : L2.St} {env : Ev} {D' : Ends}

theorem RepE.back {K : PySem.W.Frag} {G2 H2 : Hp} (e : Ext G0 H0 G1 H1) (r : RepE K cl G1 H0 G2 H2 σ env) : RepE K cl G0 H0 G2 H2 σ env :=
  ⟨r.toRep, ⟨e.g.trans r.ext.g, r.ext.h, r.ext.i, fun a h h' => r.ext.n a h (e.n a h h')⟩, r.new⟩
theorem RepE.here {K : PySem.W.Frag} (r : RepE K cl G0 H0 G H σ env) : RepE K cl G H0 G H σ env :=
  ⟨r.toRep, ⟨.refl _, r.ext.h, r.ext.i, fun _ _ h => h⟩, r.new⟩
/-- the wish, told from a later fixed part -/
theorem SPo.here {o : SO} (e : Ext G0 H0 G1 H1) (z : SPo cl X W G0 H0 D' o) : SPo cl X W G1 H0 D' o := by
  cases o with
  | nx env => exact fun G H σ r => z G H σ (.back e r)
  | bk env => exact fun G H σ r => z G H σ (.back e r)
  | ct env => exact fun G H σ r => z G H σ (.back e r)
  | rt r => exact fun v G H x i => z v G H ⟨e.g.trans x.g, x.h, x.i, fun a h h' => x.n a h (e.n a h h')⟩ i
  | ex x env => exact fun c d G H σ r i => z c d G H σ (.back e r) i
  | no => exact z

/-! ### blocks -/
def sSeq (f g : Ev → SO) : Ev → SO := fun env => match f env with
  | .nx e => g e
  | o => o
def sNx : Ev → SO := .nx
theorem dss_nil : DSs cl X W [] sNx := ⟨_, pss_nil, fun G0 H0 G H σ env D r z => z G H σ r⟩
theorem dss_cons (h : DS cl X W st f) (h2 : DSs cl X W rest g) : DSs cl X W (st :: rest) (sSeq f g) := by
  obtain ⟨t, q, h⟩ := h
  obtain ⟨t2, q2, h2⟩ := h2
  refine ⟨_, pss_cons q q2, fun G0 H0 G H σ env D r z => h G0 H0 G H σ env _ r ?_⟩
  unfold sSeq at z
  cases hf : f env with
  | nx e1 => rw [hf] at z; exact fun G1 H1 σ1 r1 => h2 G0 H0 G1 H1 σ1 e1 D r1 z
  | bk e1 => rw [hf] at z; exact z
  | ct e1 => rw [hf] at z; exact z
  | rt r => rw [hf] at z; exact z
  | ex x e1 => rw [hf] at z; exact z
  | no => rw [hf] at z; exact z
theorem dss_one (h : DS cl X W st f) : DSs cl X W [st] f := by
  obtain ⟨t, q, h⟩ := h
  exact ⟨_, pss_one q, h⟩
/-- without a row of text: slot i's list is no more changed -/
theorem dss_fz (i : Nat) (h : DSs cl X W rest g) : DSs cl X W rest (fun env => g (fzE i env)) := by
  obtain ⟨t, q, h⟩ := h
  refine ⟨_, q, fun G0 H0 G H σ env D r z => ?_⟩
  obtain ⟨G2, r2, _⟩ := r.fz i
  exact h G0 H0 G2 H σ _ D r2 z
theorem ds_pass : DS cl X W (.Pass pos) sNx := ⟨_, ps_pass, fun G0 H0 G H σ env D r z => z G H σ r⟩
theorem ds_break : DS cl X W (.Break pos) .bk := ⟨_, ps_break, fun G0 H0 G H σ env D r z => z G H σ r⟩
theorem ds_continue : DS cl X W (.Continue pos) .ct := ⟨_, ps_continue, fun G0 H0 G H σ env D r z => z G H σ r⟩
theorem ds_doc {x : Str} {j : Nat} {pos' : Pos} : DS cl X W (.Expr (.Constant (.str x) j pos) pos') sNx := ⟨_, ps_doc, fun G0 H0 G H σ env D r z => z G H σ r⟩

/-! ### an expression ahead of a statement's end -/
/-- an exception on the way -/
theorem sx_of {x : Ex} (r : RepE X.K cl G0 H0 G H σ env) (z : SPo cl X W G0 H0 D' (.ex x env)) : ∀ c d G' H', Ext G H G' H' → XIs X.K cl G' H' x c d → W c d σ H' :=
  fun c d G' H' e i => z c d G' H' σ (r.go e) i
def sSet (i : Nat) (fe : Ev → O R) : Ev → SO := fun env => match fe env with
  | .ok (.sh d) => .nx (env.set i (some (.sh d)))
  | .ok (.fr l) => .nx (env.set i (some l))
  | .ok (.bo _) => .no
  | .ex x => .ex x env
  | .no => .no
theorem set_read {te : TE} {i : Nat} (h : ∀ (G H : Hp) (σ : L2.St) (env : Ev) (Q : VK), Rep X.K cl G H σ env → EPo cl X W G H σ Q (fe env) → te σ H Q)
    (G0 H0 G H : Hp) (σ : L2.St) (env : Ev) (D : Ends) (r : RepE X.K cl G0 H0 G H σ env) (z : SPo cl X W G0 H0 D (sSet i fe env)) : tAsg te (gName i) D σ H := by
  refine h G H σ env _ r.toRep ?_
  unfold sSet at z
  cases h1 : fe env with
  | no => rw [h1] at z; exact z.elim
  | ex x => rw [h1] at z; exact sx_of r z
  | ok q =>
    rw [h1] at z
    intro v G' H' e iv
    cases iv with
    | sh iv => exact z G' H' _ ((r.go e).sh iv i)
    | fr ho iv hp => exact z G' H' _ (r.ow iv e hp i)
    | bo => exact z.elim
theorem ds_set (i : Nat) {x : Str} {pos' : Pos} (hN : X.N.Nodup) (h : DE cl X W e fe) (hi : X.N[i]? = some x := by rfl) (hx : Loc X.env.scope x := by first | exact Or.inl rfl | exact Or.inr rfl) (hs : swapsWith e (some (.Name x pos')) pos.line X.env = pure false := by rfl)
    (hf : X.fn x = true ∨ X.env.scope.names.lookup x = some .local := by first | exact .inl rfl | exact .inr rfl) : DS cl X W (.Assign [.Name x pos'] e pos) (sSet i fe) := by
  obtain ⟨t, q, h⟩ := h
  exact ⟨_, ps_set hN hi hx q hs hf, set_read h⟩
/-- .. the list is never changed -/
def sSetF (i : Nat) (fe : Ev → O R) : Ev → SO := fun env => match (fe env).bind R.fz with
  | .ok d => .nx (env.set i (some (.sh d)))
  | .ex x => .ex x env
  | .no => .no
theorem setF_read {te : TE} {i : Nat} (h : ∀ (G H : Hp) (σ : L2.St) (env : Ev) (Q : VK), Rep X.K cl G H σ env → FPo cl X W G H σ Q ((fe env).bind R.fz) → te σ H Q)
    (G0 H0 G H : Hp) (σ : L2.St) (env : Ev) (D : Ends) (r : RepE X.K cl G0 H0 G H σ env) (z : SPo cl X W G0 H0 D (sSetF i fe env)) : tAsg te (gName i) D σ H := by
  refine h G H σ env _ r.toRep ?_
  unfold sSetF at z
  cases h1 : (fe env).bind R.fz with
  | no => rw [h1] at z; exact z.elim
  | ex x => rw [h1] at z; exact sx_of r z
  | ok d => rw [h1] at z; exact fun v G' H' e iv => z G' H' _ ((r.go e).sh iv i)
theorem ds_setF (i : Nat) {x : Str} {pos' : Pos} (hN : X.N.Nodup) (h : DE cl X W e fe) (hi : X.N[i]? = some x := by rfl) (hx : Loc X.env.scope x := by first | exact Or.inl rfl | exact Or.inr rfl) (hs : swapsWith e (some (.Name x pos')) pos.line X.env = pure false := by rfl)
    (hf : X.fn x = true ∨ X.env.scope.names.lookup x = some .local := by first | exact .inl rfl | exact .inr rfl) : DS cl X W (.Assign [.Name x pos'] e pos) (sSetF i fe) := by
  obtain ⟨t, q, h⟩ := h.fz
  exact ⟨_, ps_set hN hi hx q hs hf, setF_read h⟩
/-- y = [..] -/
theorem ds_setLc (i : Nat) {y : Str} {py spos : Pos} {elt tg iter : Expr} {ifs : List Expr} {scope : Scope} {own : List (Str × Nat)} {ts : List Nat} {fi : Ev → O (List D)} {g : D → Ev → Option Ev} {ft : Ev → O Bool} {fe : Ev → O R} (hc : X.calm = true) (hN : X.N.Nodup)
    (hy : X.N[i]? = some y) (hyl : X.env.scope.names.lookup y = some .local) (hsw : swapsWith (.ListComp elt [⟨tg, iter, ifs, 0⟩] scope pos) (some (.Name y py)) spos.line X.env = pure true) (hi : DI cl X W tg iter fi) (ok : BlkOk X.N X.env.scope scope own)
    (hg : ∀ (s : Shared) (H : Hp) (C : Addr) (cs : List (Str × Addr)) (fp : List Addr), DG cl (Blk X s H scope C cs fp) tg ts g) (ht : ∀ (s : Shared) (H : Hp) (C : Addr) (cs : List (Str × Addr)) (fp : List Addr), DTs cl (Blk X s H scope C cs fp) W0 ifs ft)
    (he : ∀ (s : Shared) (H : Hp) (C : Addr) (cs : List (Str × Addr)) (fp : List Addr), DE cl (Blk X s H scope C cs fp) W0 elt fe) (hts : ∀ i ∈ ts, i ∈ own.map (·.2) := by decide) (hs : ∀ x, foldedSetIterable iter X.env x = pure x := by intro _; rfl) :
    DS cl X W (.Assign [.Name y py] (.ListComp elt [⟨tg, iter, ifs, 0⟩] scope pos) spos) (sSet i (eComp (own.map (·.2)) fi g ft fe)) := by
  obtain ⟨wi, pi, qi⟩ := hi
  exact ⟨_, ps_setLc hc hN hy hyl hsw pi ok (fun s H C cs fp => (hg s H C cs fp).can) (fun s H C cs fp => (ht s H C cs fp).can) (fun s H C cs fp => (he s H C cs fp).can) hs, set_read (lc_read hts qi)⟩
theorem fz_of {te : TE} (h : ∀ (G H : Hp) (σ : L2.St) (env : Ev) (Q : VK), Rep X.K cl G H σ env → EPo cl X W G H σ Q (fe env) → te σ H Q)
    (G H : Hp) (σ : L2.St) (env : Ev) (Q : VK) (r : Rep X.K cl G H σ env) (z : FPo cl X W G H σ Q ((fe env).bind R.fz)) : te σ H Q := by
  refine h G H σ env Q r ?_
  cases he : fe env with
  | ok r =>
    rw [he] at z
    intro v G' H' e i
    cases hr : r.fz with
    | ok d =>
      have z' : FPo cl X W G H σ Q (.ok d) := by rw [← hr]; exact z
      obtain ⟨G2, e2, _, i2⟩ := i.fix e hr
      exact z' v G2 H' e2 i2
    | ex x =>
      exfalso
      cases r <;> simp [R.fz] at hr
    | no =>
      have z' : FPo cl X W G H σ Q .no := by rw [← hr]; exact z
      exact z'.elim
  | ex x => rw [he] at z; exact z
  | no => rw [he] at z; exact z
theorem ds_setLcF (i : Nat) {y : Str} {py spos : Pos} {elt tg iter : Expr} {ifs : List Expr} {scope : Scope} {own : List (Str × Nat)} {ts : List Nat} {fi : Ev → O (List D)} {g : D → Ev → Option Ev} {ft : Ev → O Bool} {fe : Ev → O R} (hc : X.calm = true) (hN : X.N.Nodup)
    (hy : X.N[i]? = some y) (hyl : X.env.scope.names.lookup y = some .local) (hsw : swapsWith (.ListComp elt [⟨tg, iter, ifs, 0⟩] scope pos) (some (.Name y py)) spos.line X.env = pure true) (hi : DI cl X W tg iter fi) (ok : BlkOk X.N X.env.scope scope own)
    (hg : ∀ (s : Shared) (H : Hp) (C : Addr) (cs : List (Str × Addr)) (fp : List Addr), DG cl (Blk X s H scope C cs fp) tg ts g) (ht : ∀ (s : Shared) (H : Hp) (C : Addr) (cs : List (Str × Addr)) (fp : List Addr), DTs cl (Blk X s H scope C cs fp) W0 ifs ft)
    (he : ∀ (s : Shared) (H : Hp) (C : Addr) (cs : List (Str × Addr)) (fp : List Addr), DE cl (Blk X s H scope C cs fp) W0 elt fe) (hts : ∀ i ∈ ts, i ∈ own.map (·.2) := by decide) (hs : ∀ x, foldedSetIterable iter X.env x = pure x := by intro _; rfl) :
    DS cl X W (.Assign [.Name y py] (.ListComp elt [⟨tg, iter, ifs, 0⟩] scope pos) spos) (sSetF i (eComp (own.map (·.2)) fi g ft fe)) := by
  obtain ⟨wi, pi, qi⟩ := hi
  exact ⟨_, ps_setLc hc hN hy hyl hsw pi ok (fun s H C cs fp => (hg s H C cs fp).can) (fun s H C cs fp => (ht s H C cs fp).can) (fun s H C cs fp => (he s H C cs fp).can) hs, setF_read (fz_of (lc_read hts qi))⟩
/-- a, b = e -/
def sAsg (g : D → Ev → Option Ev) (fe : Ev → O R) : Ev → SO := fun env => match (fe env).bind R.fz with
  | .ok d => match g d env with
    | some e => .nx e
    | none => .no
  | .ex x => .ex x env
  | .no => .no
theorem ds_asg {tg : Expr} {ts : List Nat} {g : D → Ev → Option Ev} (hg : DG cl X tg ts g) (h : DE cl X W e fe) (hs : swapsWithSole [tg] e pos.line X.env = pure false := by rfl) (hw : swappedStores [tg] e X.env = pure none := by rfl)
    (h1 : (assignEach [tg] X.env).map (·.2) = [assign tg X.env] := by rfl) : DS cl X W (.Assign [tg] e pos) (sAsg g fe) := by
  obtain ⟨t, q, h⟩ := h.fz
  obtain ⟨t2, q2, h2⟩ := hg
  refine ⟨_, ps_asg q q2 hs hw h1, fun G0 H0 G H σ env D r z => h G H σ env _ r.toRep ?_⟩
  unfold sAsg at z
  cases h3 : (fe env).bind R.fz with
  | no => rw [h3] at z; exact z.elim
  | ex x => rw [h3] at z; exact sx_of r z
  | ok d =>
    rw [h3] at z
    intro v G' H' e iv
    dsimp only at z
    cases h4 : g d env with
    | none => rw [h4] at z; exact z.elim
    | some e1 =>
      rw [h4] at z
      have r1 := r.go e
      exact h2 G' H' σ env e1 v d _ r1.toRep iv h4 fun σ' r2 k => z G' H' σ' (r1.kept k r2)
/-- a, b = x, y -/
def sPar (i j : Nat) (ga : Ev → O (List D)) : Ev → SO := fun env => match ga env with
  | .ok [d, e] => .nx ((env.set i (some (.sh d))).set j (some (.sh e)))
  | .ok _ => .no
  | .ex x => .ex x env
  | .no => .no
theorem ds_par (i j : Nat) {x y : Str} {px py pt pt2 : Pos} {kt k2 : Nat} {ga : Ev → O (List D)} (hc : X.calm = true) (hN : X.N.Nodup) (ha : DA cl X W [a, b] ga) (hi : X.N[i]? = some x := by rfl) (hj : X.N[j]? = some y := by rfl) (hij : i ≠ j := by decide)
    (hx : X.env.scope.names.lookup x = some .local := by rfl) (hy : X.env.scope.names.lookup y = some .local := by rfl)
    (hw : swappedStores [.Tuple [.Name x px, .Name y py] kt pt] (.Tuple [a, b] k2 pt2) X.env = pure (some [x, y]) := by rfl)
    (hs : swapsWithSole [.Tuple [.Name x px, .Name y py] kt pt] (.Tuple [a, b] k2 pt2) pos.line X.env = pure false := by rfl) :
    DS cl X W (.Assign [.Tuple [.Name x px, .Name y py] kt pt] (.Tuple [a, b] k2 pt2) pos) (sPar i j ga) := by
  obtain ⟨t, q, h⟩ := ha
  refine ⟨_, ps_par hc hN hi hj hij hx hy q hw hs, fun G0 H0 G H σ env D r z => h G H σ env _ r.toRep ?_⟩
  unfold sPar at z
  cases h1 : ga env with
  | no => rw [h1] at z; exact z.elim
  | ex x => rw [h1] at z; exact sx_of r z
  | ok ds =>
    rw [h1] at z
    intro vs G' H' e iv
    match ds, iv, z with
    | [d, d2], .cons i1 (.cons i2 .nil), z => exact ⟨_, _, rfl, z G' H' _ (((r.go e).sh i1 i).sh i2 j)⟩
    | [], _, z => exact z.elim
    | [_], _, z => exact z.elim
    | _ :: _ :: _ :: _, _, z => exact z.elim
/-- x += e, x -= e of ints -/
def sAug (i : Nat) (h : Int → Int → Int) (fe : Ev → O R) : Ev → SO := fun env => match env[i]?, fe env with
  | some (some (.sh (.int x))), .ok r => match r.d with
    | .int y => .nx (env.set i (some (.sh (.int (h x y)))))
    | _ => .no
  | some (some (.sh (.int _))), .ex x => .ex x env
  | _, _ => .no
theorem aug_gen (i : Nat) {x : Str} {pos' : Pos} {op : Operator} {hh : Int → Int → Int} (ho : PIp X op (ipI hh)) (hN : X.N.Nodup) (h : DE cl X W e fe) (hi : X.N[i]? = some x) (hx : Loc X.env.scope x) (hf : X.fn x = true ∨ X.env.scope.names.lookup x = some .local) :
    DS cl X W (.AugAssign (.Name x pos') op e pos) (sAug i hh fe) := by
  obtain ⟨t, q, h⟩ := h.vw
  refine ⟨_, ps_aug hN hi hx q ho hf, fun G0 H0 G H σ env D r z => ?_⟩
  unfold sAug at z
  cases h0 : env[i]? with
  | none => rw [h0] at z; exact z.elim
  | some o =>
    rw [h0] at z
    cases o with
    | none => exact z.elim
    | some l =>
      cases l with
      | sh d =>
        cases d with
        | int x0 =>
          obtain ⟨v, sv, lv⟩ := r.at i _ h0
          cases lv with
          | sh lv =>
            cases lv
            refine ⟨_, sv, h G H σ env _ r.toRep ?_⟩
            cases h1 : fe env with
            | no => rw [h1] at z; exact z.elim
            | ex x => rw [h1] at z; exact sx_of r z
            | ok r1 =>
              rw [h1] at z
              intro v G' H' e iv
              dsimp only at z
              cases hd : r1.d with
              | int y => rw [hd] at z iv; exact ⟨x0, y, rfl, iv.int, z G' H' _ ((r.go e).sh (.int _) i)⟩
              | _ => rw [hd] at z; exact z.elim
        | _ => exact z.elim
      | _ => exact z.elim
theorem ds_aug (i : Nat) {x : Str} {pos' : Pos} (hN : X.N.Nodup) (h : DE cl X W e fe) (hi : X.N[i]? = some x := by rfl) (hx : Loc X.env.scope x := by first | exact Or.inl rfl | exact Or.inr rfl) (hf : X.fn x = true ∨ X.env.scope.names.lookup x = some .local := by first | exact .inl rfl | exact .inr rfl) :
    DS cl X W (.AugAssign (.Name x pos') .Add e pos) (sAug i (fun x y => x + y) fe) := aug_gen i ip_add hN h hi hx hf
theorem ds_aug_sub (i : Nat) {x : Str} {pos' : Pos} (hN : X.N.Nodup) (h : DE cl X W e fe) (hi : X.N[i]? = some x := by rfl) (hx : Loc X.env.scope x := by first | exact Or.inl rfl | exact Or.inr rfl) (hf : X.fn x = true ∨ X.env.scope.names.lookup x = some .local := by first | exact .inl rfl | exact .inr rfl) :
    DS cl X W (.AugAssign (.Name x pos') .Sub e pos) (sAug i (fun x y => x - y) fe) := aug_gen i ip_sub hN h hi hx hf
/-- e alone; return -/
def sDrop (fe : Ev → O R) : Ev → SO := fun env => match fe env with
  | .ok _ => .nx env
  | .ex x => .ex x env
  | .no => .no
theorem ds_expr (h : DE cl X W e fe) (hs : swapsWith e none pos.line X.env = pure false := by rfl) : DS cl X W (.Expr e pos) (sDrop fe) := by
  obtain ⟨t, q, h⟩ := h
  refine ⟨_, ps_expr q hs, fun G0 H0 G H σ env D r z => h G H σ env _ r.toRep ?_⟩
  unfold sDrop at z
  cases h1 : fe env with
  | no => rw [h1] at z; exact z.elim
  | ex x => rw [h1] at z; exact sx_of r z
  | ok r1 => rw [h1] at z; exact fun v G' H' e _ => z G' H' σ (r.go e)
def sRet (fe : Ev → O R) : Ev → SO := fun env => match fe env with
  | .ok (.bo _) => .no
  | .ok r => .rt r
  | .ex x => .ex x env
  | .no => .no
theorem ds_ret (h : DE cl X W e fe) : DS cl X W (.Return (some e) pos) (sRet fe) := by
  obtain ⟨t, q, h⟩ := h
  refine ⟨_, ps_ret q, fun G0 H0 G H σ env D r z => h G H σ env _ r.toRep ?_⟩
  unfold sRet at z
  cases h1 : fe env with
  | no => rw [h1] at z; exact z.elim
  | ex x => rw [h1] at z; exact sx_of r z
  | ok r1 =>
    rw [h1] at z
    cases r1 with
    | bo => exact z.elim
    | sh d => exact fun v G' H' e i => z v G' H' (r.ext.trans e) (i.start r.ext.h)
    | fr l => exact fun v G' H' e i => z v G' H' (r.ext.trans e) (i.start r.ext.h)
/-- return x: what x owns goes out with it -/
def sRetv (i : Nat) : Ev → SO := fun env => match env[i]? with
  | some (some (.sh d)) => .rt (.sh d)
  | some (some l) => .rt (.fr l)
  | _ => .no
theorem ds_retv (i : Nat) {x : Str} {pos' : Pos} (hN : X.N[i]? = some x := by rfl) (hv : Vis X.env.scope x := by first | exact Or.inl rfl | exact Or.inr (Or.inl rfl) | exact Or.inr (Or.inr rfl)) (hd : (x == ("__debug__" : Str)) = false := by decide)
    (hcd : (x == ("__classdict__" : Str)) = false := by decide) : DS cl X W (.Return (some (.Name x pos')) pos) (sRetv i) := by
  refine ⟨_, ps_ret (pe_var hN hv hd hcd), fun G0 H0 G H σ env D r z => ?_⟩
  unfold sRetv at z
  cases h0 : env[i]? with
  | none => rw [h0] at z; exact z.elim
  | some o =>
    rw [h0] at z
    cases o with
    | none => exact z.elim
    | some l =>
      obtain ⟨v, sv, lv⟩ := r.at i l h0
      refine ⟨v, sv, ?_⟩
      have own : l.own = true → SPo cl X W G0 H0 D (.rt (.fr l)) → D.rt v H := fun ho z => by
        obtain ⟨p, rfl, gp, hp⟩ := lv.ref ho
        exact z _ G H r.ext (.fr ho lv (r.new i l p h0 ho sv))
      cases l with
      | sh d => cases lv with | sh lv => exact z v G H r.ext (.sh lv)
      | ow => exact own rfl z
      | oK => exact own rfl z
      | oT => exact own rfl z
      | oI => exact own rfl z
      | oP => exact own rfl z
theorem ds_retN : DS cl X W (.Return none pos) (fun _ => .rt (.sh .non)) := ⟨_, ps_retN, fun G0 H0 G H σ env D r z => z _ G H r.ext (.sh .non)⟩
/-- if -/
def sIf (c : Ev → O Bool) (f g : Ev → SO) : Ev → SO := fun env => match c env with
  | .ok true => f env
  | .ok false => g env
  | .ex x => .ex x env
  | .no => .no
theorem ds_if {fc : Ev → O Bool} {st st2 : List Stmt} (hc : DT cl X W c fc) (h1 : DSs cl X W st f) (h2 : DSs cl X W st2 g) : DS cl X W (.If c st st2 pos) (sIf fc f g) := by
  obtain ⟨t, q, h⟩ := hc
  obtain ⟨t1, q1, h1⟩ := h1
  obtain ⟨t2, q2, h2⟩ := h2
  refine ⟨_, ps_if q q1 q2, fun G0 H0 G H σ env D r z => h G H σ env _ r.toRep ?_⟩
  unfold sIf at z
  cases hc : fc env with
  | no => rw [hc] at z; exact z.elim
  | ex x => rw [hc] at z; exact sx_of r z
  | ok k =>
    rw [hc] at z
    intro G' H' e
    cases k with
    | true => exact h1 G0 H0 G' H' σ env D (r.go e) z
    | false => exact h2 G0 H0 G' H' σ env D (r.go e) z

/-! ### loops -/
def forL (g : D → Ev → Option Ev) (body : Ev → SO) : List D → Ev → SO
  | [], env => .nx env
  | d :: ds, env => match g d env with
    | none => .no
    | some e1 => match body e1 with
      | .nx e2 => forL g body ds e2
      | .ct e2 => forL g body ds e2
      | .bk e2 => .nx e2
      | o => o
def sFor (fi : Ev → O (List D)) (g : D → Ev → Option Ev) (body : Ev → SO) : Ev → SO := fun env => match fi env with
  | .ok ds => forL g body ds env
  | .ex x => .ex x env
  | .no => .no
theorem ds_for {tg iter : Expr} {st : List Stmt} {fi : Ev → O (List D)} {ts : List Nat} {g : D → Ev → Option Ev} {body : Ev → SO} (C : Ctx X W) (hi : DI cl X W tg iter fi) (hg : DG cl X tg ts g) (hb : DSs cl X W st body)
    (hs : ∀ x, foldedSetIterable iter X.env x = pure x := by intro _; rfl) : DS cl X W (.For tg iter st [] pos) (sFor fi g body) := by
  obtain ⟨wi, pi, qi⟩ := hi
  obtain ⟨tg', pg, qg⟩ := hg
  obtain ⟨tb, pb, qb⟩ := hb
  refine ⟨_, ps_for C.hp C.calm pi pg pb hs, fun G0 H0 G H σ env D r z => qi G H σ env _ r.toRep ?_⟩
  unfold sFor at z
  cases h1 : fi env with
  | no => rw [h1] at z; exact z.elim
  | ex x => rw [h1] at z; exact sx_of r z
  | ok ds =>
    rw [h1] at z
    intro J G1 H1 e1 it
    have r1 := r.go e1
    have z1 : SPo cl X W G1 H0 D (forL g body ds env) := SPo.here r1.ext z
    refine ⟨fun i m σ' H' => m = ds.length - i ∧ i ≤ ds.length ∧ ∃ (G' : Hp) (env' : Ev), RepE X.K cl G1 H0 G' H' σ' env' ∧ SPo cl X W G1 H0 D (forL g body (ds.drop i) env'),
      ⟨ds.length, by simp, Nat.zero_le _, G1, env, r1.here, z1⟩, ?_⟩
    rintro i m σ' H' ⟨rfl, hi, G', env', r', z'⟩
    obtain ⟨it1, it2⟩ := it i G' H' r'.ext.g r'.same
    by_cases hlt : i < ds.length
    · have hd : ds[i]? = some ds[i] := List.getElem?_eq_getElem hlt
      obtain ⟨go, yl⟩ := it1 _ hd
      rw [List.drop_eq_getElem_cons hlt] at z'
      refine .inr ⟨go, fun σ2 H2 => ∃ (G2 : Hp) (env2 : Ev), RepE X.K cl G1 H0 G2 H2 σ2 env2 ∧ SPo cl X W G1 H0 D (forL g body (ds.drop (i + 1)) env2), fun σ2 H2 n => ⟨ds.length - (i + 1), by omega, rfl, hlt, n⟩, fun x H2 y => ?_⟩
      obtain ⟨G2, e2, ix⟩ := yl x H2 y
      have r2 := r'.go e2
      unfold forL at z'
      cases h3 : g ds[i] env' with
      | none => rw [h3] at z'; exact z'.elim
      | some env1 =>
        rw [h3] at z'
        dsimp only at z'
        refine qg G2 H2 σ' env' env1 x _ _ r2.toRep ix h3 fun σ3 rep3 k3 => ?_
        have r3 := r2.kept k3 rep3
        refine qb G1 H0 G2 H2 σ3 env1 _ r3 ?_
        cases h4 : body env1 with
        | no => rw [h4] at z'; exact z'.elim
        | nx e2 => rw [h4] at z'; exact fun G H σ r => ⟨G, e2, r, z'⟩
        | ct e2 => rw [h4] at z'; exact fun G H σ r => ⟨G, e2, r, z'⟩
        | bk e2 => rw [h4] at z'; exact z'
        | rt r => rw [h4] at z'; exact z'
        | ex x e2 => rw [h4] at z'; exact z'
    · have e : i = ds.length := by omega
      subst e
      rw [List.drop_length] at z'
      exact .inl ⟨it2 (Nat.le_refl _), z' G' H' σ' r'⟩
def whileL (c : Ev → O Bool) (body : Ev → SO) : Nat → Ev → SO
  | 0, _ => .no
  | n + 1, env => match c env with
    | .ok true => match body env with
      | .nx e => whileL c body n e
      | .ct e => whileL c body n e
      | .bk e => .nx e
      | o => o
    | .ok false => .nx env
    | .ex x => .ex x env
    | .no => .no
theorem ds_while (n : Nat) {st : List Stmt} {fc : Ev → O Bool} {body : Ev → SO} (C : Ctx X W) (hc : DT cl X W c fc) (hb : DSs cl X W st body) : DS cl X W (.While c st [] pos) (whileL fc body n) := by
  obtain ⟨tc, pc, qc⟩ := hc
  obtain ⟨tb, pb, qb⟩ := hb
  refine ⟨_, ps_while C.hp pc pb, fun G0 H0 G H σ env D r z => ?_⟩
  refine ⟨fun m σ' H' => ∃ (G' : Hp) (env' : Ev), RepE X.K cl G0 H0 G' H' σ' env' ∧ SPo cl X W G0 H0 D (whileL fc body m env'), ⟨n, G, env, r, z⟩, ?_⟩
  rintro m σ' H' ⟨G', env', r', z'⟩
  cases m with
  | zero => exact z'.elim
  | succ m =>
    refine qc G' H' σ' env' _ r'.toRep ?_
    unfold whileL at z'
    cases h1 : fc env' with
    | no => rw [h1] at z'; exact z'.elim
    | ex x => rw [h1] at z'; exact sx_of r' z'
    | ok k =>
      rw [h1] at z'
      intro G2 H2 e2
      have r2 := r'.go e2
      cases k with
      | false => exact z' G2 H2 σ' r2
      | true =>
        dsimp only at z'
        refine ⟨fun σ3 H3 => ∃ (G3 : Hp) (env3 : Ev), RepE X.K cl G0 H0 G3 H3 σ3 env3 ∧ SPo cl X W G0 H0 D (whileL fc body m env3), fun σ3 H3 n => ⟨m, Nat.lt_succ_self _, n⟩, ?_⟩
        refine qb G0 H0 G2 H2 σ' env' _ r2 ?_
        cases h4 : body env' with
        | no => rw [h4] at z'; exact z'.elim
        | nx e2 => rw [h4] at z'; exact fun G H σ r => ⟨G, e2, r, z'⟩
        | ct e2 => rw [h4] at z'; exact fun G H σ r => ⟨G, e2, r, z'⟩
        | bk e2 => rw [h4] at z'; exact z'
        | rt r => rw [h4] at z'; exact z'
        | ex x e2 => rw [h4] at z'; exact z'

/-! ### a list of the def's own, changed -/
/-- o.m(e) where o's slot owns a list: what becomes of the items, what is given -/
def sMut (i : Nat) (h : List D → List D → Option (List D)) (ga : Ev → O (List D)) : Ev → SO := fun env => match env[i]?, ga env with
  | some (some (.ow ds)), .ok as => match h ds as with
    | some ds' => .nx (env.set i (some (.ow ds')))
    | none => .no
  | some (some (.ow _)), .ex x => .ex x env
  | _, _ => .no
theorem ow_at (r : RepE X.K cl G0 H0 G H σ env) {i : Nat} {ds : List D} (h0 : env[i]? = some (some (.ow ds))) : ∃ p xs, σ[i]? = some (some (.ref p)) ∧ H p = some (.lst xs) ∧ IsL X.K cl G xs ds ∧ G p = none := by
  obtain ⟨v, sv, lv⟩ := r.at i _ h0
  cases lv with
  | ow g h t => exact ⟨_, _, sv, h, t, g⟩
theorem mut_gen (i : Nat) {x m : Str} {p1 apos cpos : Pos} {id : String} {ga : Ev → O (List D)} {r : V → List V → Hp → VK → Prop} {h : List D → List D → Option (List D)} (slot : PySem.Slot "list" m id) (hty : typeOf (.builtin id) = pure (.type "method_descriptor")) (hm : MtR X id r)
    (hr : ∀ (G H : Hp) (p : Addr) (xs as : List V) (ds da ds' : List D) (Q : VK), H p = some (.lst xs) → IsL X.K cl G xs ds → IsL X.K cl G as da → h ds da = some ds' → (∀ xs' v, IsL X.K cl G xs' ds' → Q v (upd H p (.lst xs'))) → r (.ref p) as H Q)
    (ha : DA cl X W (e :: es) ga) (hi : X.N[i]? = some x) (hv : Vis X.env.scope x) (hd : (x == ("__debug__" : Str)) = false) (hcd : (x == ("__classdict__" : Str)) = false)
    (hbase : attributeBase (.Name x p1) m X.env (eval (.Name x p1) X.env) = eval (.Name x p1) X.env)
    (hfew : ((backTo cpos (starEach (e :: es) X.env)).all (fun x => !x.1) && (backToKw cpos (keywordEach [] X.env)).all (fun x => x.1.isSome)
      && decide ((e :: es).length + ([] : List Keyword).length + (if ([] : List Keyword).isEmpty then 0 else 1) < 30)) = true)
    (hline : (apos.endLine == cpos.line) = true) (hs : starEach (e :: es) X.env = (false, eval e X.env) :: starEach es X.env) (hplain : (backTo cpos (starEach es X.env)).any (·.1) = false) (hsw : swapsWith (.Call (.Attribute (.Name x p1) m apos) (e :: es) [] cpos) none pos.line X.env = pure false) :
    DS cl X W (.Expr (.Call (.Attribute (.Name x p1) m apos) (e :: es) [] cpos) pos) (sMut i h ga) := by
  obtain ⟨t, q, ha⟩ := ha
  refine ⟨_, ps_expr (pe_bm PySem.F.plainAttrs_list slot hty hm (pe_var hi hv hd hcd) q hbase hfew hline hs hplain) hsw, fun G0 H0 G H σ env D r z => ?_⟩
  unfold sMut at z
  cases h0 : env[i]? with
  | none => rw [h0] at z; exact z.elim
  | some o =>
    rw [h0] at z
    cases o with
    | none => exact z.elim
    | some l =>
      cases l with
      | ow ds =>
        obtain ⟨p, xs, sp, hp, ix, gp⟩ := ow_at r h0
        refine ⟨_, sp, .inl ⟨rfl, _, .of hp⟩, ha G H σ env _ r.toRep ?_⟩
        cases h1 : ga env with
        | no => rw [h1] at z; exact z.elim
        | ex x => rw [h1] at z; exact sx_of r z
        | ok as =>
          rw [h1] at z
          intro vs G' H' e2 ia
          dsimp only at z
          cases h2 : h ds as with
          | none => rw [h2] at z; exact z.elim
          | some ds' =>
            rw [h2] at z
            have r2 := r.go e2
            refine hr G' H' p xs vs ds as ds' _ (e2.h _ _ hp) (ix.mono e2.g) ia h2 fun xs' v i' => ?_
            exact z G' _ σ (r2.mut h0 rfl sp (.ow (e2.n p (by rw [hp]; simp) gp) upd_same i'))
      | _ => exact z.elim
def hAppend : List D → List D → Option (List D)
  | ds, [d] => if ds.length < lim then some (ds ++ [d]) else none
  | _, _ => none
theorem ds_append (i : Nat) {x : Str} {p1 apos cpos : Pos} {ga : Ev → O (List D)} (ha : DA cl X W [e] ga) (hi : X.N[i]? = some x := by rfl) (hv : Vis X.env.scope x := by first | exact Or.inl rfl | exact Or.inr (Or.inl rfl) | exact Or.inr (Or.inr rfl)) (hd : (x == ("__debug__" : Str)) = false := by decide) (hcd : (x == ("__classdict__" : Str)) = false := by decide)
    (hbase : attributeBase (.Name x p1) "append" X.env (eval (.Name x p1) X.env) = eval (.Name x p1) X.env := by rfl)
    (hfew : ((backTo cpos (starEach [e] X.env)).all (fun x => !x.1) && (backToKw cpos (keywordEach [] X.env)).all (fun x => x.1.isSome)
      && decide ([e].length + ([] : List Keyword).length + (if ([] : List Keyword).isEmpty then 0 else 1) < 30)) = true := by rfl)
    (hline : (apos.endLine == cpos.line) = true := by rfl) (hs : starEach [e] X.env = (false, eval e X.env) :: starEach [] X.env := by rfl) (hplain : (backTo cpos (starEach [] X.env)).any (·.1) = false := by rfl) (hsw : swapsWith (.Call (.Attribute (.Name x p1) "append" apos) [e] [] cpos) none pos.line X.env = pure false := by rfl) :
    DS cl X W (.Expr (.Call (.Attribute (.Name x p1) "append" apos) [e] [] cpos) pos) (sMut i hAppend ga) := by
  refine mut_gen i PySem.F.slot_list_append PySem.F.type_list_append mt_append (fun G H p xs as ds da ds' Q hp ix ia hh k => ?_) ha hi hv hd hcd hbase hfew hline hs hplain hsw
  match da, ia, hh with
  | [d], .cons id .nil, hh =>
    simp only [hAppend] at hh
    split at hh
    · cases hh
      exact ⟨p, xs, _, rfl, rfl, hp, by rw [lim_eq, ix.length]; assumption, k _ _ (ix.append (.one id))⟩
    · cases hh
  | [], _, hh => cases hh
  | _ :: _ :: _, _, hh => cases hh
/-- xs[i] = e -/
def sPutL (j : Nat) (fi fe : Ev → O R) : Ev → SO := fun env => match (fe env).bind R.fz with
  | .ok d => match env[j]?, fi env with
    | some (some (.ow ds)), .ok r => match r.d with
      | .int k => match ixN ds.length k with
        | some n => .nx (env.set j (some (.ow (ds.set n d))))
        | none => .no
      | _ => .no
    | some (some (.ow _)), .ex x => .ex x env
    | _, _ => .no
  | .ex x => .ex x env
  | .no => .no
theorem ds_putL (j : Nat) {x : Str} {i : Expr} {fi : Ev → O R} {p1 p2 : Pos} (he : DE cl X W e fe) (hi : DE cl X W i fi) (hx : X.N[j]? = some x := by rfl) (hv : Vis X.env.scope x := by first | exact Or.inl rfl | exact Or.inr (Or.inl rfl) | exact Or.inr (Or.inr rfl)) (hd : (x == ("__debug__" : Str)) = false := by decide) (hcd : (x == ("__classdict__" : Str)) = false := by decide)
    (hsv : ∀ v, assign (.Subscript (.Name x p1) i p2) X.env v = (do
      let ov ← holding [v] (eval (.Name x p1) X.env)
      let iv ← holding [v, ov] (eval i X.env)
      standAt p2
      holding [v, ov, iv] (setItem ov iv v)
      release [v, ov, iv] []) := by intro _; rfl)
    (hs : swapsWithSole [.Subscript (.Name x p1) i p2] e pos.line X.env = pure false := by rfl) (hw : swappedStores [.Subscript (.Name x p1) i p2] e X.env = pure none := by rfl)
    (h1 : (assignEach [.Subscript (.Name x p1) i p2] X.env).map (·.2) = [assign (.Subscript (.Name x p1) i p2) X.env] := by rfl) : DS cl X W (.Assign [.Subscript (.Name x p1) i p2] e pos) (sPutL j fi fe) := by
  obtain ⟨t, q, h⟩ := he.fz
  obtain ⟨t2, q2, h2⟩ := hi.vw
  refine ⟨_, ps_asg q (pg_sub (pe_var hx hv hd hcd) q2 set_list hsv) hs hw h1, fun G0 H0 G H σ env D r z => h G H σ env _ r.toRep ?_⟩
  unfold sPutL at z
  cases h3 : (fe env).bind R.fz with
  | no => rw [h3] at z; exact z.elim
  | ex x => rw [h3] at z; exact sx_of r z
  | ok d =>
    rw [h3] at z
    intro v G1 H1 e1 iv
    dsimp only at z
    cases h0 : env[j]? with
    | none => rw [h0] at z; exact z.elim
    | some o =>
      rw [h0] at z
      cases o with
      | none => exact z.elim
      | some l =>
        cases l with
        | ow ds =>
          have r1 := r.go e1
          obtain ⟨p, xs, sp, hp, ix, gp⟩ := ow_at r1 h0
          refine ⟨_, sp, h2 G1 H1 σ env _ r1.toRep ?_⟩
          cases h4 : fi env with
          | no => rw [h4] at z; exact z.elim
          | ex x => rw [h4] at z; exact sx_of r1 z
          | ok ri =>
            rw [h4] at z
            intro w G2 H2 e2 iw
            dsimp only at z
            cases hri : ri.d with
            | int k =>
              rw [hri] at z iw
              dsimp only at z
              cases hk : ixN ds.length k with
              | none => rw [hk] at z; exact z.elim
              | some n =>
                rw [hk] at z
                have r2 := r1.go e2
                refine ⟨p, xs, k, n, rfl, iw.int, e2.h _ _ hp, by rw [ix.length]; exact hk, ?_⟩
                exact z G2 _ σ (r2.mut h0 rfl sp (.ow (e2.n p (by rw [hp]; simp) gp) upd_same ((ix.mono e2.g).set n (iv.mono e2.g))))
            | _ => rw [hri] at z; exact z.elim
        | _ => exact z.elim
/-! ### a def -/
def fnD (n k : Nat) (body : Ev → SO) : List D → O R := fun ds => if ds.length = k then match body (ds.map (fun d => some (.sh d)) ++ List.replicate (n - k) none) with
  | .rt r => .ok r
  | .nx _ => .ok (.sh .non)
  | .ex x _ => .ex x
  | _ => .no
  else .no
theorem fnD_ary (n k : Nat) (body : Ev → SO) : Ary k (fnD n k body) := fun ds h => by unfold fnD; rw [if_neg h]
theorem rep_start {K : PySem.W.Frag} {N : List Str} {vs : List V} {ds : List D} {G H : Hp} (s : Same G H) (i : IsL K cl G vs ds) : RepE K cl G H G H (L2.start N vs) (ds.map (fun d => some (.sh d)) ++ List.replicate (N.length - ds.length) none) := by
  have nw : ∀ (j : Nat) (l : L), (ds.map (fun d => some (L.sh d)) ++ List.replicate (N.length - ds.length) none)[j]? = some (some l) → ∃ d, ds[j]? = some d ∧ l = .sh d := by
    intro j l h
    by_cases hj : j < ds.length
    · rw [List.getElem?_append_left (by simpa using hj), List.getElem?_map] at h
      obtain ⟨d, hd, e⟩ := Option.map_eq_some_iff.mp h
      cases e
      exact ⟨d, hd, rfl⟩
    · rw [List.getElem?_append_right (by simpa using hj), List.getElem?_replicate] at h
      split at h <;> cases h
  refine ⟨⟨s, ?_, fun j l h => ?_, fun j k l l' v hj hk oj => ?_⟩, .refl s, fun j l p hj oj => ?_⟩
  · unfold L2.start
    simp only [List.length_append, List.length_map, List.length_replicate]
    rw [i.length]
  · obtain ⟨d, hd, rfl⟩ := nw j l h
    obtain ⟨v, hv, iv⟩ := i.get hd
    refine ⟨v, ?_, .sh iv⟩
    unfold L2.start
    have hl : j < vs.length := (List.getElem?_eq_some_iff.mp hv).1
    rw [List.getElem?_append_left (by simpa using hl), List.getElem?_map, hv]
    rfl
  · obtain ⟨d, _, rfl⟩ := nw j l hj
    cases oj
  · obtain ⟨d, _, rfl⟩ := nw j l hj
    cases oj
theorem fn_D {P : Program} {w : World} {K : PySem.W.Frag} {mg : Str → Option Value} {base : Heap} {x qual : Str} {st : Stmt} {f : Addr} {fd : FuncData} {N ps : List Str} {k np : Nat} {body : Ev → SO} (F : Fun K x qual st f fd) (S : FnScope N ps (defScope st)) (hp : ps.length = np)
    (hb : ∀ (cdv : Value) (A : Around) (outer : List PySem.Env) (s : Shared) (H : Hp) (E : XK), Room k (A.deeper (PyProof.Rows.envOfC qual (defScope st) s.heap.objs.size f cdv)) → Ctx (cxOf (L2.CX P w) P w K mg base N qual (defScope st) f cdv A outer s H E) (fun c d _ H => E c d H) →
      DSs cl (cxOf (L2.CX P w) P w K mg base N qual (defScope st) f cdv A outer s H E) (fun c d _ H => E c d H) (defBody st) body) : FnOk P w K mg base (L2.CX P w) (k + 1) f fd ps (spD cl K np (fnD N.length np body)) := by
  refine F.okX S (fun vs H Q E h => h.1.trans hp.symm) fun cdv A outer s H vs Q E hr h => ?_
  obtain ⟨hl, G, ds, sm, i, h⟩ := h
  obtain ⟨t, q, hd⟩ := hb cdv A outer s H E hr ⟨rfl, S.nd, passes_of rfl, takes_of rfl rfl rfl rfl⟩
  refine ⟨t, q, hd G H G H _ _ _ (rep_start sm i) ?_⟩
  have hdl : ds.length = np := by rw [← i.length]; exact hl
  unfold fnD at h
  rw [if_pos hdl] at h
  rw [hdl]
  cases hbd : body (ds.map (fun d => some (L.sh d)) ++ List.replicate (N.length - np) none) with
  | nx e => rw [hbd] at h; exact fun G' H' σ' r => h .non G' H' r.ext (.sh .non)
  | bk e => rw [hbd] at h; exact h.elim
  | ct e => rw [hbd] at h; exact h.elim
  | rt r => rw [hbd] at h; exact fun v G' H' e ir => h v G' H' e ir
  | ex x e => rw [hbd] at h; exact fun c d G' H' σ' r ix => h c d G' H' r.ext ix
  | no => rw [hbd] at h; exact h.elim
end
end DL

/-! DLg: defs by name, calls that lend, isinstance. -/
namespace DL
open PySem PySem.Spec L2

/-- the def of that name keeps the promise F -/
structure DF (P : Program) (w : World) (K : PySem.W.Frag) (mg : Str → Option Value) (base : Heap) (cl : Nat → Addr) (x : Str) (k n : Nat) (F : List D → O R) : Prop where
  ex : ∃ (f : Addr) (fd : FuncData) (ps : List Str), FnOk P w K mg base (L2.CX P w) k f fd ps (spD cl K n F) ∧ mg x = some (.ref f) ∧ PySem.W.keepIn K (.ref f) = true ∧ Binds K fd ps []
  ary : Ary n F
/-- the method m of the class of the tag c -/
structure DM (P : Program) (w : World) (K : PySem.W.Frag) (mg : Str → Option Value) (base : Heap) (cl : Nat → Addr) (c : Nat) (m : Str) (k n : Nat) (F : List D → O R) : Prop where
  ex : ∃ (f : Addr) (fd : FuncData) (ps : List Str), FnOk P w K mg base (L2.CX P w) k f fd ps (spD cl K n F) ∧ Meth K (cl c) m f ∧ Binds K fd ps []
  cls : Cls K (cl c)
  ary : Ary n F
theorem fnok_no {P : Program} {w : World} {K : PySem.W.Frag} {mg : Str → Option Value} {base : Heap} {cl : Nat → Addr} {k n : Nat} {f : Addr} {fd : FuncData} {ps : List Str} {CX : CXT} (hp : ps.length = n) : FnOk P w K mg base CX k f fd ps (spD cl K n (fun _ => .no)) :=
  ⟨fun vs H Q E h => h.1.trans hp.symm, fun A outer s H args us vs Q E hr he hb hv h => by obtain ⟨_, G, ds, _, _, h⟩ := h; exact h.elim⟩
section
variable {cl : Nat → Addr} {X : Cx} {W : WX} {e a b c o : Expr} {es : List Expr} {fe fa fb fc fo : Ev → O R} {pos p p2 apos : Pos}
theorem de_callF {k n : Nat} {x : Str} {F : List D → O R} {g : Ev → O (List D)} (h : DF X.prog X.w X.K X.mg X.base cl x k n F) (hr : Room k X.A) (tk : Takes X W) (ha : DA cl X W (e :: es) g) (hg : Gl X x := by rfl)
    (hdb : (x == ("__debug__" : Str)) = false := by decide) (he : starEach (e :: es) X.env = (false, eval e X.env) :: starEach es X.env := by rfl) (hpl : (backTo pos (starEach es X.env)).any (·.1) = false := by rfl) :
    DE cl X W (.Call (.Name x p) (e :: es) [] pos) (fCall F g) := by
  obtain ⟨f, fd, ps, ok, hm, hk, hb⟩ := h.ex
  exact de_call h.ary ok hr tk hm hk hb ha hg hdb he hpl
theorem pe_callS0 {k : Nat} {f : Addr} {fd : FuncData} {ps : List Str} {sp : Sp} {x : Str} {E : L2.St → XK} (F : FnOk X.prog X.w X.K X.mg X.base (L2.CX X.prog X.w) k f fd ps sp) (hr : Room k X.A) (hg : Gl X x) (hm : X.mg x = some (.ref f)) (hk : PySem.W.keepIn X.K (.ref f) = true) (hb : Binds X.K fd ps [])
    (hx : ∀ σ, PassesAt (L2.CX X.prog X.w) X σ (E σ)) (hdb : (x == ("__debug__" : Str)) = false) : PE X (.Call (.Name x p) [] [] pos) (fun σ H Q => sp [] H Q (E σ)) :=
  ⟨fun pins s σ H Q I h => wpAny_Call_Name_kw (ld_glob I hg hm (PySem.W.callWith_K0 I.kIn hk (run_fnS (us := []) F hr hb (hx σ) I .nil h)) hdb)⟩
theorem de_callF0 {k : Nat} {x : Str} {F : List D → O R} (h : DF X.prog X.w X.K X.mg X.base cl x k 0 F) (hr : Room k X.A) (tk : Takes X W) (hg : Gl X x := by rfl) (hdb : (x == ("__debug__" : Str)) = false := by decide) :
    DE cl X W (.Call (.Name x p) [] [] pos) (fCall F aNil) := by
  obtain ⟨f, fd, ps, ok, hm, hk, hb⟩ := h.ex
  refine ⟨_, pe_callS0 (E := WE W) ok hr hg hm hk hb (fun σ => passAt tk σ) hdb, fun G H σ env Q rep z => ?_⟩
  exact call_of (h.ary.len (EPo.ne z)) (.refl rep.same) .nil z
/-- a call whose arguments are lent: what comes is flat -/
def fCallB (F : List D → O R) (g : Ev → O (List D)) : Ev → O R := fun env => (g env).bind fun ds => match F ds with
  | .ok (.sh d) => if flatD d = true then .ok (.sh d) else .no
  | _ => .no
theorem Vw.isH {G H : Hp} {v : V} {d : D} (s : Same G H) (h : Vw X.K cl G H v d) : Is X.K cl H v d := by
  cases h with
  | of h => exact h.mono s
  | lst h t => exact .lst h (t.mono s)
  | dK h q t => exact .dK h q (t.mono s)
  | dT h q t => exact .dT h q (t.mono s)
  | ins h q t => exact .ins h q (t.mono s)
theorem VwL.isH {G H : Hp} (s : Same G H) : ∀ {vs : List V} {ds : List D}, VwL cl X G H vs ds → IsL X.K cl H vs ds
  | _, _, .nil => .nil
  | _, _, .cons h t => .cons (Vw.isH s h) (VwL.isH s t)
theorem flat_any {K : PySem.W.Frag} {G G' : Hp} {v : V} {d : D} (h : Is K cl G v d) (f : flatD d = true) : Is K cl G' v d := by
  cases h <;> first | exact .non | exact .bl _ | exact .int _ | exact .str _ | cases f
theorem lent_of {n : Nat} {F : List D → O R} {G H G1 H1 : Hp} {σ : L2.St} {Q : VK} {vs : List V} {ds : List D} (A : Ary n F) (e : Ext G H G1 H1) (i : VwL cl X G1 H1 vs ds)
    (z : EPo cl X W G H σ Q (match F ds with | .ok (.sh d) => if flatD d = true then .ok (.sh d) else .no | _ => .no)) : spD cl X.K n F vs H1 Q (WE W σ) := by
  have i1 := VwL.isH e.i i
  have hne : F ds ≠ .no := fun q => by rw [q] at z; exact z.elim
  refine ⟨by rw [i1.length]; exact A.len hne, H1, ds, .refl _, i1, ?_⟩
  cases h : F ds with
  | no => exact absurd h hne
  | ex x => rw [h] at z; exact z.elim
  | ok r =>
    rw [h] at z
    cases r with
    | fr => exact z.elim
    | bo => exact z.elim
    | sh d =>
      dsimp only at z
      split at z
      · rename_i hf
        intro v G' H' e' ir
        cases ir with
        | sh ir =>
          have e2 : Ext G1 H1 G1 H' := ⟨.refl _, e'.h, e.i.trans e'.h, fun _ _ h => h⟩
          exact z v G1 H' (e.trans e2) (.sh (flat_any ir hf))
      · exact z.elim
theorem de_callB {k n : Nat} {x : Str} {F : List D → O R} {g : Ev → O (List D)} (h : DF X.prog X.w X.K X.mg X.base cl x k n F) (hr : Room k X.A) (tk : Takes X W) (ha : DAv cl X W (e :: es) g) (hg : Gl X x := by rfl)
    (hdb : (x == ("__debug__" : Str)) = false := by decide) (he : starEach (e :: es) X.env = (false, eval e X.env) :: starEach es X.env := by rfl) (hpl : (backTo pos (starEach es X.env)).any (·.1) = false := by rfl) :
    DE cl X W (.Call (.Name x p) (e :: es) [] pos) (fCallB F g) := by
  obtain ⟨f, fd, ps, ok, hm, hk, hb⟩ := h.ex
  obtain ⟨t, q, ha⟩ := ha
  refine ⟨_, pe_callS ok hr hg hm hk hb (fun σ => passAt tk σ) q hdb he hpl, fun G H σ env Q rep z => ha G H σ env _ rep ?_⟩
  unfold fCallB at z
  cases h1 : g env with
  | no => rw [h1] at z; exact z.elim
  | ex x => rw [h1] at z; exact z
  | ok ds => rw [h1] at z; exact fun vs G1 H1 e1 i1 => lent_of h.ary e1 i1 z
theorem de_methF {c : Nat} {m : Str} {k n : Nat} {F : List D → O R} {g : Ev → O (List D)} {pl : Sem Bool} (h : DM X.prog X.w X.K X.mg X.base cl c m k n F) (hr : Room k X.A) (tk : Takes X W) (ho : DE cl X W o fo) (ha : DA cl X W (e :: es) g)
    (hst : starEach (e :: es) X.env = (false, eval e X.env) :: starEach es X.env := by rfl) (hpl : (backTo pos (starEach es X.env)).any (·.1) = false := by rfl)
    (ht : eval (.Call (.Attribute o m apos) (e :: es) [] pos) X.env = (do
      let ov ← eval o X.env
      standAt apos.atName
      let (f, first) ← holding [ov] (getMethod ov m pl)
      callWith pos f first (backTo pos (starEach (e :: es) X.env)) (backToKw pos (keywordEach [] X.env))) := by rfl) :
    DE cl X W (.Call (.Attribute o m apos) (e :: es) [] pos) (fMeth c m F fo g) := by
  obtain ⟨f, fd, ps, ok, hm, hb⟩ := h.ex
  exact de_meth h.ary h.cls hm ok hr tk hb ho ha hst hpl ht
theorem de_methF0 {c : Nat} {m : Str} {k n : Nat} {F : List D → O R} {pl : Sem Bool} (h : DM X.prog X.w X.K X.mg X.base cl c m k n F) (hr : Room k X.A) (tk : Takes X W) (ho : DE cl X W o fo)
    (ht : eval (.Call (.Attribute o m apos) [] [] pos) X.env = (do
      let ov ← eval o X.env
      standAt apos.atName
      let (f, first) ← holding [ov] (getMethod ov m pl)
      callWith pos f first (backTo pos (starEach [] X.env)) (backToKw pos (keywordEach [] X.env))) := by rfl) :
    DE cl X W (.Call (.Attribute o m apos) [] [] pos) (fMeth c m F fo aNil) := by
  obtain ⟨f, fd, ps, ok, hm, hb⟩ := h.ex
  exact de_meth0 h.ary h.cls hm ok hr tk hb ho ht

/-! ### isinstance with a built-in class -/
def D.ty : D → Option String
  | .non => some "NoneType"
  | .bl _ => some "bool"
  | .int _ => some "int"
  | .str _ => some "str"
  | .lst _ => some "list"
  | .tup _ => some "tuple"
  | _ => none
theorem vw_ty {G H : Hp} {v : V} {d : D} {t : String} (s : Same G H) (h : Vw X.K cl G H v d) (e : d.ty = some t) : TyX X.K H v (.type t) := by
  cases d with
  | non => cases e; rw [h.non]; exact .base .non
  | bl b => cases e; rw [h.bl]; exact .base (.bl b)
  | int i => cases e; rw [h.int]; exact .base (.int i)
  | str x => cases e; rw [h.str]; exact .base (.str x)
  | lst ds => cases e; obtain ⟨p, xs, rfl, hp, _⟩ := h.list s; exact .base (.lst hp)
  | tup ds => cases e; obtain ⟨p, xs, rfl, hp, _⟩ := h.tuple s; exact .base (.tup hp)
  | _ => cases e
def dIsi (T : String) (d : D) : Option R := d.ty.bind fun t => (kitB t T).map fun b => .sh (.bl b)
theorem de_isi {T : String} {y : Str} (hm : X.mg "isinstance" = none) (h : DE cl X W e fe) (hT : X.mg y = none) (hv : bootBuiltins y = some (.type T) := by decide +kernel) (hg : Gl X "isinstance" := by rfl) (hgy : Gl X y := by rfl)
    (hn : y ≠ "__name__" := by decide) (hdb : (y == ("__debug__" : Str)) = false := by decide)
    (he : starEach [e, .Name y p2] X.env = (false, eval e X.env) :: starEach [.Name y p2] X.env := by rfl) (he2 : starEach [.Name y p2] X.env = (false, eval (.Name y p2) X.env) :: starEach [] X.env := by rfl) (hpl : (backTo pos (starEach [.Name y p2] X.env)).any (·.1) = false := by rfl) :
    DE cl X W (.Call (.Name "isinstance" p) [e, .Name y p2] [] pos) (fMap (dIsi T) fe) := by
  obtain ⟨t, q, h⟩ := h.vw
  refine ⟨_, pe_callB call_isi hg hm (by decide +kernel) (pa_cons q (pa_cons (pe_bltn (v := .ty T) hgy hT hv rfl hn hdb) pa_nil he2) he) (by decide) (by decide) he hpl, fun G H σ env Q rep z => h G H σ env _ rep ?_⟩
  unfold fMap at z
  cases h1 : fe env with
  | no => rw [h1] at z; exact z.elim
  | ex x => rw [h1] at z; exact z
  | ok r =>
    rw [h1] at z
    intro v G' H' e1 i1
    have z : EPo cl X W G H σ Q (O.of (dIsi T r.d)) := z
    unfold dIsi at z
    cases h2 : r.d.ty with
    | none => rw [h2] at z; exact z.elim
    | some t =>
      rw [h2, Option.bind_some] at z
      cases h3 : kitB t T with
      | none => rw [h3] at z; exact z.elim
      | some k =>
        rw [h3] at z
        exact ⟨v, .ty T, .type t, .type T, k, rfl, .ty T, vw_ty e1.i i1 h2, kit_ty h3, z _ G' H' e1 (.sh (.bl _))⟩
end
end DL

/-! DLh: further changes of lists, dicts, instances. -/
namespace DL
open PySem PySem.Spec L2
section
variable {cl : Nat → Addr} {X : Cx} {W : WX} {e a b c o : Expr} {es : List Expr} {st : Stmt} {rest : List Stmt} {fe fa fb fc fo fi : Ev → O R} {f g : Ev → SO} {pos p p1 p2 apos cpos : Pos}
variable {G0 H0 G H G1 H1 : Hp} {σ : L2.St} {env : Ev}

theorem ds_never : DS cl X W st (fun _ => .no) := ⟨_, ps_never, fun G0 H0 G H σ env D r z => z.elim⟩

theorem ds_insert (i : Nat) {x : Str} {ga : Ev → O (List D)} (ha : DA cl X W [a, b] ga) (hi : X.N[i]? = some x := by rfl) (hv : Vis X.env.scope x := by first | exact Or.inl rfl | exact Or.inr (Or.inl rfl) | exact Or.inr (Or.inr rfl)) (hd : (x == ("__debug__" : Str)) = false := by decide) (hcd : (x == ("__classdict__" : Str)) = false := by decide)
    (hbase : attributeBase (.Name x p1) "insert" X.env (eval (.Name x p1) X.env) = eval (.Name x p1) X.env := by rfl)
    (hfew : ((backTo cpos (starEach [a, b] X.env)).all (fun x => !x.1) && (backToKw cpos (keywordEach [] X.env)).all (fun x => x.1.isSome)
      && decide ([a, b].length + ([] : List Keyword).length + (if ([] : List Keyword).isEmpty then 0 else 1) < 30)) = true := by rfl)
    (hline : (apos.endLine == cpos.line) = true := by rfl) (hs : starEach [a, b] X.env = (false, eval a X.env) :: starEach [b] X.env := by rfl) (hplain : (backTo cpos (starEach [b] X.env)).any (·.1) = false := by rfl) (hsw : swapsWith (.Call (.Attribute (.Name x p1) "insert" apos) [a, b] [] cpos) none pos.line X.env = pure false := by rfl) :
    DS cl X W (.Expr (.Call (.Attribute (.Name x p1) "insert" apos) [a, b] [] cpos) pos) (sMut i (fun ds as => match as with
      | [.int k, d] => if 0 ≤ k ∧ k < 2 ^ 63 ∧ ds.length < lim then some (ds.take k.toNat ++ [d] ++ ds.drop k.toNat) else none
      | _ => none) ga) := by
  refine mut_gen i PySem.F.slot_list_insert PySem.F.type_list_insert mt_insert (fun G H p xs as ds da ds' Q hp ix ia hh k => ?_) ha hi hv hd hcd hbase hfew hline hs hplain hsw
  split at hh
  · rename_i n d
    cases ia with
    | cons i1 it =>
      cases i1
      cases it with
      | cons i2 it =>
        cases it
        split at hh
        · rename_i hc
          cases hh
          exact ⟨p, xs, n, _, rfl, rfl, hp, by rw [lim_eq, ix.length]; exact hc.2.2, hc.1, hc.2.1, k _ _ (((ix.take _).append (.one i2)).append (ix.drop _))⟩
        · cases hh
  · cases hh
def hInsert : List D → List D → Option (List D) := fun ds as => match as with
  | [.int k, d] => if 0 ≤ k ∧ k < 2 ^ 63 ∧ ds.length < lim then some (ds.take k.toNat ++ [d] ++ ds.drop k.toNat) else none
  | _ => none
def hRemove : List D → List D → Option (List D) := fun ds as => match as, D.ints ds with
  | [.int k], some ns => match ns.idxOf? k with
    | some j => some ((ns.eraseIdx j).map .int)
    | none => none
  | _, _ => none
theorem idxOf_some : ∀ {ns : List Int} {k : Int} {j : Nat}, ns.idxOf? k = some j → ns[j]? = some k ∧ ∀ m : Nat, m < j → ns[m]? ≠ some k
  | [], k, j, h => by simp [List.idxOf?] at h
  | n :: ns, k, j, h => by
    rw [List.idxOf?_cons] at h
    split at h
    · rename_i e
      cases h
      exact ⟨by simp at e; simp [e], fun m hm => by omega⟩
    · rename_i e
      obtain ⟨j', h', rfl⟩ := Option.map_eq_some_iff.mp h
      obtain ⟨a, b⟩ := idxOf_some h'
      refine ⟨by simpa using a, fun m hm => ?_⟩
      cases m with
      | zero => simp at e ⊢; exact e
      | succ m => simpa using b m (by omega)
theorem ds_remove (i : Nat) {x : Str} {ga : Ev → O (List D)} (ha : DA cl X W [a] ga) (hi : X.N[i]? = some x := by rfl) (hv : Vis X.env.scope x := by first | exact Or.inl rfl | exact Or.inr (Or.inl rfl) | exact Or.inr (Or.inr rfl)) (hd : (x == ("__debug__" : Str)) = false := by decide) (hcd : (x == ("__classdict__" : Str)) = false := by decide)
    (hbase : attributeBase (.Name x p1) "remove" X.env (eval (.Name x p1) X.env) = eval (.Name x p1) X.env := by rfl)
    (hfew : ((backTo cpos (starEach [a] X.env)).all (fun x => !x.1) && (backToKw cpos (keywordEach [] X.env)).all (fun x => x.1.isSome)
      && decide ([a].length + ([] : List Keyword).length + (if ([] : List Keyword).isEmpty then 0 else 1) < 30)) = true := by rfl)
    (hline : (apos.endLine == cpos.line) = true := by rfl) (hs : starEach [a] X.env = (false, eval a X.env) :: starEach [] X.env := by rfl) (hplain : (backTo cpos (starEach [] X.env)).any (·.1) = false := by rfl) (hsw : swapsWith (.Call (.Attribute (.Name x p1) "remove" apos) [a] [] cpos) none pos.line X.env = pure false := by rfl) :
    DS cl X W (.Expr (.Call (.Attribute (.Name x p1) "remove" apos) [a] [] cpos) pos) (sMut i hRemove ga) := by
  refine mut_gen i PySem.F.slot_list_remove PySem.F.type_list_remove mt_remove (fun G H p xs as ds da ds' Q hp ix ia hh k => ?_) ha hi hv hd hcd hbase hfew hline hs hplain hsw
  unfold hRemove at hh
  split at hh
  · rename_i n ns hn
    cases ia with
    | cons i1 it =>
      cases i1
      cases it
      split at hh
      · rename_i j hj
        cases hh
        obtain ⟨h1, h2⟩ := idxOf_some hj
        rw [ints_eq hn] at ix
        have ex := ix.ints
        exact ⟨p, ns, n, j, rfl, rfl, by rw [← ex]; exact hp, h1, h2, k _ _ isl_ints⟩
      · cases hh
  · cases hh
def sClear (i : Nat) : Ev → SO := fun env => match env[i]? with
  | some (some (.ow _)) => .nx (env.set i (some (.ow [])))
  | _ => .no
theorem ds_clear (i : Nat) {x : Str} (hi : X.N[i]? = some x := by rfl) (hv : Vis X.env.scope x := by first | exact Or.inl rfl | exact Or.inr (Or.inl rfl) | exact Or.inr (Or.inr rfl)) (hd : (x == ("__debug__" : Str)) = false := by decide) (hcd : (x == ("__classdict__" : Str)) = false := by decide)
    (hbase : attributeBase (.Name x p1) "clear" X.env (eval (.Name x p1) X.env) = eval (.Name x p1) X.env := by rfl) (hline : (apos.endLine == cpos.line) = true := by rfl) (hsw : swapsWith (.Call (.Attribute (.Name x p1) "clear" apos) [] [] cpos) none pos.line X.env = pure false := by rfl) :
    DS cl X W (.Expr (.Call (.Attribute (.Name x p1) "clear" apos) [] [] cpos) pos) (sClear i) := by
  refine ⟨_, ps_expr (pe_bm0 PySem.F.plainAttrs_list PySem.F.slot_list_clear PySem.F.type_list_clear mt_clear (pe_var hi hv hd hcd) hbase hline) hsw, fun G0 H0 G H σ env D r z => ?_⟩
  unfold sClear at z
  cases h0 : env[i]? with
  | none => rw [h0] at z; exact z.elim
  | some o =>
    rw [h0] at z
    cases o with
    | none => exact z.elim
    | some l =>
      cases l with
      | ow ds =>
        obtain ⟨p, xs, sp, hp, ix, gp⟩ := ow_at r h0
        exact ⟨_, sp, .inl ⟨rfl, _, .of hp⟩, p, xs, rfl, rfl, hp, z G _ σ (r.mut h0 rfl sp (.ow gp upd_same .nil))⟩
      | _ => exact z.elim
def sExtend (i : Nat) (fe : Ev → O R) : Ev → SO := fun env => match env[i]?, fe env with
  | some (some (.ow ds)), .ok r => match r.d with
    | .lst es => if ds.length + es.length ≤ lim then .nx (env.set i (some (.ow (ds ++ es)))) else .no
    | _ => .no
  | some (some (.ow _)), .ex x => .ex x env
  | _, _ => .no
theorem ds_extend (i : Nat) {x : Str} (he : DE cl X W e fe) (hi : X.N[i]? = some x := by rfl) (hv : Vis X.env.scope x := by first | exact Or.inl rfl | exact Or.inr (Or.inl rfl) | exact Or.inr (Or.inr rfl)) (hd : (x == ("__debug__" : Str)) = false := by decide) (hcd : (x == ("__classdict__" : Str)) = false := by decide)
    (hbase : attributeBase (.Name x p1) "extend" X.env (eval (.Name x p1) X.env) = eval (.Name x p1) X.env := by rfl)
    (hfew : ((backTo cpos (starEach [e] X.env)).all (fun x => !x.1) && (backToKw cpos (keywordEach [] X.env)).all (fun x => x.1.isSome)
      && decide ([e].length + ([] : List Keyword).length + (if ([] : List Keyword).isEmpty then 0 else 1) < 30)) = true := by rfl)
    (hline : (apos.endLine == cpos.line) = true := by rfl) (hs : starEach [e] X.env = (false, eval e X.env) :: starEach [] X.env := by rfl) (hplain : (backTo cpos (starEach [] X.env)).any (·.1) = false := by rfl) (hsw : swapsWith (.Call (.Attribute (.Name x p1) "extend" apos) [e] [] cpos) none pos.line X.env = pure false := by rfl) :
    DS cl X W (.Expr (.Call (.Attribute (.Name x p1) "extend" apos) [e] [] cpos) pos) (sExtend i fe) := by
  obtain ⟨t, q, h⟩ := he.vw
  refine ⟨_, ps_expr (pe_bm PySem.F.plainAttrs_list PySem.F.slot_list_extend PySem.F.type_list_extend mt_extend (pe_var hi hv hd hcd) (pa_cons q pa_nil hs) hbase hfew hline hs hplain) hsw, fun G0 H0 G H σ env D r z => ?_⟩
  unfold sExtend at z
  cases h0 : env[i]? with
  | none => rw [h0] at z; exact z.elim
  | some o =>
    rw [h0] at z
    cases o with
    | none => exact z.elim
    | some l =>
      cases l with
      | ow ds =>
        obtain ⟨p, xs, sp, hp, ix, gp⟩ := ow_at r h0
        refine ⟨_, sp, .inl ⟨rfl, _, .of hp⟩, h G H σ env _ r.toRep ?_⟩
        cases h1 : fe env with
        | no => rw [h1] at z; exact z.elim
        | ex x => rw [h1] at z; exact sx_of r z
        | ok rr =>
          rw [h1] at z
          intro v G' H' e2 iv
          dsimp only at z
          cases hd2 : rr.d with
          | lst es =>
            rw [hd2] at z iv
            dsimp only at z
            split at z
            · rename_i hl
              obtain ⟨p2, ys, rfl, hp2, iy⟩ := iv.list e2.i
              have r2 := r.go e2
              refine ⟨p, p2, xs, ys, rfl, rfl, e2.h _ _ hp, hp2, by rw [lim_eq, ix.length, iy.length]; exact hl, ?_⟩
              exact z G' _ σ (r2.mut h0 rfl sp (.ow (e2.n p (by rw [hp]; simp) gp) upd_same ((ix.mono e2.g).append iy)))
            · exact z.elim
          | _ => rw [hd2] at z; exact z.elim
      | _ => exact z.elim
/-! ### pop(i) -/
def popE (j : Nat) (fi : Ev → O R) : Ev → O (D × Ev) := fun env => match env[j]?, fi env with
  | some (some (.ow ds)), .ok r => match r.d with
    | .int k => if small k then match ixN ds.length k with
      | some n => match ds[n]? with
        | some d => .ok (d, env.set j (some (.ow (ds.eraseIdx n))))
        | none => .no
      | none => .no
      else .no
    | _ => .no
  | some (some (.ow _)), .ex x => .ex x
  | _, _ => .no
def PPo (cl : Nat → Addr) (X : Cx) (W : WX) (G0 H0 G H : Hp) (σ : L2.St) (Q : VK) : O (D × Ev) → Prop
  | .ok (d, env') => ∀ v G' H', RepE X.K cl G0 H0 G' H' σ env' → Is X.K cl G' v d → Q v H'
  | .ex x => ∀ c d G' H', Ext G H G' H' → XIs X.K cl G' H' x c d → W c d σ H'
  | .no => False
theorem pop_pe (j : Nat) {x : Str} (hi : DE cl X W a fi) (hx : X.N[j]? = some x) (hv : Vis X.env.scope x) (hd : (x == ("__debug__" : Str)) = false) (hcd : (x == ("__classdict__" : Str)) = false)
    (hbase : attributeBase (.Name x p1) "pop" X.env (eval (.Name x p1) X.env) = eval (.Name x p1) X.env)
    (hfew : ((backTo cpos (starEach [a] X.env)).all (fun x => !x.1) && (backToKw cpos (keywordEach [] X.env)).all (fun x => x.1.isSome)
      && decide ([a].length + ([] : List Keyword).length + (if ([] : List Keyword).isEmpty then 0 else 1) < 30)) = true)
    (hline : (apos.endLine == cpos.line) = true) (hs : starEach [a] X.env = (false, eval a X.env) :: starEach [] X.env) (hplain : (backTo cpos (starEach [] X.env)).any (·.1) = false) :
    ∃ t : TE, PE X (.Call (.Attribute (.Name x p1) "pop" apos) [a] [] cpos) t ∧ ∀ (G0 H0 G H : Hp) (σ : L2.St) (env : Ev) (Q : VK), RepE X.K cl G0 H0 G H σ env → PPo cl X W G0 H0 G H σ Q (popE j fi env) → t σ H Q := by
  obtain ⟨t, q, h⟩ := hi.vw
  refine ⟨_, pe_bm PySem.F.plainAttrs_list PySem.F.slot_list_pop PySem.F.type_list_pop mt_popAt (pe_var hx hv hd hcd) (pa_cons q pa_nil hs) hbase hfew hline hs hplain, fun G0 H0 G H σ env Q r z => ?_⟩
  unfold popE at z
  cases h0 : env[j]? with
  | none => rw [h0] at z; exact z.elim
  | some o =>
    rw [h0] at z
    cases o with
    | none => exact z.elim
    | some l =>
      cases l with
      | ow ds =>
        obtain ⟨p, xs, sp, hp, ix, gp⟩ := ow_at r h0
        refine ⟨_, sp, .inl ⟨rfl, _, .of hp⟩, h G H σ env _ r.toRep ?_⟩
        cases h1 : fi env with
        | no => rw [h1] at z; exact z.elim
        | ex x => rw [h1] at z; exact z
        | ok rr =>
          rw [h1] at z
          intro v G' H' e2 iv
          dsimp only at z
          cases hd2 : rr.d with
          | int k =>
            rw [hd2] at z iv
            dsimp only at z
            split at z
            · rename_i hk
              cases hn : ixN ds.length k with
              | none => rw [hn] at z; exact z.elim
              | some n =>
                rw [hn] at z
                dsimp only at z
                cases hdn : ds[n]? with
                | none => rw [hdn] at z; exact z.elim
                | some d =>
                  rw [hdn] at z
                  have r2 := r.go e2
                  have ix2 := ix.mono e2.g
                  obtain ⟨w, hw, iw⟩ := ix2.get hdn
                  have hk2 := hk
                  unfold small at hk2
                  refine ⟨p, xs, k, n, w, rfl, by rw [iv.int], e2.h _ _ hp, by omega, by omega, ?_, hw, ?_⟩
                  · rw [ix.length]; exact (ixN_seq hn).1
                  · exact z w G' _ (r2.mut h0 rfl sp (.ow (e2.n p (by rw [hp]; simp) gp) upd_same (ix2.erase n))) iw
            · exact z.elim
          | _ => rw [hd2] at z; exact z.elim
      | _ => exact z.elim
theorem px_of {x : Ex} {D' : Ends} (r : RepE X.K cl G0 H0 G H σ env) (z : SPo cl X W G0 H0 D' (.ex x env)) : ∀ c d G' H', Ext G H G' H' → XIs X.K cl G' H' x c d → W c d σ H' := sx_of r z
def sPopSet (i j : Nat) (fi : Ev → O R) : Ev → SO := fun env => match popE j fi env with
  | .ok (d, e1) => .nx (e1.set i (some (.sh d)))
  | .ex x => .ex x env
  | .no => .no
theorem ds_popset (i j : Nat) {y x : Str} {py : Pos} (hN : X.N.Nodup) (hi : DE cl X W a fi) (hy : X.N[i]? = some y := by rfl) (hly : Loc X.env.scope y := by first | exact Or.inl rfl | exact Or.inr rfl) (hf : X.fn y = true ∨ X.env.scope.names.lookup y = some .local := by first | exact .inl rfl | exact .inr rfl)
    (hx : X.N[j]? = some x := by rfl) (hv : Vis X.env.scope x := by first | exact Or.inl rfl | exact Or.inr (Or.inl rfl) | exact Or.inr (Or.inr rfl)) (hd : (x == ("__debug__" : Str)) = false := by decide) (hcd : (x == ("__classdict__" : Str)) = false := by decide)
    (hbase : attributeBase (.Name x p1) "pop" X.env (eval (.Name x p1) X.env) = eval (.Name x p1) X.env := by rfl)
    (hfew : ((backTo cpos (starEach [a] X.env)).all (fun x => !x.1) && (backToKw cpos (keywordEach [] X.env)).all (fun x => x.1.isSome)
      && decide ([a].length + ([] : List Keyword).length + (if ([] : List Keyword).isEmpty then 0 else 1) < 30)) = true := by rfl)
    (hline : (apos.endLine == cpos.line) = true := by rfl) (hs : starEach [a] X.env = (false, eval a X.env) :: starEach [] X.env := by rfl) (hplain : (backTo cpos (starEach [] X.env)).any (·.1) = false := by rfl)
    (hsw : swapsWith (.Call (.Attribute (.Name x p1) "pop" apos) [a] [] cpos) (some (.Name y py)) pos.line X.env = pure false := by rfl) :
    DS cl X W (.Assign [.Name y py] (.Call (.Attribute (.Name x p1) "pop" apos) [a] [] cpos) pos) (sPopSet i j fi) := by
  obtain ⟨t, q, h⟩ := pop_pe (apos := apos) (cpos := cpos) (p1 := p1) j hi hx hv hd hcd hbase hfew hline hs hplain
  refine ⟨_, ps_set hN hy hly q hsw hf, fun G0 H0 G H σ env D r z => h G0 H0 G H σ env _ r ?_⟩
  unfold sPopSet at z
  cases h1 : popE j fi env with
  | no => rw [h1] at z; exact z.elim
  | ex x => rw [h1] at z; exact sx_of r z
  | ok dd => obtain ⟨d, e1⟩ := dd; rw [h1] at z; exact fun v G' H' r' iv => z G' H' _ (r'.sh iv i)
def sPop (j : Nat) (fi : Ev → O R) : Ev → SO := fun env => match popE j fi env with
  | .ok (_, e1) => .nx e1
  | .ex x => .ex x env
  | .no => .no
theorem ds_pop (j : Nat) {x : Str} (hi : DE cl X W a fi) 
    (hx : X.N[j]? = some x := by rfl) (hv : Vis X.env.scope x := by first | exact Or.inl rfl | exact Or.inr (Or.inl rfl) | exact Or.inr (Or.inr rfl)) (hd : (x == ("__debug__" : Str)) = false := by decide) (hcd : (x == ("__classdict__" : Str)) = false := by decide)
    (hbase : attributeBase (.Name x p1) "pop" X.env (eval (.Name x p1) X.env) = eval (.Name x p1) X.env := by rfl)
    (hfew : ((backTo cpos (starEach [a] X.env)).all (fun x => !x.1) && (backToKw cpos (keywordEach [] X.env)).all (fun x => x.1.isSome)
      && decide ([a].length + ([] : List Keyword).length + (if ([] : List Keyword).isEmpty then 0 else 1) < 30)) = true := by rfl)
    (hline : (apos.endLine == cpos.line) = true := by rfl) (hs : starEach [a] X.env = (false, eval a X.env) :: starEach [] X.env := by rfl) (hplain : (backTo cpos (starEach [] X.env)).any (·.1) = false := by rfl)
    (hsw : swapsWith (.Call (.Attribute (.Name x p1) "pop" apos) [a] [] cpos) none pos.line X.env = pure false := by rfl) :
    DS cl X W (.Expr (.Call (.Attribute (.Name x p1) "pop" apos) [a] [] cpos) pos) (sPop j fi) := by
  obtain ⟨t, q, h⟩ := pop_pe (apos := apos) (cpos := cpos) (p1 := p1) j hi hx hv hd hcd hbase hfew hline hs hplain
  refine ⟨_, ps_expr q hsw, fun G0 H0 G H σ env D r z => h G0 H0 G H σ env _ r ?_⟩
  unfold sPop at z
  cases h1 : popE j fi env with
  | no => rw [h1] at z; exact z.elim
  | ex x => rw [h1] at z; exact sx_of r z
  | ok dd => obtain ⟨d, e1⟩ := dd; rw [h1] at z; exact fun v G' H' r' iv => z G' H' _ r'
def sPopApp (i j : Nat) (fi : Ev → O R) : Ev → SO := fun env => match env[i]?, popE j fi env with
  | some (some (.ow _)), .ok (d, e1) => match e1[i]? with
    | some (some (.ow ds)) => if i ≠ j ∧ ds.length < lim then .nx (e1.set i (some (.ow (ds ++ [d])))) else .no
    | _ => .no
  | some (some (.ow _)), .ex x => .ex x env
  | _, _ => .no
theorem ds_popapp (i j : Nat) {y x : Str} {q1 qpos dpos : Pos} (hi : DE cl X W a fi) (hy : X.N[i]? = some y := by rfl) (hvy : Vis X.env.scope y := by first | exact Or.inl rfl | exact Or.inr (Or.inl rfl) | exact Or.inr (Or.inr rfl)) (hdy : (y == ("__debug__" : Str)) = false := by decide) (hcdy : (y == ("__classdict__" : Str)) = false := by decide)
    (hx : X.N[j]? = some x := by rfl) (hv : Vis X.env.scope x := by first | exact Or.inl rfl | exact Or.inr (Or.inl rfl) | exact Or.inr (Or.inr rfl)) (hd : (x == ("__debug__" : Str)) = false := by decide) (hcd : (x == ("__classdict__" : Str)) = false := by decide)
    (hbase : attributeBase (.Name x p1) "pop" X.env (eval (.Name x p1) X.env) = eval (.Name x p1) X.env := by rfl)
    (hfew : ((backTo cpos (starEach [a] X.env)).all (fun x => !x.1) && (backToKw cpos (keywordEach [] X.env)).all (fun x => x.1.isSome)
      && decide ([a].length + ([] : List Keyword).length + (if ([] : List Keyword).isEmpty then 0 else 1) < 30)) = true := by rfl)
    (hline : (apos.endLine == cpos.line) = true := by rfl) (hs : starEach [a] X.env = (false, eval a X.env) :: starEach [] X.env := by rfl) (hplain : (backTo cpos (starEach [] X.env)).any (·.1) = false := by rfl)
    (hbase2 : attributeBase (.Name y q1) "append" X.env (eval (.Name y q1) X.env) = eval (.Name y q1) X.env := by rfl)
    (hfew2 : ((backTo dpos (starEach [(.Call (.Attribute (.Name x p1) "pop" apos) [a] [] cpos)] X.env)).all (fun x => !x.1) && (backToKw dpos (keywordEach [] X.env)).all (fun x => x.1.isSome)
      && decide ([(Expr.Call (.Attribute (.Name x p1) "pop" apos) [a] [] cpos)].length + ([] : List Keyword).length + (if ([] : List Keyword).isEmpty then 0 else 1) < 30)) = true := by rfl)
    (hline2 : (qpos.endLine == dpos.line) = true := by rfl) (hs2 : starEach [(.Call (.Attribute (.Name x p1) "pop" apos) [a] [] cpos)] X.env = (false, eval (.Call (.Attribute (.Name x p1) "pop" apos) [a] [] cpos) X.env) :: starEach [] X.env := by rfl) (hplain2 : (backTo dpos (starEach [] X.env)).any (·.1) = false := by rfl)
    (hsw : swapsWith (.Call (.Attribute (.Name y q1) "append" qpos) [(.Call (.Attribute (.Name x p1) "pop" apos) [a] [] cpos)] [] dpos) none pos.line X.env = pure false := by rfl) :
    DS cl X W (.Expr (.Call (.Attribute (.Name y q1) "append" qpos) [(.Call (.Attribute (.Name x p1) "pop" apos) [a] [] cpos)] [] dpos) pos) (sPopApp i j fi) := by
  obtain ⟨t, q, h⟩ := pop_pe (apos := apos) (cpos := cpos) (p1 := p1) j hi hx hv hd hcd hbase hfew hline hs hplain
  refine ⟨_, ps_expr (pe_bm PySem.F.plainAttrs_list PySem.F.slot_list_append PySem.F.type_list_append mt_append (pe_var hy hvy hdy hcdy) (pa_cons q pa_nil hs2) hbase2 hfew2 hline2 hs2 hplain2) hsw, fun G0 H0 G H σ env D r z => ?_⟩
  unfold sPopApp at z
  cases h0 : env[i]? with
  | none => rw [h0] at z; exact z.elim
  | some o =>
    rw [h0] at z
    cases o with
    | none => exact z.elim
    | some l =>
      cases l with
      | ow ds0 =>
        obtain ⟨p, xs, sp, hp, ix, gp⟩ := ow_at r h0
        refine ⟨_, sp, .inl ⟨rfl, _, .of hp⟩, h G0 H0 G H σ env _ r ?_⟩
        cases h1 : popE j fi env with
        | no => rw [h1] at z; exact z.elim
        | ex x => rw [h1] at z; exact sx_of r z
        | ok dd =>
          obtain ⟨d, e1⟩ := dd
          rw [h1] at z
          intro v G' H' r' iv
          dsimp only at z
          cases h2 : e1[i]? with
          | none => rw [h2] at z; exact z.elim
          | some o =>
            rw [h2] at z
            cases o with
            | none => exact z.elim
            | some l =>
              cases l with
              | ow ds =>
                dsimp only at z
                split at z
                · rename_i hc
                  obtain ⟨p', xs', sp', hp', ix', gp'⟩ := ow_at r' h2
                  rw [sp] at sp'
                  cases sp'
                  refine ⟨p, xs', v, rfl, rfl, hp', by rw [lim_eq, ix'.length]; exact hc.2, ?_⟩
                  exact z G' _ σ (r'.mut h2 rfl sp (.ow gp' upd_same (ix'.append (.one iv))))
                · exact z.elim
              | _ => exact z.elim
      | _ => exact z.elim

/-! ### l.index(x), l.count(x) -/
def dLindex (a b : D) : Option R := match a.py, b.py with
  | some (.list ps), some p => if SeqAt.shaped (.list ps) = true ∧ SeqAt.shaped p = true then match ps.findIdx? (fun z => PyData.eqv z p) with
    | some j => some (.sh (.int j))
    | none => none
    else none
  | _, _ => none
theorem vw_ref_list {G H : Hp} {v : V} {a : D} {ps : List PyData} (s : Same G H) (h : Vw X.K cl G H v a) (e : a.py = some (.list ps)) : (∃ p, v = .ref p) ∧ tyV X.K "list" v H ∧ Dp X.K H v (.list ps) := by
  have dp := h.dp s e
  cases dp with
  | lst h1 h2 => exact ⟨⟨_, rfl⟩, .inl ⟨rfl, _, h1⟩, .lst h1 h2⟩
theorem findIdx_some {α : Type} {q : α → Bool} : ∀ {l : List α} {j : Nat}, l.findIdx? q = some j → ∃ z, l[j]? = some z ∧ q z = true ∧ ∀ (m : Nat) (z' : α), m < j → l[m]? = some z' → q z' = false
  | [], j, h => by cases h
  | x :: l, j, h => by
    rw [List.findIdx?_cons] at h
    split at h
    · rename_i hx
      cases h
      exact ⟨x, rfl, hx, fun m z' hm => by omega⟩
    · rename_i hx
      obtain ⟨j', h', rfl⟩ := Option.map_eq_some_iff.mp h
      obtain ⟨z, a, b, c⟩ := findIdx_some h'
      refine ⟨z, by simpa using a, b, fun m z' hm hz => ?_⟩
      cases m with
      | zero => simp at hz; subst hz; simpa using hx
      | succ m => exact c m z' (by omega) (by simpa using hz)
def fLindex (fo fa : Ev → O R) : Ev → O R := fun env => (fo env).bind fun r => match r.d.py with
  | some (.list _) => (fa env).bind fun b => O.of (dLindex r.d b.d)
  | _ => .no
theorem de_lindex (hu : X.A.units + 65 < cLine) (ho : DE cl X W o fo) (ha : DE cl X W a fa)
    (hbase : attributeBase o "index" X.env (eval o X.env) = eval o X.env := by rfl)
    (hfew : ((backTo cpos (starEach [a] X.env)).all (fun x => !x.1) && (backToKw cpos (keywordEach [] X.env)).all (fun x => x.1.isSome)
      && decide ([a].length + ([] : List Keyword).length + (if ([] : List Keyword).isEmpty then 0 else 1) < 30)) = true := by rfl)
    (hline : (apos.endLine == cpos.line) = true := by rfl) (hs : starEach [a] X.env = (false, eval a X.env) :: starEach [] X.env := by rfl) (hplain : (backTo cpos (starEach [] X.env)).any (·.1) = false := by rfl) :
    DE cl X W (.Call (.Attribute o "index" apos) [a] [] cpos) (fLindex fo fa) := by
  obtain ⟨t, q, h⟩ := ho.vw
  obtain ⟨t2, q2, h2⟩ := ha.vw
  refine ⟨_, pe_bm PySem.F.plainAttrs_list PySem.F.slot_list_index PySem.F.type_list_index (mt_indexD hu) q (pa_cons q2 pa_nil hs) hbase hfew hline hs hplain, fun G H σ env Q rep z => h G H σ env _ rep ?_⟩
  unfold fLindex at z
  cases e1 : fo env with
  | no => rw [e1] at z; exact z.elim
  | ex x => rw [e1] at z; exact z
  | ok r1 =>
    rw [e1] at z
    intro v1 G1 H1 x1 i1
    simp only [O.bind] at z
    split at z
    · rename_i ps hps
      obtain ⟨⟨p, rfl⟩, ty, dp⟩ := vw_ref_list x1.i i1 hps
      refine ⟨ty, h2 G1 H1 σ env _ (rep.ext x1) ?_⟩
      cases e2 : fa env with
      | no => rw [e2] at z; exact z.elim
      | ex x => rw [e2] at z; exact ex_ext x1 z
      | ok r2 =>
        rw [e2] at z
        intro v2 G2 H2 x2 i2
        have z : EPo cl X W G H σ Q (O.of (dLindex r1.d r2.d)) := z
        obtain ⟨_, _, dp2⟩ := vw_ref_list x2.i (i1.ext x2) hps
        unfold dLindex at z
        rw [hps] at z
        cases hq : r2.d.py with
        | none => rw [hq] at z; exact z.elim
        | some pd =>
          rw [hq] at z
          dsimp only at z
          split at z
          · rename_i hsh
            cases hj : ps.findIdx? (fun z => PyData.eqv z pd) with
            | none => rw [hj] at z; exact z.elim
            | some j =>
              rw [hj] at z
              obtain ⟨w, w1, w2, w3⟩ := findIdx_some hj
              exact ⟨p, v2, pd, ps, j, w, rfl, rfl, dp2, i2.dp x2.i hq, hsh.1, hsh.2, w1, w2, w3, z _ G2 H2 (x1.trans x2) (.sh (.int _))⟩
          · exact z.elim
    · exact z.elim
/-! ### d[k] = v, a dict of the def's own -/
def pkK {κ : Type} [DecidableEq κ] (ks : List κ) (q : κ) : List κ := if q ∈ ks then ks else ks ++ [q]
def pkV {κ : Type} [DecidableEq κ] : List κ → List D → κ → D → List D
  | k :: ks, d :: ds, q, e => if k = q then e :: ds else d :: pkV ks ds q e
  | _, _, _, e => [e]
end
theorem put_read {κ : Type} [DecidableEq κ] {cl : Nat → Addr} {K : PySem.W.Frag} {G : Hp} {q : κ} {v : V} {e : D} (iv : Is K cl G v e) : ∀ {kvs : List (κ × V)} {ks : List κ} {ds : List D}, kvs.map (·.1) = ks → ks.Nodup → IsL K cl G (kvs.map (·.2)) ds →
    (putK kvs q v).map (·.1) = pkK ks q ∧ IsL K cl G ((putK kvs q v).map (·.2)) (pkV ks ds q e)
  | [], _, _, rfl, _, i => by cases i; exact ⟨rfl, .one iv⟩
  | (k, w) :: kvs, _, _, rfl, nd, i => by
    rw [List.map_cons] at i nd
    obtain ⟨nk, nd⟩ := List.nodup_cons.mp nd
    cases i with
    | @cons _ _ d ds h t =>
      by_cases hk : k = q
      · subst hk
        have e1 : putK ((k, w) :: kvs) k v = (k, v) :: kvs := by
          unfold putK
          rw [if_pos (by simp)]
          rw [List.map_cons, if_pos rfl]
          congr 1
          have : ∀ l : List (κ × V), (∀ p ∈ l, p.1 ≠ k) → l.map (fun kv => if kv.1 = k then (kv.1, v) else kv) = l := by
            intro l hl
            induction l with
            | nil => rfl
            | cons p l ih => rw [List.map_cons, if_neg (hl p List.mem_cons_self), ih fun p hp => hl p (List.mem_cons_of_mem _ hp)]
          refine this kvs fun p hp e => ?_
          have z := List.mem_map_of_mem (f := fun x : κ × V => x.1) hp
          simp only [e] at z
          exact nk z
        rw [e1]
        refine ⟨?_, ?_⟩
        · show k :: kvs.map (·.1) = pkK (k :: kvs.map (·.1)) k
          unfold pkK
          rw [if_pos List.mem_cons_self]
        · show IsL K cl G (v :: kvs.map (·.2)) (pkV (k :: kvs.map (·.1)) (d :: ds) k e)
          simp only [pkV, if_true]
          exact .cons iv t
      · have ih := put_read iv (q := q) rfl nd t
        have e1 : putK ((k, w) :: kvs) q v = (k, w) :: putK kvs q v := by
          unfold putK
          simp only [List.any_cons, hk, decide_false, Bool.false_or]
          split
          · rw [List.map_cons, if_neg hk]
          · rfl
        rw [e1]
        refine ⟨?_, ?_⟩
        · show k :: (putK kvs q v).map (·.1) = pkK (k :: kvs.map (·.1)) q
          rw [ih.1]
          unfold pkK
          by_cases hm : q ∈ kvs.map (·.1)
          · rw [if_pos hm, if_pos (List.mem_cons_of_mem _ hm)]
          · rw [if_neg hm, if_neg (by simp only [List.mem_cons, not_or]; exact ⟨fun e => hk e.symm, hm⟩)]; rfl
        · show IsL K cl G (w :: (putK kvs q v).map (·.2)) (pkV (k :: kvs.map (·.1)) (d :: ds) q e)
          simp only [pkV, if_neg hk]
          exact .cons h ih.2
section
variable {cl : Nat → Addr} {X : Cx} {W : WX} {e a b c o : Expr} {es : List Expr} {fe fa fb fc fo fi : Ev → O R} {pos p p1 p2 apos cpos : Pos}
variable {G0 H0 G H G1 H1 : Hp} {σ : L2.St} {env : Ev}
def sPutD (j : Nat) (fi fe : Ev → O R) : Ev → SO := fun env => match (fe env).bind R.fz with
  | .ok d => match env[j]?, fi env with
    | some (some (.oK ks vs)), .ok r => match r.d.key with
      | some k => if ks.Nodup ∧ ks.length < lim then .nx (env.set j (some (.oK (pkK ks k) (pkV ks vs k d)))) else .no
      | none => .no
    | some (some (.oT ks vs)), .ok r => match r.d.tkey with
      | some k => if ks.Nodup ∧ ks.length < lim then .nx (env.set j (some (.oT (pkK ks k) (pkV ks vs k d)))) else .no
      | none => .no
    | some (some (.oK _ _)), .ex x => .ex x env
    | some (some (.oT _ _)), .ex x => .ex x env
    | _, _ => .no
  | .ex x => .ex x env
  | .no => .no
theorem ds_putD (j : Nat) {x : Str} {i : Expr} (hu : X.A.units + 1 < cLine) (he : DE cl X W e fe) (hi : DE cl X W i fi) (hx : X.N[j]? = some x := by rfl) (hv : Vis X.env.scope x := by first | exact Or.inl rfl | exact Or.inr (Or.inl rfl) | exact Or.inr (Or.inr rfl)) (hd : (x == ("__debug__" : Str)) = false := by decide) (hcd : (x == ("__classdict__" : Str)) = false := by decide)
    (hs : swapsWith e (some (.Subscript (.Name x p1) i p2)) pos.line X.env = pure false := by rfl) : DS cl X W (.Assign [.Subscript (.Name x p1) i p2] e pos) (sPutD j fi fe) := by
  obtain ⟨t, q, h⟩ := he.fz
  obtain ⟨t2, q2, h2⟩ := hi.vw
  refine ⟨_, ps_dput hu (pe_var hx hv hd hcd) q2 q hs, fun G0 H0 G H σ env D r z => h G H σ env _ r.toRep ?_⟩
  unfold sPutD at z
  cases h3 : (fe env).bind R.fz with
  | no => rw [h3] at z; exact z.elim
  | ex x => rw [h3] at z; exact sx_of r z
  | ok d =>
    rw [h3] at z
    intro v G1 H1 e1 iv
    dsimp only at z
    have r1 := r.go e1
    cases h0 : env[j]? with
    | none => rw [h0] at z; exact z.elim
    | some o =>
      rw [h0] at z
      cases o with
      | none => exact z.elim
      | some l =>
        cases l with
        | oK ks ds =>
          obtain ⟨w, sp, lv⟩ := r1.at j _ h0
          cases lv with
          | @oK p kvs _ _ gp hp hk ix =>
            refine ⟨_, sp, h2 G1 H1 σ env _ r1.toRep ?_⟩
            cases h4 : fi env with
            | no => rw [h4] at z; exact z.elim
            | ex x => rw [h4] at z; exact sx_of r1 z
            | ok ri =>
              rw [h4] at z
              intro w G2 H2 e2 iw
              dsimp only at z
              cases hkk : ri.d.key with
              | none => rw [hkk] at z; exact z.elim
              | some k =>
                rw [hkk] at z
                dsimp only at z
                split at z
                · rename_i hc
                  have r2 := r1.go e2
                  have hl : kvs.length < sizeLine := by rw [lim_eq, show kvs.length = ks.length by rw [← hk, List.length_map]]; exact hc.2
                  obtain ⟨a1, a2⟩ := put_read (q := k) (v := v) (e := d) (iv.mono e2.g) hk hc.1 (ix.mono e2.g)
                  refine ⟨p, _, rfl, by rw [iw.key hkk]; exact DPut.k (e2.h _ _ hp) hl, ?_⟩
                  exact z G2 _ σ (r2.mut h0 rfl sp (.oK (e2.n p (by rw [hp]; simp) gp) upd_same a1 a2))
                · exact z.elim
        | oT ks ds =>
          obtain ⟨w, sp, lv⟩ := r1.at j _ h0
          cases lv with
          | @oT p kvs _ _ gp hp hk ix =>
            refine ⟨_, sp, h2 G1 H1 σ env _ r1.toRep ?_⟩
            cases h4 : fi env with
            | no => rw [h4] at z; exact z.elim
            | ex x => rw [h4] at z; exact sx_of r1 z
            | ok ri =>
              rw [h4] at z
              intro w G2 H2 e2 iw
              dsimp only at z
              cases hkk : ri.d.tkey with
              | none => rw [hkk] at z; exact z.elim
              | some k =>
                rw [hkk] at z
                dsimp only at z
                split at z
                · rename_i hc
                  have r2 := r1.go e2
                  have hl : kvs.length < sizeLine := by rw [lim_eq, show kvs.length = ks.length by rw [← hk, List.length_map]]; exact hc.2
                  obtain ⟨a1, a2⟩ := put_read (q := k) (v := v) (e := d) (iv.mono e2.g) hk hc.1 (ix.mono e2.g)
                  obtain ⟨kb, rfl, hkb⟩ := iw.tkey e2.i hkk
                  refine ⟨p, _, rfl, DPut.t (e2.h _ _ hp) hkb hl, ?_⟩
                  exact z G2 _ σ (r2.mut h0 rfl sp (.oT (e2.n p (by rw [hp]; simp) gp) upd_same a1 a2))
                · exact z.elim
        | _ => exact z.elim
/-! ### an instance of the def's own (self within __init__) -/
def putN (ns : List Str) (f : Str) : List Str := if f ∈ ns then ns else ns ++ [f]
def putV : List Str → List D → Str → D → List D
  | n :: ns, d :: ds, f, e => if f = n then e :: ds else d :: putV ns ds f e
  | _, _, _, e => [e]
theorem putF_read {K : PySem.W.Frag} {f : Str} {v : V} {e : D} (iv : Is K cl G v e) : ∀ {fs : List (Str × V)} {ns : List Str} {ds : List D}, fs.map (·.1) = ns → IsL K cl G (fs.map (·.2)) ds →
    (putF f v fs).map (·.1) = putN ns f ∧ IsL K cl G ((putF f v fs).map (·.2)) (putV ns ds f e)
  | [], _, _, rfl, i => by cases i; exact ⟨rfl, .one iv⟩
  | (n, w) :: fs, _, _, rfl, i => by
    rw [List.map_cons] at i
    cases i with
    | @cons _ _ d ds h t =>
      have ih := putF_read iv (f := f) rfl t
      unfold putF
      by_cases hn : f = n
      · subst hn
        rw [if_pos rfl]
        refine ⟨?_, ?_⟩
        · show f :: fs.map (·.1) = putN (f :: fs.map (·.1)) f
          unfold putN
          rw [if_pos List.mem_cons_self]
        · show IsL K cl G (v :: fs.map (·.2)) (putV (f :: fs.map (·.1)) (d :: ds) f e)
          simp only [putV, if_true]
          exact .cons iv t
      · rw [if_neg (fun z => hn z.symm)]
        refine ⟨?_, ?_⟩
        · show n :: (putF f v fs).map (·.1) = putN (n :: fs.map (·.1)) f
          rw [ih.1]
          unfold putN
          by_cases hm : f ∈ fs.map (·.1)
          · rw [if_pos hm, if_pos (List.mem_cons_of_mem _ hm)]
          · rw [if_neg hm, if_neg (by simp only [List.mem_cons, not_or]; exact ⟨hn, hm⟩)]; rfl
        · show IsL K cl G (w :: (putF f v fs).map (·.2)) (putV (n :: fs.map (·.1)) (d :: ds) f e)
          simp only [putV, if_neg hn]
          exact .cons h ih.2
def sFld (j c : Nat) (f : Str) (fe : Ev → O R) : Ev → SO := fun env => match (fe env).bind R.fz with
  | .ok d => match env[j]? with
    | some (some (.oI c' ns vs)) => if c' = c ∧ ns.length < 1000 then .nx (env.set j (some (.oI c' (putN ns f) (putV ns vs f d)))) else .no
    | _ => .no
  | .ex x => .ex x env
  | .no => .no
theorem ds_fld (j c : Nat) {x f : Str} (he : DE cl X W e fe) (hc : Cls X.K (cl c)) (hn : NoAttr X.K (cl c) f) (hx : X.N[j]? = some x := by rfl) (hv : Vis X.env.scope x := by first | exact Or.inl rfl | exact Or.inr (Or.inl rfl) | exact Or.inr (Or.inr rfl)) (hd : (x == ("__debug__" : Str)) = false := by decide) (hcd : (x == ("__classdict__" : Str)) = false := by decide)
    (hs : swapsWith e (some (.Attribute (.Name x p1) f p2)) pos.line X.env = pure false := by rfl) : DS cl X W (.Assign [.Attribute (.Name x p1) f p2] e pos) (sFld j c f fe) := by
  obtain ⟨t, q, h⟩ := he.fz
  refine ⟨_, ps_fld (pe_var hx hv hd hcd) q hs, fun G0 H0 G H σ env D r z => h G H σ env _ r.toRep ?_⟩
  unfold sFld at z
  cases h3 : (fe env).bind R.fz with
  | no => rw [h3] at z; exact z.elim
  | ex x => rw [h3] at z; exact sx_of r z
  | ok d =>
    rw [h3] at z
    intro v G1 H1 e1 iv
    dsimp only at z
    have r1 := r.go e1
    cases h0 : env[j]? with
    | none => rw [h0] at z; exact z.elim
    | some o =>
      rw [h0] at z
      cases o with
      | none => exact z.elim
      | some l =>
        cases l with
        | oI c' ns ds =>
          dsimp only at z
          split at z
          · rename_i hcc
            obtain ⟨hcc, hl⟩ := hcc
            subst hcc
            obtain ⟨w, sp, lv⟩ := r1.at j _ h0
            cases lv with
            | @oI dx _ fs _ _ gp hp hk ix =>
              obtain ⟨a1, a2⟩ := putF_read (f := f) iv hk ix
              refine ⟨_, sp, cl 102, cl c', dx, fs, rfl, hp, hc, hn, by rw [show fs.length = ns.length by rw [← hk, List.length_map]]; exact hl, ?_⟩
              exact z G1 _ σ (r1.mut h0 rfl sp (.oI gp upd_same a1 a2))
          · exact z.elim
        | _ => exact z.elim
/-- o.m(), o lent: nothing comes but something flat -/
def fMethB0 (c : Nat) (m : Str) (F : List D → O R) (fo : Ev → O R) : Ev → O R := fun env => (fo env).bind fun r => match r.d with
  | .ins c' ns vs => if c' = c ∧ m ∉ ns then (match F [.ins c' ns vs] with | .ok (.sh d) => if flatD d = true then .ok (.sh d) else .no | _ => .no) else .no
  | _ => .no
theorem de_methB0 {c : Nat} {m : Str} {k n : Nat} {F : List D → O R} {pl : Sem Bool} (h : DM X.prog X.w X.K X.mg X.base cl c m k n F) (hr : Room k X.A) (tk : Takes X W) (ho : DE cl X W o fo)
    (ht : eval (.Call (.Attribute o m apos) [] [] pos) X.env = (do
      let ov ← eval o X.env
      standAt apos.atName
      let (f, first) ← holding [ov] (getMethod ov m pl)
      callWith pos f first (backTo pos (starEach [] X.env)) (backToKw pos (keywordEach [] X.env))) := by rfl) :
    DE cl X W (.Call (.Attribute o m apos) [] [] pos) (fMethB0 c m F fo) := by
  obtain ⟨f, fd, ps, ok, hm, hb⟩ := h.ex
  obtain ⟨t, q, ho⟩ := ho.vw
  refine ⟨_, pe_methS0 (E := WE W) q h.cls hm ok hr hb (fun σ => passAt tk σ) ht, fun G H σ env Q rep z => ho G H σ env _ rep ?_⟩
  unfold fMethB0 at z
  cases h1 : fo env with
  | no => rw [h1] at z; exact z.elim
  | ex x => rw [h1] at z; exact z
  | ok r =>
    rw [h1] at z
    intro v G1 H1 e1 i1
    simp only [O.bind] at z
    cases hd : r.d with
    | ins c' ns vs =>
      rw [hd] at z i1
      dsimp only at z
      split at z
      · rename_i hcc
        obtain ⟨hcc, hm2⟩ := hcc
        subst hcc
        obtain ⟨a, dx, fs, rfl, ha, hq, hi⟩ : ∃ a dx fs, v = .ref a ∧ H1 a = some (.ins (cl c') dx fs) ∧ fs.map (·.1) = ns ∧ IsL X.K cl G1 (fs.map (·.2)) vs := by
          cases i1 with
          | of i1 => cases i1 with | ins ha hq hi => exact ⟨_, _, _, rfl, e1.i _ _ ha, hq, hi⟩
          | ins ha hq hi => exact ⟨_, _, _, rfl, ha, hq, hi⟩
        refine ⟨a, dx, fs, rfl, ha, lookup_none_of (by rw [hq]; exact hm2), ?_⟩
        exact lent_of h.ary e1 (.cons i1 .nil) z
      · exact z.elim
    | _ => rw [hd] at z; exact z.elim
end
end DL

/-! DLi: slots that no name of the text has; a dict in a field; the making of an instance. -/
namespace DL
open PySem PySem.Spec L2
section
variable {cl : Nat → Addr} {X : Cx} {W : WX} {e a b c o : Expr} {es : List Expr} {st : Stmt} {sts rest : List Stmt} {fe fa fb fc fo fi : Ev → O R} {f g : Ev → SO} {pos p p1 p2 p3 apos cpos : Pos}
variable {G0 H0 G H G1 H1 : Hp} {σ : L2.St} {env : Ev}
theorem inv_ghost {pins : List (Addr × Obj)} {s : Shared} {j : Nat} {x : Str} (I : Inv X pins σ H s) (hN : X.N[j]? = some x) (hv : ¬ Vis X.env.scope x) (v : Option V) : Inv X pins (σ.set j v) H s := by
  obtain ⟨m, hn, hl⟩ := I.loc
  refine ⟨I.ok, I.os, I.bare, I.base, ⟨m, hn, fun i y w h1 h2 h3 => ?_⟩, I.cell, I.free, I.freeC, I.pin, I.hok, by rw [List.length_set]; exact I.len⟩
  by_cases hi : i = j
  · subst hi
    rw [hN] at h1
    cases h1
    exact absurd h3 hv
  · rw [List.getElem?_set_ne (Ne.symm hi)] at h2
    exact hl i y w h1 h2 h3
theorem pss_ghost {t : TS} {j : Nat} {x : Str} (h : PSs X sts t) (hN : X.N[j]? = some x) (hv : ¬ Vis X.env.scope x) : PSs X sts (fun D σ H => ∃ v : Option V, t D (σ.set j v) H) :=
  ⟨fun pins s σ H D I ⟨v, q⟩ => h.run pins s _ H D (inv_ghost I hN hv v) q⟩
/-- o.f[i] = e, the dict of the field that slot j has -/
def sPutP (j : Nat) (fo fi fe : Ev → O R) : Ev → SO := fun env => match (fe env).bind R.fz with
  | .ok d => match fo env with
    | .ok ro => match ro.d, env[j]? with
      | .at t, some (some (.oP t' ks vs)) => match fi env with
        | .ok ri => match ri.d.tkey with
          | some k => if t = t' ∧ ks.Nodup ∧ ks.length < lim then .nx (env.set j (some (.oP t' (pkK ks k) (pkV ks vs k d)))) else .no
          | none => .no
        | .ex x => .ex x env
        | .no => .no
      | _, _ => .no
    | .ex x => .ex x env
    | .no => .no
  | .ex x => .ex x env
  | .no => .no
theorem ds_putP (j : Nat) {i : Expr} (hu : X.A.units + 1 < cLine) (he : DE cl X W e fe) (ho : DE cl X W o fo) (hi : DE cl X W i fi)
    (hs : swapsWith e (some (.Subscript o i p2)) pos.line X.env = pure false := by rfl) : DS cl X W (.Assign [.Subscript o i p2] e pos) (sPutP j fo fi fe) := by
  obtain ⟨t, q, h⟩ := he.fz
  obtain ⟨t1, q1, h1⟩ := ho.vw
  obtain ⟨t2, q2, h2⟩ := hi.vw
  refine ⟨_, ps_dput hu q1 q2 q hs, fun G0 H0 G H σ env D r z => h G H σ env _ r.toRep ?_⟩
  unfold sPutP at z
  cases h3 : (fe env).bind R.fz with
  | no => rw [h3] at z; exact z.elim
  | ex x => rw [h3] at z; exact sx_of r z
  | ok d =>
    rw [h3] at z
    intro v G1 H1 e1 iv
    dsimp only at z
    have r1 := r.go e1
    refine h1 G1 H1 σ env _ r1.toRep ?_
    cases h4 : fo env with
    | no => rw [h4] at z; exact z.elim
    | ex x => rw [h4] at z; exact sx_of r1 z
    | ok ro =>
      rw [h4] at z
      intro vo G2 H2 e2 io
      dsimp only at z
      have r2 := r1.go e2
      split at z
      · rename_i tt t' ks vs hro hj
        rw [hro] at io
        refine h2 G2 H2 σ env _ r2.toRep ?_
        cases h5 : fi env with
        | no => rw [h5] at z; exact z.elim
        | ex x => rw [h5] at z; exact sx_of r2 z
        | ok ri =>
          rw [h5] at z
          intro vi G3 H3 e3 ii
          dsimp only at z
          have r3 := r2.go e3
          cases hk : ri.d.tkey with
          | none => rw [hk] at z; exact z.elim
          | some k =>
            rw [hk] at z
            dsimp only at z
            split at z
            · rename_i hc
              obtain ⟨rfl, hnd, hlt⟩ := hc
              have evo : vo = .ref (cl tt) := by cases io with | of io => cases io; rfl
              subst evo
              obtain ⟨w, sp, lv⟩ := r3.at j _ hj
              cases lv with
              | @oP _ kvs _ _ gp hp hkk ix =>
                have hl : kvs.length < sizeLine := by rw [lim_eq, show kvs.length = ks.length by rw [← hkk, List.length_map]]; exact hlt
                obtain ⟨a1, a2⟩ := put_read (q := k) (v := v) (e := d) ((iv.mono e2.g).mono e3.g) hkk hnd ix
                obtain ⟨kb, rfl, hkb⟩ := ii.tkey e3.i hk
                refine ⟨cl tt, _, rfl, DPut.t hp hkb hl, ?_⟩
                exact z G3 _ σ (r3.mut hj rfl sp (.oP gp upd_same a1 a2))
            · exact z.elim
      · exact z.elim

/-! ### data without the tags above 100 -/
mutual
def D.low : D → Bool
  | .lst xs => D.lowL xs
  | .tup xs => D.lowL xs
  | .lkd xs => D.lowL xs
  | .lkt xs => D.lowL xs
  | .ins c _ xs => decide (c < 100) && D.lowL xs
  | .dK _ xs => D.lowL xs
  | .dT _ xs => D.lowL xs
  | .exn c _ xs => decide (c < 100) && D.lowL xs
  | .at t => decide (t < 100)
  | _ => true
def D.lowL : List D → Bool
  | [] => true
  | x :: xs => D.low x && D.lowL xs
end
mutual
theorem Is.tags {K : PySem.W.Frag} {cl cl' : Nat → Addr} {G : Hp} (h : ∀ t, t < 100 → cl t = cl' t) : ∀ {v : V} {d : D}, Is K cl G v d → d.low = true → Is K cl' G v d
  | _, _, .non, _ => .non
  | _, _, .bl b, _ => .bl b
  | _, _, .int i, _ => .int i
  | _, _, .str x, _ => .str x
  | _, _, .at t, l => by simp only [D.low, decide_eq_true_eq] at l; rw [h t l]; exact .at t
  | _, _, .lst q t, l => by simp only [D.low] at l; exact .lst q (IsL.tags h t l)
  | _, _, .lkd q t, l => by simp only [D.low] at l; exact .lkd q (IsL.tags h t l)
  | _, _, .tup q t, l => by simp only [D.low] at l; exact .tup q (IsL.tags h t l)
  | _, _, .lkt q t, l => by simp only [D.low] at l; exact .lkt q (IsL.tags h t l)
  | _, _, .ins q z t, l => by simp only [D.low, Bool.and_eq_true, decide_eq_true_eq] at l; exact .ins (by rw [← h _ l.1]; exact q) z (IsL.tags h t l.2)
  | _, _, .dK q z t, l => by simp only [D.low] at l; exact .dK q z (IsL.tags h t l)
  | _, _, .dT q z t, l => by simp only [D.low] at l; exact .dT q z (IsL.tags h t l)
  | _, _, .exn0 q, l => by simp only [D.low, Bool.and_eq_true, decide_eq_true_eq] at l; exact .exn0 (by rw [← h _ l.1]; exact q)
  | _, _, .exn1 q q2 z t, l => by simp only [D.low, Bool.and_eq_true, decide_eq_true_eq] at l; exact .exn1 (by rw [← h _ l.1]; exact q) q2 z (IsL.tags h t l.2)
theorem IsL.tags {K : PySem.W.Frag} {cl cl' : Nat → Addr} {G : Hp} (h : ∀ t, t < 100 → cl t = cl' t) : ∀ {vs : List V} {ds : List D}, IsL K cl G vs ds → D.lowL ds = true → IsL K cl' G vs ds
  | _, _, .nil, _ => .nil
  | _, _, .cons q t, l => by simp only [D.lowL, Bool.and_eq_true] at l; exact .cons (Is.tags h q l.1) (IsL.tags h t l.2)
end
theorem XIs.tags {K : PySem.W.Frag} {cl cl' : Nat → Addr} {G H : Hp} {x : Ex} {c : Value} {d : Option Addr} (h : ∀ t, t < 100 → cl t = cl' t) (i : XIs K cl G H x c d) (l : x.c < 100) (l2 : D.lowL x.vs = true) : XIs K cl' G H x c d := by
  cases i with
  | x0 => rw [h _ l]; exact .x0
  | x1 q z t => rw [h _ l]; exact .x1 q z (t.tags h l2)

/-! ### Order's tables -/
def nm5 : List Str := ["count", "above", "under", "joins", "meets"]
def nm3 : List Str := ["count", "above", "under"]
/-- look_joins at its entry: its own slots are k, the two dicts' behind them -/
def ljEnv (k : Nat) (n : Int) (as us : List Int) : Ev := some (.sh (.ins 0 nm5 [.int n, .lst (as.map .int), .lst (us.map .int), .at 100, .at 101])) :: (List.replicate (k - 1) none ++ [some (.oP 100 [] []), some (.oP 101 [] [])])
/-- what look_joins lays into the two dicts -/
def ljRead (k : Nat) (env : Ev) : O (List (List Key) × List Int × List (List Key) × List Int) := match env[k]?, env[k + 1]? with
  | some (some (.oP 100 ks js)), some (some (.oP 101 ls ms)) => match D.ints js, D.ints ms with
    | some js, some ms => .ok (ks, js, ls, ms)
    | _, _ => .no
  | _, _ => .no
theorem ljRead_ok {k : Nat} {env : Ev} {ks : List (List Key)} {js : List Int} {ls : List (List Key)} {ms : List Int} (h : ljRead k env = .ok (ks, js, ls, ms)) :
    ∃ ds es, env[k]? = some (some (.oP 100 ks ds)) ∧ env[k + 1]? = some (some (.oP 101 ls es)) ∧ D.ints ds = some js ∧ D.ints es = some ms := by
  unfold ljRead at h
  split at h
  · rename_i h1 h2
    split at h
    · rename_i h3 h4
      cases h
      exact ⟨_, _, h1, h2, h3, h4⟩
    · cases h
  · cases h
def ljOut (k : Nat) (body : Ev → SO) (n : Int) (as us : List Int) : O (List (List Key) × List Int × List (List Key) × List Int) := match body (ljEnv k n as us) with
  | .nx env => ljRead k env
  | _ => .no
def spLJ (cl : Nat → Addr) (K : PySem.W.Frag) (F : Int → List Int → List Int → O (List (List Key) × List Int × List (List Key) × List Int)) : Sp := fun vs H Q E =>
  ∃ (p dx a u dj dm : Addr) (n : Int) (as us : List Int), vs = [.ref p] ∧ H p = some (.ins (cl 0) dx [("count", .int n), ("above", .ref a), ("under", .ref u), ("joins", .ref dj), ("meets", .ref dm)]) ∧
    H a = some (.lst (as.map V.int)) ∧ H u = some (.lst (us.map V.int)) ∧ H dj = some (.dT []) ∧ H dm = some (.dT []) ∧ dj ≠ dm ∧
    match F n as us with
    | .ok (ks, js, ls, ms) => ∀ (H' : Hp) (kvj kvm : List (List Key × V)), (∀ b o, b ≠ dj → b ≠ dm → H b = some o → H' b = some o) → H' dj = some (.dT kvj) → H' dm = some (.dT kvm) → kvj.map (·.1) = ks → kvj.map (·.2) = js.map V.int → kvm.map (·.1) = ls → kvm.map (·.2) = ms.map V.int → Q .non H'
    | _ => False
end
def tags2 (cl : Nat → Addr) (dj dm : Addr) : Nat → Addr := fun t => if t = 100 then dj else if t = 101 then dm else cl t
theorem lj_ok {P : Program} {w : World} {K : PySem.W.Frag} {mg : Str → Option Value} {base : Heap} {cl : Nat → Addr} {st : Stmt} {fa : Addr} {fd : FuncData} {N : List Str} {x1 x2 : Str} {k lev : Nat} {body : Ev → SO} (F : Fun K "look_joins" "Order.look_joins" st fa fd) (S : FnScope N ["self"] (defScope st)) (hk : N.length = k + 2) (h0 : 0 < k)
    (h1 : N[k]? = some x1) (h2 : N[k + 1]? = some x2) (v1 : ¬ Vis (defScope st) x1) (v2 : ¬ Vis (defScope st) x2)
    (hb : ∀ (cl' : Nat → Addr), (∀ t, t < 100 → cl t = cl' t) → ∀ (cdv : Value) (A : Around) (outer : List PySem.Env) (s : Shared) (H : Hp) (E : XK), Room lev (A.deeper (PyProof.Rows.envOfC "Order.look_joins" (defScope st) s.heap.objs.size fa cdv)) →
      Ctx (cxOf (L2.CX P w) P w K mg base N "Order.look_joins" (defScope st) fa cdv A outer s H E) (fun c d _ H => E c d H) →
      DSs cl' (cxOf (L2.CX P w) P w K mg base N "Order.look_joins" (defScope st) fa cdv A outer s H E) (fun c d _ H => E c d H) (defBody st) body) : FnOk P w K mg base (L2.CX P w) (lev + 1) fa fd ["self"] (spLJ cl K (ljOut k body)) := by
  refine F.okX S (fun vs H Q E h => ?_) fun cdv A outer s H vs Q E hr h => ?_
  · obtain ⟨p, _, _, _, _, _, _, _, _, rfl, _⟩ := h
    rfl
  · obtain ⟨p, dx, a, u, dj, dm, n, as, us, rfl, hp, ha, hu, hj, hm, ne, h⟩ := h
    have tg : ∀ t, t < 100 → cl t = tags2 cl dj dm t := fun t ht => by unfold tags2; rw [if_neg (by omega), if_neg (by omega)]
    have t100 : tags2 cl dj dm 100 = dj := rfl
    have t101 : tags2 cl dj dm 101 = dm := rfl
    obtain ⟨t, q, hd⟩ := hb (tags2 cl dj dm) tg cdv A outer s H E hr ⟨rfl, S.nd, passes_of rfl, takes_of rfl rfl rfl rfl⟩
    refine ⟨_, pss_ghost (pss_ghost q h1 v1) h2 v2, some (.ref dm), some (.ref dj), ?_⟩
    obtain ⟨G, hG⟩ : ∃ G : Hp, G = fun b => if b = dj ∨ b = dm then none else H b := ⟨_, rfl⟩
    have gj : G dj = none := by rw [hG]; exact if_pos (.inl rfl)
    have gm : G dm = none := by rw [hG]; exact if_pos (.inr rfl)
    have gn : ∀ {b : Addr}, b ≠ dj → b ≠ dm → G b = H b := fun {b} n1 n2 => by rw [hG]; exact if_neg (by rintro (z | z); exact n1 z; exact n2 z)
    have sG : Same G H := fun b o e => by
      by_cases b1 : b = dj
      · rw [b1, gj] at e; cases e
      · by_cases b2 : b = dm
        · rw [b2, gm] at e; cases e
        · rw [gn b1 b2] at e; exact e
    have other : ∀ {b : Addr} {o : HO}, H b = some o → (∀ kvs, o ≠ .dT kvs) → G b = some o := fun {b o} e no => by
      rw [gn (fun z => by rw [z, hj] at e; cases e; exact no _ rfl) (fun z => by rw [z, hm] at e; cases e; exact no _ rfl)]
      exact e
    have ip : Is K (tags2 cl dj dm) G (.ref p) (.ins 0 nm5 [.int n, .lst (as.map .int), .lst (us.map .int), .at 100, .at 101]) :=
      .ins (dx := dx) (fs := [("count", .int n), ("above", .ref a), ("under", .ref u), ("joins", .ref dj), ("meets", .ref dm)]) (by rw [← tg 0 (by omega)]; exact other hp fun _ z => by cases z) rfl
        (.cons (.int n) (.cons (.lst (other ha fun _ z => by cases z) isl_ints) (.cons (.lst (other hu fun _ z => by cases z) isl_ints) (.cons (.at 100) (.cons (.at 101) .nil)))))
    have hst : (L2.start N [V.ref p]).length = k + 2 := by unfold L2.start; simp only [List.length_append, List.length_map, List.length_replicate, List.length_cons, List.length_nil]; omega
    have σk : ∀ i, (((L2.start N [V.ref p]).set (k + 1) (some (.ref dm))).set k (some (.ref dj)))[i]? = if i = k then some (some (.ref dj)) else if i = k + 1 then some (some (.ref dm)) else (L2.start N [V.ref p])[i]? := fun i => by
      by_cases i1 : i = k
      · subst i1
        rw [if_pos rfl, List.getElem?_set_self (by rw [List.length_set]; omega)]
      · rw [List.getElem?_set_ne (Ne.symm i1), if_neg i1]
        by_cases i2 : i = k + 1
        · subst i2
          rw [if_pos rfl, List.getElem?_set_self (by omega)]
        · rw [List.getElem?_set_ne (Ne.symm i2), if_neg i2]
    have ev : ∀ i l, (ljEnv k n as us)[i]? = some (some l) → (i = 0 ∧ l = .sh (.ins 0 nm5 [.int n, .lst (as.map .int), .lst (us.map .int), .at 100, .at 101])) ∨ (i = k ∧ l = .oP 100 [] []) ∨ (i = k + 1 ∧ l = .oP 101 [] []) := fun i l e => by
      unfold ljEnv at e
      cases i with
      | zero => cases e; exact .inl ⟨rfl, rfl⟩
      | succ i =>
        rw [List.getElem?_cons_succ] at e
        by_cases hi : i < k - 1
        · rw [List.getElem?_append_left (by simpa using hi), List.getElem?_replicate, if_pos hi] at e; cases e
        · rw [List.getElem?_append_right (by simpa using Nat.not_lt.mp hi), List.length_replicate] at e
          obtain ⟨m, hm⟩ : ∃ m, m = i - (k - 1) := ⟨_, rfl⟩
          rw [← hm] at e
          match m, hm, e with
          | 0, hm, e => cases e; exact .inr (.inl ⟨by omega, rfl⟩)
          | 1, hm, e => cases e; exact .inr (.inr ⟨by omega, rfl⟩)
          | m + 2, _, e => simp at e
    have lj : LIs K (tags2 cl dj dm) G H (.ref dj) (.oP 100 [] []) := .oP (t := 100) (kvs := []) gj hj rfl .nil
    have lm : LIs K (tags2 cl dj dm) G H (.ref dm) (.oP 101 [] []) := .oP (t := 101) (kvs := []) gm hm rfl .nil
    have rep : RepE K (tags2 cl dj dm) G G G H (((L2.start N [V.ref p]).set (k + 1) (some (.ref dm))).set k (some (.ref dj))) (ljEnv k n as us) := by
      refine ⟨⟨sG, ?_, fun i l e => ?_, fun i j l l' v e1 e2 o1 o2 s1 s2 => ?_⟩, ⟨.refl _, sG, sG, fun _ h h' => h'⟩, fun i l q e o sq => ?_⟩
      · rw [List.length_set, List.length_set, hst]; unfold ljEnv; simp; omega
      · rw [σk]
        rcases ev i l e with ⟨rfl, rfl⟩ | ⟨rfl, rfl⟩ | ⟨rfl, rfl⟩
        · rw [if_neg (by omega), if_neg (by omega)]
          exact ⟨.ref p, rfl, .sh ip⟩
        · rw [if_pos rfl]; exact ⟨_, rfl, lj⟩
        · rw [if_neg (by omega), if_pos rfl]; exact ⟨_, rfl, lm⟩
      · rw [σk] at s1 s2
        rcases ev i l e1 with ⟨rfl, rfl⟩ | ⟨rfl, rfl⟩ | ⟨rfl, rfl⟩
        · cases o1
        · rcases ev j l' e2 with ⟨rfl, rfl⟩ | ⟨rfl, rfl⟩ | ⟨rfl, rfl⟩
          · cases o2
          · rfl
          · rw [if_pos rfl] at s1; rw [if_neg (by omega), if_pos rfl] at s2; rw [← s2] at s1; cases s1; exact absurd rfl ne
        · rcases ev j l' e2 with ⟨rfl, rfl⟩ | ⟨rfl, rfl⟩ | ⟨rfl, rfl⟩
          · cases o2
          · rw [if_pos rfl] at s2; rw [if_neg (by omega), if_pos rfl] at s1; rw [← s1] at s2; cases s2; exact absurd rfl ne
          · rfl
      · rw [σk] at sq
        rcases ev i l e with ⟨rfl, rfl⟩ | ⟨rfl, rfl⟩ | ⟨rfl, rfl⟩
        · cases o
        · rw [if_pos rfl] at sq; cases sq; exact gj
        · rw [if_neg (by omega), if_pos rfl] at sq; cases sq; exact gm
    refine hd G G G H _ _ _ rep ?_
    have same' : ∀ {H2 : Hp}, Same G H2 → ∀ b o, b ≠ dj → b ≠ dm → H b = some o → H2 b = some o := fun {H2} sm b o n1 n2 e => sm b o (by rw [gn n1 n2]; exact e)
    unfold ljOut at h
    cases hbd : body (ljEnv k n as us) with
    | no => rw [hbd] at h; exact h.elim
    | bk e => rw [hbd] at h; exact h.elim
    | ct e => rw [hbd] at h; exact h.elim
    | rt e => rw [hbd] at h; exact h.elim
    | ex x e => rw [hbd] at h; exact h.elim
    | nx e =>
      rw [hbd] at h
      dsimp only at h
      refine fun G2 H2 σ2 r2 => ?_
      cases hx : ljRead k e with
      | ex x => rw [hx] at h; exact h.elim
      | no => rw [hx] at h; exact h.elim
      | ok y =>
        obtain ⟨ks, js, ls, ms⟩ := y
        rw [hx] at h
        obtain ⟨ds, es, hk1, hk2, hjn, hmn⟩ := ljRead_ok hx
        obtain ⟨w1, _, l1⟩ := r2.at _ _ hk1
        obtain ⟨w2, _, l2⟩ := r2.at _ _ hk2
        cases l1 with
        | @oP _ kvj _ _ g1 q1 z1 i1 =>
          cases l2 with
          | @oP _ kvm _ _ g2 q2 z2 i2 =>
            rw [ints_eq hjn] at i1
            rw [ints_eq hmn] at i2
            exact h H2 kvj kvm (same' r2.ext.h) q1 q2 z1 i1.ints z2 i2.ints
end DL

/-! DLj: the making of an Order. -/
namespace DL
open PySem PySem.Spec L2
section
variable {cl : Nat → Addr} {X : Cx} {W : WX} {e a b c o : Expr} {es : List Expr} {st : Stmt} {sts rest : List Stmt} {fe fa fb fc fo fi : Ev → O R} {f g : Ev → SO} {pos pos2 pos3 pos4 p p0 p1 p2 p3 p4 p5 p6 apos cpos : Pos}
variable {G0 H0 G H G1 H1 : Hp} {σ : L2.St} {env : Ev}
/-- self.joins = {}, self.meets = {}, self.look_joins() -/
def sJoins (FLJ : Int → List Int → List Int → O (List (List Key) × List Int × List (List Key) × List Int)) : Ev → SO := fun env => match (env[(0 : Nat)]? : Option (Option L)) with
  | some (some (.oI 0 ns [.int n, .lst A, .lst U])) => if ns = nm3 then (match D.ints A, D.ints U with
    | some as, some us => match FLJ n as us with
      | .ok (ks, js, ls, ms) => .nx (env.set 0 (some (.oI 0 nm5 [.int n, .lst A, .lst U, .dT ks (js.map .int), .dT ls (ms.map .int)])))
      | _ => .no
    | _, _ => .no) else .no
  | _ => .no
theorem sJ_cases (FLJ : Int → List Int → List Int → O (List (List Key) × List Int × List (List Key) × List Int)) (env : Ev) : sJoins FLJ env = .no ∨ ∃ n A U as us ks js ls ms, env[(0 : Nat)]? = some (some (.oI 0 nm3 [.int n, .lst A, .lst U])) ∧ D.ints A = some as ∧ D.ints U = some us ∧
    FLJ n as us = .ok (ks, js, ls, ms) ∧ sJoins FLJ env = .nx (env.set 0 (some (.oI 0 nm5 [.int n, .lst A, .lst U, .dT ks (js.map .int), .dT ls (ms.map .int)]))) := by
  unfold sJoins
  split
  · rename_i ns n A U h0
    split
    · rename_i hns
      subst hns
      split
      · rename_i as us hA hU
        split
        · rename_i ks js ls ms hF
          exact .inr ⟨n, A, U, as, us, ks, js, ls, ms, h0, hA, hU, hF, rfl⟩
        · exact .inl rfl
      · exact .inl rfl
    · exact .inl rfl
  · exact .inl rfl
theorem map_eq_three {α : Type} {fs : List (Str × α)} {a b c : Str} (h : fs.map (·.1) = [a, b, c]) : ∃ x y z, fs = [(a, x), (b, y), (c, z)] := by
  match fs, h with
  | [(_, x), (_, y), (_, z)], h => cases h; exact ⟨x, y, z, rfl⟩
theorem isl_three {K : PySem.W.Frag} {G : Hp} {x y z : V} {d1 d2 d3 : D} (h : IsL K cl G [x, y, z] [d1, d2, d3]) : Is K cl G x d1 ∧ Is K cl G y d2 ∧ Is K cl G z d3 := by
  cases h with | cons a h => cases h with | cons b h => cases h with | cons c h => exact ⟨a, b, c⟩
theorem isl_of_ints {K : PySem.W.Frag} {G : Hp} {ns : List Int} {vs : List V} (h : vs = ns.map V.int) : IsL K cl G vs (ns.map D.int) := by rw [h]; exact isl_ints
theorem dss_joins {FLJ : Int → List Int → List Int → O (List (List Key) × List Int × List (List Key) × List Int)} {k : Nat} {fp : Addr} {fd : FuncData} {pl : Sem Bool} (hc : Cls X.K (cl 0)) (n1 : NoAttr X.K (cl 0) "joins") (n2 : NoAttr X.K (cl 0) "meets") (hm : Meth X.K (cl 0) "look_joins" fp)
    (ok : FnOk X.prog X.w X.K X.mg X.base (L2.CX X.prog X.w) k fp fd ["self"] (spLJ cl X.K FLJ)) (hb : Binds X.K fd ["self"] []) (hr : Room k X.A) (tk : Takes X W) (h : DSs cl X W rest g)
    (hN : X.N[0]? = some ("self" : Str) := by rfl) (hv : Vis X.env.scope "self" := by first | exact Or.inl rfl | exact Or.inr (Or.inl rfl) | exact Or.inr (Or.inr rfl))
    (hs1 : swapsWith (.Dict [] [] p3) (some (.Attribute (.Name "self" p1) "joins" p2)) pos.line X.env = pure false := by rfl)
    (hs2 : swapsWith (.Dict [] [] p6) (some (.Attribute (.Name "self" p4) "meets" p5)) pos2.line X.env = pure false := by rfl)
    (hs3 : swapsWith (.Call (.Attribute (.Name "self" p) "look_joins" apos) [] [] cpos) none pos3.line X.env = pure false := by rfl)
    (ht : eval (.Call (.Attribute (.Name "self" p) "look_joins" apos) [] [] cpos) X.env = (do
      let ov ← eval (.Name "self" p) X.env
      standAt apos.atName
      let (f, first) ← holding [ov] (getMethod ov "look_joins" pl)
      callWith cpos f first (backTo cpos (starEach [] X.env)) (backToKw cpos (keywordEach [] X.env))) := by rfl) :
    DSs cl X W (.Assign [.Attribute (.Name "self" p1) "joins" p2] (.Dict [] [] p3) pos :: .Assign [.Attribute (.Name "self" p4) "meets" p5] (.Dict [] [] p6) pos2 :: .Expr (.Call (.Attribute (.Name "self" p) "look_joins" apos) [] [] cpos) pos3 :: rest) (sSeq (sJoins FLJ) g) := by
  obtain ⟨t, q, h⟩ := h
  refine ⟨_, pss_cons (ps_fld (pe_var hN hv) pe_dnewT hs1) (pss_cons (ps_fld (pe_var hN hv) pe_dnewT hs2) (pss_cons (ps_expr (pe_methS0 (E := WE W) (pe_var hN hv) hc hm ok hr hb (fun σ => passAt tk σ) ht) hs3) q)), fun G0 H0 G H σ env D r z => ?_⟩
  unfold sSeq at z
  rcases sJ_cases FLJ env with hq | ⟨n, A, U, as, us, ks, js, ls, ms, h0, hA, hU, hF, hq⟩
  · rw [hq] at z; exact z.elim
  · rw [hq] at z
    dsimp only at z
    obtain ⟨w, sp, lv⟩ := r.at 0 _ h0
    cases lv with
    | @oI dx _ fs _ _ gp hp hk ix =>
      obtain ⟨x, hxx⟩ : ∃ x, x = cl 102 := ⟨_, rfl⟩
      rw [← hxx] at gp hp sp
      obtain ⟨vn, va, vu, rfl⟩ := map_eq_three hk
      obtain ⟨i1, i2, i3⟩ := isl_three ix
      cases i1
      cases i2 with
      | @lst pa xa _ ga ia =>
        cases i3 with
        | @lst pu xu _ gu iu =>
          rw [ints_eq hA] at ia
          rw [ints_eq hU] at iu
          have ea := ia.ints
          have eu := iu.ints
          subst ea eu
          intro dj hdj
          have xdj : x ≠ dj := fun z => by rw [z, hdj] at hp; cases hp
          refine ⟨_, sp, x, cl 0, dx, _, rfl, by rw [upd_ne xdj]; exact hp, hc, n1, by simp, ?_⟩
          intro dm hdm
          have xdm : dm ≠ x := fun z => by rw [z, upd_same] at hdm; cases hdm
          rw [upd_ne xdm] at hdm
          have dmj : dm ≠ dj := fun z => by rw [z, upd_same] at hdm; cases hdm
          rw [upd_ne dmj] at hdm
          refine ⟨_, sp, x, cl 0, dx, [("count", .int n), ("above", .ref pa), ("under", .ref pu), ("joins", .ref dj)], rfl, by rw [upd_ne (Ne.symm xdm), upd_same]; rfl, hc, n2, (show (4 : Nat) < 1000 by omega), ?_⟩
          refine ⟨_, sp, x, dx, [("count", .int n), ("above", .ref pa), ("under", .ref pu), ("joins", .ref dj), ("meets", .ref dm)], rfl, upd_same, rfl, ?_⟩
          have pax : pa ≠ x := fun z => by rw [z, gp] at ga; cases ga
          have pux : pu ≠ x := fun z => by rw [z, gp] at gu; cases gu
          have paj : pa ≠ dj := fun z => by have := r.same _ _ ga; rw [z, hdj] at this; cases this
          have puj : pu ≠ dj := fun z => by have := r.same _ _ gu; rw [z, hdj] at this; cases this
          have pam : pa ≠ dm := fun z => by have := r.same _ _ ga; rw [z, hdm] at this; cases this
          have pum : pu ≠ dm := fun z => by have := r.same _ _ gu; rw [z, hdm] at this; cases this
          refine ⟨x, dx, pa, pu, dj, dm, n, as, us, rfl, upd_same, ?_, ?_, ?_, ?_, Ne.symm dmj, ?_⟩
          · rw [upd_ne pax, upd_ne pam, upd_ne pax, upd_ne paj]; exact r.same _ _ ga
          · rw [upd_ne pux, upd_ne pum, upd_ne pux, upd_ne puj]; exact r.same _ _ gu
          · rw [upd_ne (Ne.symm xdj), upd_ne (Ne.symm dmj), upd_ne (Ne.symm xdj), upd_same]
          · rw [upd_ne xdm, upd_same]
          · rw [hF]
            intro H' kvj kvm hsm hj' hm' k1 k2 k3 k4
            have gj : G dj = none := r.same.free hdj
            have gm : G dm = none := r.same.free hdm
            have gmj : upd G dj (.dT kvj) dm = none := by rw [upd_ne dmj]; exact gm
            have hx' : H' x = some (.ins (cl 0) dx [("count", .int n), ("above", .ref pa), ("under", .ref pu), ("joins", .ref dj), ("meets", .ref dm)]) := hsm x _ xdj (Ne.symm xdm) upd_same
            have old : ∀ b o, b ≠ x → H b = some o → H' b = some o := fun b o bx e => by
              have bj : b ≠ dj := fun z => by rw [z, hdj] at e; cases e
              have bm : b ≠ dm := fun z => by rw [z, hdm] at e; cases e
              exact hsm b o bj bm (by rw [upd_ne bx, upd_ne bm, upd_ne bx, upd_ne bj]; exact e)
            let G' := upd (upd G dj (.dT kvj)) dm (.dT kvm)
            have gG : Same G G' := (same_upd gj).trans (same_upd gmj)
            have gx' : G' x = none := by
              show upd (upd G dj (.dT kvj)) dm (.dT kvm) x = none
              rw [upd_ne (Ne.symm xdm), upd_ne xdj]; exact gp
            have sm' : Same G' H' := fun b u e => by
              have e : upd (upd G dj (.dT kvj)) dm (.dT kvm) b = some u := e
              by_cases bm : b = dm
              · subst bm; rw [upd_same] at e; cases e; exact hm'
              · rw [upd_ne bm] at e
                by_cases bj : b = dj
                · subst bj; rw [upd_same] at e; cases e; exact hj'
                · rw [upd_ne bj] at e
                  exact old b u (fun z => by rw [z, gp] at e; cases e) (r.same _ _ e)
            have nw : ∀ b, H b ≠ none → G b = none → G' b = none := fun b hb gb => by
              show upd (upd G dj (.dT kvj)) dm (.dT kvm) b = none
              rw [upd_ne (fun z => hb (by rw [z]; exact hdm)), upd_ne (fun z => hb (by rw [z]; exact hdj))]; exact gb
            refine h G0 H0 G' H' σ _ D ?_ z
            have lx : LIs X.K cl G' H' (.ref x) (.oI 0 nm5 [.int n, .lst A, .lst U, .dT ks (js.map .int), .dT ls (ms.map .int)]) := by
              rw [hxx] at gx' hx' ⊢
              refine .oI gx' hx' rfl ?_
              rw [ints_eq hA, ints_eq hU]
              refine .cons (.int n) (.cons (.lst (gG _ _ ga) isl_ints) (.cons (.lst (gG _ _ gu) isl_ints) (.cons (.dT ?_ k1 (isl_of_ints k2)) (.cons (.dT ?_ k3 (isl_of_ints k4)) .nil))))
              · show upd (upd G dj (.dT kvj)) dm (.dT kvm) dj = _
                rw [upd_ne (Ne.symm dmj), upd_same]
              · exact upd_same
            refine ⟨⟨sm', by rw [List.length_set]; exact r.len, fun i l hi => ?_, fun i j l l' v hi hj o1 o2 s1 s2 => ?_⟩, ?_, fun i l pp hi ho hs => ?_⟩
            · rcases getElem?_set_some hi with ⟨rfl, e⟩ | ⟨hn, hq⟩
              · cases e; exact ⟨_, sp, lx⟩
              · obtain ⟨v, hv1, hv2⟩ := r.at i l hq
                refine ⟨v, hv1, ?_⟩
                have ne : l.own = true → v ≠ .ref x := fun ow z => hn (r.sep i 0 l _ _ hq h0 ow rfl hv1 (by rw [z]; exact sp))
                cases hv2 with
                | sh hh => exact .sh (hh.mono gG)
                | ow g1 h1 t1 => exact .ow (nw _ (by rw [h1]; simp) g1) (old _ _ (fun z => ne rfl (by rw [z])) h1) (t1.mono gG)
                | oK g1 h1 z1 t1 => exact .oK (nw _ (by rw [h1]; simp) g1) (old _ _ (fun z => ne rfl (by rw [z])) h1) z1 (t1.mono gG)
                | oT g1 h1 z1 t1 => exact .oT (nw _ (by rw [h1]; simp) g1) (old _ _ (fun z => ne rfl (by rw [z])) h1) z1 (t1.mono gG)
                | oI g1 h1 z1 t1 => exact absurd (by rw [hxx]) (ne rfl)
                | oP g1 h1 z1 t1 => exact .oP (nw _ (by rw [h1]; simp) g1) (old _ _ (fun z => ne rfl (by rw [z])) h1) z1 (t1.mono gG)
            · have fix : ∀ (m : Nat) (lm : L), (env.set 0 (some (.oI 0 nm5 [.int n, .lst A, .lst U, .dT ks (js.map .int), .dT ls (ms.map .int)])))[m]? = some (some lm) → ∃ lm', env[m]? = some (some lm') ∧ (lm.own = true → lm'.own = true) := fun m lm hm => by
                rcases getElem?_set_some hm with ⟨rfl, e⟩ | ⟨hn, hq⟩
                · exact ⟨_, h0, fun _ => rfl⟩
                · exact ⟨_, hq, id⟩
              obtain ⟨l1, q1, w1⟩ := fix i l hi
              obtain ⟨l2, q2, w2⟩ := fix j l' hj
              exact r.sep i j l1 l2 v q1 q2 (w1 o1) (w2 o2) s1 s2
            · have nx : H0 x = none := r.new 0 _ x h0 rfl sp
              exact ⟨r.ext.g.trans gG, fun b u e => old b u (fun z => by rw [z, nx] at e; cases e) (r.ext.h b u e), sm', fun b hb gb => nw b (Same.some_of r.ext.h hb) (r.ext.n b hb gb)⟩
            · rcases getElem?_set_some hi with ⟨rfl, e⟩ | ⟨hn, hq⟩
              · exact r.new 0 _ pp h0 rfl hs
              · exact r.new i l pp hq ho hs

/-! ### __init__ -/
def hMinus (H : Hp) (x : Addr) : Hp := fun b => if b = x then none else H b
theorem hMinus_ne {H : Hp} {x b : Addr} (h : b ≠ x) : hMinus H x b = H b := if_neg h
theorem hMinus_self {H : Hp} {x : Addr} : hMinus H x x = none := if_pos rfl
def spI (cl : Nat → Addr) (K : PySem.W.Frag) (c n : Nat) (F : List D → O (List Str × List D)) : Sp := fun vs H Q E =>
  ∃ (x dx : Addr) (us : List V) (ds : List D) (G : Hp), vs = .ref x :: us ∧ us.length = n ∧ H x = some (.ins (cl c) dx []) ∧ G x = none ∧ Same G H ∧ IsL K cl G us ds ∧
    match F ds with
    | .ok (ns, es) => ∀ (G' H' : Hp) (dx' : Addr) (fs : List (Str × V)), Ext G (hMinus H x) G' (hMinus H' x) → G' x = none → H' x = some (.ins (cl c) dx' fs) → fs.map (·.1) = ns → IsL K cl G' (fs.map (·.2)) es → Q .non H'
    | .ex z => ∀ d1 d G' H', Ext G (hMinus H x) G' (hMinus H' x) → G' x = none → XIs K cl G' H' z d1 d → E d1 d H'
    | .no => False
def initD (c n k : Nat) (body : Ev → SO) : List D → O (List Str × List D) := fun ds => if ds.length = k ∧ D.lowL ds = true then match body (some (.oI c [] []) :: (ds.map (fun d => some (.sh d)) ++ List.replicate (n - (k + 1)) none)) with
  | .nx env => match (env[(0 : Nat)]? : Option (Option L)) with
    | some (some (.oI c' ns vs)) => if c' = c ∧ D.lowL vs = true then .ok (ns, vs) else .no
    | _ => .no
  | .ex x env => match (env[(0 : Nat)]? : Option (Option L)) with
    | some (some (.oI _ _ _)) => if x.c < 100 ∧ D.lowL x.vs = true then .ex x else .no
    | _ => .no
  | _ => .no
  else .no
theorem ext_back {G H G1 H1 : Hp} {x : Addr} (e : Ext G H G1 H1) (g : G1 x = none) (h : H x = none) : Ext G H G1 (hMinus H1 x) :=
  ⟨e.g, fun b u q => by
    have : b ≠ x := fun z => by rw [z, h] at q; cases q
    rw [hMinus_ne this]; exact e.h b u q, fun b u q => by
    have : b ≠ x := fun z => by rw [z, g] at q; cases q
    rw [hMinus_ne this]; exact e.i b u q, e.n⟩
def tagI (cl : Nat → Addr) (y : Addr) : Nat → Addr := fun t => if t = 102 then y else cl t
theorem tagI_lt {cl : Nat → Addr} {y : Addr} (t : Nat) (h : t < 100) : cl t = tagI cl y t := by unfold tagI; rw [if_neg (by omega)]
theorem fn_DI {P : Program} {w : World} {K : PySem.W.Frag} {mg : Str → Option Value} {base : Heap} {x qual : Str} {st : Stmt} {f : Addr} {fd : FuncData} {N ps : List Str} {c k np : Nat} {body : Ev → SO} (F : Fun K x qual st f fd) (S : FnScope N ps (defScope st)) (hp : ps.length = np + 1) (c100 : c < 100)
    (hb : ∀ (cl' : Nat → Addr), (∀ t, t < 100 → cl t = cl' t) → ∀ (cdv : Value) (A : Around) (outer : List PySem.Env) (s : Shared) (H : Hp) (E : XK), Room k (A.deeper (PyProof.Rows.envOfC qual (defScope st) s.heap.objs.size f cdv)) → Ctx (cxOf (L2.CX P w) P w K mg base N qual (defScope st) f cdv A outer s H E) (fun c d _ H => E c d H) →
      DSs cl' (cxOf (L2.CX P w) P w K mg base N qual (defScope st) f cdv A outer s H E) (fun c d _ H => E c d H) (defBody st) body) : FnOk P w K mg base (L2.CX P w) (k + 1) f fd ps (spI cl K c np (initD c N.length np body)) := by
  refine F.okX S (fun vs H Q E h => ?_) fun cdv A outer s H vs Q E hr h => ?_
  · obtain ⟨_, _, us, _, _, rfl, hl, _⟩ := h
    rw [List.length_cons, hl, hp]
  · obtain ⟨y, dx, us, ds, G, rfl, hl, hy, gy, sm, i, h⟩ := h
    have tg := @tagI_lt cl y
    obtain ⟨t, q, hd⟩ := hb (tagI cl y) tg cdv A outer s H E hr ⟨rfl, S.nd, passes_of rfl, takes_of rfl rfl rfl rfl⟩
    have hdl : ds.length = np := by rw [← i.length]; exact hl
    have hlow : D.lowL ds = true := by
      by_cases hc : D.lowL ds = true
      · exact hc
      · unfold initD at h
        rw [if_neg (fun z => hc z.2)] at h
        exact h.elim
    unfold initD at h
    rw [if_pos ⟨hdl, hlow⟩] at h
    have i := i.tags tg hlow
    have t102 : tagI cl y 102 = y := if_pos rfl
    have tc : cl c = tagI cl y c := tg c c100
    have sm0 : Same G (hMinus H y) := fun b u e => by rw [hMinus_ne (fun z => by rw [z, gy] at e; cases e)]; exact sm b u e
    have r0 := rep_start (N := N.tail) sm0 i
    have rep : RepE K (tagI cl y) G (hMinus H y) G H (L2.start N (V.ref y :: us)) (some (.oI c [] []) :: (ds.map (fun d => some (L.sh d)) ++ List.replicate (N.length - (np + 1)) none)) := by
      have hst : L2.start N (V.ref y :: us) = some (V.ref y) :: L2.start N.tail us := by
        unfold L2.start
        simp only [List.map_cons, List.cons_append, List.length_cons, List.length_tail]
        rw [Nat.sub_sub, Nat.add_comm]
      have het : N.tail.length - ds.length = N.length - (np + 1) := by rw [List.length_tail, hdl]; omega
      rw [het] at r0
      rw [hst]
      have ex0 : Ext G (hMinus H y) G H := ⟨.refl _, fun b u e => by
        by_cases hb : b = y
        · rw [hb, hMinus_self] at e; cases e
        · rw [hMinus_ne hb] at e; exact e, sm, fun _ _ h => h⟩
      have ly : LIs K (tagI cl y) G H (.ref y) (.oI c [] []) := by
        have := @LIs.oI K (tagI cl y) G H dx c [] [] [] (by rw [t102]; exact gy) (by rw [t102, ← tc]; exact hy) rfl .nil
        rw [t102] at this
        exact this
      refine ⟨⟨sm, by rw [List.length_cons, List.length_cons, r0.len], fun j l hj => ?_, fun j1 j2 l l' v h1 h2 o1 o2 s1 s2 => ?_⟩, ex0, fun j l pp hj ho hs => ?_⟩
      · cases j with
        | zero => cases hj; exact ⟨_, rfl, ly⟩
        | succ j =>
          rw [List.getElem?_cons_succ] at hj
          obtain ⟨v, hv, lv⟩ := r0.at j l hj
          exact ⟨v, by rw [List.getElem?_cons_succ]; exact hv, lv.ext ex0⟩
      · have apart : ∀ (j : Nat) (l : L), (ds.map (fun d => some (L.sh d)) ++ List.replicate (N.length - (np + 1)) none)[j]? = some (some l) → l.own = true → (L2.start N.tail us)[j]? ≠ some (some (.ref y)) := fun j l hj ho e => by
          obtain ⟨v, hv, lv⟩ := r0.at j l hj
          obtain ⟨p, rfl, _, hp⟩ := lv.ref ho
          rw [hv] at e
          cases e
          exact hp hMinus_self
        cases j1 with
        | zero =>
          cases j2 with
          | zero => rfl
          | succ j2 =>
            rw [List.getElem?_cons_succ] at h2 s2
            rw [List.getElem?_cons_zero] at s1
            cases s1
            exact absurd s2 (apart j2 l' h2 o2)
        | succ j1 =>
          cases j2 with
          | zero =>
            rw [List.getElem?_cons_succ] at h1 s1
            rw [List.getElem?_cons_zero] at s2
            cases s2
            exact absurd s1 (apart j1 l h1 o1)
          | succ j2 =>
            rw [List.getElem?_cons_succ] at h1 h2 s1 s2
            rw [r0.sep j1 j2 l l' v h1 h2 o1 o2 s1 s2]
      · cases j with
        | zero => cases hs; exact hMinus_self
        | succ j =>
          rw [List.getElem?_cons_succ] at hj hs
          exact r0.new j l pp hj ho hs
    refine ⟨t, q, hd G (hMinus H y) G H _ _ _ rep ?_⟩
    generalize hbd : body (some (.oI c [] []) :: (ds.map (fun d => some (L.sh d)) ++ List.replicate (N.length - (np + 1)) none)) = out at h ⊢
    have back : ∀ {G2 H2 : Hp} {σ2 : L2.St} {env2 : Ev} {c' : Nat} {ns : List Str} {es : List D}, RepE K (tagI cl y) G (hMinus H y) G2 H2 σ2 env2 → env2[(0 : Nat)]? = some (some (.oI c' ns es)) →
        Ext G (hMinus H y) G2 (hMinus H2 y) ∧ G2 y = none ∧ ∃ dx' fs, H2 y = some (.ins (tagI cl y c') dx' fs) ∧ fs.map (·.1) = ns ∧ IsL K (tagI cl y) G2 (fs.map (·.2)) es := fun {G2 H2 σ2 env2 c' ns es} r2 h0 => by
      obtain ⟨w, sp, lv⟩ := r2.at 0 _ h0
      cases lv with
      | @oI dx' _ fs _ _ gp hp hk ix =>
        rw [t102] at gp hp
        exact ⟨ext_back r2.ext gp hMinus_self, gp, dx', fs, hp, hk, ix⟩
    cases out with
    | no => exact h.elim
    | bk e => exact h.elim
    | ct e => exact h.elim
    | rt e => exact h.elim
    | nx e =>
      dsimp only at h
      intro G2 H2 σ2 r2
      cases h0 : (e[(0 : Nat)]? : Option (Option L)) with
      | none => rw [h0] at h; exact h.elim
      | some o =>
        rw [h0] at h
        cases o with
        | none => exact h.elim
        | some l =>
          cases l with
          | oI c' ns es =>
            dsimp only at h
            split at h
            · rename_i ns' es' hx
              split at hx
              · rename_i hc
                obtain ⟨rfl, hlw⟩ := hc
                cases hx
                obtain ⟨e1, g1, dx', fs, hp, hk, ix⟩ := back r2 h0
                exact h G2 H2 dx' fs e1 g1 (by rw [tc]; exact hp) hk (ix.tags (fun t ht => (tg t ht).symm) hlw)
              · cases hx
            · rename_i z hx
              split at hx <;> cases hx
            · exact h.elim
          | _ => exact h.elim
    | ex x e =>
      dsimp only at h
      intro d1 d G2 H2 σ2 r2 ix
      cases h0 : (e[(0 : Nat)]? : Option (Option L)) with
      | none => rw [h0] at h; exact h.elim
      | some o =>
        rw [h0] at h
        cases o with
        | none => exact h.elim
        | some l =>
          cases l with
          | oI c' ns es =>
            dsimp only at h
            split at h
            · rename_i hx; split at hx <;> cases hx
            · rename_i z hx
              split at hx
              · rename_i hc
                cases hx
                obtain ⟨e1, g1, _⟩ := back r2 h0
                exact h d1 d G2 H2 e1 g1 (ix.tags (fun t ht => (tg t ht).symm) hc.1 hc.2)
              · cases hx
            · exact h.elim
          | _ => exact h.elim

/-! ### the making -/
theorem run_makeS {C f : Addr} {fd : FuncData} {ps : List Str} {k : Nat} {sp : Sp} {E : XK} {pins : List (Addr × Obj)} {σ : St} {H : Hp} {s : Shared} {Q : VK} {us : List Value} {vs : List V} (M : Mk X.K C f) (F : FnOk X.prog X.w X.K X.mg X.base (L2.CX X.prog X.w) k f fd ps sp) (hr : Room (k + 1) X.A) (hb : Binds X.K fd ps [])
    (hx : PassesAt (L2.CX X.prog X.w) X σ E) (I : Inv X pins σ H s) (r : Vals vs us)
    (h : ∀ x dx, H x = none → H dx = none → dx ≠ x → sp (.ref x :: vs) (upd (upd H dx (.own x)) x (.ins C dx [])) (fun v H2 => v = .non ∧ Q (.ref x) H2) E) :
    wpAny (model X.prog X.w) X.A (call (.ref C) us) (EP X pins σ Q) X.xe s := by
  have hq := h (s.heap.objs.size + 1) s.heap.objs.size (I.hok.fresh (Nat.le_succ _)) (I.hok.fresh (Nat.le_refl _)) (Nat.ne_of_lt (Nat.lt_succ_self _))
  have I2 := Inv.made (C := C) I
  have r2 : Vals (V.ref (s.heap.objs.size + 1) :: vs) (Value.ref (s.heap.objs.size + 1) :: us) := .cons rfl r
  have hl : (Value.ref (s.heap.objs.size + 1) :: us ++ []).length = ps.length := by
    have e := r2.length
    rw [F.len _ _ _ _ hq] at e
    rw [List.append_nil]
    exact e.symm
  have hbb := hb _ (Value.ref (s.heap.objs.size + 1) :: us) I2.kIn hl
  rw [List.append_nil] at hbb
  refine wpAny_call (make_map (f := f) I.kIn M.makes M.init (beq_iff_eq.mp M.fn) (codeAny_mono (F.run _ X.stack _ _ ⟨Value.ref (s.heap.objs.size + 1) :: us, []⟩ (Value.ref (s.heap.objs.size + 1) :: us) _ _ E (hr.make C us [])
    (I2.env0.make C us []) hbb r2 hq) fun r s' hq' => ?_))
  cases r with
  | error e => exact hx pins _ _ e s' I2 hq'
  | ok fl =>
    cases fl with
    | ret u =>
      obtain ⟨v, H', I3, rv, ev, q3⟩ := I2.after hq'
      subst ev
      exact ⟨rv, ⟨V.ref (s.heap.objs.size + 1), H', I3, rfl, q3⟩⟩
    | next => exact False.elim hq'
    | brk => exact False.elim hq'
    | cont => exact False.elim hq'
theorem pe_makeS {C fp : Addr} {fd : FuncData} {ps : List Str} {k : Nat} {sp : Sp} {E : L2.St → XK} {x : Str} {t : TA} (M : Mk X.K C fp) (F : FnOk X.prog X.w X.K X.mg X.base (L2.CX X.prog X.w) k fp fd ps sp) (hr : Room (k + 1) X.A) (hg : Gl X x) (hm : X.mg x = some (.ref C)) (hb : Binds X.K fd ps [])
    (hx : ∀ σ, PassesAt (L2.CX X.prog X.w) X σ (E σ))
    (ha : PA X (e :: es) t) (hdb : (x == ("__debug__" : Str)) = false) (he : starEach (e :: es) X.env = (false, eval e X.env) :: starEach es X.env) (hpl : (backTo pos (starEach es X.env)).any (·.1) = false) :
    PE X (.Call (.Name x p) (e :: es) [] pos) (fun σ H Q => t σ H fun vs H1 => ∀ x dx, H1 x = none → H1 dx = none → dx ≠ x → sp (.ref x :: vs) (upd (upd H1 dx (.own x)) x (.ins C dx [])) (fun v H2 => v = .non ∧ Q (.ref x) H2) (E σ)) := by
  refine ⟨fun pins s σ H Q I h => ?_⟩
  refine wpAny_Call_Name_kw (ld_glob I hg hm ?_ hdb)
  refine PySem.W.callWith_K (h₀ := X.base) I.ok.mod.kin M.kp (thn (ha.run pos pins s σ H _ I h) fun us s1 ⟨vs, H1, I1, r, q⟩ => ⟨I1.kIn, ?_⟩) he hpl
  exact run_makeS M F hr hb (hx σ) I1 r q
mutual
/-- no part of it is a list that is empty or begins otherwise than with a number -/
def D.away : D → Bool
  | .lst (.int i :: es) => D.awayL es
  | .lst _ => false
  | .lkd _ => false
  | .lkt _ => false
  | .tup es => D.awayL es
  | .ins _ _ es => D.awayL es
  | .dK _ es => D.awayL es
  | .dT _ es => D.awayL es
  | .exn _ _ _ => false
  | .at _ => false
  | _ => true
def D.awayL : List D → Bool
  | [] => true
  | d :: ds => D.away d && D.awayL ds
end
def headNo : List D → Bool
  | .int _ :: _ => false
  | _ => true
mutual
theorem Is.away {K : PySem.W.Frag} {G : Hp} {p : Addr} {xs : List V} {es : List D} (hp : G p = some (.lst xs)) (hi : IsL K cl G xs es) (hh : headNo es = true) : ∀ {v : V} {d : D}, Is K cl G v d → D.away d = true → Is K cl (hMinus G p) v d
  | _, _, .non, _ => .non
  | _, _, .bl b, _ => .bl b
  | _, _, .int i, _ => .int i
  | _, _, .str x, _ => .str x
  | _, _, .at t, l => by simp [D.away] at l
  | _, _, .lst (a := a) (xs := ys) (ds := ds) q t, l => by
    have na : a ≠ p := fun z => by
      subst z
      rw [q] at hp
      cases hp
      cases t with
      | nil => simp [D.away] at l
      | @cons v vs d ds h1 t1 =>
        cases d <;> first | (simp [D.away] at l; done) | skip
        cases h1
        cases hi with
        | @cons _ _ d2 _ h2 t2 => cases h2; cases hh
    refine .lst (by rw [hMinus_ne na]; exact q) ?_
    cases t with
    | nil => exact .nil
    | @cons v vs d ds h1 t1 =>
      cases d <;> first | (simp [D.away] at l; done) | skip
      cases h1
      exact .cons (.int _) (IsL.away hp hi hh t1 (by simpa [D.away] using l))
  | _, _, .lkd q t, l => by simp [D.away] at l
  | _, _, .tup q t, l => .tup (by rw [hMinus_ne (fun z => by rw [z, hp] at q; cases q)]; exact q) (IsL.away hp hi hh t (by simpa [D.away] using l))
  | _, _, .lkt q t, l => by simp [D.away] at l
  | _, _, .ins q z t, l => .ins (by rw [hMinus_ne (fun z => by rw [z, hp] at q; cases q)]; exact q) z (IsL.away hp hi hh t (by simpa [D.away] using l))
  | _, _, .dK q z t, l => .dK (by rw [hMinus_ne (fun z => by rw [z, hp] at q; cases q)]; exact q) z (IsL.away hp hi hh t (by simpa [D.away] using l))
  | _, _, .dT q z t, l => .dT (by rw [hMinus_ne (fun z => by rw [z, hp] at q; cases q)]; exact q) z (IsL.away hp hi hh t (by simpa [D.away] using l))
  | _, _, .exn0 q, l => by simp [D.away] at l
  | _, _, .exn1 q q2 z t, l => by simp [D.away] at l
theorem IsL.away {K : PySem.W.Frag} {G : Hp} {p : Addr} {xs : List V} {es : List D} (hp : G p = some (.lst xs)) (hi : IsL K cl G xs es) (hh : headNo es = true) : ∀ {vs : List V} {ds : List D}, IsL K cl G vs ds → D.awayL ds = true → IsL K cl (hMinus G p) vs ds
  | _, _, .nil, _ => .nil
  | _, _, .cons q t, l => by simp only [D.awayL, Bool.and_eq_true] at l; exact .cons (Is.away hp hi hh q l.1) (IsL.away hp hi hh t l.2)
end
/-- what __init__ of Order keeps -/
structure OrdOk (P : Program) (w : World) (K : PySem.W.Frag) (mg : Str → Option Value) (base : Heap) (cl : Nat → Addr) (k : Nat) (FO : List D → O (List Str × List D)) : Prop where
  ex : ∃ (f : Addr) (fd : FuncData) (ps : List Str), FnOk P w K mg base (L2.CX P w) k f fd ps (spI cl K 0 2 FO) ∧ Mk K (cl 0) f ∧ Binds K fd ps []
  mg : mg "Order" = some (.ref (cl 0))
def lentD : D → Bool
  | .lst es => headNo es
  | .dK _ _ => false
  | .dT _ _ => false
  | .ins _ _ _ => false
  | _ => true
def fOrder (FO : List D → O (List Str × List D)) (fa : Ev → O (List D)) : Ev → O R := fun env => (fa env).bind fun ds => match ds with
  | [d1, d2] => if flatD d1 = true ∧ lentD d2 = true then (match FO [d1, d2] with
    | .ok (ns, es) => if D.awayL es = true then .ok (.sh (.ins 0 ns es)) else .no
    | .ex x => if D.awayL x.vs = true then .ex x else .no
    | .no => .no) else .no
  | _ => .no
/-- the heap part in which the lent argument stands, and the way back -/
theorem lend_one {K : PySem.W.Frag} {G H : Hp} {v : V} {d : D} (s : Same G H) (h : Vw K cl G H v d) (l : lentD d = true) : ∃ G2, Same G G2 ∧ Same G2 H ∧ Is K cl G2 v d ∧
    ∀ (G3 H3 : Hp), Ext G2 H G3 H3 → ∃ G4, Ext G H G4 H3 ∧ (∀ (vs : List V) (ds : List D), IsL K cl G3 vs ds → D.awayL ds = true → IsL K cl G4 vs ds) ∧ (∀ (b : Addr), H b = none → G4 b = G3 b) ∧ (∀ (b : Addr) (o : HO), (∀ l, o ≠ .lst l) → G3 b = some o → G4 b = some o) := by
  have same : Is K cl G v d → ∃ G2, Same G G2 ∧ Same G2 H ∧ Is K cl G2 v d ∧
    ∀ (G3 H3 : Hp), Ext G2 H G3 H3 → ∃ G4, Ext G H G4 H3 ∧ (∀ (vs : List V) (ds : List D), IsL K cl G3 vs ds → D.awayL ds = true → IsL K cl G4 vs ds) ∧ (∀ (b : Addr), H b = none → G4 b = G3 b) ∧ (∀ (b : Addr) (o : HO), (∀ l, o ≠ .lst l) → G3 b = some o → G4 b = some o) := fun h =>
    ⟨G, .refl _, s, h, fun G3 H3 e => ⟨G3, e, fun _ _ i _ => i, fun _ _ => rfl, fun _ _ _ h => h⟩⟩
  cases h with
  | of h => exact same h
  | dK => cases l
  | dT => cases l
  | ins => cases l
  | @lst p xs ds hp t =>
    by_cases hg : G p = none
    · have sg : Same G (upd G p (.lst xs)) := same_upd hg
      refine ⟨upd G p (.lst xs), sg, fun b u e => ?_, .lst upd_same (t.mono sg), fun G3 H3 e => ⟨hMinus G3 p, ⟨fun b u q => ?_, e.h, fun b u q => ?_, fun b hb hgb => ?_⟩, fun vs ds i a => ?_, fun b hb => hMinus_ne (fun z => by rw [z, hp] at hb; cases hb), fun b o ho hb => ?_⟩⟩
      · by_cases hb : b = p
        · rw [hb, upd_same] at e; cases e; rw [hb]; exact hp
        · rw [upd_ne hb] at e; exact s b u e
      · have hb : b ≠ p := fun z => by rw [z, hg] at q; cases q
        rw [hMinus_ne hb]; exact e.g b u (sg b u q)
      · have hb : b ≠ p := fun z => by rw [z, hMinus_self] at q; cases q
        rw [hMinus_ne hb] at q; exact e.i b u q
      · by_cases hbp : b = p
        · rw [hbp]; exact hMinus_self
        · rw [hMinus_ne hbp]; exact e.n b hb (by rw [upd_ne hbp]; exact hgb)
      · exact IsL.away (e.g _ _ upd_same) ((t.mono sg).mono e.g) l i a
      · have hbp : b ≠ p := fun z => by
          have := e.g p _ upd_same
          rw [z, this] at hb
          cases hb
          exact ho _ rfl
        rw [hMinus_ne hbp]; exact hb
    · cases hq : G p with
      | none => exact absurd hq hg
      | some o =>
        have := s _ _ hq
        rw [hp] at this
        cases this
        exact same (.lst hq t)
theorem de_order {k : Nat} {FO : List D → O (List Str × List D)} {fa : Ev → O (List D)} (h : OrdOk X.prog X.w X.K X.mg X.base cl k FO) (hr : Room (k + 1) X.A) (tk : Takes X W) (ha : DAv cl X W (e :: es) fa) (hg : Gl X "Order" := by rfl)
    (hdb : (("Order" : Str) == ("__debug__" : Str)) = false := by decide) (he : starEach (e :: es) X.env = (false, eval e X.env) :: starEach es X.env := by rfl) (hpl : (backTo pos (starEach es X.env)).any (·.1) = false := by rfl) :
    DE cl X W (.Call (.Name "Order" p) (e :: es) [] pos) (fOrder FO fa) := by
  obtain ⟨f, fd, ps, ok, hm, hb⟩ := h.ex
  obtain ⟨t, q, ha⟩ := ha
  refine ⟨_, pe_makeS (E := WE W) hm ok hr hg h.mg hb (fun σ => passAt tk σ) q hdb he hpl, fun G H σ env Q rep z => ha G H σ env _ rep ?_⟩
  unfold fOrder at z
  cases h1 : fa env with
  | no => rw [h1] at z; exact z.elim
  | ex x => rw [h1] at z; exact z
  | ok ds =>
    rw [h1] at z
    intro vs G1 H1 e1 i1
    simp only [O.bind] at z
    match ds, z, i1 with
    | [d1, d2], z, .cons (a := v1) w1 (.cons (a := v2) w2 .nil) =>
      dsimp only at z
      intro x dx hx hdx hne
      by_cases hc : flatD d1 = true ∧ lentD d2 = true
      · rw [if_pos hc] at z
        obtain ⟨G2, sg, sh, i2, back⟩ := lend_one e1.i w2 hc.2
        have i1 : Is X.K cl G2 v1 d1 := flat_any (Vw.isH e1.i w1) hc.1
        obtain ⟨Hn, hHn⟩ : ∃ Hn, Hn = upd (upd H1 dx (.own x)) x (.ins (cl 0) dx []) := ⟨_, rfl⟩
        have hn1 : Same H1 Hn := by rw [hHn]; exact (same_upd hdx).trans (same_upd (by rw [upd_ne (Ne.symm hne)]; exact hx))
        have hnx : Hn x = some (.ins (cl 0) dx []) := by rw [hHn]; exact upd_same
        have g2x : G2 x = none := sh.free hx
        have ext : ∀ {G3 H3 : Hp}, Ext G2 (hMinus Hn x) G3 (hMinus H3 x) → G3 x = none → Ext G2 H1 G3 H3 := fun {G3 H3} e g3 => ⟨e.g, fun b u q => by
            have hb : b ≠ x := fun z => by rw [z, hx] at q; cases q
            have := e.h b u (by rw [hMinus_ne hb]; exact hn1 b u q)
            rw [hMinus_ne hb] at this; exact this, fun b u q => by
            have hb : b ≠ x := fun z => by rw [z, g3] at q; cases q
            have := e.i b u q
            rw [hMinus_ne hb] at this; exact this, fun b hb hgb => by
            by_cases hbx : b = x
            · rw [hbx]; exact g3
            · exact e.n b (by rw [hMinus_ne hbx]; exact Same.some_of hn1 hb) hgb⟩
        rw [← hHn]
        refine ⟨x, dx, [v1, v2], [d1, d2], G2, rfl, rfl, hnx, g2x, sh.trans hn1, .cons i1 (.cons i2 .nil), ?_⟩
        cases hF : FO [d1, d2] with
        | no => rw [hF] at z; exact z.elim
        | ex y =>
          rw [hF] at z
          dsimp only at z
          by_cases hw : D.awayL y.vs = true
          · rw [if_pos hw] at z
            intro c d G3 H3 e3 g3 ix
            obtain ⟨G4, e4, mv, eqn, kp⟩ := back G3 H3 (ext e3 g3)
            refine z c d G4 H3 (e1.trans e4) ?_
            cases ix with
            | x0 => exact .x0
            | @x1 _ d fs _ _ q1 q2 q3 =>
              exact .x1 (kp d _ (fun l z => by cases z) q1) q2 (mv _ _ q3 hw)
          · rw [if_neg hw] at z; exact z.elim
        | ok r =>
          obtain ⟨ns, fs'⟩ := r
          rw [hF] at z
          dsimp only at z
          by_cases hw : D.awayL fs' = true
          · rw [if_pos hw] at z
            intro G3 H3 dx' fs e3 g3 h3 hk i3
            refine ⟨rfl, ?_⟩
            obtain ⟨G4, e4, mv, eqn, kp⟩ := back G3 H3 (ext e3 g3)
            have g4 : G4 x = none := by rw [eqn x hx]; exact g3
            have e5 := e4.fix hx g4 h3
            exact z (.ref x) _ H3 (e1.trans e5) (.sh (.ins upd_same hk ((mv _ _ i3 hw).mono (same_upd g4))))
          · rw [if_neg hw] at z; exact z.elim
      · rw [if_neg hc] at z; exact z.elim
structure LJOk (P : Program) (w : World) (K : PySem.W.Frag) (mg : Str → Option Value) (base : Heap) (cl : Nat → Addr) (k : Nat) (FLJ : Int → List Int → List Int → O (List (List Key) × List Int × List (List Key) × List Int)) : Prop where
  ex : ∃ (f : Addr) (fd : FuncData), FnOk P w K mg base (L2.CX P w) k f fd ["self"] (spLJ cl K FLJ) ∧ Meth K (cl 0) "look_joins" f ∧ Binds K fd ["self"] []
theorem dss_joinsB {FLJ : Int → List Int → List Int → O (List (List Key) × List Int × List (List Key) × List Int)} {k : Nat} {pl : Sem Bool} (hlj : LJOk X.prog X.w X.K X.mg X.base cl k FLJ) (hc : Cls X.K (cl 0)) (n1 : NoAttr X.K (cl 0) "joins") (n2 : NoAttr X.K (cl 0) "meets")
    (hr : Room k X.A) (tk : Takes X W) (h : DSs cl X W rest g)
    (hN : X.N[0]? = some ("self" : Str) := by rfl) (hv : Vis X.env.scope "self" := by first | exact Or.inl rfl | exact Or.inr (Or.inl rfl) | exact Or.inr (Or.inr rfl))
    (hs1 : swapsWith (.Dict [] [] p3) (some (.Attribute (.Name "self" p1) "joins" p2)) pos.line X.env = pure false := by rfl)
    (hs2 : swapsWith (.Dict [] [] p6) (some (.Attribute (.Name "self" p4) "meets" p5)) pos2.line X.env = pure false := by rfl)
    (hs3 : swapsWith (.Call (.Attribute (.Name "self" p) "look_joins" apos) [] [] cpos) none pos3.line X.env = pure false := by rfl)
    (ht : eval (.Call (.Attribute (.Name "self" p) "look_joins" apos) [] [] cpos) X.env = (do
      let ov ← eval (.Name "self" p) X.env
      standAt apos.atName
      let (f, first) ← holding [ov] (getMethod ov "look_joins" pl)
      callWith cpos f first (backTo cpos (starEach [] X.env)) (backToKw cpos (keywordEach [] X.env))) := by rfl) :
    DSs cl X W (.Assign [.Attribute (.Name "self" p1) "joins" p2] (.Dict [] [] p3) pos :: .Assign [.Attribute (.Name "self" p4) "meets" p5] (.Dict [] [] p6) pos2 :: .Expr (.Call (.Attribute (.Name "self" p) "look_joins" apos) [] [] cpos) pos3 :: rest) (sSeq (sJoins FLJ) g) := by
  obtain ⟨f, fd, ok, hm, hb⟩ := hlj.ex
  exact dss_joins hc n1 n2 hm ok hb hr tk h hN hv hs1 hs2 hs3 ht
end
end DL

/-! DLk: a law's promise, from the plain function. -/
namespace DL
open PySem PySem.Spec L2 PyProof.Rows
def spLaw (K : PySem.W.Frag) : Sp := fun vs H Q _ => ∃ (a : Addr) (ns : List Int), vs = [.ref a] ∧ SqL K H a (ns.map V.int) ∧ ns.length ≤ 63 ∧ ∀ H', Q (.bl true) H'
theorem law_imp {P : Program} {w : World} {K : PySem.W.Frag} {mg : Str → Option Value} {base : Heap} {CX : CXT} {cl : Nat → Addr} {k : Nat} {f : Addr} {fd : FuncData} {ps : List Str} {F : List D → O R} (hF : ∀ ns : List Int, ns.length ≤ 63 → F [.lkd (ns.map D.int)] = .ok (.sh (.bl true)))
    (ok : FnOk P w K mg base CX k f fd ps (spD cl K 1 F)) : FnOk P w K mg base CX k f fd ps (spLaw K) := ok.imp fun vs H Q E h => by
  obtain ⟨a, ns, rfl, hs, hl, hq⟩ := h
  refine ⟨rfl, H, [.lkd (ns.map D.int)], .refl _, .cons (.lkd hs isl_ints) .nil, ?_⟩
  rw [hF ns hl]
  intro v G' H' e i
  cases i with | sh i => cases i; exact hq _
theorem law_walk {l : PySem.W.OpenLaw} {q : Program} {loose : List Str} {XP : (Str → Option Value) → Heap → Prop} {YP : World → Heap → Prop} {d : DefRec} {K : Params → PySem.W.Frag} {k : Nat} {x : Str} (hn : l.most = some 63) (hdf : d.params.defaults = []) (hr : Room k callerA)
    (hY : ∀ (w : World) (h : Heap), YP w h → (K w.params).In h)
    (F : ∀ (w : World) (mg : Str → Option Value) (fa : Addr) (h : Heap), (K w.params).In h → h.Ns mainGlobals mg → mg d.name = some (.ref fa) →
      ∃ fd : FuncData, (∀ (s : Shared) (u : Value), BindsTo s fd ⟨[u], []⟩ [(x, u)]) ∧ ∀ base : Heap, (K w.params).In base → base.Ns mainGlobals mg → FnOk l.prog w (K w.params) mg base (L2.CX l.prog w) k fa fd [x] (spLaw (K w.params))) :
    PySem.W.WalkO q loose XP YP l.row.toRowW d [] (fun f vs => PySem.call f vs) :=
  L2.walk_of (n := 63) (k := k) (x := x) (CX := fun w => L2.CX l.prog w) (sp := fun w => spLaw (K w.params)) hn (by decide) hdf hr hY F (fun _ _ a ns hl _ hS => ⟨a, ns, rfl, hS, hl, fun _ => rfl⟩) fun _ _ _ _ _ z => by
    obtain ⟨_, _, _, _, _, _, _, _, _, _, _, _, z⟩ := z
    exact z
abbrev AG (cl0 cl : Nat → Addr) : Prop := ∀ t, t < 100 → cl0 t = cl t
theorem AG.trans {a b c : Nat → Addr} (h : AG a b) (g : AG b c) : AG a c := fun t ht => (h t ht).trans (g t ht)
end DL

/-! Ek: how the plain functions are reckoned: a run of statements with what is wanted of its end (wpS), and one row for each combinator. -/
namespace DL
open PySem PySem.Spec L2

def sFz (i : Nat) (f : Ev → SO) : Ev → SO := fun env => f (fzE i env)

/-- what is wanted of an end -/
structure Post where
  nx : Ev → Prop := fun _ => False
  bk : Ev → Prop := fun _ => False
  ct : Ev → Prop := fun _ => False
  rt : R → Prop := fun _ => False
  ex : Ex → Ev → Prop := fun _ _ => False
def wp0 (p : Post) : List (Ev → SO) → SO → Prop
  | [], .nx e => p.nx e
  | f :: ks, .nx e => wp0 p ks (f e)
  | _, .rt r => p.rt r
  | _, .bk e => p.bk e
  | _, .ct e => p.ct e
  | _, .ex x e => p.ex x e
  | _, .no => False
/-- closed, so that no reckoning looks into it -/
structure wpS (p : Post) (ks : List (Ev → SO)) (o : SO) : Prop where
  out : wp0 p ks o
section
variable {p q : Post} {ks : List (Ev → SO)} {f g : Ev → SO} {env e : Ev} {r : R} {x : Ex}
theorem wpS_eq {o : SO} : wpS p ks o = wp0 p ks o := propext ⟨fun h => h.out, fun h => ⟨h⟩⟩
theorem wp_nil : wpS p [] (.nx e) = p.nx e := wpS_eq
theorem wp_cons : wpS p (f :: ks) (.nx e) = wpS p ks (f e) := by rw [wpS_eq, wpS_eq]; rfl
theorem wp_rt : wpS p ks (.rt r) = p.rt r := by rw [wpS_eq]; cases ks <;> rfl
theorem wp_bk : wpS p ks (.bk e) = p.bk e := by rw [wpS_eq]; cases ks <;> rfl
theorem wp_ct : wpS p ks (.ct e) = p.ct e := by rw [wpS_eq]; cases ks <;> rfl
theorem wp_ex : wpS p ks (.ex x e) = p.ex x e := by rw [wpS_eq]; cases ks <;> rfl
theorem wp_no : wpS p ks .no = False := by rw [wpS_eq]; cases ks <;> rfl
theorem wp_seq : wpS p ks (sSeq f g env) = wpS p (g :: ks) (f env) := by
  rw [wpS_eq, wpS_eq]
  unfold sSeq
  cases f env <;> cases ks <;> rfl
theorem wp_fz {i : Nat} : wpS p ks (sFz i f env) = wpS p ks (f (fzE i env)) := rfl
theorem wp_nx : wpS p ks (sNx env) = wpS p ks (.nx env) := rfl
theorem wp_mono (hn : ∀ e, p.nx e → q.nx e) (hb : ∀ e, p.bk e → q.bk e) (hc : ∀ e, p.ct e → q.ct e) (hr : ∀ r, p.rt r → q.rt r) (hx : ∀ x e, p.ex x e → q.ex x e) : ∀ {ks : List (Ev → SO)} {o : SO}, wpS p ks o → wpS q ks o
  | [], .nx e, h => by rw [wp_nil] at h ⊢; exact hn e h
  | f :: ks, .nx e, h => by rw [wp_cons] at h ⊢; exact wp_mono hn hb hc hr hx (ks := ks) (o := f e) h
  | ks, .rt r, h => by rw [wp_rt] at h ⊢; exact hr _ h
  | ks, .bk e, h => by rw [wp_bk] at h ⊢; exact hb _ h
  | ks, .ct e, h => by rw [wp_ct] at h ⊢; exact hc _ h
  | ks, .ex x e, h => by rw [wp_ex] at h ⊢; exact hx _ _ h
  | ks, .no, h => by rw [wp_no] at h; exact h.elim
end
/-- a def that ends with a return -/
theorem fn_rt {n k : Nat} {body : Ev → SO} {ds : List D} {P : R → Prop} (hl : ds.length = k) (h : wpS { rt := P } [] (body (ds.map (fun d => some (.sh d)) ++ List.replicate (n - k) none))) : ∃ r, fnD n k body ds = .ok r ∧ P r := by
  unfold fnD
  rw [if_pos hl]
  generalize body (ds.map (fun d => some (L.sh d)) ++ List.replicate (n - k) none) = o at h
  cases o with
  | rt r => rw [wp_rt] at h; exact ⟨r, rfl, h⟩
  | nx => rw [wp_nil] at h; exact h.elim
  | bk => rw [wp_bk] at h; exact h.elim
  | ct => rw [wp_ct] at h; exact h.elim
  | ex => rw [wp_ex] at h; exact h.elim
  | no => rw [wp_no] at h; exact h.elim
theorem fn_eq {n k : Nat} {body : Ev → SO} {ds : List D} {r : R} (hl : ds.length = k) (h : wpS { rt := fun q => q = r } [] (body (ds.map (fun d => some (.sh d)) ++ List.replicate (n - k) none))) : fnD n k body ds = .ok r := by
  obtain ⟨q, e, rfl⟩ := fn_rt hl h
  exact e
/-- a def that hands back nothing -/
theorem fn_nx {n k : Nat} {body : Ev → SO} {ds : List D} (hl : ds.length = k) (h : wpS { nx := fun _ => True } [] (body (ds.map (fun d => some (.sh d)) ++ List.replicate (n - k) none))) : fnD n k body ds = .ok (.sh .non) := by
  unfold fnD
  rw [if_pos hl]
  generalize body (ds.map (fun d => some (L.sh d)) ++ List.replicate (n - k) none) = o at h
  cases o with
  | nx => rfl
  | rt => rw [wp_rt] at h; exact h.elim
  | bk => rw [wp_bk] at h; exact h.elim
  | ct => rw [wp_ct] at h; exact h.elim
  | ex => rw [wp_ex] at h; exact h.elim
  | no => rw [wp_no] at h; exact h.elim
/-- a def that raises -/
theorem fn_ex {n k : Nat} {body : Ev → SO} {ds : List D} {x : Ex} (hl : ds.length = k) (h : wpS { ex := fun y _ => y = x } [] (body (ds.map (fun d => some (.sh d)) ++ List.replicate (n - k) none))) : fnD n k body ds = .ex x := by
  unfold fnD
  rw [if_pos hl]
  generalize body (ds.map (fun d => some (L.sh d)) ++ List.replicate (n - k) none) = o at h
  cases o with
  | ex y e => rw [wp_ex] at h; have h : y = x := h; rw [h]
  | rt => rw [wp_rt] at h; exact h.elim
  | bk => rw [wp_bk] at h; exact h.elim
  | ct => rw [wp_ct] at h; exact h.elim
  | nx => rw [wp_nil] at h; exact h.elim
  | no => rw [wp_no] at h; exact h.elim

/-! ### expressions, one row for each combinator -/
def bind2 (g : D → D → Option R) : O R → O R → O R
  | .ok a, .ok b => O.of (g a.d b.d)
  | .ex x, _ => .ex x
  | .no, _ => .no
  | .ok _, .ex x => .ex x
  | .ok _, .no => .no
def bind1 (g : D → Option R) : O R → O R
  | .ok a => O.of (g a.d)
  | .ex x => .ex x
  | .no => .no
def consO (a : O D) (b : O (List D)) : O (List D) := a.bind fun d => b.map (d :: ·)
def getV : Option (Option L) → O R
  | some (some (.sh d)) => .ok (.sh d)
  | some (some l) => .ok (.bo l)
  | _ => .no
def andB (a : O Bool) (g : Ev → O Bool) (env : Ev) : O Bool := a.bind fun k => bif k then g env else .ok false
def orB (a : O Bool) (g : Ev → O Bool) (env : Ev) : O Bool := a.bind fun k => bif k then .ok true else g env
def andE (a : O Bool) (g : Ev → O R) (env : Ev) : O R := a.bind fun k => bif k then g env else .ok (.sh (.bl false))
def orE (a : O Bool) (g : Ev → O R) (env : Ev) : O R := a.bind fun k => bif k then .ok (.sh (.bl true)) else g env
def tupB (ds : List D) : O R := if ds.length ≤ lim then .ok (.sh (.tup ds)) else .no
def lstB (ds : List D) : O R := if ds.length ≤ lim then .ok (.fr (.ow ds)) else .no
def fldC (c : Nat) (f : Str) : D → O R
  | .ins c' ns vs => if c' = c then O.of ((fldD ns vs f).map .sh) else .no
  | _ => .no
def fldB (c : Nat) (f : Str) (o : O R) : O R := o.bind fun r => fldC c f r.d
def methB (c : Nat) (m : Str) (F : List D → O R) (g : O (List D)) (o : O D) : O R := o.bind fun d => match d with
  | .ins c' ns vs => if c' = c ∧ m ∉ ns then g.bind fun ds => F (.ins c' ns vs :: ds) else .no
  | _ => .no
def chainB (g g' : D → D → Option R) (a b : O R) (fc : Ev → O R) (env : Ev) : O R := a.bind fun a => b.bind fun b => (O.of (g a.d b.d)).bool.bind fun k =>
  bif k then (fc env).bind fun c => O.of (g' b.d c.d) else .ok (.sh (.bl false))
section
variable {env : Ev} {fa fb fc fe fo : Ev → O R} {i : Nat} {d : D} {l : L}
theorem ev_var : eVar i env = getV env[i]? := by
  unfold eVar getV
  cases env[i]? with
  | none => rfl
  | some o =>
    cases o with
    | none => rfl
    | some l => cases l <;> rfl
theorem getV_sh : getV (some (some (.sh d))) = .ok (.sh d) := rfl
theorem getV_ow {ds : List D} : getV (some (some (.ow ds))) = .ok (.bo (.ow ds)) := rfl
theorem getV_oK {ks : List Key} {ds : List D} : getV (some (some (.oK ks ds))) = .ok (.bo (.oK ks ds)) := rfl
theorem getV_oT {ks : List (List Key)} {ds : List D} : getV (some (some (.oT ks ds))) = .ok (.bo (.oT ks ds)) := rfl
theorem getV_oI {c : Nat} {ns : List Str} {ds : List D} : getV (some (some (.oI c ns ds))) = .ok (.bo (.oI c ns ds)) := rfl
theorem getV_oP {c : Nat} {ks : List (List Key)} {ds : List D} : getV (some (some (.oP c ks ds))) = .ok (.bo (.oP c ks ds)) := rfl
theorem ev_c : eC d env = .ok (.sh d) := rfl
theorem ev_bin {g : D → D → Option R} : fBin g fa fb env = bind2 g (fa env) (fb env) := by
  unfold fBin
  cases fa env <;> cases fb env <;> rfl
theorem bind2_ok {g : D → D → Option R} {a b : R} : bind2 g (.ok a) (.ok b) = O.of (g a.d b.d) := rfl
theorem ev_map {g : D → Option R} : fMap g fa env = bind1 g (fa env) := by
  unfold fMap
  cases fa env <;> rfl
theorem bind1_ok {g : D → Option R} {a : R} : bind1 g (.ok a) = O.of (g a.d) := rfl
theorem d_sh : (R.sh d).d = d := rfl
theorem d_fr : (R.fr l).d = l.d := rfl
theorem d_bo : (R.bo l).d = l.d := rfl
theorem ld_sh : (L.sh d).d = d := rfl
theorem ld_ow {ds : List D} : (L.ow ds).d = .lst ds := rfl
theorem ld_oK {ks : List Key} {ds : List D} : (L.oK ks ds).d = .dK ks ds := rfl
theorem ld_oT {ks : List (List Key)} {ds : List D} : (L.oT ks ds).d = .dT ks ds := rfl
theorem ld_oI {c : Nat} {ns : List Str} {ds : List D} : (L.oI c ns ds).d = .ins c ns ds := rfl
theorem ld_oP {c : Nat} {ks : List (List Key)} {ds : List D} : (L.oP c ks ds).d = .dT ks ds := rfl
theorem o_of {α : Type} {a : α} : O.of (some a) = .ok a := rfl
theorem o_of_none {α : Type} : O.of (none : Option α) = .no := rfl
theorem o_bind {α β : Type} {a : α} {f : α → O β} : (O.ok a).bind f = f a := rfl
theorem o_bind_ex {α β : Type} {x : Ex} {f : α → O β} : (O.ex x).bind f = .ex x := rfl
theorem o_map {α β : Type} {a : α} {f : α → β} : (O.ok a).map f = .ok (f a) := rfl
theorem fz_sh : R.fz (.sh d) = .ok d := rfl
theorem fz_fr : R.fz (.fr l) = .ok l.d := rfl
theorem o_bool {b : Bool} : (O.ok (.sh (.bl b))).bool = .ok b := rfl
theorem ev_fB : fB fe env = (fe env).bool := rfl
theorem ev_not {f : Ev → O Bool} : fNot f env = (f env).map not := rfl
theorem ev_eNot : eNot fa env = (fa env).bool.map fun k => .sh (.bl (!k)) := rfl
theorem ev_and {f g : Ev → O Bool} : fAnd f g env = andB (f env) g env := by
  unfold fAnd andB
  cases f env with
  | ok k => cases k <;> rfl
  | _ => rfl
theorem ev_or {f g : Ev → O Bool} : fOr f g env = orB (f env) g env := by
  unfold fOr orB
  cases f env with
  | ok k => cases k <;> rfl
  | _ => rfl
theorem ev_eAnd : eAnd fa fb env = andE (fa env).bool fb env := by
  unfold eAnd andE
  cases (fa env).bool with
  | ok k => cases k <;> rfl
  | _ => rfl
theorem ev_eOr : eOr fa fb env = orE (fa env).bool fb env := by
  unfold eOr orE
  cases (fa env).bool with
  | ok k => cases k <;> rfl
  | _ => rfl
theorem andB_ok {k : Bool} {g : Ev → O Bool} : andB (.ok k) g env = bif k then g env else .ok false := rfl
theorem orB_ok {k : Bool} {g : Ev → O Bool} : orB (.ok k) g env = bif k then .ok true else g env := rfl
theorem andE_ok {k : Bool} : andE (.ok k) fb env = bif k then fb env else .ok (.sh (.bl false)) := rfl
theorem orE_ok {k : Bool} : orE (.ok k) fb env = bif k then .ok (.sh (.bl true)) else fb env := rfl
theorem cond_and {k b : Bool} : (bif k then (.ok b : O Bool) else .ok false) = .ok (k && b) := by cases k <;> rfl
theorem cond_or {k b : Bool} : (bif k then (.ok true : O Bool) else .ok b) = .ok (k || b) := by cases k <;> rfl
theorem cond_andE {k b : Bool} : (bif k then (.ok (.sh (.bl b)) : O R) else .ok (.sh (.bl false))) = .ok (.sh (.bl (k && b))) := by cases k <;> rfl
theorem cond_orE {k b : Bool} : (bif k then (.ok (.sh (.bl true)) : O R) else .ok (.sh (.bl b))) = .ok (.sh (.bl (k || b))) := by cases k <;> rfl
theorem ev_chain {g g' : D → D → Option R} : fChain g g' fa fb fc env = chainB g g' (fa env) (fb env) fc env := by
  unfold fChain chainB
  cases fa env with
  | ok a =>
    cases fb env with
    | ok b =>
      simp only [o_bind]
      cases (O.of (g a.d b.d)).bool with
      | ok k => cases k <;> rfl
      | _ => rfl
    | _ => rfl
  | _ => rfl
theorem chainB_ok {g g' : D → D → Option R} {a b : R} : chainB g g' (.ok a) (.ok b) fc env = (O.of (g a.d b.d)).bool.bind fun k => bif k then bind2 g' (.ok b) (fc env) else .ok (.sh (.bl false)) := by
  unfold chainB
  simp only [o_bind]
  cases (O.of (g a.d b.d)).bool with
  | ok k =>
    cases k with
    | false => rfl
    | true => simp only [o_bind]; cases fc env <;> rfl
  | _ => rfl
theorem ev_aNil : aNil env = .ok [] := rfl
theorem ev_aCons {g : Ev → O (List D)} : aCons fe g env = consO ((fe env).bind R.fz) (g env) := rfl
theorem consO_ok {ds : List D} : consO (.ok d) (.ok ds) = .ok (d :: ds) := rfl
theorem ev_vCons {g : Ev → O (List D)} : vCons fe g env = consO ((fe env).map R.d) (g env) := by
  unfold vCons consO
  cases fe env <;> rfl
theorem ev_tup {g : Ev → O (List D)} : eTup g env = (g env).bind tupB := rfl
theorem tupB_ok {ds : List D} (h : ds.length ≤ 16777216) : tupB ds = .ok (.sh (.tup ds)) := if_pos h
theorem lstB_ok {ds : List D} (h : ds.length ≤ 16777216) : lstB ds = .ok (.fr (.ow ds)) := if_pos h
theorem ev_lst {g : Ev → O (List D)} : eLst g env = (g env).bind lstB := rfl
theorem ev_part : fPart fe env = (fe env).bind fun r => match r.d with | .int i => .ok (some i) | _ => .no := rfl
theorem ev_sl {fl fh : Ev → O (Option Int)} : fSl fa fl fh env = (fa env).bind fun a => (fl env).bind fun l => (fh env).bind fun h => O.of (dSl a.d l h) := rfl
theorem ev_call {F : List D → O R} {g : Ev → O (List D)} : fCall F g env = (g env).bind F := rfl
theorem ev_callB {F : List D → O R} {g : Ev → O (List D)} : fCallB F g env = (g env).bind fun ds => match F ds with
  | .ok (.sh d) => if flatD d = true then .ok (.sh d) else .no
  | _ => .no := rfl
theorem ev_blt {g : List D → Option R} {fa : Ev → O (List D)} : fBlt g fa env = (fa env).bind fun ds => O.of (g ds) := rfl
theorem ev_fld {c : Nat} {f : Str} : eFld c f fo env = fldB c f (fo env) := rfl
theorem fldB_ok {c : Nat} {f : Str} {r : R} : fldB c f (.ok r) = fldC c f r.d := rfl
theorem fldC_ins {c c' : Nat} {f : Str} {ns : List Str} {vs : List D} : fldC c f (.ins c' ns vs) = if c' = c then O.of ((fldD ns vs f).map .sh) else .no := rfl
theorem ev_meth {c : Nat} {m : Str} {F : List D → O R} {g : Ev → O (List D)} : fMeth c m F fo g env = methB c m F (g env) ((fo env).bind R.fz) := rfl
theorem methB_ins {c c' : Nat} {m : Str} {F : List D → O R} {g : O (List D)} {ns : List Str} {vs : List D} : methB c m F g (.ok (.ins c' ns vs)) = if c' = c ∧ m ∉ ns then g.bind fun ds => F (.ins c' ns vs :: ds) else .no := rfl
theorem ev_it {g : Ev → O (List D)} {b : List D → O (List D)} : fIt g b env = (g env).bind b := rfl
theorem ev_seq : iSeqF fe env = ((fe env).bind R.fz).bind items := rfl
theorem ev_yes : fYes env = .ok true := rfl
theorem ev_lindex : fLindex fo fa env = (fo env).bind fun r => match r.d.py with
  | some (.list _) => (fa env).bind fun b => O.of (dLindex r.d b.d)
  | _ => .no := rfl
end

/-! ### statements -/
def setR (i : Nat) (env : Ev) : O R → SO
  | .ok (.sh d) => .nx (env.set i (some (.sh d)))
  | .ok (.fr l) => .nx (env.set i (some l))
  | .ok (.bo _) => .no
  | .ex x => .ex x env
  | .no => .no
def setD (i : Nat) (env : Ev) : O D → SO
  | .ok d => .nx (env.set i (some (.sh d)))
  | .ex x => .ex x env
  | .no => .no
def retR (env : Ev) : O R → SO
  | .ok (.bo _) => .no
  | .ok r => .rt r
  | .ex x => .ex x env
  | .no => .no
def retV : Option (Option L) → SO
  | some (some (.sh d)) => .rt (.sh d)
  | some (some l) => .rt (.fr l)
  | _ => .no
def ifB (f g : Ev → SO) (env : Ev) : O Bool → SO
  | .ok b => bif b then f env else g env
  | .ex x => .ex x env
  | .no => .no
def forB (g : D → Ev → Option Ev) (body : Ev → SO) (env : Ev) : O (List D) → SO
  | .ok ds => forL g body ds env
  | .ex x => .ex x env
  | .no => .no
def dropB (env : Ev) : O R → SO
  | .ok _ => .nx env
  | .ex x => .ex x env
  | .no => .no
def asgB (g : D → Ev → Option Ev) (env : Ev) : O D → SO
  | .ok d => match g d env with
    | some e => .nx e
    | none => .no
  | .ex x => .ex x env
  | .no => .no
def mutB (i : Nat) (h : List D → List D → Option (List D)) (env : Ev) : Option (Option L) → O (List D) → SO
  | some (some (.ow ds)), .ok as => match h ds as with
    | some ds' => .nx (env.set i (some (.ow ds')))
    | none => .no
  | some (some (.ow _)), .ex x => .ex x env
  | _, _ => .no
def augB (i : Nat) (h : Int → Int → Int) (env : Ev) : Option (Option L) → O R → SO
  | some (some (.sh (.int x))), .ok r => match r.d with
    | .int y => .nx (env.set i (some (.sh (.int (h x y)))))
    | _ => .no
  | some (some (.sh (.int _))), .ex x => .ex x env
  | _, _ => .no
def parB (i j : Nat) (env : Ev) : O (List D) → SO
  | .ok [d, e] => .nx ((env.set i (some (.sh d))).set j (some (.sh e)))
  | .ok _ => .no
  | .ex x => .ex x env
  | .no => .no
def putLB (j : Nat) (env : Ev) : O D → Option (Option L) → O R → SO
  | .ok d, some (some (.ow ds)), .ok r => match r.d with
      | .int k => match ixN ds.length k with
        | some n => .nx (env.set j (some (.ow (ds.set n d))))
        | none => .no
      | _ => .no
  | .ok _, some (some (.ow _)), .ex x => .ex x env
  | .ok _, _, _ => .no
  | .ex x, _, _ => .ex x env
  | .no, _, _ => .no
def extB (i : Nat) (env : Ev) : Option (Option L) → O R → SO
  | some (some (.ow ds)), .ok r => match r.d with
    | .lst es => if ds.length + es.length ≤ lim then .nx (env.set i (some (.ow (ds ++ es)))) else .no
    | _ => .no
  | some (some (.ow _)), .ex x => .ex x env
  | _, _ => .no
section
variable {env : Ev} {fa fb fc fe fo fi : Ev → O R} {i j : Nat} {d : D} {l : L} {ga : Ev → O (List D)}
theorem st_set : sSet i fe env = setR i env (fe env) := by
  unfold sSet setR
  cases fe env with
  | ok r => cases r <;> rfl
  | _ => rfl
theorem setR_sh : setR i env (.ok (.sh d)) = .nx (env.set i (some (.sh d))) := rfl
theorem setR_fr : setR i env (.ok (.fr l)) = .nx (env.set i (some l)) := rfl
theorem st_setF : sSetF i fe env = setD i env ((fe env).bind R.fz) := by
  unfold sSetF setD
  cases (fe env).bind R.fz <;> rfl
theorem setD_ok : setD i env (.ok d) = .nx (env.set i (some (.sh d))) := rfl
theorem st_ret : sRet fe env = retR env (fe env) := by
  unfold sRet retR
  cases fe env with
  | ok r => cases r <;> rfl
  | _ => rfl
theorem retR_sh : retR env (.ok (.sh d)) = .rt (.sh d) := rfl
theorem retR_fr : retR env (.ok (.fr l)) = .rt (.fr l) := rfl
theorem st_retv : sRetv i env = retV env[i]? := by
  unfold sRetv retV
  cases env[i]? with
  | none => rfl
  | some o =>
    cases o with
    | none => rfl
    | some l => cases l <;> rfl
theorem retV_sh : retV (some (some (.sh d))) = .rt (.sh d) := rfl
theorem retV_ow {ds : List D} : retV (some (some (.ow ds))) = .rt (.fr (.ow ds)) := rfl
theorem retV_oK {ks : List Key} {ds : List D} : retV (some (some (.oK ks ds))) = .rt (.fr (.oK ks ds)) := rfl
theorem retV_oT {ks : List (List Key)} {ds : List D} : retV (some (some (.oT ks ds))) = .rt (.fr (.oT ks ds)) := rfl
theorem st_if {c : Ev → O Bool} {f g : Ev → SO} : sIf c f g env = ifB f g env (c env) := by
  unfold sIf ifB
  cases c env with
  | ok k => cases k <;> rfl
  | _ => rfl
theorem ifB_t {f g : Ev → SO} : ifB f g env (.ok true) = f env := rfl
theorem ifB_f {f g : Ev → SO} : ifB f g env (.ok false) = g env := rfl
theorem st_for {f : Ev → O (List D)} {g : D → Ev → Option Ev} {body : Ev → SO} : sFor f g body env = forB g body env (f env) := by
  unfold sFor forB
  cases f env <;> rfl
theorem forB_ok {ds : List D} {g : D → Ev → Option Ev} {body : Ev → SO} : forB g body env (.ok ds) = forL g body ds env := rfl
theorem st_drop : sDrop fe env = dropB env (fe env) := by
  unfold sDrop dropB
  cases fe env <;> rfl
theorem dropB_ok {r : R} : dropB env (.ok r) = .nx env := rfl
theorem st_asg {g : D → Ev → Option Ev} : sAsg g fe env = asgB g env ((fe env).bind R.fz) := by
  unfold sAsg asgB
  cases (fe env).bind R.fz with
  | ok d => cases g d env <;> rfl
  | _ => rfl
theorem asgB_ok {g : D → Ev → Option Ev} {e : Ev} (h : g d env = some e) : asgB g env (.ok d) = .nx e := by
  show (match g d env with | some e => SO.nx e | none => .no) = _
  rw [h]
theorem st_mut {h : List D → List D → Option (List D)} : sMut i h ga env = mutB i h env env[i]? (ga env) := by
  unfold sMut mutB
  cases env[i]? with
  | none => rfl
  | some o =>
    cases o with
    | none => rfl
    | some l => cases l <;> cases ga env <;> rfl
theorem mutB_app {ds : List D} (hl : ds.length < lim) : mutB i hAppend env (some (some (.ow ds))) (.ok [d]) = .nx (env.set i (some (.ow (ds ++ [d])))) := by
  show (match (if ds.length < lim then some (ds ++ [d]) else none) with | some ds' => SO.nx (env.set i (some (.ow ds'))) | none => .no) = _
  rw [if_pos hl]
theorem mutB_ok {h : List D → List D → Option (List D)} {ds as ds' : List D} (q : h ds as = some ds') : mutB i h env (some (some (.ow ds))) (.ok as) = .nx (env.set i (some (.ow ds'))) := by
  show (match h ds as with | some ds' => SO.nx (env.set i (some (.ow ds'))) | none => .no) = _
  rw [q]
theorem st_aug {h : Int → Int → Int} : sAug i h fe env = augB i h env env[i]? (fe env) := by
  unfold sAug augB
  cases env[i]? with
  | none => rfl
  | some o =>
    cases o with
    | none => rfl
    | some l =>
      cases l with
      | sh d =>
        cases d with
        | int x =>
          cases fe env with
          | ok r => cases r with
            | sh d => cases d <;> rfl
            | fr l => cases l with
              | sh d => cases d <;> rfl
              | _ => rfl
            | bo l => cases l with
              | sh d => cases d <;> rfl
              | _ => rfl
          | _ => rfl
        | _ => cases fe env <;> rfl
      | _ => cases fe env <;> rfl
theorem augB_ok {h : Int → Int → Int} {x y : Int} : augB i h env (some (some (.sh (.int x)))) (.ok (.sh (.int y))) = .nx (env.set i (some (.sh (.int (h x y))))) := rfl
theorem st_par : sPar i j ga env = parB i j env (ga env) := by
  unfold sPar parB
  rfl
theorem parB_ok {e : D} : parB i j env (.ok [d, e]) = .nx ((env.set i (some (.sh d))).set j (some (.sh e))) := rfl
theorem st_putL : sPutL j fi fe env = putLB j env ((fe env).bind R.fz) env[j]? (fi env) := by
  unfold sPutL putLB
  cases (fe env).bind R.fz with
  | ok d =>
    cases env[j]? with
    | none => rfl
    | some o =>
      cases o with
      | none => rfl
      | some l => cases l <;> cases fi env <;> rfl
  | _ => rfl
theorem putLB_ok {ds : List D} {k n : Nat} (hk : k < ds.length) : putLB j env (.ok d) (some (some (.ow ds))) (.ok (.sh (.int (k : Int)))) = .nx (env.set j (some (.ow (ds.set k d)))) := by
  show (match ixN ds.length (k : Int) with | some n => SO.nx (env.set j (some (.ow (ds.set n d)))) | none => .no) = _
  have : ixN ds.length (k : Int) = some k := by
    unfold ixN
    rw [if_pos (by omega), if_pos (by omega), Int.toNat_natCast]
  rw [this]
theorem st_extend : sExtend i fe env = extB i env env[i]? (fe env) := by
  unfold sExtend extB
  cases env[i]? with
  | none => rfl
  | some o =>
    cases o with
    | none => rfl
    | some l => cases l <;> cases fe env <;> rfl
theorem extB_ok {ds es : List D} {r : R} (hr : r.d = .lst es) (hl : ds.length + es.length ≤ lim) : extB i env (some (some (.ow ds))) (.ok r) = .nx (env.set i (some (.ow (ds ++ es)))) := by
  show (match r.d with | .lst es => if ds.length + es.length ≤ lim then SO.nx (env.set i (some (.ow (ds ++ es)))) else .no | _ => .no) = _
  rw [hr]
  show (if ds.length + es.length ≤ lim then SO.nx (env.set i (some (.ow (ds ++ es)))) else .no) = _
  rw [if_pos hl]
end

/-! ### tests and loops -/
section
variable {p : Post} {ks : List (Ev → SO)} {env : Ev}
theorem wp_ifB {f g : Ev → SO} {b : Bool} (h1 : b = true → wpS p ks (f env)) (h2 : b = false → wpS p ks (g env)) : wpS p ks (ifB f g env (.ok b)) := by
  cases b with
  | true => exact h1 rfl
  | false => exact h2 rfl
/-- what a turn wants: the loop's own ends -/
def turnP (p : Post) (ks : List (Ev → SO)) (N : Ev → Prop) : Post := { nx := N, ct := N, bk := fun e => wpS p ks (.nx e), rt := p.rt, ex := p.ex }
theorem wp_forL {α : Type} {emb : α → D} {g : D → Ev → Option Ev} {body : Ev → SO} {xs : List α} (I : List α → Ev → Prop) (h0 : I [] env)
    (step : ∀ (pre : List α) (x : α) (post : List α) (e : Ev), xs = pre ++ x :: post → I pre e → ∃ e1, g (emb x) e = some e1 ∧ wpS (turnP p ks (I (pre ++ [x]))) [] (body e1))
    (after : ∀ e, I xs e → wpS p ks (.nx e)) : wpS p ks (forL g body (xs.map emb) env) := by
  have go : ∀ (post pre : List α) (env : Ev), xs = pre ++ post → I pre env → wpS p ks (forL g body (post.map emb) env) := by
    intro post
    induction post with
    | nil => intro pre env e i; rw [List.append_nil] at e; subst e; exact after env i
    | cons x post ih =>
      intro pre env e i
      obtain ⟨e1, q, h⟩ := step pre x post env e i
      show wpS p ks (match g (emb x) env with
        | none => .no
        | some e1 => match body e1 with
          | .nx e2 => forL g body (post.map emb) e2
          | .ct e2 => forL g body (post.map emb) e2
          | .bk e2 => .nx e2
          | o => o)
      rw [q]
      show wpS p ks (match body e1 with
          | .nx e2 => forL g body (post.map emb) e2
          | .ct e2 => forL g body (post.map emb) e2
          | .bk e2 => .nx e2
          | o => o)
      generalize body e1 = o at h
      have ee : xs = (pre ++ [x]) ++ post := by rw [e]; simp
      cases o with
      | nx e2 => rw [wp_nil] at h; exact ih (pre ++ [x]) e2 ee h
      | ct e2 => rw [wp_ct] at h; exact ih (pre ++ [x]) e2 ee h
      | bk e2 => rw [wp_bk] at h; exact h
      | rt r => show wpS p ks (.rt r); rw [wp_rt] at h ⊢; exact h
      | ex x e => show wpS p ks (.ex x e); rw [wp_ex] at h ⊢; exact h
      | no => rw [wp_no] at h; exact h.elim
  exact go xs [] env rfl h0
theorem wp_while {S : Type} {c : Ev → O Bool} {body : Ev → SO} (I : S → Ev → Prop) (m : S → Nat) {n : Nat} {s0 : S} (h0 : I s0 env) (hm : m s0 < n)
    (step : ∀ (s : S) (e : Ev), I s e → (c e = .ok false ∧ wpS p ks (.nx e)) ∨ (c e = .ok true ∧ wpS (turnP p ks (fun e2 => ∃ s2, I s2 e2 ∧ m s2 < m s)) [] (body e))) : wpS p ks (whileL c body n env) := by
  induction n generalizing s0 env with
  | zero => omega
  | succ n ih =>
    rcases step s0 env h0 with ⟨hc, h⟩ | ⟨hc, h⟩
    · show wpS p ks (match c env with | .ok true => _ | .ok false => .nx env | .ex x => .ex x env | .no => .no)
      rw [hc]; exact h
    · unfold whileL
      rw [hc]
      show wpS p ks (match body env with | .nx e => whileL c body n e | .ct e => whileL c body n e | .bk e => .nx e | o => o)
      generalize body env = o at h
      cases o with
      | nx e2 => rw [wp_nil] at h; obtain ⟨s2, i2, l⟩ := h; exact ih i2 (by omega)
      | ct e2 => rw [wp_ct] at h; obtain ⟨s2, i2, l⟩ := h; exact ih i2 (by omega)
      | bk e2 => rw [wp_bk] at h; exact h
      | rt r => show wpS p ks (.rt r); rw [wp_rt] at h ⊢; exact h
      | ex x e => show wpS p ks (.ex x e); rw [wp_ex] at h ⊢; exact h
      | no => rw [wp_no] at h; exact h.elim
end

/-! ### comprehensions -/
theorem compL_eq {α : Type} {emb : α → D} {g : D → Ev → Option Ev} {ft : Ev → O Bool} {fe : Ev → O R} {env : Ev} (t : α → Bool) (f : α → D) : ∀ {xs : List α},
    (∀ x ∈ xs, ∃ e1, g (emb x) env = some e1 ∧ ft e1 = .ok (t x) ∧ (t x = true → (fe e1).bind R.fz = .ok (f x))) → compL g ft fe env (xs.map emb) = .ok ((xs.filter t).map f)
  | [], _ => rfl
  | x :: xs, h => by
    obtain ⟨e1, h1, h2, h3⟩ := h x List.mem_cons_self
    have ih := compL_eq (xs := xs) t f fun y hy => h y (List.mem_cons_of_mem _ hy)
    rw [List.map_cons]
    unfold compL
    rw [h1]
    show (match ft e1 with | .ok true => _ | .ok false => _ | _ => _) = _
    rw [h2]
    cases ht : t x with
    | false =>
      rw [List.filter_cons_of_neg (by rw [ht]; simp)]
      exact ih
    | true =>
      show (match (fe e1).bind R.fz with | .ok y => (compL g ft fe env (xs.map emb)).map (y :: ·) | _ => .no) = _
      rw [h3 ht, ih, List.filter_cons_of_pos ht]
      rfl
theorem comp_eq {α : Type} {emb : α → D} {vs : List Nat} {fi : Ev → O (List D)} {g : D → Ev → Option Ev} {ft : Ev → O Bool} {fe : Ev → O R} {env : Ev} {xs : List α} (t : α → Bool) (f : α → D) (hi : fi env = .ok (xs.map emb)) (hl : xs.length ≤ lim)
    (h : ∀ x ∈ xs, ∃ e1, g (emb x) (wipeE env vs) = some e1 ∧ ft e1 = .ok (t x) ∧ (t x = true → (fe e1).bind R.fz = .ok (f x))) : eComp vs fi g ft fe env = .ok (.fr (.ow ((xs.filter t).map f))) := by
  unfold eComp
  rw [hi, o_bind, if_pos (by simpa using hl), compL_eq t f h]
theorem comp_map {α : Type} {emb : α → D} {vs : List Nat} {fi : Ev → O (List D)} {g : D → Ev → Option Ev} {fe : Ev → O R} {env : Ev} {xs : List α} (f : α → D) (hi : fi env = .ok (xs.map emb)) (hl : xs.length ≤ lim)
    (h : ∀ x ∈ xs, ∃ e1, g (emb x) (wipeE env vs) = some e1 ∧ (fe e1).bind R.fz = .ok (f x)) : eComp vs fi g fYes fe env = .ok (.fr (.ow (xs.map f))) := by
  have := comp_eq (ft := fYes) (fe := fe) (fun _ => true) f hi hl fun x hx => by
    obtain ⟨e1, a, b⟩ := h x hx
    exact ⟨e1, a, rfl, fun _ => b⟩
  rw [this, List.filter_eq_self.mpr fun _ _ => rfl]

/-! ### values -/
def nI (k : Nat) : D := .int (k : Int)
def tI (q : Nat × Nat) : D := .tup [.int (q.1 : Int), .int (q.2 : Int)]
theorem rangeD_nat (n : Nat) : rangeD 0 n = (List.range n).map nI := by
  unfold rangeD nI
  apply List.map_congr_left
  intro a _
  rw [Int.zero_add]
theorem rng1_nat {n : Nat} (h : n < 2 ^ 62) : rng1 [.int (n : Int)] = .ok ((List.range n).map nI) := by
  show (if small (n : Int) then O.ok (rangeD 0 (n : Int).toNat) else .no) = _
  rw [if_pos (by unfold small; omega), Int.toNat_natCast, rangeD_nat]
theorem rng2_nat {m n : Nat} (h : n < 2 ^ 62) (h' : m < 2 ^ 62) : rng2 [.int (m : Int), .int (n : Int)] = .ok ((List.range' m (n - m)).map nI) := by
  show (if small (m : Int) ∧ small (n : Int) then O.ok (rangeD (m : Int) ((n : Int) - (m : Int)).toNat) else .no) = _
  rw [if_pos (by unfold small; omega)]
  have : ((n : Int) - (m : Int)).toNat = n - m := by omega
  rw [this]
  unfold rangeD nI
  rw [List.range'_eq_map_range, List.map_map]
  congr 1
theorem atI_nat {α : Type} {xs : List α} {k : Nat} (h : k < xs.length) : atI xs (k : Int) = some xs[k] := by
  unfold atI ixN
  rw [if_pos (by omega), if_pos (by omega), Int.toNat_natCast, Option.bind_some, List.getElem?_eq_getElem h]
theorem ix_lst {ds : List D} {k : Nat} {d : D} (h : ds[k]? = some d) : dIx (.lst ds) (.int (k : Int)) = some (.sh d) := by
  obtain ⟨hk, e⟩ := List.getElem?_eq_some_iff.mp h
  show (atI ds (k : Int)).map R.sh = _
  rw [atI_nat hk, e]; rfl
theorem ix_lkd {ds : List D} {k : Nat} {d : D} (h : ds[k]? = some d) : dIx (.lkd ds) (.int (k : Int)) = some (.sh d) := ix_lst h
theorem ix_tup {ds : List D} {k : Nat} {d : D} (h : ds[k]? = some d) : dIx (.tup ds) (.int (k : Int)) = some (.sh d) := ix_lst h
theorem ix_last {ds : List D} {d : D} (h : ds.getLast? = some d) : dIx (.lst ds) (.int (-1)) = some (.sh d) := by
  show (atI ds (-1)).map R.sh = _
  have hl : 0 < ds.length := by
    cases ds with
    | nil => cases h
    | cons a t => simp
  unfold atI ixN
  rw [if_neg (by omega), if_pos (by omega), Option.bind_some]
  have : ((-1 : Int) + (ds.length : Int)).toNat = ds.length - 1 := by omega
  rw [this, ← List.getLast?_eq_getElem?, h]; rfl
theorem band_nat (a b : Nat) : dAnd (.int (a : Int)) (.int (b : Int)) = some (.sh (.int ((a &&& b : Nat) : Int))) := by
  show some (R.sh (.int (Builtin.bitAnd (a : Int) (b : Int)))) = _
  rw [PyProof.Rows.bitAnd_pp (Int.natCast_nonneg a) (Int.natCast_nonneg b), Int.toNat_natCast, Int.toNat_natCast]
theorem bor_nat (a b : Nat) : dOr (.int (a : Int)) (.int (b : Int)) = some (.sh (.int ((a ||| b : Nat) : Int))) := by
  show some (R.sh (.int (Builtin.bitOr (a : Int) (b : Int)))) = _
  rw [Bits.bitOr_pp (Int.natCast_nonneg a) (Int.natCast_nonneg b), Int.toNat_natCast, Int.toNat_natCast]
theorem shl_nat (a k : Nat) (ha : a < 2 ^ 64) (hk : k ≤ 1000000) : dShl (.int (a : Int)) (.int (k : Int)) = some (.sh (.int ((a <<< k : Nat) : Int))) := by
  show (if CPow (a : Int) (k : Int) then some (R.sh (.int ((a : Int) * 2 ^ (k : Int).toNat))) else none) = _
  rw [if_pos ⟨by omega, by omega, by omega⟩, Int.toNat_natCast, Nat.shiftLeft_eq]
  simp
theorem shr_nat (a k : Nat) : dShr (.int (a : Int)) (.int (k : Int)) = some (.sh (.int ((a >>> k : Nat) : Int))) := by
  show (if (0 : Int) ≤ (k : Int) then some (R.sh (.int ((a : Int) / 2 ^ (k : Int).toNat))) else none) = _
  rw [if_pos (by omega), Int.toNat_natCast, Nat.shiftRight_eq_div_pow]
  simp
theorem mod_nat (a b : Nat) (h : 0 < b) : dMod (.int (a : Int)) (.int (b : Int)) = some (.sh (.int ((a % b : Nat) : Int))) := by
  show (if (0 : Int) < (b : Int) then some (R.sh (.int ((a : Int) % (b : Int)))) else none) = _
  rw [if_pos (by omega)]; rfl
theorem div_nat (a b : Nat) (h : 0 < b) (h2 : b < 1073741824) : dFdiv (.int (a : Int)) (.int (b : Int)) = some (.sh (.int ((a / b : Nat) : Int))) := by
  show (if CDiv (a : Int) (b : Int) then some (R.sh (.int ((a : Int) / (b : Int)))) else none) = _
  rw [if_pos ⟨by omega, by omega⟩]; rfl
theorem add_int (i j : Int) : dAdd (.int i) (.int j) = some (.sh (.int (i + j))) := rfl
theorem sub_int (i j : Int) : dSub (.int i) (.int j) = some (.sh (.int (i - j))) := rfl
theorem lt_int (i j : Int) : dLt (.int i) (.int j) = some (.sh (.bl (decide (i < j)))) := rfl
theorem gt_int (i j : Int) : dGt (.int i) (.int j) = some (.sh (.bl (decide (j < i)))) := rfl
theorem le_int (i j : Int) : dLe (.int i) (.int j) = some (.sh (.bl (decide (i ≤ j)))) := rfl
theorem ge_int (i j : Int) : dGe (.int i) (.int j) = some (.sh (.bl (decide (j ≤ i)))) := rfl
theorem neg_int (i : Int) : dNeg (.int i) = some (.sh (.int (-i))) := rfl
theorem mul_int {i j : Int} (h : CMul i j) : dMul (.int i) (.int j) = some (.sh (.int (i * j))) := by
  show (if CMul i j then some (R.sh (.int (i * j))) else none) = _
  rw [if_pos h]
theorem len_lst (ds : List D) : dLen (.lst ds) = some (.sh (.int ds.length)) := rfl
theorem len_lkd (ds : List D) : dLen (.lkd ds) = some (.sh (.int ds.length)) := rfl
theorem len_tup (ds : List D) : dLen (.tup ds) = some (.sh (.int ds.length)) := rfl
theorem add_lst {xs ys : List D} (h : xs.length + ys.length ≤ lim) : dAdd (.lst xs) (.lst ys) = some (.fr (.ow (xs ++ ys))) := by
  show (if xs.length + ys.length ≤ lim then _ else _) = _
  rw [if_pos h]
theorem rep_lst {xs : List D} {k : Nat} (h : xs.length * k ≤ lim) (hk : k < 2 ^ 63) : dMul (.lst xs) (.int (k : Int)) = some (.fr (.ow (List.replicate k xs).flatten)) := by
  simp only [dMul, Int.toNat_natCast]
  rw [if_pos ⟨by omega, by omega, h⟩]

/-! ### pure data: equality tells whether they are one -/
mutual
def D.pure : Nat → D → Bool
  | _, .non => true
  | _, .int _ => true
  | _, .str x => PyData.canLay0 (.str x)
  | n + 1, .lst xs => D.pureL n xs
  | n + 1, .tup xs => D.pureL n xs
  | _, _ => false
def D.pureL : Nat → List D → Bool
  | _, [] => true
  | n, x :: xs => D.pure n x && D.pureL n xs
end
theorem pureL_of {n : Nat} : ∀ {xs : List D}, (∀ x ∈ xs, D.pure n x = true) → D.pureL n xs = true
  | [], _ => by simp only [D.pureL]
  | x :: xs, h => by
    simp only [D.pureL, Bool.and_eq_true]
    exact ⟨h x List.mem_cons_self, pureL_of fun y hy => h y (List.mem_cons_of_mem _ hy)⟩
end DL

/-! Ek2: equality of pure data. -/
namespace DL
open PySem PySem.Spec L2

mutual
theorem pure_py : ∀ {n : Nat} {d : D}, D.pure n d = true → ∃ p, d.py = some p ∧ PyData.depth p ≤ n ∧ p.canLay0 = true
  | n, .non, _ => ⟨.none, by simp only [D.py], by simp [PyData.depth], by simp [PyData.canLay0]⟩
  | n, .int i, _ => ⟨.int i, by simp only [D.py], by simp [PyData.depth], by simp [PyData.canLay0]⟩
  | n, .str x, h => ⟨.str x, by simp only [D.py], by simp [PyData.depth], by cases n <;> simpa only [D.pure] using h⟩
  | n + 1, .lst xs, h => by
    simp only [D.pure] at h
    obtain ⟨ps, a, b, c⟩ := pure_pyL h
    exact ⟨.list ps, by simp only [D.py, a, Option.map_some], by simp only [PyData.depth]; omega, by simp only [PyData.canLay0]; exact c⟩
  | n + 1, .tup xs, h => by
    simp only [D.pure] at h
    obtain ⟨ps, a, b, c⟩ := pure_pyL h
    exact ⟨.tuple ps, by simp only [D.py, a, Option.map_some], by simp only [PyData.depth]; omega, by simp only [PyData.canLay0]; exact c⟩
  | 0, .lst xs, h => by simp only [D.pure] at h; cases h
  | 0, .tup xs, h => by simp only [D.pure] at h; cases h
  | n, .bl b, h => by cases n <;> simp only [D.pure] at h <;> cases h
  | n, .lkd b, h => by cases n <;> simp only [D.pure] at h <;> cases h
  | n, .lkt b, h => by cases n <;> simp only [D.pure] at h <;> cases h
  | n, .ins _ _ _, h => by cases n <;> simp only [D.pure] at h <;> cases h
  | n, .dK _ _, h => by cases n <;> simp only [D.pure] at h <;> cases h
  | n, .dT _ _, h => by cases n <;> simp only [D.pure] at h <;> cases h
  | n, .exn _ _ _, h => by cases n <;> simp only [D.pure] at h <;> cases h
  | n, .at _, h => by cases n <;> simp only [D.pure] at h <;> cases h
theorem pure_pyL : ∀ {n : Nat} {ds : List D}, D.pureL n ds = true → ∃ ps, D.pyL ds = some ps ∧ PyData.depthAll ps ≤ n ∧ PyData.canLayAll0 ps = true
  | n, [], _ => ⟨[], by simp only [D.pyL], by simp [PyData.depthAll], by simp [PyData.canLayAll0]⟩
  | n, d :: ds, h => by
    simp only [D.pureL, Bool.and_eq_true] at h
    obtain ⟨p, a, b, c⟩ := pure_py h.1
    obtain ⟨ps, a2, b2, c2⟩ := pure_pyL h.2
    refine ⟨p :: ps, by simp only [D.pyL, a, a2], ?_, by simp only [PyData.canLayAll0, c, c2, Bool.and_self]⟩
    simp only [PyData.depthAll]
    omega
end
mutual
theorem pure_eqv : ∀ {n : Nat} {a b : D} {p q : PyData}, D.pure n a = true → D.pure n b = true → a.py = some p → b.py = some q → (PyData.eqv p q = true ↔ a = b)
  | n, a, b, p, q, ha, hb, ea, eb => by
    match a, b, ha, hb with
    | .non, .non, _, _ => simp only [D.py] at ea eb; cases ea; cases eb; simp [PyData.eqv]
    | .non, .int _, _, _ => simp only [D.py] at ea eb; cases ea; cases eb; simp [PyData.eqv]
    | .non, .str _, _, _ => simp only [D.py] at ea eb; cases ea; cases eb; simp [PyData.eqv]
    | .int _, .non, _, _ => simp only [D.py] at ea eb; cases ea; cases eb; simp [PyData.eqv]
    | .int _, .int _, _, _ => simp only [D.py] at ea eb; cases ea; cases eb; simp [PyData.eqv]
    | .int _, .str _, _, _ => simp only [D.py] at ea eb; cases ea; cases eb; simp [PyData.eqv]
    | .str _, .non, _, _ => simp only [D.py] at ea eb; cases ea; cases eb; simp [PyData.eqv]
    | .str _, .int _, _, _ => simp only [D.py] at ea eb; cases ea; cases eb; simp [PyData.eqv]
    | .str _, .str _, _, _ => simp only [D.py] at ea eb; cases ea; cases eb; simp [PyData.eqv]
    | .lst xs, .non, _, _ => simp only [D.py] at ea eb; obtain ⟨ps, h1, rfl⟩ := Option.map_eq_some_iff.mp ea; cases eb; simp [PyData.eqv]
    | .lst xs, .int _, _, _ => simp only [D.py] at ea eb; obtain ⟨ps, h1, rfl⟩ := Option.map_eq_some_iff.mp ea; cases eb; simp [PyData.eqv]
    | .lst xs, .str _, _, _ => simp only [D.py] at ea eb; obtain ⟨ps, h1, rfl⟩ := Option.map_eq_some_iff.mp ea; cases eb; simp [PyData.eqv]
    | .tup xs, .non, _, _ => simp only [D.py] at ea eb; obtain ⟨ps, h1, rfl⟩ := Option.map_eq_some_iff.mp ea; cases eb; simp [PyData.eqv]
    | .tup xs, .int _, _, _ => simp only [D.py] at ea eb; obtain ⟨ps, h1, rfl⟩ := Option.map_eq_some_iff.mp ea; cases eb; simp [PyData.eqv]
    | .tup xs, .str _, _, _ => simp only [D.py] at ea eb; obtain ⟨ps, h1, rfl⟩ := Option.map_eq_some_iff.mp ea; cases eb; simp [PyData.eqv]
    | .non, .lst xs, _, _ => simp only [D.py] at ea eb; obtain ⟨ps, h1, rfl⟩ := Option.map_eq_some_iff.mp eb; cases ea; simp [PyData.eqv]
    | .int _, .lst xs, _, _ => simp only [D.py] at ea eb; obtain ⟨ps, h1, rfl⟩ := Option.map_eq_some_iff.mp eb; cases ea; simp [PyData.eqv]
    | .str _, .lst xs, _, _ => simp only [D.py] at ea eb; obtain ⟨ps, h1, rfl⟩ := Option.map_eq_some_iff.mp eb; cases ea; simp [PyData.eqv]
    | .non, .tup xs, _, _ => simp only [D.py] at ea eb; obtain ⟨ps, h1, rfl⟩ := Option.map_eq_some_iff.mp eb; cases ea; simp [PyData.eqv]
    | .int _, .tup xs, _, _ => simp only [D.py] at ea eb; obtain ⟨ps, h1, rfl⟩ := Option.map_eq_some_iff.mp eb; cases ea; simp [PyData.eqv]
    | .str _, .tup xs, _, _ => simp only [D.py] at ea eb; obtain ⟨ps, h1, rfl⟩ := Option.map_eq_some_iff.mp eb; cases ea; simp [PyData.eqv]
    | .tup xs, .lst ys, _, _ => simp only [D.py] at ea eb; obtain ⟨ps, h1, rfl⟩ := Option.map_eq_some_iff.mp ea; obtain ⟨qs, h2, rfl⟩ := Option.map_eq_some_iff.mp eb; simp [PyData.eqv]
    | .lst xs, .tup ys, _, _ => simp only [D.py] at ea eb; obtain ⟨ps, h1, rfl⟩ := Option.map_eq_some_iff.mp ea; obtain ⟨qs, h2, rfl⟩ := Option.map_eq_some_iff.mp eb; simp [PyData.eqv]
    | .lst xs, .lst ys, ha, hb =>
      simp only [D.py] at ea eb
      obtain ⟨ps, h1, rfl⟩ := Option.map_eq_some_iff.mp ea
      obtain ⟨qs, h2, rfl⟩ := Option.map_eq_some_iff.mp eb
      cases n with
      | zero => simp only [D.pure] at ha; cases ha
      | succ n =>
        simp only [D.pure] at ha hb
        have := pure_eqvL ha hb h1 h2
        simp only [PyData.eqv, this, D.lst.injEq]
    | .tup xs, .tup ys, ha, hb =>
      simp only [D.py] at ea eb
      obtain ⟨ps, h1, rfl⟩ := Option.map_eq_some_iff.mp ea
      obtain ⟨qs, h2, rfl⟩ := Option.map_eq_some_iff.mp eb
      cases n with
      | zero => simp only [D.pure] at ha; cases ha
      | succ n =>
        simp only [D.pure] at ha hb
        have := pure_eqvL ha hb h1 h2
        simp only [PyData.eqv, this, D.tup.injEq]
    | .bl _, _, ha, _ => cases n <;> simp only [D.pure] at ha <;> cases ha
    | .lkd _, _, ha, _ => cases n <;> simp only [D.pure] at ha <;> cases ha
    | .lkt _, _, ha, _ => cases n <;> simp only [D.pure] at ha <;> cases ha
    | .ins _ _ _, _, ha, _ => cases n <;> simp only [D.pure] at ha <;> cases ha
    | .dK _ _, _, ha, _ => cases n <;> simp only [D.pure] at ha <;> cases ha
    | .dT _ _, _, ha, _ => cases n <;> simp only [D.pure] at ha <;> cases ha
    | .exn _ _ _, _, ha, _ => cases n <;> simp only [D.pure] at ha <;> cases ha
    | .at _, _, ha, _ => cases n <;> simp only [D.pure] at ha <;> cases ha
    | _, .bl _, _, ha => cases n <;> simp only [D.pure] at ha <;> cases ha
    | _, .lkd _, _, ha => cases n <;> simp only [D.pure] at ha <;> cases ha
    | _, .lkt _, _, ha => cases n <;> simp only [D.pure] at ha <;> cases ha
    | _, .ins _ _ _, _, ha => cases n <;> simp only [D.pure] at ha <;> cases ha
    | _, .dK _ _, _, ha => cases n <;> simp only [D.pure] at ha <;> cases ha
    | _, .dT _ _, _, ha => cases n <;> simp only [D.pure] at ha <;> cases ha
    | _, .exn _ _ _, _, ha => cases n <;> simp only [D.pure] at ha <;> cases ha
    | _, .at _, _, ha => cases n <;> simp only [D.pure] at ha <;> cases ha
theorem pure_eqvL : ∀ {n : Nat} {as bs : List D} {ps qs : List PyData}, D.pureL n as = true → D.pureL n bs = true → D.pyL as = some ps → D.pyL bs = some qs → (PyData.eqvAll ps qs = true ↔ as = bs)
  | n, [], [], ps, qs, _, _, e1, e2 => by simp only [D.pyL] at e1 e2; cases e1; cases e2; simp [PyData.eqvAll]
  | n, [], b :: bs, ps, qs, _, _, e1, e2 => by
    simp only [D.pyL] at e1 e2; cases e1
    split at e2
    · cases e2; simp [PyData.eqvAll]
    · cases e2
  | n, a :: as, [], ps, qs, _, _, e1, e2 => by
    simp only [D.pyL] at e1 e2; cases e2
    split at e1
    · cases e1; simp [PyData.eqvAll]
    · cases e1
  | n, a :: as, b :: bs, ps, qs, h1, h2, e1, e2 => by
    simp only [D.pyL] at e1 e2
    simp only [D.pureL, Bool.and_eq_true] at h1 h2
    split at e1
    · rename_i p ps' x1 x2
      split at e2
      · rename_i q qs' y1 y2
        cases e1; cases e2
        have a1 := pure_eqv h1.1 h2.1 x1 y1
        have a2 := pure_eqvL h1.2 h2.2 x2 y2
        simp only [PyData.eqvAll, Bool.and_eq_true, a1, a2, List.cons.injEq]
      · cases e2
    · cases e1
end
theorem shaped_of {p : PyData} {n : Nat} (h : PyData.depth p ≤ n) (hn : n ≤ 64) (c : p.canLay0 = true) : SeqAt.shaped p = true := by
  unfold SeqAt.shaped
  rw [c, decide_eq_true (by omega)]; rfl
theorem eqv_pure {n : Nat} {a b : D} (hn : n ≤ 64) (ha : D.pure n a = true) (hb : D.pure n b = true) : ∃ k, a.eqv b = some k ∧ (k = true ↔ a = b) := by
  obtain ⟨p, e1, d1, c1⟩ := pure_py ha
  obtain ⟨q, e2, d2, c2⟩ := pure_py hb
  refine ⟨PyData.eqv p q, ?_, pure_eqv ha hb e1 e2⟩
  unfold D.eqv
  rw [e1, e2]
  show (if _ then _ else _) = _
  rw [if_pos ⟨shaped_of d1 hn c1, shaped_of d2 hn c2⟩]
/-- == of pure data -/
theorem eq_pure {n : Nat} {a b : D} (hn : n ≤ 64) (ha : D.pure n a = true) (hb : D.pure n b = true) (P : Prop) [Decidable P] (h : a = b ↔ P) : dEq a b = some (.sh (.bl (decide P))) := by
  obtain ⟨k, e, q⟩ := eqv_pure hn ha hb
  unfold dEq
  rw [e]
  have : k = decide P := by
    rw [Bool.eq_iff_iff, q, h]; simp
  rw [this]; rfl
theorem ne_pure {n : Nat} {a b : D} (hn : n ≤ 64) (ha : D.pure n a = true) (hb : D.pure n b = true) (P : Prop) [Decidable P] (h : a = b ↔ P) : dNe a b = some (.sh (.bl (!decide P))) := by
  obtain ⟨k, e, q⟩ := eqv_pure hn ha hb
  unfold dNe
  rw [e]
  have : k = decide P := by
    rw [Bool.eq_iff_iff, q, h]; simp
  rw [this]; rfl
theorem eq_int (i j : Int) : dEq (.int i) (.int j) = some (.sh (.bl (decide (i = j)))) := eq_pure (n := 0) (by omega) (by simp only [D.pure]) (by simp only [D.pure]) _ (by simp)
theorem ne_int (i j : Int) : dNe (.int i) (.int j) = some (.sh (.bl (!decide (i = j)))) := ne_pure (n := 0) (by omega) (by simp only [D.pure]) (by simp only [D.pure]) _ (by simp)
theorem eq_bl (i j : Bool) : dEq (.bl i) (.bl j) = some (.sh (.bl (i == j))) := by
  unfold dEq D.eqv
  simp only [D.py]
  rw [if_pos ⟨by unfold SeqAt.shaped; simp [PyData.canLay0, PyData.depth], by unfold SeqAt.shaped; simp [PyData.canLay0, PyData.depth]⟩]
  simp [PyData.eqv]
theorem ne_bl (i j : Bool) : dNe (.bl i) (.bl j) = some (.sh (.bl (!(i == j)))) := by
  unfold dNe D.eqv
  simp only [D.py]
  rw [if_pos ⟨by unfold SeqAt.shaped; simp [PyData.canLay0, PyData.depth], by unfold SeqAt.shaped; simp [PyData.canLay0, PyData.depth]⟩]
  simp [PyData.eqv]
/-- in a list of pure data -/
theorem anyEq_pure {n : Nat} {a : D} {ds : List D} (hn : n + 1 ≤ 64) (ha : D.pure n a = true) (hb : D.pureL n ds = true) (P : Prop) [Decidable P] (h : a ∈ ds ↔ P) : anyEq a ds = some (decide P) := by
  obtain ⟨p, e1, d1, c1⟩ := pure_py ha
  obtain ⟨qs, e2, d2, c2⟩ := pure_pyL hb
  unfold anyEq
  rw [e1, e2]
  show (if _ then _ else _) = _
  rw [if_pos ⟨shaped_of d1 (by omega) c1, shaped_of (n := n + 1) (by simp only [PyData.depth]; omega) hn (by simp only [PyData.canLay0]; exact c2)⟩]
  congr 1
  rw [Bool.eq_iff_iff, decide_eq_true_iff, ← h]
  clear h
  have go : ∀ {ds : List D} {qs : List PyData}, D.pyL ds = some qs → D.pureL n ds = true → ((qs.any fun z => PyData.eqv z p) = true ↔ a ∈ ds) := by
    intro ds
    induction ds with
    | nil => intro qs e _; simp only [D.pyL] at e; cases e; simp
    | cons d ds ih =>
      intro qs e hp
      simp only [D.pyL] at e
      simp only [D.pureL, Bool.and_eq_true] at hp
      split at e
      · rename_i q qs' x1 x2
        cases e
        rw [List.any_cons, Bool.or_eq_true, ih x2 hp.2, pure_eqv hp.1 ha x1 e1, List.mem_cons]
        constructor
        · rintro (h | h)
          · exact .inl h.symm
          · exact .inr h
        · rintro (h | h)
          · exact .inl h.symm
          · exact .inr h
      · cases e
  exact go e2 hb
/-- xs.index(x) of pure data -/
theorem lindex_pure {n : Nat} {a : D} {ds : List D} {k : Nat} (hn : n + 1 ≤ 64) (ha : D.pure n a = true) (hb : D.pureL n ds = true) (h1 : ds[k]? = some a) (h2 : ∀ j, j < k → ds[j]? ≠ some a) : dLindex (.lst ds) a = some (.sh (.int (k : Int))) := by
  obtain ⟨p, e1, d1, c1⟩ := pure_py ha
  obtain ⟨qs, e2, d2, c2⟩ := pure_pyL hb
  unfold dLindex
  rw [e1]
  simp only [D.py, e2, Option.map_some]
  rw [if_pos ⟨shaped_of (n := n + 1) (by simp only [PyData.depth]; omega) hn (by simp only [PyData.canLay0]; exact c2), shaped_of d1 (by omega) c1⟩]
  have go : ∀ {ds : List D} {qs : List PyData} {k : Nat}, D.pyL ds = some qs → D.pureL n ds = true → ds[k]? = some a → (∀ j, j < k → ds[j]? ≠ some a) → qs.findIdx? (fun z => PyData.eqv z p) = some k := by
    intro ds
    induction ds with
    | nil => intro qs k e _ h; simp at h
    | cons d ds ih =>
      intro qs k e hp g1 g2
      simp only [D.pyL] at e
      simp only [D.pureL, Bool.and_eq_true] at hp
      split at e
      · rename_i q qs' x1 x2
        cases e
        rw [List.findIdx?_cons]
        cases k with
        | zero =>
          rw [List.getElem?_cons_zero] at g1
          rw [if_pos ((pure_eqv hp.1 ha x1 e1).mpr (Option.some.inj g1))]
        | succ k =>
          rw [List.getElem?_cons_succ] at g1
          have hne : d ≠ a := fun z => g2 0 (by omega) (by rw [List.getElem?_cons_zero, z])
          rw [if_neg (fun z => hne ((pure_eqv hp.1 ha x1 e1).mp z)), ih x2 hp.2 g1 (fun j hj z => g2 (j + 1) (by omega) (by rw [List.getElem?_cons_succ]; exact z))]
          rfl
      · cases e
  rw [go e2 hb h1 h2]
end DL

/-! Ek3: further rows for the reckoning. -/
namespace DL
open PySem PySem.Spec L2
section
variable {env : Ev} {d : D} {ds : List D}
theorem ev_gN {i : Nat} : gN i d env = some (env.set i (some (.sh d))) := rfl
theorem gS_tup {n : Nat} {gs : List D → Ev → Option Ev} : gS n gs (.tup ds) env = if ds.length = n then gs ds env else none := rfl
theorem gS_lst {n : Nat} {gs : List D → Ev → Option Ev} : gS n gs (.lst ds) env = if ds.length = n then gs ds env else none := rfl
theorem gCons_c {g : D → Ev → Option Ev} {gs : List D → Ev → Option Ev} : gCons g gs (d :: ds) env = (g d env).bind (gs ds) := rfl
theorem gNil_n : gNil [] env = some env := rfl
theorem mod_int {i j : Int} (h : 0 < j) : dMod (.int i) (.int j) = some (.sh (.int (i % j))) := by
  show (if (0 : Int) < j then some (R.sh (.int (i % j))) else none) = _
  rw [if_pos h]
theorem div_int {i j : Int} (h : 0 < j) (h2 : j < 1073741824) : dFdiv (.int i) (.int j) = some (.sh (.int (i / j))) := by
  show (if CDiv i j then some (R.sh (.int (i / j))) else none) = _
  rw [if_pos ⟨h, h2⟩]
theorem mul_intL {i j : Int} (h1 : -18446744073709551616 < i) (h2 : i < 18446744073709551616) : dMul (.int i) (.int j) = some (.sh (.int (i * j))) := mul_int (.inl ⟨by omega, by omega⟩)
theorem mul_intR {i j : Int} (h1 : -18446744073709551616 < j) (h2 : j < 18446744073709551616) : dMul (.int i) (.int j) = some (.sh (.int (i * j))) := mul_int (.inr ⟨by omega, by omega⟩)
theorem pow_int {i j : Int} (h0 : 0 ≤ j) (h1 : j ≤ 1000000) (h2 : -18446744073709551616 < i) (h3 : i < 18446744073709551616) : dPow (.int i) (.int j) = some (.sh (.int (i ^ j.toNat))) := by
  show (if CPow i j then some (R.sh (.int (i ^ j.toNat))) else none) = _
  rw [if_pos ⟨h0, h1, by omega⟩]
theorem items_lst : items (.lst ds) = .ok ds := rfl
theorem items_lkd : items (.lkd ds) = .ok ds := rfl
theorem items_tup : items (.tup ds) = .ok ds := rfl
theorem fz_sh_bind {r : R} : (O.ok r).bind R.fz = r.fz := rfl
theorem pt_nx {a : Ev → Prop} {b c : Ev → Prop} {r : R → Prop} {x : Ex → Ev → Prop} : Post.nx { nx := a, bk := b, ct := c, rt := r, ex := x } = a := rfl
theorem pt_rt {a : Ev → Prop} {b c : Ev → Prop} {r : R → Prop} {x : Ex → Ev → Prop} : Post.rt { nx := a, bk := b, ct := c, rt := r, ex := x } = r := rfl
theorem pt_bk {a : Ev → Prop} {b c : Ev → Prop} {r : R → Prop} {x : Ex → Ev → Prop} : Post.bk { nx := a, bk := b, ct := c, rt := r, ex := x } = b := rfl
theorem pt_ct {a : Ev → Prop} {b c : Ev → Prop} {r : R → Prop} {x : Ex → Ev → Prop} : Post.ct { nx := a, bk := b, ct := c, rt := r, ex := x } = c := rfl
theorem pt_ex {a : Ev → Prop} {b c : Ev → Prop} {r : R → Prop} {x : Ex → Ev → Prop} : Post.ex { nx := a, bk := b, ct := c, rt := r, ex := x } = x := rfl
theorem tp_nx {p : Post} {ks : List (Ev → SO)} {N : Ev → Prop} : (turnP p ks N).nx = N := rfl
theorem tp_ct {p : Post} {ks : List (Ev → SO)} {N : Ev → Prop} : (turnP p ks N).ct = N := rfl
theorem tp_bk {p : Post} {ks : List (Ev → SO)} {N : Ev → Prop} : (turnP p ks N).bk = fun e => wpS p ks (.nx e) := rfl
theorem tp_rt {p : Post} {ks : List (Ev → SO)} {N : Ev → Prop} : (turnP p ks N).rt = p.rt := rfl
theorem tp_ex {p : Post} {ks : List (Ev → SO)} {N : Ev → Prop} : (turnP p ks N).ex = p.ex := rfl
theorem dIsi_eq {T : String} {d : D} : dIsi T d = d.ty.bind fun t => (kitB t T).map fun b => .sh (.bl b) := rfl
theorem sl_lst {ds : List D} {lo hi : Option Int} : dSl (.lst ds) lo hi = some (.fr (.ow (cutD ds lo hi))) := rfl
theorem sl_lkd {ds : List D} {lo hi : Option Int} : dSl (.lkd ds) lo hi = some (.fr (.ow (cutD ds lo hi))) := rfl
theorem cut_to {ds : List D} {k : Nat} : cutD ds none (some (k : Int)) = ds.take k := by
  unfold cutD
  rw [HT.sIx_none, HT.sIx_nat, List.drop_zero, Nat.sub_zero]
  by_cases h : k ≤ ds.length
  · rw [Nat.min_eq_left h]
  · rw [Nat.min_eq_right (by omega), List.take_length, List.take_of_length_le (by omega)]
theorem cut_from {ds : List D} {k : Nat} : cutD ds (some (k : Int)) none = ds.drop k := by
  unfold cutD
  rw [HT.sIx_none, HT.sIx_nat]
  by_cases h : k ≤ ds.length
  · rw [Nat.min_eq_left h, List.take_of_length_le (by simp)]
  · rw [Nat.min_eq_right (by omega), List.drop_eq_nil_of_le (by omega : ds.length ≤ k)]
    simp
theorem fldD_0 {f : Str} {ns : List Str} {vs : List D} {d : D} : fldD (f :: ns) (d :: vs) f = some d := by simp [fldD, List.lookup_cons]
theorem tgt_seq {p : Post} {ks : List (Ev → SO)} {o : SO} {Q : Prop} (h : Q → wpS p ks o) (q : Q) : wpS p ks o := h q
end
end DL
/-! ### numbers from nought on -/
namespace DL
open PySem PySem.Spec L2
section
variable {env : Ev} {d : D} {ds : List D} {a b : Nat}
theorem ec_lit (n : Nat) : eC (.int (no_index (@OfNat.ofNat Int n instOfNat))) env = .ok (.sh (.int ((@OfNat.ofNat Nat n (instOfNatNat n) : Nat) : Int))) := rfl
theorem ec_str {x : Str} : eC (.str x) env = .ok (.sh (.str x)) := rfl
theorem ec_bl {x : Bool} : eC (.bl x) env = .ok (.sh (.bl x)) := rfl
theorem ec_non : eC .non env = .ok (.sh .non) := rfl
theorem add_nat : dAdd (.int (a : Int)) (.int (b : Int)) = some (.sh (.int ((a + b : Nat) : Int))) := by
  rw [add_int]; simp
theorem mul_nat (h : b < 18446744073709551616) : dMul (.int (a : Int)) (.int (b : Int)) = some (.sh (.int ((a * b : Nat) : Int))) := by
  rw [mul_intR (by omega) (by omega)]; simp
theorem mul_natL (h : a < 18446744073709551616) : dMul (.int (a : Int)) (.int (b : Int)) = some (.sh (.int ((a * b : Nat) : Int))) := by
  rw [mul_intL (by omega) (by omega)]; simp
theorem sub_nat (h : b ≤ a) : dSub (.int (a : Int)) (.int (b : Int)) = some (.sh (.int ((a - b : Nat) : Int))) := by
  rw [sub_int]; congr 3; omega
theorem pow_nat (h1 : b ≤ 1000000) (h2 : a < 18446744073709551616) : dPow (.int (a : Int)) (.int (b : Int)) = some (.sh (.int ((a ^ b : Nat) : Int))) := by
  rw [pow_int (by omega) (by omega) (by omega) (by omega), Int.toNat_natCast]; simp
theorem lt_nat : dLt (.int (a : Int)) (.int (b : Int)) = some (.sh (.bl (decide (a < b)))) := by
  rw [lt_int]; congr 3; apply decide_eq_decide.mpr; omega
theorem gt_nat : dGt (.int (a : Int)) (.int (b : Int)) = some (.sh (.bl (decide (b < a)))) := by
  rw [gt_int]; congr 3; apply decide_eq_decide.mpr; omega
theorem le_nat : dLe (.int (a : Int)) (.int (b : Int)) = some (.sh (.bl (decide (a ≤ b)))) := by
  rw [le_int]; congr 3; apply decide_eq_decide.mpr; omega
theorem ge_nat : dGe (.int (a : Int)) (.int (b : Int)) = some (.sh (.bl (decide (b ≤ a)))) := by
  rw [ge_int]; congr 3; apply decide_eq_decide.mpr; omega
theorem eq_nat : dEq (.int (a : Int)) (.int (b : Int)) = some (.sh (.bl (decide (a = b)))) := by
  rw [eq_int]; congr 3; apply decide_eq_decide.mpr; omega
theorem ne_nat : dNe (.int (a : Int)) (.int (b : Int)) = some (.sh (.bl (!decide (a = b)))) := by
  rw [ne_int]; congr 4; apply decide_eq_decide.mpr; omega
theorem neg1_nat : dNeg (.int ((1 : Nat) : Int)) = some (.sh (.int (-1))) := rfl
theorem lenc_lst (ds : List D) : dLen (.lst ds) = some (.sh (.int (ds.length : Int))) := rfl
theorem shl1_nat (hk : b ≤ 1000000) : dShl (.int ((1 : Nat) : Int)) (.int (b : Int)) = some (.sh (.int ((1 <<< b : Nat) : Int))) := shl_nat 1 b (by decide) hk
theorem getD_map {α : Type} {f : α → D} {xs : List α} {k : Nat} (h : k < xs.length) : (xs.map f)[k]? = some (f xs[k]) := by
  rw [List.getElem?_map, List.getElem?_eq_getElem h]; rfl
theorem getN_map {xs : List Nat} {k : Nat} (h : k < xs.length) : (xs.map nI)[k]? = some (.int ((xs.getD k 0 : Nat) : Int)) := by
  rw [getD_map h, List.getD_eq_getElem?_getD, List.getElem?_eq_getElem h]; rfl
theorem ixN_lst {xs : List Nat} {k : Nat} (h : k < xs.length) : dIx (.lst (xs.map nI)) (.int (k : Int)) = some (.sh (.int ((xs.getD k 0 : Nat) : Int))) := ix_lst (getN_map h)
theorem ixN_tup {xs : List Nat} {k : Nat} (h : k < xs.length) : dIx (.tup (xs.map nI)) (.int (k : Int)) = some (.sh (.int ((xs.getD k 0 : Nat) : Int))) := ix_tup (getN_map h)
theorem len_map {α : Type} {f : α → D} (xs : List α) : dLen (.lst (xs.map f)) = some (.sh (.int (xs.length : Int))) := by rw [len_lst, List.length_map]
theorem nI_def {k : Nat} : nI k = .int (k : Int) := rfl
theorem tI_def {q : Nat × Nat} : tI q = .tup [.int (q.1 : Int), .int (q.2 : Int)] := rfl
theorem gN_nI {i k : Nat} : gN i (nI k) env = some (env.set i (some (.sh (.int (k : Int))))) := rfl
theorem gS_tI {gs : List D → Ev → Option Ev} {q : Nat × Nat} : gS 2 gs (tI q) env = gs [.int (q.1 : Int), .int (q.2 : Int)] env := rfl
theorem pure_nI {n k : Nat} : D.pure n (nI k) = true := by unfold nI; cases n <;> simp only [D.pure]
theorem pure_int {n : Nat} {i : Int} : D.pure n (.int i) = true := by cases n <;> simp only [D.pure]
theorem pure_tI {n : Nat} {q : Nat × Nat} : D.pure (n + 1) (tI q) = true := by unfold tI; simp only [D.pure, D.pureL, pure_int, Bool.and_self]
theorem pure_map {α : Type} {f : α → D} {n : Nat} (h : ∀ x, D.pure n (f x) = true) (xs : List α) : D.pureL n (xs.map f) = true := pureL_of fun x hx => by
  obtain ⟨y, _, rfl⟩ := List.mem_map.mp hx; exact h y
theorem nI_inj {a b : Nat} (h : nI a = nI b) : a = b := by unfold nI at h; injection h with h; omega
theorem tI_inj {a b : Nat × Nat} (h : tI a = tI b) : a = b := by
  unfold tI at h; injection h with h; injection h with h1 h; injection h1 with h1; injection h with h2 h; injection h2 with h2
  exact Prod.ext (by omega) (by omega)
theorem map_inj {α : Type} {f : α → D} (h : ∀ a b, f a = f b → a = b) : ∀ {xs ys : List α}, xs.map f = ys.map f → xs = ys
  | [], [], _ => rfl
  | [], _ :: _, e => by cases e
  | _ :: _, [], e => by cases e
  | x :: xs, y :: ys, e => by
    rw [List.map_cons, List.map_cons] at e
    injection e with e1 e2
    rw [h _ _ e1, map_inj h e2]
theorem mem_nI {xs : List Nat} {k : Nat} : nI k ∈ xs.map nI ↔ k ∈ xs := by
  constructor
  · intro h; obtain ⟨y, hy, e⟩ := List.mem_map.mp h; rw [← nI_inj e]; exact hy
  · intro h; exact List.mem_map.mpr ⟨k, h, rfl⟩
theorem mem_tI {xs : List (Nat × Nat)} {k : Nat × Nat} : tI k ∈ xs.map tI ↔ k ∈ xs := by
  constructor
  · intro h; obtain ⟨y, hy, e⟩ := List.mem_map.mp h; rw [← tI_inj e]; exact hy
  · intro h; exact List.mem_map.mpr ⟨k, h, rfl⟩
theorem in_lst {d : D} {ds : List D} : dIn d (.lst ds) = (anyEq d ds).map fun k => .sh (.bl k) := rfl
theorem nin_lst {d : D} {ds : List D} : dNin d (.lst ds) = (anyEq d ds).map fun k => .sh (.bl (!k)) := rfl
theorem in_nI {xs : List Nat} {k : Nat} : dIn (.int (k : Int)) (.lst (xs.map nI)) = some (.sh (.bl (decide (k ∈ xs)))) := by
  rw [in_lst, anyEq_pure (n := 0) (by omega) pure_int (pure_map (f := nI) (fun _ => pure_nI) xs) (k ∈ xs) mem_nI]; rfl
theorem nin_nI {xs : List Nat} {k : Nat} : dNin (.int (k : Int)) (.lst (xs.map nI)) = some (.sh (.bl (!decide (k ∈ xs)))) := by
  rw [nin_lst, anyEq_pure (n := 0) (by omega) pure_int (pure_map (f := nI) (fun _ => pure_nI) xs) (k ∈ xs) mem_nI]; rfl
theorem eq_nIs {xs ys : List Nat} : dEq (.lst (xs.map nI)) (.lst (ys.map nI)) = some (.sh (.bl (decide (xs = ys)))) :=
  eq_pure (n := 1) (by omega) (by simp only [D.pure]; exact pure_map (fun _ => pure_nI) xs) (by simp only [D.pure]; exact pure_map (fun _ => pure_nI) ys) _ (by
    constructor
    · intro h; injection h with h; exact map_inj (fun _ _ => nI_inj) h
    · intro h; rw [h])
theorem ne_nIs {xs ys : List Nat} : dNe (.lst (xs.map nI)) (.lst (ys.map nI)) = some (.sh (.bl (!decide (xs = ys)))) :=
  ne_pure (n := 1) (by omega) (by simp only [D.pure]; exact pure_map (fun _ => pure_nI) xs) (by simp only [D.pure]; exact pure_map (fun _ => pure_nI) ys) _ (by
    constructor
    · intro h; injection h with h; exact map_inj (fun _ _ => nI_inj) h
    · intro h; rw [h])
end
end DL
namespace DL
open PySem PySem.Spec L2
/-- comprehensions whose items are numbers, or pairs of numbers -/
theorem comp_n {α : Type} {emb : α → D} {vs : List Nat} {fi : Ev → O (List D)} {g : D → Ev → Option Ev} {fe : Ev → O R} {env : Ev} {xs : List α} (f : α → Nat) (hi : fi env = .ok (xs.map emb)) (hl : xs.length ≤ lim)
    (h : ∀ x ∈ xs, ∃ e1, g (emb x) (wipeE env vs) = some e1 ∧ (fe e1).bind R.fz = .ok (.int (f x : Int))) : eComp vs fi g fYes fe env = .ok (.fr (.ow ((xs.map f).map nI))) := by
  rw [List.map_map]
  exact comp_map (fun x => nI (f x)) hi hl h
theorem comp_nf {α : Type} {emb : α → D} {vs : List Nat} {fi : Ev → O (List D)} {g : D → Ev → Option Ev} {ft : Ev → O Bool} {fe : Ev → O R} {env : Ev} {xs : List α} (t : α → Bool) (f : α → Nat) (hi : fi env = .ok (xs.map emb)) (hl : xs.length ≤ lim)
    (h : ∀ x ∈ xs, ∃ e1, g (emb x) (wipeE env vs) = some e1 ∧ ft e1 = .ok (t x) ∧ (t x = true → (fe e1).bind R.fz = .ok (.int (f x : Int)))) : eComp vs fi g ft fe env = .ok (.fr (.ow (((xs.filter t).map f).map nI))) := by
  rw [List.map_map]
  exact comp_eq t (fun x => nI (f x)) hi hl h
theorem comp_t {α : Type} {emb : α → D} {vs : List Nat} {fi : Ev → O (List D)} {g : D → Ev → Option Ev} {fe : Ev → O R} {env : Ev} {xs : List α} (f : α → Nat × Nat) (hi : fi env = .ok (xs.map emb)) (hl : xs.length ≤ lim)
    (h : ∀ x ∈ xs, ∃ e1, g (emb x) (wipeE env vs) = some e1 ∧ (fe e1).bind R.fz = .ok (tI (f x))) : eComp vs fi g fYes fe env = .ok (.fr (.ow ((xs.map f).map tI))) := by
  rw [List.map_map]
  exact comp_map (fun x => tI (f x)) hi hl h
theorem comp_tf {α : Type} {emb : α → D} {vs : List Nat} {fi : Ev → O (List D)} {g : D → Ev → Option Ev} {ft : Ev → O Bool} {fe : Ev → O R} {env : Ev} {xs : List α} (t : α → Bool) (f : α → Nat × Nat) (hi : fi env = .ok (xs.map emb)) (hl : xs.length ≤ lim)
    (h : ∀ x ∈ xs, ∃ e1, g (emb x) (wipeE env vs) = some e1 ∧ ft e1 = .ok (t x) ∧ (t x = true → (fe e1).bind R.fz = .ok (tI (f x)))) : eComp vs fi g ft fe env = .ok (.fr (.ow (((xs.filter t).map f).map tI))) := by
  rw [List.map_map]
  exact comp_eq t (fun x => tI (f x)) hi hl h
theorem nIs_cons (k : Nat) (xs : List Nat) : D.int (k : Int) :: xs.map nI = (k :: xs).map nI := rfl
theorem nIs_one (k : Nat) : [D.int (k : Int)] = [k].map nI := rfl
theorem add_nIs {α : Type} {f : α → D} {xs ys : List α} (h : xs.length + ys.length ≤ 16777216) : dAdd (.lst (xs.map f)) (.lst (ys.map f)) = some (.fr (.ow ((xs ++ ys).map f))) := by
  rw [add_lst (by simp only [List.length_map]; exact h), List.map_append]
theorem rep_nIs {xs : List Nat} {k : Nat} (h : xs.length * k ≤ 16777216) (hk : k < 2 ^ 63) : dMul (.lst (xs.map nI)) (.int (k : Int)) = some (.fr (.ow ((List.replicate k xs).flatten.map nI))) := by
  rw [rep_lst (by simp only [List.length_map]; exact h) hk]
  simp [List.map_flatten]
theorem int_bl {b : Bool} : dInt (.bl b) = some (.sh (.int (((if b then 1 else 0 : Nat)) : Int))) := by cases b <;> rfl
end DL
namespace DL
open PySem PySem.Spec L2
section
variable {p : Post} {ks : List (Ev → SO)} {env : Ev}
theorem wp_for0 {g : D → Ev → Option Ev} {body : Ev → SO} (h : wpS p ks (.nx env)) : wpS p ks (forL g body [] env) := h
theorem wp_for1 {g : D → Ev → Option Ev} {body : Ev → SO} {d : D} {ds : List D} {e1 : Ev} (hg : g d env = some e1) (h : wpS (turnP p ks (fun e2 => wpS p ks (forL g body ds e2))) [] (body e1)) : wpS p ks (forL g body (d :: ds) env) := by
  show wpS p ks (match g d env with
        | none => .no
        | some e1 => match body e1 with
          | .nx e2 => forL g body ds e2
          | .ct e2 => forL g body ds e2
          | .bk e2 => .nx e2
          | o => o)
  rw [hg]
  show wpS p ks (match body e1 with
          | .nx e2 => forL g body ds e2
          | .ct e2 => forL g body ds e2
          | .bk e2 => .nx e2
          | o => o)
  generalize body e1 = o at h
  cases o with
  | nx e2 => rw [wp_nil] at h; exact h
  | ct e2 => rw [wp_ct] at h; exact h
  | bk e2 => rw [wp_bk] at h; exact h
  | rt r => show wpS p ks (.rt r); rw [wp_rt] at h ⊢; exact h
  | ex x e => show wpS p ks (.ex x e); rw [wp_ex] at h ⊢; exact h
  | no => rw [wp_no] at h; exact h.elim
end
theorem add_lstS {xs ys : List D} (h : xs.length + ys.length ≤ 16777216) : dAdd (.lst xs) (.lst ys) = some (.fr (.ow (xs ++ ys))) := add_lst h
theorem mul_1 {xs : List D} (h : xs.length ≤ 16777216) : dMul (.lst xs) (.int ((1 : Nat) : Int)) = some (.fr (.ow xs)) := by
  rw [rep_lst (by unfold lim; omega) (by omega)]; simp
theorem mul_0 {xs : List D} : dMul (.lst xs) (.int ((0 : Nat) : Int)) = some (.fr (.ow [])) := by
  rw [rep_lst (by unfold lim; omega) (by omega)]; simp
theorem cut_toN {α : Type} {f : α → D} {xs : List α} {k : Nat} : cutD (xs.map f) none (some (k : Int)) = (xs.take k).map f := by rw [cut_to, List.map_take]
theorem cut_fromN {α : Type} {f : α → D} {xs : List α} {k : Nat} : cutD (xs.map f) (some (k : Int)) none = (xs.drop k).map f := by rw [cut_from, List.map_drop]
theorem list_lst {ds : List D} : dList (.lst ds) = some (.fr (.ow ds)) := rfl
theorem app_nIs {xs : List Nat} {k : Nat} : xs.map nI ++ [.int (k : Int)] = (xs ++ [k]).map nI := by rw [List.map_append]; rfl
theorem app_tIs {xs : List (Nat × Nat)} {a b : Nat} : xs.map tI ++ [.tup [.int (a : Int), .int (b : Int)]] = (xs ++ [(a, b)]).map tI := by rw [List.map_append]; rfl
end DL
namespace DL
open PySem PySem.Spec L2
theorem in_tup2 {w a b : Nat} : dIn (.int (w : Int)) (.tup [.int (a : Int), .int (b : Int)]) = some (.sh (.bl (decide (w = a) || decide (w = b)))) := by
  show some (R.sh (.bl (inV (.int (w : Int)) [.int (a : Int), .int (b : Int)]))) = _
  unfold inV
  simp only [List.any_cons, List.any_nil, eqV, Bool.or_false]
  congr 3
  rw [Bool.eq_iff_iff]
  simp only [Bool.or_eq_true, beq_iff_eq, decide_eq_true_eq]
  omega
theorem st_popapp {p : Post} {ks : List (Ev → SO)} {env : Ev} {i j : Nat} {fi : Ev → O R} {fs ds : List D} {k : Nat} (hij : i ≠ j) (h1 : env[i]? = some (some (.ow fs))) (h2 : env[j]? = some (some (.ow ds))) (h3 : fi env = .ok (.sh (.int (k : Int)))) (hk : k < ds.length) (hl : fs.length < lim) (hd : ds.length < 1000000)
    (h : wpS p ks (.nx ((env.set j (some (.ow (ds.eraseIdx k)))).set i (some (.ow (fs ++ [ds[k]])))))) : wpS p ks (sPopApp i j fi env) := by
  have hx : ixN ds.length (k : Int) = some k := by
    unfold ixN
    rw [if_pos (by omega), if_pos (by omega), Int.toNat_natCast]
  have hp : popE j fi env = .ok (ds[k], env.set j (some (.ow (ds.eraseIdx k)))) := by
    unfold popE
    rw [h2, h3]
    simp only [d_sh]
    rw [if_pos (by unfold small; omega), hx]
    simp only
    rw [List.getElem?_eq_getElem hk]
  unfold sPopApp
  rw [h1, hp]
  simp only
  rw [List.getElem?_set_ne (Ne.symm hij), h1]
  simp only
  rw [if_pos ⟨hij, hl⟩]
  exact h
end DL
namespace DL
open PySem PySem.Spec L2
theorem py_nIs (xs : List Nat) : ∃ ps, D.py (.lst (xs.map nI)) = some (.list ps) := by
  obtain ⟨ps, h, _⟩ := pure_pyL (pure_map (n := 0) (f := nI) (fun _ => pure_nI) xs)
  exact ⟨ps, by simp only [D.py, h, Option.map_some]⟩
theorem lindexN {fo fa : Ev → O R} {env : Ev} {r : R} {xs : List Nat} {x : Nat} (h1 : fo env = .ok r) (h2 : r.d = .lst (xs.map nI)) (h3 : fa env = .ok (.sh (.int (x : Int)))) (hx : x ∈ xs) : fLindex fo fa env = .ok (.sh (.int ((xs.idxOf x : Nat) : Int))) := by
  rw [ev_lindex, h1, o_bind, h2]
  obtain ⟨ps, hp⟩ := py_nIs xs
  rw [hp]
  simp only
  rw [h3, o_bind]
  have hl := List.idxOf_lt_length_iff.mpr hx
  rw [show (R.sh (D.int (x : Int))).d = .int (x : Int) from rfl, lindex_pure (n := 0) (k := xs.idxOf x) (by omega) pure_int (pure_map (f := nI) (fun _ => pure_nI) xs) (by
    rw [getD_map hl, List.getElem_idxOf hl]; rfl) (fun j hj q => by
    have hjl : j < xs.length := by omega
    rw [getD_map hjl] at q
    have e : xs[j] = x := nI_inj (Option.some.inj q)
    have := List.not_of_lt_findIdx (xs := xs) (p := (· == x)) (i := j) hj
    simp [e] at this)]
  rfl
end DL
namespace DL
open PySem PySem.Spec L2
def orderB (FO : List D → O (List Str × List D)) (a : O (List D)) : O R := a.bind fun ds => match ds with
  | [d1, d2] => if flatD d1 = true ∧ lentD d2 = true then (match FO [d1, d2] with
    | .ok (ns, es) => if D.awayL es = true then .ok (.sh (.ins 0 ns es)) else .no
    | .ex x => if D.awayL x.vs = true then .ex x else .no
    | .no => .no) else .no
  | _ => .no
theorem ev_order {FO : List D → O (List Str × List D)} {fa : Ev → O (List D)} {env : Ev} : fOrder FO fa env = orderB FO (fa env) := rfl
theorem mutB_app' {i : Nat} {env : Ev} {ds : List D} {d : D} (hl : ds.length < 16777216) : mutB i hAppend env (some (some (.ow ds))) (.ok [d]) = .nx (env.set i (some (.ow (ds ++ [d])))) := mutB_app hl
theorem st_clear {i : Nat} {env : Ev} : sClear i env = match env[i]? with | some (some (.ow _)) => .nx (env.set i (some (.ow []))) | _ => .no := rfl
theorem tup_lst {ds : List D} : dTuple (.lst ds) = some (.sh (.tup ds)) := rfl
end DL
namespace DL
open PySem PySem.Spec L2
def callBB (F : List D → O R) (ds : List D) : O R := match F ds with
  | .ok (.sh d) => if flatD d = true then .ok (.sh d) else .no
  | _ => .no
theorem ev_callBB {F : List D → O R} {g : Ev → O (List D)} {env : Ev} : fCallB F g env = (g env).bind (callBB F) := rfl
theorem callBB_bl {F : List D → O R} {ds : List D} {b : Bool} (h : F ds = .ok (.sh (.bl b))) : callBB F ds = .ok (.sh (.bl b)) := by
  unfold callBB; rw [h]; rfl
theorem callBB_int {F : List D → O R} {ds : List D} {b : Int} (h : F ds = .ok (.sh (.int b))) : callBB F ds = .ok (.sh (.int b)) := by
  unfold callBB; rw [h]; rfl
theorem callBB_non {F : List D → O R} {ds : List D} (h : F ds = .ok (.sh .non)) : callBB F ds = .ok (.sh .non) := by
  unfold callBB; rw [h]; rfl
/-- a slice with both ends -/
theorem cut_both {α : Type} {f : α → D} {xs : List α} {j k : Nat} : cutD (xs.map f) (some (j : Int)) (some (k : Int)) = ((xs.take k).drop j).map f := by
  unfold cutD
  rw [HT.sIx_nat, HT.sIx_nat, ← List.map_drop, ← List.map_take, List.length_map, List.drop_take]
  congr 1
  by_cases h : k ≤ xs.length
  · rw [Nat.min_eq_left h]
    by_cases h2 : j ≤ xs.length
    · rw [Nat.min_eq_left h2]
    · rw [Nat.min_eq_right (by omega), List.drop_eq_nil_of_le (by omega : xs.length ≤ j), List.drop_eq_nil_of_le (Nat.le_refl _)]; simp
  · rw [Nat.min_eq_right (by omega)]
    by_cases h2 : j ≤ xs.length
    · rw [Nat.min_eq_left h2, List.take_of_length_le (by simp), List.take_of_length_le (by simp; omega)]
    · rw [Nat.min_eq_right (by omega), List.drop_eq_nil_of_le (by omega : xs.length ≤ j), List.drop_eq_nil_of_le (Nat.le_refl _)]; simp
end DL
namespace DL
open PySem PySem.Spec L2
def asgO : Option Ev → SO
  | some e => .nx e
  | none => .no
theorem asgB_eq {g : D → Ev → Option Ev} {env : Ev} {d : D} : asgB g env (.ok d) = asgO (g d env) := by
  show (match g d env with | some e => SO.nx e | none => .no) = _
  cases g d env <;> rfl
theorem asgO_some {e : Ev} : asgO (some e) = .nx e := rfl
theorem list2 {α : Type} {l : List α} (h : l.length = 2) : ∃ x y, l = [x, y] := by
  match l, h with
  | [x, y], _ => exact ⟨x, y, rfl⟩
theorem list3 {α : Type} {l : List α} (h : l.length = 3) : ∃ x y z, l = [x, y, z] := by
  match l, h with
  | [x, y, z], _ => exact ⟨x, y, z, rfl⟩
end DL
namespace DL
open PySem PySem.Spec L2
/-- a loop that looks for something and returns it -/
theorem wp_find {α : Type} {p : Post} {ks : List (Ev → SO)} {emb : α → D} {g : D → Ev → Option Ev} {body : Ev → SO} {xs : List α} {env : Ev} (I : Ev → Prop) (f : α → Option R) (h0 : I env)
    (step : ∀ x ∈ xs, ∀ e, I e → ∃ e1, g (emb x) e = some e1 ∧ wpS { nx := fun e2 => f x = none ∧ I e2, ct := fun e2 => f x = none ∧ I e2, rt := fun r => f x = some r } [] (body e1))
    (found : ∀ r, xs.findSome? f = some r → p.rt r) (after : xs.findSome? f = none → ∀ e, I e → wpS p ks (.nx e)) : wpS p ks (forL g body (xs.map emb) env) := by
  refine wp_forL (fun pre e => pre.findSome? f = none ∧ I e) ⟨rfl, h0⟩ ?_ fun e h => after h.1 e h.2
  rintro pre x post e hx ⟨hn, hI⟩
  obtain ⟨e1, q, h⟩ := step x (by rw [hx]; simp) e hI
  have hs : (pre ++ [x]).findSome? f = f x := by
    rw [List.findSome?_append, hn, Option.none_or, List.findSome?_cons]
    cases f x <;> rfl
  refine ⟨e1, q, wp_mono (fun e (h : f x = none ∧ I e) => ?_) (fun e (h : False) => h.elim) (fun e (h : f x = none ∧ I e) => ?_) (fun r (h : f x = some r) => ?_) (fun x e (h : False) => h.elim) h⟩
  · exact ⟨hs.trans h.1, h.2⟩
  · exact ⟨hs.trans h.1, h.2⟩
  · refine found r ?_
    rw [hx, List.findSome?_append, hn, Option.none_or, List.findSome?_cons, h]
theorem all_bls (bs : List Bool) : dAll (.lst (bs.map D.bl)) = some (.sh (.bl (bs.all id))) := by
  show (D.bls (bs.map D.bl)).map _ = _
  rw [bls_map]; rfl
theorem intsM (is : List Int) : D.ints (is.map D.int) = some is := by
  induction is with
  | nil => rfl
  | cons i is ih => simp only [List.map_cons, D.ints, ih, Option.map_some]
theorem sum_ints (is : List Int) : dSum (.lst (is.map D.int)) = some (.sh (.int is.sum)) := by
  show (D.ints (is.map D.int)).map _ = _
  rw [intsM]; rfl
theorem sum_nIs (is : List Nat) : dSum (.lst (is.map nI)) = some (.sh (.int (is.sum : Nat))) := by
  have : is.map nI = (is.map (fun x : Nat => (x : Int))).map D.int := by rw [List.map_map]; rfl
  rw [this, sum_ints]
  congr 3
  induction is with
  | nil => rfl
  | cons a is ih => simp only [List.map_cons, List.sum_cons]; rw [ih (by rw [List.map_map]; rfl)]; simp
/-- all of tests -/
theorem comp_b {α : Type} {emb : α → D} {vs : List Nat} {fi : Ev → O (List D)} {g : D → Ev → Option Ev} {fe : Ev → O R} {env : Ev} {xs : List α} (f : α → Bool) (hi : fi env = .ok (xs.map emb)) (hl : xs.length ≤ lim)
    (h : ∀ x ∈ xs, ∃ e1, g (emb x) (wipeE env vs) = some e1 ∧ (fe e1).bind R.fz = .ok (.bl (f x))) : eComp vs fi g fYes fe env = .ok (.fr (.ow ((xs.map f).map D.bl))) := by
  rw [List.map_map]
  exact comp_map (fun x => .bl (f x)) hi hl h
end DL
namespace DL
open PySem PySem.Spec L2
theorem in_tI {xs : List (Nat × Nat)} {a b : Nat} : dIn (.tup [.int (a : Int), .int (b : Int)]) (.lst (xs.map tI)) = some (.sh (.bl (decide ((a, b) ∈ xs)))) := by
  rw [in_lst, anyEq_pure (n := 1) (a := .tup [.int (a : Int), .int (b : Int)]) (by omega) (pure_tI (n := 0) (q := (a, b))) (pure_map (f := tI) (fun _ => pure_tI) xs) ((a, b) ∈ xs) (mem_tI (k := (a, b)))]; rfl
theorem nin_tI {xs : List (Nat × Nat)} {a b : Nat} : dNin (.tup [.int (a : Int), .int (b : Int)]) (.lst (xs.map tI)) = some (.sh (.bl (!decide ((a, b) ∈ xs)))) := by
  rw [nin_lst, anyEq_pure (n := 1) (a := .tup [.int (a : Int), .int (b : Int)]) (by omega) (pure_tI (n := 0) (q := (a, b))) (pure_map (f := tI) (fun _ => pure_tI) xs) ((a, b) ∈ xs) (mem_tI (k := (a, b)))]; rfl
theorem zip_nIs : ∀ {xs ys : List Nat}, zipD (xs.map nI) (ys.map nI) = (xs.zip ys).map tI
  | [], _ => rfl
  | _ :: _, [] => rfl
  | x :: xs, y :: ys => by
    rw [List.map_cons, List.map_cons]
    show D.tup [nI x, nI y] :: zipD (xs.map nI) (ys.map nI) = _
    rw [zip_nIs]; rfl
theorem bzip_lst {xs ys : List D} : bZip [.lst xs, .lst ys] = .ok (zipD xs ys) := rfl
theorem ints_nIs (xs : List Nat) : D.ints (xs.map nI) = some (xs.map (fun x : Nat => (x : Int))) := by
  have : xs.map nI = (xs.map (fun x : Nat => (x : Int))).map D.int := by rw [List.map_map]; rfl
  rw [this, intsM]
theorem min_nIs {xs : List Nat} {x : Nat} (h : x ∈ xs) (q : ∀ y ∈ xs, x ≤ y) : bMin [.lst (xs.map nI)] = some (.sh (.int (x : Int))) := by
  show ((D.lst (xs.map nI)).seq.bind fun ds => (D.ints ds).bind fun ns => ns.min?.map fun m => R.sh (.int m)) = _
  show ((D.ints (xs.map nI)).bind fun ns => ns.min?.map fun m => R.sh (.int m)) = _
  rw [ints_nIs, Option.bind_some]
  have : (xs.map (fun x : Nat => (x : Int))).min? = some (x : Int) := by
    rw [List.min?_eq_some_iff]
    exact ⟨List.mem_map.mpr ⟨x, h, rfl⟩, fun b hb => by obtain ⟨y, hy, rfl⟩ := List.mem_map.mp hb; have := q y hy; omega⟩
  rw [this]; rfl
theorem max_nIs {xs : List Nat} {x : Nat} (h : x ∈ xs) (q : ∀ y ∈ xs, y ≤ x) : bMax [.lst (xs.map nI)] = some (.sh (.int (x : Int))) := by
  show ((D.ints (xs.map nI)).bind fun ns => ns.max?.map fun m => R.sh (.int m)) = _
  rw [ints_nIs, Option.bind_some]
  have : (xs.map (fun x : Nat => (x : Int))).max? = some (x : Int) := by
    rw [List.max?_eq_some_iff]
    exact ⟨List.mem_map.mpr ⟨x, h, rfl⟩, fun b hb => by obtain ⟨y, hy, rfl⟩ := List.mem_map.mp hb; have := q y hy; omega⟩
  rw [this]; rfl
theorem last_nIs {xs : List Nat} (h : xs ≠ []) : dIx (.lst (xs.map nI)) (.int (-1)) = some (.sh (.int (xs.getLastD 0 : Nat))) := by
  refine ix_last ?_
  rw [List.getLast?_map]
  cases xs with
  | nil => exact absurd rfl h
  | cons x t => rw [List.getLast?_cons, Option.map_some, List.getLastD_cons, List.getLastD_eq_getLast?]; rfl
theorem add_nIs_sh {xs : List Nat} {y : Nat} (h : xs.length < 16777216) : dAdd (.lst (xs.map nI)) (.lst [.int (y : Int)]) = some (.fr (.ow ((xs ++ [y]).map nI))) := by
  rw [nIs_one, add_nIs (by simp; omega)]
end DL

/-! Ek3b: isinstance of data, printed. -/
namespace DL
open PySem PySem.Spec L2
section
variable {b : Bool} {i : Int} {x : Str} {ds : List D}
theorem isi_tuple_non : dIsi "tuple" .non = some (.sh (.bl false)) := by
  have h : kitB "NoneType" "tuple" = some false := by decide +kernel
  show (kitB "NoneType" "tuple").map (fun b => R.sh (.bl b)) = _
  rw [h]; rfl
theorem isi_tuple_bl : dIsi "tuple" (.bl b) = some (.sh (.bl false)) := by
  have h : kitB "bool" "tuple" = some false := by decide +kernel
  show (kitB "bool" "tuple").map (fun b => R.sh (.bl b)) = _
  rw [h]; rfl
theorem isi_tuple_int : dIsi "tuple" (.int i) = some (.sh (.bl false)) := by
  have h : kitB "int" "tuple" = some false := by decide +kernel
  show (kitB "int" "tuple").map (fun b => R.sh (.bl b)) = _
  rw [h]; rfl
theorem isi_tuple_str : dIsi "tuple" (.str x) = some (.sh (.bl false)) := by
  have h : kitB "str" "tuple" = some false := by decide +kernel
  show (kitB "str" "tuple").map (fun b => R.sh (.bl b)) = _
  rw [h]; rfl
theorem isi_tuple_lst : dIsi "tuple" (.lst ds) = some (.sh (.bl false)) := by
  have h : kitB "list" "tuple" = some false := by decide +kernel
  show (kitB "list" "tuple").map (fun b => R.sh (.bl b)) = _
  rw [h]; rfl
theorem isi_tuple_tup : dIsi "tuple" (.tup ds) = some (.sh (.bl true)) := by
  have h : kitB "tuple" "tuple" = some true := by decide +kernel
  show (kitB "tuple" "tuple").map (fun b => R.sh (.bl b)) = _
  rw [h]; rfl
theorem isi_list_non : dIsi "list" .non = some (.sh (.bl false)) := by
  have h : kitB "NoneType" "list" = some false := by decide +kernel
  show (kitB "NoneType" "list").map (fun b => R.sh (.bl b)) = _
  rw [h]; rfl
theorem isi_list_bl : dIsi "list" (.bl b) = some (.sh (.bl false)) := by
  have h : kitB "bool" "list" = some false := by decide +kernel
  show (kitB "bool" "list").map (fun b => R.sh (.bl b)) = _
  rw [h]; rfl
theorem isi_list_int : dIsi "list" (.int i) = some (.sh (.bl false)) := by
  have h : kitB "int" "list" = some false := by decide +kernel
  show (kitB "int" "list").map (fun b => R.sh (.bl b)) = _
  rw [h]; rfl
theorem isi_list_str : dIsi "list" (.str x) = some (.sh (.bl false)) := by
  have h : kitB "str" "list" = some false := by decide +kernel
  show (kitB "str" "list").map (fun b => R.sh (.bl b)) = _
  rw [h]; rfl
theorem isi_list_lst : dIsi "list" (.lst ds) = some (.sh (.bl true)) := by
  have h : kitB "list" "list" = some true := by decide +kernel
  show (kitB "list" "list").map (fun b => R.sh (.bl b)) = _
  rw [h]; rfl
theorem isi_list_tup : dIsi "list" (.tup ds) = some (.sh (.bl false)) := by
  have h : kitB "tuple" "list" = some false := by decide +kernel
  show (kitB "tuple" "list").map (fun b => R.sh (.bl b)) = _
  rw [h]; rfl
theorem isi_bool_non : dIsi "bool" .non = some (.sh (.bl false)) := by
  have h : kitB "NoneType" "bool" = some false := by decide +kernel
  show (kitB "NoneType" "bool").map (fun b => R.sh (.bl b)) = _
  rw [h]; rfl
theorem isi_bool_bl : dIsi "bool" (.bl b) = some (.sh (.bl true)) := by
  have h : kitB "bool" "bool" = some true := by decide +kernel
  show (kitB "bool" "bool").map (fun b => R.sh (.bl b)) = _
  rw [h]; rfl
theorem isi_bool_int : dIsi "bool" (.int i) = some (.sh (.bl false)) := by
  have h : kitB "int" "bool" = some false := by decide +kernel
  show (kitB "int" "bool").map (fun b => R.sh (.bl b)) = _
  rw [h]; rfl
theorem isi_bool_str : dIsi "bool" (.str x) = some (.sh (.bl false)) := by
  have h : kitB "str" "bool" = some false := by decide +kernel
  show (kitB "str" "bool").map (fun b => R.sh (.bl b)) = _
  rw [h]; rfl
theorem isi_bool_lst : dIsi "bool" (.lst ds) = some (.sh (.bl false)) := by
  have h : kitB "list" "bool" = some false := by decide +kernel
  show (kitB "list" "bool").map (fun b => R.sh (.bl b)) = _
  rw [h]; rfl
theorem isi_bool_tup : dIsi "bool" (.tup ds) = some (.sh (.bl false)) := by
  have h : kitB "tuple" "bool" = some false := by decide +kernel
  show (kitB "tuple" "bool").map (fun b => R.sh (.bl b)) = _
  rw [h]; rfl
theorem isi_int_non : dIsi "int" .non = some (.sh (.bl false)) := by
  have h : kitB "NoneType" "int" = some false := by decide +kernel
  show (kitB "NoneType" "int").map (fun b => R.sh (.bl b)) = _
  rw [h]; rfl
theorem isi_int_bl : dIsi "int" (.bl b) = some (.sh (.bl true)) := by
  have h : kitB "bool" "int" = some true := by decide +kernel
  show (kitB "bool" "int").map (fun b => R.sh (.bl b)) = _
  rw [h]; rfl
theorem isi_int_int : dIsi "int" (.int i) = some (.sh (.bl true)) := by
  have h : kitB "int" "int" = some true := by decide +kernel
  show (kitB "int" "int").map (fun b => R.sh (.bl b)) = _
  rw [h]; rfl
theorem isi_int_str : dIsi "int" (.str x) = some (.sh (.bl false)) := by
  have h : kitB "str" "int" = some false := by decide +kernel
  show (kitB "str" "int").map (fun b => R.sh (.bl b)) = _
  rw [h]; rfl
theorem isi_int_lst : dIsi "int" (.lst ds) = some (.sh (.bl false)) := by
  have h : kitB "list" "int" = some false := by decide +kernel
  show (kitB "list" "int").map (fun b => R.sh (.bl b)) = _
  rw [h]; rfl
theorem isi_int_tup : dIsi "int" (.tup ds) = some (.sh (.bl false)) := by
  have h : kitB "tuple" "int" = some false := by decide +kernel
  show (kitB "tuple" "int").map (fun b => R.sh (.bl b)) = _
  rw [h]; rfl
theorem isi_str_non : dIsi "str" .non = some (.sh (.bl false)) := by
  have h : kitB "NoneType" "str" = some false := by decide +kernel
  show (kitB "NoneType" "str").map (fun b => R.sh (.bl b)) = _
  rw [h]; rfl
theorem isi_str_bl : dIsi "str" (.bl b) = some (.sh (.bl false)) := by
  have h : kitB "bool" "str" = some false := by decide +kernel
  show (kitB "bool" "str").map (fun b => R.sh (.bl b)) = _
  rw [h]; rfl
theorem isi_str_int : dIsi "str" (.int i) = some (.sh (.bl false)) := by
  have h : kitB "int" "str" = some false := by decide +kernel
  show (kitB "int" "str").map (fun b => R.sh (.bl b)) = _
  rw [h]; rfl
theorem isi_str_str : dIsi "str" (.str x) = some (.sh (.bl true)) := by
  have h : kitB "str" "str" = some true := by decide +kernel
  show (kitB "str" "str").map (fun b => R.sh (.bl b)) = _
  rw [h]; rfl
theorem isi_str_lst : dIsi "str" (.lst ds) = some (.sh (.bl false)) := by
  have h : kitB "list" "str" = some false := by decide +kernel
  show (kitB "list" "str").map (fun b => R.sh (.bl b)) = _
  rw [h]; rfl
theorem isi_str_tup : dIsi "str" (.tup ds) = some (.sh (.bl false)) := by
  have h : kitB "tuple" "str" = some false := by decide +kernel
  show (kitB "tuple" "str").map (fun b => R.sh (.bl b)) = _
  rw [h]; rfl
theorem is_non : dIs .non .non = some (.sh (.bl true)) := rfl
theorem is_int : dIs (.int i) .non = some (.sh (.bl false)) := rfl
theorem is_lst : dIs (.lst ds) .non = some (.sh (.bl false)) := rfl
theorem is_tup : dIs (.tup ds) .non = some (.sh (.bl false)) := rfl
theorem is_exn {c : Nat} {ns : List Str} : dIs (.exn c ns ds) .non = some (.sh (.bl false)) := rfl
theorem isn_non : dIsn .non .non = some (.sh (.bl false)) := rfl
theorem isn_int : dIsn (.int i) .non = some (.sh (.bl true)) := rfl
theorem isn_lst : dIsn (.lst ds) .non = some (.sh (.bl true)) := rfl
theorem isn_tup : dIsn (.tup ds) .non = some (.sh (.bl true)) := rfl
theorem isn_exn {c : Nat} {ns : List Str} : dIsn (.exn c ns ds) .non = some (.sh (.bl true)) := rfl
theorem bq_tt : (true == true) = true := rfl
theorem bq_tf : (true == false) = false := rfl
theorem bq_ft : (false == true) = false := rfl
theorem bq_ff : (false == false) = true := rfl
end
/-! the fields of an Order -/
def nm1 : List Str := ["count"]
def nm2 : List Str := ["count", "above"]
def nm6 : List Str := ["count", "above", "under", "joins", "meets", "pairs"]
section
variable {a b c d e f : D}
theorem fld3_count : fldD nm3 [a, b, c] "count" = some a := rfl
theorem fld3_above : fldD nm3 [a, b, c] "above" = some b := rfl
theorem fld3_under : fldD nm3 [a, b, c] "under" = some c := rfl
theorem fld2_above : fldD nm2 [a, b] "above" = some b := rfl
theorem fld5_count : fldD nm5 [a, b, c, d, e] "count" = some a := rfl
theorem fld5_above : fldD nm5 [a, b, c, d, e] "above" = some b := rfl
theorem fld5_under : fldD nm5 [a, b, c, d, e] "under" = some c := rfl
theorem fld5_joins : fldD nm5 [a, b, c, d, e] "joins" = some d := rfl
theorem fld5_meets : fldD nm5 [a, b, c, d, e] "meets" = some e := rfl
theorem fld6_count : fldD nm6 [a, b, c, d, e, f] "count" = some a := rfl
theorem fld6_above : fldD nm6 [a, b, c, d, e, f] "above" = some b := rfl
theorem fld6_under : fldD nm6 [a, b, c, d, e, f] "under" = some c := rfl
theorem fld6_joins : fldD nm6 [a, b, c, d, e, f] "joins" = some d := rfl
theorem fld6_meets : fldD nm6 [a, b, c, d, e, f] "meets" = some e := rfl
theorem fld6_pairs : fldD nm6 [a, b, c, d, e, f] "pairs" = some f := rfl
theorem put0 : putN [] "count" = nm1 := rfl
theorem putv0 : putV [] [] "count" a = [a] := rfl
theorem put1 : putN nm1 "above" = nm2 := by decide +kernel
theorem putv1 : putV nm1 [a] "above" b = [a, b] := rfl
theorem put2 : putN nm2 "under" = nm3 := by decide +kernel
theorem putv2 : putV nm2 [a, b] "under" c = [a, b, c] := rfl
theorem put5 : putN nm5 "pairs" = nm6 := by decide +kernel
theorem putv5 : putV nm5 [a, b, c, d, e] "pairs" f = [a, b, c, d, e, f] := rfl
end
theorem no6_look_two : ¬ (("look_two" : Str) ∈ nm6) := by decide +kernel
theorem no6_at_most : ¬ (("at_most" : Str) ∈ nm6) := by decide +kernel
theorem no6_join : ¬ (("join" : Str) ∈ nm6) := by decide +kernel
theorem no6_meet : ¬ (("meet" : Str) ∈ nm6) := by decide +kernel
theorem no6_lowest : ¬ (("lowest" : Str) ∈ nm6) := by decide +kernel
theorem no6_highest : ¬ (("highest" : Str) ∈ nm6) := by decide +kernel
theorem no3_look_order : ¬ (("look_order" : Str) ∈ nm3) := by decide +kernel
end DL

/-! Ek4: the rows of the reckoning together. -/
namespace DL
open PySem PySem.Spec L2
def evB := And.intro @wp_nil (And.intro @wp_cons (And.intro @wp_rt (And.intro @wp_bk (And.intro @wp_ct (And.intro @wp_ex (And.intro @wp_seq (And.intro @wp_nx (And.intro @wp_fz (And.intro @ev_var (And.intro @getV_sh (And.intro @getV_ow (And.intro @getV_oK (And.intro @getV_oT (And.intro @getV_oI (And.intro @getV_oP (And.intro @ev_bin (And.intro @bind2_ok (And.intro @ev_map (And.intro @bind1_ok (And.intro @d_sh (And.intro @d_fr (And.intro @d_bo (And.intro @ld_sh (And.intro @ld_ow (And.intro @ld_oK (And.intro @ld_oT (And.intro @ld_oI (And.intro @ld_oP (And.intro @o_of (And.intro @o_bind (And.intro @o_map (And.intro @fz_sh (And.intro @fz_fr (And.intro @o_bool (And.intro @ev_fB (And.intro @ev_not (And.intro @ev_eNot (And.intro @ev_and (And.intro @ev_or (And.intro @ev_eAnd (And.intro @ev_eOr (And.intro @andB_ok (And.intro @orB_ok (And.intro @andE_ok (And.intro @orE_ok (And.intro @cond_and (And.intro @cond_or (And.intro @cond_andE (And.intro @cond_orE (And.intro @ev_chain (And.intro @chainB_ok (And.intro @ev_aNil (And.intro @ev_aCons (And.intro @consO_ok (And.intro @ev_vCons (And.intro @ev_tup (And.intro @tupB_ok (And.intro @ev_lst (And.intro @lstB_ok (And.intro @ev_part (And.intro @ev_sl (And.intro @ev_call (And.intro @ev_blt (And.intro @ev_fld (And.intro @fldB_ok (And.intro @fldC_ins (And.intro @ev_meth (And.intro @methB_ins (And.intro @ev_it (And.intro @ev_seq (And.intro @ev_yes (And.intro @st_set (And.intro @setR_sh (And.intro @setR_fr (And.intro @st_setF (And.intro @setD_ok (And.intro @st_ret (And.intro @retR_sh (And.intro @retR_fr (And.intro @st_retv (And.intro @retV_sh (And.intro @retV_ow (And.intro @retV_oK (And.intro @retV_oT (And.intro @st_if (And.intro @ifB_t (And.intro @ifB_f (And.intro @st_for (And.intro @forB_ok (And.intro @st_drop (And.intro @dropB_ok (And.intro @st_mut (And.intro @st_aug (And.intro @augB_ok (And.intro @st_par (And.intro @parB_ok (And.intro @st_putL (And.intro @st_extend (And.intro @ev_gN (And.intro @gS_tup (And.intro @gS_lst (And.intro @gCons_c (And.intro @gNil_n (And.intro @nI_def (And.intro @tI_def (And.intro @items_lst (And.intro @items_lkd (And.intro @items_tup (And.intro @pt_nx (And.intro @pt_rt (And.intro @pt_bk (And.intro @pt_ct (And.intro @pt_ex (And.intro @tp_nx (And.intro @tp_ct (And.intro @tp_bk (And.intro @tp_rt (And.intro @tp_ex (And.intro @len_map (And.intro @len_lst (And.intro @len_lkd (And.intro @len_tup (And.intro @sl_lst (And.intro @sl_lkd (And.intro @ec_str (And.intro @ec_bl (And.intro @ec_non (And.intro @int_bl (And.intro @st_asg (And.intro @asgB_eq (And.intro @asgO_some (And.intro @all_bls (And.intro @bzip_lst (And.intro @ev_callBB (And.intro @ev_order (And.intro @mutB_app' (And.intro @st_clear (And.intro @tup_lst (And.intro @add_lstS (And.intro @list_lst (And.intro @eq_bl (And.intro @ne_bl (And.intro @fld2_above (And.intro @fld3_count (And.intro @fld3_above (And.intro @fld3_under (And.intro @fld5_count (And.intro @fld5_above (And.intro @fld5_under (And.intro @fld5_joins (And.intro @fld5_meets (And.intro @fld6_count (And.intro @fld6_above (And.intro @fld6_under (And.intro @fld6_joins (And.intro @fld6_meets (And.intro @fld6_pairs (And.intro @is_non (And.intro @is_int (And.intro @is_lst (And.intro @is_tup (And.intro @is_exn (And.intro @isn_non (And.intro @isn_int (And.intro @isn_lst (And.intro @isn_tup (And.intro @isn_exn (And.intro @bq_tt (And.intro @bq_tf (And.intro @bq_ft (And.intro @bq_ff (And.intro @isi_tuple_non (And.intro @isi_tuple_bl (And.intro @isi_tuple_int (And.intro @isi_tuple_str (And.intro @isi_tuple_lst (And.intro @isi_tuple_tup (And.intro @isi_list_non (And.intro @isi_list_bl (And.intro @isi_list_int (And.intro @isi_list_str (And.intro @isi_list_lst (And.intro @isi_list_tup (And.intro @isi_bool_non (And.intro @isi_bool_bl (And.intro @isi_bool_int (And.intro @isi_bool_str (And.intro @isi_bool_lst (And.intro @isi_bool_tup (And.intro @isi_int_non (And.intro @isi_int_bl (And.intro @isi_int_int (And.intro @isi_int_str (And.intro @isi_int_lst (And.intro @isi_int_tup (And.intro @isi_str_non (And.intro @isi_str_bl (And.intro @isi_str_int (And.intro @isi_str_str (And.intro @isi_str_lst (@isi_str_tup)))))))))))))))))))))))))))))))))))))))))))))))))))))))))))))))))))))))))))))))))))))))))))))))))))))))))))))))))))))))))))))))))))))))))))))))))))))))))))))))))))))))))))))))))))))))))))))))))))))))))
def evN := And.intro @ec_lit (And.intro @add_nat (And.intro @mod_nat (And.intro @div_nat (And.intro @mul_nat (And.intro @sub_nat (And.intro @pow_nat (And.intro @lt_nat (And.intro @gt_nat (And.intro @le_nat (And.intro @ge_nat (And.intro @eq_nat (And.intro @ne_nat (And.intro @neg1_nat (And.intro @band_nat (And.intro @bor_nat (And.intro @shr_nat (And.intro @shl1_nat (And.intro @ixN_lst (And.intro @ixN_tup (And.intro @in_nI (And.intro @nin_nI (And.intro @in_tI (And.intro @nin_tI (And.intro @mul_1 (And.intro @mul_0 (And.intro @cut_both (And.intro @cut_toN (And.intro @cut_fromN (@in_tup2)))))))))))))))))))))))))))))
def evI := And.intro @ev_c (And.intro @mod_int (And.intro @div_int (And.intro @mul_intL (And.intro @mul_intR (And.intro @pow_int (And.intro @add_int (And.intro @sub_int (And.intro @lt_int (And.intro @gt_int (And.intro @le_int (And.intro @ge_int (And.intro @neg_int (And.intro @eq_int (@ne_int))))))))))))))
end DL

/-! FP: plain functions, printed by reg.py -/
namespace Ev
open PySem PySem.Spec L2 DL
def f_look_thing : Ev → SO := (sIf (fOr (fB (fBin dLt (eVar 1) (eC (.int 0)))) (fB (fBin dGe (eVar 1) (eVar 0)))) (fun _ => .no) sNx)
def F_look_thing : List D → O R := fnD 2 2 f_look_thing
def f_carried_on : Ev → SO := (sSeq (sSet 2 (eComp [6] (fIt (vCons (eVar 0) aNil) rng1) (gN 6) fYes (fBin dShl (eC (.int 1)) (eVar 6))))
    (sSeq (sFor (iSeqF (eVar 1)) (gS 2 (gCons (gN 3) (gCons (gN 4) gNil))) (sPutL 2 (eVar 3) (fBin dOr (fBin dIx (eVar 2) (eVar 3)) (fBin dShl (eC (.int 1)) (eVar 4)))))
    (sSeq (sFor (fIt (vCons (eVar 0) aNil) rng1) (gN 5) (sFor (fIt (vCons (eVar 0) aNil) rng1) (gN 6) (sIf (fB (fBin dEq (fBin dAnd (fBin dShr (fBin dIx (eVar 2) (eVar 6)) (eVar 5)) (eC (.int 1))) (eC (.int 1)))) (sPutL 2 (eVar 6) (fBin dOr (fBin dIx (eVar 2) (eVar 6)) (fBin dIx (eVar 2) (eVar 5)))) sNx)))
    (sRetv 2))))
def F_carried_on : List D → O R := fnD 7 2 f_carried_on
def f_turned_bits : Ev → SO := (sSeq (sSet 2 (eComp [3] (fIt (vCons (eVar 0) aNil) rng1) (gN 3) fYes (eC (.int 0))))
    (sSeq (sFor (fIt (vCons (eVar 0) aNil) rng1) (gN 3) (sFor (fIt (vCons (eVar 0) aNil) rng1) (gN 4) (sIf (fB (fBin dEq (fBin dAnd (fBin dShr (fBin dIx (eVar 1) (eVar 4)) (eVar 3)) (eC (.int 1))) (eC (.int 1)))) (sPutL 2 (eVar 3) (fBin dOr (fBin dIx (eVar 2) (eVar 3)) (fBin dShl (eC (.int 1)) (eVar 4)))) sNx)))
    (sRetv 2)))
def F_turned_bits : List D → O R := fnD 5 2 f_turned_bits
def f_order_look_order : Ev → SO := (sFor (fIt (vCons (eFld 0 "count" (eVar 0)) aNil) rng1) (gN 1) (sFor (fIt (vCons (fBin dAdd (eVar 1) (eC (.int 1))) (vCons (eFld 0 "count" (eVar 0)) aNil)) rng2) (gN 2) (sIf (fAnd (fB (fBin dEq (fBin dAnd (fBin dShr (fBin dIx (eFld 0 "above" (eVar 0)) (eVar 1)) (eVar 2)) (eC (.int 1))) (eC (.int 1)))) (fB (fBin dEq (fBin dAnd (fBin dShr (fBin dIx (eFld 0 "above" (eVar 0)) (eVar 2)) (eVar 1)) (eC (.int 1))) (eC (.int 1))))) (fun _ => .no) sNx)))
def F_order_look_order : List D → O R := fnD 3 1 f_order_look_order
def f_least_of : Ev → SO := (sSeq (sFor (fIt (vCons (eVar 0) aNil) rng1) (gN 3) (sIf (fAnd (fB (fBin dEq (fBin dAnd (fBin dShr (eVar 1) (eVar 3)) (eC (.int 1))) (eC (.int 1)))) (fB (fBin dEq (fBin dAnd (fBin dIx (eVar 2) (eVar 3)) (eVar 1)) (eVar 1)))) (sRetv 3) sNx))
    (sRet (eC .non)))
def F_least_of : List D → O R := fnD 4 3 f_least_of
def f_order_look_joins : Ev → SO := (sFor (fIt (vCons (eFld 0 "count" (eVar 0)) aNil) rng1) (gN 1) (sFor (fIt (vCons (eVar 1) (vCons (eFld 0 "count" (eVar 0)) aNil)) rng2) (gN 2) (sSeq (sSetF 3 (fCall F_least_of (aCons (eFld 0 "count" (eVar 0)) (aCons (fBin dAnd (fBin dIx (eFld 0 "above" (eVar 0)) (eVar 1)) (fBin dIx (eFld 0 "above" (eVar 0)) (eVar 2))) (aCons (eFld 0 "above" (eVar 0)) aNil)))))
    (sSeq (sSetF 4 (fCall F_least_of (aCons (eFld 0 "count" (eVar 0)) (aCons (fBin dAnd (fBin dIx (eFld 0 "under" (eVar 0)) (eVar 1)) (fBin dIx (eFld 0 "under" (eVar 0)) (eVar 2))) (aCons (eFld 0 "under" (eVar 0)) aNil)))))
    (sSeq (sIf (fOr (fB (fBin dIs (eVar 3) (eC .non))) (fB (fBin dIs (eVar 4) (eC .non)))) (fun _ => .no) sNx)
    (sFor (iSeqF (eTup (aCons (eTup (aCons (eVar 1) (aCons (eVar 2) aNil))) (aCons (eTup (aCons (eVar 2) (aCons (eVar 1) aNil))) aNil)))) (gN 5) (sSeq (sPutP 6 (eFld 0 "joins" (eVar 0)) (eVar 5) (eVar 3))
    (sPutP 7 (eFld 0 "meets" (eVar 0)) (eVar 5) (eVar 4)))))))))
def F_order_look_joins : Int → List Int → List Int → O (List (List Key) × List Int × List (List Key) × List Int) := ljOut 6 f_order_look_joins
def f_order___init__ : Ev → SO := (sSeq (sIf (fOr (fB (fBin dLt (eVar 1) (eC (.int 1)))) (fB (fBin dGt (eVar 1) (eC (.int 24))))) (fun _ => .no) sNx)
    (sSeq (sFor (iSeqF (eVar 2)) (gN 3) (sFor (iSeqF (eVar 3)) (gN 4) (sDrop (fCall F_look_thing (aCons (eVar 1) (aCons (eVar 4) aNil))))))
    (sSeq (sFld 0 0 "count" (eVar 1))
    (sSeq (sFld 0 0 "above" (fCall F_carried_on (aCons (eVar 1) (aCons (eVar 2) aNil))))
    (sSeq (sFld 0 0 "under" (fCall F_turned_bits (aCons (eVar 1) (aCons (eFld 0 "above" (eVar 0)) aNil))))
    (sSeq (sDrop (fMethB0 0 "look_order" F_order_look_order (eVar 0)))
    (sSeq (sJoins F_order_look_joins)
    (sSeq (sSet 5 (eLst aNil))
    (sSeq (sFor (fIt (vCons (eVar 1) aNil) rng1) (gN 6) (sExtend 5 (eComp [7] (fIt (vCons (eVar 1) aNil) rng1) (gN 7) (fAnd (fB (fBin dNe (eVar 6) (eVar 7))) (fB (fBin dEq (fBin dAnd (fBin dShr (fBin dIx (eFld 0 "above" (eVar 0)) (eVar 6)) (eVar 7)) (eC (.int 1))) (eC (.int 1))))) (eTup (aCons (eVar 6) (aCons (eVar 7) aNil))))))
    (sFz 5 (sFld 0 0 "pairs" (fBlt (bOne dTuple) (vCons (eVar 5) aNil)))))))))))))
def F_order___init__ : List D → O (List Str × List D) := initD 0 8 2 f_order___init__
def f__wall : Ev → SO := (whileL (fB (eC (.bl true))) sNx 1000000000000)
def F__wall : List D → O R := fnD 1 1 f__wall
def f_order_lowest : Ev → SO := (sRet (fBin dIx (eComp [1] (fIt (vCons (eFld 0 "count" (eVar 0)) aNil) rng1) (gN 1) (fB (fBin dEq (fBin dIx (eFld 0 "under" (eVar 0)) (eVar 1)) (fBin dShl (eC (.int 1)) (eVar 1)))) (eVar 1)) (eC (.int 0))))
def F_order_lowest : List D → O R := fnD 2 1 f_order_lowest
def f_order_highest : Ev → SO := (sRet (fBin dIx (eComp [1] (fIt (vCons (eFld 0 "count" (eVar 0)) aNil) rng1) (gN 1) (fB (fBin dEq (fBin dIx (eFld 0 "above" (eVar 0)) (eVar 1)) (fBin dShl (eC (.int 1)) (eVar 1)))) (eVar 1)) (eC (.int 0))))
def F_order_highest : List D → O R := fnD 2 1 f_order_highest
def f_order_look_two : Ev → SO := (sSeq (sDrop (fCall F_look_thing (aCons (eFld 0 "count" (eVar 0)) (aCons (eVar 1) aNil))))
    (sDrop (fCall F_look_thing (aCons (eFld 0 "count" (eVar 0)) (aCons (eVar 2) aNil)))))
def F_order_look_two : List D → O R := fnD 3 3 f_order_look_two
def f_order_join : Ev → SO := (sSeq (sDrop (fMeth 0 "look_two" F_order_look_two (eVar 0) (aCons (eVar 1) (aCons (eVar 2) aNil))))
    (sRet (fBin dIx (eFld 0 "joins" (eVar 0)) (eTup (aCons (eVar 1) (aCons (eVar 2) aNil))))))
def F_order_join : List D → O R := fnD 3 3 f_order_join
def f_order_meet : Ev → SO := (sSeq (sDrop (fMeth 0 "look_two" F_order_look_two (eVar 0) (aCons (eVar 1) (aCons (eVar 2) aNil))))
    (sRet (fBin dIx (eFld 0 "meets" (eVar 0)) (eTup (aCons (eVar 1) (aCons (eVar 2) aNil))))))
def F_order_meet : List D → O R := fnD 3 3 f_order_meet
def f_order_at_most : Ev → SO := (sSeq (sDrop (fMeth 0 "look_two" F_order_look_two (eVar 0) (aCons (eVar 1) (aCons (eVar 2) aNil))))
    (sRet (fBin dEq (fBin dAnd (fBin dShr (fBin dIx (eFld 0 "above" (eVar 0)) (eVar 1)) (eVar 2)) (eC (.int 1))) (eC (.int 1)))))
def F_order_at_most : List D → O R := fnD 3 3 f_order_at_most
def f_are_step : Ev → SO := (sRet (eAnd (fBin dNe (eVar 1) (eVar 2)) (fBin dEq (fBin dAnd (fBin dIx (eFld 0 "above" (eVar 0)) (eVar 1)) (fBin dIx (eFld 0 "under" (eVar 0)) (eVar 2))) (fBin dOr (fBin dShl (eC (.int 1)) (eVar 1)) (fBin dShl (eC (.int 1)) (eVar 2))))))
def F_are_step : List D → O R := fnD 3 3 f_are_step
def f_steps : Ev → SO := (sSeq (sSet 1 (eLst aNil))
    (sSeq (sFor (fIt (vCons (eFld 0 "count" (eVar 0)) aNil) rng1) (gN 2) (sExtend 1 (eComp [3] (fIt (vCons (eFld 0 "count" (eVar 0)) aNil) rng1) (gN 3) (fB (fCall F_are_step (aCons (eVar 0) (aCons (eVar 2) (aCons (eVar 3) aNil))))) (eTup (aCons (eVar 2) (aCons (eVar 3) aNil))))))
    (sRetv 1)))
def F_steps : List D → O R := fnD 4 1 f_steps
def f_are_things : Ev → SO := (sRet (fBlt (bOne dAll) (vCons (eComp [2] (iSeqF (eVar 1)) (gN 2) fYes (fChain dLe dLt (eC (.int 0)) (eVar 2) (eFld 0 "count" (eVar 0)))) aNil)))
def F_are_things : List D → O R := fnD 3 2 f_are_things
def f_is_chain : Ev → SO := (sSeq (sIf (fOr (fB (fBin dEq (fBlt (bOne dLen) (vCons (eVar 1) aNil)) (eC (.int 0)))) (fNot (fB (fCall F_are_things (aCons (eVar 0) (aCons (eVar 1) aNil)))))) (sRet (eC (.bl false))) sNx)
    (sRet (fBlt (bOne dAll) (vCons (eComp [2, 3] (fIt (aCons (eVar 1) (aCons (fSl (eVar 1) (fPart (eC (.int 1))) (fun _ => .ok none)) aNil)) bZip) (gS 2 (gCons (gN 2) (gCons (gN 3) gNil))) fYes (eAnd (fBin dNe (eVar 2) (eVar 3)) (fMeth 0 "at_most" F_order_at_most (eVar 0) (aCons (eVar 2) (aCons (eVar 3) aNil))))) aNil))))
def F_is_chain : List D → O R := fnD 4 2 f_is_chain
def f_is_climb : Ev → SO := (sSeq (sIf (fOr (fB (fBin dEq (fBlt (bOne dLen) (vCons (eVar 1) aNil)) (eC (.int 0)))) (fNot (fB (fCall F_are_things (aCons (eVar 0) (aCons (eVar 1) aNil)))))) (sRet (eC (.bl false))) sNx)
    (sRet (fBlt (bOne dAll) (vCons (eComp [2, 3] (fIt (aCons (eVar 1) (aCons (fSl (eVar 1) (fPart (eC (.int 1))) (fun _ => .ok none)) aNil)) bZip) (gS 2 (gCons (gN 2) (gCons (gN 3) gNil))) fYes (fCall F_are_step (aCons (eVar 0) (aCons (eVar 2) (aCons (eVar 3) aNil))))) aNil))))
def F_is_climb : List D → O R := fnD 4 2 f_is_climb
def f_look_climb : Ev → SO := (sIf (fNot (fB (fCall F_is_climb (aCons (eVar 0) (aCons (eVar 1) aNil))))) (fun _ => .no) sNx)
def F_look_climb : List D → O R := fnD 2 2 f_look_climb
def f_uneven : Ev → SO := (sSeq (sFor (fIt (vCons (eFld 0 "count" (eVar 0)) aNil) rng1) (gN 1) (sFor (fIt (vCons (eFld 0 "count" (eVar 0)) aNil) rng1) (gN 2) (sFor (fIt (vCons (eFld 0 "count" (eVar 0)) aNil) rng1) (gN 3) (sSeq (sSetF 4 (fMeth 0 "join" F_order_join (eVar 0) (aCons (eVar 1) (aCons (fMeth 0 "meet" F_order_meet (eVar 0) (aCons (eVar 2) (aCons (eVar 3) aNil))) aNil))))
    (sIf (fAnd (fB (fMeth 0 "at_most" F_order_at_most (eVar 0) (aCons (eVar 1) (aCons (eVar 3) aNil)))) (fB (fBin dNe (eVar 4) (fMeth 0 "meet" F_order_meet (eVar 0) (aCons (fMeth 0 "join" F_order_join (eVar 0) (aCons (eVar 1) (aCons (eVar 2) aNil))) (aCons (eVar 3) aNil)))))) (sRet (eTup (aCons (eVar 1) (aCons (eVar 2) (aCons (eVar 3) aNil))))) sNx)))))
    (sRet (eC .non)))
def F_uneven : List D → O R := fnD 5 1 f_uneven
def f_is_five : Ev → SO := (sSeq (sIf (fOr (fB (fBin dNe (fBlt (bOne dLen) (vCons (eVar 1) aNil)) (eC (.int 5)))) (fNot (fB (fBlt (bOne dAll) (vCons (eComp [9] (iSeqF (eVar 1)) (gN 9) fYes (fChain dLe dLt (eC (.int 0)) (eVar 9) (eFld 0 "count" (eVar 0)))) aNil))))) (sRet (eC (.bl false))) sNx)
    (sSeq (sAsg (gS 5 (gCons (gN 2) (gCons (gN 3) (gCons (gN 4) (gCons (gN 5) (gCons (gN 6) gNil)))))) (eVar 1))
    (sSeq (sIf (fOr (fB (fBin dEq (eVar 3) (eVar 5))) (fOr (fNot (fB (fMeth 0 "at_most" F_order_at_most (eVar 0) (aCons (eVar 3) (aCons (eVar 5) aNil))))) (fOr (fB (fMeth 0 "at_most" F_order_at_most (eVar 0) (aCons (eVar 4) (aCons (eVar 5) aNil)))) (fB (fMeth 0 "at_most" F_order_at_most (eVar 0) (aCons (eVar 3) (aCons (eVar 4) aNil))))))) (sRet (eC (.bl false))) sNx)
    (sSeq (sSetF 7 (eLst (aCons (fMeth 0 "join" F_order_join (eVar 0) (aCons (eVar 3) (aCons (eVar 4) aNil))) (aCons (fMeth 0 "join" F_order_join (eVar 0) (aCons (eVar 5) (aCons (eVar 4) aNil))) aNil))))
    (sSeq (sSetF 8 (eLst (aCons (fMeth 0 "meet" F_order_meet (eVar 0) (aCons (eVar 3) (aCons (eVar 4) aNil))) (aCons (fMeth 0 "meet" F_order_meet (eVar 0) (aCons (eVar 5) (aCons (eVar 4) aNil))) aNil))))
    (sRet (eAnd (fBin dEq (eVar 7) (eLst (aCons (eVar 6) (aCons (eVar 6) aNil)))) (fBin dEq (eVar 8) (eLst (aCons (eVar 2) (aCons (eVar 2) aNil)))))))))))
def F_is_five : List D → O R := fnD 10 2 f_is_five
def f_heights_of : Ev → SO := (sSeq (sSet 1 (eComp [5] (fIt (vCons (eFld 0 "count" (eVar 0)) aNil) rng1) (gN 5) fYes (eC (.int 0))))
    (sSeq (sFor (fIt (vCons (eFld 0 "count" (eVar 0)) aNil) rng1) (gN 2) (sFor (iSeqF (eFld 0 "pairs" (eVar 0))) (gS 2 (gCons (gN 3) (gCons (gN 4) gNil))) (sPutL 1 (eVar 4) (fBlt (bMax) (vCons (fBin dIx (eVar 1) (eVar 4)) (vCons (fBin dAdd (fBin dIx (eVar 1) (eVar 3)) (eC (.int 1))) aNil))))))
    (sRetv 1)))
def F_heights_of : List D → O R := fnD 6 1 f_heights_of
def f_evenness : Ev → SO := (sSeq (sSetF 1 (fCall F_uneven (aCons (eVar 0) aNil)))
    (sSeq (sIf (fB (fBin dIs (eVar 1) (eC .non))) (sRet (eTup (aCons (eC (.bl true)) (aCons (fCall F_heights_of (aCons (eVar 0) aNil)) aNil)))) sNx)
    (sSeq (sAsg (gS 3 (gCons (gN 2) (gCons (gN 3) (gCons (gN 4) gNil)))) (eVar 1))
    (sSeq (sSetF 5 (fMeth 0 "join" F_order_join (eVar 0) (aCons (eVar 2) (aCons (fMeth 0 "meet" F_order_meet (eVar 0) (aCons (eVar 3) (aCons (eVar 4) aNil))) aNil))))
    (sSeq (sSetF 6 (fMeth 0 "meet" F_order_meet (eVar 0) (aCons (fMeth 0 "join" F_order_join (eVar 0) (aCons (eVar 2) (aCons (eVar 3) aNil))) (aCons (eVar 4) aNil))))
    (sRet (eTup (aCons (eC (.bl false)) (aCons (eTup (aCons (fMeth 0 "meet" F_order_meet (eVar 0) (aCons (eVar 3) (aCons (eVar 4) aNil))) (aCons (eVar 5) (aCons (eVar 3) (aCons (eVar 6) (aCons (fMeth 0 "join" F_order_join (eVar 0) (aCons (eVar 2) (aCons (eVar 3) aNil))) aNil)))))) aNil)))))))))
def F_evenness : List D → O R := fnD 7 1 f_evenness
def f_exchanges : Ev → SO := (sSeq (sDrop (fCall F_look_climb (aCons (eVar 0) (aCons (eVar 1) aNil))))
    (sSeq (sSet 2 (eLst aNil))
    (sSeq (sFor (fIt (vCons (eC (.int 1)) (vCons (fBin dSub (fBlt (bOne dLen) (vCons (eVar 1) aNil)) (eC (.int 1))) aNil)) rng2) (gN 3) (sFor (fIt (vCons (eFld 0 "count" (eVar 0)) aNil) rng1) (gN 4) (sSeq (sSetF 5 (eAnd (fCall F_are_step (aCons (eVar 0) (aCons (fBin dIx (eVar 1) (fBin dSub (eVar 3) (eC (.int 1)))) (aCons (eVar 4) aNil)))) (fCall F_are_step (aCons (eVar 0) (aCons (eVar 4) (aCons (fBin dIx (eVar 1) (fBin dAdd (eVar 3) (eC (.int 1)))) aNil))))))
    (sIf (fAnd (fB (eVar 5)) (fB (fBin dNe (eVar 4) (fBin dIx (eVar 1) (eVar 3))))) (sMut 2 hAppend (aCons (eTup (aCons (eVar 3) (aCons (eVar 4) aNil))) aNil)) sNx))))
    (sRetv 2))))
def F_exchanges : List D → O R := fnD 6 2 f_exchanges
def f_with_exchange : Ev → SO := (sRet (fBin dAdd (fBin dAdd (fSl (eVar 0) (fun _ => .ok none) (fPart (fBin dIx (eVar 1) (eC (.int 0))))) (eLst (aCons (fBin dIx (eVar 1) (eC (.int 1))) aNil))) (fSl (eVar 0) (fPart (fBin dAdd (fBin dIx (eVar 1) (eC (.int 0))) (eC (.int 1)))) (fun _ => .ok none))))
def F_with_exchange : List D → O R := fnD 2 2 f_with_exchange
def f_exchanged : Ev → SO := (sSeq (sIf (fB (fBin dNin (eVar 2) (fCall F_exchanges (aCons (eVar 0) (aCons (eVar 1) aNil))))) (fun _ => .no) sNx)
    (sRet (fCall F_with_exchange (aCons (fBlt (bOne dList) (vCons (eVar 1) aNil)) (aCons (eVar 2) aNil)))))
def F_exchanged : List D → O R := fnD 3 3 f_exchanged
def f_look_two : Ev → SO := (sSeq (sDrop (fCall F_look_climb (aCons (eVar 0) (aCons (eVar 1) aNil))))
    (sSeq (sDrop (fCall F_look_climb (aCons (eVar 0) (aCons (eVar 2) aNil))))
    (sIf (fOr (fB (fBin dNe (fBin dIx (eVar 1) (eC (.int 0))) (fBin dIx (eVar 2) (eC (.int 0))))) (fB (fBin dNe (fBin dIx (eVar 1) (fMap dNeg (eC (.int 1)))) (fBin dIx (eVar 2) (fMap dNeg (eC (.int 1))))))) (fun _ => .no) sNx)))
def F_look_two : List D → O R := fnD 3 3 f_look_two
def f_look_part : Ev → SO := (sSeq (sAsg (gS 2 (gCons (gN 2) (gCons (gN 3) gNil))) (eVar 1))
    (sSeq (sSetF 4 (eAnd (fChain dLe dLt (eC (.int 0)) (eVar 2) (eFld 0 "count" (eVar 0))) (fChain dLe dLt (eC (.int 0)) (eVar 3) (eFld 0 "count" (eVar 0)))))
    (sIf (fOr (fNot (fB (eVar 4))) (fOr (fB (fBin dEq (eVar 2) (eVar 3))) (fNot (fB (fMeth 0 "at_most" F_order_at_most (eVar 0) (aCons (eVar 2) (aCons (eVar 3) aNil))))))) (fun _ => .no) sNx)))
def F_look_part : List D → O R := fnD 5 2 f_look_part
def f_is_up : Ev → SO := (sSeq (sAsg (gS 2 (gCons (gN 3) (gCons (gN 4) gNil))) (eVar 1))
    (sSeq (sAsg (gS 2 (gCons (gN 5) (gCons (gN 6) gNil))) (eVar 2))
    (sRet (eAnd (fBin dEq (fMeth 0 "join" F_order_join (eVar 0) (aCons (eVar 4) (aCons (eVar 5) aNil))) (eVar 6)) (fBin dEq (fMeth 0 "meet" F_order_meet (eVar 0) (aCons (eVar 4) (aCons (eVar 5) aNil))) (eVar 3))))))
def F_is_up : List D → O R := fnD 7 3 f_is_up
def f_look_even : Ev → SO := (sSeq (sAsg (gS 2 (gCons (gN 1) (gCons (gN 2) gNil))) (fCall F_evenness (aCons (eVar 0) aNil)))
    (sIf (fNot (fB (eVar 1))) (fun _ => .no) sNx))
def F_look_even : List D → O R := fnD 3 1 f_look_even
def f_look_chains : Ev → SO := (sSeq (sIf (fOr (fNot (fB (fCall F_is_chain (aCons (eVar 0) (aCons (eVar 1) aNil))))) (fNot (fB (fCall F_is_chain (aCons (eVar 0) (aCons (eVar 2) aNil)))))) (fun _ => .no) sNx)
    (sIf (fOr (fB (fBin dNe (fBin dIx (eVar 1) (eC (.int 0))) (fBin dIx (eVar 2) (eC (.int 0))))) (fB (fBin dNe (fBin dIx (eVar 1) (fMap dNeg (eC (.int 1)))) (fBin dIx (eVar 2) (fMap dNeg (eC (.int 1))))))) (fun _ => .no) sNx))
def F_look_chains : List D → O R := fnD 3 3 f_look_chains
def f_thing_at : Ev → SO := (sRet (fMeth 0 "join" F_order_join (eVar 0) (aCons (fBin dIx (eVar 1) (fBin dSub (eVar 3) (eC (.int 1)))) (aCons (fMeth 0 "meet" F_order_meet (eVar 0) (aCons (fBin dIx (eVar 1) (eVar 3)) (aCons (fBin dIx (eVar 2) (eVar 4)) aNil))) aNil))))
def F_thing_at : List D → O R := fnD 5 5 f_thing_at
def f_middle : Ev → SO := (sSeq (sSetF 5 (fMeth 0 "join" F_order_join (eVar 0) (aCons (fMeth 0 "meet" F_order_meet (eVar 0) (aCons (fBin dIx (eVar 1) (eVar 3)) (aCons (fBin dIx (eVar 2) (fBin dSub (eVar 4) (eC (.int 1)))) aNil))) (aCons (fMeth 0 "meet" F_order_meet (eVar 0) (aCons (fBin dIx (eVar 1) (fBin dSub (eVar 3) (eC (.int 1)))) (aCons (fBin dIx (eVar 2) (eVar 4)) aNil))) aNil))))
    (sRet (eTup (aCons (eVar 5) (aCons (fMeth 0 "meet" F_order_meet (eVar 0) (aCons (fBin dIx (eVar 1) (eVar 3)) (aCons (fBin dIx (eVar 2) (eVar 4)) aNil))) aNil)))))
def F_middle : List D → O R := fnD 6 5 f_middle
def f_between : Ev → SO := (sSeq (sIf (fNot (fB (fMeth 0 "at_most" F_order_at_most (eVar 0) (aCons (eVar 1) (aCons (eVar 2) aNil))))) (fun _ => .no) sNx)
    (sRet (eComp [3] (fIt (vCons (eFld 0 "count" (eVar 0)) aNil) rng1) (gN 3) (fAnd (fB (fMeth 0 "at_most" F_order_at_most (eVar 0) (aCons (eVar 1) (aCons (eVar 3) aNil)))) (fB (fMeth 0 "at_most" F_order_at_most (eVar 0) (aCons (eVar 3) (aCons (eVar 2) aNil))))) (eVar 3))))
def F_between : List D → O R := fnD 4 3 f_between
def f_cut : Ev → SO := (sSeq (sSetF 3 (fCall F_between (aCons (eVar 0) (aCons (eVar 1) (aCons (eVar 2) aNil)))))
    (sSeq (sSet 4 (eLst aNil))
    (sSeq (sFor (fIt (vCons (fBlt (bOne dLen) (vCons (eVar 3) aNil)) aNil) rng1) (gN 5) (sExtend 4 (eComp [6] (fIt (vCons (fBlt (bOne dLen) (vCons (eVar 3) aNil)) aNil) rng1) (gN 6) (fB (fMeth 0 "at_most" F_order_at_most (eVar 0) (aCons (fBin dIx (eVar 3) (eVar 5)) (aCons (fBin dIx (eVar 3) (eVar 6)) aNil)))) (eTup (aCons (eVar 5) (aCons (eVar 6) aNil))))))
    (sFz 4 (sRet (fOrder F_order___init__ (vCons (fBlt (bOne dLen) (vCons (eVar 3) aNil)) (vCons (eVar 4) aNil))))))))
def F_cut : List D → O R := fnD 7 3 f_cut
def f_raised : Ev → SO := (sSeq (sSet 3 (eLst aNil))
    (sSeq (sFor (iSeqF (fCall F_between (aCons (eVar 0) (aCons (fMeth 0 "meet" F_order_meet (eVar 0) (aCons (eVar 1) (aCons (eVar 2) aNil))) (aCons (eVar 1) aNil))))) (gN 4) (sSeq (sSetF 5 (fMeth 0 "join" F_order_join (eVar 0) (aCons (eVar 4) (aCons (eVar 2) aNil))))
    (sMut 3 hAppend (aCons (eTup (aCons (eVar 4) (aCons (eVar 5) (aCons (fMeth 0 "meet" F_order_meet (eVar 0) (aCons (eVar 5) (aCons (eVar 1) aNil))) aNil)))) aNil))))
    (sRetv 3)))
def F_raised : List D → O R := fnD 6 3 f_raised
def f_side_by_side : Ev → SO := (sSeq (sSetF 2 (fBin dMul (eFld 0 "count" (eVar 0)) (eFld 0 "count" (eVar 1))))
    (sSeq (sIf (fB (fBin dGt (eVar 2) (eC (.int 24)))) (fun _ => .no) sNx)
    (sSeq (sSet 3 (eLst aNil))
    (sSeq (sFor (iSeqF (fBin dAdd (eFld 0 "pairs" (eVar 0)) (fBlt (bOne dTuple) (vCons (eComp [8] (fIt (vCons (eFld 0 "count" (eVar 0)) aNil) rng1) (gN 8) fYes (eTup (aCons (eVar 8) (aCons (eVar 8) aNil)))) aNil)))) (gS 2 (gCons (gN 4) (gCons (gN 5) gNil))) (sFor (fIt (vCons (eFld 0 "count" (eVar 1)) aNil) rng1) (gN 6) (sFor (fIt (vCons (eFld 0 "count" (eVar 1)) aNil) rng1) (gN 7) (sIf (fB (fMeth 0 "at_most" F_order_at_most (eVar 1) (aCons (eVar 6) (aCons (eVar 7) aNil)))) (sMut 3 hAppend (aCons (eTup (aCons (fBin dAdd (fBin dMul (eVar 4) (eFld 0 "count" (eVar 1))) (eVar 6)) (aCons (fBin dAdd (fBin dMul (eVar 5) (eFld 0 "count" (eVar 1))) (eVar 7)) aNil))) aNil)) sNx))))
    (sFz 3 (sRet (fOrder F_order___init__ (vCons (eVar 2) (vCons (eVar 3) aNil)))))))))
def F_side_by_side : List D → O R := fnD 9 2 f_side_by_side
def f_turned : Ev → SO := (sRet (fOrder F_order___init__ (vCons (eFld 0 "count" (eVar 0)) (vCons (eComp [1, 2] (iSeqF (eFld 0 "pairs" (eVar 0))) (gS 2 (gCons (gN 1) (gCons (gN 2) gNil))) fYes (eTup (aCons (eVar 2) (aCons (eVar 1) aNil)))) aNil))))
def F_turned : List D → O R := fnD 3 1 f_turned
def f_dividers : Ev → SO := (sSeq (sIf (fOr (fB (fBin dLt (eVar 0) (eC (.int 1)))) (fB (fBin dGt (eVar 0) (eC (.int 1000000))))) (fun _ => .no) sNx)
    (sSeq (sSet 1 (eLst aNil))
    (sSeq (sSet 2 (eLst aNil))
    (sSeq (sSetF 3 (eC (.int 1)))
    (sSeq (whileL (fB (fBin dLe (fBin dMul (eVar 3) (eVar 3)) (eVar 0))) (sSeq (sIf (fB (fBin dEq (fBin dMod (eVar 0) (eVar 3)) (eC (.int 0)))) (sSeq (sMut 1 hAppend (aCons (eVar 3) aNil))
    (sIf (fB (fBin dLt (fBin dMul (eVar 3) (eVar 3)) (eVar 0))) (sMut 2 hAppend (aCons (fBin dFdiv (eVar 0) (eVar 3)) aNil)) sNx)) sNx)
    (sAug 3 (fun x y => x + y) (eC (.int 1)))) 1000000000000)
    (sFz 2 (sFz 1 (sSeq (sSetF 4 (fBin dAdd (eVar 1) (fMap dRev (eVar 2))))
    (sSeq (sIf (fB (fBin dGt (fBlt (bOne dLen) (vCons (eVar 4) aNil)) (eC (.int 24)))) (fun _ => .no) sNx)
    (sRetv 4))))))))))
def F_dividers : List D → O R := fnD 5 1 f_dividers
def f_dividing : Ev → SO := (sSeq (sSetF 1 (fCall F_dividers (aCons (eVar 0) aNil)))
    (sSeq (sSet 2 (eLst aNil))
    (sSeq (sFor (fIt (vCons (fBlt (bOne dLen) (vCons (eVar 1) aNil)) aNil) rng1) (gN 3) (sExtend 2 (eComp [4] (fIt (vCons (fBlt (bOne dLen) (vCons (eVar 1) aNil)) aNil) rng1) (gN 4) (fB (fBin dEq (fBin dMod (fBin dIx (eVar 1) (eVar 4)) (fBin dIx (eVar 1) (eVar 3))) (eC (.int 0)))) (eTup (aCons (eVar 3) (aCons (eVar 4) aNil))))))
    (sFz 2 (sRet (fOrder F_order___init__ (vCons (fBlt (bOne dLen) (vCons (eVar 1) aNil)) (vCons (eVar 2) aNil))))))))
def F_dividing : List D → O R := fnD 5 1 f_dividing
def f_is_number : Ev → SO := (sSeq (sIf (fOr (fB (fBin dEq (eVar 0) (eC (.str "")))) (fNot (fB (fBlt (bOne dAll) (vCons (eComp [1] (iSeqF (eVar 0)) (gN 1) fYes (fChain dLe dLe (eC (.str "0")) (eVar 1) (eC (.str "9")))) aNil))))) (sRet (eC (.bl false))) sNx)
    (sRet (eOr (fBin dNe (fBin dIx (eVar 0) (eC (.int 0))) (eC (.str "0"))) (fBin dEq (eVar 0) (eC (.str "0"))))))
def F_is_number : List D → O R := fnD 2 1 f_is_number
def f_number_in : Ev → SO := (sSeq (sIf (fNot (fB (fCall F_is_number (aCons (fBin dIx (eVar 0) (eVar 1)) aNil)))) (fun _ => .no) sNx)
    (sRet (fBlt (bOne dInt) (vCons (fBin dIx (eVar 0) (eVar 1)) aNil))))
def F_number_in : List D → O R := fnD 2 2 f_number_in
def f_is_name : Ev → SO := (sRet (eAnd (fChain dLe dLe (eC (.int 1)) (fBlt (bOne dLen) (vCons (eVar 0) aNil)) (eC (.int 8))) (fBlt (bOne dAll) (vCons (eComp [1] (iSeqF (eVar 0)) (gN 1) fYes (fChain dLe dLe (eC (.str "a")) (eVar 1) (eC (.str "z")))) aNil))))
def F_is_name : List D → O R := fnD 2 1 f_is_name
end Ev

/-! FH: plain functions, printed by reg.py -/
namespace Ev
open PySem PySem.Spec L2 DL
def f__law_mixed : Ev → SO := (sSeq (sSetF 2 (fBin dMod (fBin dAdd (fBin dAdd (fBin dMul (fBin dMod (eVar 0) (eC (.int 2147483629))) (eC (.int 16807))) (fBin dMul (eC (.int 69621)) (eVar 1))) (eC (.int 11))) (eC (.int 2147483629))))
    (sSeq (sSetF 2 (fBin dMod (fBin dAdd (fBin dAdd (fBin dMul (eVar 2) (eVar 2)) (fBin dMul (eC (.int 48271)) (eVar 1))) (eC (.int 7))) (eC (.int 2147483629))))
    (sRet (fBin dMod (fBin dAdd (fBin dMul (eVar 2) (eVar 2)) (eC (.int 69621))) (eC (.int 2147483587))))))
def F__law_mixed : List D → O R := fnD 3 2 f__law_mixed
def f__law_draws : Ev → SO := (sSeq (sSet 2 (eLst aNil))
    (sSeq (sSetF 3 (fBin dSub (eVar 0) (fBin dPow (eC (.int 10)) (eC (.int 18)))))
    (sSeq (sFor (fIt (vCons (eVar 1) aNil) rng1) (gN 4) (sIf (fB (fBin dGe (eVar 3) (eC (.int 0)))) (sSeq (sMut 2 hAppend (aCons (fBin dMod (eVar 3) (eC (.int 1000003))) aNil))
    (sSetF 3 (fBin dFdiv (eVar 3) (eC (.int 1000003))))) (sMut 2 hAppend (aCons (fCall F__law_mixed (aCons (eVar 0) (aCons (eVar 4) aNil))) aNil))))
    (sRetv 2))))
def F__law_draws : List D → O R := fnD 5 2 f__law_draws
def f__law_cell_at : Ev → SO := (sSeq (sIf (fB (fBin dLt (eVar 1) (fBlt (bOne dLen) (vCons (eVar 0) aNil)))) (sRet (fBin dIx (eVar 0) (eVar 1))) sNx)
    (sRet (eC (.int 0))))
def F__law_cell_at : List D → O R := fnD 2 2 f__law_cell_at
def f__law_flower : Ev → SO := (sRet (fBin dAdd (fBin dAdd (eLst (aCons (eC (.int 0)) aNil)) (fBin dMul (eComp [1] (fIt (vCons (eVar 0) aNil) rng1) (gN 1) fYes (fBin dShl (eC (.int 1)) (eVar 1))) (fBlt (bOne dInt) (vCons (fBin dGt (eVar 0) (eC (.int 1))) aNil)))) (eLst (aCons (fBin dSub (fBin dShl (eC (.int 1)) (eVar 0)) (eC (.int 1))) aNil))))
def F__law_flower : List D → O R := fnD 2 1 f__law_flower
def f__law_stack : Ev → SO := (sRet (fBin dAdd (eVar 0) (eComp [3] (iSeqF (fSl (eVar 1) (fPart (eC (.int 1))) (fun _ => .ok none))) (gN 3) fYes (fBin dOr (fBin dIx (eVar 0) (fMap dNeg (eC (.int 1)))) (fBin dShl (eVar 3) (eVar 2))))))
def F__law_stack : List D → O R := fnD 4 3 f__law_stack
def f__law_fields : Ev → SO := (sSeq (sSet 0 (fBin dAdd (eLst (aCons (eC (.int 1)) (aCons (eC (.int 255)) aNil))) (eComp [1] (fIt (vCons (eC (.int 1)) (vCons (eC (.int 8)) aNil)) rng2) (gN 1) fYes (fBin dOr (eC (.int 1)) (fBin dShl (eC (.int 1)) (eVar 1))))))
    (sSeq (sFor (fIt (vCons (eC (.int 1)) (vCons (eC (.int 8)) aNil)) rng2) (gN 1) (sSeq (sSetF 2 (eComp [3] (fIt (vCons (eC (.int 8)) aNil) rng1) (gN 3) (fB (fBin dEq (fBin dIx (eLst (aCons (eC (.int 0)) (aCons (eC (.int 1)) (aCons (eC (.int 1)) (aCons (eC (.int 0)) (aCons (eC (.int 1)) (aCons (eC (.int 0)) (aCons (eC (.int 0)) (aCons (eC (.int 1)) aNil))))))))) (fBin dAnd (eVar 3) (eVar 1))) (eC (.int 0)))) (eVar 3)))
    (sMut 0 hAppend (aCons (fBlt (bOne dSum) (vCons (eComp [3] (iSeqF (eVar 2)) (gN 3) fYes (fBin dShl (eC (.int 1)) (eVar 3))) aNil)) aNil))))
    (sRetv 0)))
def F__law_fields : List D → O R := fnD 4 0 f__law_fields
def f__law_beside : Ev → SO := (sSeq (sSet 2 (eLst aNil))
    (sSeq (sFor (iSeqF (eVar 0)) (gN 3) (sSet 2 (fBin dAdd (eVar 2) (eComp [4] (iSeqF (eVar 1)) (gN 4) fYes (fBin dOr (eVar 3) (fBin dShl (eVar 4) (eC (.int 10))))))))
    (sRetv 2)))
def F__law_beside : List D → O R := fnD 5 2 f__law_beside
def f__law_shut : Ev → SO := (sSeq (sSet 2 (fBlt (bOne dList) (vCons (eVar 0) aNil)))
    (sSeq (sSetF 3 (eC (.int 0)))
    (sSeq (whileL (fB (fBin dLt (eVar 3) (fBlt (bOne dLen) (vCons (eVar 2) aNil)))) (sSeq (sSetF 4 (fBin dIx (eVar 2) (eVar 3)))
    (sSeq (sFor (iSeqF (fSl (eVar 2) (fun _ => .ok none) (fPart (eVar 3)))) (gN 5) (sSeq (sSetF 6 (fBin dAdd (eLst (aCons (fBin dAnd (eVar 4) (eVar 5)) aNil)) (fBin dMul (eLst (aCons (fBin dOr (eVar 4) (eVar 5)) aNil)) (fBlt (bOne dInt) (vCons (eVar 1) aNil)))))
    (sFor (iSeqF (eVar 6)) (gN 7) (sIf (fB (fBin dNin (eVar 7) (eVar 2))) (sMut 2 hAppend (aCons (eVar 7) aNil)) sNx))))
    (sSetF 3 (fBin dAdd (eVar 3) (eC (.int 1)))))) 1000000000000)
    (sRetv 2))))
def F__law_shut : List D → O R := fnD 8 2 f__law_shut
def f__law_kind : Ev → SO := (sSeq (sSetF 2 (fBin dMod (fBin dIx (eVar 0) (eC (.int 0))) (eC (.int 8))))
    (sSeq (sSetF 3 (fCall F__law_flower (aCons (fBin dAdd (eC (.int 1)) (fBin dMod (fBin dIx (eVar 0) (eC (.int 1))) (eC (.int 5)))) aNil)))
    (sSeq (sSetF 4 (fCall F__law_flower (aCons (fBin dAdd (eC (.int 1)) (fBin dMod (fBin dIx (eVar 0) (eC (.int 2))) (eC (.int 5)))) aNil)))
    (sSeq (sIf (fB (fBin dEq (eVar 2) (eC (.int 3)))) (sSeq (sSetF 5 (fCall F__law_stack (aCons (eVar 3) (aCons (eVar 4) (aCons (eC (.int 10)) aNil)))))
    (sRet (fCall F__law_stack (aCons (eVar 5) (aCons (fCall F__law_flower (aCons (fBin dAdd (eC (.int 1)) (fBin dMod (fBin dIx (eVar 0) (eC (.int 3))) (eC (.int 4)))) aNil)) (aCons (eC (.int 20)) aNil)))))) sNx)
    (sSeq (sIf (fB (fBin dEq (eVar 2) (eC (.int 4)))) (sRet (fCall F__law_fields aNil)) sNx)
    (sSeq (sIf (fB (fBin dEq (eVar 2) (eC (.int 5)))) (sSeq (sSetF 6 (fSl (eLst (aCons (eC (.int 0)) (aCons (eC (.int 1)) (aCons (eC (.int 3)) (aCons (eC (.int 7)) aNil))))) (fun _ => .ok none) (fPart (fBin dAdd (eC (.int 1)) (fBin dMod (fBin dIx (eVar 0) (eC (.int 1))) (eC (.int 4)))))))
    (sSeq (sIf (fB (fBin dEq (fBin dMod (fBin dIx (eVar 0) (eC (.int 3))) (eC (.int 2))) (eC (.int 1)))) (sRet (fCall F__law_beside (aCons (eVar 6) (aCons (fSl (eLst (aCons (eC (.int 0)) (aCons (eC (.int 1)) (aCons (eC (.int 3)) (aCons (eC (.int 7)) (aCons (eC (.int 15)) (aCons (eC (.int 31)) aNil))))))) (fun _ => .ok none) (fPart (fBin dAdd (eC (.int 1)) (fBin dMod (fBin dIx (eVar 0) (eC (.int 2))) (eC (.int 6)))))) aNil)))) sNx)
    (sRet (fCall F__law_beside (aCons (eVar 6) (aCons (fCall F__law_flower (aCons (fBin dAdd (eC (.int 1)) (fBin dMod (fBin dIx (eVar 0) (eC (.int 2))) (eC (.int 4)))) aNil)) aNil)))))) sNx)
    (sSeq (sIf (fB (fBin dEq (eVar 2) (eC (.int 6)))) (sSeq (sSetF 7 (fBin dIx (eLst (aCons (eLst (aCons (eC (.int 0)) (aCons (eC (.int 1)) (aCons (eC (.int 2)) (aCons (eC (.int 6)) (aCons (eC (.int 7)) aNil)))))) (aCons (eLst (aCons (eC (.int 0)) (aCons (eC (.int 1)) (aCons (eC (.int 3)) (aCons (eC (.int 4)) (aCons (eC (.int 12)) (aCons (eC (.int 15)) aNil))))))) aNil))) (fBin dMod (fBin dIx (eVar 0) (eC (.int 1))) (eC (.int 2)))))
    (sSeq (sIf (fB (fBin dEq (fBin dMod (fBin dIx (eVar 0) (eC (.int 3))) (eC (.int 2))) (eC (.int 1)))) (sRet (fCall F__law_beside (aCons (fSl (eLst (aCons (eC (.int 0)) (aCons (eC (.int 1)) (aCons (eC (.int 3)) (aCons (eC (.int 7)) aNil))))) (fun _ => .ok none) (fPart (fBin dAdd (eC (.int 1)) (fBin dMod (fBin dIx (eVar 0) (eC (.int 2))) (eC (.int 4)))))) (aCons (eVar 7) aNil)))) sNx)
    (sRet (fCall F__law_stack (aCons (eVar 7) (aCons (eVar 4) (aCons (eC (.int 10)) aNil))))))) sNx)
    (sSeq (sSetF 8 (eComp [9] (fIt (vCons (eC (.int 15)) aNil) rng1) (gN 9) (fB (fBin dEq (fBin dAnd (fBin dShr (eVar 1) (eVar 9)) (eC (.int 1))) (eC (.int 1)))) (eVar 9)))
    (sRet (fCall F__law_shut (aCons (fBin dAdd (eLst (aCons (eC (.int 15)) aNil)) (eVar 8)) (aCons (fBin dIn (eVar 2) (eTup (aCons (eC (.int 2)) (aCons (eC (.int 7)) aNil)))) aNil))))))))))))
def F__law_kind : List D → O R := fnD 10 2 f__law_kind
def f__law_order : Ev → SO := (sSeq (sSetF 2 (fCall F__law_draws (aCons (fCall F__law_cell_at (aCons (eVar 0) (aCons (eVar 1) aNil))) (aCons (eC (.int 8)) aNil))))
    (sSeq (sSetF 3 (fBin dIx (fCall F__law_draws (aCons (fCall F__law_cell_at (aCons (eVar 0) (aCons (fBin dAdd (eVar 1) (eC (.int 1))) aNil))) (aCons (eC (.int 1)) aNil))) (eC (.int 0))))
    (sSeq (sIf (fB (fBin dEq (fBin dMod (fBin dIx (eVar 2) (eC (.int 4))) (eC (.int 2))) (eC (.int 1)))) (sSetF 3 (fBin dAnd (eVar 3) (fBin dIx (eVar 2) (eC (.int 5))))) sNx)
    (sSeq (sSet 4 (fCall F__law_kind (aCons (eVar 2) (aCons (eVar 3) aNil))))
    (sSeq (sSet 5 (eLst aNil))
    (sSeq (sFor (fIt (vCons (fBlt (bOne dLen) (vCons (eVar 4) aNil)) aNil) rng1) (gN 6) (sPopApp 5 4 (fBin dMod (fBin dAdd (fBin dFdiv (fBin dIx (eVar 2) (eC (.int 6))) (eC (.int 7))) (fBin dMul (eVar 6) (fBin dIx (eVar 2) (eC (.int 7))))) (fBlt (bOne dLen) (vCons (eVar 4) aNil)))))
    (sRetv 5)))))))
def F__law_order : List D → O R := fnD 7 2 f__law_order
def f__law_at_most : Ev → SO := (sRet (fBin dEq (fBin dAnd (fBin dIx (eVar 0) (eVar 1)) (fBin dIx (eVar 0) (eVar 2))) (fBin dIx (eVar 0) (eVar 1))))
def F__law_at_most : List D → O R := fnD 3 3 f__law_at_most
def f__law_steps : Ev → SO := (sSeq (sSetF 1 (fBlt (bOne dLen) (vCons (eVar 0) aNil)))
    (sSeq (sSet 2 (eLst aNil))
    (sSeq (sFor (fIt (vCons (eVar 1) aNil) rng1) (gN 3) (sSeq (sSetF 4 (eComp [5] (fIt (vCons (eVar 1) aNil) rng1) (gN 5) (fAnd (fB (fBin dNe (eVar 3) (eVar 5))) (fB (fCall F__law_at_most (aCons (eVar 0) (aCons (eVar 3) (aCons (eVar 5) aNil)))))) (eVar 5)))
    (sFor (iSeqF (eVar 4)) (gN 5) (sIf (fB (fBin dEq (fBlt (bOne dLen) (vCons (eComp [6] (iSeqF (eVar 4)) (gN 6) (fB (fCall F__law_at_most (aCons (eVar 0) (aCons (eVar 6) (aCons (eVar 5) aNil))))) (eVar 6)) aNil)) (eC (.int 1)))) (sMut 2 hAppend (aCons (eTup (aCons (eVar 3) (aCons (eVar 5) aNil))) aNil)) sNx))))
    (sRetv 2))))
def F__law_steps : List D → O R := fnD 7 1 f__law_steps
def f__law_handed : Ev → SO := (sSeq (sSet 2 (fCall F__law_steps (aCons (eVar 0) aNil)))
    (sSeq (sFor (fIt (vCons (fBin dMod (fBin dIx (eVar 1) (eC (.int 0))) (eC (.int 12))) aNil) rng1) (gN 3) (sSeq (sSetF 4 (fBin dMod (fBin dFdiv (fBin dIx (eVar 1) (fBin dAdd (eC (.int 1)) (fBin dMod (eVar 3) (eC (.int 3))))) (fBin dAdd (eVar 3) (eC (.int 1)))) (fBlt (bOne dLen) (vCons (eVar 0) aNil))))
    (sSeq (sSetF 5 (fBin dMod (fBin dFdiv (fBin dIx (eVar 1) (fBin dAdd (eC (.int 4)) (fBin dMod (eVar 3) (eC (.int 3))))) (fBin dAdd (eVar 3) (eC (.int 1)))) (fBlt (bOne dLen) (vCons (eVar 0) aNil))))
    (sIf (fB (fCall F__law_at_most (aCons (eVar 0) (aCons (eVar 4) (aCons (eVar 5) aNil))))) (sMut 2 hAppend (aCons (eTup (aCons (eVar 4) (aCons (eVar 5) aNil))) aNil)) sNx))))
    (sFz 2 (sSeq (sSetF 6 (fBin dMod (fBin dIx (eVar 1) (eC (.int 7))) (fBin dAdd (fBlt (bOne dLen) (vCons (eVar 2) aNil)) (eC (.int 1)))))
    (sRet (fBin dAdd (fSl (eVar 2) (fPart (eVar 6)) (fun _ => .ok none)) (fSl (eVar 2) (fun _ => .ok none) (fPart (eVar 6)))))))))
def F__law_handed : List D → O R := fnD 7 2 f__law_handed
def f__law_same (Fr : List D → O R) : Ev → SO := (sSeq (sIf (fOr (fB (fMap (dIsi "tuple") (eVar 1))) (fB (fMap (dIsi "list") (eVar 1)))) (sSeq (sIf (fOr (fB (fBin dNe (fMap (dIsi "tuple") (eVar 0)) (fMap (dIsi "tuple") (eVar 1)))) (fB (fBin dNe (fMap (dIsi "list") (eVar 0)) (fMap (dIsi "list") (eVar 1))))) (sRet (eC (.bl false))) sNx)
    (sSeq (sIf (fB (fBin dNe (fBlt (bOne dLen) (vCons (eVar 0) aNil)) (fBlt (bOne dLen) (vCons (eVar 1) aNil)))) (sRet (eC (.bl false))) sNx)
    (sSeq (sFor (fIt (vCons (fBlt (bOne dLen) (vCons (eVar 1) aNil)) aNil) rng1) (gN 2) (sIf (fNot (fB (fCall Fr (aCons (fBin dIx (eVar 0) (eVar 2)) (aCons (fBin dIx (eVar 1) (eVar 2)) aNil))))) (sRet (eC (.bl false))) sNx))
    (sRet (eC (.bl true)))))) sNx)
    (sSeq (sIf (fB (fMap (dIsi "bool") (eVar 1))) (sRet (eAnd (fMap (dIsi "bool") (eVar 0)) (fBin dEq (eVar 0) (eVar 1)))) sNx)
    (sSeq (sIf (fB (fMap (dIsi "int") (eVar 1))) (sRet (eAnd (fMap (dIsi "int") (eVar 0)) (eAnd (eNot (fMap (dIsi "bool") (eVar 0))) (fBin dEq (eVar 0) (eVar 1))))) sNx)
    (sSeq (sIf (fB (fMap (dIsi "str") (eVar 1))) (sRet (eAnd (fMap (dIsi "str") (eVar 0)) (fBin dEq (eVar 0) (eVar 1)))) sNx)
    (sRet (eAnd (fBin dIs (eVar 1) (eC .non)) (fBin dIs (eVar 0) (eC .non))))))))
def G__law_same : Nat → List D → O R
  | 0 => fun _ => .no
  | n + 1 => fnD 3 2 (f__law_same (G__law_same n))
def F__law_same : List D → O R := G__law_same 8
theorem aryr__law_same : ∀ n, Ary 2 (G__law_same n)
  | 0 => fun _ _ => rfl
  | n + 1 => fnD_ary _ _ _
def f__law_class : Ev → SO := (sSeq (sSetF 1 (eLst (aCons (fMap (dIsi "NoChain") (eVar 0)) (aCons (fMap (dIsi "NoClimb") (eVar 0)) (aCons (fMap (dIsi "NoCount") (eVar 0)) (aCons (fMap (dIsi "NoEnds") (eVar 0)) aNil))))))
    (sSeq (sSetF 1 (fBin dAdd (eVar 1) (eLst (aCons (fMap (dIsi "NoExchange") (eVar 0)) (aCons (fMap (dIsi "NoJoin") (eVar 0)) (aCons (fMap (dIsi "NoLine") (eVar 0)) (aCons (fMap (dIsi "NoName") (eVar 0)) aNil)))))))
    (sSeq (sSetF 1 (fBin dAdd (eVar 1) (eLst (aCons (fMap (dIsi "NoNumber") (eVar 0)) (aCons (fMap (dIsi "NoOrder") (eVar 0)) (aCons (fMap (dIsi "NoPart") (eVar 0)) (aCons (fMap (dIsi "NoText") (eVar 0)) aNil)))))))
    (sSeq (sSetF 1 (fBin dAdd (eVar 1) (eLst (aCons (fMap (dIsi "NoThing") (eVar 0)) (aCons (fMap (dIsi "NoWord") (eVar 0)) (aCons (fMap (dIsi "NotEven") (eVar 0)) aNil))))))
    (sSeq (sIf (fOr (fNot (fB (fMap (dIsi "ValueError") (eVar 0)))) (fOr (fNot (fB (fMap (dIsi "ClimbError") (eVar 0)))) (fB (fBin dNe (fBlt (bOne dLen) (vCons (eComp [3] (iSeqF (eVar 1)) (gN 3) (fB (eVar 3)) (eVar 3)) aNil)) (eC (.int 1)))))) (sRet (eC (.str ""))) sNx)
    (sSeq (sSetF 2 (eLst (aCons (eC (.str "NoChain")) (aCons (eC (.str "NoClimb")) (aCons (eC (.str "NoCount")) (aCons (eC (.str "NoEnds")) (aCons (eC (.str "NoExchange")) (aCons (eC (.str "NoJoin")) (aCons (eC (.str "NoLine")) (aCons (eC (.str "NoName")) (aCons (eC (.str "NoNumber")) aNil)))))))))))
    (sRet (fBin dIx (fBin dAdd (eVar 2) (eLst (aCons (eC (.str "NoOrder")) (aCons (eC (.str "NoPart")) (aCons (eC (.str "NoText")) (aCons (eC (.str "NoThing")) (aCons (eC (.str "NoWord")) (aCons (eC (.str "NotEven")) aNil)))))))) (fLindex (eVar 1) (eC (.bl true)))))))))))
def F__law_class : List D → O R := fnD 4 1 f__law_class
def f__law_whole : Ev → SO := (sRet (eAnd (fMap (dIsi "int") (eVar 0)) (eNot (fMap (dIsi "bool") (eVar 0)))))
def F__law_whole : List D → O R := fnD 1 1 f__law_whole
def f__law_meet : Ev → SO := (sRet (fLindex (eVar 0) (fBin dAnd (fBin dIx (eVar 0) (eVar 1)) (fBin dIx (eVar 0) (eVar 2)))))
def F__law_meet : List D → O R := fnD 3 3 f__law_meet
def f__law_join : Ev → SO := (sSeq (sSetF 3 (fMap dNeg (eC (.int 1))))
    (sSeq (sFor (iSeqF (eVar 0)) (gN 4) (sIf (fAnd (fB (fBin dEq (fBin dAnd (eVar 4) (fBin dIx (eVar 0) (eVar 1))) (fBin dIx (eVar 0) (eVar 1)))) (fB (fBin dEq (fBin dAnd (eVar 4) (fBin dIx (eVar 0) (eVar 2))) (fBin dIx (eVar 0) (eVar 2))))) (sSetF 3 (fBin dAnd (eVar 3) (eVar 4))) sNx))
    (sRet (fLindex (eVar 0) (eVar 3)))))
def F__law_join : List D → O R := fnD 5 3 f__law_join
def f__law_number : Ev → SO := (sSeq (sIf (fB (fBin dEq (fBin dMod (eVar 0) (eC (.int 8))) (eC (.int 1)))) (sRet (fBin dIx (eLst (aCons (fMap dNeg (eC (.int 1))) (aCons (eVar 2) (aCons (fBin dSub (fMap dNeg (eC (.int 1))) (fBin dMul (eVar 1) (fBin dPow (eC (.int 10)) (eC (.int 30))))) (aCons (fBin dAdd (eVar 2) (fBin dMul (eVar 1) (fBin dPow (eC (.int 10)) (eC (.int 30))))) aNil))))) (fBin dMod (fBin dFdiv (eVar 0) (eC (.int 8))) (eC (.int 4))))) sNx)
    (sRet (fBin dMod (fBin dFdiv (eVar 0) (eC (.int 8))) (eVar 2))))
def F__law_number : List D → O R := fnD 3 3 f__law_number
def f__law_uneven : Ev → SO := (sSeq (sSetF 1 (fBlt (bOne dLen) (vCons (eVar 0) aNil)))
    (sSeq (sSetF 2 (eComp [4] (fIt (vCons (eVar 1) aNil) rng1) (gN 4) fYes (eComp [5] (fIt (vCons (eVar 1) aNil) rng1) (gN 5) fYes (fCall F__law_join (aCons (eVar 0) (aCons (eVar 4) (aCons (eVar 5) aNil)))))))
    (sSeq (sSetF 3 (eComp [4] (fIt (vCons (eVar 1) aNil) rng1) (gN 4) fYes (eComp [5] (fIt (vCons (eVar 1) aNil) rng1) (gN 5) fYes (fCall F__law_meet (aCons (eVar 0) (aCons (eVar 4) (aCons (eVar 5) aNil)))))))
    (sSeq (sFor (fIt (vCons (eVar 1) aNil) rng1) (gN 4) (sFor (fIt (vCons (eVar 1) aNil) rng1) (gN 5) (sFor (fIt (vCons (eVar 1) aNil) rng1) (gN 6) (sSeq (sSetF 7 (fBin dIx (fBin dIx (eVar 2) (eVar 4)) (fBin dIx (fBin dIx (eVar 3) (eVar 5)) (eVar 6))))
    (sIf (fAnd (fB (fBin dEq (fBin dIx (fBin dIx (eVar 2) (eVar 4)) (eVar 6)) (eVar 6))) (fB (fBin dNe (eVar 7) (fBin dIx (fBin dIx (eVar 3) (fBin dIx (fBin dIx (eVar 2) (eVar 4)) (eVar 5))) (eVar 6))))) (sRet (eTup (aCons (eVar 4) (aCons (eVar 5) (aCons (eVar 6) aNil))))) sNx)))))
    (sRet (eC .non))))))
def F__law_uneven : List D → O R := fnD 8 1 f__law_uneven
def f__law_is_five : Ev → SO := (sSeq (sIf (fOr (fB (fBin dNe (fBlt (bOne dLen) (vCons (eVar 1) aNil)) (eC (.int 5)))) (fOr (fB (fBin dLt (fBlt (bMin) (vCons (eVar 1) aNil)) (eC (.int 0)))) (fB (fBin dGe (fBlt (bMax) (vCons (eVar 1) aNil)) (fBlt (bOne dLen) (vCons (eVar 0) aNil)))))) (sRet (eC (.bl false))) sNx)
    (sSeq (sAsg (gS 5 (gCons (gN 2) (gCons (gN 3) (gCons (gN 4) (gCons (gN 5) (gCons (gN 6) gNil)))))) (eVar 1))
    (sSeq (sIf (fOr (fB (fBin dEq (eVar 3) (eVar 5))) (fNot (fB (fCall F__law_at_most (aCons (eVar 0) (aCons (eVar 3) (aCons (eVar 5) aNil))))))) (sRet (eC (.bl false))) sNx)
    (sSeq (sIf (fOr (fB (fCall F__law_at_most (aCons (eVar 0) (aCons (eVar 4) (aCons (eVar 5) aNil))))) (fB (fCall F__law_at_most (aCons (eVar 0) (aCons (eVar 3) (aCons (eVar 4) aNil)))))) (sRet (eC (.bl false))) sNx)
    (sSeq (sSetF 7 (eLst (aCons (fCall F__law_join (aCons (eVar 0) (aCons (eVar 3) (aCons (eVar 4) aNil)))) (aCons (fCall F__law_join (aCons (eVar 0) (aCons (eVar 5) (aCons (eVar 4) aNil)))) aNil))))
    (sSeq (sSetF 8 (eLst (aCons (fCall F__law_meet (aCons (eVar 0) (aCons (eVar 3) (aCons (eVar 4) aNil)))) (aCons (fCall F__law_meet (aCons (eVar 0) (aCons (eVar 5) (aCons (eVar 4) aNil)))) aNil))))
    (sRet (eAnd (fBin dEq (eVar 7) (eLst (aCons (eVar 6) (aCons (eVar 6) aNil)))) (fBin dEq (eVar 8) (eLst (aCons (eVar 2) (aCons (eVar 2) aNil))))))))))))
def F__law_is_five : List D → O R := fnD 9 2 f__law_is_five
def f__law_climb : Ev → SO := (sSeq (sSet 5 (eLst (aCons (eVar 2) aNil)))
    (sSeq (sFor (fIt (vCons (eC (.int 24)) aNil) rng1) (gN 6) (sSeq (sSetF 7 (eComp [8, 9] (iSeqF (eVar 0)) (gS 2 (gCons (gN 8) (gCons (gN 9) gNil))) (fAnd (fB (fBin dEq (eVar 8) (fBin dIx (eVar 5) (fMap dNeg (eC (.int 1)))))) (fB (fCall F__law_at_most (aCons (eVar 1) (aCons (eVar 9) (aCons (eVar 3) aNil)))))) (eVar 9)))
    (sIf (fB (fBin dNe (fBin dIx (eVar 5) (fMap dNeg (eC (.int 1)))) (eVar 3))) (sMut 5 hAppend (aCons (fBin dIx (eVar 7) (fBin dMod (fBin dAdd (fBin dFdiv (fBin dIx (eVar 4) (fBin dMod (eVar 6) (eC (.int 6)))) (fBin dAdd (eVar 6) (eC (.int 1)))) (eVar 6)) (fBlt (bOne dLen) (vCons (eVar 7) aNil)))) aNil)) sNx)))
    (sRetv 5)))
def F__law_climb : List D → O R := fnD 10 5 f__law_climb
def f__law_bent_k33 : Ev → SO := (sSeq (sSetF 3 (fBin dMod (fBin dIx (eVar 1) (eC (.int 0))) (fBlt (bOne dLen) (vCons (eVar 0) aNil))))
    (sSeq (sSetF 4 (fBin dMul (fBin dIx (eVar 1) (eC (.int 1))) (fBin dPow (eC (.int 10)) (eC (.int 30)))))
    (sSeq (sSetF 5 (fBin dMod (fBin dIx (eVar 1) (eC (.int 2))) (eC (.int 9))))
    (sSeq (sIf (fB (fBin dEq (eVar 5) (eC (.int 0)))) (sRet (fBin dAdd (fSl (eVar 0) (fun _ => .ok none) (fPart (eVar 3))) (fSl (eVar 0) (fPart (fBin dAdd (eVar 3) (eC (.int 1)))) (fun _ => .ok none)))) sNx)
    (sSeq (sIf (fB (fBin dEq (eVar 5) (eC (.int 1)))) (sRet (fBin dAdd (fBin dAdd (fSl (eVar 0) (fun _ => .ok none) (fPart (eVar 3))) (fSl (eVar 0) (fPart (eVar 3)) (fPart (fBin dAdd (eVar 3) (eC (.int 1)))))) (fSl (eVar 0) (fPart (eVar 3)) (fun _ => .ok none)))) sNx)
    (sSeq (sIf (fB (fBin dEq (eVar 5) (eC (.int 2)))) (sRet (fBin dAdd (fBin dAdd (fSl (eVar 0) (fun _ => .ok none) (fPart (eVar 3))) (eLst (aCons (fBin dMod (fBin dIx (eVar 1) (eC (.int 3))) (eVar 2)) aNil))) (fSl (eVar 0) (fPart (fBin dAdd (eVar 3) (eC (.int 1)))) (fun _ => .ok none)))) sNx)
    (sSeq (sIf (fB (fBin dEq (eVar 5) (eC (.int 3)))) (sRet (fBin dAdd (fBin dAdd (fSl (eVar 0) (fun _ => .ok none) (fPart (eVar 3))) (eLst (aCons (fBin dIx (eLst (aCons (fMap dNeg (eC (.int 1))) (aCons (eVar 2) (aCons (fBin dSub (fMap dNeg (eC (.int 1))) (eVar 4)) (aCons (fBin dAdd (eVar 2) (eVar 4)) aNil))))) (fBin dMod (fBin dIx (eVar 1) (eC (.int 3))) (eC (.int 4)))) aNil))) (fSl (eVar 0) (fPart (fBin dAdd (eVar 3) (eC (.int 1)))) (fun _ => .ok none)))) sNx)
    (sSeq (sIf (fB (fBin dEq (eVar 5) (eC (.int 4)))) (sRet (eLst aNil)) sNx)
    (sRetv 0)))))))))
def F__law_bent_k33 : List D → O R := fnD 6 3 f__law_bent_k33
def f__law_up : Ev → SO := (sSeq (sSetF 3 (fCall F__law_join (aCons (eVar 0) (aCons (fBin dIx (eVar 1) (eC (.int 1))) (aCons (fBin dIx (eVar 2) (eC (.int 0))) aNil)))))
    (sRet (eAnd (fBin dEq (eVar 3) (fBin dIx (eVar 2) (eC (.int 1)))) (fBin dEq (fCall F__law_meet (aCons (eVar 0) (aCons (fBin dIx (eVar 1) (eC (.int 1))) (aCons (fBin dIx (eVar 2) (eC (.int 0))) aNil)))) (fBin dIx (eVar 1) (eC (.int 0)))))))
def F__law_up : List D → O R := fnD 4 3 f__law_up
def f__law_parity : Ev → SO := (sSeq (sSetF 1 (eC (.int 0)))
    (sSeq (whileL (fB (fBin dGt (eVar 0) (eC (.int 0)))) (sSeq (sSetF 1 (fBin dMod (fBin dAdd (eVar 1) (eVar 0)) (eC (.int 2))))
    (sSetF 0 (fBin dFdiv (eVar 0) (eC (.int 2))))) 1000000000000)
    (sRetv 1)))
def F__law_parity : List D → O R := fnD 2 1 f__law_parity
def f__law_ups : Ev → SO := (sSeq (sSet 2 (eLst aNil))
    (sSeq (sFor (fIt (vCons (fBlt (bOne dLen) (vCons (eVar 0) aNil)) aNil) rng1) (gN 3) (sMut 2 hInsert (aCons (fBin dMod (fBin dIx (eVar 1) (eVar 3)) (fBin dAdd (eVar 3) (eC (.int 1)))) (aCons (fBin dIx (eVar 0) (eVar 3)) aNil))))
    (sFz 2 (sSeq (sSet 4 (eLst aNil))
    (sSeq (sFor (iSeqF (eVar 2)) (gN 5) (sSeq (sSetF 6 (eC (.int 0)))
    (sSeq (sFor (fIt (vCons (fBlt (bOne dLen) (vCons (eVar 2) aNil)) aNil) rng1) (gN 3) (sIf (fB (fBin dEq (fBin dAnd (fBin dIx (eVar 2) (eVar 3)) (eVar 5)) (eVar 5))) (sSetF 6 (fBin dOr (eVar 6) (fBin dShl (eC (.int 1)) (eVar 3)))) sNx))
    (sMut 4 hAppend (aCons (eVar 6) aNil)))))
    (sRetv 4))))))
def F__law_ups : List D → O R := fnD 7 2 f__law_ups
def f__law_pairs_k51 : Ev → SO := (sSeq (sSetF 1 (eLst aNil))
    (sSeq (sFor (fIt (vCons (fBlt (bOne dLen) (vCons (eVar 0) aNil)) aNil) rng1) (gN 2) (sSetF 1 (fBin dAdd (eVar 1) (eComp [3] (fIt (vCons (fBlt (bOne dLen) (vCons (eVar 0) aNil)) aNil) rng1) (gN 3) (fAnd (fB (fBin dNe (eVar 2) (eVar 3))) (fB (fBin dEq (fBin dAnd (fBin dShr (fBin dIx (eVar 0) (eVar 2)) (eVar 3)) (eC (.int 1))) (eC (.int 1))))) (eTup (aCons (eVar 2) (aCons (eVar 3) aNil)))))))
    (sRetv 1)))
def F__law_pairs_k51 : List D → O R := fnD 4 1 f__law_pairs_k51
def f__law_is_step : Ev → SO := (sSeq (sIf (fOr (fB (fBin dEq (eVar 1) (eVar 2))) (fB (fBin dEq (fBin dAnd (fBin dShr (fBin dIx (eVar 0) (eVar 1)) (eVar 2)) (eC (.int 1))) (eC (.int 0))))) (sRet (eC (.bl false))) sNx)
    (sRet (fBin dEq (fBlt (bOne dLen) (vCons (eComp [3] (fIt (vCons (fBlt (bOne dLen) (vCons (eVar 0) aNil)) aNil) rng1) (gN 3) (fAnd (fB (fBin dEq (fBin dAnd (fBin dShr (fBin dIx (eVar 0) (eVar 1)) (eVar 3)) (eC (.int 1))) (eC (.int 1)))) (fB (fBin dEq (fBin dAnd (fBin dShr (fBin dIx (eVar 0) (eVar 3)) (eVar 2)) (eC (.int 1))) (eC (.int 1))))) (eVar 3)) aNil)) (eC (.int 2)))))
def F__law_is_step : List D → O R := fnD 4 3 f__law_is_step
def f__law_handed_k51 : Ev → SO := (sSeq (sSet 2 (eLst aNil))
    (sSeq (sSetF 3 (eC (.int 0)))
    (sSeq (sFor (fIt (aCons (fCall F__law_pairs_k51 (aCons (eVar 0) aNil)) aNil) bEnum) (gS 2 (gCons (gN 4) (gCons (gS 2 (gCons (gN 5) (gCons (gN 6) gNil))) gNil))) (sSeq (sSetF 7 (fBin dAdd (fBin dIx (eVar 1) (fBin dMod (eVar 4) (fBlt (bOne dLen) (vCons (eVar 1) aNil)))) (fBin dMul (eC (.int 7)) (eVar 4))))
    (sIf (fB (fCall F__law_is_step (aCons (eVar 0) (aCons (eVar 5) (aCons (eVar 6) aNil))))) (sMut 2 hInsert (aCons (fBin dMod (fBin dFdiv (eVar 7) (eC (.int 3))) (fBin dAdd (fBlt (bOne dLen) (vCons (eVar 2) aNil)) (eC (.int 1)))) (aCons (eTup (aCons (eVar 5) (aCons (eVar 6) aNil))) aNil))) (sIf (fAnd (fB (fBin dEq (fBin dMod (eVar 7) (eC (.int 3))) (eC (.int 0)))) (fB (fBin dLt (eVar 3) (eC (.int 40))))) (sSeq (sMut 2 hInsert (aCons (fBin dMod (fBin dFdiv (eVar 7) (eC (.int 3))) (fBin dAdd (fBlt (bOne dLen) (vCons (eVar 2) aNil)) (eC (.int 1)))) (aCons (eTup (aCons (eVar 5) (aCons (eVar 6) aNil))) aNil)))
    (sSetF 3 (fBin dAdd (eVar 3) (eC (.int 1))))) sNx))))
    (sSeq (sIf (fB (fBin dEq (fBin dMod (fBin dIx (eVar 1) (eC (.int 0))) (eC (.int 4))) (eC (.int 1)))) (sSet 2 (fBin dAdd (eVar 2) (fSl (eVar 2) (fun _ => .ok none) (fPart (eC (.int 1)))))) sNx)
    (sSeq (sIf (fB (fBin dEq (fBin dMod (fBin dIx (eVar 1) (eC (.int 0))) (eC (.int 4))) (eC (.int 2)))) (sMut 2 hAppend (aCons (eTup (aCons (eC (.int 0)) (aCons (eC (.int 0)) aNil))) aNil)) sNx)
    (sRetv 2))))))
def F__law_handed_k51 : List D → O R := fnD 8 2 f__law_handed_k51
def f__law_is : Ev → SO := (sRet (fCall F__law_same (aCons (eTup (aCons (eFld 0 "count" (eVar 0)) (aCons (eFld 0 "pairs" (eVar 0)) aNil))) (aCons (eTup (aCons (fBlt (bOne dLen) (vCons (eVar 1) aNil)) (aCons (fBlt (bOne dTuple) (vCons (fCall F__law_pairs_k51 (aCons (eVar 1) aNil)) aNil)) aNil))) aNil))))
def F__law_is : List D → O R := fnD 2 2 f__law_is
def f__law_between : Ev → SO := (sRet (eComp [3] (fIt (vCons (fBlt (bOne dLen) (vCons (eVar 0) aNil)) aNil) rng1) (gN 3) (fAnd (fB (fBin dEq (fBin dAnd (fBin dShr (fBin dIx (eVar 0) (eVar 1)) (eVar 3)) (eC (.int 1))) (eC (.int 1)))) (fB (fBin dEq (fBin dAnd (fBin dShr (fBin dIx (eVar 0) (eVar 3)) (eVar 2)) (eC (.int 1))) (eC (.int 1))))) (eVar 3)))
def F__law_between : List D → O R := fnD 4 3 f__law_between
def f__law_cut : Ev → SO := (sSeq (sSet 2 (eLst aNil))
    (sSeq (sFor (iSeqF (eVar 1)) (gN 3) (sSeq (sSetF 4 (eC (.int 0)))
    (sSeq (sFor (fIt (vCons (fBlt (bOne dLen) (vCons (eVar 1) aNil)) aNil) rng1) (gN 5) (sIf (fB (fBin dEq (fBin dAnd (fBin dShr (fBin dIx (eVar 0) (eVar 3)) (fBin dIx (eVar 1) (eVar 5))) (eC (.int 1))) (eC (.int 1)))) (sSetF 4 (fBin dOr (eVar 4) (fBin dShl (eC (.int 1)) (eVar 5)))) sNx))
    (sMut 2 hAppend (aCons (eVar 4) aNil)))))
    (sRetv 2)))
def F__law_cut : List D → O R := fnD 6 2 f__law_cut
def f__law_join_k52 : Ev → SO := (sRet (fLindex (eVar 0) (fBin dAnd (fBin dIx (eVar 0) (eVar 1)) (fBin dIx (eVar 0) (eVar 2)))))
def F__law_join_k52 : List D → O R := fnD 3 3 f__law_join_k52
def f__law_meet_k52 : Ev → SO := (sSeq (sSetF 3 (eC .non))
    (sSeq (sFor (fIt (vCons (fBlt (bOne dLen) (vCons (eVar 0) aNil)) aNil) rng1) (gN 4) (sIf (fAnd (fB (fBin dEq (fBin dAnd (fBin dShr (fBin dIx (eVar 0) (eVar 4)) (eVar 1)) (eC (.int 1))) (eC (.int 1)))) (fAnd (fB (fBin dEq (fBin dAnd (fBin dShr (fBin dIx (eVar 0) (eVar 4)) (eVar 2)) (eC (.int 1))) (eC (.int 1)))) (fOr (fB (fBin dIs (eVar 3) (eC .non))) (fB (fBin dEq (fBin dAnd (fBin dShr (fBin dIx (eVar 0) (eVar 3)) (eVar 4)) (eC (.int 1))) (eC (.int 1))))))) (sSetF 3 (eVar 4)) sNx))
    (sRetv 3)))
def F__law_meet_k52 : List D → O R := fnD 5 3 f__law_meet_k52
def f__law_side : Ev → SO := (sSeq (sSet 2 (eLst aNil))
    (sSeq (sFor (fIt (vCons (fBlt (bOne dLen) (vCons (eVar 0) aNil)) aNil) rng1) (gN 3) (sFor (fIt (vCons (fBlt (bOne dLen) (vCons (eVar 1) aNil)) aNil) rng1) (gN 4) (sSeq (sSetF 5 (eC (.int 0)))
    (sSeq (sFor (fIt (vCons (fBlt (bOne dLen) (vCons (eVar 0) aNil)) aNil) rng1) (gN 6) (sIf (fB (fBin dEq (fBin dAnd (fBin dShr (fBin dIx (eVar 0) (eVar 3)) (eVar 6)) (eC (.int 1))) (eC (.int 1)))) (sSetF 5 (fBin dOr (eVar 5) (fBin dShl (fBin dIx (eVar 1) (eVar 4)) (fBin dMul (eVar 6) (fBlt (bOne dLen) (vCons (eVar 1) aNil)))))) sNx))
    (sMut 2 hAppend (aCons (eVar 5) aNil))))))
    (sRetv 2)))
def F__law_side : List D → O R := fnD 7 2 f__law_side
def f__law_turned : Ev → SO := (sSeq (sSet 1 (eLst aNil))
    (sSeq (sFor (fIt (vCons (fBlt (bOne dLen) (vCons (eVar 0) aNil)) aNil) rng1) (gN 2) (sSeq (sSetF 3 (eC (.int 0)))
    (sSeq (sFor (fIt (vCons (fBlt (bOne dLen) (vCons (eVar 0) aNil)) aNil) rng1) (gN 4) (sIf (fB (fBin dEq (fBin dAnd (fBin dShr (fBin dIx (eVar 0) (eVar 4)) (eVar 2)) (eC (.int 1))) (eC (.int 1)))) (sSetF 3 (fBin dOr (eVar 3) (fBin dShl (eC (.int 1)) (eVar 4)))) sNx))
    (sMut 1 hAppend (aCons (eVar 3) aNil)))))
    (sRetv 1)))
def F__law_turned : List D → O R := fnD 5 1 f__law_turned
def f__law_kind_k55 : Ev → SO := (sSeq (sSetF 1 (eLst (aCons (fMap (dIsi "NoChain") (eVar 0)) (aCons (fMap (dIsi "NoClimb") (eVar 0)) (aCons (fMap (dIsi "NoCount") (eVar 0)) (aCons (fMap (dIsi "NoEnds") (eVar 0)) aNil))))))
    (sSeq (sSetF 1 (fBin dAdd (eVar 1) (eLst (aCons (fMap (dIsi "NoExchange") (eVar 0)) (aCons (fMap (dIsi "NoJoin") (eVar 0)) (aCons (fMap (dIsi "NoLine") (eVar 0)) (aCons (fMap (dIsi "NoName") (eVar 0)) aNil)))))))
    (sSeq (sSetF 1 (fBin dAdd (eVar 1) (eLst (aCons (fMap (dIsi "NoNumber") (eVar 0)) (aCons (fMap (dIsi "NoOrder") (eVar 0)) (aCons (fMap (dIsi "NoPart") (eVar 0)) (aCons (fMap (dIsi "NotEven") (eVar 0)) aNil)))))))
    (sSeq (sSetF 1 (fBin dAdd (eVar 1) (eLst (aCons (fMap (dIsi "NoText") (eVar 0)) (aCons (fMap (dIsi "NoThing") (eVar 0)) (aCons (fMap (dIsi "NoWord") (eVar 0)) aNil))))))
    (sSeq (sIf (fOr (fNot (fB (fMap (dIsi "ValueError") (eVar 0)))) (fOr (fNot (fB (fMap (dIsi "ClimbError") (eVar 0)))) (fB (fBin dNe (fBlt (bOne dLen) (vCons (eComp [3] (iSeqF (eVar 1)) (gN 3) (fB (eVar 3)) (eVar 3)) aNil)) (eC (.int 1)))))) (sRet (eC (.str "other"))) sNx)
    (sSeq (sSetF 2 (eLst (aCons (eC (.str "NoChain")) (aCons (eC (.str "NoClimb")) (aCons (eC (.str "NoCount")) (aCons (eC (.str "NoEnds")) (aCons (eC (.str "NoExchange")) (aCons (eC (.str "NoJoin")) (aCons (eC (.str "NoLine")) (aCons (eC (.str "NoName")) (aCons (eC (.str "NoNumber")) aNil)))))))))))
    (sSeq (sSetF 2 (fBin dAdd (eVar 2) (eLst (aCons (eC (.str "NoOrder")) (aCons (eC (.str "NoPart")) (aCons (eC (.str "NotEven")) (aCons (eC (.str "NoText")) (aCons (eC (.str "NoThing")) (aCons (eC (.str "NoWord")) aNil)))))))))
    (sRet (fBin dIx (eVar 2) (fLindex (eVar 1) (eC (.bl true))))))))))))
def F__law_kind_k55 : List D → O R := fnD 4 1 f__law_kind_k55
def f__law_number_of : Ev → SO := (sSeq (sIf (fB (fBin dEq (fBin dMod (fBin dIx (eVar 0) (eC (.int 0))) (eC (.int 3))) (eC (.int 0)))) (sRet (fBin dAdd (eC (.int 1)) (fBin dMod (fBin dIx (eVar 0) (eC (.int 1))) (eC (.int 1000))))) sNx)
    (sSeq (sIf (fB (fBin dEq (fBin dMod (fBin dIx (eVar 0) (eC (.int 0))) (eC (.int 3))) (eC (.int 1)))) (sRet (fBin dAdd (eC (.int 1)) (fBin dMod (fBin dAdd (fBin dMul (fBin dIx (eVar 0) (eC (.int 1))) (eC (.int 1000003))) (fBin dIx (eVar 0) (eC (.int 2)))) (eC (.int 1000000))))) sNx)
    (sSeq (sSetF 1 (eC (.int 1)))
    (sSeq (sFor (fIt (vCons (eC (.int 6)) aNil) rng1) (gN 2) (sSeq (sSetF 3 (fBin dIx (eLst (aCons (eC (.int 2)) (aCons (eC (.int 3)) (aCons (eC (.int 2)) (aCons (eC (.int 5)) (aCons (eC (.int 7)) (aCons (eC (.int 11)) (aCons (eC (.int 13)) (aCons (eC (.int 997)) aNil))))))))) (fBin dMod (fBin dFdiv (fBin dIx (eVar 0) (eC (.int 1))) (fBin dIx (eLst (aCons (eC (.int 1)) (aCons (eC (.int 8)) (aCons (eC (.int 64)) (aCons (eC (.int 512)) (aCons (eC (.int 4096)) (aCons (eC (.int 32768)) aNil))))))) (eVar 2))) (eC (.int 8)))))
    (sIf (fB (fBin dLe (fBin dMul (eVar 1) (eVar 3)) (eC (.int 1000000)))) (sSetF 1 (fBin dMul (eVar 1) (eVar 3))) sNx)))
    (sRetv 1)))))
def F__law_number_of : List D → O R := fnD 4 1 f__law_number_of
def f__law_dividers : Ev → SO := (sSeq (sSetF 1 (eLst (aCons (eC (.int 1)) aNil)))
    (sSeq (sSetF 2 (eVar 0))
    (sSeq (sSetF 3 (eC (.int 2)))
    (sSeq (whileL (fB (fBin dGt (eVar 2) (eC (.int 1)))) (sSeq (sIf (fB (fBin dGt (fBin dMul (eVar 3) (eVar 3)) (eVar 2))) (sSetF 3 (eVar 2)) sNx)
    (sSeq (sSetF 4 (eC (.int 1)))
    (sSeq (sSetF 5 (fBlt (bOne dList) (vCons (eVar 1) aNil)))
    (sSeq (whileL (fB (fBin dEq (fBin dMod (eVar 2) (eVar 3)) (eC (.int 0)))) (sSeq (sSetF 2 (fBin dFdiv (eVar 2) (eVar 3)))
    (sSeq (sSetF 4 (fBin dMul (eVar 4) (eVar 3)))
    (sSetF 5 (fBin dAdd (eVar 5) (eComp [6] (iSeqF (eVar 1)) (gN 6) fYes (fBin dMul (eVar 6) (eVar 4))))))) 1000000000000)
    (sSeq (sSetF 1 (eVar 5))
    (sSetF 3 (fBin dAdd (eVar 3) (eC (.int 1))))))))) 1000000000000)
    (sRet (fBlt (bOne dSortI) (vCons (eVar 1) aNil)))))))
def F__law_dividers : List D → O R := fnD 7 1 f__law_dividers
def f__law_word_number : Ev → SO := (sSeq (sIf (fOr (fB (fBin dEq (eVar 0) (eC (.str "")))) (fB (fBin dGt (fBlt (bOne dLen) (vCons (eComp [1] (iSeqF (eVar 0)) (gN 1) (fB (fBin dNin (eVar 1) (eC (.str "0123456789")))) (eVar 1)) aNil)) (eC (.int 0))))) (sRet (eC .non)) sNx)
    (sSeq (sIf (fAnd (fB (fBin dEq (fBin dIx (eVar 0) (eC (.int 0))) (eC (.str "0")))) (fB (fBin dNe (eVar 0) (eC (.str "0"))))) (sRet (eC .non)) sNx)
    (sRet (fBlt (bOne dInt) (vCons (eVar 0) aNil)))))
def F__law_word_number : List D → O R := fnD 2 1 f__law_word_number
def f__law_count (Fr : List D → O R) : Ev → SO := (sSeq (sIf (fB (fBin dEq (eVar 1) (eVar 2))) (sRet (eC (.int 1))) sNx)
    (sSeq (sIf (fB (fBin dNin (eVar 1) (eVar 3))) (sPutL 3 (eVar 1) (fBlt (bOne dSum) (vCons (eComp [4] (fIt (vCons (fBlt (bOne dLen) (vCons (eVar 0) aNil)) aNil) rng1) (gN 4) (fB (fCall F__law_is_step (aCons (eVar 0) (aCons (eVar 1) (aCons (eVar 4) aNil))))) (fCall Fr (aCons (eVar 0) (aCons (eVar 4) (aCons (eVar 2) (aCons (eVar 3) aNil)))))) aNil))) sNx)
    (sRet (fBin dIx (eVar 3) (eVar 1)))))
def G__law_count : Nat → List D → O R
  | 0 => fun _ => .no
  | n + 1 => fnD 5 4 (f__law_count (G__law_count n))
def F__law_count : List D → O R := G__law_count 6
theorem aryr__law_count : ∀ n, Ary 4 (G__law_count n)
  | 0 => fun _ _ => rfl
  | n + 1 => fnD_ary _ _ _
def f__law_heights : Ev → SO := (sSeq (sSetF 1 (eComp [4, 5] (iSeqF (fCall F__law_pairs_k51 (aCons (eVar 0) aNil))) (gS 2 (gCons (gN 4) (gCons (gN 5) gNil))) (fB (fCall F__law_is_step (aCons (eVar 0) (aCons (eVar 4) (aCons (eVar 5) aNil))))) (eTup (aCons (eVar 4) (aCons (eVar 5) aNil)))))
    (sSeq (sSet 2 (eComp [6] (iSeqF (eVar 0)) (gN 6) fYes (eC (.int 0))))
    (sSeq (sFor (fIt (vCons (fBlt (bOne dLen) (vCons (eVar 0) aNil)) aNil) rng1) (gN 3) (sFor (iSeqF (eVar 1)) (gS 2 (gCons (gN 4) (gCons (gN 5) gNil))) (sPutL 2 (eVar 5) (fBlt (bMax) (vCons (fBin dIx (eVar 2) (eVar 5)) (vCons (fBin dAdd (fBin dIx (eVar 2) (eVar 4)) (eC (.int 1))) aNil))))))
    (sFz 2 (sSeq (sFor (iSeqF (eVar 1)) (gS 2 (gCons (gN 4) (gCons (gN 5) gNil))) (sIf (fB (fBin dNe (fBin dIx (eVar 2) (eVar 5)) (fBin dAdd (fBin dIx (eVar 2) (eVar 4)) (eC (.int 1))))) (sRet (eC .non)) sNx))
    (sSeq (sFor (fIt (vCons (fBlt (bOne dLen) (vCons (eVar 0) aNil)) aNil) rng1) (gN 4) (sFor (fIt (vCons (eVar 4) aNil) rng1) (gN 5) (sIf (fB (fBin dNe (fBin dAdd (fBin dIx (eVar 2) (fCall F__law_join_k52 (aCons (eVar 0) (aCons (eVar 4) (aCons (eVar 5) aNil))))) (fBin dIx (eVar 2) (fCall F__law_meet_k52 (aCons (eVar 0) (aCons (eVar 4) (aCons (eVar 5) aNil)))))) (fBin dAdd (fBin dIx (eVar 2) (eVar 4)) (fBin dIx (eVar 2) (eVar 5))))) (sRet (eC .non)) sNx)))
    (sRetv 2)))))))
def F__law_heights : List D → O R := fnD 7 1 f__law_heights
def f__law_is_five_k81 : Ev → SO := (sSeq (sIf (fOr (fB (fBin dNe (fBlt (bOne dLen) (vCons (eVar 1) aNil)) (eC (.int 5)))) (fOr (fB (fBin dIn (eC .non) (eVar 1))) (fB (fBin dGe (fBlt (bMax) (vCons (eVar 1) aNil)) (fBlt (bOne dLen) (vCons (eVar 0) aNil)))))) (sRet (eC (.bl false))) sNx)
    (sSeq (sAsg (gS 5 (gCons (gN 2) (gCons (gN 3) (gCons (gN 4) (gCons (gN 5) (gCons (gN 6) gNil)))))) (eVar 1))
    (sSeq (sIf (fOr (fB (fBin dEq (eVar 3) (eVar 5))) (fOr (fB (fBin dEq (fBin dAnd (fBin dShr (fBin dIx (eVar 0) (eVar 3)) (eVar 5)) (eC (.int 1))) (eC (.int 0)))) (fOr (fB (fBin dEq (fBin dAnd (fBin dShr (fBin dIx (eVar 0) (eVar 4)) (eVar 5)) (eC (.int 1))) (eC (.int 1)))) (fB (fBin dEq (fBin dAnd (fBin dShr (fBin dIx (eVar 0) (eVar 3)) (eVar 4)) (eC (.int 1))) (eC (.int 1))))))) (sRet (eC (.bl false))) sNx)
    (sSeq (sIf (fOr (fB (fBin dNe (fCall F__law_join_k52 (aCons (eVar 0) (aCons (eVar 3) (aCons (eVar 4) aNil)))) (eVar 6))) (fB (fBin dNe (fCall F__law_join_k52 (aCons (eVar 0) (aCons (eVar 5) (aCons (eVar 4) aNil)))) (eVar 6)))) (sRet (eC (.bl false))) sNx)
    (sRet (eAnd (fBin dEq (fCall F__law_meet_k52 (aCons (eVar 0) (aCons (eVar 3) (aCons (eVar 4) aNil)))) (eVar 2)) (fBin dEq (fCall F__law_meet_k52 (aCons (eVar 0) (aCons (eVar 5) (aCons (eVar 4) aNil)))) (eVar 2))))))))
def F__law_is_five_k81 : List D → O R := fnD 7 2 f__law_is_five_k81
def f__law_done : Ev → SO := (sIf (fB (fBin dIs (fBin dIx (eVar 1) (eC (.int 1))) (eC .non))) (sPop 0 (fBin dIx (eVar 1) (eC (.int 0)))) (sPutL 0 (fBin dIx (eVar 1) (eC (.int 0))) (fBin dIx (eVar 1) (eC (.int 1)))))
def F__law_done : List D → O R := fnD 2 2 f__law_done
end Ev

/-! Xa: plain mathematics: bits, the closure of pairs (Warshall), orders with joins and meets. No program in sight. -/
namespace Ev

theorem testBit_two_pow_eq (m i : Nat) : (2 ^ m).testBit i = decide (m = i) := by
  rw [Nat.testBit_two_pow]
theorem testBit_shl1 (m i : Nat) : (1 <<< m).testBit i = decide (m = i) := by
  rw [Nat.one_shiftLeft, Nat.testBit_two_pow]

/-- the mask of those below n that p holds of -/
def rowOf : Nat → (Nat → Bool) → Nat
  | 0, _ => 0
  | k + 1, p => rowOf k p ||| (if p k then 1 <<< k else 0)
theorem testBit_rowOf (p : Nat → Bool) (i : Nat) : ∀ n, (rowOf n p).testBit i = (decide (i < n) && p i)
  | 0 => by simp [rowOf]
  | k + 1 => by
    rw [rowOf, Nat.testBit_or, testBit_rowOf p i k]
    by_cases h : p k
    · rw [if_pos h, testBit_shl1]
      by_cases e : k = i
      · subst e; simp [h]
      · rw [decide_eq_false e, Bool.or_false]
        have : decide (i < k) = decide (i < k + 1) := by
          apply decide_eq_decide.mpr; omega
        rw [this]
    · rw [if_neg h, Nat.zero_testBit, Bool.or_false]
      by_cases e : k = i
      · subst e; simp [h]
      · have : decide (i < k) = decide (i < k + 1) := by
          apply decide_eq_decide.mpr; omega
        rw [this]
theorem rowOf_congr {p q : Nat → Bool} {n : Nat} (h : ∀ i, i < n → p i = q i) : rowOf n p = rowOf n q := by
  apply Nat.eq_of_testBit_eq
  intro i
  rw [testBit_rowOf, testBit_rowOf]
  by_cases hi : i < n
  · rw [h i hi]
  · simp [hi]

/-- the relation that rows of bits tell -/
def rel (A : List Nat) (i j : Nat) : Bool := (A.getD i 0).testBit j
theorem rel_set {A : List Nat} {i m k j : Nat} (h : i < A.length) : rel (A.set i (A.getD i 0 ||| m)) k j = (rel A k j || (decide (k = i) && m.testBit j)) := by
  unfold rel
  by_cases e : k = i
  · subst e
    rw [List.getD_eq_getElem?_getD, List.getElem?_set_self h, Option.getD_some, Nat.testBit_or]
    simp
  · rw [List.getD_eq_getElem?_getD, List.getElem?_set_ne (Ne.symm e), ← List.getD_eq_getElem?_getD]
    simp [e]
theorem rows_ext {A : List Nat} {n : Nat} {p : Nat → Nat → Bool} (hl : A.length = n) (h : ∀ i j, i < n → rel A i j = (decide (j < n) && p i j)) : A = (List.range n).map fun a => rowOf n (p a) := by
  apply List.ext_getElem
  · simp [hl]
  · intro i h1 h2
    rw [List.getElem_map, List.getElem_range]
    apply Nat.eq_of_testBit_eq
    intro j
    have := h i j (by omega)
    unfold rel at this
    rw [List.getD_eq_getElem?_getD, List.getElem?_eq_getElem h1, Option.getD_some] at this
    rw [this, testBit_rowOf]
theorem rel_rows {n i j : Nat} {p : Nat → Nat → Bool} (hi : i < n) : rel ((List.range n).map fun a => rowOf n (p a)) i j = (decide (j < n) && p i j) := by
  unfold rel
  rw [List.getD_eq_getElem?_getD, List.getElem?_map, List.getElem?_range hi]
  simp only [Option.map_some, Option.getD_some]
  rw [testBit_rowOf]

/-! ### the closure of pairs -/
def co0 (n : Nat) : List Nat := (List.range n).map fun i => 1 <<< i
def coPair (A : List Nat) (p : Nat × Nat) : List Nat := A.set p.1 (A.getD p.1 0 ||| 1 <<< p.2)
def coStep (k : Nat) (A : List Nat) (i : Nat) : List Nat := if (A.getD i 0).testBit k then A.set i (A.getD i 0 ||| A.getD k 0) else A
def coThr (n : Nat) (A : List Nat) (k : Nat) : List Nat := (List.range n).foldl (coStep k) A
def carried (n : Nat) (ps : List (Nat × Nat)) : List Nat := (List.range n).foldl (coThr n) (ps.foldl coPair (co0 n))

theorem co0_length (n : Nat) : (co0 n).length = n := by simp [co0]
theorem coPair_length (A : List Nat) (p : Nat × Nat) : (coPair A p).length = A.length := by simp [coPair]
theorem coStep_length (k : Nat) (A : List Nat) (i : Nat) : (coStep k A i).length = A.length := by
  unfold coStep; split <;> simp
theorem foldl_length {α : Type} {f : List Nat → α → List Nat} (h : ∀ A x, (f A x).length = A.length) : ∀ (xs : List α) (A : List Nat), (xs.foldl f A).length = A.length
  | [], _ => rfl
  | x :: xs, A => by rw [List.foldl_cons, foldl_length h xs, h]
theorem coThr_length (n : Nat) (A : List Nat) (k : Nat) : (coThr n A k).length = A.length := foldl_length (coStep_length k) _ A
theorem carried_length (n : Nat) (ps : List (Nat × Nat)) : (carried n ps).length = n := by
  unfold carried
  rw [foldl_length (coThr_length n), foldl_length coPair_length, co0_length]

theorem rel_co0 {n i j : Nat} : rel (co0 n) i j = (decide (i < n) && decide (i = j)) := by
  unfold rel co0
  by_cases h : i < n
  · rw [List.getD_eq_getElem?_getD, List.getElem?_map, List.getElem?_range h]
    simp only [Option.map_some, Option.getD_some]
    rw [testBit_shl1]; simp [h]
  · rw [List.getD_eq_getElem?_getD, List.getElem?_eq_none (by simp; omega)]
    simp [h]
/-- what the pairs add -/
theorem rel_pairs {n : Nat} : ∀ (ps : List (Nat × Nat)) (A : List Nat), A.length = n → (∀ p ∈ ps, p.1 < n ∧ p.2 < n) → ∀ i j, rel (ps.foldl coPair A) i j = (rel A i j || decide ((i, j) ∈ ps))
  | [], A, _, _, i, j => by simp
  | p :: ps, A, hA, h, i, j => by
    rw [List.foldl_cons, rel_pairs ps (coPair A p) (by rw [coPair_length, hA]) (fun q hq => h q (List.mem_cons_of_mem _ hq))]
    unfold coPair
    rw [rel_set (by rw [hA]; exact (h p List.mem_cons_self).1), testBit_shl1, Bool.or_assoc]
    congr 1
    obtain ⟨a, b⟩ := p
    by_cases e : (i, j) = (a, b)
    · cases e; simp
    · have e' : ¬ (i = a ∧ b = j) := fun ⟨x, y⟩ => e (by rw [x, y])
      by_cases e1 : i = a
      · have e2 : b ≠ j := fun y => e' ⟨e1, y⟩
        have e3 : j ≠ b := fun y => e2 y.symm
        simp [e1, e2, e3]
      · simp [e1]
/-- one stage: the rows ahead of m are done -/
theorem rel_stage {n k : Nat} {A : List Nat} (hA : A.length = n) (hk : k < n) (hr : rel A k k = true) : ∀ m, m ≤ n → ∀ i j, rel ((List.range m).foldl (coStep k) A) i j = (rel A i j || (decide (i < m) && rel A i k && rel A k j))
  | 0, _, i, j => by simp
  | m + 1, hm, i, j => by
    have ih := rel_stage hA hk hr m (by omega)
    have hB : ((List.range m).foldl (coStep k) A).length = n := by rw [foldl_length (coStep_length k), hA]
    rw [List.range_succ, List.foldl_append, List.foldl_cons, List.foldl_nil]
    generalize (List.range m).foldl (coStep k) A = B at ih hB
    unfold coStep
    have kk : ∀ j, rel B k j = rel A k j := by
      intro j
      rw [ih k j, hr]
      cases rel A k j <;> simp
    have mm : rel B m k = rel A m k := by
      rw [ih m k, hr]
      cases rel A m k <;> simp
    have hmk : (B.getD m 0).testBit k = rel A m k := mm
    rw [hmk]
    by_cases h : rel A m k = true
    · rw [if_pos h, rel_set (by omega), ih i j]
      have : (B.getD k 0).testBit j = rel A k j := kk j
      rw [this]
      by_cases e : i = m
      · subst e
        simp [h]
      · have : decide (i < m + 1) = decide (i < m) := by apply decide_eq_decide.mpr; omega
        rw [this]; simp [e]
    · rw [if_neg h, ih i j]
      by_cases e : i = m
      · subst e
        simp [h]
      · have : decide (i < m + 1) = decide (i < m) := by apply decide_eq_decide.mpr; omega
        rw [this]
/-- what is kept by all stages -/
structure Clo (n : Nat) (R : Nat → Nat → Bool) (A : List Nat) : Prop where
  len : A.length = n
  lt : ∀ i j, rel A i j = true → i < n ∧ j < n
  rf : ∀ i, i < n → rel A i i = true
  sub : ∀ i j, R i j = true → rel A i j = true
theorem carried_clo {n : Nat} (ps : List (Nat × Nat)) (h : ∀ p ∈ ps, p.1 < n ∧ p.2 < n) (k : Nat) (hk : k ≤ n) :
    let A := (List.range k).foldl (coThr n) (ps.foldl coPair (co0 n))
    Clo n (fun i j => decide ((i, j) ∈ ps)) A ∧ (∀ t, t < k → ∀ i j, rel A i t = true → rel A t j = true → rel A i j = true) ∧
    ∀ S : Nat → Nat → Prop, (∀ i, i < n → S i i) → (∀ p ∈ ps, S p.1 p.2) → (∀ i j k, S i j → S j k → S i k) → ∀ i j, rel A i j = true → S i j := by
  induction k with
  | zero =>
    have e : ∀ i j, rel (ps.foldl coPair (co0 n)) i j = ((decide (i < n) && decide (i = j)) || decide ((i, j) ∈ ps)) := fun i j => by
      rw [rel_pairs ps (co0 n) (co0_length n) h, rel_co0]
    refine ⟨⟨by simp [foldl_length coPair_length, co0_length], fun i j q => ?_, fun i q => ?_, fun i j q => ?_⟩, fun t ht => absurd ht (Nat.not_lt_zero t), fun S s1 s2 s3 i j q => ?_⟩
    · simp only [List.range_zero, List.foldl_nil] at q
      rw [e] at q
      simp only [Bool.or_eq_true, Bool.and_eq_true, decide_eq_true_eq] at q
      rcases q with ⟨a, b⟩ | q
      · omega
      · exact h _ q
    · simp only [List.range_zero, List.foldl_nil]; rw [e]; simp [q]
    · simp only [List.range_zero, List.foldl_nil]; rw [e]; simp only [decide_eq_true_eq] at q; simp [q]
    · simp only [List.range_zero, List.foldl_nil] at q
      rw [e] at q
      simp only [Bool.or_eq_true, Bool.and_eq_true, decide_eq_true_eq] at q
      rcases q with ⟨a, b⟩ | q
      · subst b; exact s1 i a
      · exact s2 _ q
  | succ k ih =>
    obtain ⟨c, t, m⟩ := ih (by omega)
    simp only [List.range_succ, List.foldl_append, List.foldl_cons, List.foldl_nil]
    generalize (List.range k).foldl (coThr n) (ps.foldl coPair (co0 n)) = A at c t m
    have e : ∀ i j, rel (coThr n A k) i j = (rel A i j || (rel A i k && rel A k j)) := by
      intro i j
      unfold coThr
      rw [rel_stage c.len (by omega) (c.rf k (by omega)) n (Nat.le_refl n)]
      by_cases hi : i < n
      · simp [hi]
      · have : rel A i k = false := by
          cases q : rel A i k with
          | false => rfl
          | true => exact absurd (c.lt i k q).1 hi
        simp [this]
    have e' : ∀ i j, rel (coThr n A k) i j = true ↔ (rel A i j = true ∨ (rel A i k = true ∧ rel A k j = true)) := by
      intro i j; rw [e]; simp
    refine ⟨⟨by rw [coThr_length, c.len], fun i j q => ?_, fun i q => ?_, fun i j q => ?_⟩, fun x hx i j q1 q2 => ?_, fun S s1 s2 s3 i j q => ?_⟩
    · rcases (e' i j).mp q with q | ⟨q1, q2⟩
      · exact c.lt i j q
      · exact ⟨(c.lt _ _ q1).1, (c.lt _ _ q2).2⟩
    · exact (e' _ _).mpr (.inl (c.rf i q))
    · exact (e' _ _).mpr (.inl (c.sub i j q))
    · rw [e'] at q1 q2 ⊢
      by_cases hk : x = k
      · subst hk
        have a : rel A i x = true := by rcases q1 with q | q; exact q; exact q.1
        have b : rel A x j = true := by rcases q2 with q | q; exact q; exact q.2
        exact .inr ⟨a, b⟩
      · have hx : x < k := by omega
        rcases q1 with a | ⟨a, a'⟩ <;> rcases q2 with b | ⟨b, b'⟩
        · exact .inl (t x hx i j a b)
        · exact .inr ⟨t x hx i k a b, b'⟩
        · exact .inr ⟨a, t x hx k j a' b⟩
        · exact .inr ⟨a, b'⟩
    · rcases (e' i j).mp q with q | ⟨q1, q2⟩
      · exact m S s1 s2 s3 i j q
      · exact s3 _ _ _ (m S s1 s2 s3 i k q1) (m S s1 s2 s3 k j q2)
/-- the closure: the least relation with all pairs that is carried on -/
structure IsClo (n : Nat) (ps : List (Nat × Nat)) (le : Nat → Nat → Bool) : Prop where
  lt : ∀ i j, le i j = true → i < n ∧ j < n
  rf : ∀ i, i < n → le i i = true
  tr : ∀ i j k, le i j = true → le j k = true → le i k = true
  sub : ∀ p ∈ ps, le p.1 p.2 = true
  least : ∀ S : Nat → Nat → Prop, (∀ i, i < n → S i i) → (∀ p ∈ ps, S p.1 p.2) → (∀ i j k, S i j → S j k → S i k) → ∀ i j, le i j = true → S i j
theorem carried_is {n : Nat} (ps : List (Nat × Nat)) (h : ∀ p ∈ ps, p.1 < n ∧ p.2 < n) : IsClo n ps (rel (carried n ps)) := by
  obtain ⟨c, t, m⟩ := carried_clo ps h n (Nat.le_refl n)
  exact ⟨c.lt, c.rf, fun i j k a b => t j (c.lt i j a).2 i k a b, fun p hp => c.sub p.1 p.2 (by simpa using hp), m⟩
theorem IsClo.eq {n : Nat} {ps qs : List (Nat × Nat)} {R S : Nat → Nat → Bool} (a : IsClo n ps R) (b : IsClo n qs S) (h1 : ∀ p ∈ ps, S p.1 p.2 = true) (h2 : ∀ p ∈ qs, R p.1 p.2 = true) : R = S := by
  funext i j
  rw [Bool.eq_iff_iff]
  exact ⟨a.least (fun i j => S i j = true) b.rf h1 b.tr i j, b.least (fun i j => R i j = true) a.rf h2 a.tr i j⟩
/-- a relation that is carried on and comes of the pairs alone is what is reckoned -/
theorem carried_eq {n : Nat} {ps : List (Nat × Nat)} {le : Nat → Nat → Bool} (c : IsClo n ps le) : carried n ps = (List.range n).map fun a => rowOf n (le a) := by
  have h : ∀ p ∈ ps, p.1 < n ∧ p.2 < n := fun p hp => c.lt _ _ (c.sub p hp)
  have e := (carried_is ps h).eq c c.sub (fun p hp => (carried_is ps h).sub p hp)
  refine rows_ext (carried_length n ps) fun i j hi => ?_
  rw [e]
  by_cases hj : j < n
  · simp [hj]
  · cases q : le i j with
    | false => simp
    | true => exact absurd (c.lt i j q).2 hj
end Ev

/-! Xb: masks that are shut under what two have in common, with a greatest one: an order with joins and meets. -/
namespace Ev
structure Good (ms : List Nat) : Prop where
  nd : ms.Nodup
  cl : ∀ a ∈ ms, ∀ b ∈ ms, a &&& b ∈ ms
  top : ∃ t ∈ ms, ∀ a ∈ ms, a &&& t = a
  len : ms.length ≤ 24
  lt : ∀ x ∈ ms, x < 2147483648
def GoodD (ms : List Nat) : Prop := ms.Nodup ∧ (∀ a ∈ ms, ∀ b ∈ ms, a &&& b ∈ ms) ∧ (∃ t ∈ ms, ∀ a ∈ ms, a &&& t = a) ∧ ms.length ≤ 24 ∧ ∀ x ∈ ms, x < 2147483648
instance (ms : List Nat) : Decidable (GoodD ms) := by unfold GoodD; infer_instance
theorem GoodD.good {ms : List Nat} (h : GoodD ms) : Good ms := ⟨h.1, h.2.1, h.2.2.1, h.2.2.2.1, h.2.2.2.2⟩
theorem Good.perm {ms ns : List Nat} (h : Good ms) (p : ms.Perm ns) : Good ns := by
  obtain ⟨t, ht, hs⟩ := h.top
  exact ⟨p.nodup_iff.mp h.nd, fun a ha b hb => p.mem_iff.mp (h.cl a (p.mem_iff.mpr ha) b (p.mem_iff.mpr hb)), ⟨t, p.mem_iff.mp ht, fun a ha => hs a (p.mem_iff.mpr ha)⟩, by rw [← p.length_eq]; exact h.len, fun x hx => h.lt x (p.mem_iff.mpr hx)⟩
theorem Good.pos {ms : List Nat} (h : Good ms) : 0 < ms.length := by
  obtain ⟨t, ht, _⟩ := h.top
  exact List.length_pos_of_mem ht
def flowerN (m : Nat) : List Nat := [0] ++ (List.replicate (if 1 < m then 1 else 0) ((List.range m).map (1 <<< ·))).flatten ++ [(1 <<< m) - 1]
def stackN (a b : List Nat) (k : Nat) : List Nat := a ++ (b.drop 1).map fun m => a.getLastD 0 ||| m <<< k
def besideN (a b : List Nat) : List Nat := a.flatMap fun x => b.map fun y => x ||| y <<< 10
def fieldsN : List Nat := [1, 255, 3, 5, 9, 17, 33, 65, 129, 85, 51, 153, 15, 165, 195, 105]
theorem good_stack3 : ∀ i < 5, ∀ j < 5, ∀ k < 4, GoodD (stackN (stackN (flowerN (1 + i)) (flowerN (1 + j)) 10) (flowerN (1 + k)) 20) := by decide +kernel
theorem good_fields : GoodD fieldsN := by decide +kernel
theorem good_row : ∀ i < 4, ∀ j < 6, GoodD (besideN ([0, 1, 3, 7].take (1 + i)) ([0, 1, 3, 7, 15, 31].take (1 + j))) := by decide +kernel
theorem good_rowf : ∀ i < 4, ∀ j < 4, GoodD (besideN ([0, 1, 3, 7].take (1 + i)) (flowerN (1 + j))) := by decide +kernel
theorem good_ringr : ∀ j < 4, GoodD (besideN ([0, 1, 3, 7].take (1 + j)) [0, 1, 2, 6, 7]) ∧ GoodD (besideN ([0, 1, 3, 7].take (1 + j)) [0, 1, 3, 4, 12, 15]) := by decide +kernel
theorem good_rings : ∀ j < 5, GoodD (stackN [0, 1, 2, 6, 7] (flowerN (1 + j)) 10) ∧ GoodD (stackN [0, 1, 3, 4, 12, 15] (flowerN (1 + j)) 10) := by decide +kernel
end Ev
namespace Ev
theorem eraseIdx_map {α β : Type} (f : α → β) : ∀ (l : List α) (i : Nat), (l.map f).eraseIdx i = (l.eraseIdx i).map f
  | [], _ => rfl
  | _ :: _, 0 => rfl
  | x :: l, i + 1 => by rw [List.map_cons, List.eraseIdx_cons_succ, List.eraseIdx_cons_succ, List.map_cons, eraseIdx_map f l i]
theorem perm_eraseIdx {α : Type} : ∀ (l : List α) (i : Nat) (h : i < l.length), (l[i] :: l.eraseIdx i).Perm l
  | [], _, h => absurd h (Nat.not_lt_zero _)
  | x :: l, 0, _ => List.Perm.refl _
  | x :: l, i + 1, h => by
    rw [List.getElem_cons_succ, List.eraseIdx_cons_succ]
    exact (List.Perm.swap x _ _).trans ((perm_eraseIdx l i (by simpa using h)).cons x)
end Ev

/-! SA1: the helpers of the laws k01 to k46, reckoned. -/
namespace Ev
open PySem PySem.Spec L2 DL
theorem mixed_spec (c : Int) (k : Nat) : ∃ r : Nat, r < 2147483587 ∧ F__law_mixed [.int c, .int k] = .ok (.sh (.int r)) := by
  have h : ∃ r, F__law_mixed [.int c, .int k] = .ok r ∧ ∃ i : Nat, i < 2147483587 ∧ r = .sh (.int i) := by
    refine fn_rt rfl ?_
    unfold f__law_mixed
    simp -implicitDefEqProofs only [DL.evB, DL.evI, Int.reduceLT, Int.reduceLE, Int.reduceNeg, Int.reduceToNat, Int.reducePow, beq_self_eq_true, DL.no6_look_two, DL.no6_at_most, DL.no6_join, DL.no6_meet, DL.no6_lowest, DL.no6_highest, DL.no3_look_order, not_false_eq_true, and_self, true_and, and_true, reduceIte, Bool.false_eq_true, List.length_map, List.length_range, List.length_append, List.getElem?_cons_zero, List.getElem?_cons_succ, List.set_cons_zero, List.set_cons_succ, fzE, wipeE, Option.bind_some, Option.map_some, List.length_cons, List.length_nil, cond_true, cond_false, Nat.reduceAdd, Nat.reduceLeDiff, Nat.zero_add, if_true, if_false, eq_self, bOne, Nat.reduceLT, Nat.reduceEqDiff, List.map_cons, List.map_nil, List.cons_append, List.nil_append, List.replicate, Nat.reduceSub, decide_true, decide_false, Bool.not_true, Bool.not_false]
    generalize hx : (c % 2147483629 * 16807 + 69621 * (k : Int) + 11) % 2147483629 = x
    have hx1 : 0 ≤ x := by omega
    have hx2 : x < 2147483629 := by omega
    simp -implicitDefEqProofs only [DL.evB, DL.evI, Int.reduceLT, Int.reduceLE, Int.reduceNeg, Int.reduceToNat, Int.reducePow, beq_self_eq_true, DL.no6_look_two, DL.no6_at_most, DL.no6_join, DL.no6_meet, DL.no6_lowest, DL.no6_highest, DL.no3_look_order, not_false_eq_true, and_self, true_and, and_true, reduceIte, Bool.false_eq_true, List.length_map, List.length_range, List.length_append, List.getElem?_cons_zero, List.getElem?_cons_succ, List.set_cons_zero, List.set_cons_succ, fzE, wipeE, Option.bind_some, Option.map_some, List.length_cons, List.length_nil, cond_true, cond_false, Nat.reduceAdd, Nat.reduceLeDiff, Nat.zero_add, if_true, if_false, eq_self, bOne, Nat.reduceLT, Nat.reduceEqDiff, List.map_cons, List.map_nil, List.cons_append, List.nil_append, List.replicate, Nat.reduceSub, decide_true, decide_false, Bool.not_true, Bool.not_false, mul_int (i := x) (j := x) (.inl ⟨by omega, by omega⟩)]
    generalize hy : (x * x + 48271 * (k : Int) + 7) % 2147483629 = y
    have hy1 : 0 ≤ y := by omega
    have hy2 : y < 2147483629 := by omega
    simp -implicitDefEqProofs only [DL.evB, DL.evI, Int.reduceLT, Int.reduceLE, Int.reduceNeg, Int.reduceToNat, Int.reducePow, beq_self_eq_true, DL.no6_look_two, DL.no6_at_most, DL.no6_join, DL.no6_meet, DL.no6_lowest, DL.no6_highest, DL.no3_look_order, not_false_eq_true, and_self, true_and, and_true, reduceIte, Bool.false_eq_true, List.length_map, List.length_range, List.length_append, List.getElem?_cons_zero, List.getElem?_cons_succ, List.set_cons_zero, List.set_cons_succ, fzE, wipeE, Option.bind_some, Option.map_some, List.length_cons, List.length_nil, cond_true, cond_false, Nat.reduceAdd, Nat.reduceLeDiff, Nat.zero_add, if_true, if_false, eq_self, bOne, Nat.reduceLT, Nat.reduceEqDiff, List.map_cons, List.map_nil, List.cons_append, List.nil_append, List.replicate, Nat.reduceSub, decide_true, decide_false, Bool.not_true, Bool.not_false, mul_int (i := y) (j := y) (.inl ⟨by omega, by omega⟩)]
    have h1 : 0 ≤ (y * y + 69621) % 2147483587 := Int.emod_nonneg _ (by decide)
    have h2 : (y * y + 69621) % 2147483587 < 2147483587 := Int.emod_lt_of_pos _ (by decide)
    generalize (y * y + 69621) % 2147483587 = z at h1 h2 ⊢
    exact ⟨z.toNat, by omega, by rw [Int.toNat_of_nonneg h1]⟩
  obtain ⟨r, e, i, hi, rfl⟩ := h
  exact ⟨i, hi, e⟩
theorem draws_spec (c : Int) (m : Nat) (hm : m ≤ 100) : ∃ ds : List Nat, ds.length = m ∧ (∀ d ∈ ds, d < 2147483587) ∧ F__law_draws [.int c, .int m] = .ok (.fr (.ow (ds.map nI))) := by
  have h : ∃ r, F__law_draws [.int c, .int m] = .ok r ∧ ∃ ds : List Nat, ds.length = m ∧ (∀ d ∈ ds, d < 2147483587) ∧ r = .fr (.ow (ds.map nI)) := by
    refine fn_rt rfl ?_
    unfold f__law_draws
    simp -implicitDefEqProofs only [DL.evB, DL.evI, Int.reduceLT, Int.reduceLE, Int.reduceNeg, Int.reduceToNat, Int.reducePow, beq_self_eq_true, DL.no6_look_two, DL.no6_at_most, DL.no6_join, DL.no6_meet, DL.no6_lowest, DL.no6_highest, DL.no3_look_order, not_false_eq_true, and_self, true_and, and_true, reduceIte, Bool.false_eq_true, List.length_map, List.length_range, List.length_append, List.getElem?_cons_zero, List.getElem?_cons_succ, List.set_cons_zero, List.set_cons_succ, fzE, wipeE, Option.bind_some, Option.map_some, List.length_cons, List.length_nil, cond_true, cond_false, Nat.reduceAdd, Nat.reduceLeDiff, Nat.zero_add, if_true, if_false, eq_self, bOne, Nat.reduceLT, Nat.reduceEqDiff, List.map_cons, List.map_nil, List.cons_append, List.nil_append, List.replicate, Nat.reduceSub, decide_true, decide_false, Bool.not_true, Bool.not_false]
    rw [rng1_nat (by omega)]
    simp -implicitDefEqProofs only [DL.evB, DL.evI, Int.reduceLT, Int.reduceLE, Int.reduceNeg, Int.reduceToNat, Int.reducePow, beq_self_eq_true, DL.no6_look_two, DL.no6_at_most, DL.no6_join, DL.no6_meet, DL.no6_lowest, DL.no6_highest, DL.no3_look_order, not_false_eq_true, and_self, true_and, and_true, reduceIte, Bool.false_eq_true, List.length_map, List.length_range, List.length_append, List.getElem?_cons_zero, List.getElem?_cons_succ, List.set_cons_zero, List.set_cons_succ, fzE, wipeE, Option.bind_some, Option.map_some, List.length_cons, List.length_nil, cond_true, cond_false, Nat.reduceAdd, Nat.reduceLeDiff, Nat.zero_add, if_true, if_false, eq_self, bOne, Nat.reduceLT, Nat.reduceEqDiff, List.map_cons, List.map_nil, List.cons_append, List.nil_append, List.replicate, Nat.reduceSub, decide_true, decide_false, Bool.not_true, Bool.not_false]
    refine wp_forL (fun pre e => ∃ (ds : List Nat) (o : Option L) (left : Int), ds.length = pre.length ∧ (∀ d ∈ ds, d < 2147483587) ∧ e = [some (.sh (.int c)), some (.sh (.int m)), some (.ow (ds.map nI)), some (.sh (.int left)), o]) ⟨[], _, _, rfl, by simp, rfl⟩ ?_ ?_
    · rintro pre x post e hx ⟨ds, o, left, hl, hd, rfl⟩
      have hp : pre.length < m := by
        have := congrArg List.length hx
        rw [List.length_range, List.length_append, List.length_cons] at this
        omega
      refine ⟨_, rfl, ?_⟩
      simp -implicitDefEqProofs only [DL.evB, DL.evI, Int.reduceLT, Int.reduceLE, Int.reduceNeg, Int.reduceToNat, Int.reducePow, beq_self_eq_true, DL.no6_look_two, DL.no6_at_most, DL.no6_join, DL.no6_meet, DL.no6_lowest, DL.no6_highest, DL.no3_look_order, not_false_eq_true, and_self, true_and, and_true, reduceIte, Bool.false_eq_true, List.length_map, List.length_range, List.length_append, List.getElem?_cons_zero, List.getElem?_cons_succ, List.set_cons_zero, List.set_cons_succ, fzE, wipeE, Option.bind_some, Option.map_some, List.length_cons, List.length_nil, cond_true, cond_false, Nat.reduceAdd, Nat.reduceLeDiff, Nat.zero_add, if_true, if_false, eq_self, bOne, Nat.reduceLT, Nat.reduceEqDiff, List.map_cons, List.map_nil, List.cons_append, List.nil_append, List.replicate, Nat.reduceSub, decide_true, decide_false, Bool.not_true, Bool.not_false]
      refine wp_ifB (fun h => ?_) fun h => ?_
      · rw [decide_eq_true_iff] at h
        simp -implicitDefEqProofs only [DL.evB, DL.evI, Int.reduceLT, Int.reduceLE, Int.reduceNeg, Int.reduceToNat, Int.reducePow, beq_self_eq_true, DL.no6_look_two, DL.no6_at_most, DL.no6_join, DL.no6_meet, DL.no6_lowest, DL.no6_highest, DL.no3_look_order, not_false_eq_true, and_self, true_and, and_true, reduceIte, Bool.false_eq_true, List.length_map, List.length_range, List.length_append, List.getElem?_cons_zero, List.getElem?_cons_succ, List.set_cons_zero, List.set_cons_succ, fzE, wipeE, Option.bind_some, Option.map_some, List.length_cons, List.length_nil, cond_true, cond_false, Nat.reduceAdd, Nat.reduceLeDiff, Nat.zero_add, if_true, if_false, eq_self, bOne, Nat.reduceLT, Nat.reduceEqDiff, List.map_cons, List.map_nil, List.cons_append, List.nil_append, List.replicate, Nat.reduceSub, decide_true, decide_false, Bool.not_true, Bool.not_false]
        rw [mutB_app (by rw [List.length_map]; unfold lim; omega)]
        simp -implicitDefEqProofs only [DL.evB, DL.evI, Int.reduceLT, Int.reduceLE, Int.reduceNeg, Int.reduceToNat, Int.reducePow, beq_self_eq_true, DL.no6_look_two, DL.no6_at_most, DL.no6_join, DL.no6_meet, DL.no6_lowest, DL.no6_highest, DL.no3_look_order, not_false_eq_true, and_self, true_and, and_true, reduceIte, Bool.false_eq_true, List.length_map, List.length_range, List.length_append, List.getElem?_cons_zero, List.getElem?_cons_succ, List.set_cons_zero, List.set_cons_succ, fzE, wipeE, Option.bind_some, Option.map_some, List.length_cons, List.length_nil, cond_true, cond_false, Nat.reduceAdd, Nat.reduceLeDiff, Nat.zero_add, if_true, if_false, eq_self, bOne, Nat.reduceLT, Nat.reduceEqDiff, List.map_cons, List.map_nil, List.cons_append, List.nil_append, List.replicate, Nat.reduceSub, decide_true, decide_false, Bool.not_true, Bool.not_false]
        have h1 : 0 ≤ left % 1000003 := by omega
        refine ⟨ds ++ [(left % 1000003).toNat], some (.sh (.int x)), left / 1000003, by simp [hl], ?_, by simp [nI, Int.toNat_of_nonneg h1]⟩
        intro d hd'
        rcases List.mem_append.mp hd' with q | q
        · exact hd d q
        · rw [List.mem_singleton] at q; omega
      · obtain ⟨r, hr, er⟩ := mixed_spec c x
        simp -implicitDefEqProofs only [DL.evB, DL.evI, Int.reduceLT, Int.reduceLE, Int.reduceNeg, Int.reduceToNat, Int.reducePow, beq_self_eq_true, DL.no6_look_two, DL.no6_at_most, DL.no6_join, DL.no6_meet, DL.no6_lowest, DL.no6_highest, DL.no3_look_order, not_false_eq_true, and_self, true_and, and_true, reduceIte, Bool.false_eq_true, List.length_map, List.length_range, List.length_append, List.getElem?_cons_zero, List.getElem?_cons_succ, List.set_cons_zero, List.set_cons_succ, fzE, wipeE, Option.bind_some, Option.map_some, List.length_cons, List.length_nil, cond_true, cond_false, Nat.reduceAdd, Nat.reduceLeDiff, Nat.zero_add, if_true, if_false, eq_self, bOne, Nat.reduceLT, Nat.reduceEqDiff, List.map_cons, List.map_nil, List.cons_append, List.nil_append, List.replicate, Nat.reduceSub, decide_true, decide_false, Bool.not_true, Bool.not_false, er]
        rw [mutB_app (by rw [List.length_map]; unfold lim; omega)]
        simp -implicitDefEqProofs only [DL.evB, DL.evI, Int.reduceLT, Int.reduceLE, Int.reduceNeg, Int.reduceToNat, Int.reducePow, beq_self_eq_true, DL.no6_look_two, DL.no6_at_most, DL.no6_join, DL.no6_meet, DL.no6_lowest, DL.no6_highest, DL.no3_look_order, not_false_eq_true, and_self, true_and, and_true, reduceIte, Bool.false_eq_true, List.length_map, List.length_range, List.length_append, List.getElem?_cons_zero, List.getElem?_cons_succ, List.set_cons_zero, List.set_cons_succ, fzE, wipeE, Option.bind_some, Option.map_some, List.length_cons, List.length_nil, cond_true, cond_false, Nat.reduceAdd, Nat.reduceLeDiff, Nat.zero_add, if_true, if_false, eq_self, bOne, Nat.reduceLT, Nat.reduceEqDiff, List.map_cons, List.map_nil, List.cons_append, List.nil_append, List.replicate, Nat.reduceSub, decide_true, decide_false, Bool.not_true, Bool.not_false]
        refine ⟨ds ++ [r], some (.sh (.int x)), left, by simp [hl], ?_, by simp [nI]⟩
        intro d hd'
        rcases List.mem_append.mp hd' with q | q
        · exact hd d q
        · rw [List.mem_singleton] at q; omega
    · rintro e ⟨ds, o, left, hl, hd, rfl⟩
      simp -implicitDefEqProofs only [DL.evB, DL.evI, Int.reduceLT, Int.reduceLE, Int.reduceNeg, Int.reduceToNat, Int.reducePow, beq_self_eq_true, DL.no6_look_two, DL.no6_at_most, DL.no6_join, DL.no6_meet, DL.no6_lowest, DL.no6_highest, DL.no3_look_order, not_false_eq_true, and_self, true_and, and_true, reduceIte, Bool.false_eq_true, List.length_map, List.length_range, List.length_append, List.getElem?_cons_zero, List.getElem?_cons_succ, List.set_cons_zero, List.set_cons_succ, fzE, wipeE, Option.bind_some, Option.map_some, List.length_cons, List.length_nil, cond_true, cond_false, Nat.reduceAdd, Nat.reduceLeDiff, Nat.zero_add, if_true, if_false, eq_self, bOne, Nat.reduceLT, Nat.reduceEqDiff, List.map_cons, List.map_nil, List.cons_append, List.nil_append, List.replicate, Nat.reduceSub, decide_true, decide_false, Bool.not_true, Bool.not_false]
      exact ⟨ds, by rw [hl, List.length_range], hd, rfl⟩
  obtain ⟨r, e, ds, h1, h2, rfl⟩ := h
  exact ⟨ds, h1, h2, e⟩
/-- a cell of the script -/
theorem cell_spec (ns : List Int) (k : Nat) : ∃ c : Int, F__law_cell_at [.lkd (ns.map D.int), .int k] = .ok (.sh (.int c)) := by
  have h : ∃ r, F__law_cell_at [.lkd (ns.map D.int), .int k] = .ok r ∧ ∃ c : Int, r = .sh (.int c) := by
    refine fn_rt rfl ?_
    unfold f__law_cell_at
    simp -implicitDefEqProofs only [DL.evB, DL.evI, Int.reduceLT, Int.reduceLE, Int.reduceNeg, Int.reduceToNat, Int.reducePow, beq_self_eq_true, DL.no6_look_two, DL.no6_at_most, DL.no6_join, DL.no6_meet, DL.no6_lowest, DL.no6_highest, DL.no3_look_order, not_false_eq_true, and_self, true_and, and_true, reduceIte, Bool.false_eq_true, List.length_map, List.length_range, List.length_append, List.getElem?_cons_zero, List.getElem?_cons_succ, List.set_cons_zero, List.set_cons_succ, fzE, wipeE, Option.bind_some, Option.map_some, List.length_cons, List.length_nil, cond_true, cond_false, Nat.reduceAdd, Nat.reduceLeDiff, Nat.zero_add, if_true, if_false, eq_self, bOne, Nat.reduceLT, Nat.reduceEqDiff, List.map_cons, List.map_nil, List.cons_append, List.nil_append, List.replicate, Nat.reduceSub, decide_true, decide_false, Bool.not_true, Bool.not_false]
    refine wp_ifB (fun h => ?_) fun h => ?_
    · simp only [decide_eq_true_iff] at h
      simp -implicitDefEqProofs only [DL.evB, DL.evI, Int.reduceLT, Int.reduceLE, Int.reduceNeg, Int.reduceToNat, Int.reducePow, beq_self_eq_true, DL.no6_look_two, DL.no6_at_most, DL.no6_join, DL.no6_meet, DL.no6_lowest, DL.no6_highest, DL.no3_look_order, not_false_eq_true, and_self, true_and, and_true, reduceIte, Bool.false_eq_true, List.length_map, List.length_range, List.length_append, List.getElem?_cons_zero, List.getElem?_cons_succ, List.set_cons_zero, List.set_cons_succ, fzE, wipeE, Option.bind_some, Option.map_some, List.length_cons, List.length_nil, cond_true, cond_false, Nat.reduceAdd, Nat.reduceLeDiff, Nat.zero_add, if_true, if_false, eq_self, bOne, Nat.reduceLT, Nat.reduceEqDiff, List.map_cons, List.map_nil, List.cons_append, List.nil_append, List.replicate, Nat.reduceSub, decide_true, decide_false, Bool.not_true, Bool.not_false, ix_lkd (getD_map (f := D.int) (xs := ns) (k := k) (by omega))]
      exact ⟨_, rfl⟩
    · simp -implicitDefEqProofs only [DL.evB, DL.evI, Int.reduceLT, Int.reduceLE, Int.reduceNeg, Int.reduceToNat, Int.reducePow, beq_self_eq_true, DL.no6_look_two, DL.no6_at_most, DL.no6_join, DL.no6_meet, DL.no6_lowest, DL.no6_highest, DL.no3_look_order, not_false_eq_true, and_self, true_and, and_true, reduceIte, Bool.false_eq_true, List.length_map, List.length_range, List.length_append, List.getElem?_cons_zero, List.getElem?_cons_succ, List.set_cons_zero, List.set_cons_succ, fzE, wipeE, Option.bind_some, Option.map_some, List.length_cons, List.length_nil, cond_true, cond_false, Nat.reduceAdd, Nat.reduceLeDiff, Nat.zero_add, if_true, if_false, eq_self, bOne, Nat.reduceLT, Nat.reduceEqDiff, List.map_cons, List.map_nil, List.cons_append, List.nil_append, List.replicate, Nat.reduceSub, decide_true, decide_false, Bool.not_true, Bool.not_false]
      exact ⟨_, rfl⟩
  obtain ⟨r, e, c, rfl⟩ := h
  exact ⟨c, e⟩
theorem flower_spec (m : Nat) (hm : m ≤ 40) : F__law_flower [.int m] = .ok (.fr (.ow ((flowerN m).map nI))) := by
  refine fn_eq rfl ?_
  unfold f__law_flower
  have h1 : 1 ≤ 1 <<< m := by rw [Nat.one_shiftLeft]; exact Nat.one_le_two_pow
  simp -implicitDefEqProofs only [DL.evB, DL.evN, beq_self_eq_true, DL.no6_look_two, DL.no6_at_most, DL.no6_join, DL.no6_meet, DL.no6_lowest, DL.no6_highest, DL.no3_look_order, not_false_eq_true, and_self, true_and, and_true, reduceIte, Bool.false_eq_true, List.length_map, List.length_range, List.length_append, List.getElem?_cons_zero, List.getElem?_cons_succ, List.set_cons_zero, List.set_cons_succ, fzE, wipeE, Option.bind_some, Option.map_some, List.length_cons, List.length_nil, cond_true, cond_false, Nat.reduceAdd, Nat.reduceLeDiff, Nat.zero_add, if_true, if_false, eq_self, bOne, Nat.reduceLT, Nat.reduceEqDiff, List.map_cons, List.map_nil, List.cons_append, List.nil_append, List.replicate, Nat.reduceSub, decide_true, decide_false, Bool.not_true, Bool.not_false]
  rw [comp_n (emb := nI) (xs := List.range m) (fun k => 1 <<< k) (by simp -implicitDefEqProofs only [DL.evB, DL.evN, beq_self_eq_true, DL.no6_look_two, DL.no6_at_most, DL.no6_join, DL.no6_meet, DL.no6_lowest, DL.no6_highest, DL.no3_look_order, not_false_eq_true, and_self, true_and, and_true, reduceIte, Bool.false_eq_true, List.length_map, List.length_range, List.length_append, List.getElem?_cons_zero, List.getElem?_cons_succ, List.set_cons_zero, List.set_cons_succ, fzE, wipeE, Option.bind_some, Option.map_some, List.length_cons, List.length_nil, cond_true, cond_false, Nat.reduceAdd, Nat.reduceLeDiff, Nat.zero_add, if_true, if_false, eq_self, bOne, Nat.reduceLT, Nat.reduceEqDiff, List.map_cons, List.map_nil, List.cons_append, List.nil_append, List.replicate, Nat.reduceSub, decide_true, decide_false, Bool.not_true, Bool.not_false]; rw [rng1_nat (by omega)]) (by rw [List.length_range]; unfold lim; omega) (fun x hx => ⟨_, rfl, by
    rw [List.mem_range] at hx
    simp -implicitDefEqProofs only [DL.evB, DL.evN, beq_self_eq_true, DL.no6_look_two, DL.no6_at_most, DL.no6_join, DL.no6_meet, DL.no6_lowest, DL.no6_highest, DL.no3_look_order, not_false_eq_true, and_self, true_and, and_true, reduceIte, Bool.false_eq_true, List.length_map, List.length_range, List.length_append, List.getElem?_cons_zero, List.getElem?_cons_succ, List.set_cons_zero, List.set_cons_succ, fzE, wipeE, Option.bind_some, Option.map_some, List.length_cons, List.length_nil, cond_true, cond_false, Nat.reduceAdd, Nat.reduceLeDiff, Nat.zero_add, if_true, if_false, eq_self, bOne, Nat.reduceLT, Nat.reduceEqDiff, List.map_cons, List.map_nil, List.cons_append, List.nil_append, List.replicate, Nat.reduceSub, decide_true, decide_false, Bool.not_true, Bool.not_false, shl1_nat (b := x) (by omega)]⟩)]
  simp -implicitDefEqProofs only [DL.evB, DL.evN, beq_self_eq_true, DL.no6_look_two, DL.no6_at_most, DL.no6_join, DL.no6_meet, DL.no6_lowest, DL.no6_highest, DL.no3_look_order, not_false_eq_true, and_self, true_and, and_true, reduceIte, Bool.false_eq_true, List.length_map, List.length_range, List.length_append, List.getElem?_cons_zero, List.getElem?_cons_succ, List.set_cons_zero, List.set_cons_succ, fzE, wipeE, Option.bind_some, Option.map_some, List.length_cons, List.length_nil, cond_true, cond_false, Nat.reduceAdd, Nat.reduceLeDiff, Nat.zero_add, if_true, if_false, eq_self, bOne, Nat.reduceLT, Nat.reduceEqDiff, List.map_cons, List.map_nil, List.cons_append, List.nil_append, List.replicate, Nat.reduceSub, decide_true, decide_false, Bool.not_true, Bool.not_false, shl1_nat (b := m) (by omega), rep_nIs (xs := (List.range m).map (1 <<< ·)) (k := if decide (1 < m) = true then 1 else 0) (by simp; split <;> omega) (by split <;> omega), sub_nat h1]
  rw [nIs_one 0, nIs_one, add_nIs (by simp; split <;> simp <;> omega)]
  simp -implicitDefEqProofs only [DL.evB]
  rw [add_nIs (by simp; split <;> simp <;> omega)]
  simp -implicitDefEqProofs only [DL.evB]
  unfold flowerN
  simp only [decide_eq_true_eq]
theorem stack_spec (a b : List Nat) (k : Nat) (ha : a ≠ []) (hk : k ≤ 1000) (hb : ∀ x ∈ b, x < 2 ^ 64) (hl : a.length + b.length ≤ 1000) : F__law_stack [.lst (a.map nI), .lst (b.map nI), .int k] = .ok (.fr (.ow ((stackN a b k).map nI))) := by
  refine fn_eq rfl ?_
  unfold f__law_stack
  have hlast : (a.map nI).getLast? = some (.int ((a.getLastD 0 : Nat) : Int)) := by
    rw [List.getLast?_map]
    cases a with
    | nil => exact absurd rfl ha
    | cons x t => rw [List.getLast?_cons, Option.map_some, List.getLastD_cons, List.getLastD_eq_getLast?]; rfl
  simp -implicitDefEqProofs only [DL.evB, DL.evN, beq_self_eq_true, DL.no6_look_two, DL.no6_at_most, DL.no6_join, DL.no6_meet, DL.no6_lowest, DL.no6_highest, DL.no3_look_order, not_false_eq_true, and_self, true_and, and_true, reduceIte, Bool.false_eq_true, List.length_map, List.length_range, List.length_append, List.getElem?_cons_zero, List.getElem?_cons_succ, List.set_cons_zero, List.set_cons_succ, fzE, wipeE, Option.bind_some, Option.map_some, List.length_cons, List.length_nil, cond_true, cond_false, Nat.reduceAdd, Nat.reduceLeDiff, Nat.zero_add, if_true, if_false, eq_self, bOne, Nat.reduceLT, Nat.reduceEqDiff, List.map_cons, List.map_nil, List.cons_append, List.nil_append, List.replicate, Nat.reduceSub, decide_true, decide_false, Bool.not_true, Bool.not_false]
  rw [comp_n (emb := nI) (xs := b.drop 1) (fun m => a.getLastD 0 ||| m <<< k) (by simp -implicitDefEqProofs only [DL.evB, DL.evN, beq_self_eq_true, DL.no6_look_two, DL.no6_at_most, DL.no6_join, DL.no6_meet, DL.no6_lowest, DL.no6_highest, DL.no3_look_order, not_false_eq_true, and_self, true_and, and_true, reduceIte, Bool.false_eq_true, List.length_map, List.length_range, List.length_append, List.getElem?_cons_zero, List.getElem?_cons_succ, List.set_cons_zero, List.set_cons_succ, fzE, wipeE, Option.bind_some, Option.map_some, List.length_cons, List.length_nil, cond_true, cond_false, Nat.reduceAdd, Nat.reduceLeDiff, Nat.zero_add, if_true, if_false, eq_self, bOne, Nat.reduceLT, Nat.reduceEqDiff, List.map_cons, List.map_nil, List.cons_append, List.nil_append, List.replicate, Nat.reduceSub, decide_true, decide_false, Bool.not_true, Bool.not_false]) (by rw [List.length_drop]; unfold lim; omega) (fun x hx => ⟨_, rfl, by
    have := hb x (List.mem_of_mem_drop hx)
    simp -implicitDefEqProofs only [DL.evB, DL.evN, beq_self_eq_true, DL.no6_look_two, DL.no6_at_most, DL.no6_join, DL.no6_meet, DL.no6_lowest, DL.no6_highest, DL.no3_look_order, not_false_eq_true, and_self, true_and, and_true, reduceIte, Bool.false_eq_true, List.length_map, List.length_range, List.length_append, List.getElem?_cons_zero, List.getElem?_cons_succ, List.set_cons_zero, List.set_cons_succ, fzE, wipeE, Option.bind_some, Option.map_some, List.length_cons, List.length_nil, cond_true, cond_false, Nat.reduceAdd, Nat.reduceLeDiff, Nat.zero_add, if_true, if_false, eq_self, bOne, Nat.reduceLT, Nat.reduceEqDiff, List.map_cons, List.map_nil, List.cons_append, List.nil_append, List.replicate, Nat.reduceSub, decide_true, decide_false, Bool.not_true, Bool.not_false, ix_last hlast, shl_nat x k this (by omega)]⟩)]
  simp -implicitDefEqProofs only [DL.evB, DL.evN, beq_self_eq_true, DL.no6_look_two, DL.no6_at_most, DL.no6_join, DL.no6_meet, DL.no6_lowest, DL.no6_highest, DL.no3_look_order, not_false_eq_true, and_self, true_and, and_true, reduceIte, Bool.false_eq_true, List.length_map, List.length_range, List.length_append, List.getElem?_cons_zero, List.getElem?_cons_succ, List.set_cons_zero, List.set_cons_succ, fzE, wipeE, Option.bind_some, Option.map_some, List.length_cons, List.length_nil, cond_true, cond_false, Nat.reduceAdd, Nat.reduceLeDiff, Nat.zero_add, if_true, if_false, eq_self, bOne, Nat.reduceLT, Nat.reduceEqDiff, List.map_cons, List.map_nil, List.cons_append, List.nil_append, List.replicate, Nat.reduceSub, decide_true, decide_false, Bool.not_true, Bool.not_false]
  rw [add_nIs (by simp; omega)]
  simp -implicitDefEqProofs only [DL.evB, DL.evN, beq_self_eq_true, DL.no6_look_two, DL.no6_at_most, DL.no6_join, DL.no6_meet, DL.no6_lowest, DL.no6_highest, DL.no3_look_order, not_false_eq_true, and_self, true_and, and_true, reduceIte, Bool.false_eq_true, List.length_map, List.length_range, List.length_append, List.getElem?_cons_zero, List.getElem?_cons_succ, List.set_cons_zero, List.set_cons_succ, fzE, wipeE, Option.bind_some, Option.map_some, List.length_cons, List.length_nil, cond_true, cond_false, Nat.reduceAdd, Nat.reduceLeDiff, Nat.zero_add, if_true, if_false, eq_self, bOne, Nat.reduceLT, Nat.reduceEqDiff, List.map_cons, List.map_nil, List.cons_append, List.nil_append, List.replicate, Nat.reduceSub, decide_true, decide_false, Bool.not_true, Bool.not_false]
  rfl
theorem beside_spec (a b : List Nat) (hb : ∀ x ∈ b, x < 2 ^ 64) (hl : a.length * b.length ≤ 1000) (hl2 : b.length ≤ 1000) : F__law_beside [.lst (a.map nI), .lst (b.map nI)] = .ok (.fr (.ow ((besideN a b).map nI))) := by
  refine fn_eq rfl ?_
  unfold f__law_beside
  simp -implicitDefEqProofs only [DL.evB, DL.evN, beq_self_eq_true, DL.no6_look_two, DL.no6_at_most, DL.no6_join, DL.no6_meet, DL.no6_lowest, DL.no6_highest, DL.no3_look_order, not_false_eq_true, and_self, true_and, and_true, reduceIte, Bool.false_eq_true, List.length_map, List.length_range, List.length_append, List.getElem?_cons_zero, List.getElem?_cons_succ, List.set_cons_zero, List.set_cons_succ, fzE, wipeE, Option.bind_some, Option.map_some, List.length_cons, List.length_nil, cond_true, cond_false, Nat.reduceAdd, Nat.reduceLeDiff, Nat.zero_add, if_true, if_false, eq_self, bOne, Nat.reduceLT, Nat.reduceEqDiff, List.map_cons, List.map_nil, List.cons_append, List.nil_append, List.replicate, Nat.reduceSub, decide_true, decide_false, Bool.not_true, Bool.not_false]
  refine wp_forL (fun pre e => ∃ o1 o2, e = [some (.sh (.lst (a.map nI))), some (.sh (.lst (b.map nI))), some (.ow ((besideN pre b).map nI)), o1, o2]) ⟨_, _, rfl⟩ ?_ ?_
  · rintro pre x post e hx ⟨o1, o2, rfl⟩
    refine ⟨_, rfl, ?_⟩
    simp -implicitDefEqProofs only [DL.evB, DL.evN, beq_self_eq_true, DL.no6_look_two, DL.no6_at_most, DL.no6_join, DL.no6_meet, DL.no6_lowest, DL.no6_highest, DL.no3_look_order, not_false_eq_true, and_self, true_and, and_true, reduceIte, Bool.false_eq_true, List.length_map, List.length_range, List.length_append, List.getElem?_cons_zero, List.getElem?_cons_succ, List.set_cons_zero, List.set_cons_succ, fzE, wipeE, Option.bind_some, Option.map_some, List.length_cons, List.length_nil, cond_true, cond_false, Nat.reduceAdd, Nat.reduceLeDiff, Nat.zero_add, if_true, if_false, eq_self, bOne, Nat.reduceLT, Nat.reduceEqDiff, List.map_cons, List.map_nil, List.cons_append, List.nil_append, List.replicate, Nat.reduceSub, decide_true, decide_false, Bool.not_true, Bool.not_false]
    have hlen : ∀ l : List Nat, (besideN l b).length = l.length * b.length := by
      intro l
      induction l with
      | nil => simp [besideN]
      | cons y l ih => rw [show besideN (y :: l) b = (b.map fun z => y ||| z <<< 10) ++ besideN l b from rfl, List.length_append, ih, List.length_map, List.length_cons, Nat.add_mul]; omega
    have hp : pre.length + 1 ≤ a.length := by rw [hx]; simp
    have hp2 : (pre.length + 1) * b.length ≤ 1000 := Nat.le_trans (Nat.mul_le_mul_right _ hp) hl
    rw [Nat.add_mul] at hp2
    rw [comp_n (emb := nI) (xs := b) (fun y => x ||| y <<< 10) (by simp -implicitDefEqProofs only [DL.evB, DL.evN, beq_self_eq_true, DL.no6_look_two, DL.no6_at_most, DL.no6_join, DL.no6_meet, DL.no6_lowest, DL.no6_highest, DL.no3_look_order, not_false_eq_true, and_self, true_and, and_true, reduceIte, Bool.false_eq_true, List.length_map, List.length_range, List.length_append, List.getElem?_cons_zero, List.getElem?_cons_succ, List.set_cons_zero, List.set_cons_succ, fzE, wipeE, Option.bind_some, Option.map_some, List.length_cons, List.length_nil, cond_true, cond_false, Nat.reduceAdd, Nat.reduceLeDiff, Nat.zero_add, if_true, if_false, eq_self, bOne, Nat.reduceLT, Nat.reduceEqDiff, List.map_cons, List.map_nil, List.cons_append, List.nil_append, List.replicate, Nat.reduceSub, decide_true, decide_false, Bool.not_true, Bool.not_false]) (by unfold lim; omega) (fun y hy => ⟨_, rfl, by
      simp -implicitDefEqProofs only [DL.evB, DL.evN, beq_self_eq_true, DL.no6_look_two, DL.no6_at_most, DL.no6_join, DL.no6_meet, DL.no6_lowest, DL.no6_highest, DL.no3_look_order, not_false_eq_true, and_self, true_and, and_true, reduceIte, Bool.false_eq_true, List.length_map, List.length_range, List.length_append, List.getElem?_cons_zero, List.getElem?_cons_succ, List.set_cons_zero, List.set_cons_succ, fzE, wipeE, Option.bind_some, Option.map_some, List.length_cons, List.length_nil, cond_true, cond_false, Nat.reduceAdd, Nat.reduceLeDiff, Nat.zero_add, if_true, if_false, eq_self, bOne, Nat.reduceLT, Nat.reduceEqDiff, List.map_cons, List.map_nil, List.cons_append, List.nil_append, List.replicate, Nat.reduceSub, decide_true, decide_false, Bool.not_true, Bool.not_false, shl_nat y 10 (hb y hy) (by omega)]⟩)]
    simp -implicitDefEqProofs only [DL.evB, DL.evN, beq_self_eq_true, DL.no6_look_two, DL.no6_at_most, DL.no6_join, DL.no6_meet, DL.no6_lowest, DL.no6_highest, DL.no3_look_order, not_false_eq_true, and_self, true_and, and_true, reduceIte, Bool.false_eq_true, List.length_map, List.length_range, List.length_append, List.getElem?_cons_zero, List.getElem?_cons_succ, List.set_cons_zero, List.set_cons_succ, fzE, wipeE, Option.bind_some, Option.map_some, List.length_cons, List.length_nil, cond_true, cond_false, Nat.reduceAdd, Nat.reduceLeDiff, Nat.zero_add, if_true, if_false, eq_self, bOne, Nat.reduceLT, Nat.reduceEqDiff, List.map_cons, List.map_nil, List.cons_append, List.nil_append, List.replicate, Nat.reduceSub, decide_true, decide_false, Bool.not_true, Bool.not_false]
    rw [add_nIs (by rw [hlen]; simp; omega)]
    simp -implicitDefEqProofs only [DL.evB, DL.evN, beq_self_eq_true, DL.no6_look_two, DL.no6_at_most, DL.no6_join, DL.no6_meet, DL.no6_lowest, DL.no6_highest, DL.no3_look_order, not_false_eq_true, and_self, true_and, and_true, reduceIte, Bool.false_eq_true, List.length_map, List.length_range, List.length_append, List.getElem?_cons_zero, List.getElem?_cons_succ, List.set_cons_zero, List.set_cons_succ, fzE, wipeE, Option.bind_some, Option.map_some, List.length_cons, List.length_nil, cond_true, cond_false, Nat.reduceAdd, Nat.reduceLeDiff, Nat.zero_add, if_true, if_false, eq_self, bOne, Nat.reduceLT, Nat.reduceEqDiff, List.map_cons, List.map_nil, List.cons_append, List.nil_append, List.replicate, Nat.reduceSub, decide_true, decide_false, Bool.not_true, Bool.not_false]
    exact ⟨some (.sh (.int x)), o2, by unfold besideN; rw [List.flatMap_append]; simp⟩
  · rintro e ⟨o1, o2, rfl⟩
    simp -implicitDefEqProofs only [DL.evB, DL.evN, beq_self_eq_true, DL.no6_look_two, DL.no6_at_most, DL.no6_join, DL.no6_meet, DL.no6_lowest, DL.no6_highest, DL.no3_look_order, not_false_eq_true, and_self, true_and, and_true, reduceIte, Bool.false_eq_true, List.length_map, List.length_range, List.length_append, List.getElem?_cons_zero, List.getElem?_cons_succ, List.set_cons_zero, List.set_cons_succ, fzE, wipeE, Option.bind_some, Option.map_some, List.length_cons, List.length_nil, cond_true, cond_false, Nat.reduceAdd, Nat.reduceLeDiff, Nat.zero_add, if_true, if_false, eq_self, bOne, Nat.reduceLT, Nat.reduceEqDiff, List.map_cons, List.map_nil, List.cons_append, List.nil_append, List.replicate, Nat.reduceSub, decide_true, decide_false, Bool.not_true, Bool.not_false]
theorem fields_spec : F__law_fields [] = .ok (.fr (.ow (fieldsN.map nI))) := by
  rfl
end Ev

/-! SA2: masks shut under what two have in common; the kinds. -/
namespace Ev
open PySem PySem.Spec L2 DL
def addN (l : List Nat) (x : Nat) : List Nat := if x ∈ l then l else l ++ [x]
theorem mem_addN {l : List Nat} {x y : Nat} : y ∈ addN l x ↔ y ∈ l ∨ y = x := by
  unfold addN
  split
  · constructor
    · exact .inl
    · rintro (h | rfl) <;> assumption
  · simp
theorem nd_addN {l : List Nat} {x : Nat} (h : l.Nodup) : (addN l x).Nodup := by
  unfold addN
  split
  · exact h
  · rw [List.nodup_append]
    refine ⟨h, by simp, ?_⟩
    intro a ha b hb e
    rw [List.mem_singleton] at hb
    subst hb; subst e
    contradiction
theorem pre_addN {l : List Nat} {x : Nat} : l <+: addN l x := by
  unfold addN
  split
  · exact List.prefix_rfl
  · exact List.prefix_append _ _
/-- the found so far: k of them are through -/
structure ShI (ms l : List Nat) (k : Nat) : Prop where
  nd : l.Nodup
  lt : ∀ x ∈ l, x < 16
  sub : ∀ x ∈ ms, x ∈ l
  at_ : k ≤ l.length
  cl : ∀ i j, i < k → j < i → (l.getD i 0 &&& l.getD j 0) ∈ l
theorem nodup_len {n : Nat} {l : List Nat} (h : l.Nodup) (lt : ∀ x ∈ l, x < n) : l.length ≤ n := by
  have := (List.Nodup.length_le_of_subset h (l₂ := List.range n) (fun x hx => List.mem_range.mpr (lt x hx)))
  simpa using this
/-- one more mask -/
theorem ShI.add {ms l : List Nat} {k x : Nat} (h : ShI ms l k) (hx : x < 16) : ShI ms (addN l x) k := by
  have hp := pre_addN (l := l) (x := x)
  refine ⟨nd_addN h.nd, fun y hy => ?_, fun y hy => mem_addN.mpr (.inl (h.sub y hy)), Nat.le_trans h.at_ hp.length_le, fun i j hi hj => ?_⟩
  · rcases mem_addN.mp hy with q | rfl
    · exact h.lt y q
    · exact hx
  · obtain ⟨t, ht⟩ := hp
    have h1 : i < l.length := by have := h.at_; omega
    have e : ∀ m, m < l.length → (addN l x).getD m 0 = l.getD m 0 := by
      intro m hm
      rw [← ht, List.getD_eq_getElem?_getD, List.getElem?_append_left hm, ← List.getD_eq_getElem?_getD]
    rw [e i h1, e j (by omega)]
    exact mem_addN.mpr (.inl (h.cl i j hi hj))
theorem and_lt16 {a b : Nat} (h : a < 16) : a &&& b < 16 := Nat.lt_of_le_of_lt Nat.and_le_left h
theorem or_lt16 {a b : Nat} (h : a < 16) (h' : b < 16) : a ||| b < 16 := Nat.or_lt_two_pow (n := 4) h h'
/-- what the inner loop keeps: the first k pairs are through, and of number k those with the first m -/
structure ShJ (ms l0 l : List Nat) (k m : Nat) : Prop extends ShI ms l k where
  pre : l0 <+: l
  more : ∀ j, j < m → (l.getD k 0 &&& l.getD j 0) ∈ l
theorem getD_pre {l l' : List Nat} (h : l <+: l') {m : Nat} (hm : m < l.length) : l'.getD m 0 = l.getD m 0 := by
  obtain ⟨t, rfl⟩ := h
  rw [List.getD_eq_getElem?_getD, List.getElem?_append_left hm, ← List.getD_eq_getElem?_getD]
theorem ShJ.add {ms l0 l : List Nat} {k m x : Nat} (h : ShJ ms l0 l k m) (hk : k < l.length) (hm : m ≤ k) (hx : x < 16) : ShJ ms l0 (addN l x) k m := by
  refine ⟨h.toShI.add hx, h.pre.trans pre_addN, fun j hj => ?_⟩
  rw [getD_pre pre_addN hk, getD_pre pre_addN (by omega)]
  exact mem_addN.mpr (.inl (h.more j hj))
theorem shut_spec (ms : List Nat) (b : Bool) (h0 : ms.Nodup) (h1 : ∀ x ∈ ms, x < 16) : ∃ l, F__law_shut [.lst (ms.map nI), .bl b] = .ok (.fr (.ow (l.map nI))) ∧ ShI ms l l.length := by
  have key : ∃ r, F__law_shut [.lst (ms.map nI), .bl b] = .ok r ∧ ∃ l, r = .fr (.ow (l.map nI)) ∧ ShI ms l l.length := by
    refine fn_rt rfl ?_
    unfold f__law_shut
    simp -implicitDefEqProofs only [DL.evB, DL.evN, beq_self_eq_true, DL.no6_look_two, DL.no6_at_most, DL.no6_join, DL.no6_meet, DL.no6_lowest, DL.no6_highest, DL.no3_look_order, not_false_eq_true, and_self, true_and, and_true, reduceIte, Bool.false_eq_true, List.length_map, List.length_range, List.length_append, List.getElem?_cons_zero, List.getElem?_cons_succ, List.set_cons_zero, List.set_cons_succ, fzE, wipeE, Option.bind_some, Option.map_some, List.length_cons, List.length_nil, cond_true, cond_false, Nat.reduceAdd, Nat.reduceLeDiff, Nat.zero_add, if_true, if_false, eq_self, bOne, Nat.reduceLT, Nat.reduceEqDiff, List.map_cons, List.map_nil, List.cons_append, List.nil_append, List.replicate, Nat.reduceSub, decide_true, decide_false, Bool.not_true, Bool.not_false]
    refine wp_while (S := List Nat × Nat) (fun s e => ShI ms s.1 s.2 ∧ ∃ o4 o5 o6 o7, e = [some (.sh (.lst (ms.map nI))), some (.sh (.bl b)), some (.ow (s.1.map nI)), some (.sh (.int (s.2 : Nat))), o4, o5, o6, o7]) (fun s => 20 - s.2) (s0 := (ms, 0)) ⟨⟨h0, h1, fun _ h => h, Nat.zero_le _, fun i j hi => absurd hi (Nat.not_lt_zero i)⟩, _, _, _, _, rfl⟩ (by show 20 - 0 < _; omega) ?_
    rintro ⟨l, k⟩ e ⟨hI, o4, o5, o6, o7, rfl⟩
    have hlen := nodup_len hI.nd hI.lt
    have hk0 := hI.at_
    simp only at hlen hk0
    by_cases hk : k < l.length
    · refine .inr ⟨by simp -implicitDefEqProofs only [DL.evB, DL.evN, beq_self_eq_true, DL.no6_look_two, DL.no6_at_most, DL.no6_join, DL.no6_meet, DL.no6_lowest, DL.no6_highest, DL.no3_look_order, not_false_eq_true, and_self, true_and, and_true, reduceIte, Bool.false_eq_true, List.length_map, List.length_range, List.length_append, List.getElem?_cons_zero, List.getElem?_cons_succ, List.set_cons_zero, List.set_cons_succ, fzE, wipeE, Option.bind_some, Option.map_some, List.length_cons, List.length_nil, cond_true, cond_false, Nat.reduceAdd, Nat.reduceLeDiff, Nat.zero_add, if_true, if_false, eq_self, bOne, Nat.reduceLT, Nat.reduceEqDiff, List.map_cons, List.map_nil, List.cons_append, List.nil_append, List.replicate, Nat.reduceSub, decide_true, decide_false, Bool.not_true, Bool.not_false, hk], ?_⟩
      simp -implicitDefEqProofs only [DL.evB, DL.evN, beq_self_eq_true, DL.no6_look_two, DL.no6_at_most, DL.no6_join, DL.no6_meet, DL.no6_lowest, DL.no6_highest, DL.no3_look_order, not_false_eq_true, and_self, true_and, and_true, reduceIte, Bool.false_eq_true, List.length_map, List.length_range, List.length_append, List.getElem?_cons_zero, List.getElem?_cons_succ, List.set_cons_zero, List.set_cons_succ, fzE, wipeE, Option.bind_some, Option.map_some, List.length_cons, List.length_nil, cond_true, cond_false, Nat.reduceAdd, Nat.reduceLeDiff, Nat.zero_add, if_true, if_false, eq_self, bOne, Nat.reduceLT, Nat.reduceEqDiff, List.map_cons, List.map_nil, List.cons_append, List.nil_append, List.replicate, Nat.reduceSub, decide_true, decide_false, Bool.not_true, Bool.not_false, ixN_lst hk]
      refine wp_forL (fun pre e => ∃ l' o5 o6 o7, ShJ ms l l' k pre.length ∧ e = [some (.sh (.lst (ms.map nI))), some (.sh (.bl b)), some (.ow (l'.map nI)), some (.sh (.int (k : Nat))), some (.sh (.int (l.getD k 0 : Nat))), o5, o6, o7]) ⟨l, _, _, _, ⟨hI, List.prefix_rfl, fun j hj => absurd hj (Nat.not_lt_zero j)⟩, rfl⟩ ?_ ?_
      · rintro pre x post e hx ⟨l', o5, o6, o7, hJ, rfl⟩
        refine ⟨_, rfl, ?_⟩
        have hpre : pre.length < k := by
          have := congrArg List.length hx
          rw [List.length_take, List.length_append, List.length_cons] at this
          omega
        have hxe : l.getD pre.length 0 = x := by
          have : (l.take k)[pre.length]? = some x := by rw [hx, List.getElem?_append_right (Nat.le_refl _), Nat.sub_self]; rfl
          rw [List.getElem?_take_of_lt hpre] at this
          rw [List.getD_eq_getElem?_getD, this]; rfl
        have hkl : k < l'.length := Nat.lt_of_lt_of_le hk hJ.pre.length_le
        have hl'len := nodup_len hJ.nd hJ.lt
        have hh : l.getD k 0 < 16 := hI.lt _ (by rw [List.getD_eq_getElem?_getD, List.getElem?_eq_getElem hk]; exact List.getElem_mem hk)
        have hxx : x < 16 := hI.lt _ (by rw [← hxe, List.getD_eq_getElem?_getD, List.getElem?_eq_getElem (show pre.length < l.length by omega)]; exact List.getElem_mem _)
        have hJ1 := hJ.add hkl (by omega) (and_lt16 (b := x) hh)
        -- one mask: put in where it is not there
        have put : ∀ (y : Nat) (l1 : List Nat) (p : Post) (ks : List (Ev → SO)) (e0 o7 : Option L) (o6 : Option L), l1.length ≤ 16 → wpS p ks (.nx [some (.sh (.lst (ms.map nI))), some (.sh (.bl b)), some (.ow ((addN l1 y).map nI)), some (.sh (.int (k : Nat))), some (.sh (.int (l.getD k 0 : Nat))), e0, o6, some (.sh (.int (y : Nat)))]) →
            wpS p ks (sIf (fB (fBin dNin (eVar 7) (eVar 2))) (sMut 2 hAppend (aCons (eVar 7) aNil)) sNx [some (.sh (.lst (ms.map nI))), some (.sh (.bl b)), some (.ow (l1.map nI)), some (.sh (.int (k : Nat))), some (.sh (.int (l.getD k 0 : Nat))), e0, o6, some (.sh (.int (y : Nat)))]) := by
          intro y l1 p ks e0 o7 o6 hl1 h
          unfold addN at h
          simp -implicitDefEqProofs only [DL.evB, DL.evN, beq_self_eq_true, DL.no6_look_two, DL.no6_at_most, DL.no6_join, DL.no6_meet, DL.no6_lowest, DL.no6_highest, DL.no3_look_order, not_false_eq_true, and_self, true_and, and_true, reduceIte, Bool.false_eq_true, List.length_map, List.length_range, List.length_append, List.getElem?_cons_zero, List.getElem?_cons_succ, List.set_cons_zero, List.set_cons_succ, fzE, wipeE, Option.bind_some, Option.map_some, List.length_cons, List.length_nil, cond_true, cond_false, Nat.reduceAdd, Nat.reduceLeDiff, Nat.zero_add, if_true, if_false, eq_self, bOne, Nat.reduceLT, Nat.reduceEqDiff, List.map_cons, List.map_nil, List.cons_append, List.nil_append, List.replicate, Nat.reduceSub, decide_true, decide_false, Bool.not_true, Bool.not_false]
          refine wp_ifB (fun q => ?_) fun q => ?_
          · have q : y ∉ l1 := by simpa using q
            rw [if_neg q] at h
            simp -implicitDefEqProofs only [DL.evB, DL.evN, beq_self_eq_true, DL.no6_look_two, DL.no6_at_most, DL.no6_join, DL.no6_meet, DL.no6_lowest, DL.no6_highest, DL.no3_look_order, not_false_eq_true, and_self, true_and, and_true, reduceIte, Bool.false_eq_true, List.length_map, List.length_range, List.length_append, List.getElem?_cons_zero, List.getElem?_cons_succ, List.set_cons_zero, List.set_cons_succ, fzE, wipeE, Option.bind_some, Option.map_some, List.length_cons, List.length_nil, cond_true, cond_false, Nat.reduceAdd, Nat.reduceLeDiff, Nat.zero_add, if_true, if_false, eq_self, bOne, Nat.reduceLT, Nat.reduceEqDiff, List.map_cons, List.map_nil, List.cons_append, List.nil_append, List.replicate, Nat.reduceSub, decide_true, decide_false, Bool.not_true, Bool.not_false]
            rw [mutB_app (by rw [List.length_map]; unfold lim; omega), app_nIs]
            exact h
          · have q : y ∈ l1 := by simpa using q
            rw [if_pos q] at h
            simp -implicitDefEqProofs only [DL.evB, DL.evN, beq_self_eq_true, DL.no6_look_two, DL.no6_at_most, DL.no6_join, DL.no6_meet, DL.no6_lowest, DL.no6_highest, DL.no3_look_order, not_false_eq_true, and_self, true_and, and_true, reduceIte, Bool.false_eq_true, List.length_map, List.length_range, List.length_append, List.getElem?_cons_zero, List.getElem?_cons_succ, List.set_cons_zero, List.set_cons_succ, fzE, wipeE, Option.bind_some, Option.map_some, List.length_cons, List.length_nil, cond_true, cond_false, Nat.reduceAdd, Nat.reduceLeDiff, Nat.zero_add, if_true, if_false, eq_self, bOne, Nat.reduceLT, Nat.reduceEqDiff, List.map_cons, List.map_nil, List.cons_append, List.nil_append, List.replicate, Nat.reduceSub, decide_true, decide_false, Bool.not_true, Bool.not_false]
            exact h
        cases b with
        | false =>
          simp -implicitDefEqProofs only [DL.evB, DL.evN, beq_self_eq_true, DL.no6_look_two, DL.no6_at_most, DL.no6_join, DL.no6_meet, DL.no6_lowest, DL.no6_highest, DL.no3_look_order, not_false_eq_true, and_self, true_and, and_true, reduceIte, Bool.false_eq_true, List.length_map, List.length_range, List.length_append, List.getElem?_cons_zero, List.getElem?_cons_succ, List.set_cons_zero, List.set_cons_succ, fzE, wipeE, Option.bind_some, Option.map_some, List.length_cons, List.length_nil, cond_true, cond_false, Nat.reduceAdd, Nat.reduceLeDiff, Nat.zero_add, if_true, if_false, eq_self, bOne, Nat.reduceLT, Nat.reduceEqDiff, List.map_cons, List.map_nil, List.cons_append, List.nil_append, List.replicate, Nat.reduceSub, decide_true, decide_false, Bool.not_true, Bool.not_false]
          refine wp_for1 rfl ?_
          simp only [ev_gN, List.set_cons_succ, List.set_cons_zero]
          refine put _ l' _ _ _ none _ hl'len ?_
          simp -implicitDefEqProofs only [DL.evB, DL.evN, beq_self_eq_true, DL.no6_look_two, DL.no6_at_most, DL.no6_join, DL.no6_meet, DL.no6_lowest, DL.no6_highest, DL.no3_look_order, not_false_eq_true, and_self, true_and, and_true, reduceIte, Bool.false_eq_true, List.length_map, List.length_range, List.length_append, List.getElem?_cons_zero, List.getElem?_cons_succ, List.set_cons_zero, List.set_cons_succ, fzE, wipeE, Option.bind_some, Option.map_some, List.length_cons, List.length_nil, cond_true, cond_false, Nat.reduceAdd, Nat.reduceLeDiff, Nat.zero_add, if_true, if_false, eq_self, bOne, Nat.reduceLT, Nat.reduceEqDiff, List.map_cons, List.map_nil, List.cons_append, List.nil_append, List.replicate, Nat.reduceSub, decide_true, decide_false, Bool.not_true, Bool.not_false]
          refine wp_for0 ?_
          simp -implicitDefEqProofs only [DL.evB, DL.evN, beq_self_eq_true, DL.no6_look_two, DL.no6_at_most, DL.no6_join, DL.no6_meet, DL.no6_lowest, DL.no6_highest, DL.no3_look_order, not_false_eq_true, and_self, true_and, and_true, reduceIte, Bool.false_eq_true, List.length_map, List.length_range, List.length_append, List.getElem?_cons_zero, List.getElem?_cons_succ, List.set_cons_zero, List.set_cons_succ, fzE, wipeE, Option.bind_some, Option.map_some, List.length_cons, List.length_nil, cond_true, cond_false, Nat.reduceAdd, Nat.reduceLeDiff, Nat.zero_add, if_true, if_false, eq_self, bOne, Nat.reduceLT, Nat.reduceEqDiff, List.map_cons, List.map_nil, List.cons_append, List.nil_append, List.replicate, Nat.reduceSub, decide_true, decide_false, Bool.not_true, Bool.not_false]
          refine ⟨addN l' (l.getD k 0 &&& x), _, _, _, ⟨hJ1.toShI, hJ1.pre, fun j hj => ?_⟩, rfl⟩
          by_cases hj2 : j < pre.length
          · exact hJ1.more j hj2
          · have : j = pre.length := by omega
            subst this
            rw [getD_pre hJ1.pre hk, getD_pre hJ1.pre (by omega), hxe]
            exact mem_addN.mpr (.inr rfl)
        | true =>
          simp -implicitDefEqProofs only [DL.evB, DL.evN, beq_self_eq_true, DL.no6_look_two, DL.no6_at_most, DL.no6_join, DL.no6_meet, DL.no6_lowest, DL.no6_highest, DL.no3_look_order, not_false_eq_true, and_self, true_and, and_true, reduceIte, Bool.false_eq_true, List.length_map, List.length_range, List.length_append, List.getElem?_cons_zero, List.getElem?_cons_succ, List.set_cons_zero, List.set_cons_succ, fzE, wipeE, Option.bind_some, Option.map_some, List.length_cons, List.length_nil, cond_true, cond_false, Nat.reduceAdd, Nat.reduceLeDiff, Nat.zero_add, if_true, if_false, eq_self, bOne, Nat.reduceLT, Nat.reduceEqDiff, List.map_cons, List.map_nil, List.cons_append, List.nil_append, List.replicate, Nat.reduceSub, decide_true, decide_false, Bool.not_true, Bool.not_false]
          refine wp_for1 rfl ?_
          simp only [ev_gN, List.set_cons_succ, List.set_cons_zero]
          refine put _ l' _ _ _ none _ hl'len ?_
          have hl1len := nodup_len hJ1.nd hJ1.lt
          simp -implicitDefEqProofs only [DL.evB, DL.evN, beq_self_eq_true, DL.no6_look_two, DL.no6_at_most, DL.no6_join, DL.no6_meet, DL.no6_lowest, DL.no6_highest, DL.no3_look_order, not_false_eq_true, and_self, true_and, and_true, reduceIte, Bool.false_eq_true, List.length_map, List.length_range, List.length_append, List.getElem?_cons_zero, List.getElem?_cons_succ, List.set_cons_zero, List.set_cons_succ, fzE, wipeE, Option.bind_some, Option.map_some, List.length_cons, List.length_nil, cond_true, cond_false, Nat.reduceAdd, Nat.reduceLeDiff, Nat.zero_add, if_true, if_false, eq_self, bOne, Nat.reduceLT, Nat.reduceEqDiff, List.map_cons, List.map_nil, List.cons_append, List.nil_append, List.replicate, Nat.reduceSub, decide_true, decide_false, Bool.not_true, Bool.not_false]
          refine wp_for1 rfl ?_
          simp only [ev_gN, List.set_cons_succ, List.set_cons_zero]
          refine put _ _ _ _ _ none _ hl1len ?_
          simp -implicitDefEqProofs only [DL.evB, DL.evN, beq_self_eq_true, DL.no6_look_two, DL.no6_at_most, DL.no6_join, DL.no6_meet, DL.no6_lowest, DL.no6_highest, DL.no3_look_order, not_false_eq_true, and_self, true_and, and_true, reduceIte, Bool.false_eq_true, List.length_map, List.length_range, List.length_append, List.getElem?_cons_zero, List.getElem?_cons_succ, List.set_cons_zero, List.set_cons_succ, fzE, wipeE, Option.bind_some, Option.map_some, List.length_cons, List.length_nil, cond_true, cond_false, Nat.reduceAdd, Nat.reduceLeDiff, Nat.zero_add, if_true, if_false, eq_self, bOne, Nat.reduceLT, Nat.reduceEqDiff, List.map_cons, List.map_nil, List.cons_append, List.nil_append, List.replicate, Nat.reduceSub, decide_true, decide_false, Bool.not_true, Bool.not_false]
          refine wp_for0 ?_
          simp -implicitDefEqProofs only [DL.evB, DL.evN, beq_self_eq_true, DL.no6_look_two, DL.no6_at_most, DL.no6_join, DL.no6_meet, DL.no6_lowest, DL.no6_highest, DL.no3_look_order, not_false_eq_true, and_self, true_and, and_true, reduceIte, Bool.false_eq_true, List.length_map, List.length_range, List.length_append, List.getElem?_cons_zero, List.getElem?_cons_succ, List.set_cons_zero, List.set_cons_succ, fzE, wipeE, Option.bind_some, Option.map_some, List.length_cons, List.length_nil, cond_true, cond_false, Nat.reduceAdd, Nat.reduceLeDiff, Nat.zero_add, if_true, if_false, eq_self, bOne, Nat.reduceLT, Nat.reduceEqDiff, List.map_cons, List.map_nil, List.cons_append, List.nil_append, List.replicate, Nat.reduceSub, decide_true, decide_false, Bool.not_true, Bool.not_false]
          have hJ2 := hJ1.add (Nat.lt_of_lt_of_le hkl pre_addN.length_le) (by omega) (or_lt16 hh hxx)
          refine ⟨addN (addN l' (l.getD k 0 &&& x)) (l.getD k 0 ||| x), _, _, _, ⟨hJ2.toShI, hJ2.pre, fun j hj => ?_⟩, rfl⟩
          by_cases hj2 : j < pre.length
          · exact hJ2.more j hj2
          · have : j = pre.length := by omega
            subst this
            rw [getD_pre hJ2.pre hk, getD_pre hJ2.pre (by omega), hxe]
            exact mem_addN.mpr (.inl (mem_addN.mpr (.inr rfl)))
      · rintro e ⟨l', o5, o6, o7, hJ, rfl⟩
        simp -implicitDefEqProofs only [DL.evB, DL.evN, beq_self_eq_true, DL.no6_look_two, DL.no6_at_most, DL.no6_join, DL.no6_meet, DL.no6_lowest, DL.no6_highest, DL.no3_look_order, not_false_eq_true, and_self, true_and, and_true, reduceIte, Bool.false_eq_true, List.length_map, List.length_range, List.length_append, List.getElem?_cons_zero, List.getElem?_cons_succ, List.set_cons_zero, List.set_cons_succ, fzE, wipeE, Option.bind_some, Option.map_some, List.length_cons, List.length_nil, cond_true, cond_false, Nat.reduceAdd, Nat.reduceLeDiff, Nat.zero_add, if_true, if_false, eq_self, bOne, Nat.reduceLT, Nat.reduceEqDiff, List.map_cons, List.map_nil, List.cons_append, List.nil_append, List.replicate, Nat.reduceSub, decide_true, decide_false, Bool.not_true, Bool.not_false]
        refine ⟨(l', k + 1), ⟨⟨hJ.nd, hJ.lt, hJ.sub, Nat.lt_of_lt_of_le hk hJ.pre.length_le, fun i j hi hj => ?_⟩, _, _, _, _, rfl⟩, by show 20 - (k + 1) < 20 - k; omega⟩
        by_cases hik : i < k
        · exact hJ.cl i j hik hj
        · have : i = k := by omega
          subst this
          exact hJ.more j (by rw [List.length_take]; omega)
    · refine .inl ⟨by simp -implicitDefEqProofs only [DL.evB, DL.evN, beq_self_eq_true, DL.no6_look_two, DL.no6_at_most, DL.no6_join, DL.no6_meet, DL.no6_lowest, DL.no6_highest, DL.no3_look_order, not_false_eq_true, and_self, true_and, and_true, reduceIte, Bool.false_eq_true, List.length_map, List.length_range, List.length_append, List.getElem?_cons_zero, List.getElem?_cons_succ, List.set_cons_zero, List.set_cons_succ, fzE, wipeE, Option.bind_some, Option.map_some, List.length_cons, List.length_nil, cond_true, cond_false, Nat.reduceAdd, Nat.reduceLeDiff, Nat.zero_add, if_true, if_false, eq_self, bOne, Nat.reduceLT, Nat.reduceEqDiff, List.map_cons, List.map_nil, List.cons_append, List.nil_append, List.replicate, Nat.reduceSub, decide_true, decide_false, Bool.not_true, Bool.not_false, hk], ?_⟩
      simp -implicitDefEqProofs only [DL.evB, DL.evN, beq_self_eq_true, DL.no6_look_two, DL.no6_at_most, DL.no6_join, DL.no6_meet, DL.no6_lowest, DL.no6_highest, DL.no3_look_order, not_false_eq_true, and_self, true_and, and_true, reduceIte, Bool.false_eq_true, List.length_map, List.length_range, List.length_append, List.getElem?_cons_zero, List.getElem?_cons_succ, List.set_cons_zero, List.set_cons_succ, fzE, wipeE, Option.bind_some, Option.map_some, List.length_cons, List.length_nil, cond_true, cond_false, Nat.reduceAdd, Nat.reduceLeDiff, Nat.zero_add, if_true, if_false, eq_self, bOne, Nat.reduceLT, Nat.reduceEqDiff, List.map_cons, List.map_nil, List.cons_append, List.nil_append, List.replicate, Nat.reduceSub, decide_true, decide_false, Bool.not_true, Bool.not_false]
      have : k = l.length := by omega
      subst this
      exact ⟨l, rfl, hI⟩
  obtain ⟨r, e, l, rfl, h⟩ := key
  exact ⟨l, e, h⟩
end Ev

/-! SA3: the kinds of orders of k01 to k46, and an order's masks in a drawn turn. -/
namespace Ev
open PySem PySem.Spec L2 DL
theorem ShI.good {ms l : List Nat} (h : ShI ms l l.length) (t : 15 ∈ ms) : Good l := by
  have cl : ∀ a ∈ l, ∀ b ∈ l, a &&& b ∈ l := by
    intro a ha b hb
    obtain ⟨i, hi, rfl⟩ := List.mem_iff_getElem.mp ha
    obtain ⟨j, hj, rfl⟩ := List.mem_iff_getElem.mp hb
    have e : ∀ m (hm : m < l.length), l.getD m 0 = l[m] := fun m hm => by rw [List.getD_eq_getElem?_getD, List.getElem?_eq_getElem hm]; rfl
    rcases Nat.lt_trichotomy i j with q | q | q
    · have := h.cl j i hj q
      rw [e j hj, e i hi] at this
      rw [Nat.and_comm]; exact this
    · subst q; rw [Nat.and_self]; exact List.getElem_mem hi
    · have := h.cl i j hi q
      rw [e j hj, e i hi] at this
      exact this
  refine ⟨h.nd, cl, ⟨15, h.sub 15 t, fun a ha => ?_⟩, Nat.le_trans (nodup_len h.nd h.lt) (by omega), fun x hx => by have := h.lt x hx; omega⟩
  have := h.lt a ha
  have e : a &&& (2 ^ 4 - 1) = a % 2 ^ 4 := Nat.and_two_pow_sub_one_eq_mod a 4
  rw [show (15 : Nat) = 2 ^ 4 - 1 from rfl, e]
  exact Nat.mod_eq_of_lt this
theorem kind_spec (ds : List Nat) (family : Nat) (hl : 8 ≤ ds.length) : ∃ ms, Good ms ∧ F__law_kind [.lst (ds.map nI), .int family] = .ok (.fr (.ow (ms.map nI))) := by
  have key : ∃ r, F__law_kind [.lst (ds.map nI), .int family] = .ok r ∧ ∃ ms, Good ms ∧ r = .fr (.ow (ms.map nI)) := by
    refine fn_rt rfl ?_
    unfold f__law_kind
    have h0 : 0 < ds.length := by omega
    have h1 : 1 < ds.length := by omega
    have h2 : 2 < ds.length := by omega
    have h3 : 3 < ds.length := by omega
    obtain ⟨row, hrow⟩ : ∃ row : List Nat, row = [0, 1, 3, 7] := ⟨_, rfl⟩
    have erow : [D.int ((0 : Nat) : Int), D.int ((1 : Nat) : Int), D.int ((3 : Nat) : Int), D.int ((7 : Nat) : Int)] = row.map nI := by rw [hrow]; rfl
    obtain ⟨row2, hrow2⟩ : ∃ row : List Nat, row = [0, 1, 3, 7, 15, 31] := ⟨_, rfl⟩
    have erow2 : [D.int ((0 : Nat) : Int), D.int ((1 : Nat) : Int), D.int ((3 : Nat) : Int), D.int ((7 : Nat) : Int), D.int ((15 : Nat) : Int), D.int ((31 : Nat) : Int)] = row2.map nI := by rw [hrow2]; rfl
    obtain ⟨r1, hr1⟩ : ∃ row : List Nat, row = [0, 1, 2, 6, 7] := ⟨_, rfl⟩
    have er1 : [D.int ((0 : Nat) : Int), D.int ((1 : Nat) : Int), D.int ((2 : Nat) : Int), D.int ((6 : Nat) : Int), D.int ((7 : Nat) : Int)] = r1.map nI := by rw [hr1]; rfl
    obtain ⟨r2, hr2⟩ : ∃ row : List Nat, row = [0, 1, 3, 4, 12, 15] := ⟨_, rfl⟩
    have er2 : [D.int ((0 : Nat) : Int), D.int ((1 : Nat) : Int), D.int ((3 : Nat) : Int), D.int ((4 : Nat) : Int), D.int ((12 : Nat) : Int), D.int ((15 : Nat) : Int)] = r2.map nI := by rw [hr2]; rfl
    have flen : ∀ m, (flowerN m).length ≤ m + 2 := by
      intro m; unfold flowerN; split <;> simp
    have fne : ∀ m, flowerN m ≠ [] := by intro m; unfold flowerN; simp
    have flt : ∀ m, m ≤ 5 → ∀ x ∈ flowerN m, x < 2 ^ 64 := by decide +kernel
    have slen : ∀ a b k, (stackN a b k).length ≤ a.length + b.length := by
      intro a b k; unfold stackN; simp
    have sne : ∀ a b k, a ≠ [] → stackN a b k ≠ [] := by
      intro a b k h; unfold stackN; simp [h]
    generalize hd0 : ds.getD 0 0 = d0
    generalize hd1 : ds.getD 1 0 = d1
    generalize hd2 : ds.getD 2 0 = d2
    generalize hd3 : ds.getD 3 0 = d3
    have fl1 := flen (1 + d1 % 5)
    have fl2 := flen (1 + d2 % 5)
    have ff1 := flower_spec (1 + d1 % 5) (by omega)
    have ff2 := flower_spec (1 + d2 % 5) (by omega)
    simp -implicitDefEqProofs only [DL.evB, DL.evN, beq_self_eq_true, DL.no6_look_two, DL.no6_at_most, DL.no6_join, DL.no6_meet, DL.no6_lowest, DL.no6_highest, DL.no3_look_order, not_false_eq_true, and_self, true_and, and_true, reduceIte, Bool.false_eq_true, List.length_map, List.length_range, List.length_append, List.getElem?_cons_zero, List.getElem?_cons_succ, List.set_cons_zero, List.set_cons_succ, fzE, wipeE, Option.bind_some, Option.map_some, List.length_cons, List.length_nil, cond_true, cond_false, Nat.reduceAdd, Nat.reduceLeDiff, Nat.zero_add, if_true, if_false, eq_self, bOne, Nat.reduceLT, Nat.reduceEqDiff, List.map_cons, List.map_nil, List.cons_append, List.nil_append, List.replicate, Nat.reduceSub, decide_true, decide_false, Bool.not_true, Bool.not_false, h0, h1, h2, h3, hd0, hd1, hd2, hd3, ff1, ff2]
    generalize hw : d0 % 8 = w
    by_cases w3 : w = 3
    · subst w3
      have fl3 := flen (1 + d3 % 4)
      have s1 := stack_spec (flowerN (1 + d1 % 5)) (flowerN (1 + d2 % 5)) 10 (fne _) (by omega) (flt _ (by omega)) (by omega)
      have sl := slen (flowerN (1 + d1 % 5)) (flowerN (1 + d2 % 5)) 10
      have s2 := stack_spec (stackN (flowerN (1 + d1 % 5)) (flowerN (1 + d2 % 5)) 10) (flowerN (1 + d3 % 4)) 20 (sne _ _ _ (fne _)) (by omega) (flt _ (by omega)) (by omega)
      have ff3 := flower_spec (1 + d3 % 4) (by omega)
      simp -implicitDefEqProofs only [DL.evB, DL.evN, beq_self_eq_true, DL.no6_look_two, DL.no6_at_most, DL.no6_join, DL.no6_meet, DL.no6_lowest, DL.no6_highest, DL.no3_look_order, not_false_eq_true, and_self, true_and, and_true, reduceIte, Bool.false_eq_true, List.length_map, List.length_range, List.length_append, List.getElem?_cons_zero, List.getElem?_cons_succ, List.set_cons_zero, List.set_cons_succ, fzE, wipeE, Option.bind_some, Option.map_some, List.length_cons, List.length_nil, cond_true, cond_false, Nat.reduceAdd, Nat.reduceLeDiff, Nat.zero_add, if_true, if_false, eq_self, bOne, Nat.reduceLT, Nat.reduceEqDiff, List.map_cons, List.map_nil, List.cons_append, List.nil_append, List.replicate, Nat.reduceSub, decide_true, decide_false, Bool.not_true, Bool.not_false, h3, hd3, s1, ff3, s2]
      exact ⟨_, (good_stack3 (d1 % 5) (by omega) (d2 % 5) (by omega) (d3 % 4) (by omega)).good, rfl⟩
    by_cases w4 : w = 4
    · subst w4
      simp -implicitDefEqProofs only [DL.evB, DL.evN, beq_self_eq_true, DL.no6_look_two, DL.no6_at_most, DL.no6_join, DL.no6_meet, DL.no6_lowest, DL.no6_highest, DL.no3_look_order, not_false_eq_true, and_self, true_and, and_true, reduceIte, Bool.false_eq_true, List.length_map, List.length_range, List.length_append, List.getElem?_cons_zero, List.getElem?_cons_succ, List.set_cons_zero, List.set_cons_succ, fzE, wipeE, Option.bind_some, Option.map_some, List.length_cons, List.length_nil, cond_true, cond_false, Nat.reduceAdd, Nat.reduceLeDiff, Nat.zero_add, if_true, if_false, eq_self, bOne, Nat.reduceLT, Nat.reduceEqDiff, List.map_cons, List.map_nil, List.cons_append, List.nil_append, List.replicate, Nat.reduceSub, decide_true, decide_false, Bool.not_true, Bool.not_false, fields_spec]
      exact ⟨_, good_fields.good, rfl⟩
    by_cases w5 : w = 5
    · subst w5
      simp -implicitDefEqProofs only [DL.evB, DL.evN, beq_self_eq_true, DL.no6_look_two, DL.no6_at_most, DL.no6_join, DL.no6_meet, DL.no6_lowest, DL.no6_highest, DL.no3_look_order, not_false_eq_true, and_self, true_and, and_true, reduceIte, Bool.false_eq_true, List.length_map, List.length_range, List.length_append, List.getElem?_cons_zero, List.getElem?_cons_succ, List.set_cons_zero, List.set_cons_succ, fzE, wipeE, Option.bind_some, Option.map_some, List.length_cons, List.length_nil, cond_true, cond_false, Nat.reduceAdd, Nat.reduceLeDiff, Nat.zero_add, if_true, if_false, eq_self, bOne, Nat.reduceLT, Nat.reduceEqDiff, List.map_cons, List.map_nil, List.cons_append, List.nil_append, List.replicate, Nat.reduceSub, decide_true, decide_false, Bool.not_true, Bool.not_false, h1]
      rw [erow]
      simp -implicitDefEqProofs only [DL.evB, DL.evN, beq_self_eq_true, DL.no6_look_two, DL.no6_at_most, DL.no6_join, DL.no6_meet, DL.no6_lowest, DL.no6_highest, DL.no3_look_order, not_false_eq_true, and_self, true_and, and_true, reduceIte, Bool.false_eq_true, List.length_map, List.length_range, List.length_append, List.getElem?_cons_zero, List.getElem?_cons_succ, List.set_cons_zero, List.set_cons_succ, fzE, wipeE, Option.bind_some, Option.map_some, List.length_cons, List.length_nil, cond_true, cond_false, Nat.reduceAdd, Nat.reduceLeDiff, Nat.zero_add, if_true, if_false, eq_self, bOne, Nat.reduceLT, Nat.reduceEqDiff, List.map_cons, List.map_nil, List.cons_append, List.nil_append, List.replicate, Nat.reduceSub, decide_true, decide_false, Bool.not_true, Bool.not_false, h1, hd1, h3, hd3]
      have rl : (row.take (1 + d1 % 4)).length ≤ 4 := by rw [hrow, List.length_take]; simp; omega
      refine wp_ifB (fun q => ?_) fun q => ?_
      · simp -implicitDefEqProofs only [DL.evB, DL.evN, beq_self_eq_true, DL.no6_look_two, DL.no6_at_most, DL.no6_join, DL.no6_meet, DL.no6_lowest, DL.no6_highest, DL.no3_look_order, not_false_eq_true, and_self, true_and, and_true, reduceIte, Bool.false_eq_true, List.length_map, List.length_range, List.length_append, List.getElem?_cons_zero, List.getElem?_cons_succ, List.set_cons_zero, List.set_cons_succ, fzE, wipeE, Option.bind_some, Option.map_some, List.length_cons, List.length_nil, cond_true, cond_false, Nat.reduceAdd, Nat.reduceLeDiff, Nat.zero_add, if_true, if_false, eq_self, bOne, Nat.reduceLT, Nat.reduceEqDiff, List.map_cons, List.map_nil, List.cons_append, List.nil_append, List.replicate, Nat.reduceSub, decide_true, decide_false, Bool.not_true, Bool.not_false]
        rw [erow2]
        have rl2 : (row2.take (1 + d2 % 6)).length ≤ 6 := by rw [hrow2, List.length_take]; simp; omega
        have b1 := beside_spec (row.take (1 + d1 % 4)) (row2.take (1 + d2 % 6)) (by
          intro x hx
          have hx := List.mem_of_mem_take hx
          rw [hrow2] at hx; simp at hx; omega) (Nat.le_trans (Nat.mul_le_mul rl rl2) (by decide)) (by omega)
        simp -implicitDefEqProofs only [DL.evB, DL.evN, beq_self_eq_true, DL.no6_look_two, DL.no6_at_most, DL.no6_join, DL.no6_meet, DL.no6_lowest, DL.no6_highest, DL.no3_look_order, not_false_eq_true, and_self, true_and, and_true, reduceIte, Bool.false_eq_true, List.length_map, List.length_range, List.length_append, List.getElem?_cons_zero, List.getElem?_cons_succ, List.set_cons_zero, List.set_cons_succ, fzE, wipeE, Option.bind_some, Option.map_some, List.length_cons, List.length_nil, cond_true, cond_false, Nat.reduceAdd, Nat.reduceLeDiff, Nat.zero_add, if_true, if_false, eq_self, bOne, Nat.reduceLT, Nat.reduceEqDiff, List.map_cons, List.map_nil, List.cons_append, List.nil_append, List.replicate, Nat.reduceSub, decide_true, decide_false, Bool.not_true, Bool.not_false, h2, hd2, b1]
        refine ⟨_, ?_, rfl⟩
        rw [hrow, hrow2]
        exact (good_row (d1 % 4) (by omega) (d2 % 6) (by omega)).good
      · have ff3 := flower_spec (1 + d2 % 4) (by omega)
        have fl3 := flen (1 + d2 % 4)
        have b1 := beside_spec (row.take (1 + d1 % 4)) (flowerN (1 + d2 % 4)) (flt _ (by omega)) (Nat.le_trans (Nat.mul_le_mul rl (show _ ≤ 10 by omega)) (by decide)) (by omega)
        simp -implicitDefEqProofs only [DL.evB, DL.evN, beq_self_eq_true, DL.no6_look_two, DL.no6_at_most, DL.no6_join, DL.no6_meet, DL.no6_lowest, DL.no6_highest, DL.no3_look_order, not_false_eq_true, and_self, true_and, and_true, reduceIte, Bool.false_eq_true, List.length_map, List.length_range, List.length_append, List.getElem?_cons_zero, List.getElem?_cons_succ, List.set_cons_zero, List.set_cons_succ, fzE, wipeE, Option.bind_some, Option.map_some, List.length_cons, List.length_nil, cond_true, cond_false, Nat.reduceAdd, Nat.reduceLeDiff, Nat.zero_add, if_true, if_false, eq_self, bOne, Nat.reduceLT, Nat.reduceEqDiff, List.map_cons, List.map_nil, List.cons_append, List.nil_append, List.replicate, Nat.reduceSub, decide_true, decide_false, Bool.not_true, Bool.not_false, h2, hd2, ff3, b1]
        refine ⟨_, ?_, rfl⟩
        rw [hrow]
        exact (good_rowf (d1 % 4) (by omega) (d2 % 4) (by omega)).good
    by_cases w6 : w = 6
    · subst w6
      simp -implicitDefEqProofs only [DL.evB, DL.evN, beq_self_eq_true, DL.no6_look_two, DL.no6_at_most, DL.no6_join, DL.no6_meet, DL.no6_lowest, DL.no6_highest, DL.no3_look_order, not_false_eq_true, and_self, true_and, and_true, reduceIte, Bool.false_eq_true, List.length_map, List.length_range, List.length_append, List.getElem?_cons_zero, List.getElem?_cons_succ, List.set_cons_zero, List.set_cons_succ, fzE, wipeE, Option.bind_some, Option.map_some, List.length_cons, List.length_nil, cond_true, cond_false, Nat.reduceAdd, Nat.reduceLeDiff, Nat.zero_add, if_true, if_false, eq_self, bOne, Nat.reduceLT, Nat.reduceEqDiff, List.map_cons, List.map_nil, List.cons_append, List.nil_append, List.replicate, Nat.reduceSub, decide_true, decide_false, Bool.not_true, Bool.not_false, h1, hd1]
      rw [er1, er2]
      obtain ⟨rs, hrs⟩ : ∃ rs : List D, rs = [.lst (r1.map nI), .lst (r2.map nI)] := ⟨_, rfl⟩
      rw [← hrs]
      obtain ⟨rg, hrg, hix⟩ : ∃ rg : List Nat, (rg = r1 ∨ rg = r2) ∧ dIx (.lst rs) (.int ((d1 % 2 : Nat) : Int)) = some (.sh (.lst (rg.map nI))) := by
        rcases Nat.mod_two_eq_zero_or_one d1 with q | q <;> rw [q, hrs]
        · exact ⟨r1, .inl rfl, ix_lst (k := 0) rfl⟩
        · exact ⟨r2, .inr rfl, ix_lst (k := 1) rfl⟩
      simp -implicitDefEqProofs only [DL.evB, DL.evN, beq_self_eq_true, DL.no6_look_two, DL.no6_at_most, DL.no6_join, DL.no6_meet, DL.no6_lowest, DL.no6_highest, DL.no3_look_order, not_false_eq_true, and_self, true_and, and_true, reduceIte, Bool.false_eq_true, List.length_map, List.length_range, List.length_append, List.getElem?_cons_zero, List.getElem?_cons_succ, List.set_cons_zero, List.set_cons_succ, fzE, wipeE, Option.bind_some, Option.map_some, List.length_cons, List.length_nil, cond_true, cond_false, Nat.reduceAdd, Nat.reduceLeDiff, Nat.zero_add, if_true, if_false, eq_self, bOne, Nat.reduceLT, Nat.reduceEqDiff, List.map_cons, List.map_nil, List.cons_append, List.nil_append, List.replicate, Nat.reduceSub, decide_true, decide_false, Bool.not_true, Bool.not_false, hix, h3, hd3]
      have rgl : rg.length ≤ 6 := by rcases hrg with q | q <;> rw [q] <;> first | (rw [hr1]; decide) | (rw [hr2]; decide)
      have rgn : rg ≠ [] := by rcases hrg with q | q <;> rw [q] <;> first | (rw [hr1]; decide) | (rw [hr2]; decide)
      refine wp_ifB (fun q => ?_) fun q => ?_
      · simp -implicitDefEqProofs only [DL.evB, DL.evN, beq_self_eq_true, DL.no6_look_two, DL.no6_at_most, DL.no6_join, DL.no6_meet, DL.no6_lowest, DL.no6_highest, DL.no3_look_order, not_false_eq_true, and_self, true_and, and_true, reduceIte, Bool.false_eq_true, List.length_map, List.length_range, List.length_append, List.getElem?_cons_zero, List.getElem?_cons_succ, List.set_cons_zero, List.set_cons_succ, fzE, wipeE, Option.bind_some, Option.map_some, List.length_cons, List.length_nil, cond_true, cond_false, Nat.reduceAdd, Nat.reduceLeDiff, Nat.zero_add, if_true, if_false, eq_self, bOne, Nat.reduceLT, Nat.reduceEqDiff, List.map_cons, List.map_nil, List.cons_append, List.nil_append, List.replicate, Nat.reduceSub, decide_true, decide_false, Bool.not_true, Bool.not_false]
        rw [erow]
        have rl : (row.take (1 + d2 % 4)).length ≤ 4 := by rw [hrow, List.length_take]; simp; omega
        have b1 := beside_spec (row.take (1 + d2 % 4)) rg (by
          intro x hx
          rcases hrg with q | q <;> rw [q] at hx <;> first | (rw [hr1] at hx; simp at hx; omega) | (rw [hr2] at hx; simp at hx; omega)) (Nat.le_trans (Nat.mul_le_mul rl rgl) (by decide)) (by omega)
        simp -implicitDefEqProofs only [DL.evB, DL.evN, beq_self_eq_true, DL.no6_look_two, DL.no6_at_most, DL.no6_join, DL.no6_meet, DL.no6_lowest, DL.no6_highest, DL.no3_look_order, not_false_eq_true, and_self, true_and, and_true, reduceIte, Bool.false_eq_true, List.length_map, List.length_range, List.length_append, List.getElem?_cons_zero, List.getElem?_cons_succ, List.set_cons_zero, List.set_cons_succ, fzE, wipeE, Option.bind_some, Option.map_some, List.length_cons, List.length_nil, cond_true, cond_false, Nat.reduceAdd, Nat.reduceLeDiff, Nat.zero_add, if_true, if_false, eq_self, bOne, Nat.reduceLT, Nat.reduceEqDiff, List.map_cons, List.map_nil, List.cons_append, List.nil_append, List.replicate, Nat.reduceSub, decide_true, decide_false, Bool.not_true, Bool.not_false, h2, hd2, b1]
        refine ⟨_, ?_, rfl⟩
        rw [hrow]
        rcases hrg with q | q
        · rw [q, hr1]; exact (good_ringr (d2 % 4) (by omega)).1.good
        · rw [q, hr2]; exact (good_ringr (d2 % 4) (by omega)).2.good
      · have s1 := stack_spec rg (flowerN (1 + d2 % 5)) 10 rgn (by omega) (flt _ (by omega)) (by omega)
        simp -implicitDefEqProofs only [DL.evB, DL.evN, beq_self_eq_true, DL.no6_look_two, DL.no6_at_most, DL.no6_join, DL.no6_meet, DL.no6_lowest, DL.no6_highest, DL.no3_look_order, not_false_eq_true, and_self, true_and, and_true, reduceIte, Bool.false_eq_true, List.length_map, List.length_range, List.length_append, List.getElem?_cons_zero, List.getElem?_cons_succ, List.set_cons_zero, List.set_cons_succ, fzE, wipeE, Option.bind_some, Option.map_some, List.length_cons, List.length_nil, cond_true, cond_false, Nat.reduceAdd, Nat.reduceLeDiff, Nat.zero_add, if_true, if_false, eq_self, bOne, Nat.reduceLT, Nat.reduceEqDiff, List.map_cons, List.map_nil, List.cons_append, List.nil_append, List.replicate, Nat.reduceSub, decide_true, decide_false, Bool.not_true, Bool.not_false, s1]
        refine ⟨_, ?_, rfl⟩
        rcases hrg with q | q
        · rw [q, hr1]; exact (good_rings (d2 % 5) (by omega)).1.good
        · rw [q, hr2]; exact (good_rings (d2 % 5) (by omega)).2.good
    simp -implicitDefEqProofs only [DL.evB, DL.evN, beq_self_eq_true, DL.no6_look_two, DL.no6_at_most, DL.no6_join, DL.no6_meet, DL.no6_lowest, DL.no6_highest, DL.no3_look_order, not_false_eq_true, and_self, true_and, and_true, reduceIte, Bool.false_eq_true, List.length_map, List.length_range, List.length_append, List.getElem?_cons_zero, List.getElem?_cons_succ, List.set_cons_zero, List.set_cons_succ, fzE, wipeE, Option.bind_some, Option.map_some, List.length_cons, List.length_nil, cond_true, cond_false, Nat.reduceAdd, Nat.reduceLeDiff, Nat.zero_add, if_true, if_false, eq_self, bOne, Nat.reduceLT, Nat.reduceEqDiff, List.map_cons, List.map_nil, List.cons_append, List.nil_append, List.replicate, Nat.reduceSub, decide_true, decide_false, Bool.not_true, Bool.not_false, w3, w4, w5, w6]
    rw [comp_nf (emb := nI) (xs := List.range 15) (fun k => decide (family >>> k &&& 1 = 1)) (fun k => k) (by simp -implicitDefEqProofs only [DL.evB, DL.evN, beq_self_eq_true, DL.no6_look_two, DL.no6_at_most, DL.no6_join, DL.no6_meet, DL.no6_lowest, DL.no6_highest, DL.no3_look_order, not_false_eq_true, and_self, true_and, and_true, reduceIte, Bool.false_eq_true, List.length_map, List.length_range, List.length_append, List.getElem?_cons_zero, List.getElem?_cons_succ, List.set_cons_zero, List.set_cons_succ, fzE, wipeE, Option.bind_some, Option.map_some, List.length_cons, List.length_nil, cond_true, cond_false, Nat.reduceAdd, Nat.reduceLeDiff, Nat.zero_add, if_true, if_false, eq_self, bOne, Nat.reduceLT, Nat.reduceEqDiff, List.map_cons, List.map_nil, List.cons_append, List.nil_append, List.replicate, Nat.reduceSub, decide_true, decide_false, Bool.not_true, Bool.not_false]; rw [rng1_nat (by omega)]) (by rw [List.length_range]; unfold lim; omega) (fun x hx => ⟨_, rfl, by simp -implicitDefEqProofs only [DL.evB, DL.evN, beq_self_eq_true, DL.no6_look_two, DL.no6_at_most, DL.no6_join, DL.no6_meet, DL.no6_lowest, DL.no6_highest, DL.no3_look_order, not_false_eq_true, and_self, true_and, and_true, reduceIte, Bool.false_eq_true, List.length_map, List.length_range, List.length_append, List.getElem?_cons_zero, List.getElem?_cons_succ, List.set_cons_zero, List.set_cons_succ, fzE, wipeE, Option.bind_some, Option.map_some, List.length_cons, List.length_nil, cond_true, cond_false, Nat.reduceAdd, Nat.reduceLeDiff, Nat.zero_add, if_true, if_false, eq_self, bOne, Nat.reduceLT, Nat.reduceEqDiff, List.map_cons, List.map_nil, List.cons_append, List.nil_append, List.replicate, Nat.reduceSub, decide_true, decide_false, Bool.not_true, Bool.not_false], fun _ => by simp -implicitDefEqProofs only [DL.evB, DL.evN, beq_self_eq_true, DL.no6_look_two, DL.no6_at_most, DL.no6_join, DL.no6_meet, DL.no6_lowest, DL.no6_highest, DL.no3_look_order, not_false_eq_true, and_self, true_and, and_true, reduceIte, Bool.false_eq_true, List.length_map, List.length_range, List.length_append, List.getElem?_cons_zero, List.getElem?_cons_succ, List.set_cons_zero, List.set_cons_succ, fzE, wipeE, Option.bind_some, Option.map_some, List.length_cons, List.length_nil, cond_true, cond_false, Nat.reduceAdd, Nat.reduceLeDiff, Nat.zero_add, if_true, if_false, eq_self, bOne, Nat.reduceLT, Nat.reduceEqDiff, List.map_cons, List.map_nil, List.cons_append, List.nil_append, List.replicate, Nat.reduceSub, decide_true, decide_false, Bool.not_true, Bool.not_false]⟩)]
    simp only [List.map_id']
    have hsome : ∀ x ∈ (List.range 15).filter (fun k => decide (family >>> k &&& 1 = 1)), x < 15 := fun x hx => List.mem_range.mp (List.mem_filter.mp hx).1
    have hnd : ((List.range 15).filter (fun k => decide (family >>> k &&& 1 = 1))).Nodup := List.nodup_range.filter _
    generalize (List.range 15).filter (fun k => decide (family >>> k &&& 1 = 1)) = some' at hsome hnd
    have hsl := nodup_len hnd hsome
    simp -implicitDefEqProofs only [DL.evB, DL.evN, beq_self_eq_true, DL.no6_look_two, DL.no6_at_most, DL.no6_join, DL.no6_meet, DL.no6_lowest, DL.no6_highest, DL.no3_look_order, not_false_eq_true, and_self, true_and, and_true, reduceIte, Bool.false_eq_true, List.length_map, List.length_range, List.length_append, List.getElem?_cons_zero, List.getElem?_cons_succ, List.set_cons_zero, List.set_cons_succ, fzE, wipeE, Option.bind_some, Option.map_some, List.length_cons, List.length_nil, cond_true, cond_false, Nat.reduceAdd, Nat.reduceLeDiff, Nat.zero_add, if_true, if_false, eq_self, bOne, Nat.reduceLT, Nat.reduceEqDiff, List.map_cons, List.map_nil, List.cons_append, List.nil_append, List.replicate, Nat.reduceSub, decide_true, decide_false, Bool.not_true, Bool.not_false]
    rw [nIs_one, add_nIs (by simp; omega)]
    obtain ⟨l, e, hI⟩ := shut_spec ([15] ++ some') (decide (w = 2) || decide (w = 7)) (by
      rw [List.nodup_append]
      refine ⟨by simp, hnd, fun a ha b hb e => ?_⟩
      rw [List.mem_singleton] at ha
      have := hsome b hb
      omega) (by
      intro x hx
      rcases List.mem_append.mp hx with q | q
      · rw [List.mem_singleton] at q; omega
      · have := hsome x q; omega)
    simp only [List.cons_append, List.nil_append, List.map_cons, nI_def] at e
    simp -implicitDefEqProofs only [DL.evB, DL.evN, beq_self_eq_true, DL.no6_look_two, DL.no6_at_most, DL.no6_join, DL.no6_meet, DL.no6_lowest, DL.no6_highest, DL.no3_look_order, not_false_eq_true, and_self, true_and, and_true, reduceIte, Bool.false_eq_true, List.length_map, List.length_range, List.length_append, List.getElem?_cons_zero, List.getElem?_cons_succ, List.set_cons_zero, List.set_cons_succ, fzE, wipeE, Option.bind_some, Option.map_some, List.length_cons, List.length_nil, cond_true, cond_false, Nat.reduceAdd, Nat.reduceLeDiff, Nat.zero_add, if_true, if_false, eq_self, bOne, Nat.reduceLT, Nat.reduceEqDiff, List.map_cons, List.map_nil, List.cons_append, List.nil_append, List.replicate, Nat.reduceSub, decide_true, decide_false, Bool.not_true, Bool.not_false, e]
    exact ⟨l, hI.good (by simp), rfl⟩
  obtain ⟨r, e, ms, h, rfl⟩ := key
  exact ⟨ms, h, e⟩
theorem order_spec (ns : List Int) (k : Nat) : ∃ ms, Good ms ∧ F__law_order [.lkd (ns.map D.int), .int k] = .ok (.fr (.ow (ms.map nI))) := by
  have key : ∃ r, F__law_order [.lkd (ns.map D.int), .int k] = .ok r ∧ ∃ ms, Good ms ∧ r = .fr (.ow (ms.map nI)) := by
    refine fn_rt rfl ?_
    unfold f__law_order
    obtain ⟨c1, ec1⟩ := cell_spec ns k
    obtain ⟨c2, ec2⟩ := cell_spec ns (k + 1)
    obtain ⟨ds, dl, dlt, ed⟩ := draws_spec c1 8 (by omega)
    obtain ⟨es, el, elt, ee⟩ := draws_spec c2 1 (by omega)
    have hx : ∀ m, m < 8 → m < ds.length := by omega
    have h4 := hx 4 (by omega)
    have h5 := hx 5 (by omega)
    have h6 := hx 6 (by omega)
    have h7 := hx 7 (by omega)
    have hd7 : ds.getD 7 0 < 18446744073709551616 := by
      have := dlt (ds.getD 7 0) (by rw [List.getD_eq_getElem?_getD, List.getElem?_eq_getElem h7]; exact List.getElem_mem h7)
      omega
    have e0 : 0 < es.length := by omega
    -- behind the family
    have rest : ∀ (fam : Nat), wpS { rt := fun r => ∃ ms, Good ms ∧ r = .fr (.ow (ms.map nI)) } [] (sSeq (sSet 4 (fCall F__law_kind (aCons (eVar 2) (aCons (eVar 3) aNil))))
    (sSeq (sSet 5 (eLst aNil))
    (sSeq (sFor (fIt (vCons (fBlt (bOne dLen) (vCons (eVar 4) aNil)) aNil) rng1) (gN 6) (sPopApp 5 4 (fBin dMod (fBin dAdd (fBin dFdiv (fBin dIx (eVar 2) (eC (.int 6))) (eC (.int 7))) (fBin dMul (eVar 6) (fBin dIx (eVar 2) (eC (.int 7))))) (fBlt (bOne dLen) (vCons (eVar 4) aNil)))))
    (sRetv 5))) [some (.sh (.lkd (ns.map D.int))), some (.sh (.int k)), some (.sh (.lst (ds.map nI))), some (.sh (.int (fam : Nat))), none, none, none]) := by
      intro fam
      obtain ⟨ms, hg, ek⟩ := kind_spec ds fam (by omega)
      have hml := hg.len
      simp -implicitDefEqProofs only [DL.evB, DL.evN, beq_self_eq_true, DL.no6_look_two, DL.no6_at_most, DL.no6_join, DL.no6_meet, DL.no6_lowest, DL.no6_highest, DL.no3_look_order, not_false_eq_true, and_self, true_and, and_true, reduceIte, Bool.false_eq_true, List.length_map, List.length_range, List.length_append, List.getElem?_cons_zero, List.getElem?_cons_succ, List.set_cons_zero, List.set_cons_succ, fzE, wipeE, Option.bind_some, Option.map_some, List.length_cons, List.length_nil, cond_true, cond_false, Nat.reduceAdd, Nat.reduceLeDiff, Nat.zero_add, if_true, if_false, eq_self, bOne, Nat.reduceLT, Nat.reduceEqDiff, List.map_cons, List.map_nil, List.cons_append, List.nil_append, List.replicate, Nat.reduceSub, decide_true, decide_false, Bool.not_true, Bool.not_false, ek]
      rw [rng1_nat (by omega)]
      simp -implicitDefEqProofs only [DL.evB, DL.evN, beq_self_eq_true, DL.no6_look_two, DL.no6_at_most, DL.no6_join, DL.no6_meet, DL.no6_lowest, DL.no6_highest, DL.no3_look_order, not_false_eq_true, and_self, true_and, and_true, reduceIte, Bool.false_eq_true, List.length_map, List.length_range, List.length_append, List.getElem?_cons_zero, List.getElem?_cons_succ, List.set_cons_zero, List.set_cons_succ, fzE, wipeE, Option.bind_some, Option.map_some, List.length_cons, List.length_nil, cond_true, cond_false, Nat.reduceAdd, Nat.reduceLeDiff, Nat.zero_add, if_true, if_false, eq_self, bOne, Nat.reduceLT, Nat.reduceEqDiff, List.map_cons, List.map_nil, List.cons_append, List.nil_append, List.replicate, Nat.reduceSub, decide_true, decide_false, Bool.not_true, Bool.not_false]
      refine wp_forL (fun pre e => ∃ (l f : List Nat) (o : Option L), (f ++ l).Perm ms ∧ f.length = pre.length ∧ e = [some (.sh (.lkd (ns.map D.int))), some (.sh (.int k)), some (.sh (.lst (ds.map nI))), some (.sh (.int (fam : Nat))), some (.ow (l.map nI)), some (.ow (f.map nI)), o]) ⟨ms, [], _, by simp, rfl, rfl⟩ ?_ ?_
      · rintro pre x post e hx ⟨l, f, o, hp, hf, rfl⟩
        have hlen := hp.length_eq
        rw [List.length_append] at hlen
        have hpl : pre.length < ms.length := by
          have := congrArg List.length hx
          rw [List.length_range, List.length_append, List.length_cons] at this
          omega
        have hll : 0 < l.length := by omega
        refine ⟨_, rfl, ?_⟩
        simp only [ev_gN, nI_def, List.set_cons_succ, List.set_cons_zero]
        have hm : (ds.getD 6 0 / 7 + x * ds.getD 7 0) % l.length < l.length := Nat.mod_lt _ hll
        refine st_popapp (fs := f.map nI) (ds := l.map nI) (k := (ds.getD 6 0 / 7 + x * ds.getD 7 0) % l.length) (by decide) rfl rfl (by simp -implicitDefEqProofs only [DL.evB, DL.evN, beq_self_eq_true, DL.no6_look_two, DL.no6_at_most, DL.no6_join, DL.no6_meet, DL.no6_lowest, DL.no6_highest, DL.no3_look_order, not_false_eq_true, and_self, true_and, and_true, reduceIte, Bool.false_eq_true, List.length_map, List.length_range, List.length_append, List.getElem?_cons_zero, List.getElem?_cons_succ, List.set_cons_zero, List.set_cons_succ, fzE, wipeE, Option.bind_some, Option.map_some, List.length_cons, List.length_nil, cond_true, cond_false, Nat.reduceAdd, Nat.reduceLeDiff, Nat.zero_add, if_true, if_false, eq_self, bOne, Nat.reduceLT, Nat.reduceEqDiff, List.map_cons, List.map_nil, List.cons_append, List.nil_append, List.replicate, Nat.reduceSub, decide_true, decide_false, Bool.not_true, Bool.not_false, h6, h7, hd7, hll]) (by simpa using hm) (by simp; unfold lim; omega) (by simp; omega) ?_
        rw [eraseIdx_map, List.getElem_map, nI_def, app_nIs]
        simp -implicitDefEqProofs only [DL.evB, DL.evN, beq_self_eq_true, DL.no6_look_two, DL.no6_at_most, DL.no6_join, DL.no6_meet, DL.no6_lowest, DL.no6_highest, DL.no3_look_order, not_false_eq_true, and_self, true_and, and_true, reduceIte, Bool.false_eq_true, List.length_map, List.length_range, List.length_append, List.getElem?_cons_zero, List.getElem?_cons_succ, List.set_cons_zero, List.set_cons_succ, fzE, wipeE, Option.bind_some, Option.map_some, List.length_cons, List.length_nil, cond_true, cond_false, Nat.reduceAdd, Nat.reduceLeDiff, Nat.zero_add, if_true, if_false, eq_self, bOne, Nat.reduceLT, Nat.reduceEqDiff, List.map_cons, List.map_nil, List.cons_append, List.nil_append, List.replicate, Nat.reduceSub, decide_true, decide_false, Bool.not_true, Bool.not_false]
        refine ⟨_, _, _, ?_, by rw [List.length_append, hf]; rfl, rfl⟩
        have := perm_eraseIdx l _ hm
        rw [List.append_assoc]
        exact (List.Perm.append_left f this).trans hp
      · rintro e ⟨l, f, o, hp, hf, rfl⟩
        have hlen := hp.length_eq
        rw [List.length_append, hf, List.length_range] at hlen
        have : l = [] := List.length_eq_zero_iff.mp (by omega)
        subst this
        rw [List.append_nil] at hp
        simp -implicitDefEqProofs only [DL.evB, DL.evN, beq_self_eq_true, DL.no6_look_two, DL.no6_at_most, DL.no6_join, DL.no6_meet, DL.no6_lowest, DL.no6_highest, DL.no3_look_order, not_false_eq_true, and_self, true_and, and_true, reduceIte, Bool.false_eq_true, List.length_map, List.length_range, List.length_append, List.getElem?_cons_zero, List.getElem?_cons_succ, List.set_cons_zero, List.set_cons_succ, fzE, wipeE, Option.bind_some, Option.map_some, List.length_cons, List.length_nil, cond_true, cond_false, Nat.reduceAdd, Nat.reduceLeDiff, Nat.zero_add, if_true, if_false, eq_self, bOne, Nat.reduceLT, Nat.reduceEqDiff, List.map_cons, List.map_nil, List.cons_append, List.nil_append, List.replicate, Nat.reduceSub, decide_true, decide_false, Bool.not_true, Bool.not_false]
        exact ⟨f, hg.perm hp.symm, rfl⟩
    simp -implicitDefEqProofs only [DL.evB, DL.evN, beq_self_eq_true, DL.no6_look_two, DL.no6_at_most, DL.no6_join, DL.no6_meet, DL.no6_lowest, DL.no6_highest, DL.no3_look_order, not_false_eq_true, and_self, true_and, and_true, reduceIte, Bool.false_eq_true, List.length_map, List.length_range, List.length_append, List.getElem?_cons_zero, List.getElem?_cons_succ, List.set_cons_zero, List.set_cons_succ, fzE, wipeE, Option.bind_some, Option.map_some, List.length_cons, List.length_nil, cond_true, cond_false, Nat.reduceAdd, Nat.reduceLeDiff, Nat.zero_add, if_true, if_false, eq_self, bOne, Nat.reduceLT, Nat.reduceEqDiff, List.map_cons, List.map_nil, List.cons_append, List.nil_append, List.replicate, Nat.reduceSub, decide_true, decide_false, Bool.not_true, Bool.not_false, ec1, ed, ec2, ee, e0, h4]
    refine wp_ifB (fun q => ?_) fun q => ?_
    · simp -implicitDefEqProofs only [DL.evB, DL.evN, beq_self_eq_true, DL.no6_look_two, DL.no6_at_most, DL.no6_join, DL.no6_meet, DL.no6_lowest, DL.no6_highest, DL.no3_look_order, not_false_eq_true, and_self, true_and, and_true, reduceIte, Bool.false_eq_true, List.length_map, List.length_range, List.length_append, List.getElem?_cons_zero, List.getElem?_cons_succ, List.set_cons_zero, List.set_cons_succ, fzE, wipeE, Option.bind_some, Option.map_some, List.length_cons, List.length_nil, cond_true, cond_false, Nat.reduceAdd, Nat.reduceLeDiff, Nat.zero_add, if_true, if_false, eq_self, bOne, Nat.reduceLT, Nat.reduceEqDiff, List.map_cons, List.map_nil, List.cons_append, List.nil_append, List.replicate, Nat.reduceSub, decide_true, decide_false, Bool.not_true, Bool.not_false, h5]
      have := rest (es.getD 0 0 &&& ds.getD 5 0)
      simp -implicitDefEqProofs only [DL.evB, DL.evN, beq_self_eq_true, DL.no6_look_two, DL.no6_at_most, DL.no6_join, DL.no6_meet, DL.no6_lowest, DL.no6_highest, DL.no3_look_order, not_false_eq_true, and_self, true_and, and_true, reduceIte, Bool.false_eq_true, List.length_map, List.length_range, List.length_append, List.getElem?_cons_zero, List.getElem?_cons_succ, List.set_cons_zero, List.set_cons_succ, fzE, wipeE, Option.bind_some, Option.map_some, List.length_cons, List.length_nil, cond_true, cond_false, Nat.reduceAdd, Nat.reduceLeDiff, Nat.zero_add, if_true, if_false, eq_self, bOne, Nat.reduceLT, Nat.reduceEqDiff, List.map_cons, List.map_nil, List.cons_append, List.nil_append, List.replicate, Nat.reduceSub, decide_true, decide_false, Bool.not_true, Bool.not_false] at this
      exact this
    · simp -implicitDefEqProofs only [DL.evB, DL.evN, beq_self_eq_true, DL.no6_look_two, DL.no6_at_most, DL.no6_join, DL.no6_meet, DL.no6_lowest, DL.no6_highest, DL.no3_look_order, not_false_eq_true, and_self, true_and, and_true, reduceIte, Bool.false_eq_true, List.length_map, List.length_range, List.length_append, List.getElem?_cons_zero, List.getElem?_cons_succ, List.set_cons_zero, List.set_cons_succ, fzE, wipeE, Option.bind_some, Option.map_some, List.length_cons, List.length_nil, cond_true, cond_false, Nat.reduceAdd, Nat.reduceLeDiff, Nat.zero_add, if_true, if_false, eq_self, bOne, Nat.reduceLT, Nat.reduceEqDiff, List.map_cons, List.map_nil, List.cons_append, List.nil_append, List.replicate, Nat.reduceSub, decide_true, decide_false, Bool.not_true, Bool.not_false]
      have := rest (es.getD 0 0)
      simp -implicitDefEqProofs only [DL.evB, DL.evN, beq_self_eq_true, DL.no6_look_two, DL.no6_at_most, DL.no6_join, DL.no6_meet, DL.no6_lowest, DL.no6_highest, DL.no3_look_order, not_false_eq_true, and_self, true_and, and_true, reduceIte, Bool.false_eq_true, List.length_map, List.length_range, List.length_append, List.getElem?_cons_zero, List.getElem?_cons_succ, List.set_cons_zero, List.set_cons_succ, fzE, wipeE, Option.bind_some, Option.map_some, List.length_cons, List.length_nil, cond_true, cond_false, Nat.reduceAdd, Nat.reduceLeDiff, Nat.zero_add, if_true, if_false, eq_self, bOne, Nat.reduceLT, Nat.reduceEqDiff, List.map_cons, List.map_nil, List.cons_append, List.nil_append, List.replicate, Nat.reduceSub, decide_true, decide_false, Bool.not_true, Bool.not_false] at this
      exact this
  obtain ⟨r, e, ms, h, rfl⟩ := key
  exact ⟨ms, h, e⟩
end Ev

/-! Xc: orders with joins and meets, on numbers below n. -/
namespace Ev
/-- le tells nothing of numbers from n on -/
structure Lat (n : Nat) (le : Nat → Nat → Bool) (jn mt : Nat → Nat → Nat) : Prop where
  pos : 0 < n
  n24 : n ≤ 24
  lt : ∀ {a b}, le a b = true → a < n ∧ b < n
  rf : ∀ {a}, a < n → le a a = true
  anti : ∀ {a b}, le a b = true → le b a = true → a = b
  tr : ∀ {a b c}, le a b = true → le b c = true → le a c = true
  jlt : ∀ {a b}, a < n → b < n → jn a b < n
  mlt : ∀ {a b}, a < n → b < n → mt a b < n
  jl : ∀ {a b}, a < n → b < n → le a (jn a b) = true
  jr : ∀ {a b}, a < n → b < n → le b (jn a b) = true
  jm : ∀ {a b c}, le a c = true → le b c = true → le (jn a b) c = true
  ml : ∀ {a b}, a < n → b < n → le (mt a b) a = true
  mr : ∀ {a b}, a < n → b < n → le (mt a b) b = true
  mm : ∀ {a b c}, le c a = true → le c b = true → le c (mt a b) = true
/-- a step -/
def cov (n : Nat) (le : Nat → Nat → Bool) (a b : Nat) : Bool := le a b && (a != b) && (List.range n).all fun c => !(le a c && le c b) || (c == a) || (c == b)
theorem cov_iff {n : Nat} {le : Nat → Nat → Bool} {a b : Nat} : cov n le a b = true ↔ le a b = true ∧ a ≠ b ∧ ∀ c, c < n → le a c = true → le c b = true → c = a ∨ c = b := by
  unfold cov
  simp only [Bool.and_eq_true, bne_iff_ne, ne_eq, List.all_eq_true, List.mem_range, Bool.or_eq_true, Bool.not_eq_true', Bool.and_eq_false_iff, beq_iff_eq]
  constructor
  · rintro ⟨⟨h1, h2⟩, h3⟩
    refine ⟨h1, h2, fun c hc x y => ?_⟩
    rcases h3 c hc with ((h | h) | h) | h
    · rw [x] at h; cases h
    · rw [y] at h; cases h
    · exact .inl h
    · exact .inr h
  · rintro ⟨h1, h2, h3⟩
    refine ⟨⟨h1, h2⟩, fun c hc => ?_⟩
    cases x : le a c with
    | false => simp
    | true =>
      cases y : le c b with
      | false => simp
      | true => rcases h3 c hc x y with h | h <;> simp [h]
theorem filter_le {α : Type} {p q : α → Bool} {l : List α} (h : ∀ x, p x = true → q x = true) : (l.filter p).length ≤ (l.filter q).length := by
  induction l with
  | nil => simp
  | cons x l ih =>
    by_cases hp : p x
    · rw [List.filter_cons_of_pos hp, List.filter_cons_of_pos (h x hp)]; simp; exact ih
    · rw [List.filter_cons_of_neg hp]
      by_cases hq : q x
      · rw [List.filter_cons_of_pos hq]; simp; omega
      · rw [List.filter_cons_of_neg hq]; exact ih
theorem filter_lt {α : Type} {p q : α → Bool} {l : List α} (h : ∀ x, p x = true → q x = true) {y : α} (hy : y ∈ l) (h1 : q y = true) (h2 : p y = false) : (l.filter p).length < (l.filter q).length := by
  induction l with
  | nil => cases hy
  | cons x l ih =>
    have hle := filter_le (l := l) h
    rcases List.mem_cons.mp hy with rfl | hy
    · rw [List.filter_cons_of_neg (by simp [h2]), List.filter_cons_of_pos h1]
      simp; omega
    · have := ih hy
      by_cases hp : p x
      · rw [List.filter_cons_of_pos hp, List.filter_cons_of_pos (h x hp)]; simp; exact this
      · rw [List.filter_cons_of_neg hp]
        by_cases hq : q x
        · rw [List.filter_cons_of_pos hq]; simp; omega
        · rw [List.filter_cons_of_neg hq]; exact this
/-- what is partly ordered -/
structure Pos (n : Nat) (le : Nat → Nat → Bool) : Prop where
  lt : ∀ {a b}, le a b = true → a < n ∧ b < n
  rf : ∀ {a}, a < n → le a a = true
  anti : ∀ {a b}, le a b = true → le b a = true → a = b
  tr : ∀ {a b c}, le a b = true → le b c = true → le a c = true
theorem Lat.po {n : Nat} {le : Nat → Nat → Bool} {jn mt : Nat → Nat → Nat} (L : Lat n le jn mt) : Pos n le := ⟨L.lt, L.rf, L.anti, L.tr⟩
section
variable {n : Nat} {le : Nat → Nat → Bool}
def ivl (n : Nat) (le : Nat → Nat → Bool) (a b : Nat) : Nat := ((List.range n).filter fun c => le a c && le c b).length
/-- steps reach all that is above -/
theorem Pos.reach (P : Pos n le) {S : Nat → Nat → Prop} (s1 : ∀ i, i < n → S i i) (s2 : ∀ a b, cov n le a b = true → S a b) (s3 : ∀ i j k, S i j → S j k → S i k) : ∀ (m a b : Nat), ivl n le a b ≤ m → le a b = true → S a b := by
  intro m
  induction m with
  | zero =>
    intro a b hm h
    exfalso
    have : a ∈ (List.range n).filter fun c => le a c && le c b := List.mem_filter.mpr ⟨List.mem_range.mpr (P.lt h).1, by rw [P.rf (P.lt h).1, h]; rfl⟩
    have := List.length_pos_of_mem this
    unfold ivl at hm
    omega
  | succ m ih =>
    intro a b hm h
    by_cases e : a = b
    · subst e; exact s1 a (P.lt h).1
    · by_cases hc : cov n le a b = true
      · exact s2 a b hc
      · have hn : ¬ ∀ c, c < n → le a c = true → le c b = true → c = a ∨ c = b := fun z => hc (cov_iff.mpr ⟨h, e, z⟩)
        obtain ⟨c, hc⟩ := Classical.not_forall.mp hn
        have hc1 : le a c = true := Classical.byContradiction fun z => hc fun _ q => absurd q z
        have hc2 : le c b = true := Classical.byContradiction fun z => hc fun _ _ q => absurd q z
        have hca : c ≠ a := fun z => hc fun _ _ _ => .inl z
        have hcb : c ≠ b := fun z => hc fun _ _ _ => .inr z
        have l1 : ivl n le a c < ivl n le a b := filter_lt (y := b) (fun x hx => by
          rw [Bool.and_eq_true] at hx ⊢; exact ⟨hx.1, P.tr hx.2 hc2⟩) (List.mem_range.mpr (P.lt h).2) (by rw [h, P.rf (P.lt h).2]; rfl) (by
          cases q : le b c with
          | false => simp
          | true => exact absurd (P.anti hc2 q) hcb)
        have l2 : ivl n le c b < ivl n le a b := filter_lt (y := a) (fun x hx => by
          rw [Bool.and_eq_true] at hx ⊢; exact ⟨P.tr hc1 hx.1, hx.2⟩) (List.mem_range.mpr (P.lt h).1) (by rw [h, P.rf (P.lt h).1]; rfl) (by
          cases q : le c a with
          | false => simp
          | true => exact absurd (P.anti q hc1) hca)
        exact s3 a c b (ih a c (by omega) hc1) (ih c b (by omega) hc2)
/-- pairs that hold all steps, and are told rightly, make the order -/
theorem Pos.clo (P : Pos n le) {ps : List (Nat × Nat)} (h1 : ∀ p ∈ ps, le p.1 p.2 = true) (h2 : ∀ a b, cov n le a b = true → (a, b) ∈ ps) : IsClo n ps le :=
  ⟨fun _ _ h => P.lt h, fun _ h => P.rf h, fun _ _ _ x y => P.tr x y, h1, fun S s1 s2 s3 a b h => P.reach s1 (fun a b hc => s2 (a, b) (h2 a b hc)) s3 _ a b (Nat.le_refl _) h⟩
end

/-! ### masks -/
def mle (ms : List Nat) (a b : Nat) : Bool := decide (a < ms.length) && (decide (b < ms.length) && (ms.getD a 0 &&& ms.getD b 0 == ms.getD a 0))
def mmt (ms : List Nat) (a b : Nat) : Nat := ms.idxOf (ms.getD a 0 &&& ms.getD b 0)
/-- the masks that both are within -/
def ubs (ms : List Nat) (a b : Nat) : List Nat := ms.filter fun m => (m &&& ms.getD a 0 == ms.getD a 0) && (m &&& ms.getD b 0 == ms.getD b 0)
def andAll (xs : List Nat) : Nat := xs.foldl (· &&& ·) 2147483647
def mjn (ms : List Nat) (a b : Nat) : Nat := ms.idxOf (andAll (ubs ms a b))
theorem getD_mem {ms : List Nat} {a : Nat} (h : a < ms.length) : ms.getD a 0 ∈ ms := by
  rw [List.getD_eq_getElem?_getD, List.getElem?_eq_getElem h]; exact List.getElem_mem h
theorem getD_idxOf {ms : List Nat} {x : Nat} (h : x ∈ ms) : ms.getD (ms.idxOf x) 0 = x := by
  have hl := List.idxOf_lt_length_iff.mpr h
  rw [List.getD_eq_getElem?_getD, List.getElem?_eq_getElem hl, Option.getD_some, List.getElem_idxOf hl]
theorem and_sub_testBit {a b : Nat} : a &&& b = a ↔ ∀ i, a.testBit i = true → b.testBit i = true := by
  constructor
  · intro h i hi
    rw [← h, Nat.testBit_and, Bool.and_eq_true] at hi
    exact hi.2
  · intro h
    apply Nat.eq_of_testBit_eq
    intro i
    rw [Nat.testBit_and]
    cases q : a.testBit i with
    | false => rfl
    | true => rw [h i q]; rfl
theorem foldl_and {xs : List Nat} : ∀ {s : Nat} {i : Nat}, (xs.foldl (· &&& ·) s).testBit i = (s.testBit i && xs.all fun x => x.testBit i) := by
  induction xs with
  | nil => intro s i; simp
  | cons x xs ih => intro s i; rw [List.foldl_cons, ih, Nat.testBit_and, List.all_cons, Bool.and_assoc]
theorem foldl_and_mem {ms : List Nat} (cl : ∀ a ∈ ms, ∀ b ∈ ms, a &&& b ∈ ms) : ∀ {xs : List Nat} {s : Nat}, s ∈ ms → (∀ x ∈ xs, x ∈ ms) → xs.foldl (· &&& ·) s ∈ ms
  | [], _, hs, _ => hs
  | x :: xs, s, hs, h => by
    rw [List.foldl_cons]
    exact foldl_and_mem cl (cl s hs x (h x List.mem_cons_self)) fun y hy => h y (List.mem_cons_of_mem _ hy)
theorem and_full {a : Nat} (h : a < 2147483648) : 2147483647 &&& a = a := by
  rw [Nat.and_comm, show (2147483647 : Nat) = 2 ^ 31 - 1 from rfl, Nat.and_two_pow_sub_one_eq_mod]
  exact Nat.mod_eq_of_lt h
theorem andAll_mem {ms xs : List Nat} (cl : ∀ a ∈ ms, ∀ b ∈ ms, a &&& b ∈ ms) (lt : ∀ x ∈ ms, x < 2147483648) (hx : ∀ x ∈ xs, x ∈ ms) (ne : xs ≠ []) : andAll xs ∈ ms := by
  cases xs with
  | nil => exact absurd rfl ne
  | cons x xs =>
    unfold andAll
    rw [List.foldl_cons, and_full (lt x (hx x List.mem_cons_self))]
    exact foldl_and_mem cl (hx x List.mem_cons_self) fun y hy => hx y (List.mem_cons_of_mem _ hy)
theorem mle_iff {ms : List Nat} {a b : Nat} : mle ms a b = true ↔ a < ms.length ∧ b < ms.length ∧ ms.getD a 0 &&& ms.getD b 0 = ms.getD a 0 := by
  unfold mle; simp
theorem Good.lat {ms : List Nat} (g : Good ms) : Lat ms.length (mle ms) (mjn ms) (mmt ms) := by
  have inj : ∀ {a b}, a < ms.length → b < ms.length → ms.getD a 0 = ms.getD b 0 → a = b := by
    intro a b ha hb e
    rw [List.getD_eq_getElem?_getD, List.getElem?_eq_getElem ha, List.getD_eq_getElem?_getD, List.getElem?_eq_getElem hb, Option.getD_some, Option.getD_some] at e
    exact (List.getElem_inj g.nd).mp e
  have ubne : ∀ {a b}, a < ms.length → b < ms.length → ubs ms a b ≠ [] := by
    intro a b ha hb e
    obtain ⟨t, ht, hs⟩ := g.top
    have : t ∈ ubs ms a b := List.mem_filter.mpr ⟨ht, by rw [Nat.and_comm t, Nat.and_comm t, hs _ (getD_mem ha), hs _ (getD_mem hb)]; simp⟩
    rw [e] at this; cases this
  have ubm : ∀ {a b x}, x ∈ ubs ms a b → x ∈ ms := fun h => (List.mem_filter.mp h).1
  have jmem : ∀ {a b}, a < ms.length → b < ms.length → andAll (ubs ms a b) ∈ ms := fun ha hb => andAll_mem g.cl g.lt (fun x hx => ubm hx) (ubne ha hb)
  have jval : ∀ {a b}, a < ms.length → b < ms.length → ms.getD (mjn ms a b) 0 = andAll (ubs ms a b) := fun ha hb => getD_idxOf (jmem ha hb)
  have mval : ∀ {a b}, a < ms.length → b < ms.length → ms.getD (mmt ms a b) 0 = ms.getD a 0 &&& ms.getD b 0 := fun ha hb => getD_idxOf (g.cl _ (getD_mem ha) _ (getD_mem hb))
  have jlt : ∀ {a b}, a < ms.length → b < ms.length → mjn ms a b < ms.length := fun ha hb => List.idxOf_lt_length_iff.mpr (jmem ha hb)
  have mlt : ∀ {a b}, a < ms.length → b < ms.length → mmt ms a b < ms.length := fun ha hb => List.idxOf_lt_length_iff.mpr (g.cl _ (getD_mem ha) _ (getD_mem hb))
  have bits : ∀ {a i}, a < ms.length → (ms.getD a 0).testBit i = true → (2147483647 : Nat).testBit i = true := by
    intro a i ha h
    rw [← and_full (g.lt _ (getD_mem ha)), Nat.testBit_and, Bool.and_eq_true] at h
    exact h.1
  have up : ∀ {a b} (s : Nat), a < ms.length → b < ms.length → (∀ x ∈ ubs ms a b, s &&& x = s) → (s &&& 2147483647 = s) → s &&& andAll (ubs ms a b) = s := by
    intro a b s ha hb h h2
    rw [and_sub_testBit] at h2 ⊢
    intro i hi
    unfold andAll
    rw [foldl_and, h2 i hi, Bool.true_and, List.all_eq_true]
    intro x hx
    exact and_sub_testBit.mp (h x hx) i hi
  refine { pos := g.pos, n24 := g.len, lt := fun h => ⟨(mle_iff.mp h).1, (mle_iff.mp h).2.1⟩, rf := fun h => mle_iff.mpr ⟨h, h, Nat.and_self _⟩, anti := fun h1 h2 => ?_, tr := fun h1 h2 => ?_, jlt := jlt, mlt := mlt, jl := fun ha hb => ?_, jr := fun ha hb => ?_, jm := fun h1 h2 => ?_, ml := fun ha hb => ?_, mr := fun ha hb => ?_, mm := fun h1 h2 => ?_ }
  · obtain ⟨a1, a2, a3⟩ := mle_iff.mp h1
    obtain ⟨_, _, b3⟩ := mle_iff.mp h2
    rw [Nat.and_comm] at b3
    exact inj a1 a2 (a3.symm.trans b3)
  · obtain ⟨a1, a2, a3⟩ := mle_iff.mp h1
    obtain ⟨_, b2, b3⟩ := mle_iff.mp h2
    refine mle_iff.mpr ⟨a1, b2, ?_⟩
    rw [and_sub_testBit] at a3 b3 ⊢
    exact fun i hi => b3 i (a3 i hi)
  · refine mle_iff.mpr ⟨ha, jlt ha hb, ?_⟩
    rw [jval ha hb]
    refine up _ ha hb (fun x hx => ?_) (by rw [Nat.and_comm]; exact and_full (g.lt _ (getD_mem ha)))
    have := (List.mem_filter.mp hx).2
    rw [Bool.and_eq_true, beq_iff_eq, beq_iff_eq] at this
    rw [Nat.and_comm]; exact this.1
  · refine mle_iff.mpr ⟨hb, jlt ha hb, ?_⟩
    rw [jval ha hb]
    refine up _ ha hb (fun x hx => ?_) (by rw [Nat.and_comm]; exact and_full (g.lt _ (getD_mem hb)))
    have := (List.mem_filter.mp hx).2
    rw [Bool.and_eq_true, beq_iff_eq, beq_iff_eq] at this
    rw [Nat.and_comm]; exact this.2
  · obtain ⟨a1, c1, a3⟩ := mle_iff.mp h1
    obtain ⟨b1, _, b3⟩ := mle_iff.mp h2
    refine mle_iff.mpr ⟨jlt a1 b1, c1, ?_⟩
    rw [jval a1 b1, and_sub_testBit]
    intro i hi
    unfold andAll at hi
    rw [foldl_and, Bool.and_eq_true, List.all_eq_true] at hi
    exact hi.2 _ (List.mem_filter.mpr ⟨getD_mem c1, by rw [Nat.and_comm, a3, Nat.and_comm, b3]; simp⟩)
  · refine mle_iff.mpr ⟨mlt ha hb, ha, ?_⟩
    rw [mval ha hb, and_sub_testBit]
    intro i hi
    rw [Nat.testBit_and, Bool.and_eq_true] at hi
    exact hi.1
  · refine mle_iff.mpr ⟨mlt ha hb, hb, ?_⟩
    rw [mval ha hb, and_sub_testBit]
    intro i hi
    rw [Nat.testBit_and, Bool.and_eq_true] at hi
    exact hi.2
  · obtain ⟨c1, a1, a3⟩ := mle_iff.mp h1
    obtain ⟨_, b1, b3⟩ := mle_iff.mp h2
    refine mle_iff.mpr ⟨c1, mlt a1 b1, ?_⟩
    rw [mval a1 b1]
    rw [and_sub_testBit] at a3 b3 ⊢
    intro i hi
    rw [Nat.testBit_and, a3 i hi, b3 i hi]; rfl
end Ev

/-! Xd: steps as a list. -/
namespace Ev
def covs (n : Nat) (le : Nat → Nat → Bool) : List (Nat × Nat) := (List.range n).flatMap fun a => ((List.range n).filter (cov n le a)).map fun b => (a, b)
theorem mem_covs {n : Nat} {le : Nat → Nat → Bool} (P : Pos n le) {a b : Nat} : (a, b) ∈ covs n le ↔ cov n le a b = true := by
  unfold covs
  simp only [List.mem_flatMap, List.mem_range, List.mem_map, List.mem_filter, Prod.mk.injEq]
  constructor
  · rintro ⟨x, hx, y, ⟨hy, h⟩, rfl, rfl⟩; exact h
  · intro h
    have := P.lt (cov_iff.mp h).1
    exact ⟨a, this.1, b, ⟨this.2, h⟩, rfl, rfl⟩
theorem one_of {l : List Nat} {p : Nat → Bool} {b : Nat} (nd : l.Nodup) (hb : b ∈ l) (hp : p b = true) : (l.filter p).length = 1 ↔ ∀ c ∈ l, p c = true → c = b := by
  constructor
  · intro h c hc hpc
    have h1 : b ∈ l.filter p := List.mem_filter.mpr ⟨hb, hp⟩
    have h2 : c ∈ l.filter p := List.mem_filter.mpr ⟨hc, hpc⟩
    obtain ⟨x, hx⟩ := List.length_eq_one_iff.mp h
    rw [hx, List.mem_singleton] at h1 h2
    rw [h1, h2]
  · intro h
    have hn := nd.filter p
    have h1 : b ∈ l.filter p := List.mem_filter.mpr ⟨hb, hp⟩
    have h2 : ∀ c ∈ l.filter p, c = b := fun c hc => h c (List.mem_filter.mp hc).1 (List.mem_filter.mp hc).2
    generalize l.filter p = m at hn h1 h2
    match m, hn, h1, h2 with
    | [x], _, _, _ => rfl
    | x :: y :: t, hn, _, h2 =>
      exfalso
      have e1 := h2 x (by simp)
      have e2 := h2 y (by simp)
      rw [e1, e2] at hn
      simp at hn
/-- as the laws count it -/
theorem cov_count {n : Nat} {le : Nat → Nat → Bool} (P : Pos n le) {a b : Nat} (ha : a < n) (hb : b < n) (hab : a ≠ b) (h : le a b = true) :
    decide ((((List.range n).filter fun c => !decide (a = c) && le a c).filter fun c => le c b).length = 1) = cov n le a b := by
  rw [Bool.eq_iff_iff, decide_eq_true_iff, cov_iff]
  rw [one_of (p := fun c => le c b) (List.nodup_range.filter _) (List.mem_filter.mpr ⟨List.mem_range.mpr hb, by simp [hab, h]⟩) (P.rf hb)]
  constructor
  · intro q
    refine ⟨h, hab, fun c hc h1 h2 => ?_⟩
    by_cases e : a = c
    · exact .inl e.symm
    · exact .inr (q c (List.mem_filter.mpr ⟨List.mem_range.mpr hc, by simp [e, h1]⟩) h2)
  · rintro ⟨_, _, q⟩ c hc h2
    obtain ⟨hc, h1⟩ := List.mem_filter.mp hc
    simp only [Bool.and_eq_true, Bool.not_eq_true', decide_eq_false_iff_not] at h1
    rcases q c (List.mem_range.mp hc) h1.2 h2 with e | e
    · exact absurd e.symm h1.1
    · exact e
end Ev

/-! SA4: the helpers over masks: at most, meet, join, steps, what is handed in. -/
namespace Ev
open PySem PySem.Spec L2 DL
theorem atm_spec {ms : List Nat} {a b : Nat} (ha : a < ms.length) (hb : b < ms.length) : F__law_at_most [.lst (ms.map nI), .int a, .int b] = .ok (.sh (.bl (mle ms a b))) := by
  refine fn_eq rfl ?_
  unfold f__law_at_most
  simp -implicitDefEqProofs only [DL.evB, DL.evN, beq_self_eq_true, DL.no6_look_two, DL.no6_at_most, DL.no6_join, DL.no6_meet, DL.no6_lowest, DL.no6_highest, DL.no3_look_order, not_false_eq_true, and_self, true_and, and_true, reduceIte, Bool.false_eq_true, List.length_map, List.length_range, List.length_append, List.getElem?_cons_zero, List.getElem?_cons_succ, List.set_cons_zero, List.set_cons_succ, fzE, wipeE, Option.bind_some, Option.map_some, List.length_cons, List.length_nil, cond_true, cond_false, Nat.reduceAdd, Nat.reduceLeDiff, Nat.zero_add, if_true, if_false, eq_self, bOne, Nat.reduceLT, Nat.reduceEqDiff, List.map_cons, List.map_nil, List.cons_append, List.nil_append, List.replicate, Nat.reduceSub, decide_true, decide_false, Bool.not_true, Bool.not_false, ha, hb]
  unfold mle
  rw [decide_eq_true ha, decide_eq_true hb, Bool.true_and, Bool.true_and]
  congr 3
theorem meet_spec {ms : List Nat} (g : Good ms) {a b : Nat} (ha : a < ms.length) (hb : b < ms.length) : F__law_meet [.lst (ms.map nI), .int a, .int b] = .ok (.sh (.int (mmt ms a b : Nat))) := by
  refine fn_eq rfl ?_
  unfold f__law_meet
  simp -implicitDefEqProofs only [DL.evB, DL.evN, beq_self_eq_true, DL.no6_look_two, DL.no6_at_most, DL.no6_join, DL.no6_meet, DL.no6_lowest, DL.no6_highest, DL.no3_look_order, not_false_eq_true, and_self, true_and, and_true, reduceIte, Bool.false_eq_true, List.length_map, List.length_range, List.length_append, List.getElem?_cons_zero, List.getElem?_cons_succ, List.set_cons_zero, List.set_cons_succ, fzE, wipeE, Option.bind_some, Option.map_some, List.length_cons, List.length_nil, cond_true, cond_false, Nat.reduceAdd, Nat.reduceLeDiff, Nat.zero_add, if_true, if_false, eq_self, bOne, Nat.reduceLT, Nat.reduceEqDiff, List.map_cons, List.map_nil, List.cons_append, List.nil_append, List.replicate, Nat.reduceSub, decide_true, decide_false, Bool.not_true, Bool.not_false]
  rw [lindexN (xs := ms) (x := ms.getD a 0 &&& ms.getD b 0) (by simp -implicitDefEqProofs only [DL.evB, DL.evN, beq_self_eq_true, DL.no6_look_two, DL.no6_at_most, DL.no6_join, DL.no6_meet, DL.no6_lowest, DL.no6_highest, DL.no3_look_order, not_false_eq_true, and_self, true_and, and_true, reduceIte, Bool.false_eq_true, List.length_map, List.length_range, List.length_append, List.getElem?_cons_zero, List.getElem?_cons_succ, List.set_cons_zero, List.set_cons_succ, fzE, wipeE, Option.bind_some, Option.map_some, List.length_cons, List.length_nil, cond_true, cond_false, Nat.reduceAdd, Nat.reduceLeDiff, Nat.zero_add, if_true, if_false, eq_self, bOne, Nat.reduceLT, Nat.reduceEqDiff, List.map_cons, List.map_nil, List.cons_append, List.nil_append, List.replicate, Nat.reduceSub, decide_true, decide_false, Bool.not_true, Bool.not_false]; rfl) rfl (by simp -implicitDefEqProofs only [DL.evB, DL.evN, beq_self_eq_true, DL.no6_look_two, DL.no6_at_most, DL.no6_join, DL.no6_meet, DL.no6_lowest, DL.no6_highest, DL.no3_look_order, not_false_eq_true, and_self, true_and, and_true, reduceIte, Bool.false_eq_true, List.length_map, List.length_range, List.length_append, List.getElem?_cons_zero, List.getElem?_cons_succ, List.set_cons_zero, List.set_cons_succ, fzE, wipeE, Option.bind_some, Option.map_some, List.length_cons, List.length_nil, cond_true, cond_false, Nat.reduceAdd, Nat.reduceLeDiff, Nat.zero_add, if_true, if_false, eq_self, bOne, Nat.reduceLT, Nat.reduceEqDiff, List.map_cons, List.map_nil, List.cons_append, List.nil_append, List.replicate, Nat.reduceSub, decide_true, decide_false, Bool.not_true, Bool.not_false, ha, hb]) (g.cl _ (getD_mem ha) _ (getD_mem hb))]
  simp -implicitDefEqProofs only [DL.evB, DL.evN, beq_self_eq_true, DL.no6_look_two, DL.no6_at_most, DL.no6_join, DL.no6_meet, DL.no6_lowest, DL.no6_highest, DL.no3_look_order, not_false_eq_true, and_self, true_and, and_true, reduceIte, Bool.false_eq_true, List.length_map, List.length_range, List.length_append, List.getElem?_cons_zero, List.getElem?_cons_succ, List.set_cons_zero, List.set_cons_succ, fzE, wipeE, Option.bind_some, Option.map_some, List.length_cons, List.length_nil, cond_true, cond_false, Nat.reduceAdd, Nat.reduceLeDiff, Nat.zero_add, if_true, if_false, eq_self, bOne, Nat.reduceLT, Nat.reduceEqDiff, List.map_cons, List.map_nil, List.cons_append, List.nil_append, List.replicate, Nat.reduceSub, decide_true, decide_false, Bool.not_true, Bool.not_false]
  rfl
theorem band_m1 (a : Nat) : dAnd (.int (-1)) (.int (a : Int)) = some (.sh (.int (a : Int))) := by
  show some (R.sh (.int (Builtin.bitAnd (-1) (a : Int)))) = _
  have : Builtin.bitAnd (-1) (a : Int) = (a : Int) := by
    unfold Builtin.bitAnd
    have h1 : decide ((0 : Int) ≤ -1) = false := by decide
    have h2 : decide ((0 : Int) ≤ (a : Int)) = true := by simp
    rw [h1, h2]
    simp [Builtin.bitNot]
  rw [this]
theorem join_spec {ms : List Nat} (g : Good ms) {a b : Nat} (ha : a < ms.length) (hb : b < ms.length) : F__law_join [.lst (ms.map nI), .int a, .int b] = .ok (.sh (.int (mjn ms a b : Nat))) := by
  refine fn_eq rfl ?_
  unfold f__law_join
  have hne : ubs ms a b ≠ [] := by
    intro e
    obtain ⟨t, ht, hs⟩ := g.top
    have : t ∈ ubs ms a b := List.mem_filter.mpr ⟨ht, by rw [Nat.and_comm t, Nat.and_comm t, hs _ (getD_mem ha), hs _ (getD_mem hb)]; simp⟩
    rw [e] at this; cases this
  have hmem := andAll_mem g.cl g.lt (fun x hx => (List.mem_filter.mp hx).1) hne
  simp -implicitDefEqProofs only [DL.evB, DL.evN, beq_self_eq_true, DL.no6_look_two, DL.no6_at_most, DL.no6_join, DL.no6_meet, DL.no6_lowest, DL.no6_highest, DL.no3_look_order, not_false_eq_true, and_self, true_and, and_true, reduceIte, Bool.false_eq_true, List.length_map, List.length_range, List.length_append, List.getElem?_cons_zero, List.getElem?_cons_succ, List.set_cons_zero, List.set_cons_succ, fzE, wipeE, Option.bind_some, Option.map_some, List.length_cons, List.length_nil, cond_true, cond_false, Nat.reduceAdd, Nat.reduceLeDiff, Nat.zero_add, if_true, if_false, eq_self, bOne, Nat.reduceLT, Nat.reduceEqDiff, List.map_cons, List.map_nil, List.cons_append, List.nil_append, List.replicate, Nat.reduceSub, decide_true, decide_false, Bool.not_true, Bool.not_false]
  refine wp_forL (fun pre e => ∃ o, (∀ x ∈ pre, x ∈ ms) ∧ e = [some (.sh (.lst (ms.map nI))), some (.sh (.int a)), some (.sh (.int b)), some (.sh (.int (if pre.filter (fun m => (m &&& ms.getD a 0 == ms.getD a 0) && (m &&& ms.getD b 0 == ms.getD b 0)) = [] then -1 else (andAll (pre.filter (fun m => (m &&& ms.getD a 0 == ms.getD a 0) && (m &&& ms.getD b 0 == ms.getD b 0))) : Nat)))), o]) ⟨none, by simp, rfl⟩ ?_ ?_
  · rintro pre x post e hx ⟨o, hpm, rfl⟩
    have hxm : x ∈ ms := by rw [hx]; simp
    refine ⟨_, rfl, ?_⟩
    simp -implicitDefEqProofs only [DL.evB, DL.evN, beq_self_eq_true, DL.no6_look_two, DL.no6_at_most, DL.no6_join, DL.no6_meet, DL.no6_lowest, DL.no6_highest, DL.no3_look_order, not_false_eq_true, and_self, true_and, and_true, reduceIte, Bool.false_eq_true, List.length_map, List.length_range, List.length_append, List.getElem?_cons_zero, List.getElem?_cons_succ, List.set_cons_zero, List.set_cons_succ, fzE, wipeE, Option.bind_some, Option.map_some, List.length_cons, List.length_nil, cond_true, cond_false, Nat.reduceAdd, Nat.reduceLeDiff, Nat.zero_add, if_true, if_false, eq_self, bOne, Nat.reduceLT, Nat.reduceEqDiff, List.map_cons, List.map_nil, List.cons_append, List.nil_append, List.replicate, Nat.reduceSub, decide_true, decide_false, Bool.not_true, Bool.not_false, ha, hb]
    refine wp_ifB (fun q => ?_) fun q => ?_
    · simp only [Bool.and_eq_true, decide_eq_true_eq] at q
      have hf : (pre ++ [x]).filter (fun m => (m &&& ms.getD a 0 == ms.getD a 0) && (m &&& ms.getD b 0 == ms.getD b 0)) = pre.filter (fun m => (m &&& ms.getD a 0 == ms.getD a 0) && (m &&& ms.getD b 0 == ms.getD b 0)) ++ [x] := by
        rw [List.filter_append, List.filter_cons_of_pos (by simp only [q.1, q.2, beq_self_eq_true, Bool.and_self]), List.filter_nil]
      rw [hf]
      generalize pre.filter (fun m => (m &&& ms.getD a 0 == ms.getD a 0) && (m &&& ms.getD b 0 == ms.getD b 0)) = l
      refine ?_
      by_cases hl : l = []
      · subst hl
        simp -implicitDefEqProofs only [DL.evB, DL.evN, beq_self_eq_true, DL.no6_look_two, DL.no6_at_most, DL.no6_join, DL.no6_meet, DL.no6_lowest, DL.no6_highest, DL.no3_look_order, not_false_eq_true, and_self, true_and, and_true, reduceIte, Bool.false_eq_true, List.length_map, List.length_range, List.length_append, List.getElem?_cons_zero, List.getElem?_cons_succ, List.set_cons_zero, List.set_cons_succ, fzE, wipeE, Option.bind_some, Option.map_some, List.length_cons, List.length_nil, cond_true, cond_false, Nat.reduceAdd, Nat.reduceLeDiff, Nat.zero_add, if_true, if_false, eq_self, bOne, Nat.reduceLT, Nat.reduceEqDiff, List.map_cons, List.map_nil, List.cons_append, List.nil_append, List.replicate, Nat.reduceSub, decide_true, decide_false, Bool.not_true, Bool.not_false, band_m1]
        refine ⟨_, fun y hy => ?_, by simp [andAll]; rw [and_full (g.lt x hxm)]; exact ⟨rfl, rfl⟩⟩
        rcases List.mem_append.mp hy with h | h
        · exact hpm y h
        · rw [List.mem_singleton.mp h]; exact hxm
      · simp -implicitDefEqProofs only [DL.evB, DL.evN, beq_self_eq_true, DL.no6_look_two, DL.no6_at_most, DL.no6_join, DL.no6_meet, DL.no6_lowest, DL.no6_highest, DL.no3_look_order, not_false_eq_true, and_self, true_and, and_true, reduceIte, Bool.false_eq_true, List.length_map, List.length_range, List.length_append, List.getElem?_cons_zero, List.getElem?_cons_succ, List.set_cons_zero, List.set_cons_succ, fzE, wipeE, Option.bind_some, Option.map_some, List.length_cons, List.length_nil, cond_true, cond_false, Nat.reduceAdd, Nat.reduceLeDiff, Nat.zero_add, if_true, if_false, eq_self, bOne, Nat.reduceLT, Nat.reduceEqDiff, List.map_cons, List.map_nil, List.cons_append, List.nil_append, List.replicate, Nat.reduceSub, decide_true, decide_false, Bool.not_true, Bool.not_false, hl]
        refine ⟨_, fun y hy => ?_, by simp [andAll]; exact rfl⟩
        rcases List.mem_append.mp hy with h | h
        · exact hpm y h
        · rw [List.mem_singleton.mp h]; exact hxm
    · have hf : (pre ++ [x]).filter (fun m => (m &&& ms.getD a 0 == ms.getD a 0) && (m &&& ms.getD b 0 == ms.getD b 0)) = pre.filter (fun m => (m &&& ms.getD a 0 == ms.getD a 0) && (m &&& ms.getD b 0 == ms.getD b 0)) := by
        have : ((x &&& ms.getD a 0 == ms.getD a 0) && (x &&& ms.getD b 0 == ms.getD b 0)) = false := by rw [← q]; congr 1
        rw [List.filter_append, List.filter_cons_of_neg (by rw [this]; decide), List.filter_nil, List.append_nil]
      rw [hf]
      simp -implicitDefEqProofs only [DL.evB, DL.evN, beq_self_eq_true, DL.no6_look_two, DL.no6_at_most, DL.no6_join, DL.no6_meet, DL.no6_lowest, DL.no6_highest, DL.no3_look_order, not_false_eq_true, and_self, true_and, and_true, reduceIte, Bool.false_eq_true, List.length_map, List.length_range, List.length_append, List.getElem?_cons_zero, List.getElem?_cons_succ, List.set_cons_zero, List.set_cons_succ, fzE, wipeE, Option.bind_some, Option.map_some, List.length_cons, List.length_nil, cond_true, cond_false, Nat.reduceAdd, Nat.reduceLeDiff, Nat.zero_add, if_true, if_false, eq_self, bOne, Nat.reduceLT, Nat.reduceEqDiff, List.map_cons, List.map_nil, List.cons_append, List.nil_append, List.replicate, Nat.reduceSub, decide_true, decide_false, Bool.not_true, Bool.not_false]
      refine ⟨_, fun y hy => ?_, rfl⟩
      rcases List.mem_append.mp hy with h | h
      · exact hpm y h
      · rw [List.mem_singleton.mp h]; exact hxm
  · rintro e ⟨o, _, rfl⟩
    have hne' : ms.filter (fun m => (m &&& ms.getD a 0 == ms.getD a 0) && (m &&& ms.getD b 0 == ms.getD b 0)) ≠ [] := hne
    simp -implicitDefEqProofs only [DL.evB, DL.evN, beq_self_eq_true, DL.no6_look_two, DL.no6_at_most, DL.no6_join, DL.no6_meet, DL.no6_lowest, DL.no6_highest, DL.no3_look_order, not_false_eq_true, and_self, true_and, and_true, reduceIte, Bool.false_eq_true, List.length_map, List.length_range, List.length_append, List.getElem?_cons_zero, List.getElem?_cons_succ, List.set_cons_zero, List.set_cons_succ, fzE, wipeE, Option.bind_some, Option.map_some, List.length_cons, List.length_nil, cond_true, cond_false, Nat.reduceAdd, Nat.reduceLeDiff, Nat.zero_add, if_true, if_false, eq_self, bOne, Nat.reduceLT, Nat.reduceEqDiff, List.map_cons, List.map_nil, List.cons_append, List.nil_append, List.replicate, Nat.reduceSub, decide_true, decide_false, Bool.not_true, Bool.not_false, hne']
    rw [lindexN (xs := ms) (x := andAll (ubs ms a b)) (by simp -implicitDefEqProofs only [DL.evB, DL.evN, beq_self_eq_true, DL.no6_look_two, DL.no6_at_most, DL.no6_join, DL.no6_meet, DL.no6_lowest, DL.no6_highest, DL.no3_look_order, not_false_eq_true, and_self, true_and, and_true, reduceIte, Bool.false_eq_true, List.length_map, List.length_range, List.length_append, List.getElem?_cons_zero, List.getElem?_cons_succ, List.set_cons_zero, List.set_cons_succ, fzE, wipeE, Option.bind_some, Option.map_some, List.length_cons, List.length_nil, cond_true, cond_false, Nat.reduceAdd, Nat.reduceLeDiff, Nat.zero_add, if_true, if_false, eq_self, bOne, Nat.reduceLT, Nat.reduceEqDiff, List.map_cons, List.map_nil, List.cons_append, List.nil_append, List.replicate, Nat.reduceSub, decide_true, decide_false, Bool.not_true, Bool.not_false]; rfl) rfl (by simp -implicitDefEqProofs only [DL.evB, DL.evN, beq_self_eq_true, DL.no6_look_two, DL.no6_at_most, DL.no6_join, DL.no6_meet, DL.no6_lowest, DL.no6_highest, DL.no3_look_order, not_false_eq_true, and_self, true_and, and_true, reduceIte, Bool.false_eq_true, List.length_map, List.length_range, List.length_append, List.getElem?_cons_zero, List.getElem?_cons_succ, List.set_cons_zero, List.set_cons_succ, fzE, wipeE, Option.bind_some, Option.map_some, List.length_cons, List.length_nil, cond_true, cond_false, Nat.reduceAdd, Nat.reduceLeDiff, Nat.zero_add, if_true, if_false, eq_self, bOne, Nat.reduceLT, Nat.reduceEqDiff, List.map_cons, List.map_nil, List.cons_append, List.nil_append, List.replicate, Nat.reduceSub, decide_true, decide_false, Bool.not_true, Bool.not_false]; rfl) hmem]
    simp -implicitDefEqProofs only [DL.evB, DL.evN, beq_self_eq_true, DL.no6_look_two, DL.no6_at_most, DL.no6_join, DL.no6_meet, DL.no6_lowest, DL.no6_highest, DL.no3_look_order, not_false_eq_true, and_self, true_and, and_true, reduceIte, Bool.false_eq_true, List.length_map, List.length_range, List.length_append, List.getElem?_cons_zero, List.getElem?_cons_succ, List.set_cons_zero, List.set_cons_succ, fzE, wipeE, Option.bind_some, Option.map_some, List.length_cons, List.length_nil, cond_true, cond_false, Nat.reduceAdd, Nat.reduceLeDiff, Nat.zero_add, if_true, if_false, eq_self, bOne, Nat.reduceLT, Nat.reduceEqDiff, List.map_cons, List.map_nil, List.cons_append, List.nil_append, List.replicate, Nat.reduceSub, decide_true, decide_false, Bool.not_true, Bool.not_false]
    rfl
theorem steps_spec {ms : List Nat} (g : Good ms) : F__law_steps [.lst (ms.map nI)] = .ok (.fr (.ow ((covs ms.length (mle ms)).map tI))) := by
  refine fn_eq rfl ?_
  unfold f__law_steps
  have hl := g.len
  have P := g.lat.po
  simp -implicitDefEqProofs only [DL.evB, DL.evN, beq_self_eq_true, DL.no6_look_two, DL.no6_at_most, DL.no6_join, DL.no6_meet, DL.no6_lowest, DL.no6_highest, DL.no3_look_order, not_false_eq_true, and_self, true_and, and_true, reduceIte, Bool.false_eq_true, List.length_map, List.length_range, List.length_append, List.getElem?_cons_zero, List.getElem?_cons_succ, List.set_cons_zero, List.set_cons_succ, fzE, wipeE, Option.bind_some, Option.map_some, List.length_cons, List.length_nil, cond_true, cond_false, Nat.reduceAdd, Nat.reduceLeDiff, Nat.zero_add, if_true, if_false, eq_self, bOne, Nat.reduceLT, Nat.reduceEqDiff, List.map_cons, List.map_nil, List.cons_append, List.nil_append, List.replicate, Nat.reduceSub, decide_true, decide_false, Bool.not_true, Bool.not_false]
  rw [rng1_nat (by omega)]
  simp -implicitDefEqProofs only [DL.evB, DL.evN, beq_self_eq_true, DL.no6_look_two, DL.no6_at_most, DL.no6_join, DL.no6_meet, DL.no6_lowest, DL.no6_highest, DL.no3_look_order, not_false_eq_true, and_self, true_and, and_true, reduceIte, Bool.false_eq_true, List.length_map, List.length_range, List.length_append, List.getElem?_cons_zero, List.getElem?_cons_succ, List.set_cons_zero, List.set_cons_succ, fzE, wipeE, Option.bind_some, Option.map_some, List.length_cons, List.length_nil, cond_true, cond_false, Nat.reduceAdd, Nat.reduceLeDiff, Nat.zero_add, if_true, if_false, eq_self, bOne, Nat.reduceLT, Nat.reduceEqDiff, List.map_cons, List.map_nil, List.cons_append, List.nil_append, List.replicate, Nat.reduceSub, decide_true, decide_false, Bool.not_true, Bool.not_false]
  refine wp_forL (fun pre e => ∃ o3 o4 o5 o6, e = [some (.sh (.lst (ms.map nI))), some (.sh (.int (ms.length : Nat))), some (.ow ((pre.flatMap fun a => ((List.range ms.length).filter (cov ms.length (mle ms) a)).map fun b => (a, b)).map tI)), o3, o4, o5, o6] ∧ pre.length ≤ 24) ⟨_, _, _, _, rfl, by simp⟩ ?_ ?_
  · rintro pre a post e hx ⟨o3, o4, o5, o6, rfl, hpl⟩
    have ha : a < ms.length := List.mem_range.mp (by rw [hx]; simp)
    have hpl2 : pre.length + 1 ≤ ms.length := by
      have := congrArg List.length hx
      rw [List.length_range, List.length_append, List.length_cons] at this
      omega
    refine ⟨_, rfl, ?_⟩
    simp -implicitDefEqProofs only [DL.evB, DL.evN, beq_self_eq_true, DL.no6_look_two, DL.no6_at_most, DL.no6_join, DL.no6_meet, DL.no6_lowest, DL.no6_highest, DL.no3_look_order, not_false_eq_true, and_self, true_and, and_true, reduceIte, Bool.false_eq_true, List.length_map, List.length_range, List.length_append, List.getElem?_cons_zero, List.getElem?_cons_succ, List.set_cons_zero, List.set_cons_succ, fzE, wipeE, Option.bind_some, Option.map_some, List.length_cons, List.length_nil, cond_true, cond_false, Nat.reduceAdd, Nat.reduceLeDiff, Nat.zero_add, if_true, if_false, eq_self, bOne, Nat.reduceLT, Nat.reduceEqDiff, List.map_cons, List.map_nil, List.cons_append, List.nil_append, List.replicate, Nat.reduceSub, decide_true, decide_false, Bool.not_true, Bool.not_false]
    rw [comp_nf (emb := nI) (xs := List.range ms.length) (fun c => !decide (a = c) && mle ms a c) (fun k => k) (by simp -implicitDefEqProofs only [DL.evB, DL.evN, beq_self_eq_true, DL.no6_look_two, DL.no6_at_most, DL.no6_join, DL.no6_meet, DL.no6_lowest, DL.no6_highest, DL.no3_look_order, not_false_eq_true, and_self, true_and, and_true, reduceIte, Bool.false_eq_true, List.length_map, List.length_range, List.length_append, List.getElem?_cons_zero, List.getElem?_cons_succ, List.set_cons_zero, List.set_cons_succ, fzE, wipeE, Option.bind_some, Option.map_some, List.length_cons, List.length_nil, cond_true, cond_false, Nat.reduceAdd, Nat.reduceLeDiff, Nat.zero_add, if_true, if_false, eq_self, bOne, Nat.reduceLT, Nat.reduceEqDiff, List.map_cons, List.map_nil, List.cons_append, List.nil_append, List.replicate, Nat.reduceSub, decide_true, decide_false, Bool.not_true, Bool.not_false]; rw [rng1_nat (by omega)]) (by rw [List.length_range]; unfold lim; omega) (fun c hc => ⟨_, rfl, by simp -implicitDefEqProofs only [DL.evB, DL.evN, beq_self_eq_true, DL.no6_look_two, DL.no6_at_most, DL.no6_join, DL.no6_meet, DL.no6_lowest, DL.no6_highest, DL.no3_look_order, not_false_eq_true, and_self, true_and, and_true, reduceIte, Bool.false_eq_true, List.length_map, List.length_range, List.length_append, List.getElem?_cons_zero, List.getElem?_cons_succ, List.set_cons_zero, List.set_cons_succ, fzE, wipeE, Option.bind_some, Option.map_some, List.length_cons, List.length_nil, cond_true, cond_false, Nat.reduceAdd, Nat.reduceLeDiff, Nat.zero_add, if_true, if_false, eq_self, bOne, Nat.reduceLT, Nat.reduceEqDiff, List.map_cons, List.map_nil, List.cons_append, List.nil_append, List.replicate, Nat.reduceSub, decide_true, decide_false, Bool.not_true, Bool.not_false, atm_spec ha (List.mem_range.mp hc)], fun _ => by simp -implicitDefEqProofs only [DL.evB, DL.evN, beq_self_eq_true, DL.no6_look_two, DL.no6_at_most, DL.no6_join, DL.no6_meet, DL.no6_lowest, DL.no6_highest, DL.no3_look_order, not_false_eq_true, and_self, true_and, and_true, reduceIte, Bool.false_eq_true, List.length_map, List.length_range, List.length_append, List.getElem?_cons_zero, List.getElem?_cons_succ, List.set_cons_zero, List.set_cons_succ, fzE, wipeE, Option.bind_some, Option.map_some, List.length_cons, List.length_nil, cond_true, cond_false, Nat.reduceAdd, Nat.reduceLeDiff, Nat.zero_add, if_true, if_false, eq_self, bOne, Nat.reduceLT, Nat.reduceEqDiff, List.map_cons, List.map_nil, List.cons_append, List.nil_append, List.replicate, Nat.reduceSub, decide_true, decide_false, Bool.not_true, Bool.not_false]⟩)]
    simp only [List.map_id']
    simp -implicitDefEqProofs only [DL.evB, DL.evN, beq_self_eq_true, DL.no6_look_two, DL.no6_at_most, DL.no6_join, DL.no6_meet, DL.no6_lowest, DL.no6_highest, DL.no3_look_order, not_false_eq_true, and_self, true_and, and_true, reduceIte, Bool.false_eq_true, List.length_map, List.length_range, List.length_append, List.getElem?_cons_zero, List.getElem?_cons_succ, List.set_cons_zero, List.set_cons_succ, fzE, wipeE, Option.bind_some, Option.map_some, List.length_cons, List.length_nil, cond_true, cond_false, Nat.reduceAdd, Nat.reduceLeDiff, Nat.zero_add, if_true, if_false, eq_self, bOne, Nat.reduceLT, Nat.reduceEqDiff, List.map_cons, List.map_nil, List.cons_append, List.nil_append, List.replicate, Nat.reduceSub, decide_true, decide_false, Bool.not_true, Bool.not_false]
    have hub : ∀ l : List Nat, (l.flatMap fun a => ((List.range ms.length).filter (cov ms.length (mle ms) a)).map fun b => (a, b)).length ≤ l.length * 24 := by
      intro l
      induction l with
      | nil => simp
      | cons y l ih =>
        rw [List.flatMap_cons, List.length_append, List.length_map, List.length_cons, Nat.add_mul]
        have := List.length_filter_le (cov ms.length (mle ms) y) (List.range ms.length)
        rw [List.length_range] at this
        omega
    refine wp_forL (fun pr e => ∃ o5 o6, e = [some (.sh (.lst (ms.map nI))), some (.sh (.int (ms.length : Nat))), some (.ow (((pre.flatMap fun a => ((List.range ms.length).filter (cov ms.length (mle ms) a)).map fun b => (a, b)) ++ ((pr.filter (cov ms.length (mle ms) a)).map fun b => (a, b))).map tI)), some (.sh (.int (a : Nat))), some (.sh (.lst (((List.range ms.length).filter fun c => !decide (a = c) && mle ms a c).map nI))), o5, o6] ∧ pr.length ≤ 24) ⟨_, _, by simp; exact ⟨rfl, rfl⟩, by simp⟩ ?_ ?_
    · rintro pr b po e hx2 ⟨o5, o6, rfl, hprl⟩
      have hbm : b ∈ (List.range ms.length).filter fun c => !decide (a = c) && mle ms a c := by rw [hx2]; simp
      obtain ⟨hb, hab⟩ := List.mem_filter.mp hbm
      have hb := List.mem_range.mp hb
      simp only [Bool.and_eq_true, Bool.not_eq_true', decide_eq_false_iff_not] at hab
      have hprl2 : pr.length + 1 ≤ 24 := by
        have h1 := congrArg List.length hx2
        rw [List.length_append, List.length_cons] at h1
        have h2 := List.length_filter_le (fun c => !decide (a = c) && mle ms a c) (List.range ms.length)
        rw [List.length_range] at h2
        omega
      refine ⟨_, rfl, ?_⟩
      simp -implicitDefEqProofs only [DL.evB, DL.evN, beq_self_eq_true, DL.no6_look_two, DL.no6_at_most, DL.no6_join, DL.no6_meet, DL.no6_lowest, DL.no6_highest, DL.no3_look_order, not_false_eq_true, and_self, true_and, and_true, reduceIte, Bool.false_eq_true, List.length_map, List.length_range, List.length_append, List.getElem?_cons_zero, List.getElem?_cons_succ, List.set_cons_zero, List.set_cons_succ, fzE, wipeE, Option.bind_some, Option.map_some, List.length_cons, List.length_nil, cond_true, cond_false, Nat.reduceAdd, Nat.reduceLeDiff, Nat.zero_add, if_true, if_false, eq_self, bOne, Nat.reduceLT, Nat.reduceEqDiff, List.map_cons, List.map_nil, List.cons_append, List.nil_append, List.replicate, Nat.reduceSub, decide_true, decide_false, Bool.not_true, Bool.not_false]
      rw [comp_nf (emb := nI) (xs := (List.range ms.length).filter fun c => !decide (a = c) && mle ms a c) (fun c => mle ms c b) (fun k => k) (by simp -implicitDefEqProofs only [DL.evB, DL.evN, beq_self_eq_true, DL.no6_look_two, DL.no6_at_most, DL.no6_join, DL.no6_meet, DL.no6_lowest, DL.no6_highest, DL.no3_look_order, not_false_eq_true, and_self, true_and, and_true, reduceIte, Bool.false_eq_true, List.length_map, List.length_range, List.length_append, List.getElem?_cons_zero, List.getElem?_cons_succ, List.set_cons_zero, List.set_cons_succ, fzE, wipeE, Option.bind_some, Option.map_some, List.length_cons, List.length_nil, cond_true, cond_false, Nat.reduceAdd, Nat.reduceLeDiff, Nat.zero_add, if_true, if_false, eq_self, bOne, Nat.reduceLT, Nat.reduceEqDiff, List.map_cons, List.map_nil, List.cons_append, List.nil_append, List.replicate, Nat.reduceSub, decide_true, decide_false, Bool.not_true, Bool.not_false]) (by
        have h2 := List.length_filter_le (fun c => !decide (a = c) && mle ms a c) (List.range ms.length)
        rw [List.length_range] at h2
        unfold lim; omega) (fun c hc => ⟨_, rfl, by simp -implicitDefEqProofs only [DL.evB, DL.evN, beq_self_eq_true, DL.no6_look_two, DL.no6_at_most, DL.no6_join, DL.no6_meet, DL.no6_lowest, DL.no6_highest, DL.no3_look_order, not_false_eq_true, and_self, true_and, and_true, reduceIte, Bool.false_eq_true, List.length_map, List.length_range, List.length_append, List.getElem?_cons_zero, List.getElem?_cons_succ, List.set_cons_zero, List.set_cons_succ, fzE, wipeE, Option.bind_some, Option.map_some, List.length_cons, List.length_nil, cond_true, cond_false, Nat.reduceAdd, Nat.reduceLeDiff, Nat.zero_add, if_true, if_false, eq_self, bOne, Nat.reduceLT, Nat.reduceEqDiff, List.map_cons, List.map_nil, List.cons_append, List.nil_append, List.replicate, Nat.reduceSub, decide_true, decide_false, Bool.not_true, Bool.not_false, atm_spec (List.mem_range.mp (List.mem_filter.mp hc).1) hb], fun _ => by simp -implicitDefEqProofs only [DL.evB, DL.evN, beq_self_eq_true, DL.no6_look_two, DL.no6_at_most, DL.no6_join, DL.no6_meet, DL.no6_lowest, DL.no6_highest, DL.no3_look_order, not_false_eq_true, and_self, true_and, and_true, reduceIte, Bool.false_eq_true, List.length_map, List.length_range, List.length_append, List.getElem?_cons_zero, List.getElem?_cons_succ, List.set_cons_zero, List.set_cons_succ, fzE, wipeE, Option.bind_some, Option.map_some, List.length_cons, List.length_nil, cond_true, cond_false, Nat.reduceAdd, Nat.reduceLeDiff, Nat.zero_add, if_true, if_false, eq_self, bOne, Nat.reduceLT, Nat.reduceEqDiff, List.map_cons, List.map_nil, List.cons_append, List.nil_append, List.replicate, Nat.reduceSub, decide_true, decide_false, Bool.not_true, Bool.not_false]⟩)]
      simp only [List.map_id']
      simp -implicitDefEqProofs only [DL.evB, DL.evN, beq_self_eq_true, DL.no6_look_two, DL.no6_at_most, DL.no6_join, DL.no6_meet, DL.no6_lowest, DL.no6_highest, DL.no3_look_order, not_false_eq_true, and_self, true_and, and_true, reduceIte, Bool.false_eq_true, List.length_map, List.length_range, List.length_append, List.getElem?_cons_zero, List.getElem?_cons_succ, List.set_cons_zero, List.set_cons_succ, fzE, wipeE, Option.bind_some, Option.map_some, List.length_cons, List.length_nil, cond_true, cond_false, Nat.reduceAdd, Nat.reduceLeDiff, Nat.zero_add, if_true, if_false, eq_self, bOne, Nat.reduceLT, Nat.reduceEqDiff, List.map_cons, List.map_nil, List.cons_append, List.nil_append, List.replicate, Nat.reduceSub, decide_true, decide_false, Bool.not_true, Bool.not_false]
      rw [cov_count P ha hb hab.1 hab.2]
      refine wp_ifB (fun q => ?_) fun q => ?_
      · simp -implicitDefEqProofs only [DL.evB, DL.evN, beq_self_eq_true, DL.no6_look_two, DL.no6_at_most, DL.no6_join, DL.no6_meet, DL.no6_lowest, DL.no6_highest, DL.no3_look_order, not_false_eq_true, and_self, true_and, and_true, reduceIte, Bool.false_eq_true, List.length_map, List.length_range, List.length_append, List.getElem?_cons_zero, List.getElem?_cons_succ, List.set_cons_zero, List.set_cons_succ, fzE, wipeE, Option.bind_some, Option.map_some, List.length_cons, List.length_nil, cond_true, cond_false, Nat.reduceAdd, Nat.reduceLeDiff, Nat.zero_add, if_true, if_false, eq_self, bOne, Nat.reduceLT, Nat.reduceEqDiff, List.map_cons, List.map_nil, List.cons_append, List.nil_append, List.replicate, Nat.reduceSub, decide_true, decide_false, Bool.not_true, Bool.not_false]
        rw [mutB_app (by
          have := hub pre
          have h3 := List.length_filter_le (cov ms.length (mle ms) a) pr
          simp only [List.length_map, List.length_append]
          unfold lim; omega), app_tIs]
        simp -implicitDefEqProofs only [DL.evB, DL.evN, beq_self_eq_true, DL.no6_look_two, DL.no6_at_most, DL.no6_join, DL.no6_meet, DL.no6_lowest, DL.no6_highest, DL.no3_look_order, not_false_eq_true, and_self, true_and, and_true, reduceIte, Bool.false_eq_true, List.length_map, List.length_range, List.length_append, List.getElem?_cons_zero, List.getElem?_cons_succ, List.set_cons_zero, List.set_cons_succ, fzE, wipeE, Option.bind_some, Option.map_some, List.length_cons, List.length_nil, cond_true, cond_false, Nat.reduceAdd, Nat.reduceLeDiff, Nat.zero_add, if_true, if_false, eq_self, bOne, Nat.reduceLT, Nat.reduceEqDiff, List.map_cons, List.map_nil, List.cons_append, List.nil_append, List.replicate, Nat.reduceSub, decide_true, decide_false, Bool.not_true, Bool.not_false]
        refine ⟨_, _, by rw [List.filter_append, List.filter_cons_of_pos q]; simp; exact ⟨rfl, rfl⟩, by omega⟩
      · simp -implicitDefEqProofs only [DL.evB, DL.evN, beq_self_eq_true, DL.no6_look_two, DL.no6_at_most, DL.no6_join, DL.no6_meet, DL.no6_lowest, DL.no6_highest, DL.no3_look_order, not_false_eq_true, and_self, true_and, and_true, reduceIte, Bool.false_eq_true, List.length_map, List.length_range, List.length_append, List.getElem?_cons_zero, List.getElem?_cons_succ, List.set_cons_zero, List.set_cons_succ, fzE, wipeE, Option.bind_some, Option.map_some, List.length_cons, List.length_nil, cond_true, cond_false, Nat.reduceAdd, Nat.reduceLeDiff, Nat.zero_add, if_true, if_false, eq_self, bOne, Nat.reduceLT, Nat.reduceEqDiff, List.map_cons, List.map_nil, List.cons_append, List.nil_append, List.replicate, Nat.reduceSub, decide_true, decide_false, Bool.not_true, Bool.not_false]
        refine ⟨_, _, by rw [List.filter_append, List.filter_cons_of_neg (by simp [q])]; simp; exact ⟨rfl, rfl⟩, by omega⟩
    · rintro e ⟨o5, o6, rfl, _⟩
      simp -implicitDefEqProofs only [DL.evB, DL.evN, beq_self_eq_true, DL.no6_look_two, DL.no6_at_most, DL.no6_join, DL.no6_meet, DL.no6_lowest, DL.no6_highest, DL.no3_look_order, not_false_eq_true, and_self, true_and, and_true, reduceIte, Bool.false_eq_true, List.length_map, List.length_range, List.length_append, List.getElem?_cons_zero, List.getElem?_cons_succ, List.set_cons_zero, List.set_cons_succ, fzE, wipeE, Option.bind_some, Option.map_some, List.length_cons, List.length_nil, cond_true, cond_false, Nat.reduceAdd, Nat.reduceLeDiff, Nat.zero_add, if_true, if_false, eq_self, bOne, Nat.reduceLT, Nat.reduceEqDiff, List.map_cons, List.map_nil, List.cons_append, List.nil_append, List.replicate, Nat.reduceSub, decide_true, decide_false, Bool.not_true, Bool.not_false]
      refine ⟨_, _, _, _, by
        rw [List.flatMap_append, List.flatMap_cons, List.flatMap_nil, List.append_nil]
        have hfil : ((List.range ms.length).filter fun c => !decide (a = c) && mle ms a c).filter (cov ms.length (mle ms) a) = (List.range ms.length).filter (cov ms.length (mle ms) a) := by
          rw [List.filter_filter]
          apply List.filter_congr
          intro c hc
          cases q : cov ms.length (mle ms) a c with
          | false => simp
          | true =>
            have := cov_iff.mp q
            simp [this.1, this.2.1]
        rw [hfil], by omega⟩
  · rintro e ⟨o3, o4, o5, o6, rfl, _⟩
    simp -implicitDefEqProofs only [DL.evB, DL.evN, beq_self_eq_true, DL.no6_look_two, DL.no6_at_most, DL.no6_join, DL.no6_meet, DL.no6_lowest, DL.no6_highest, DL.no3_look_order, not_false_eq_true, and_self, true_and, and_true, reduceIte, Bool.false_eq_true, List.length_map, List.length_range, List.length_append, List.getElem?_cons_zero, List.getElem?_cons_succ, List.set_cons_zero, List.set_cons_succ, fzE, wipeE, Option.bind_some, Option.map_some, List.length_cons, List.length_nil, cond_true, cond_false, Nat.reduceAdd, Nat.reduceLeDiff, Nat.zero_add, if_true, if_false, eq_self, bOne, Nat.reduceLT, Nat.reduceEqDiff, List.map_cons, List.map_nil, List.cons_append, List.nil_append, List.replicate, Nat.reduceSub, decide_true, decide_false, Bool.not_true, Bool.not_false]
    rfl
end Ev

/-! SA5: same, and what is handed in. -/
namespace Ev
open PySem PySem.Spec L2 DL
mutual
/-- data that same is asked of -/
def smp : Nat → D → Bool
  | _, .non => true
  | _, .bl _ => true
  | _, .int _ => true
  | _, .str x => PyData.canLay0 (.str x)
  | n + 1, .lst xs => decide (xs.length < 1000000) && smpL n xs
  | n + 1, .tup xs => decide (xs.length < 1000000) && smpL n xs
  | _, _ => false
def smpL : Nat → List D → Bool
  | _, [] => true
  | n, x :: xs => smp n x && smpL n xs
end
theorem smpL_of {n : Nat} : ∀ {xs : List D}, (∀ x ∈ xs, smp n x = true) → smpL n xs = true
  | [], _ => by simp only [smpL]
  | x :: xs, h => by
    simp only [smpL, Bool.and_eq_true]
    exact ⟨h x List.mem_cons_self, smpL_of fun y hy => h y (List.mem_cons_of_mem _ hy)⟩
theorem smpL_mem {n : Nat} : ∀ {xs : List D}, smpL n xs = true → ∀ x ∈ xs, smp n x = true
  | [], _, _, hx => by cases hx
  | x :: xs, h, y, hy => by
    simp only [smpL, Bool.and_eq_true] at h
    rcases List.mem_cons.mp hy with rfl | hy
    · exact h.1
    · exact smpL_mem h.2 y hy
theorem same_eq : ∀ (n : Nat) (d : D), smp n d = true → G__law_same (n + 1) [d, d] = .ok (.sh (.bl true)) := by
  intro n
  induction n with
  | zero =>
    intro d h
    refine fn_eq rfl ?_
    unfold f__law_same
    cases d with
    | non => simp -implicitDefEqProofs only [DL.evB, DL.evN, beq_self_eq_true, DL.no6_look_two, DL.no6_at_most, DL.no6_join, DL.no6_meet, DL.no6_lowest, DL.no6_highest, DL.no3_look_order, not_false_eq_true, and_self, true_and, and_true, reduceIte, Bool.false_eq_true, List.length_map, List.length_range, List.length_append, List.getElem?_cons_zero, List.getElem?_cons_succ, List.set_cons_zero, List.set_cons_succ, fzE, wipeE, Option.bind_some, Option.map_some, List.length_cons, List.length_nil, cond_true, cond_false, Nat.reduceAdd, Nat.reduceLeDiff, Nat.zero_add, if_true, if_false, eq_self, bOne, Nat.reduceLT, Nat.reduceEqDiff, List.map_cons, List.map_nil, List.cons_append, List.nil_append, List.replicate, Nat.reduceSub, decide_true, decide_false, Bool.not_true, Bool.not_false]
    | bl b =>
      simp -implicitDefEqProofs only [DL.evB, DL.evN, beq_self_eq_true, DL.no6_look_two, DL.no6_at_most, DL.no6_join, DL.no6_meet, DL.no6_lowest, DL.no6_highest, DL.no3_look_order, not_false_eq_true, and_self, true_and, and_true, reduceIte, Bool.false_eq_true, List.length_map, List.length_range, List.length_append, List.getElem?_cons_zero, List.getElem?_cons_succ, List.set_cons_zero, List.set_cons_succ, fzE, wipeE, Option.bind_some, Option.map_some, List.length_cons, List.length_nil, cond_true, cond_false, Nat.reduceAdd, Nat.reduceLeDiff, Nat.zero_add, if_true, if_false, eq_self, bOne, Nat.reduceLT, Nat.reduceEqDiff, List.map_cons, List.map_nil, List.cons_append, List.nil_append, List.replicate, Nat.reduceSub, decide_true, decide_false, Bool.not_true, Bool.not_false]
      try (cases b <;> rfl)
    | int i =>
      simp -implicitDefEqProofs only [DL.evB, DL.evN, beq_self_eq_true, DL.no6_look_two, DL.no6_at_most, DL.no6_join, DL.no6_meet, DL.no6_lowest, DL.no6_highest, DL.no3_look_order, not_false_eq_true, and_self, true_and, and_true, reduceIte, Bool.false_eq_true, List.length_map, List.length_range, List.length_append, List.getElem?_cons_zero, List.getElem?_cons_succ, List.set_cons_zero, List.set_cons_succ, fzE, wipeE, Option.bind_some, Option.map_some, List.length_cons, List.length_nil, cond_true, cond_false, Nat.reduceAdd, Nat.reduceLeDiff, Nat.zero_add, if_true, if_false, eq_self, bOne, Nat.reduceLT, Nat.reduceEqDiff, List.map_cons, List.map_nil, List.cons_append, List.nil_append, List.replicate, Nat.reduceSub, decide_true, decide_false, Bool.not_true, Bool.not_false, eq_int]
    | str x =>
      have hp : D.pure 0 (.str x) = true := by simp only [D.pure]; simpa only [smp] using h
      simp -implicitDefEqProofs only [DL.evB, DL.evN, beq_self_eq_true, DL.no6_look_two, DL.no6_at_most, DL.no6_join, DL.no6_meet, DL.no6_lowest, DL.no6_highest, DL.no3_look_order, not_false_eq_true, and_self, true_and, and_true, reduceIte, Bool.false_eq_true, List.length_map, List.length_range, List.length_append, List.getElem?_cons_zero, List.getElem?_cons_succ, List.set_cons_zero, List.set_cons_succ, fzE, wipeE, Option.bind_some, Option.map_some, List.length_cons, List.length_nil, cond_true, cond_false, Nat.reduceAdd, Nat.reduceLeDiff, Nat.zero_add, if_true, if_false, eq_self, bOne, Nat.reduceLT, Nat.reduceEqDiff, List.map_cons, List.map_nil, List.cons_append, List.nil_append, List.replicate, Nat.reduceSub, decide_true, decide_false, Bool.not_true, Bool.not_false, eq_pure (n := 0) (a := .str x) (b := .str x) (by omega) hp hp True (by simp)]
    | _ => simp only [smp] at h; cases h
  | succ n ih =>
    intro d h
    refine fn_eq rfl ?_
    unfold f__law_same
    have seq : ∀ (xs : List D), xs.length < 1000000 → smpL n xs = true → ∀ (c : D), (∀ k : Nat, ∀ h : k < xs.length, dIx c (.int (k : Int)) = some (.sh xs[k])) →
        wpS { rt := fun q => q = R.sh (.bl true) } [sRet (eC (.bl true)), (sSeq (sIf (fB (fMap (dIsi "bool") (eVar 1))) (sRet (eAnd (fMap (dIsi "bool") (eVar 0)) (fBin dEq (eVar 0) (eVar 1)))) sNx)
    (sSeq (sIf (fB (fMap (dIsi "int") (eVar 1))) (sRet (eAnd (fMap (dIsi "int") (eVar 0)) (eAnd (eNot (fMap (dIsi "bool") (eVar 0))) (fBin dEq (eVar 0) (eVar 1))))) sNx)
    (sSeq (sIf (fB (fMap (dIsi "str") (eVar 1))) (sRet (eAnd (fMap (dIsi "str") (eVar 0)) (fBin dEq (eVar 0) (eVar 1)))) sNx)
    (sRet (eAnd (fBin dIs (eVar 1) (eC .non)) (fBin dIs (eVar 0) (eC .non)))))))]
          (forL (gN 2) (sIf (fNot (fB (fCall (G__law_same (n + 1)) (aCons (fBin dIx (eVar 0) (eVar 2)) (aCons (fBin dIx (eVar 1) (eVar 2)) aNil))))) (sRet (eC (.bl false))) sNx) ((List.range xs.length).map nI) [some (L.sh c), some (L.sh c), none]) := by
      intro xs hl hs c hc
      refine wp_forL (fun pre e => ∃ o, e = [some (L.sh c), some (L.sh c), o]) ⟨_, rfl⟩ ?_ ?_
      · rintro pre k post e hx ⟨o, rfl⟩
        have hk : k < xs.length := List.mem_range.mp (by rw [hx]; simp)
        refine ⟨_, rfl, ?_⟩
        simp -implicitDefEqProofs only [DL.evB, DL.evN, beq_self_eq_true, DL.no6_look_two, DL.no6_at_most, DL.no6_join, DL.no6_meet, DL.no6_lowest, DL.no6_highest, DL.no3_look_order, not_false_eq_true, and_self, true_and, and_true, reduceIte, Bool.false_eq_true, List.length_map, List.length_range, List.length_append, List.getElem?_cons_zero, List.getElem?_cons_succ, List.set_cons_zero, List.set_cons_succ, fzE, wipeE, Option.bind_some, Option.map_some, List.length_cons, List.length_nil, cond_true, cond_false, Nat.reduceAdd, Nat.reduceLeDiff, Nat.zero_add, if_true, if_false, eq_self, bOne, Nat.reduceLT, Nat.reduceEqDiff, List.map_cons, List.map_nil, List.cons_append, List.nil_append, List.replicate, Nat.reduceSub, decide_true, decide_false, Bool.not_true, Bool.not_false, hc k hk, ih xs[k] (smpL_mem hs _ (List.getElem_mem hk))]
        exact ⟨_, rfl⟩
      · rintro e ⟨o, rfl⟩
        simp -implicitDefEqProofs only [DL.evB, DL.evN, beq_self_eq_true, DL.no6_look_two, DL.no6_at_most, DL.no6_join, DL.no6_meet, DL.no6_lowest, DL.no6_highest, DL.no3_look_order, not_false_eq_true, and_self, true_and, and_true, reduceIte, Bool.false_eq_true, List.length_map, List.length_range, List.length_append, List.getElem?_cons_zero, List.getElem?_cons_succ, List.set_cons_zero, List.set_cons_succ, fzE, wipeE, Option.bind_some, Option.map_some, List.length_cons, List.length_nil, cond_true, cond_false, Nat.reduceAdd, Nat.reduceLeDiff, Nat.zero_add, if_true, if_false, eq_self, bOne, Nat.reduceLT, Nat.reduceEqDiff, List.map_cons, List.map_nil, List.cons_append, List.nil_append, List.replicate, Nat.reduceSub, decide_true, decide_false, Bool.not_true, Bool.not_false]
    cases d with
    | non => simp -implicitDefEqProofs only [DL.evB, DL.evN, beq_self_eq_true, DL.no6_look_two, DL.no6_at_most, DL.no6_join, DL.no6_meet, DL.no6_lowest, DL.no6_highest, DL.no3_look_order, not_false_eq_true, and_self, true_and, and_true, reduceIte, Bool.false_eq_true, List.length_map, List.length_range, List.length_append, List.getElem?_cons_zero, List.getElem?_cons_succ, List.set_cons_zero, List.set_cons_succ, fzE, wipeE, Option.bind_some, Option.map_some, List.length_cons, List.length_nil, cond_true, cond_false, Nat.reduceAdd, Nat.reduceLeDiff, Nat.zero_add, if_true, if_false, eq_self, bOne, Nat.reduceLT, Nat.reduceEqDiff, List.map_cons, List.map_nil, List.cons_append, List.nil_append, List.replicate, Nat.reduceSub, decide_true, decide_false, Bool.not_true, Bool.not_false]
    | bl b =>
      simp -implicitDefEqProofs only [DL.evB, DL.evN, beq_self_eq_true, DL.no6_look_two, DL.no6_at_most, DL.no6_join, DL.no6_meet, DL.no6_lowest, DL.no6_highest, DL.no3_look_order, not_false_eq_true, and_self, true_and, and_true, reduceIte, Bool.false_eq_true, List.length_map, List.length_range, List.length_append, List.getElem?_cons_zero, List.getElem?_cons_succ, List.set_cons_zero, List.set_cons_succ, fzE, wipeE, Option.bind_some, Option.map_some, List.length_cons, List.length_nil, cond_true, cond_false, Nat.reduceAdd, Nat.reduceLeDiff, Nat.zero_add, if_true, if_false, eq_self, bOne, Nat.reduceLT, Nat.reduceEqDiff, List.map_cons, List.map_nil, List.cons_append, List.nil_append, List.replicate, Nat.reduceSub, decide_true, decide_false, Bool.not_true, Bool.not_false]
      try (cases b <;> rfl)
    | int i =>
      simp -implicitDefEqProofs only [DL.evB, DL.evN, beq_self_eq_true, DL.no6_look_two, DL.no6_at_most, DL.no6_join, DL.no6_meet, DL.no6_lowest, DL.no6_highest, DL.no3_look_order, not_false_eq_true, and_self, true_and, and_true, reduceIte, Bool.false_eq_true, List.length_map, List.length_range, List.length_append, List.getElem?_cons_zero, List.getElem?_cons_succ, List.set_cons_zero, List.set_cons_succ, fzE, wipeE, Option.bind_some, Option.map_some, List.length_cons, List.length_nil, cond_true, cond_false, Nat.reduceAdd, Nat.reduceLeDiff, Nat.zero_add, if_true, if_false, eq_self, bOne, Nat.reduceLT, Nat.reduceEqDiff, List.map_cons, List.map_nil, List.cons_append, List.nil_append, List.replicate, Nat.reduceSub, decide_true, decide_false, Bool.not_true, Bool.not_false, eq_int]
    | str x =>
      have hp : D.pure 0 (.str x) = true := by simp only [D.pure]; simpa only [smp] using h
      simp -implicitDefEqProofs only [DL.evB, DL.evN, beq_self_eq_true, DL.no6_look_two, DL.no6_at_most, DL.no6_join, DL.no6_meet, DL.no6_lowest, DL.no6_highest, DL.no3_look_order, not_false_eq_true, and_self, true_and, and_true, reduceIte, Bool.false_eq_true, List.length_map, List.length_range, List.length_append, List.getElem?_cons_zero, List.getElem?_cons_succ, List.set_cons_zero, List.set_cons_succ, fzE, wipeE, Option.bind_some, Option.map_some, List.length_cons, List.length_nil, cond_true, cond_false, Nat.reduceAdd, Nat.reduceLeDiff, Nat.zero_add, if_true, if_false, eq_self, bOne, Nat.reduceLT, Nat.reduceEqDiff, List.map_cons, List.map_nil, List.cons_append, List.nil_append, List.replicate, Nat.reduceSub, decide_true, decide_false, Bool.not_true, Bool.not_false, eq_pure (n := 0) (a := .str x) (b := .str x) (by omega) hp hp True (by simp)]
    | lst xs =>
      simp only [smp, Bool.and_eq_true, decide_eq_true_eq] at h
      simp -implicitDefEqProofs only [DL.evB, DL.evN, beq_self_eq_true, DL.no6_look_two, DL.no6_at_most, DL.no6_join, DL.no6_meet, DL.no6_lowest, DL.no6_highest, DL.no3_look_order, not_false_eq_true, and_self, true_and, and_true, reduceIte, Bool.false_eq_true, List.length_map, List.length_range, List.length_append, List.getElem?_cons_zero, List.getElem?_cons_succ, List.set_cons_zero, List.set_cons_succ, fzE, wipeE, Option.bind_some, Option.map_some, List.length_cons, List.length_nil, cond_true, cond_false, Nat.reduceAdd, Nat.reduceLeDiff, Nat.zero_add, if_true, if_false, eq_self, bOne, Nat.reduceLT, Nat.reduceEqDiff, List.map_cons, List.map_nil, List.cons_append, List.nil_append, List.replicate, Nat.reduceSub, decide_true, decide_false, Bool.not_true, Bool.not_false]
      rw [rng1_nat (by omega)]
      simp -implicitDefEqProofs only [DL.evB, DL.evN, beq_self_eq_true, DL.no6_look_two, DL.no6_at_most, DL.no6_join, DL.no6_meet, DL.no6_lowest, DL.no6_highest, DL.no3_look_order, not_false_eq_true, and_self, true_and, and_true, reduceIte, Bool.false_eq_true, List.length_map, List.length_range, List.length_append, List.getElem?_cons_zero, List.getElem?_cons_succ, List.set_cons_zero, List.set_cons_succ, fzE, wipeE, Option.bind_some, Option.map_some, List.length_cons, List.length_nil, cond_true, cond_false, Nat.reduceAdd, Nat.reduceLeDiff, Nat.zero_add, if_true, if_false, eq_self, bOne, Nat.reduceLT, Nat.reduceEqDiff, List.map_cons, List.map_nil, List.cons_append, List.nil_append, List.replicate, Nat.reduceSub, decide_true, decide_false, Bool.not_true, Bool.not_false]
      exact seq xs h.1 h.2 (.lst xs) fun k hk => ix_lst (List.getElem?_eq_getElem hk)
    | tup xs =>
      simp only [smp, Bool.and_eq_true, decide_eq_true_eq] at h
      simp -implicitDefEqProofs only [DL.evB, DL.evN, beq_self_eq_true, DL.no6_look_two, DL.no6_at_most, DL.no6_join, DL.no6_meet, DL.no6_lowest, DL.no6_highest, DL.no3_look_order, not_false_eq_true, and_self, true_and, and_true, reduceIte, Bool.false_eq_true, List.length_map, List.length_range, List.length_append, List.getElem?_cons_zero, List.getElem?_cons_succ, List.set_cons_zero, List.set_cons_succ, fzE, wipeE, Option.bind_some, Option.map_some, List.length_cons, List.length_nil, cond_true, cond_false, Nat.reduceAdd, Nat.reduceLeDiff, Nat.zero_add, if_true, if_false, eq_self, bOne, Nat.reduceLT, Nat.reduceEqDiff, List.map_cons, List.map_nil, List.cons_append, List.nil_append, List.replicate, Nat.reduceSub, decide_true, decide_false, Bool.not_true, Bool.not_false]
      rw [rng1_nat (by omega)]
      simp -implicitDefEqProofs only [DL.evB, DL.evN, beq_self_eq_true, DL.no6_look_two, DL.no6_at_most, DL.no6_join, DL.no6_meet, DL.no6_lowest, DL.no6_highest, DL.no3_look_order, not_false_eq_true, and_self, true_and, and_true, reduceIte, Bool.false_eq_true, List.length_map, List.length_range, List.length_append, List.getElem?_cons_zero, List.getElem?_cons_succ, List.set_cons_zero, List.set_cons_succ, fzE, wipeE, Option.bind_some, Option.map_some, List.length_cons, List.length_nil, cond_true, cond_false, Nat.reduceAdd, Nat.reduceLeDiff, Nat.zero_add, if_true, if_false, eq_self, bOne, Nat.reduceLT, Nat.reduceEqDiff, List.map_cons, List.map_nil, List.cons_append, List.nil_append, List.replicate, Nat.reduceSub, decide_true, decide_false, Bool.not_true, Bool.not_false]
      exact seq xs h.1 h.2 (.tup xs) fun k hk => ix_tup (List.getElem?_eq_getElem hk)
    | _ => simp only [smp] at h; cases h
theorem smp_le {n : Nat} : ∀ {d : D}, smp n d = true → smp (n + 1) d = true := by
  induction n with
  | zero =>
    intro d h
    cases d <;> simp only [smp] at h ⊢ <;> first | exact h | cases h
  | succ n ih =>
    intro d h
    cases d <;> simp only [smp] at h ⊢ <;> first | exact h | (rw [Bool.and_eq_true] at h ⊢; exact ⟨h.1, smpL_of fun x hx => ih (smpL_mem h.2 x hx)⟩) | cases h
theorem smp_le' {n m : Nat} (h : n ≤ m) {d : D} (s : smp n d = true) : smp m d = true := by
  induction m with
  | zero => have : n = 0 := by omega
            subst this; exact s
  | succ m ih =>
    by_cases e : n = m + 1
    · rw [← e]; exact s
    · exact smp_le (ih (by omega))
/-- same, of like data -/
theorem same_spec {d : D} (h : smp 7 d = true) : F__law_same [d, d] = .ok (.sh (.bl true)) := same_eq 7 d h
theorem smp_int {n : Nat} {i : Int} : smp n (.int i) = true := by cases n <;> simp only [smp]
theorem smp_nI {n k : Nat} : smp n (nI k) = true := smp_int
theorem smp_tI {n : Nat} {q : Nat × Nat} : smp (n + 1) (tI q) = true := by
  unfold tI; simp only [smp, smpL, smp_int, Bool.and_self, Bool.and_true]; simp
theorem smp_map {α : Type} {f : α → D} {n : Nat} (h : ∀ x, smp n (f x) = true) {xs : List α} : smpL n (xs.map f) = true := smpL_of fun x hx => by
  obtain ⟨y, _, rfl⟩ := List.mem_map.mp hx; exact h y
theorem smp_lstN {n : Nat} {xs : List Nat} (h : xs.length < 1000000) : smp (n + 1) (.lst (xs.map nI)) = true := by
  simp only [smp, List.length_map, decide_eq_true h, Bool.true_and]; exact smp_map fun _ => smp_nI
theorem smp_lstT {n : Nat} {xs : List (Nat × Nat)} (h : xs.length < 1000000) : smp (n + 2) (.lst (xs.map tI)) = true := by
  simp only [smp, List.length_map, decide_eq_true h, Bool.true_and]; exact smp_map fun _ => smp_tI
theorem smp_tupT {n : Nat} {xs : List (Nat × Nat)} (h : xs.length < 1000000) : smp (n + 2) (.tup (xs.map tI)) = true := by
  simp only [smp, List.length_map, decide_eq_true h, Bool.true_and]; exact smp_map fun _ => smp_tI
theorem covs_length {n : Nat} {le : Nat → Nat → Bool} : (covs n le).length ≤ n * n := by
  unfold covs
  have : ∀ l : List Nat, (l.flatMap fun a => ((List.range n).filter (cov n le a)).map fun b => (a, b)).length ≤ l.length * n := by
    intro l
    induction l with
    | nil => simp
    | cons y l ih =>
      rw [List.flatMap_cons, List.length_append, List.length_map, List.length_cons, Nat.add_mul]
      have := List.length_filter_le (cov n le y) (List.range n)
      rw [List.length_range] at this
      omega
  have := this (List.range n)
  rwa [List.length_range] at this
theorem handed_spec {ms : List Nat} (g : Good ms) (ds : List Nat) (hl : ds.length = 8) : ∃ ps : List (Nat × Nat), (∀ p ∈ ps, mle ms p.1 p.2 = true) ∧ (∀ a b, cov ms.length (mle ms) a b = true → (a, b) ∈ ps) ∧ ps.length ≤ 1000 ∧
    F__law_handed [.lst (ms.map nI), .lst (ds.map nI)] = .ok (.fr (.ow (ps.map tI))) := by
  have P := g.lat.po
  have hn := g.len
  have hpos := g.pos
  have key : ∃ r, F__law_handed [.lst (ms.map nI), .lst (ds.map nI)] = .ok r ∧ ∃ ps : List (Nat × Nat), (∀ p ∈ ps, mle ms p.1 p.2 = true) ∧ (∀ a b, cov ms.length (mle ms) a b = true → (a, b) ∈ ps) ∧ ps.length ≤ 1000 ∧ r = .fr (.ow (ps.map tI)) := by
    refine fn_rt rfl ?_
    unfold f__law_handed
    have hx : ∀ m, m < 8 → m < ds.length := by omega
    have h0 := hx 0 (by omega)
    have h7 := hx 7 (by omega)
    have hcl := covs_length (n := ms.length) (le := mle ms)
    have hcl2 : ms.length * ms.length ≤ 24 * 24 := Nat.mul_le_mul hn hn
    simp -implicitDefEqProofs only [DL.evB, DL.evN, beq_self_eq_true, DL.no6_look_two, DL.no6_at_most, DL.no6_join, DL.no6_meet, DL.no6_lowest, DL.no6_highest, DL.no3_look_order, not_false_eq_true, and_self, true_and, and_true, reduceIte, Bool.false_eq_true, List.length_map, List.length_range, List.length_append, List.getElem?_cons_zero, List.getElem?_cons_succ, List.set_cons_zero, List.set_cons_succ, fzE, wipeE, Option.bind_some, Option.map_some, List.length_cons, List.length_nil, cond_true, cond_false, Nat.reduceAdd, Nat.reduceLeDiff, Nat.zero_add, if_true, if_false, eq_self, bOne, Nat.reduceLT, Nat.reduceEqDiff, List.map_cons, List.map_nil, List.cons_append, List.nil_append, List.replicate, Nat.reduceSub, decide_true, decide_false, Bool.not_true, Bool.not_false, steps_spec g, h0]
    rw [rng1_nat (by omega)]
    simp -implicitDefEqProofs only [DL.evB, DL.evN, beq_self_eq_true, DL.no6_look_two, DL.no6_at_most, DL.no6_join, DL.no6_meet, DL.no6_lowest, DL.no6_highest, DL.no3_look_order, not_false_eq_true, and_self, true_and, and_true, reduceIte, Bool.false_eq_true, List.length_map, List.length_range, List.length_append, List.getElem?_cons_zero, List.getElem?_cons_succ, List.set_cons_zero, List.set_cons_succ, fzE, wipeE, Option.bind_some, Option.map_some, List.length_cons, List.length_nil, cond_true, cond_false, Nat.reduceAdd, Nat.reduceLeDiff, Nat.zero_add, if_true, if_false, eq_self, bOne, Nat.reduceLT, Nat.reduceEqDiff, List.map_cons, List.map_nil, List.cons_append, List.nil_append, List.replicate, Nat.reduceSub, decide_true, decide_false, Bool.not_true, Bool.not_false]
    refine wp_forL (fun pre e => ∃ (ps : List (Nat × Nat)) (o3 o4 o5 : Option L), (∀ p ∈ ps, mle ms p.1 p.2 = true) ∧ (∀ a b, cov ms.length (mle ms) a b = true → (a, b) ∈ ps) ∧ ps.length ≤ 576 + pre.length ∧
      e = [some (.sh (.lst (ms.map nI))), some (.sh (.lst (ds.map nI))), some (.ow (ps.map tI)), o3, o4, o5, none]) ⟨covs ms.length (mle ms), _, _, _, fun p hp => (cov_iff.mp ((mem_covs P).mp hp)).1, fun a b h => (mem_covs P).mpr h, by omega, rfl⟩ ?_ ?_
    · rintro pre k post e hx2 ⟨ps, o3, o4, o5, h1, h2, h3, rfl⟩
      have hk : pre.length + 1 ≤ 12 := by
        have := congrArg List.length hx2
        rw [List.length_range, List.length_append, List.length_cons] at this
        have := Nat.mod_lt (ds.getD 0 0) (show 0 < 12 by omega)
        omega
      have hk2 : k < 12 := by
        have : k ∈ List.range (ds.getD 0 0 % 12) := by rw [hx2]; simp
        have := List.mem_range.mp this
        have := Nat.mod_lt (ds.getD 0 0) (show 0 < 12 by omega)
        omega
      refine ⟨_, rfl, ?_⟩
      have i1 := hx (1 + k % 3) (by omega)
      have i2 := hx (4 + k % 3) (by omega)
      have j1 : 0 < k + 1 := by omega
      have j2 : k + 1 < 1073741824 := by omega
      simp -implicitDefEqProofs only [DL.evB, DL.evN, beq_self_eq_true, DL.no6_look_two, DL.no6_at_most, DL.no6_join, DL.no6_meet, DL.no6_lowest, DL.no6_highest, DL.no3_look_order, not_false_eq_true, and_self, true_and, and_true, reduceIte, Bool.false_eq_true, List.length_map, List.length_range, List.length_append, List.getElem?_cons_zero, List.getElem?_cons_succ, List.set_cons_zero, List.set_cons_succ, fzE, wipeE, Option.bind_some, Option.map_some, List.length_cons, List.length_nil, cond_true, cond_false, Nat.reduceAdd, Nat.reduceLeDiff, Nat.zero_add, if_true, if_false, eq_self, bOne, Nat.reduceLT, Nat.reduceEqDiff, List.map_cons, List.map_nil, List.cons_append, List.nil_append, List.replicate, Nat.reduceSub, decide_true, decide_false, Bool.not_true, Bool.not_false, i1, i2, j1, j2, hpos]
      have a1 := Nat.mod_lt (ds.getD (1 + k % 3) 0 / (k + 1)) hpos
      have a2 := Nat.mod_lt (ds.getD (4 + k % 3) 0 / (k + 1)) hpos
      generalize ds.getD (1 + k % 3) 0 / (k + 1) % ms.length = a at a1 ⊢
      generalize ds.getD (4 + k % 3) 0 / (k + 1) % ms.length = b at a2 ⊢
      simp -implicitDefEqProofs only [DL.evB, DL.evN, beq_self_eq_true, DL.no6_look_two, DL.no6_at_most, DL.no6_join, DL.no6_meet, DL.no6_lowest, DL.no6_highest, DL.no3_look_order, not_false_eq_true, and_self, true_and, and_true, reduceIte, Bool.false_eq_true, List.length_map, List.length_range, List.length_append, List.getElem?_cons_zero, List.getElem?_cons_succ, List.set_cons_zero, List.set_cons_succ, fzE, wipeE, Option.bind_some, Option.map_some, List.length_cons, List.length_nil, cond_true, cond_false, Nat.reduceAdd, Nat.reduceLeDiff, Nat.zero_add, if_true, if_false, eq_self, bOne, Nat.reduceLT, Nat.reduceEqDiff, List.map_cons, List.map_nil, List.cons_append, List.nil_append, List.replicate, Nat.reduceSub, decide_true, decide_false, Bool.not_true, Bool.not_false, atm_spec a1 a2]
      refine wp_ifB (fun q => ?_) fun q => ?_
      · simp -implicitDefEqProofs only [DL.evB, DL.evN, beq_self_eq_true, DL.no6_look_two, DL.no6_at_most, DL.no6_join, DL.no6_meet, DL.no6_lowest, DL.no6_highest, DL.no3_look_order, not_false_eq_true, and_self, true_and, and_true, reduceIte, Bool.false_eq_true, List.length_map, List.length_range, List.length_append, List.getElem?_cons_zero, List.getElem?_cons_succ, List.set_cons_zero, List.set_cons_succ, fzE, wipeE, Option.bind_some, Option.map_some, List.length_cons, List.length_nil, cond_true, cond_false, Nat.reduceAdd, Nat.reduceLeDiff, Nat.zero_add, if_true, if_false, eq_self, bOne, Nat.reduceLT, Nat.reduceEqDiff, List.map_cons, List.map_nil, List.cons_append, List.nil_append, List.replicate, Nat.reduceSub, decide_true, decide_false, Bool.not_true, Bool.not_false]
        rw [mutB_app (by rw [List.length_map]; unfold lim; omega), app_tIs]
        simp -implicitDefEqProofs only [DL.evB, DL.evN, beq_self_eq_true, DL.no6_look_two, DL.no6_at_most, DL.no6_join, DL.no6_meet, DL.no6_lowest, DL.no6_highest, DL.no3_look_order, not_false_eq_true, and_self, true_and, and_true, reduceIte, Bool.false_eq_true, List.length_map, List.length_range, List.length_append, List.getElem?_cons_zero, List.getElem?_cons_succ, List.set_cons_zero, List.set_cons_succ, fzE, wipeE, Option.bind_some, Option.map_some, List.length_cons, List.length_nil, cond_true, cond_false, Nat.reduceAdd, Nat.reduceLeDiff, Nat.zero_add, if_true, if_false, eq_self, bOne, Nat.reduceLT, Nat.reduceEqDiff, List.map_cons, List.map_nil, List.cons_append, List.nil_append, List.replicate, Nat.reduceSub, decide_true, decide_false, Bool.not_true, Bool.not_false]
        refine ⟨ps ++ [(a, b)], _, _, _, fun p hp => ?_, fun a b h => List.mem_append_left _ (h2 a b h), by simp; omega, rfl⟩
        rcases List.mem_append.mp hp with h | h
        · exact h1 p h
        · rw [List.mem_singleton] at h; subst h; exact q
      · simp -implicitDefEqProofs only [DL.evB, DL.evN, beq_self_eq_true, DL.no6_look_two, DL.no6_at_most, DL.no6_join, DL.no6_meet, DL.no6_lowest, DL.no6_highest, DL.no3_look_order, not_false_eq_true, and_self, true_and, and_true, reduceIte, Bool.false_eq_true, List.length_map, List.length_range, List.length_append, List.getElem?_cons_zero, List.getElem?_cons_succ, List.set_cons_zero, List.set_cons_succ, fzE, wipeE, Option.bind_some, Option.map_some, List.length_cons, List.length_nil, cond_true, cond_false, Nat.reduceAdd, Nat.reduceLeDiff, Nat.zero_add, if_true, if_false, eq_self, bOne, Nat.reduceLT, Nat.reduceEqDiff, List.map_cons, List.map_nil, List.cons_append, List.nil_append, List.replicate, Nat.reduceSub, decide_true, decide_false, Bool.not_true, Bool.not_false]
        exact ⟨ps, _, _, _, h1, h2, by omega, rfl⟩
    · rintro e ⟨ps, o3, o4, o5, h1, h2, h3, rfl⟩
      have hm := Nat.mod_lt (ds.getD 0 0) (show 0 < 12 by omega)
      rw [List.length_range] at h3
      have hp1 : 0 < ps.length + 1 := by omega
      simp -implicitDefEqProofs only [DL.evB, DL.evN, beq_self_eq_true, DL.no6_look_two, DL.no6_at_most, DL.no6_join, DL.no6_meet, DL.no6_lowest, DL.no6_highest, DL.no3_look_order, not_false_eq_true, and_self, true_and, and_true, reduceIte, Bool.false_eq_true, List.length_map, List.length_range, List.length_append, List.getElem?_cons_zero, List.getElem?_cons_succ, List.set_cons_zero, List.set_cons_succ, fzE, wipeE, Option.bind_some, Option.map_some, List.length_cons, List.length_nil, cond_true, cond_false, Nat.reduceAdd, Nat.reduceLeDiff, Nat.zero_add, if_true, if_false, eq_self, bOne, Nat.reduceLT, Nat.reduceEqDiff, List.map_cons, List.map_nil, List.cons_append, List.nil_append, List.replicate, Nat.reduceSub, decide_true, decide_false, Bool.not_true, Bool.not_false, h7, hp1]
      rw [add_nIs (by simp; omega)]
      simp -implicitDefEqProofs only [DL.evB, DL.evN, beq_self_eq_true, DL.no6_look_two, DL.no6_at_most, DL.no6_join, DL.no6_meet, DL.no6_lowest, DL.no6_highest, DL.no3_look_order, not_false_eq_true, and_self, true_and, and_true, reduceIte, Bool.false_eq_true, List.length_map, List.length_range, List.length_append, List.getElem?_cons_zero, List.getElem?_cons_succ, List.set_cons_zero, List.set_cons_succ, fzE, wipeE, Option.bind_some, Option.map_some, List.length_cons, List.length_nil, cond_true, cond_false, Nat.reduceAdd, Nat.reduceLeDiff, Nat.zero_add, if_true, if_false, eq_self, bOne, Nat.reduceLT, Nat.reduceEqDiff, List.map_cons, List.map_nil, List.cons_append, List.nil_append, List.replicate, Nat.reduceSub, decide_true, decide_false, Bool.not_true, Bool.not_false]
      generalize ds.getD 7 0 % (ps.length + 1) = t
      refine ⟨ps.drop t ++ ps.take t, fun p hp => ?_, fun a b h => ?_, by simp; omega, rfl⟩
      · rcases List.mem_append.mp hp with h | h
        · exact h1 p (List.mem_of_mem_drop h)
        · exact h1 p (List.mem_of_mem_take h)
      · have := h2 a b h
        rw [← List.take_append_drop t ps] at this
        rcases List.mem_append.mp this with h | h
        · exact List.mem_append_right _ h
        · exact List.mem_append_left _ h
  obtain ⟨r, e, ps, h1, h2, h3, rfl⟩ := key
  exact ⟨ps, h1, h2, h3, e⟩
end Ev

/-! SP1: how an Order is made. -/
namespace Ev
open PySem PySem.Spec L2 DL
theorem tb_dec (x k : Nat) : decide (x >>> k &&& 1 = 1) = x.testBit k := by
  rw [Nat.testBit_eq_decide_div_mod_eq, Nat.shiftRight_eq_div_pow, Nat.and_one_is_mod]
theorem set_nIs (A : List Nat) (i v : Nat) : (A.map nI).set i (.int (v : Int)) = (A.set i v).map nI := by
  rw [List.map_set]; rfl
theorem carried_spec (n : Nat) (hn : n ≤ 24) (ps : List (Nat × Nat)) (h : ∀ p ∈ ps, p.1 < n ∧ p.2 < n) : F_carried_on [.int n, .lst (ps.map tI)] = .ok (.fr (.ow ((carried n ps).map nI))) := by
  refine fn_eq rfl ?_
  unfold f_carried_on
  simp -implicitDefEqProofs only [DL.evB, DL.evN, beq_self_eq_true, DL.no6_look_two, DL.no6_at_most, DL.no6_join, DL.no6_meet, DL.no6_lowest, DL.no6_highest, DL.no3_look_order, not_false_eq_true, and_self, true_and, and_true, reduceIte, Bool.false_eq_true, List.length_map, List.length_range, List.length_append, List.getElem?_cons_zero, List.getElem?_cons_succ, List.set_cons_zero, List.set_cons_succ, fzE, wipeE, Option.bind_some, Option.map_some, List.length_cons, List.length_nil, cond_true, cond_false, Nat.reduceAdd, Nat.reduceLeDiff, Nat.zero_add, if_true, if_false, eq_self, bOne, Nat.reduceLT, Nat.reduceEqDiff, List.map_cons, List.map_nil, List.cons_append, List.nil_append, List.replicate, Nat.reduceSub, decide_true, decide_false, Bool.not_true, Bool.not_false]
  rw [comp_n (emb := nI) (xs := List.range n) (fun k => 1 <<< k) (by simp -implicitDefEqProofs only [DL.evB, DL.evN, beq_self_eq_true, DL.no6_look_two, DL.no6_at_most, DL.no6_join, DL.no6_meet, DL.no6_lowest, DL.no6_highest, DL.no3_look_order, not_false_eq_true, and_self, true_and, and_true, reduceIte, Bool.false_eq_true, List.length_map, List.length_range, List.length_append, List.getElem?_cons_zero, List.getElem?_cons_succ, List.set_cons_zero, List.set_cons_succ, fzE, wipeE, Option.bind_some, Option.map_some, List.length_cons, List.length_nil, cond_true, cond_false, Nat.reduceAdd, Nat.reduceLeDiff, Nat.zero_add, if_true, if_false, eq_self, bOne, Nat.reduceLT, Nat.reduceEqDiff, List.map_cons, List.map_nil, List.cons_append, List.nil_append, List.replicate, Nat.reduceSub, decide_true, decide_false, Bool.not_true, Bool.not_false]; rw [rng1_nat (by omega)]) (by rw [List.length_range]; unfold lim; omega) (fun x hx => ⟨_, rfl, by
    rw [List.mem_range] at hx
    simp -implicitDefEqProofs only [DL.evB, DL.evN, beq_self_eq_true, DL.no6_look_two, DL.no6_at_most, DL.no6_join, DL.no6_meet, DL.no6_lowest, DL.no6_highest, DL.no3_look_order, not_false_eq_true, and_self, true_and, and_true, reduceIte, Bool.false_eq_true, List.length_map, List.length_range, List.length_append, List.getElem?_cons_zero, List.getElem?_cons_succ, List.set_cons_zero, List.set_cons_succ, fzE, wipeE, Option.bind_some, Option.map_some, List.length_cons, List.length_nil, cond_true, cond_false, Nat.reduceAdd, Nat.reduceLeDiff, Nat.zero_add, if_true, if_false, eq_self, bOne, Nat.reduceLT, Nat.reduceEqDiff, List.map_cons, List.map_nil, List.cons_append, List.nil_append, List.replicate, Nat.reduceSub, decide_true, decide_false, Bool.not_true, Bool.not_false, shl1_nat (b := x) (by omega)]⟩)]
  simp -implicitDefEqProofs only [DL.evB, DL.evN, beq_self_eq_true, DL.no6_look_two, DL.no6_at_most, DL.no6_join, DL.no6_meet, DL.no6_lowest, DL.no6_highest, DL.no3_look_order, not_false_eq_true, and_self, true_and, and_true, reduceIte, Bool.false_eq_true, List.length_map, List.length_range, List.length_append, List.getElem?_cons_zero, List.getElem?_cons_succ, List.set_cons_zero, List.set_cons_succ, fzE, wipeE, Option.bind_some, Option.map_some, List.length_cons, List.length_nil, cond_true, cond_false, Nat.reduceAdd, Nat.reduceLeDiff, Nat.zero_add, if_true, if_false, eq_self, bOne, Nat.reduceLT, Nat.reduceEqDiff, List.map_cons, List.map_nil, List.cons_append, List.nil_append, List.replicate, Nat.reduceSub, decide_true, decide_false, Bool.not_true, Bool.not_false]
  refine wp_forL (fun pre e => ∃ o3 o4, e = [some (.sh (.int n)), some (.sh (.lst (ps.map tI))), some (.ow ((pre.foldl coPair (co0 n)).map nI)), o3, o4, none, none]) ⟨_, _, rfl⟩ ?_ ?_
  · rintro pre p post e hx ⟨o3, o4, rfl⟩
    obtain ⟨h1, h2⟩ := h p (by rw [hx]; simp)
    have hl : (pre.foldl coPair (co0 n)).length = n := by rw [foldl_length coPair_length, co0_length]
    refine ⟨_, rfl, ?_⟩
    simp -implicitDefEqProofs only [DL.evB, DL.evN, beq_self_eq_true, DL.no6_look_two, DL.no6_at_most, DL.no6_join, DL.no6_meet, DL.no6_lowest, DL.no6_highest, DL.no3_look_order, not_false_eq_true, and_self, true_and, and_true, reduceIte, Bool.false_eq_true, List.length_map, List.length_range, List.length_append, List.getElem?_cons_zero, List.getElem?_cons_succ, List.set_cons_zero, List.set_cons_succ, fzE, wipeE, Option.bind_some, Option.map_some, List.length_cons, List.length_nil, cond_true, cond_false, Nat.reduceAdd, Nat.reduceLeDiff, Nat.zero_add, if_true, if_false, eq_self, bOne, Nat.reduceLT, Nat.reduceEqDiff, List.map_cons, List.map_nil, List.cons_append, List.nil_append, List.replicate, Nat.reduceSub, decide_true, decide_false, Bool.not_true, Bool.not_false, ixN_lst (xs := pre.foldl coPair (co0 n)) (k := p.1) (by omega), shl1_nat (b := p.2) (by omega)]
    rw [putLB_ok (n := 0) (by rw [List.length_map, hl]; exact h1), set_nIs]
    simp -implicitDefEqProofs only [DL.evB, DL.evN, beq_self_eq_true, DL.no6_look_two, DL.no6_at_most, DL.no6_join, DL.no6_meet, DL.no6_lowest, DL.no6_highest, DL.no3_look_order, not_false_eq_true, and_self, true_and, and_true, reduceIte, Bool.false_eq_true, List.length_map, List.length_range, List.length_append, List.getElem?_cons_zero, List.getElem?_cons_succ, List.set_cons_zero, List.set_cons_succ, fzE, wipeE, Option.bind_some, Option.map_some, List.length_cons, List.length_nil, cond_true, cond_false, Nat.reduceAdd, Nat.reduceLeDiff, Nat.zero_add, if_true, if_false, eq_self, bOne, Nat.reduceLT, Nat.reduceEqDiff, List.map_cons, List.map_nil, List.cons_append, List.nil_append, List.replicate, Nat.reduceSub, decide_true, decide_false, Bool.not_true, Bool.not_false]
    exact ⟨_, _, by rw [List.foldl_append]; rfl⟩
  · rintro e ⟨o3, o4, rfl⟩
    simp -implicitDefEqProofs only [DL.evB, DL.evN, beq_self_eq_true, DL.no6_look_two, DL.no6_at_most, DL.no6_join, DL.no6_meet, DL.no6_lowest, DL.no6_highest, DL.no3_look_order, not_false_eq_true, and_self, true_and, and_true, reduceIte, Bool.false_eq_true, List.length_map, List.length_range, List.length_append, List.getElem?_cons_zero, List.getElem?_cons_succ, List.set_cons_zero, List.set_cons_succ, fzE, wipeE, Option.bind_some, Option.map_some, List.length_cons, List.length_nil, cond_true, cond_false, Nat.reduceAdd, Nat.reduceLeDiff, Nat.zero_add, if_true, if_false, eq_self, bOne, Nat.reduceLT, Nat.reduceEqDiff, List.map_cons, List.map_nil, List.cons_append, List.nil_append, List.replicate, Nat.reduceSub, decide_true, decide_false, Bool.not_true, Bool.not_false]
    rw [rng1_nat (by omega)]
    simp -implicitDefEqProofs only [DL.evB, DL.evN, beq_self_eq_true, DL.no6_look_two, DL.no6_at_most, DL.no6_join, DL.no6_meet, DL.no6_lowest, DL.no6_highest, DL.no3_look_order, not_false_eq_true, and_self, true_and, and_true, reduceIte, Bool.false_eq_true, List.length_map, List.length_range, List.length_append, List.getElem?_cons_zero, List.getElem?_cons_succ, List.set_cons_zero, List.set_cons_succ, fzE, wipeE, Option.bind_some, Option.map_some, List.length_cons, List.length_nil, cond_true, cond_false, Nat.reduceAdd, Nat.reduceLeDiff, Nat.zero_add, if_true, if_false, eq_self, bOne, Nat.reduceLT, Nat.reduceEqDiff, List.map_cons, List.map_nil, List.cons_append, List.nil_append, List.replicate, Nat.reduceSub, decide_true, decide_false, Bool.not_true, Bool.not_false]
    generalize hA : ps.foldl coPair (co0 n) = A0
    have hA0 : A0.length = n := by rw [← hA, foldl_length coPair_length, co0_length]
    refine wp_forL (fun pre e => ∃ o5 o6, e = [some (.sh (.int n)), some (.sh (.lst (ps.map tI))), some (.ow ((pre.foldl (coThr n) A0).map nI)), o3, o4, o5, o6]) ⟨_, _, rfl⟩ ?_ ?_
    · rintro pre k post e hx ⟨o5, o6, rfl⟩
      have hk : k < n := List.mem_range.mp (by rw [hx]; simp)
      refine ⟨_, rfl, ?_⟩
      simp -implicitDefEqProofs only [DL.evB, DL.evN, beq_self_eq_true, DL.no6_look_two, DL.no6_at_most, DL.no6_join, DL.no6_meet, DL.no6_lowest, DL.no6_highest, DL.no3_look_order, not_false_eq_true, and_self, true_and, and_true, reduceIte, Bool.false_eq_true, List.length_map, List.length_range, List.length_append, List.getElem?_cons_zero, List.getElem?_cons_succ, List.set_cons_zero, List.set_cons_succ, fzE, wipeE, Option.bind_some, Option.map_some, List.length_cons, List.length_nil, cond_true, cond_false, Nat.reduceAdd, Nat.reduceLeDiff, Nat.zero_add, if_true, if_false, eq_self, bOne, Nat.reduceLT, Nat.reduceEqDiff, List.map_cons, List.map_nil, List.cons_append, List.nil_append, List.replicate, Nat.reduceSub, decide_true, decide_false, Bool.not_true, Bool.not_false]
      rw [rng1_nat (by omega)]
      simp -implicitDefEqProofs only [DL.evB, DL.evN, beq_self_eq_true, DL.no6_look_two, DL.no6_at_most, DL.no6_join, DL.no6_meet, DL.no6_lowest, DL.no6_highest, DL.no3_look_order, not_false_eq_true, and_self, true_and, and_true, reduceIte, Bool.false_eq_true, List.length_map, List.length_range, List.length_append, List.getElem?_cons_zero, List.getElem?_cons_succ, List.set_cons_zero, List.set_cons_succ, fzE, wipeE, Option.bind_some, Option.map_some, List.length_cons, List.length_nil, cond_true, cond_false, Nat.reduceAdd, Nat.reduceLeDiff, Nat.zero_add, if_true, if_false, eq_self, bOne, Nat.reduceLT, Nat.reduceEqDiff, List.map_cons, List.map_nil, List.cons_append, List.nil_append, List.replicate, Nat.reduceSub, decide_true, decide_false, Bool.not_true, Bool.not_false]
      generalize hB : pre.foldl (coThr n) A0 = B
      have hB0 : B.length = n := by rw [← hB, foldl_length (coThr_length n), hA0]
      refine wp_forL (fun pr e => ∃ o6, e = [some (.sh (.int n)), some (.sh (.lst (ps.map tI))), some (.ow ((pr.foldl (coStep k) B).map nI)), o3, o4, some (.sh (.int k)), o6]) ⟨_, rfl⟩ ?_ ?_
      · rintro pr i po e hx2 ⟨o6, rfl⟩
        have hi : i < n := List.mem_range.mp (by rw [hx2]; simp)
        have hl : (pr.foldl (coStep k) B).length = n := by rw [foldl_length (coStep_length k), hB0]
        refine ⟨_, rfl, ?_⟩
        have ei := ixN_lst (xs := pr.foldl (coStep k) B) (k := i) (by omega)
        have ek := ixN_lst (xs := pr.foldl (coStep k) B) (k := k) (by omega)
        simp -implicitDefEqProofs only [DL.evB, DL.evN, beq_self_eq_true, DL.no6_look_two, DL.no6_at_most, DL.no6_join, DL.no6_meet, DL.no6_lowest, DL.no6_highest, DL.no3_look_order, not_false_eq_true, and_self, true_and, and_true, reduceIte, Bool.false_eq_true, List.length_map, List.length_range, List.length_append, List.getElem?_cons_zero, List.getElem?_cons_succ, List.set_cons_zero, List.set_cons_succ, fzE, wipeE, Option.bind_some, Option.map_some, List.length_cons, List.length_nil, cond_true, cond_false, Nat.reduceAdd, Nat.reduceLeDiff, Nat.zero_add, if_true, if_false, eq_self, bOne, Nat.reduceLT, Nat.reduceEqDiff, List.map_cons, List.map_nil, List.cons_append, List.nil_append, List.replicate, Nat.reduceSub, decide_true, decide_false, Bool.not_true, Bool.not_false, ei, tb_dec]
        refine wp_ifB (fun q => ?_) fun q => ?_
        · simp -implicitDefEqProofs only [DL.evB, DL.evN, beq_self_eq_true, DL.no6_look_two, DL.no6_at_most, DL.no6_join, DL.no6_meet, DL.no6_lowest, DL.no6_highest, DL.no3_look_order, not_false_eq_true, and_self, true_and, and_true, reduceIte, Bool.false_eq_true, List.length_map, List.length_range, List.length_append, List.getElem?_cons_zero, List.getElem?_cons_succ, List.set_cons_zero, List.set_cons_succ, fzE, wipeE, Option.bind_some, Option.map_some, List.length_cons, List.length_nil, cond_true, cond_false, Nat.reduceAdd, Nat.reduceLeDiff, Nat.zero_add, if_true, if_false, eq_self, bOne, Nat.reduceLT, Nat.reduceEqDiff, List.map_cons, List.map_nil, List.cons_append, List.nil_append, List.replicate, Nat.reduceSub, decide_true, decide_false, Bool.not_true, Bool.not_false, ei, ek]
          rw [putLB_ok (n := 0) (by rw [List.length_map, hl]; exact hi), set_nIs]
          simp -implicitDefEqProofs only [DL.evB, DL.evN, beq_self_eq_true, DL.no6_look_two, DL.no6_at_most, DL.no6_join, DL.no6_meet, DL.no6_lowest, DL.no6_highest, DL.no3_look_order, not_false_eq_true, and_self, true_and, and_true, reduceIte, Bool.false_eq_true, List.length_map, List.length_range, List.length_append, List.getElem?_cons_zero, List.getElem?_cons_succ, List.set_cons_zero, List.set_cons_succ, fzE, wipeE, Option.bind_some, Option.map_some, List.length_cons, List.length_nil, cond_true, cond_false, Nat.reduceAdd, Nat.reduceLeDiff, Nat.zero_add, if_true, if_false, eq_self, bOne, Nat.reduceLT, Nat.reduceEqDiff, List.map_cons, List.map_nil, List.cons_append, List.nil_append, List.replicate, Nat.reduceSub, decide_true, decide_false, Bool.not_true, Bool.not_false]
          refine ⟨some (.sh (.int i)), ?_⟩
          have : coStep k (pr.foldl (coStep k) B) i = (pr.foldl (coStep k) B).set i ((pr.foldl (coStep k) B).getD i 0 ||| (pr.foldl (coStep k) B).getD k 0) := if_pos q
          rw [List.foldl_append, List.foldl_cons, List.foldl_nil, this]
        · simp -implicitDefEqProofs only [DL.evB, DL.evN, beq_self_eq_true, DL.no6_look_two, DL.no6_at_most, DL.no6_join, DL.no6_meet, DL.no6_lowest, DL.no6_highest, DL.no3_look_order, not_false_eq_true, and_self, true_and, and_true, reduceIte, Bool.false_eq_true, List.length_map, List.length_range, List.length_append, List.getElem?_cons_zero, List.getElem?_cons_succ, List.set_cons_zero, List.set_cons_succ, fzE, wipeE, Option.bind_some, Option.map_some, List.length_cons, List.length_nil, cond_true, cond_false, Nat.reduceAdd, Nat.reduceLeDiff, Nat.zero_add, if_true, if_false, eq_self, bOne, Nat.reduceLT, Nat.reduceEqDiff, List.map_cons, List.map_nil, List.cons_append, List.nil_append, List.replicate, Nat.reduceSub, decide_true, decide_false, Bool.not_true, Bool.not_false]
          refine ⟨some (.sh (.int i)), ?_⟩
          have : coStep k (pr.foldl (coStep k) B) i = pr.foldl (coStep k) B := if_neg (by rw [q]; decide)
          rw [List.foldl_append, List.foldl_cons, List.foldl_nil, this]
      · rintro e ⟨o6, rfl⟩
        simp -implicitDefEqProofs only [DL.evB, DL.evN, beq_self_eq_true, DL.no6_look_two, DL.no6_at_most, DL.no6_join, DL.no6_meet, DL.no6_lowest, DL.no6_highest, DL.no3_look_order, not_false_eq_true, and_self, true_and, and_true, reduceIte, Bool.false_eq_true, List.length_map, List.length_range, List.length_append, List.getElem?_cons_zero, List.getElem?_cons_succ, List.set_cons_zero, List.set_cons_succ, fzE, wipeE, Option.bind_some, Option.map_some, List.length_cons, List.length_nil, cond_true, cond_false, Nat.reduceAdd, Nat.reduceLeDiff, Nat.zero_add, if_true, if_false, eq_self, bOne, Nat.reduceLT, Nat.reduceEqDiff, List.map_cons, List.map_nil, List.cons_append, List.nil_append, List.replicate, Nat.reduceSub, decide_true, decide_false, Bool.not_true, Bool.not_false]
        refine ⟨some (.sh (.int k)), o6, ?_⟩
        rw [List.foldl_append, hB]
        rfl
    · rintro e ⟨o5, o6, rfl⟩
      simp -implicitDefEqProofs only [DL.evB, DL.evN, beq_self_eq_true, DL.no6_look_two, DL.no6_at_most, DL.no6_join, DL.no6_meet, DL.no6_lowest, DL.no6_highest, DL.no3_look_order, not_false_eq_true, and_self, true_and, and_true, reduceIte, Bool.false_eq_true, List.length_map, List.length_range, List.length_append, List.getElem?_cons_zero, List.getElem?_cons_succ, List.set_cons_zero, List.set_cons_succ, fzE, wipeE, Option.bind_some, Option.map_some, List.length_cons, List.length_nil, cond_true, cond_false, Nat.reduceAdd, Nat.reduceLeDiff, Nat.zero_add, if_true, if_false, eq_self, bOne, Nat.reduceLT, Nat.reduceEqDiff, List.map_cons, List.map_nil, List.cons_append, List.nil_append, List.replicate, Nat.reduceSub, decide_true, decide_false, Bool.not_true, Bool.not_false]
      rw [← hA]
      rfl
def turnedN (n : Nat) (A : List Nat) : List Nat := (List.range n).map fun t => rowOf n fun o => rel A o t
theorem range_split {n : Nat} {pre post : List Nat} {x : Nat} (h : List.range n = pre ++ x :: post) : x = pre.length ∧ x < n := by
  have h1 : (List.range n)[pre.length]? = some x := by rw [h, List.getElem?_append_right (Nat.le_refl _), Nat.sub_self]; rfl
  obtain ⟨h2, h3⟩ := List.getElem?_eq_some_iff.mp h1
  rw [List.getElem_range] at h3
  rw [List.length_range] at h2
  omega
theorem turned_spec (n : Nat) (hn : n ≤ 24) (A : List Nat) (hA : A.length = n) : F_turned_bits [.int n, .lst (A.map nI)] = .ok (.fr (.ow ((turnedN n A).map nI))) := by
  refine fn_eq rfl ?_
  unfold f_turned_bits
  simp -implicitDefEqProofs only [DL.evB, DL.evN, beq_self_eq_true, DL.no6_look_two, DL.no6_at_most, DL.no6_join, DL.no6_meet, DL.no6_lowest, DL.no6_highest, DL.no3_look_order, not_false_eq_true, and_self, true_and, and_true, reduceIte, Bool.false_eq_true, List.length_map, List.length_range, List.length_append, List.getElem?_cons_zero, List.getElem?_cons_succ, List.set_cons_zero, List.set_cons_succ, fzE, wipeE, Option.bind_some, Option.map_some, List.length_cons, List.length_nil, cond_true, cond_false, Nat.reduceAdd, Nat.reduceLeDiff, Nat.zero_add, if_true, if_false, eq_self, bOne, Nat.reduceLT, Nat.reduceEqDiff, List.map_cons, List.map_nil, List.cons_append, List.nil_append, List.replicate, Nat.reduceSub, decide_true, decide_false, Bool.not_true, Bool.not_false]
  rw [comp_n (emb := nI) (xs := List.range n) (fun k => 0) (by simp -implicitDefEqProofs only [DL.evB, DL.evN, beq_self_eq_true, DL.no6_look_two, DL.no6_at_most, DL.no6_join, DL.no6_meet, DL.no6_lowest, DL.no6_highest, DL.no3_look_order, not_false_eq_true, and_self, true_and, and_true, reduceIte, Bool.false_eq_true, List.length_map, List.length_range, List.length_append, List.getElem?_cons_zero, List.getElem?_cons_succ, List.set_cons_zero, List.set_cons_succ, fzE, wipeE, Option.bind_some, Option.map_some, List.length_cons, List.length_nil, cond_true, cond_false, Nat.reduceAdd, Nat.reduceLeDiff, Nat.zero_add, if_true, if_false, eq_self, bOne, Nat.reduceLT, Nat.reduceEqDiff, List.map_cons, List.map_nil, List.cons_append, List.nil_append, List.replicate, Nat.reduceSub, decide_true, decide_false, Bool.not_true, Bool.not_false]; rw [rng1_nat (by omega)]) (by rw [List.length_range]; unfold lim; omega) (fun x hx => ⟨_, rfl, by simp -implicitDefEqProofs only [DL.evB, DL.evN, beq_self_eq_true, DL.no6_look_two, DL.no6_at_most, DL.no6_join, DL.no6_meet, DL.no6_lowest, DL.no6_highest, DL.no3_look_order, not_false_eq_true, and_self, true_and, and_true, reduceIte, Bool.false_eq_true, List.length_map, List.length_range, List.length_append, List.getElem?_cons_zero, List.getElem?_cons_succ, List.set_cons_zero, List.set_cons_succ, fzE, wipeE, Option.bind_some, Option.map_some, List.length_cons, List.length_nil, cond_true, cond_false, Nat.reduceAdd, Nat.reduceLeDiff, Nat.zero_add, if_true, if_false, eq_self, bOne, Nat.reduceLT, Nat.reduceEqDiff, List.map_cons, List.map_nil, List.cons_append, List.nil_append, List.replicate, Nat.reduceSub, decide_true, decide_false, Bool.not_true, Bool.not_false]⟩)]
  simp -implicitDefEqProofs only [DL.evB, DL.evN, beq_self_eq_true, DL.no6_look_two, DL.no6_at_most, DL.no6_join, DL.no6_meet, DL.no6_lowest, DL.no6_highest, DL.no3_look_order, not_false_eq_true, and_self, true_and, and_true, reduceIte, Bool.false_eq_true, List.length_map, List.length_range, List.length_append, List.getElem?_cons_zero, List.getElem?_cons_succ, List.set_cons_zero, List.set_cons_succ, fzE, wipeE, Option.bind_some, Option.map_some, List.length_cons, List.length_nil, cond_true, cond_false, Nat.reduceAdd, Nat.reduceLeDiff, Nat.zero_add, if_true, if_false, eq_self, bOne, Nat.reduceLT, Nat.reduceEqDiff, List.map_cons, List.map_nil, List.cons_append, List.nil_append, List.replicate, Nat.reduceSub, decide_true, decide_false, Bool.not_true, Bool.not_false]
  rw [rng1_nat (by omega)]
  simp -implicitDefEqProofs only [DL.evB, DL.evN, beq_self_eq_true, DL.no6_look_two, DL.no6_at_most, DL.no6_join, DL.no6_meet, DL.no6_lowest, DL.no6_highest, DL.no3_look_order, not_false_eq_true, and_self, true_and, and_true, reduceIte, Bool.false_eq_true, List.length_map, List.length_range, List.length_append, List.getElem?_cons_zero, List.getElem?_cons_succ, List.set_cons_zero, List.set_cons_succ, fzE, wipeE, Option.bind_some, Option.map_some, List.length_cons, List.length_nil, cond_true, cond_false, Nat.reduceAdd, Nat.reduceLeDiff, Nat.zero_add, if_true, if_false, eq_self, bOne, Nat.reduceLT, Nat.reduceEqDiff, List.map_cons, List.map_nil, List.cons_append, List.nil_append, List.replicate, Nat.reduceSub, decide_true, decide_false, Bool.not_true, Bool.not_false]
  refine wp_forL (fun pre e => ∃ (U : List Nat) (o3 o4 : Option L), U.length = n ∧ (∀ i j, rel U i j = (decide (i < pre.length) && (decide (j < n) && rel A j i))) ∧ e = [some (.sh (.int n)), some (.sh (.lst (A.map nI))), some (.ow (U.map nI)), o3, o4]) ⟨(List.range n).map fun _ => 0, _, _, by simp, fun i j => ?_, rfl⟩ ?_ ?_
  · unfold rel
    rw [List.getD_eq_getElem?_getD, List.getElem?_map]
    cases (List.range n)[i]? <;> simp
  · rintro pre t post e hx ⟨U, o3, o4, hU, hr, rfl⟩
    obtain ⟨et, ht⟩ := range_split hx
    refine ⟨_, rfl, ?_⟩
    simp -implicitDefEqProofs only [DL.evB, DL.evN, beq_self_eq_true, DL.no6_look_two, DL.no6_at_most, DL.no6_join, DL.no6_meet, DL.no6_lowest, DL.no6_highest, DL.no3_look_order, not_false_eq_true, and_self, true_and, and_true, reduceIte, Bool.false_eq_true, List.length_map, List.length_range, List.length_append, List.getElem?_cons_zero, List.getElem?_cons_succ, List.set_cons_zero, List.set_cons_succ, fzE, wipeE, Option.bind_some, Option.map_some, List.length_cons, List.length_nil, cond_true, cond_false, Nat.reduceAdd, Nat.reduceLeDiff, Nat.zero_add, if_true, if_false, eq_self, bOne, Nat.reduceLT, Nat.reduceEqDiff, List.map_cons, List.map_nil, List.cons_append, List.nil_append, List.replicate, Nat.reduceSub, decide_true, decide_false, Bool.not_true, Bool.not_false]
    rw [rng1_nat (by omega)]
    simp -implicitDefEqProofs only [DL.evB, DL.evN, beq_self_eq_true, DL.no6_look_two, DL.no6_at_most, DL.no6_join, DL.no6_meet, DL.no6_lowest, DL.no6_highest, DL.no3_look_order, not_false_eq_true, and_self, true_and, and_true, reduceIte, Bool.false_eq_true, List.length_map, List.length_range, List.length_append, List.getElem?_cons_zero, List.getElem?_cons_succ, List.set_cons_zero, List.set_cons_succ, fzE, wipeE, Option.bind_some, Option.map_some, List.length_cons, List.length_nil, cond_true, cond_false, Nat.reduceAdd, Nat.reduceLeDiff, Nat.zero_add, if_true, if_false, eq_self, bOne, Nat.reduceLT, Nat.reduceEqDiff, List.map_cons, List.map_nil, List.cons_append, List.nil_append, List.replicate, Nat.reduceSub, decide_true, decide_false, Bool.not_true, Bool.not_false]
    refine wp_forL (fun pr e => ∃ (V : List Nat) (o4 : Option L), V.length = n ∧ (∀ i j, rel V i j = (rel U i j || (decide (i = t) && (decide (j < pr.length) && rel A j t)))) ∧ e = [some (.sh (.int n)), some (.sh (.lst (A.map nI))), some (.ow (V.map nI)), some (.sh (.int t)), o4]) ⟨U, _, hU, by simp, rfl⟩ ?_ ?_
    · rintro pr o po e hx2 ⟨V, o4, hV, hv, rfl⟩
      obtain ⟨eo, ho⟩ := range_split hx2
      refine ⟨_, rfl, ?_⟩
      have eA := ixN_lst (xs := A) (k := o) (by omega)
      have eV := ixN_lst (xs := V) (k := t) (by omega)
      simp -implicitDefEqProofs only [DL.evB, DL.evN, beq_self_eq_true, DL.no6_look_two, DL.no6_at_most, DL.no6_join, DL.no6_meet, DL.no6_lowest, DL.no6_highest, DL.no3_look_order, not_false_eq_true, and_self, true_and, and_true, reduceIte, Bool.false_eq_true, List.length_map, List.length_range, List.length_append, List.getElem?_cons_zero, List.getElem?_cons_succ, List.set_cons_zero, List.set_cons_succ, fzE, wipeE, Option.bind_some, Option.map_some, List.length_cons, List.length_nil, cond_true, cond_false, Nat.reduceAdd, Nat.reduceLeDiff, Nat.zero_add, if_true, if_false, eq_self, bOne, Nat.reduceLT, Nat.reduceEqDiff, List.map_cons, List.map_nil, List.cons_append, List.nil_append, List.replicate, Nat.reduceSub, decide_true, decide_false, Bool.not_true, Bool.not_false, eA, tb_dec]
      refine wp_ifB (fun q => ?_) fun q => ?_
      · simp -implicitDefEqProofs only [DL.evB, DL.evN, beq_self_eq_true, DL.no6_look_two, DL.no6_at_most, DL.no6_join, DL.no6_meet, DL.no6_lowest, DL.no6_highest, DL.no3_look_order, not_false_eq_true, and_self, true_and, and_true, reduceIte, Bool.false_eq_true, List.length_map, List.length_range, List.length_append, List.getElem?_cons_zero, List.getElem?_cons_succ, List.set_cons_zero, List.set_cons_succ, fzE, wipeE, Option.bind_some, Option.map_some, List.length_cons, List.length_nil, cond_true, cond_false, Nat.reduceAdd, Nat.reduceLeDiff, Nat.zero_add, if_true, if_false, eq_self, bOne, Nat.reduceLT, Nat.reduceEqDiff, List.map_cons, List.map_nil, List.cons_append, List.nil_append, List.replicate, Nat.reduceSub, decide_true, decide_false, Bool.not_true, Bool.not_false, eV, shl1_nat (b := o) (by omega)]
        rw [putLB_ok (n := 0) (by rw [List.length_map, hV]; exact ht), set_nIs]
        simp -implicitDefEqProofs only [DL.evB, DL.evN, beq_self_eq_true, DL.no6_look_two, DL.no6_at_most, DL.no6_join, DL.no6_meet, DL.no6_lowest, DL.no6_highest, DL.no3_look_order, not_false_eq_true, and_self, true_and, and_true, reduceIte, Bool.false_eq_true, List.length_map, List.length_range, List.length_append, List.getElem?_cons_zero, List.getElem?_cons_succ, List.set_cons_zero, List.set_cons_succ, fzE, wipeE, Option.bind_some, Option.map_some, List.length_cons, List.length_nil, cond_true, cond_false, Nat.reduceAdd, Nat.reduceLeDiff, Nat.zero_add, if_true, if_false, eq_self, bOne, Nat.reduceLT, Nat.reduceEqDiff, List.map_cons, List.map_nil, List.cons_append, List.nil_append, List.replicate, Nat.reduceSub, decide_true, decide_false, Bool.not_true, Bool.not_false]
        refine ⟨_, _, by simp [hV], fun i j => ?_, rfl⟩
        have q : rel A o t = true := q
        rw [rel_set (by omega), hv, testBit_shl1, Bool.or_assoc]
        congr 1
        by_cases hi : i = t
        · rw [decide_eq_true hi, Bool.true_and, Bool.true_and, Bool.true_and]
          by_cases hj : j = o
          · subst hj
            rw [q, eo]; simp
          · have e1 : decide (o = j) = false := decide_eq_false (Ne.symm hj)
            have e2 : decide (j < pr.length + 1) = decide (j < pr.length) := decide_eq_decide.mpr (by omega)
            rw [e1, e2, Bool.or_false]
        · simp [hi]
      · simp -implicitDefEqProofs only [DL.evB, DL.evN, beq_self_eq_true, DL.no6_look_two, DL.no6_at_most, DL.no6_join, DL.no6_meet, DL.no6_lowest, DL.no6_highest, DL.no3_look_order, not_false_eq_true, and_self, true_and, and_true, reduceIte, Bool.false_eq_true, List.length_map, List.length_range, List.length_append, List.getElem?_cons_zero, List.getElem?_cons_succ, List.set_cons_zero, List.set_cons_succ, fzE, wipeE, Option.bind_some, Option.map_some, List.length_cons, List.length_nil, cond_true, cond_false, Nat.reduceAdd, Nat.reduceLeDiff, Nat.zero_add, if_true, if_false, eq_self, bOne, Nat.reduceLT, Nat.reduceEqDiff, List.map_cons, List.map_nil, List.cons_append, List.nil_append, List.replicate, Nat.reduceSub, decide_true, decide_false, Bool.not_true, Bool.not_false]
        refine ⟨V, _, hV, fun i j => ?_, rfl⟩
        have q : rel A o t = false := q
        rw [hv]
        congr 2
        by_cases hj : j = o
        · subst hj
          rw [q]; simp
        · have e2 : decide (j < pr.length + 1) = decide (j < pr.length) := decide_eq_decide.mpr (by omega)
          rw [e2]
    · rintro e ⟨V, o4, hV, hv, rfl⟩
      simp -implicitDefEqProofs only [DL.evB, DL.evN, beq_self_eq_true, DL.no6_look_two, DL.no6_at_most, DL.no6_join, DL.no6_meet, DL.no6_lowest, DL.no6_highest, DL.no3_look_order, not_false_eq_true, and_self, true_and, and_true, reduceIte, Bool.false_eq_true, List.length_map, List.length_range, List.length_append, List.getElem?_cons_zero, List.getElem?_cons_succ, List.set_cons_zero, List.set_cons_succ, fzE, wipeE, Option.bind_some, Option.map_some, List.length_cons, List.length_nil, cond_true, cond_false, Nat.reduceAdd, Nat.reduceLeDiff, Nat.zero_add, if_true, if_false, eq_self, bOne, Nat.reduceLT, Nat.reduceEqDiff, List.map_cons, List.map_nil, List.cons_append, List.nil_append, List.replicate, Nat.reduceSub, decide_true, decide_false, Bool.not_true, Bool.not_false]
      refine ⟨V, _, _, hV, fun i j => ?_, rfl⟩
      rw [hv, hr]
      by_cases hi : i = t
      · subst hi
        rw [et]; simp
      · have e2 : decide (i < pre.length + 1) = decide (i < pre.length) := decide_eq_decide.mpr (by omega)
        rw [e2]; simp [hi]
  · rintro e ⟨U, o3, o4, hU, hr, rfl⟩
    simp -implicitDefEqProofs only [DL.evB, DL.evN, beq_self_eq_true, DL.no6_look_two, DL.no6_at_most, DL.no6_join, DL.no6_meet, DL.no6_lowest, DL.no6_highest, DL.no3_look_order, not_false_eq_true, and_self, true_and, and_true, reduceIte, Bool.false_eq_true, List.length_map, List.length_range, List.length_append, List.getElem?_cons_zero, List.getElem?_cons_succ, List.set_cons_zero, List.set_cons_succ, fzE, wipeE, Option.bind_some, Option.map_some, List.length_cons, List.length_nil, cond_true, cond_false, Nat.reduceAdd, Nat.reduceLeDiff, Nat.zero_add, if_true, if_false, eq_self, bOne, Nat.reduceLT, Nat.reduceEqDiff, List.map_cons, List.map_nil, List.cons_append, List.nil_append, List.replicate, Nat.reduceSub, decide_true, decide_false, Bool.not_true, Bool.not_false]
    have : U = turnedN n A := rows_ext hU fun i j hi => by
      rw [hr]; simp [hi]
    rw [this]
theorem least_spec (n s : Nat) (hn : n ≤ 24) (A : List Nat) (hA : A.length = n) : F_least_of [.int n, .int s, .lst (A.map nI)] = .ok (.sh (match (List.range n).find? (fun t => s.testBit t && decide (A.getD t 0 &&& s = s)) with | some t => .int (t : Nat) | none => .non)) := by
  refine fn_eq rfl ?_
  unfold f_least_of
  simp -implicitDefEqProofs only [DL.evB, DL.evN, beq_self_eq_true, DL.no6_look_two, DL.no6_at_most, DL.no6_join, DL.no6_meet, DL.no6_lowest, DL.no6_highest, DL.no3_look_order, not_false_eq_true, and_self, true_and, and_true, reduceIte, Bool.false_eq_true, List.length_map, List.length_range, List.length_append, List.getElem?_cons_zero, List.getElem?_cons_succ, List.set_cons_zero, List.set_cons_succ, fzE, wipeE, Option.bind_some, Option.map_some, List.length_cons, List.length_nil, cond_true, cond_false, Nat.reduceAdd, Nat.reduceLeDiff, Nat.zero_add, if_true, if_false, eq_self, bOne, Nat.reduceLT, Nat.reduceEqDiff, List.map_cons, List.map_nil, List.cons_append, List.nil_append, List.replicate, Nat.reduceSub, decide_true, decide_false, Bool.not_true, Bool.not_false]
  rw [rng1_nat (by omega)]
  simp -implicitDefEqProofs only [DL.evB, DL.evN, beq_self_eq_true, DL.no6_look_two, DL.no6_at_most, DL.no6_join, DL.no6_meet, DL.no6_lowest, DL.no6_highest, DL.no3_look_order, not_false_eq_true, and_self, true_and, and_true, reduceIte, Bool.false_eq_true, List.length_map, List.length_range, List.length_append, List.getElem?_cons_zero, List.getElem?_cons_succ, List.set_cons_zero, List.set_cons_succ, fzE, wipeE, Option.bind_some, Option.map_some, List.length_cons, List.length_nil, cond_true, cond_false, Nat.reduceAdd, Nat.reduceLeDiff, Nat.zero_add, if_true, if_false, eq_self, bOne, Nat.reduceLT, Nat.reduceEqDiff, List.map_cons, List.map_nil, List.cons_append, List.nil_append, List.replicate, Nat.reduceSub, decide_true, decide_false, Bool.not_true, Bool.not_false]
  refine wp_forL (fun pre e => ∃ o, (∀ t ∈ pre, (s.testBit t && decide (A.getD t 0 &&& s = s)) = false) ∧ e = [some (.sh (.int n)), some (.sh (.int s)), some (.sh (.lst (A.map nI))), o]) ⟨_, by simp, rfl⟩ ?_ ?_
  · rintro pre t post e hx ⟨o, hp, rfl⟩
    obtain ⟨et, ht⟩ := range_split hx
    refine ⟨_, rfl, ?_⟩
    have eA := ixN_lst (xs := A) (k := t) (by omega)
    simp -implicitDefEqProofs only [DL.evB, DL.evN, beq_self_eq_true, DL.no6_look_two, DL.no6_at_most, DL.no6_join, DL.no6_meet, DL.no6_lowest, DL.no6_highest, DL.no3_look_order, not_false_eq_true, and_self, true_and, and_true, reduceIte, Bool.false_eq_true, List.length_map, List.length_range, List.length_append, List.getElem?_cons_zero, List.getElem?_cons_succ, List.set_cons_zero, List.set_cons_succ, fzE, wipeE, Option.bind_some, Option.map_some, List.length_cons, List.length_nil, cond_true, cond_false, Nat.reduceAdd, Nat.reduceLeDiff, Nat.zero_add, if_true, if_false, eq_self, bOne, Nat.reduceLT, Nat.reduceEqDiff, List.map_cons, List.map_nil, List.cons_append, List.nil_append, List.replicate, Nat.reduceSub, decide_true, decide_false, Bool.not_true, Bool.not_false, eA, tb_dec]
    refine wp_ifB (fun q => ?_) fun q => ?_
    · simp -implicitDefEqProofs only [DL.evB, DL.evN, beq_self_eq_true, DL.no6_look_two, DL.no6_at_most, DL.no6_join, DL.no6_meet, DL.no6_lowest, DL.no6_highest, DL.no3_look_order, not_false_eq_true, and_self, true_and, and_true, reduceIte, Bool.false_eq_true, List.length_map, List.length_range, List.length_append, List.getElem?_cons_zero, List.getElem?_cons_succ, List.set_cons_zero, List.set_cons_succ, fzE, wipeE, Option.bind_some, Option.map_some, List.length_cons, List.length_nil, cond_true, cond_false, Nat.reduceAdd, Nat.reduceLeDiff, Nat.zero_add, if_true, if_false, eq_self, bOne, Nat.reduceLT, Nat.reduceEqDiff, List.map_cons, List.map_nil, List.cons_append, List.nil_append, List.replicate, Nat.reduceSub, decide_true, decide_false, Bool.not_true, Bool.not_false]
      have : (List.range n).find? (fun t => s.testBit t && decide (A.getD t 0 &&& s = s)) = some t := by
        rw [hx, List.find?_append, List.find?_eq_none.mpr (fun y hy => by rw [hp y hy]; decide), Option.none_or, List.find?_cons_of_pos (p := fun t => s.testBit t && decide (A.getD t 0 &&& s = s)) q]
      rw [this]
    · simp -implicitDefEqProofs only [DL.evB, DL.evN, beq_self_eq_true, DL.no6_look_two, DL.no6_at_most, DL.no6_join, DL.no6_meet, DL.no6_lowest, DL.no6_highest, DL.no3_look_order, not_false_eq_true, and_self, true_and, and_true, reduceIte, Bool.false_eq_true, List.length_map, List.length_range, List.length_append, List.getElem?_cons_zero, List.getElem?_cons_succ, List.set_cons_zero, List.set_cons_succ, fzE, wipeE, Option.bind_some, Option.map_some, List.length_cons, List.length_nil, cond_true, cond_false, Nat.reduceAdd, Nat.reduceLeDiff, Nat.zero_add, if_true, if_false, eq_self, bOne, Nat.reduceLT, Nat.reduceEqDiff, List.map_cons, List.map_nil, List.cons_append, List.nil_append, List.replicate, Nat.reduceSub, decide_true, decide_false, Bool.not_true, Bool.not_false]
      refine ⟨_, fun y hy => ?_, rfl⟩
      rcases List.mem_append.mp hy with h | h
      · exact hp y h
      · rw [List.mem_singleton.mp h]; exact q
  · rintro e ⟨o, hp, rfl⟩
    simp -implicitDefEqProofs only [DL.evB, DL.evN, beq_self_eq_true, DL.no6_look_two, DL.no6_at_most, DL.no6_join, DL.no6_meet, DL.no6_lowest, DL.no6_highest, DL.no3_look_order, not_false_eq_true, and_self, true_and, and_true, reduceIte, Bool.false_eq_true, List.length_map, List.length_range, List.length_append, List.getElem?_cons_zero, List.getElem?_cons_succ, List.set_cons_zero, List.set_cons_succ, fzE, wipeE, Option.bind_some, Option.map_some, List.length_cons, List.length_nil, cond_true, cond_false, Nat.reduceAdd, Nat.reduceLeDiff, Nat.zero_add, if_true, if_false, eq_self, bOne, Nat.reduceLT, Nat.reduceEqDiff, List.map_cons, List.map_nil, List.cons_append, List.nil_append, List.replicate, Nat.reduceSub, decide_true, decide_false, Bool.not_true, Bool.not_false]
    have : (List.range n).find? (fun t => s.testBit t && decide (A.getD t 0 &&& s = s)) = none := List.find?_eq_none.mpr fun y hy => by rw [hp y hy]; decide
    rw [this]
end Ev

/-! Xe: rows of bits of an order. -/
namespace Ev
def rowsA (n : Nat) (le : Nat → Nat → Bool) : List Nat := (List.range n).map fun a => rowOf n (le a)
def rowsU (n : Nat) (le : Nat → Nat → Bool) : List Nat := (List.range n).map fun a => rowOf n fun b => le b a
def below (n : Nat) (le : Nat → Nat → Bool) : List (Nat × Nat) := (List.range n).flatMap fun a => ((List.range n).filter fun b => !decide (a = b) && le a b).map fun b => (a, b)
theorem rowsA_length {n : Nat} {le : Nat → Nat → Bool} : (rowsA n le).length = n := by simp [rowsA]
theorem rowsU_length {n : Nat} {le : Nat → Nat → Bool} : (rowsU n le).length = n := by simp [rowsU]
theorem rowsA_get {n a : Nat} {le : Nat → Nat → Bool} (h : a < n) : (rowsA n le).getD a 0 = rowOf n (le a) := by
  unfold rowsA
  rw [List.getD_eq_getElem?_getD, List.getElem?_map, List.getElem?_range h]; rfl
theorem rowsU_get {n a : Nat} {le : Nat → Nat → Bool} (h : a < n) : (rowsU n le).getD a 0 = rowOf n (fun b => le b a) := by
  unfold rowsU
  rw [List.getD_eq_getElem?_getD, List.getElem?_map, List.getElem?_range h]; rfl
theorem testA {n a b : Nat} {le : Nat → Nat → Bool} (ha : a < n) (hb : b < n) : ((rowsA n le).getD a 0).testBit b = le a b := by
  rw [rowsA_get ha, testBit_rowOf, decide_eq_true hb, Bool.true_and]
/-- the step's own test -/
theorem mask_cov {n a b : Nat} {le : Nat → Nat → Bool} (P : Pos n le) (ha : a < n) (hb : b < n) (hab : a ≠ b) : decide ((rowsA n le).getD a 0 &&& (rowsU n le).getD b 0 = 1 <<< a ||| 1 <<< b) = cov n le a b := by
  rw [rowsA_get ha, rowsU_get hb, Bool.eq_iff_iff, decide_eq_true_iff, cov_iff]
  have tb : ∀ i, (rowOf n (le a) &&& rowOf n (fun c => le c b)).testBit i = (decide (i < n) && (le a i && le i b)) := by
    intro i
    rw [Nat.testBit_and, testBit_rowOf, testBit_rowOf]
    cases decide (i < n) <;> simp
  have tr : ∀ i, (1 <<< a ||| 1 <<< b).testBit i = (decide (a = i) || decide (b = i)) := by
    intro i; rw [Nat.testBit_or, testBit_shl1, testBit_shl1]
  constructor
  · intro h
    have key : ∀ i, (decide (i < n) && (le a i && le i b)) = (decide (a = i) || decide (b = i)) := fun i => by rw [← tb, ← tr, h]
    have ka := key a
    rw [decide_eq_true ha, decide_eq_true rfl, Bool.true_or, Bool.true_and, Bool.and_eq_true] at ka
    refine ⟨ka.2, hab, fun c hc h1 h2 => ?_⟩
    have kc := key c
    rw [decide_eq_true hc, h1, h2] at kc
    simp only [Bool.and_self, Bool.true_eq, Bool.or_eq_true, decide_eq_true_eq] at kc
    omega
  · rintro ⟨h1, _, h3⟩
    apply Nat.eq_of_testBit_eq
    intro i
    rw [tb, tr, Bool.eq_iff_iff]
    simp only [Bool.and_eq_true, decide_eq_true_eq, Bool.or_eq_true]
    constructor
    · rintro ⟨hi, x, y⟩
      rcases h3 i hi x y with e | e
      · exact .inl e.symm
      · exact .inr e.symm
    · rintro (rfl | rfl)
      · exact ⟨ha, P.rf ha, h1⟩
      · exact ⟨hb, h1, P.rf hb⟩
/-- the least thing that two are at most, as it is looked for -/
theorem find_one {n : Nat} {p : Nat → Bool} {t : Nat} (ht : t < n) (hp : p t = true) (h : ∀ x, x < n → p x = true → x = t) : (List.range n).find? p = some t := by
  cases q : (List.range n).find? p with
  | none => exact absurd hp (by simpa using List.find?_eq_none.mp q t (List.mem_range.mpr ht))
  | some x =>
    have h1 := List.find?_some q
    have h2 := List.mem_range.mp (List.mem_of_find?_eq_some q)
    rw [h x h2 h1]
theorem find_jn {n : Nat} {le : Nat → Nat → Bool} {jn mt : Nat → Nat → Nat} (L : Lat n le jn mt) {u v : Nat} (hu : u < n) (hv : v < n) :
    (List.range n).find? (fun t => ((rowsA n le).getD u 0 &&& (rowsA n le).getD v 0).testBit t && decide ((rowsA n le).getD t 0 &&& ((rowsA n le).getD u 0 &&& (rowsA n le).getD v 0) = (rowsA n le).getD u 0 &&& (rowsA n le).getD v 0)) = some (jn u v) := by
  have e : ∀ t, t < n → ((((rowsA n le).getD u 0 &&& (rowsA n le).getD v 0).testBit t && decide ((rowsA n le).getD t 0 &&& ((rowsA n le).getD u 0 &&& (rowsA n le).getD v 0) = (rowsA n le).getD u 0 &&& (rowsA n le).getD v 0)) = true ↔ le u t = true ∧ le v t = true ∧ ∀ c, c < n → le u c = true → le v c = true → le t c = true) := by
    intro t ht
    rw [Bool.and_eq_true, decide_eq_true_iff, Nat.testBit_and, testA hu ht, testA hv ht, Bool.and_eq_true, Nat.and_comm, and_sub_testBit, and_assoc]
    refine and_congr_right fun _ => and_congr_right fun _ => ?_
    constructor
    · intro h c hc h1 h2
      have := h c (by rw [Nat.testBit_and, testA hu hc, testA hv hc, h1, h2]; rfl)
      rwa [testA ht hc] at this
    · intro h i hi
      rw [rowsA_get hu, rowsA_get hv, Nat.testBit_and, testBit_rowOf, testBit_rowOf] at hi
      simp only [Bool.and_eq_true, decide_eq_true_eq] at hi
      rw [testA ht hi.1.1]
      exact h i hi.1.1 hi.1.2 hi.2.2
  refine find_one (L.jlt hu hv) ((e _ (L.jlt hu hv)).mpr ⟨L.jl hu hv, L.jr hu hv, fun c _ h1 h2 => L.jm h1 h2⟩) fun x hx hp => ?_
  obtain ⟨h1, h2, h3⟩ := (e x hx).mp hp
  exact L.anti (h3 _ (L.jlt hu hv) (L.jl hu hv) (L.jr hu hv)) (L.jm h1 h2)
theorem Lat.dual {n : Nat} {le : Nat → Nat → Bool} {jn mt : Nat → Nat → Nat} (L : Lat n le jn mt) : Lat n (fun a b => le b a) mt jn :=
  { pos := L.pos, n24 := L.n24, lt := fun h => (L.lt h).symm, rf := L.rf, anti := fun h1 h2 => L.anti h2 h1, tr := fun h1 h2 => L.tr h2 h1, jlt := L.mlt, mlt := L.jlt, jl := L.ml, jr := L.mr, jm := L.mm, ml := L.jl, mr := L.jr, mm := L.jm }
theorem find_mt {n : Nat} {le : Nat → Nat → Bool} {jn mt : Nat → Nat → Nat} (L : Lat n le jn mt) {u v : Nat} (hu : u < n) (hv : v < n) :
    (List.range n).find? (fun t => ((rowsU n le).getD u 0 &&& (rowsU n le).getD v 0).testBit t && decide ((rowsU n le).getD t 0 &&& ((rowsU n le).getD u 0 &&& (rowsU n le).getD v 0) = (rowsU n le).getD u 0 &&& (rowsU n le).getD v 0)) = some (mt u v) := find_jn L.dual hu hv
theorem Lat.jn_comm {n : Nat} {le : Nat → Nat → Bool} {jn mt : Nat → Nat → Nat} (L : Lat n le jn mt) {a b : Nat} (ha : a < n) (hb : b < n) : jn a b = jn b a :=
  L.anti (L.jm (L.jr hb ha) (L.jl hb ha)) (L.jm (L.jr ha hb) (L.jl ha hb))
theorem Lat.mt_comm {n : Nat} {le : Nat → Nat → Bool} {jn mt : Nat → Nat → Nat} (L : Lat n le jn mt) {a b : Nat} (ha : a < n) (hb : b < n) : mt a b = mt b a := L.dual.jn_comm ha hb
end Ev

/-! SP2: how an Order is made, the second part. -/
namespace Ev
open PySem PySem.Spec L2 DL
def kk (a b : Nat) : List Key := [.inl (a : Int), .inl (b : Int)]
theorem kk_inj {a b c d : Nat} : kk a b = kk c d ↔ a = c ∧ b = d := by
  unfold kk
  constructor
  · intro h
    injection h with h1 h; injection h with h2 h; injection h1 with h1; injection h2 with h2
    omega
  · rintro ⟨rfl, rfl⟩; rfl
theorem lk_put {ks : List (List Key)} {vs : List D} {q q' : List Key} {e : D} (hl : ks.length = vs.length) : lk (pkK ks q) (pkV ks vs q e) q' = if q' = q then some e else lk ks vs q' := by
  induction ks generalizing vs with
  | nil =>
    have : vs = [] := List.length_eq_zero_iff.mp hl.symm
    subst this
    show (if q = q' then some e else lk [] [] q') = _
    by_cases h : q' = q
    · rw [if_pos h.symm, if_pos h]
    · rw [if_neg (fun z => h z.symm), if_neg h]
  | cons k ks ih =>
    cases vs with
    | nil => cases hl
    | cons v vs =>
      have hl' : ks.length = vs.length := by simpa using hl
      have ih := ih hl'
      unfold pkK at ih ⊢
      by_cases hk : k = q
      · subst hk
        rw [if_pos List.mem_cons_self]
        show lk (k :: ks) (if k = k then e :: vs else v :: pkV ks vs k e) q' = _
        rw [if_pos rfl]
        show (if k = q' then some e else lk ks vs q') = if q' = k then some e else (if k = q' then some v else lk ks vs q')
        by_cases h : q' = k
        · rw [if_pos h.symm, if_pos h]
        · rw [if_neg (fun z => h z.symm), if_neg h, if_neg (fun z => h z.symm)]
      · by_cases hm : q ∈ ks
        · rw [if_pos hm] at ih
          rw [if_pos (List.mem_cons_of_mem _ hm)]
          show lk (k :: ks) (if k = q then e :: vs else v :: pkV ks vs q e) q' = _
          rw [if_neg hk]
          show (if k = q' then some v else lk ks (pkV ks vs q e) q') = if q' = q then some e else (if k = q' then some v else lk ks vs q')
          rw [ih]
          by_cases h : k = q'
          · subst h; rw [if_pos rfl, if_neg hk, if_pos rfl]
          · rw [if_neg h, if_neg h]
        · rw [if_neg hm] at ih
          rw [if_neg (by rw [List.mem_cons, not_or]; exact ⟨fun z => hk z.symm, hm⟩)]
          show lk (k :: (ks ++ [q])) (if k = q then e :: vs else v :: pkV ks vs q e) q' = _
          rw [if_neg hk]
          show (if k = q' then some v else lk (ks ++ [q]) (pkV ks vs q e) q') = if q' = q then some e else (if k = q' then some v else lk ks vs q')
          rw [ih]
          by_cases h : k = q'
          · subst h; rw [if_pos rfl, if_neg hk, if_pos rfl]
          · rw [if_neg h, if_neg h]
theorem pk_len {ks : List (List Key)} {vs : List D} {q : List Key} {e : D} (hl : ks.length = vs.length) : (pkK ks q).length = (pkV ks vs q e).length ∧ (pkK ks q).length ≤ ks.length + 1 := by
  induction ks generalizing vs with
  | nil =>
    have : vs = [] := List.length_eq_zero_iff.mp hl.symm
    subst this; exact ⟨rfl, Nat.le_refl _⟩
  | cons k ks ih =>
    cases vs with
    | nil => cases hl
    | cons v vs =>
      have hl' : ks.length = vs.length := by simpa using hl
      obtain ⟨i1, i2⟩ := ih hl'
      unfold pkK at i1 i2 ⊢
      by_cases hk : k = q
      · subst hk
        rw [if_pos List.mem_cons_self]
        show (k :: ks).length = (if k = k then e :: vs else v :: pkV ks vs k e).length ∧ _
        rw [if_pos rfl]; simp [hl']
      · by_cases hm : q ∈ ks
        · rw [if_pos hm] at i1 i2
          rw [if_pos (List.mem_cons_of_mem _ hm)]
          show (k :: ks).length = (if k = q then e :: vs else v :: pkV ks vs q e).length ∧ _
          rw [if_neg hk]; simp [i1]
        · rw [if_neg hm] at i1 i2
          rw [if_neg (by rw [List.mem_cons, not_or]; exact ⟨fun z => hk z.symm, hm⟩)]
          show (k :: (ks ++ [q])).length = (if k = q then e :: vs else v :: pkV ks vs q e).length ∧ _
          rw [if_neg hk]; simp at i1 ⊢; exact i1
theorem pk_nd {ks : List (List Key)} {q : List Key} (h : ks.Nodup) : (pkK ks q).Nodup := by
  unfold pkK
  split
  · exact h
  · rw [List.nodup_append]
    refine ⟨h, by simp, fun a ha b hb e => ?_⟩
    rw [List.mem_singleton] at hb
    subst hb; subst e; contradiction
theorem pkV_int {ks : List (List Key)} {is : List Int} {q : List Key} {i : Int} : ∃ is' : List Int, pkV ks (is.map D.int) q (.int i) = is'.map D.int := by
  induction ks generalizing is with
  | nil => exact ⟨[i], by cases is <;> rfl⟩
  | cons k ks ih =>
    cases is with
    | nil => exact ⟨[i], rfl⟩
    | cons j is =>
      obtain ⟨is', e⟩ := ih (is := is)
      by_cases hk : k = q
      · exact ⟨i :: is, by show (if k = q then D.int i :: is.map D.int else _) = _; rw [if_pos hk]; rfl⟩
      · exact ⟨j :: is', by show (if k = q then _ else D.int j :: pkV ks (is.map D.int) q (.int i)) = _; rw [if_neg hk, e]; rfl⟩
theorem ints_map (is : List Int) : D.ints (is.map D.int) = some is := by
  induction is with
  | nil => rfl
  | cons i is ih => simp only [List.map_cons, D.ints, ih, Option.map_some]
/-- a dict of pairs that is being filled: what is known of it -/
structure Dk (ks : List (List Key)) (is : List Int) (f : Nat → Nat → Nat) (S : List (Nat × Nat)) : Prop where
  nd : ks.Nodup
  len : ks.length = is.length
  sz : ks.length ≤ S.length
  at_ : ∀ p ∈ S, lk ks (is.map D.int) (kk p.1 p.2) = some (.int (f p.1 p.2 : Nat))
theorem Dk.put {ks : List (List Key)} {is : List Int} {f : Nat → Nat → Nat} {S : List (Nat × Nat)} (h : Dk ks is f S) (u v w : Nat) (e : f u v = w) : ∃ is' : List Int, pkV ks (is.map D.int) (kk u v) (.int (w : Int)) = is'.map D.int ∧ Dk (pkK ks (kk u v)) is' f ((u, v) :: S) := by
  obtain ⟨is', hi⟩ := pkV_int (ks := ks) (is := is) (q := kk u v) (i := (w : Int))
  have hl : ks.length = (is.map D.int).length := by rw [List.length_map]; exact h.len
  have hp := pk_len (q := kk u v) (e := D.int (w : Int)) hl
  refine ⟨is', hi, pk_nd h.nd, ?_, ?_, fun p hp' => ?_⟩
  · rw [hp.1, hi, List.length_map]
  · have := h.sz; have := hp.2; simp; omega
  · rw [← hi, lk_put hl]
    by_cases q : kk p.1 p.2 = kk u v
    · rw [if_pos q]
      obtain ⟨a, b⟩ := kk_inj.mp q
      rw [a, b, e]
    · rw [if_neg q]
      rcases List.mem_cons.mp hp' with rfl | hp'
      · exact absurd rfl q
      · exact h.at_ p hp'
theorem st_putP {p : Post} {ks : List (Ev → SO)} {env : Ev} {j t : Nat} {fo fi fe : Ev → O R} {d : D} {ro ri : R} {kys : List (List Key)} {vs : List D} {k : List Key} (h1 : (fe env).bind R.fz = .ok d) (h2 : fo env = .ok ro) (h2' : ro.d = .at t) (h3 : env[j]? = some (some (.oP t kys vs))) (h4 : fi env = .ok ri) (h4' : ri.d.tkey = some k) (nd : kys.Nodup) (hl : kys.length < lim)
    (h : wpS p ks (.nx (env.set j (some (.oP t (pkK kys k) (pkV kys vs k d)))))) : wpS p ks (sPutP j fo fi fe env) := by
  unfold sPutP
  rw [h1, h2]
  simp only
  rw [h2', h3]
  simp only
  rw [h4]
  simp only
  rw [h4']
  simp only
  rw [if_pos ⟨trivial, nd, hl⟩]
  exact h
theorem wp_nx_of {o : SO} {P : Ev → Prop} (h : wpS { nx := P } [] o) : ∃ e, o = .nx e ∧ P e := by
  cases o with
  | nx e => rw [wp_nil] at h; exact ⟨e, rfl, h⟩
  | rt => rw [wp_rt] at h; exact h.elim
  | bk => rw [wp_bk] at h; exact h.elim
  | ct => rw [wp_ct] at h; exact h.elim
  | ex => rw [wp_ex] at h; exact h.elim
  | no => rw [wp_no] at h; exact h.elim
theorem lj_of {k : Nat} {body : Ev → SO} {n : Int} {as us : List Int} {env : Ev} {r : List (List Key) × List Int × List (List Key) × List Int} (h : body (ljEnv k n as us) = .nx env) (h2 : ljRead k env = .ok r) : ljOut k body n as us = .ok r := by
  unfold ljOut; rw [h]; exact h2
theorem lj_read {a b c d e f : Option L} {ks ls : List (List Key)} {js ms : List Int} : ljRead 6 [a, b, c, d, e, f, some (.oP 100 ks (js.map D.int)), some (.oP 101 ls (ms.map D.int))] = .ok (ks, js, ls, ms) := by
  simp only [ljRead, List.getElem?_cons_succ, List.getElem?_cons_zero, ints_map, Nat.reduceAdd]
theorem joins_spec {n : Nat} {le : Nat → Nat → Bool} {jn mt : Nat → Nat → Nat} (T : Lat n le jn mt) : ∃ (ks : List (List Key)) (js : List Int) (ls : List (List Key)) (ms : List Int), F_order_look_joins (n : Int) ((rowsA n le).map (fun x : Nat => (x : Int))) ((rowsU n le).map (fun x : Nat => (x : Int))) = .ok (ks, js, ls, ms) ∧
    (∀ a b, a < n → b < n → lk ks (js.map D.int) (kk a b) = some (.int (jn a b : Nat))) ∧ (∀ a b, a < n → b < n → lk ls (ms.map D.int) (kk a b) = some (.int (mt a b : Nat))) := by
  have hn := T.n24
  have eA : ∀ A : List Nat, (A.map (fun x : Nat => (x : Int))).map D.int = A.map nI := fun A => by rw [List.map_map]; rfl
  have key : wpS { nx := fun e => ∃ (ks : List (List Key)) (js : List Int) (ls : List (List Key)) (ms : List Int) (o1 o2 o3 o4 o5 : Option L), e = [some (.sh (.ins 0 nm5 [.int n, .lst ((rowsA n le).map nI), .lst ((rowsU n le).map nI), .at 100, .at 101])), o1, o2, o3, o4, o5, some (.oP 100 ks (js.map D.int)), some (.oP 101 ls (ms.map D.int))] ∧
    (∀ a b, a < n → b < n → lk ks (js.map D.int) (kk a b) = some (.int (jn a b : Nat))) ∧ (∀ a b, a < n → b < n → lk ls (ms.map D.int) (kk a b) = some (.int (mt a b : Nat))) } [] (f_order_look_joins (ljEnv 6 (n : Int) ((rowsA n le).map (fun x : Nat => (x : Int))) ((rowsU n le).map (fun x : Nat => (x : Int))))) := by
    unfold f_order_look_joins ljEnv
    rw [eA, eA]
    simp -implicitDefEqProofs only [DL.evB, DL.evN, beq_self_eq_true, DL.no6_look_two, DL.no6_at_most, DL.no6_join, DL.no6_meet, DL.no6_lowest, DL.no6_highest, DL.no3_look_order, not_false_eq_true, and_self, true_and, and_true, reduceIte, Bool.false_eq_true, List.length_map, List.length_range, List.length_append, List.getElem?_cons_zero, List.getElem?_cons_succ, List.set_cons_zero, List.set_cons_succ, fzE, wipeE, Option.bind_some, Option.map_some, List.length_cons, List.length_nil, cond_true, cond_false, Nat.reduceAdd, Nat.reduceLeDiff, Nat.zero_add, if_true, if_false, eq_self, bOne, Nat.reduceLT, Nat.reduceEqDiff, List.map_cons, List.map_nil, List.cons_append, List.nil_append, List.replicate, Nat.reduceSub, decide_true, decide_false, Bool.not_true, Bool.not_false]
    rw [rng1_nat (by omega)]
    simp -implicitDefEqProofs only [DL.evB, DL.evN, beq_self_eq_true, DL.no6_look_two, DL.no6_at_most, DL.no6_join, DL.no6_meet, DL.no6_lowest, DL.no6_highest, DL.no3_look_order, not_false_eq_true, and_self, true_and, and_true, reduceIte, Bool.false_eq_true, List.length_map, List.length_range, List.length_append, List.getElem?_cons_zero, List.getElem?_cons_succ, List.set_cons_zero, List.set_cons_succ, fzE, wipeE, Option.bind_some, Option.map_some, List.length_cons, List.length_nil, cond_true, cond_false, Nat.reduceAdd, Nat.reduceLeDiff, Nat.zero_add, if_true, if_false, eq_self, bOne, Nat.reduceLT, Nat.reduceEqDiff, List.map_cons, List.map_nil, List.cons_append, List.nil_append, List.replicate, Nat.reduceSub, decide_true, decide_false, Bool.not_true, Bool.not_false]
    refine wp_forL (fun pre e => ∃ (S : List (Nat × Nat)) (ks : List (List Key)) (js : List Int) (ls : List (List Key)) (ms : List Int) (o1 o2 o3 o4 o5 : Option L), e = [some (.sh (.ins 0 nm5 [.int n, .lst ((rowsA n le).map nI), .lst ((rowsU n le).map nI), .at 100, .at 101])), o1, o2, o3, o4, o5, some (.oP 100 ks (js.map D.int)), some (.oP 101 ls (ms.map D.int))] ∧
      Dk ks js jn S ∧ Dk ls ms mt S ∧ S.length ≤ pre.length * 48 ∧ ∀ a b, a < n → b < n → (a ∈ pre ∨ b ∈ pre) → (a, b) ∈ S) ⟨[], [], [], [], [], _, _, _, _, _, rfl, ⟨List.nodup_nil, rfl, Nat.le_refl _, by simp⟩, ⟨List.nodup_nil, rfl, Nat.le_refl _, by simp⟩, by simp, by simp⟩ ?_ ?_
    · rintro pre u post e hx ⟨S, ks, js, ls, ms, o1, o2, o3, o4, o5, rfl, D1, D2, hS, hm⟩
      obtain ⟨eu, hu⟩ := range_split hx
      refine ⟨_, rfl, ?_⟩
      simp -implicitDefEqProofs only [DL.evB, DL.evN, beq_self_eq_true, DL.no6_look_two, DL.no6_at_most, DL.no6_join, DL.no6_meet, DL.no6_lowest, DL.no6_highest, DL.no3_look_order, not_false_eq_true, and_self, true_and, and_true, reduceIte, Bool.false_eq_true, List.length_map, List.length_range, List.length_append, List.getElem?_cons_zero, List.getElem?_cons_succ, List.set_cons_zero, List.set_cons_succ, fzE, wipeE, Option.bind_some, Option.map_some, List.length_cons, List.length_nil, cond_true, cond_false, Nat.reduceAdd, Nat.reduceLeDiff, Nat.zero_add, if_true, if_false, eq_self, bOne, Nat.reduceLT, Nat.reduceEqDiff, List.map_cons, List.map_nil, List.cons_append, List.nil_append, List.replicate, Nat.reduceSub, decide_true, decide_false, Bool.not_true, Bool.not_false]
      rw [rng2_nat (by omega) (by omega)]
      simp -implicitDefEqProofs only [DL.evB, DL.evN, beq_self_eq_true, DL.no6_look_two, DL.no6_at_most, DL.no6_join, DL.no6_meet, DL.no6_lowest, DL.no6_highest, DL.no3_look_order, not_false_eq_true, and_self, true_and, and_true, reduceIte, Bool.false_eq_true, List.length_map, List.length_range, List.length_append, List.getElem?_cons_zero, List.getElem?_cons_succ, List.set_cons_zero, List.set_cons_succ, fzE, wipeE, Option.bind_some, Option.map_some, List.length_cons, List.length_nil, cond_true, cond_false, Nat.reduceAdd, Nat.reduceLeDiff, Nat.zero_add, if_true, if_false, eq_self, bOne, Nat.reduceLT, Nat.reduceEqDiff, List.map_cons, List.map_nil, List.cons_append, List.nil_append, List.replicate, Nat.reduceSub, decide_true, decide_false, Bool.not_true, Bool.not_false]
      have hpre : pre = List.range u := by
        have := congrArg (List.take pre.length) hx
        rw [List.take_left] at this
        rw [← this, List.take_range, ← eu, Nat.min_eq_left (by omega)]
      refine wp_forL (fun pr e => ∃ (S' : List (Nat × Nat)) (ks : List (List Key)) (js : List Int) (ls : List (List Key)) (ms : List Int) (o2 o3 o4 o5 : Option L), e = [some (.sh (.ins 0 nm5 [.int n, .lst ((rowsA n le).map nI), .lst ((rowsU n le).map nI), .at 100, .at 101])), some (.sh (.int u)), o2, o3, o4, o5, some (.oP 100 ks (js.map D.int)), some (.oP 101 ls (ms.map D.int))] ∧
        Dk ks js jn S' ∧ Dk ls ms mt S' ∧ S'.length ≤ pre.length * 48 + pr.length * 2 ∧ (∀ p ∈ S, p ∈ S') ∧ ∀ v ∈ pr, (u, v) ∈ S' ∧ (v, u) ∈ S') ⟨S, ks, js, ls, ms, _, _, _, _, rfl, D1, D2, by simp; exact hS, fun _ h => h, by simp⟩ ?_ ?_
      · rintro pr v po e hx2 ⟨S', ks, js, ls, ms, o2, o3, o4, o5, rfl, D1, D2, hS', hsub, hpr⟩
        have hvm : v ∈ List.range' u (n - u) := by rw [hx2]; simp
        have hv : v < n := by have := List.mem_range'_1.mp hvm; omega
        have hprl : pr.length + 1 ≤ n - u := by
          have := congrArg List.length hx2
          rw [List.length_range', List.length_append, List.length_cons] at this
          omega
        have hplen : pre.length ≤ 24 := by omega
        refine ⟨_, rfl, ?_⟩
        have a1 := ixN_lst (xs := rowsA n le) (k := u) (by rw [rowsA_length]; exact hu)
        have a2 := ixN_lst (xs := rowsA n le) (k := v) (by rw [rowsA_length]; exact hv)
        have u1 := ixN_lst (xs := rowsU n le) (k := u) (by rw [rowsU_length]; exact hu)
        have u2 := ixN_lst (xs := rowsU n le) (k := v) (by rw [rowsU_length]; exact hv)
        have l1 := least_spec n ((rowsA n le).getD u 0 &&& (rowsA n le).getD v 0) hn (rowsA n le) rowsA_length
        have l2 := least_spec n ((rowsU n le).getD u 0 &&& (rowsU n le).getD v 0) hn (rowsU n le) rowsU_length
        rw [find_jn T hu hv] at l1
        rw [find_mt T hu hv] at l2
        simp -implicitDefEqProofs only [DL.evB, DL.evN, beq_self_eq_true, DL.no6_look_two, DL.no6_at_most, DL.no6_join, DL.no6_meet, DL.no6_lowest, DL.no6_highest, DL.no3_look_order, not_false_eq_true, and_self, true_and, and_true, reduceIte, Bool.false_eq_true, List.length_map, List.length_range, List.length_append, List.getElem?_cons_zero, List.getElem?_cons_succ, List.set_cons_zero, List.set_cons_succ, fzE, wipeE, Option.bind_some, Option.map_some, List.length_cons, List.length_nil, cond_true, cond_false, Nat.reduceAdd, Nat.reduceLeDiff, Nat.zero_add, if_true, if_false, eq_self, bOne, Nat.reduceLT, Nat.reduceEqDiff, List.map_cons, List.map_nil, List.cons_append, List.nil_append, List.replicate, Nat.reduceSub, decide_true, decide_false, Bool.not_true, Bool.not_false, a1, a2, u1, u2, l1, l2]
        have z1 := D1.sz; have z2 := D2.sz
        obtain ⟨is1, e1, D1'⟩ := D1.put u v (jn u v) rfl
        obtain ⟨is2, e2, D2'⟩ := D2.put u v (mt u v) rfl
        obtain ⟨is3, e3, D1''⟩ := D1'.put v u (jn u v) (T.jn_comm hv hu)
        obtain ⟨is4, e4, D2''⟩ := D2'.put v u (mt u v) (T.mt_comm hv hu)
        have z1' := D1'.sz; have z2' := D2'.sz
        rw [List.length_cons] at z1' z2'
        refine wp_for1 rfl ?_
        simp -implicitDefEqProofs only [ev_gN, List.set_cons_succ, List.set_cons_zero]
        rw [wp_seq]
        refine st_putP (k := kk u v) (d := .int (jn u v : Nat)) (by simp -implicitDefEqProofs only [DL.evB, DL.evN, beq_self_eq_true, DL.no6_look_two, DL.no6_at_most, DL.no6_join, DL.no6_meet, DL.no6_lowest, DL.no6_highest, DL.no3_look_order, not_false_eq_true, and_self, true_and, and_true, reduceIte, Bool.false_eq_true, List.length_map, List.length_range, List.length_append, List.getElem?_cons_zero, List.getElem?_cons_succ, List.set_cons_zero, List.set_cons_succ, fzE, wipeE, Option.bind_some, Option.map_some, List.length_cons, List.length_nil, cond_true, cond_false, Nat.reduceAdd, Nat.reduceLeDiff, Nat.zero_add, if_true, if_false, eq_self, bOne, Nat.reduceLT, Nat.reduceEqDiff, List.map_cons, List.map_nil, List.cons_append, List.nil_append, List.replicate, Nat.reduceSub, decide_true, decide_false, Bool.not_true, Bool.not_false]) (by simp -implicitDefEqProofs only [DL.evB, DL.evN, beq_self_eq_true, DL.no6_look_two, DL.no6_at_most, DL.no6_join, DL.no6_meet, DL.no6_lowest, DL.no6_highest, DL.no3_look_order, not_false_eq_true, and_self, true_and, and_true, reduceIte, Bool.false_eq_true, List.length_map, List.length_range, List.length_append, List.getElem?_cons_zero, List.getElem?_cons_succ, List.set_cons_zero, List.set_cons_succ, fzE, wipeE, Option.bind_some, Option.map_some, List.length_cons, List.length_nil, cond_true, cond_false, Nat.reduceAdd, Nat.reduceLeDiff, Nat.zero_add, if_true, if_false, eq_self, bOne, Nat.reduceLT, Nat.reduceEqDiff, List.map_cons, List.map_nil, List.cons_append, List.nil_append, List.replicate, Nat.reduceSub, decide_true, decide_false, Bool.not_true, Bool.not_false]; rfl) rfl rfl (by simp -implicitDefEqProofs only [DL.evB, DL.evN, beq_self_eq_true, DL.no6_look_two, DL.no6_at_most, DL.no6_join, DL.no6_meet, DL.no6_lowest, DL.no6_highest, DL.no3_look_order, not_false_eq_true, and_self, true_and, and_true, reduceIte, Bool.false_eq_true, List.length_map, List.length_range, List.length_append, List.getElem?_cons_zero, List.getElem?_cons_succ, List.set_cons_zero, List.set_cons_succ, fzE, wipeE, Option.bind_some, Option.map_some, List.length_cons, List.length_nil, cond_true, cond_false, Nat.reduceAdd, Nat.reduceLeDiff, Nat.zero_add, if_true, if_false, eq_self, bOne, Nat.reduceLT, Nat.reduceEqDiff, List.map_cons, List.map_nil, List.cons_append, List.nil_append, List.replicate, Nat.reduceSub, decide_true, decide_false, Bool.not_true, Bool.not_false]; rfl) rfl D1.nd (by unfold lim; omega) ?_
        simp -implicitDefEqProofs only [List.set_cons_succ, List.set_cons_zero, e1]
        rw [wp_cons]
        refine st_putP (k := kk u v) (d := .int (mt u v : Nat)) (by simp -implicitDefEqProofs only [DL.evB, DL.evN, beq_self_eq_true, DL.no6_look_two, DL.no6_at_most, DL.no6_join, DL.no6_meet, DL.no6_lowest, DL.no6_highest, DL.no3_look_order, not_false_eq_true, and_self, true_and, and_true, reduceIte, Bool.false_eq_true, List.length_map, List.length_range, List.length_append, List.getElem?_cons_zero, List.getElem?_cons_succ, List.set_cons_zero, List.set_cons_succ, fzE, wipeE, Option.bind_some, Option.map_some, List.length_cons, List.length_nil, cond_true, cond_false, Nat.reduceAdd, Nat.reduceLeDiff, Nat.zero_add, if_true, if_false, eq_self, bOne, Nat.reduceLT, Nat.reduceEqDiff, List.map_cons, List.map_nil, List.cons_append, List.nil_append, List.replicate, Nat.reduceSub, decide_true, decide_false, Bool.not_true, Bool.not_false]) (by simp -implicitDefEqProofs only [DL.evB, DL.evN, beq_self_eq_true, DL.no6_look_two, DL.no6_at_most, DL.no6_join, DL.no6_meet, DL.no6_lowest, DL.no6_highest, DL.no3_look_order, not_false_eq_true, and_self, true_and, and_true, reduceIte, Bool.false_eq_true, List.length_map, List.length_range, List.length_append, List.getElem?_cons_zero, List.getElem?_cons_succ, List.set_cons_zero, List.set_cons_succ, fzE, wipeE, Option.bind_some, Option.map_some, List.length_cons, List.length_nil, cond_true, cond_false, Nat.reduceAdd, Nat.reduceLeDiff, Nat.zero_add, if_true, if_false, eq_self, bOne, Nat.reduceLT, Nat.reduceEqDiff, List.map_cons, List.map_nil, List.cons_append, List.nil_append, List.replicate, Nat.reduceSub, decide_true, decide_false, Bool.not_true, Bool.not_false]; rfl) rfl rfl (by simp -implicitDefEqProofs only [DL.evB, DL.evN, beq_self_eq_true, DL.no6_look_two, DL.no6_at_most, DL.no6_join, DL.no6_meet, DL.no6_lowest, DL.no6_highest, DL.no3_look_order, not_false_eq_true, and_self, true_and, and_true, reduceIte, Bool.false_eq_true, List.length_map, List.length_range, List.length_append, List.getElem?_cons_zero, List.getElem?_cons_succ, List.set_cons_zero, List.set_cons_succ, fzE, wipeE, Option.bind_some, Option.map_some, List.length_cons, List.length_nil, cond_true, cond_false, Nat.reduceAdd, Nat.reduceLeDiff, Nat.zero_add, if_true, if_false, eq_self, bOne, Nat.reduceLT, Nat.reduceEqDiff, List.map_cons, List.map_nil, List.cons_append, List.nil_append, List.replicate, Nat.reduceSub, decide_true, decide_false, Bool.not_true, Bool.not_false]; rfl) rfl D2.nd (by unfold lim; omega) ?_
        simp -implicitDefEqProofs only [List.set_cons_succ, List.set_cons_zero, e2]
        simp -implicitDefEqProofs only [DL.evB, DL.evN, beq_self_eq_true, DL.no6_look_two, DL.no6_at_most, DL.no6_join, DL.no6_meet, DL.no6_lowest, DL.no6_highest, DL.no3_look_order, not_false_eq_true, and_self, true_and, and_true, reduceIte, Bool.false_eq_true, List.length_map, List.length_range, List.length_append, List.getElem?_cons_zero, List.getElem?_cons_succ, List.set_cons_zero, List.set_cons_succ, fzE, wipeE, Option.bind_some, Option.map_some, List.length_cons, List.length_nil, cond_true, cond_false, Nat.reduceAdd, Nat.reduceLeDiff, Nat.zero_add, if_true, if_false, eq_self, bOne, Nat.reduceLT, Nat.reduceEqDiff, List.map_cons, List.map_nil, List.cons_append, List.nil_append, List.replicate, Nat.reduceSub, decide_true, decide_false, Bool.not_true, Bool.not_false]
        refine wp_for1 rfl ?_
        simp -implicitDefEqProofs only [ev_gN, List.set_cons_succ, List.set_cons_zero]
        rw [wp_seq]
        refine st_putP (k := kk v u) (d := .int (jn u v : Nat)) (by simp -implicitDefEqProofs only [DL.evB, DL.evN, beq_self_eq_true, DL.no6_look_two, DL.no6_at_most, DL.no6_join, DL.no6_meet, DL.no6_lowest, DL.no6_highest, DL.no3_look_order, not_false_eq_true, and_self, true_and, and_true, reduceIte, Bool.false_eq_true, List.length_map, List.length_range, List.length_append, List.getElem?_cons_zero, List.getElem?_cons_succ, List.set_cons_zero, List.set_cons_succ, fzE, wipeE, Option.bind_some, Option.map_some, List.length_cons, List.length_nil, cond_true, cond_false, Nat.reduceAdd, Nat.reduceLeDiff, Nat.zero_add, if_true, if_false, eq_self, bOne, Nat.reduceLT, Nat.reduceEqDiff, List.map_cons, List.map_nil, List.cons_append, List.nil_append, List.replicate, Nat.reduceSub, decide_true, decide_false, Bool.not_true, Bool.not_false]) (by simp -implicitDefEqProofs only [DL.evB, DL.evN, beq_self_eq_true, DL.no6_look_two, DL.no6_at_most, DL.no6_join, DL.no6_meet, DL.no6_lowest, DL.no6_highest, DL.no3_look_order, not_false_eq_true, and_self, true_and, and_true, reduceIte, Bool.false_eq_true, List.length_map, List.length_range, List.length_append, List.getElem?_cons_zero, List.getElem?_cons_succ, List.set_cons_zero, List.set_cons_succ, fzE, wipeE, Option.bind_some, Option.map_some, List.length_cons, List.length_nil, cond_true, cond_false, Nat.reduceAdd, Nat.reduceLeDiff, Nat.zero_add, if_true, if_false, eq_self, bOne, Nat.reduceLT, Nat.reduceEqDiff, List.map_cons, List.map_nil, List.cons_append, List.nil_append, List.replicate, Nat.reduceSub, decide_true, decide_false, Bool.not_true, Bool.not_false]; rfl) rfl rfl (by simp -implicitDefEqProofs only [DL.evB, DL.evN, beq_self_eq_true, DL.no6_look_two, DL.no6_at_most, DL.no6_join, DL.no6_meet, DL.no6_lowest, DL.no6_highest, DL.no3_look_order, not_false_eq_true, and_self, true_and, and_true, reduceIte, Bool.false_eq_true, List.length_map, List.length_range, List.length_append, List.getElem?_cons_zero, List.getElem?_cons_succ, List.set_cons_zero, List.set_cons_succ, fzE, wipeE, Option.bind_some, Option.map_some, List.length_cons, List.length_nil, cond_true, cond_false, Nat.reduceAdd, Nat.reduceLeDiff, Nat.zero_add, if_true, if_false, eq_self, bOne, Nat.reduceLT, Nat.reduceEqDiff, List.map_cons, List.map_nil, List.cons_append, List.nil_append, List.replicate, Nat.reduceSub, decide_true, decide_false, Bool.not_true, Bool.not_false]; rfl) rfl D1'.nd (by unfold lim; omega) ?_
        simp -implicitDefEqProofs only [List.set_cons_succ, List.set_cons_zero, e3]
        rw [wp_cons]
        refine st_putP (k := kk v u) (d := .int (mt u v : Nat)) (by simp -implicitDefEqProofs only [DL.evB, DL.evN, beq_self_eq_true, DL.no6_look_two, DL.no6_at_most, DL.no6_join, DL.no6_meet, DL.no6_lowest, DL.no6_highest, DL.no3_look_order, not_false_eq_true, and_self, true_and, and_true, reduceIte, Bool.false_eq_true, List.length_map, List.length_range, List.length_append, List.getElem?_cons_zero, List.getElem?_cons_succ, List.set_cons_zero, List.set_cons_succ, fzE, wipeE, Option.bind_some, Option.map_some, List.length_cons, List.length_nil, cond_true, cond_false, Nat.reduceAdd, Nat.reduceLeDiff, Nat.zero_add, if_true, if_false, eq_self, bOne, Nat.reduceLT, Nat.reduceEqDiff, List.map_cons, List.map_nil, List.cons_append, List.nil_append, List.replicate, Nat.reduceSub, decide_true, decide_false, Bool.not_true, Bool.not_false]) (by simp -implicitDefEqProofs only [DL.evB, DL.evN, beq_self_eq_true, DL.no6_look_two, DL.no6_at_most, DL.no6_join, DL.no6_meet, DL.no6_lowest, DL.no6_highest, DL.no3_look_order, not_false_eq_true, and_self, true_and, and_true, reduceIte, Bool.false_eq_true, List.length_map, List.length_range, List.length_append, List.getElem?_cons_zero, List.getElem?_cons_succ, List.set_cons_zero, List.set_cons_succ, fzE, wipeE, Option.bind_some, Option.map_some, List.length_cons, List.length_nil, cond_true, cond_false, Nat.reduceAdd, Nat.reduceLeDiff, Nat.zero_add, if_true, if_false, eq_self, bOne, Nat.reduceLT, Nat.reduceEqDiff, List.map_cons, List.map_nil, List.cons_append, List.nil_append, List.replicate, Nat.reduceSub, decide_true, decide_false, Bool.not_true, Bool.not_false]; rfl) rfl rfl (by simp -implicitDefEqProofs only [DL.evB, DL.evN, beq_self_eq_true, DL.no6_look_two, DL.no6_at_most, DL.no6_join, DL.no6_meet, DL.no6_lowest, DL.no6_highest, DL.no3_look_order, not_false_eq_true, and_self, true_and, and_true, reduceIte, Bool.false_eq_true, List.length_map, List.length_range, List.length_append, List.getElem?_cons_zero, List.getElem?_cons_succ, List.set_cons_zero, List.set_cons_succ, fzE, wipeE, Option.bind_some, Option.map_some, List.length_cons, List.length_nil, cond_true, cond_false, Nat.reduceAdd, Nat.reduceLeDiff, Nat.zero_add, if_true, if_false, eq_self, bOne, Nat.reduceLT, Nat.reduceEqDiff, List.map_cons, List.map_nil, List.cons_append, List.nil_append, List.replicate, Nat.reduceSub, decide_true, decide_false, Bool.not_true, Bool.not_false]; rfl) rfl D2'.nd (by unfold lim; omega) ?_
        simp -implicitDefEqProofs only [List.set_cons_succ, List.set_cons_zero, e4]
        simp -implicitDefEqProofs only [DL.evB, DL.evN, beq_self_eq_true, DL.no6_look_two, DL.no6_at_most, DL.no6_join, DL.no6_meet, DL.no6_lowest, DL.no6_highest, DL.no3_look_order, not_false_eq_true, and_self, true_and, and_true, reduceIte, Bool.false_eq_true, List.length_map, List.length_range, List.length_append, List.getElem?_cons_zero, List.getElem?_cons_succ, List.set_cons_zero, List.set_cons_succ, fzE, wipeE, Option.bind_some, Option.map_some, List.length_cons, List.length_nil, cond_true, cond_false, Nat.reduceAdd, Nat.reduceLeDiff, Nat.zero_add, if_true, if_false, eq_self, bOne, Nat.reduceLT, Nat.reduceEqDiff, List.map_cons, List.map_nil, List.cons_append, List.nil_append, List.replicate, Nat.reduceSub, decide_true, decide_false, Bool.not_true, Bool.not_false]
        refine wp_for0 ?_
        simp -implicitDefEqProofs only [DL.evB, DL.evN, beq_self_eq_true, DL.no6_look_two, DL.no6_at_most, DL.no6_join, DL.no6_meet, DL.no6_lowest, DL.no6_highest, DL.no3_look_order, not_false_eq_true, and_self, true_and, and_true, reduceIte, Bool.false_eq_true, List.length_map, List.length_range, List.length_append, List.getElem?_cons_zero, List.getElem?_cons_succ, List.set_cons_zero, List.set_cons_succ, fzE, wipeE, Option.bind_some, Option.map_some, List.length_cons, List.length_nil, cond_true, cond_false, Nat.reduceAdd, Nat.reduceLeDiff, Nat.zero_add, if_true, if_false, eq_self, bOne, Nat.reduceLT, Nat.reduceEqDiff, List.map_cons, List.map_nil, List.cons_append, List.nil_append, List.replicate, Nat.reduceSub, decide_true, decide_false, Bool.not_true, Bool.not_false]
        refine ⟨_, _, _, _, _, _, _, _, _, rfl, D1'', D2'', by simp; omega, fun p hp => List.mem_cons_of_mem _ (List.mem_cons_of_mem _ (hsub p hp)), fun w hw => ?_⟩
        rcases List.mem_append.mp hw with h | h
        · exact ⟨List.mem_cons_of_mem _ (List.mem_cons_of_mem _ (hpr w h).1), List.mem_cons_of_mem _ (List.mem_cons_of_mem _ (hpr w h).2)⟩
        · rw [List.mem_singleton] at h; subst h
          exact ⟨List.mem_cons_of_mem _ List.mem_cons_self, List.mem_cons_self⟩
      · rintro e ⟨S', ks, js, ls, ms, o2, o3, o4, o5, rfl, D1, D2, hS', hsub, hpr⟩
        rw [List.length_range'] at hS'
        simp -implicitDefEqProofs only [DL.evB, DL.evN, beq_self_eq_true, DL.no6_look_two, DL.no6_at_most, DL.no6_join, DL.no6_meet, DL.no6_lowest, DL.no6_highest, DL.no3_look_order, not_false_eq_true, and_self, true_and, and_true, reduceIte, Bool.false_eq_true, List.length_map, List.length_range, List.length_append, List.getElem?_cons_zero, List.getElem?_cons_succ, List.set_cons_zero, List.set_cons_succ, fzE, wipeE, Option.bind_some, Option.map_some, List.length_cons, List.length_nil, cond_true, cond_false, Nat.reduceAdd, Nat.reduceLeDiff, Nat.zero_add, if_true, if_false, eq_self, bOne, Nat.reduceLT, Nat.reduceEqDiff, List.map_cons, List.map_nil, List.cons_append, List.nil_append, List.replicate, Nat.reduceSub, decide_true, decide_false, Bool.not_true, Bool.not_false]
        refine ⟨S', ks, js, ls, ms, _, _, _, _, _, rfl, D1, D2, by omega, fun a b ha hb hab => ?_⟩
        have hcase : (a ∈ pre ∨ b ∈ pre) ∨ (a = u ∧ u ≤ b) ∨ (b = u ∧ u ≤ a) := by
          rcases hab with h | h
          · rcases List.mem_append.mp h with h | h
            · exact .inl (.inl h)
            · rw [List.mem_singleton] at h
              by_cases hb' : b < u
              · exact .inl (.inr (by rw [hpre]; exact List.mem_range.mpr hb'))
              · exact .inr (.inl ⟨h, by omega⟩)
          · rcases List.mem_append.mp h with h | h
            · exact .inl (.inr h)
            · rw [List.mem_singleton] at h
              by_cases ha' : a < u
              · exact .inl (.inl (by rw [hpre]; exact List.mem_range.mpr ha'))
              · exact .inr (.inr ⟨h, by omega⟩)
        rcases hcase with h | ⟨rfl, h⟩ | ⟨rfl, h⟩
        · exact hsub _ (hm a b ha hb h)
        · exact (hpr b (List.mem_range'_1.mpr ⟨h, by omega⟩)).1
        · exact (hpr a (List.mem_range'_1.mpr ⟨h, by omega⟩)).2
    · rintro e ⟨S, ks, js, ls, ms, o1, o2, o3, o4, o5, rfl, D1, D2, hS, hm⟩
      simp -implicitDefEqProofs only [DL.evB, DL.evN, beq_self_eq_true, DL.no6_look_two, DL.no6_at_most, DL.no6_join, DL.no6_meet, DL.no6_lowest, DL.no6_highest, DL.no3_look_order, not_false_eq_true, and_self, true_and, and_true, reduceIte, Bool.false_eq_true, List.length_map, List.length_range, List.length_append, List.getElem?_cons_zero, List.getElem?_cons_succ, List.set_cons_zero, List.set_cons_succ, fzE, wipeE, Option.bind_some, Option.map_some, List.length_cons, List.length_nil, cond_true, cond_false, Nat.reduceAdd, Nat.reduceLeDiff, Nat.zero_add, if_true, if_false, eq_self, bOne, Nat.reduceLT, Nat.reduceEqDiff, List.map_cons, List.map_nil, List.cons_append, List.nil_append, List.replicate, Nat.reduceSub, decide_true, decide_false, Bool.not_true, Bool.not_false]
      exact ⟨ks, js, ls, ms, _, _, _, _, _, rfl, fun a b ha hb => D1.at_ (a, b) (hm a b ha hb (.inl (List.mem_range.mpr ha))), fun a b ha hb => D2.at_ (a, b) (hm a b ha hb (.inl (List.mem_range.mpr ha)))⟩
  obtain ⟨e, he, ks, js, ls, ms, o1, o2, o3, o4, o5, rfl, h1, h2⟩ := wp_nx_of key
  exact ⟨ks, js, ls, ms, lj_of he lj_read, h1, h2⟩
end Ev

/-! SP3: an Order is made; its methods. -/
namespace Ev
open PySem PySem.Spec L2 DL
def ordV (n : Nat) (le : Nat → Nat → Bool) (ks : List (List Key)) (js : List Int) (ls : List (List Key)) (ms : List Int) : D :=
  .ins 0 nm6 [.int n, .lst ((rowsA n le).map nI), .lst ((rowsU n le).map nI), .dT ks (js.map D.int), .dT ls (ms.map D.int), .tup ((below n le).map tI)]
/-- an Order, as data -/
structure IsOrd (n : Nat) (le : Nat → Nat → Bool) (jn mt : Nat → Nat → Nat) (d : D) : Prop where
  ex : ∃ (ks : List (List Key)) (js : List Int) (ls : List (List Key)) (ms : List Int), d = ordV n le ks js ls ms ∧
    (∀ a b, a < n → b < n → lk ks (js.map D.int) (kk a b) = some (.int (jn a b : Nat))) ∧ (∀ a b, a < n → b < n → lk ls (ms.map D.int) (kk a b) = some (.int (mt a b : Nat)))
theorem thing_spec {n a : Nat} (ha : a < n) : F_look_thing [.int n, .int a] = .ok (.sh .non) := by
  refine fn_nx rfl ?_
  unfold f_look_thing
  simp -implicitDefEqProofs only [DL.evB, DL.evN, beq_self_eq_true, DL.no6_look_two, DL.no6_at_most, DL.no6_join, DL.no6_meet, DL.no6_lowest, DL.no6_highest, DL.no3_look_order, not_false_eq_true, and_self, true_and, and_true, reduceIte, Bool.false_eq_true, List.length_map, List.length_range, List.length_append, List.getElem?_cons_zero, List.getElem?_cons_succ, List.set_cons_zero, List.set_cons_succ, fzE, wipeE, Option.bind_some, Option.map_some, List.length_cons, List.length_nil, cond_true, cond_false, Nat.reduceAdd, Nat.reduceLeDiff, Nat.zero_add, if_true, if_false, eq_self, bOne, Nat.reduceLT, Nat.reduceEqDiff, List.map_cons, List.map_nil, List.cons_append, List.nil_append, List.replicate, Nat.reduceSub, decide_true, decide_false, Bool.not_true, Bool.not_false, Nat.not_lt_zero, Nat.not_le.mpr ha, Bool.or_false]
theorem lookorder_spec {n : Nat} {le : Nat → Nat → Bool} (P : Pos n le) (hn : n ≤ 24) : F_order_look_order [.ins 0 nm3 [.int n, .lst ((rowsA n le).map nI), .lst ((rowsU n le).map nI)]] = .ok (.sh .non) := by
  refine fn_nx rfl ?_
  unfold f_order_look_order
  simp -implicitDefEqProofs only [DL.evB, DL.evN, beq_self_eq_true, DL.no6_look_two, DL.no6_at_most, DL.no6_join, DL.no6_meet, DL.no6_lowest, DL.no6_highest, DL.no3_look_order, not_false_eq_true, and_self, true_and, and_true, reduceIte, Bool.false_eq_true, List.length_map, List.length_range, List.length_append, List.getElem?_cons_zero, List.getElem?_cons_succ, List.set_cons_zero, List.set_cons_succ, fzE, wipeE, Option.bind_some, Option.map_some, List.length_cons, List.length_nil, cond_true, cond_false, Nat.reduceAdd, Nat.reduceLeDiff, Nat.zero_add, if_true, if_false, eq_self, bOne, Nat.reduceLT, Nat.reduceEqDiff, List.map_cons, List.map_nil, List.cons_append, List.nil_append, List.replicate, Nat.reduceSub, decide_true, decide_false, Bool.not_true, Bool.not_false]
  rw [rng1_nat (by omega)]
  simp -implicitDefEqProofs only [DL.evB, DL.evN, beq_self_eq_true, DL.no6_look_two, DL.no6_at_most, DL.no6_join, DL.no6_meet, DL.no6_lowest, DL.no6_highest, DL.no3_look_order, not_false_eq_true, and_self, true_and, and_true, reduceIte, Bool.false_eq_true, List.length_map, List.length_range, List.length_append, List.getElem?_cons_zero, List.getElem?_cons_succ, List.set_cons_zero, List.set_cons_succ, fzE, wipeE, Option.bind_some, Option.map_some, List.length_cons, List.length_nil, cond_true, cond_false, Nat.reduceAdd, Nat.reduceLeDiff, Nat.zero_add, if_true, if_false, eq_self, bOne, Nat.reduceLT, Nat.reduceEqDiff, List.map_cons, List.map_nil, List.cons_append, List.nil_append, List.replicate, Nat.reduceSub, decide_true, decide_false, Bool.not_true, Bool.not_false]
  refine wp_forL (fun pre e => ∃ o1 o2, e = [some (.sh (.ins 0 nm3 [.int n, .lst ((rowsA n le).map nI), .lst ((rowsU n le).map nI)])), o1, o2]) ⟨_, _, rfl⟩ ?_ ?_
  · rintro pre u post e hx ⟨o1, o2, rfl⟩
    obtain ⟨eu, hu⟩ := range_split hx
    refine ⟨_, rfl, ?_⟩
    simp -implicitDefEqProofs only [DL.evB, DL.evN, beq_self_eq_true, DL.no6_look_two, DL.no6_at_most, DL.no6_join, DL.no6_meet, DL.no6_lowest, DL.no6_highest, DL.no3_look_order, not_false_eq_true, and_self, true_and, and_true, reduceIte, Bool.false_eq_true, List.length_map, List.length_range, List.length_append, List.getElem?_cons_zero, List.getElem?_cons_succ, List.set_cons_zero, List.set_cons_succ, fzE, wipeE, Option.bind_some, Option.map_some, List.length_cons, List.length_nil, cond_true, cond_false, Nat.reduceAdd, Nat.reduceLeDiff, Nat.zero_add, if_true, if_false, eq_self, bOne, Nat.reduceLT, Nat.reduceEqDiff, List.map_cons, List.map_nil, List.cons_append, List.nil_append, List.replicate, Nat.reduceSub, decide_true, decide_false, Bool.not_true, Bool.not_false]
    rw [rng2_nat (by omega) (by omega)]
    simp -implicitDefEqProofs only [DL.evB, DL.evN, beq_self_eq_true, DL.no6_look_two, DL.no6_at_most, DL.no6_join, DL.no6_meet, DL.no6_lowest, DL.no6_highest, DL.no3_look_order, not_false_eq_true, and_self, true_and, and_true, reduceIte, Bool.false_eq_true, List.length_map, List.length_range, List.length_append, List.getElem?_cons_zero, List.getElem?_cons_succ, List.set_cons_zero, List.set_cons_succ, fzE, wipeE, Option.bind_some, Option.map_some, List.length_cons, List.length_nil, cond_true, cond_false, Nat.reduceAdd, Nat.reduceLeDiff, Nat.zero_add, if_true, if_false, eq_self, bOne, Nat.reduceLT, Nat.reduceEqDiff, List.map_cons, List.map_nil, List.cons_append, List.nil_append, List.replicate, Nat.reduceSub, decide_true, decide_false, Bool.not_true, Bool.not_false]
    refine wp_forL (fun pre e => ∃ o2, e = [some (.sh (.ins 0 nm3 [.int n, .lst ((rowsA n le).map nI), .lst ((rowsU n le).map nI)])), some (.sh (.int u)), o2]) ⟨_, rfl⟩ ?_ ?_
    · rintro pr v po e hx2 ⟨o2, rfl⟩
      have hvm : v ∈ List.range' (u + 1) (n - (u + 1)) := by rw [hx2]; simp
      have hv : u < v ∧ v < n := by have := List.mem_range'_1.mp hvm; omega
      refine ⟨_, rfl, ?_⟩
      have a1 := ixN_lst (xs := rowsA n le) (k := u) (by rw [rowsA_length]; exact hu)
      have a2 := ixN_lst (xs := rowsA n le) (k := v) (by rw [rowsA_length]; exact hv.2)
      simp -implicitDefEqProofs only [DL.evB, DL.evN, beq_self_eq_true, DL.no6_look_two, DL.no6_at_most, DL.no6_join, DL.no6_meet, DL.no6_lowest, DL.no6_highest, DL.no3_look_order, not_false_eq_true, and_self, true_and, and_true, reduceIte, Bool.false_eq_true, List.length_map, List.length_range, List.length_append, List.getElem?_cons_zero, List.getElem?_cons_succ, List.set_cons_zero, List.set_cons_succ, fzE, wipeE, Option.bind_some, Option.map_some, List.length_cons, List.length_nil, cond_true, cond_false, Nat.reduceAdd, Nat.reduceLeDiff, Nat.zero_add, if_true, if_false, eq_self, bOne, Nat.reduceLT, Nat.reduceEqDiff, List.map_cons, List.map_nil, List.cons_append, List.nil_append, List.replicate, Nat.reduceSub, decide_true, decide_false, Bool.not_true, Bool.not_false, a1, a2, tb_dec, testA hu hv.2, testA hv.2 hu]
      refine wp_ifB (fun q => ?_) fun q => ?_
      · exfalso
        rw [Bool.and_eq_true] at q
        have := P.anti q.1 q.2
        omega
      · simp -implicitDefEqProofs only [DL.evB, DL.evN, beq_self_eq_true, DL.no6_look_two, DL.no6_at_most, DL.no6_join, DL.no6_meet, DL.no6_lowest, DL.no6_highest, DL.no3_look_order, not_false_eq_true, and_self, true_and, and_true, reduceIte, Bool.false_eq_true, List.length_map, List.length_range, List.length_append, List.getElem?_cons_zero, List.getElem?_cons_succ, List.set_cons_zero, List.set_cons_succ, fzE, wipeE, Option.bind_some, Option.map_some, List.length_cons, List.length_nil, cond_true, cond_false, Nat.reduceAdd, Nat.reduceLeDiff, Nat.zero_add, if_true, if_false, eq_self, bOne, Nat.reduceLT, Nat.reduceEqDiff, List.map_cons, List.map_nil, List.cons_append, List.nil_append, List.replicate, Nat.reduceSub, decide_true, decide_false, Bool.not_true, Bool.not_false]
        exact ⟨_, rfl⟩
    · rintro e ⟨o2, rfl⟩
      simp -implicitDefEqProofs only [DL.evB, DL.evN, beq_self_eq_true, DL.no6_look_two, DL.no6_at_most, DL.no6_join, DL.no6_meet, DL.no6_lowest, DL.no6_highest, DL.no3_look_order, not_false_eq_true, and_self, true_and, and_true, reduceIte, Bool.false_eq_true, List.length_map, List.length_range, List.length_append, List.getElem?_cons_zero, List.getElem?_cons_succ, List.set_cons_zero, List.set_cons_succ, fzE, wipeE, Option.bind_some, Option.map_some, List.length_cons, List.length_nil, cond_true, cond_false, Nat.reduceAdd, Nat.reduceLeDiff, Nat.zero_add, if_true, if_false, eq_self, bOne, Nat.reduceLT, Nat.reduceEqDiff, List.map_cons, List.map_nil, List.cons_append, List.nil_append, List.replicate, Nat.reduceSub, decide_true, decide_false, Bool.not_true, Bool.not_false]
      exact ⟨_, _, rfl⟩
  · rintro e ⟨o1, o2, rfl⟩
    simp -implicitDefEqProofs only [DL.evB, DL.evN, beq_self_eq_true, DL.no6_look_two, DL.no6_at_most, DL.no6_join, DL.no6_meet, DL.no6_lowest, DL.no6_highest, DL.no3_look_order, not_false_eq_true, and_self, true_and, and_true, reduceIte, Bool.false_eq_true, List.length_map, List.length_range, List.length_append, List.getElem?_cons_zero, List.getElem?_cons_succ, List.set_cons_zero, List.set_cons_succ, fzE, wipeE, Option.bind_some, Option.map_some, List.length_cons, List.length_nil, cond_true, cond_false, Nat.reduceAdd, Nat.reduceLeDiff, Nat.zero_add, if_true, if_false, eq_self, bOne, Nat.reduceLT, Nat.reduceEqDiff, List.map_cons, List.map_nil, List.cons_append, List.nil_append, List.replicate, Nat.reduceSub, decide_true, decide_false, Bool.not_true, Bool.not_false]
theorem lowL_of : ∀ {xs : List D}, (∀ x ∈ xs, D.low x = true) → D.lowL xs = true
  | [], _ => by simp only [D.lowL]
  | x :: xs, h => by
    simp only [D.lowL, Bool.and_eq_true]
    exact ⟨h x List.mem_cons_self, lowL_of fun y hy => h y (List.mem_cons_of_mem _ hy)⟩
theorem awayL_of : ∀ {xs : List D}, (∀ x ∈ xs, D.away x = true) → D.awayL xs = true
  | [], _ => by simp only [D.awayL]
  | x :: xs, h => by
    simp only [D.awayL, Bool.and_eq_true]
    exact ⟨h x List.mem_cons_self, awayL_of fun y hy => h y (List.mem_cons_of_mem _ hy)⟩
theorem low_map {α : Type} {f : α → D} (h : ∀ x, D.low (f x) = true) (xs : List α) : D.lowL (xs.map f) = true := lowL_of fun x hx => by
  obtain ⟨y, _, rfl⟩ := List.mem_map.mp hx; exact h y
theorem away_map {α : Type} {f : α → D} (h : ∀ x, D.away (f x) = true) (xs : List α) : D.awayL (xs.map f) = true := awayL_of fun x hx => by
  obtain ⟨y, _, rfl⟩ := List.mem_map.mp hx; exact h y
theorem low_nI (k : Nat) : D.low (nI k) = true := by unfold nI; simp only [D.low]
theorem low_int (k : Int) : D.low (.int k) = true := by simp only [D.low]
theorem low_tI (k : Nat × Nat) : D.low (tI k) = true := by unfold tI; simp only [D.low, D.lowL, Bool.and_self]
theorem away_int (k : Int) : D.away (.int k) = true := by simp only [D.away]
theorem away_tI (k : Nat × Nat) : D.away (tI k) = true := by unfold tI; simp only [D.away, D.awayL, Bool.and_self]
theorem away_lstN {xs : List Nat} (h : xs ≠ []) : D.away (.lst (xs.map nI)) = true := by
  cases xs with
  | nil => exact absurd rfl h
  | cons x xs => rw [List.map_cons, nI_def]; simp only [D.away]; exact away_map (fun k => by unfold nI; exact away_int _) xs
theorem lowest_len {n : Nat} {le : Nat → Nat → Bool} : (below n le).length ≤ n * n := by
  unfold below
  have : ∀ l : List Nat, (l.flatMap fun a => ((List.range n).filter fun b => !decide (a = b) && le a b).map fun b => (a, b)).length ≤ l.length * n := by
    intro l
    induction l with
    | nil => simp
    | cons y l ih =>
      rw [List.flatMap_cons, List.length_append, List.length_map, List.length_cons, Nat.add_mul]
      have := List.length_filter_le (fun b => !decide (y = b) && le y b) (List.range n)
      rw [List.length_range] at this
      omega
  have := this (List.range n)
  rwa [List.length_range] at this
theorem st_fld {p : Post} {ks : List (Ev → SO)} {env : Ev} {j c : Nat} {f : Str} {fe : Ev → O R} {d : D} {ns : List Str} {vs : List D} (h1 : (fe env).bind R.fz = .ok d) (h2 : env[j]? = some (some (.oI c ns vs))) (hl : ns.length < 1000)
    (h : wpS p ks (.nx (env.set j (some (.oI c (putN ns f) (putV ns vs f d)))))) : wpS p ks (DL.sFld j c f fe env) := by
  unfold DL.sFld
  rw [h1, h2]
  simp only
  rw [if_pos ⟨trivial, hl⟩]
  exact h
theorem st_joins {p : Post} {ks : List (Ev → SO)} {env rest : Ev} {FLJ : Int → List Int → List Int → O (List (List Key) × List Int × List (List Key) × List Int)} {n : Int} {as us js ms : List Int} {kys lys : List (List Key)} (he : env = some (.oI 0 nm3 [.int n, .lst (as.map D.int), .lst (us.map D.int)]) :: rest) (hF : FLJ n as us = .ok (kys, js, lys, ms))
    (h : wpS p ks (.nx (some (.oI 0 nm5 [.int n, .lst (as.map D.int), .lst (us.map D.int), .dT kys (js.map .int), .dT lys (ms.map .int)]) :: rest))) : wpS p ks (sJoins FLJ env) := by
  subst he
  unfold sJoins
  simp only [List.getElem?_cons_zero, if_true, ints_map, hF, List.set_cons_zero]
  exact h
theorem init_of {n k : Nat} {body : Ev → SO} {ds : List D} {ns : List Str} {vs : List D} (hl : ds.length = k) (h0 : D.lowL ds = true) (h1 : D.lowL vs = true) (h : wpS { nx := fun e => ∃ rest, e = some (.oI 0 ns vs) :: rest } [] (body (some (.oI 0 [] []) :: (ds.map (fun d => some (.sh d)) ++ List.replicate (n - (k + 1)) none)))) : initD 0 n k body ds = .ok (ns, vs) := by
  obtain ⟨e, he, rest, rfl⟩ := wp_nx_of h
  unfold initD
  rw [if_pos ⟨hl, h0⟩, he]
  simp only [List.getElem?_cons_zero]
  rw [if_pos ⟨trivial, h1⟩]
theorem init_spec {n : Nat} {le : Nat → Nat → Bool} {jn mt : Nat → Nat → Nat} (T : Lat n le jn mt) {ps : List (Nat × Nat)} (c : IsClo n ps le) (hps : ps.length ≤ 1000000) : ∃ es, F_order___init__ [.int n, .lst (ps.map tI)] = .ok (nm6, es) ∧ IsOrd n le jn mt (.ins 0 nm6 es) ∧ D.awayL es = true := by
  have hn := T.n24
  have hpos := T.pos
  have hin : ∀ p ∈ ps, p.1 < n ∧ p.2 < n := fun p hp => T.lt (c.sub p hp)
  obtain ⟨ks, js, ls, ms, ej, hj, hm⟩ := joins_spec T
  have eA : ∀ A : List Nat, (A.map (fun x : Nat => (x : Int))).map D.int = A.map nI := fun A => by rw [List.map_map]; rfl
  have hbl : (below n le).length ≤ 24 * 24 := Nat.le_trans lowest_len (Nat.mul_le_mul hn hn)
  have ne1 : rowsA n le ≠ [] := fun z => by have := rowsA_length (n := n) (le := le); rw [z] at this; simp at this; omega
  have ne2 : rowsU n le ≠ [] := fun z => by have := rowsU_length (n := n) (le := le); rw [z] at this; simp at this; omega
  have hT : turnedN n (rowsA n le) = rowsU n le := by
    unfold turnedN rowsU
    apply List.map_congr_left
    intro a ha
    have ha := List.mem_range.mp ha
    exact rowOf_congr fun i hi => testA hi ha
  refine ⟨[.int n, .lst ((rowsA n le).map nI), .lst ((rowsU n le).map nI), .dT ks (js.map D.int), .dT ls (ms.map D.int), .tup ((below n le).map tI)], init_of rfl ?_ ?_ ?_, ⟨ks, js, ls, ms, rfl, hj, hm⟩, ?_⟩
  · simp only [D.lowL, D.low, Bool.true_and, Bool.and_true]
    exact low_map low_tI ps
  · simp only [D.lowL, D.low, Bool.true_and, Bool.and_true, Bool.and_eq_true]
    exact ⟨low_map low_nI _, low_map low_nI _, low_map low_int _, low_map low_int _, low_map low_tI _⟩
  · unfold f_order___init__
    have q1 : (decide (n < 1) || decide (24 < n)) = false := by
      rw [Bool.or_eq_false_iff]; exact ⟨decide_eq_false (by omega), decide_eq_false (by omega)⟩
    simp -implicitDefEqProofs only [DL.evB, DL.evN, beq_self_eq_true, DL.no6_look_two, DL.no6_at_most, DL.no6_join, DL.no6_meet, DL.no6_lowest, DL.no6_highest, DL.no3_look_order, not_false_eq_true, and_self, true_and, and_true, reduceIte, Bool.false_eq_true, List.length_map, List.length_range, List.length_append, List.getElem?_cons_zero, List.getElem?_cons_succ, List.set_cons_zero, List.set_cons_succ, fzE, wipeE, Option.bind_some, Option.map_some, List.length_cons, List.length_nil, cond_true, cond_false, Nat.reduceAdd, Nat.reduceLeDiff, Nat.zero_add, if_true, if_false, eq_self, bOne, Nat.reduceLT, Nat.reduceEqDiff, List.map_cons, List.map_nil, List.cons_append, List.nil_append, List.replicate, Nat.reduceSub, decide_true, decide_false, Bool.not_true, Bool.not_false, q1]
    refine wp_forL (fun pre e => ∃ o1 o2, e = [some (.oI 0 [] []), some (.sh (.int n)), some (.sh (.lst (ps.map tI))), o1, o2, none, none, none]) ⟨_, _, rfl⟩ ?_ ?_
    · rintro pre q post e hx ⟨o1, o2, rfl⟩
      obtain ⟨h1, h2⟩ := hin q (by rw [hx]; simp)
      refine ⟨_, rfl, ?_⟩
      simp -implicitDefEqProofs only [DL.evB, DL.evN, beq_self_eq_true, DL.no6_look_two, DL.no6_at_most, DL.no6_join, DL.no6_meet, DL.no6_lowest, DL.no6_highest, DL.no3_look_order, not_false_eq_true, and_self, true_and, and_true, reduceIte, Bool.false_eq_true, List.length_map, List.length_range, List.length_append, List.getElem?_cons_zero, List.getElem?_cons_succ, List.set_cons_zero, List.set_cons_succ, fzE, wipeE, Option.bind_some, Option.map_some, List.length_cons, List.length_nil, cond_true, cond_false, Nat.reduceAdd, Nat.reduceLeDiff, Nat.zero_add, if_true, if_false, eq_self, bOne, Nat.reduceLT, Nat.reduceEqDiff, List.map_cons, List.map_nil, List.cons_append, List.nil_append, List.replicate, Nat.reduceSub, decide_true, decide_false, Bool.not_true, Bool.not_false]
      refine wp_for1 rfl ?_
      simp -implicitDefEqProofs only [DL.evB, DL.evN, beq_self_eq_true, DL.no6_look_two, DL.no6_at_most, DL.no6_join, DL.no6_meet, DL.no6_lowest, DL.no6_highest, DL.no3_look_order, not_false_eq_true, and_self, true_and, and_true, reduceIte, Bool.false_eq_true, List.length_map, List.length_range, List.length_append, List.getElem?_cons_zero, List.getElem?_cons_succ, List.set_cons_zero, List.set_cons_succ, fzE, wipeE, Option.bind_some, Option.map_some, List.length_cons, List.length_nil, cond_true, cond_false, Nat.reduceAdd, Nat.reduceLeDiff, Nat.zero_add, if_true, if_false, eq_self, bOne, Nat.reduceLT, Nat.reduceEqDiff, List.map_cons, List.map_nil, List.cons_append, List.nil_append, List.replicate, Nat.reduceSub, decide_true, decide_false, Bool.not_true, Bool.not_false, thing_spec h1]
      refine wp_for1 rfl ?_
      simp -implicitDefEqProofs only [DL.evB, DL.evN, beq_self_eq_true, DL.no6_look_two, DL.no6_at_most, DL.no6_join, DL.no6_meet, DL.no6_lowest, DL.no6_highest, DL.no3_look_order, not_false_eq_true, and_self, true_and, and_true, reduceIte, Bool.false_eq_true, List.length_map, List.length_range, List.length_append, List.getElem?_cons_zero, List.getElem?_cons_succ, List.set_cons_zero, List.set_cons_succ, fzE, wipeE, Option.bind_some, Option.map_some, List.length_cons, List.length_nil, cond_true, cond_false, Nat.reduceAdd, Nat.reduceLeDiff, Nat.zero_add, if_true, if_false, eq_self, bOne, Nat.reduceLT, Nat.reduceEqDiff, List.map_cons, List.map_nil, List.cons_append, List.nil_append, List.replicate, Nat.reduceSub, decide_true, decide_false, Bool.not_true, Bool.not_false, thing_spec h2]
      refine wp_for0 ?_
      simp -implicitDefEqProofs only [DL.evB, DL.evN, beq_self_eq_true, DL.no6_look_two, DL.no6_at_most, DL.no6_join, DL.no6_meet, DL.no6_lowest, DL.no6_highest, DL.no3_look_order, not_false_eq_true, and_self, true_and, and_true, reduceIte, Bool.false_eq_true, List.length_map, List.length_range, List.length_append, List.getElem?_cons_zero, List.getElem?_cons_succ, List.set_cons_zero, List.set_cons_succ, fzE, wipeE, Option.bind_some, Option.map_some, List.length_cons, List.length_nil, cond_true, cond_false, Nat.reduceAdd, Nat.reduceLeDiff, Nat.zero_add, if_true, if_false, eq_self, bOne, Nat.reduceLT, Nat.reduceEqDiff, List.map_cons, List.map_nil, List.cons_append, List.nil_append, List.replicate, Nat.reduceSub, decide_true, decide_false, Bool.not_true, Bool.not_false]
      exact ⟨_, _, rfl⟩
    · rintro e ⟨o1, o2, rfl⟩
      rw [wp_cons, wp_seq]
      refine st_fld (d := .int n) (by simp -implicitDefEqProofs only [DL.evB, DL.evN, beq_self_eq_true, DL.no6_look_two, DL.no6_at_most, DL.no6_join, DL.no6_meet, DL.no6_lowest, DL.no6_highest, DL.no3_look_order, not_false_eq_true, and_self, true_and, and_true, reduceIte, Bool.false_eq_true, List.length_map, List.length_range, List.length_append, List.getElem?_cons_zero, List.getElem?_cons_succ, List.set_cons_zero, List.set_cons_succ, fzE, wipeE, Option.bind_some, Option.map_some, List.length_cons, List.length_nil, cond_true, cond_false, Nat.reduceAdd, Nat.reduceLeDiff, Nat.zero_add, if_true, if_false, eq_self, bOne, Nat.reduceLT, Nat.reduceEqDiff, List.map_cons, List.map_nil, List.cons_append, List.nil_append, List.replicate, Nat.reduceSub, decide_true, decide_false, Bool.not_true, Bool.not_false]) rfl (by decide) ?_
      simp -implicitDefEqProofs only [List.set_cons_zero, put0, putv0]
      rw [wp_cons, wp_seq]
      have hcs := carried_spec n hn ps hin
      rw [carried_eq c] at hcs
      refine st_fld (d := .lst ((rowsA n le).map nI)) (by simp -implicitDefEqProofs only [DL.evB, DL.evN, beq_self_eq_true, DL.no6_look_two, DL.no6_at_most, DL.no6_join, DL.no6_meet, DL.no6_lowest, DL.no6_highest, DL.no3_look_order, not_false_eq_true, and_self, true_and, and_true, reduceIte, Bool.false_eq_true, List.length_map, List.length_range, List.length_append, List.getElem?_cons_zero, List.getElem?_cons_succ, List.set_cons_zero, List.set_cons_succ, fzE, wipeE, Option.bind_some, Option.map_some, List.length_cons, List.length_nil, cond_true, cond_false, Nat.reduceAdd, Nat.reduceLeDiff, Nat.zero_add, if_true, if_false, eq_self, bOne, Nat.reduceLT, Nat.reduceEqDiff, List.map_cons, List.map_nil, List.cons_append, List.nil_append, List.replicate, Nat.reduceSub, decide_true, decide_false, Bool.not_true, Bool.not_false, hcs]; rfl) rfl (by decide) ?_
      simp -implicitDefEqProofs only [List.set_cons_zero, put1, putv1]
      rw [wp_cons, wp_seq]
      have htu := turned_spec n hn (rowsA n le) rowsA_length
      rw [hT] at htu
      refine st_fld (d := .lst ((rowsU n le).map nI)) (by simp -implicitDefEqProofs only [DL.evB, DL.evN, beq_self_eq_true, DL.no6_look_two, DL.no6_at_most, DL.no6_join, DL.no6_meet, DL.no6_lowest, DL.no6_highest, DL.no3_look_order, not_false_eq_true, and_self, true_and, and_true, reduceIte, Bool.false_eq_true, List.length_map, List.length_range, List.length_append, List.getElem?_cons_zero, List.getElem?_cons_succ, List.set_cons_zero, List.set_cons_succ, fzE, wipeE, Option.bind_some, Option.map_some, List.length_cons, List.length_nil, cond_true, cond_false, Nat.reduceAdd, Nat.reduceLeDiff, Nat.zero_add, if_true, if_false, eq_self, bOne, Nat.reduceLT, Nat.reduceEqDiff, List.map_cons, List.map_nil, List.cons_append, List.nil_append, List.replicate, Nat.reduceSub, decide_true, decide_false, Bool.not_true, Bool.not_false, htu]) rfl (by decide) ?_
      simp -implicitDefEqProofs only [List.set_cons_zero, put2, putv2]
      rw [wp_cons, wp_seq]
      have hlo := lookorder_spec T.po hn
      have hmb : fMethB0 0 "look_order" F_order_look_order (eVar 0) [some (.oI 0 nm3 [.int n, .lst ((rowsA n le).map nI), .lst ((rowsU n le).map nI)]), some (.sh (.int n)), some (.sh (.lst (ps.map tI))), o1, o2, none, none, none] = .ok (.sh .non) := by
        unfold fMethB0
        simp -implicitDefEqProofs only [DL.evB, DL.evN, beq_self_eq_true, DL.no6_look_two, DL.no6_at_most, DL.no6_join, DL.no6_meet, DL.no6_lowest, DL.no6_highest, DL.no3_look_order, not_false_eq_true, and_self, true_and, and_true, reduceIte, Bool.false_eq_true, List.length_map, List.length_range, List.length_append, List.getElem?_cons_zero, List.getElem?_cons_succ, List.set_cons_zero, List.set_cons_succ, fzE, wipeE, Option.bind_some, Option.map_some, List.length_cons, List.length_nil, cond_true, cond_false, Nat.reduceAdd, Nat.reduceLeDiff, Nat.zero_add, if_true, if_false, eq_self, bOne, Nat.reduceLT, Nat.reduceEqDiff, List.map_cons, List.map_nil, List.cons_append, List.nil_append, List.replicate, Nat.reduceSub, decide_true, decide_false, Bool.not_true, Bool.not_false]
        rw [hlo]
        rfl
      simp -implicitDefEqProofs only [DL.evB, DL.evN, beq_self_eq_true, DL.no6_look_two, DL.no6_at_most, DL.no6_join, DL.no6_meet, DL.no6_lowest, DL.no6_highest, DL.no3_look_order, not_false_eq_true, and_self, true_and, and_true, reduceIte, Bool.false_eq_true, List.length_map, List.length_range, List.length_append, List.getElem?_cons_zero, List.getElem?_cons_succ, List.set_cons_zero, List.set_cons_succ, fzE, wipeE, Option.bind_some, Option.map_some, List.length_cons, List.length_nil, cond_true, cond_false, Nat.reduceAdd, Nat.reduceLeDiff, Nat.zero_add, if_true, if_false, eq_self, bOne, Nat.reduceLT, Nat.reduceEqDiff, List.map_cons, List.map_nil, List.cons_append, List.nil_append, List.replicate, Nat.reduceSub, decide_true, decide_false, Bool.not_true, Bool.not_false, hmb]
      refine st_joins (as := (rowsA n le).map (fun x : Nat => (x : Int))) (us := (rowsU n le).map (fun x : Nat => (x : Int))) (by rw [eA, eA]) ej ?_
      rw [eA, eA]
      simp -implicitDefEqProofs only [DL.evB, DL.evN, beq_self_eq_true, DL.no6_look_two, DL.no6_at_most, DL.no6_join, DL.no6_meet, DL.no6_lowest, DL.no6_highest, DL.no3_look_order, not_false_eq_true, and_self, true_and, and_true, reduceIte, Bool.false_eq_true, List.length_map, List.length_range, List.length_append, List.getElem?_cons_zero, List.getElem?_cons_succ, List.set_cons_zero, List.set_cons_succ, fzE, wipeE, Option.bind_some, Option.map_some, List.length_cons, List.length_nil, cond_true, cond_false, Nat.reduceAdd, Nat.reduceLeDiff, Nat.zero_add, if_true, if_false, eq_self, bOne, Nat.reduceLT, Nat.reduceEqDiff, List.map_cons, List.map_nil, List.cons_append, List.nil_append, List.replicate, Nat.reduceSub, decide_true, decide_false, Bool.not_true, Bool.not_false]
      rw [rng1_nat (by omega)]
      simp -implicitDefEqProofs only [DL.evB, DL.evN, beq_self_eq_true, DL.no6_look_two, DL.no6_at_most, DL.no6_join, DL.no6_meet, DL.no6_lowest, DL.no6_highest, DL.no3_look_order, not_false_eq_true, and_self, true_and, and_true, reduceIte, Bool.false_eq_true, List.length_map, List.length_range, List.length_append, List.getElem?_cons_zero, List.getElem?_cons_succ, List.set_cons_zero, List.set_cons_succ, fzE, wipeE, Option.bind_some, Option.map_some, List.length_cons, List.length_nil, cond_true, cond_false, Nat.reduceAdd, Nat.reduceLeDiff, Nat.zero_add, if_true, if_false, eq_self, bOne, Nat.reduceLT, Nat.reduceEqDiff, List.map_cons, List.map_nil, List.cons_append, List.nil_append, List.replicate, Nat.reduceSub, decide_true, decide_false, Bool.not_true, Bool.not_false]
      refine wp_forL (fun pre e => ∃ o6 o7, pre.length ≤ 24 ∧ e = [some (.oI 0 nm5 [.int n, .lst ((rowsA n le).map nI), .lst ((rowsU n le).map nI), .dT ks (js.map .int), .dT ls (ms.map .int)]), some (.sh (.int n)), some (.sh (.lst (ps.map tI))), o1, o2, some (.ow ((pre.flatMap fun a => ((List.range n).filter fun b => !decide (a = b) && le a b).map fun b => (a, b)).map tI)), o6, o7]) ⟨_, _, by simp, rfl⟩ ?_ ?_
      · rintro pre a post e hx ⟨o6, o7, hpl, rfl⟩
        obtain ⟨ea, ha⟩ := range_split hx
        refine ⟨_, rfl, ?_⟩
        have a1 := ixN_lst (xs := rowsA n le) (k := a) (by rw [rowsA_length]; exact ha)
        simp -implicitDefEqProofs only [DL.evB, DL.evN, beq_self_eq_true, DL.no6_look_two, DL.no6_at_most, DL.no6_join, DL.no6_meet, DL.no6_lowest, DL.no6_highest, DL.no3_look_order, not_false_eq_true, and_self, true_and, and_true, reduceIte, Bool.false_eq_true, List.length_map, List.length_range, List.length_append, List.getElem?_cons_zero, List.getElem?_cons_succ, List.set_cons_zero, List.set_cons_succ, fzE, wipeE, Option.bind_some, Option.map_some, List.length_cons, List.length_nil, cond_true, cond_false, Nat.reduceAdd, Nat.reduceLeDiff, Nat.zero_add, if_true, if_false, eq_self, bOne, Nat.reduceLT, Nat.reduceEqDiff, List.map_cons, List.map_nil, List.cons_append, List.nil_append, List.replicate, Nat.reduceSub, decide_true, decide_false, Bool.not_true, Bool.not_false]
        rw [comp_tf (emb := nI) (xs := List.range n) (fun b => !decide (a = b) && le a b) (fun b => (a, b)) (by simp -implicitDefEqProofs only [DL.evB, DL.evN, beq_self_eq_true, DL.no6_look_two, DL.no6_at_most, DL.no6_join, DL.no6_meet, DL.no6_lowest, DL.no6_highest, DL.no3_look_order, not_false_eq_true, and_self, true_and, and_true, reduceIte, Bool.false_eq_true, List.length_map, List.length_range, List.length_append, List.getElem?_cons_zero, List.getElem?_cons_succ, List.set_cons_zero, List.set_cons_succ, fzE, wipeE, Option.bind_some, Option.map_some, List.length_cons, List.length_nil, cond_true, cond_false, Nat.reduceAdd, Nat.reduceLeDiff, Nat.zero_add, if_true, if_false, eq_self, bOne, Nat.reduceLT, Nat.reduceEqDiff, List.map_cons, List.map_nil, List.cons_append, List.nil_append, List.replicate, Nat.reduceSub, decide_true, decide_false, Bool.not_true, Bool.not_false]; rw [rng1_nat (by omega)]) (by rw [List.length_range]; unfold lim; omega) (fun b hb => ⟨_, rfl, by
          have hb := List.mem_range.mp hb
          simp -implicitDefEqProofs only [DL.evB, DL.evN, beq_self_eq_true, DL.no6_look_two, DL.no6_at_most, DL.no6_join, DL.no6_meet, DL.no6_lowest, DL.no6_highest, DL.no3_look_order, not_false_eq_true, and_self, true_and, and_true, reduceIte, Bool.false_eq_true, List.length_map, List.length_range, List.length_append, List.getElem?_cons_zero, List.getElem?_cons_succ, List.set_cons_zero, List.set_cons_succ, fzE, wipeE, Option.bind_some, Option.map_some, List.length_cons, List.length_nil, cond_true, cond_false, Nat.reduceAdd, Nat.reduceLeDiff, Nat.zero_add, if_true, if_false, eq_self, bOne, Nat.reduceLT, Nat.reduceEqDiff, List.map_cons, List.map_nil, List.cons_append, List.nil_append, List.replicate, Nat.reduceSub, decide_true, decide_false, Bool.not_true, Bool.not_false, a1, tb_dec, testA ha hb], fun _ => by simp -implicitDefEqProofs only [DL.evB, DL.evN, beq_self_eq_true, DL.no6_look_two, DL.no6_at_most, DL.no6_join, DL.no6_meet, DL.no6_lowest, DL.no6_highest, DL.no3_look_order, not_false_eq_true, and_self, true_and, and_true, reduceIte, Bool.false_eq_true, List.length_map, List.length_range, List.length_append, List.getElem?_cons_zero, List.getElem?_cons_succ, List.set_cons_zero, List.set_cons_succ, fzE, wipeE, Option.bind_some, Option.map_some, List.length_cons, List.length_nil, cond_true, cond_false, Nat.reduceAdd, Nat.reduceLeDiff, Nat.zero_add, if_true, if_false, eq_self, bOne, Nat.reduceLT, Nat.reduceEqDiff, List.map_cons, List.map_nil, List.cons_append, List.nil_append, List.replicate, Nat.reduceSub, decide_true, decide_false, Bool.not_true, Bool.not_false]⟩)]
        rw [extB_ok (es := (((List.range n).filter fun b => !decide (a = b) && le a b).map fun b => (a, b)).map tI) rfl (by
          have h1 : ∀ l : List Nat, (l.flatMap fun a => ((List.range n).filter fun b => !decide (a = b) && le a b).map fun b => (a, b)).length ≤ l.length * n := by
            intro l
            induction l with
            | nil => simp
            | cons y l ih =>
              rw [List.flatMap_cons, List.length_append, List.length_map, List.length_cons, Nat.add_mul]
              have := List.length_filter_le (fun b => !decide (y = b) && le y b) (List.range n)
              rw [List.length_range] at this
              omega
          have h2 := h1 pre
          have h3 := List.length_filter_le (fun b => !decide (a = b) && le a b) (List.range n)
          rw [List.length_range] at h3
          have h4 : pre.length * n ≤ 24 * 24 := Nat.mul_le_mul hpl hn
          simp only [List.length_map]
          unfold lim; omega)]
        simp -implicitDefEqProofs only [DL.evB, DL.evN, beq_self_eq_true, DL.no6_look_two, DL.no6_at_most, DL.no6_join, DL.no6_meet, DL.no6_lowest, DL.no6_highest, DL.no3_look_order, not_false_eq_true, and_self, true_and, and_true, reduceIte, Bool.false_eq_true, List.length_map, List.length_range, List.length_append, List.getElem?_cons_zero, List.getElem?_cons_succ, List.set_cons_zero, List.set_cons_succ, fzE, wipeE, Option.bind_some, Option.map_some, List.length_cons, List.length_nil, cond_true, cond_false, Nat.reduceAdd, Nat.reduceLeDiff, Nat.zero_add, if_true, if_false, eq_self, bOne, Nat.reduceLT, Nat.reduceEqDiff, List.map_cons, List.map_nil, List.cons_append, List.nil_append, List.replicate, Nat.reduceSub, decide_true, decide_false, Bool.not_true, Bool.not_false]
        refine ⟨some (.sh (.int a)), o7, by omega, ?_⟩
        rw [List.flatMap_append, List.map_append, List.flatMap_cons, List.flatMap_nil, List.append_nil]
      · rintro e ⟨o6, o7, _, rfl⟩
        simp -implicitDefEqProofs only [DL.evB, DL.evN, beq_self_eq_true, DL.no6_look_two, DL.no6_at_most, DL.no6_join, DL.no6_meet, DL.no6_lowest, DL.no6_highest, DL.no3_look_order, not_false_eq_true, and_self, true_and, and_true, reduceIte, Bool.false_eq_true, List.length_map, List.length_range, List.length_append, List.getElem?_cons_zero, List.getElem?_cons_succ, List.set_cons_zero, List.set_cons_succ, fzE, wipeE, Option.bind_some, Option.map_some, List.length_cons, List.length_nil, cond_true, cond_false, Nat.reduceAdd, Nat.reduceLeDiff, Nat.zero_add, if_true, if_false, eq_self, bOne, Nat.reduceLT, Nat.reduceEqDiff, List.map_cons, List.map_nil, List.cons_append, List.nil_append, List.replicate, Nat.reduceSub, decide_true, decide_false, Bool.not_true, Bool.not_false]
        refine st_fld (d := .tup ((below n le).map tI)) (by simp -implicitDefEqProofs only [DL.evB, DL.evN, beq_self_eq_true, DL.no6_look_two, DL.no6_at_most, DL.no6_join, DL.no6_meet, DL.no6_lowest, DL.no6_highest, DL.no3_look_order, not_false_eq_true, and_self, true_and, and_true, reduceIte, Bool.false_eq_true, List.length_map, List.length_range, List.length_append, List.getElem?_cons_zero, List.getElem?_cons_succ, List.set_cons_zero, List.set_cons_succ, fzE, wipeE, Option.bind_some, Option.map_some, List.length_cons, List.length_nil, cond_true, cond_false, Nat.reduceAdd, Nat.reduceLeDiff, Nat.zero_add, if_true, if_false, eq_self, bOne, Nat.reduceLT, Nat.reduceEqDiff, List.map_cons, List.map_nil, List.cons_append, List.nil_append, List.replicate, Nat.reduceSub, decide_true, decide_false, Bool.not_true, Bool.not_false]; rfl) rfl (by decide) ?_
        simp -implicitDefEqProofs only [List.set_cons_zero, put5, putv5]
        simp -implicitDefEqProofs only [DL.evB, DL.evN, beq_self_eq_true, DL.no6_look_two, DL.no6_at_most, DL.no6_join, DL.no6_meet, DL.no6_lowest, DL.no6_highest, DL.no3_look_order, not_false_eq_true, and_self, true_and, and_true, reduceIte, Bool.false_eq_true, List.length_map, List.length_range, List.length_append, List.getElem?_cons_zero, List.getElem?_cons_succ, List.set_cons_zero, List.set_cons_succ, fzE, wipeE, Option.bind_some, Option.map_some, List.length_cons, List.length_nil, cond_true, cond_false, Nat.reduceAdd, Nat.reduceLeDiff, Nat.zero_add, if_true, if_false, eq_self, bOne, Nat.reduceLT, Nat.reduceEqDiff, List.map_cons, List.map_nil, List.cons_append, List.nil_append, List.replicate, Nat.reduceSub, decide_true, decide_false, Bool.not_true, Bool.not_false]
        exact ⟨_, rfl⟩
  · simp only [D.awayL, Bool.and_true, Bool.and_eq_true]
    refine ⟨away_int _, away_lstN ne1, away_lstN ne2, ?_, ?_, ?_⟩
    · simp only [D.away]; exact away_map away_int _
    · simp only [D.away]; exact away_map away_int _
    · simp only [D.away]; exact away_map away_tI _
/-- Order(count, pairs) -/
theorem order_made {n : Nat} {le : Nat → Nat → Bool} {jn mt : Nat → Nat → Nat} (T : Lat n le jn mt) {ps : List (Nat × Nat)} (c : IsClo n ps le) (hps : ps.length ≤ 1000000) {env : Ev} {fa : Ev → O (List D)} (ha : fa env = .ok [.int n, .lst (ps.map tI)]) :
    ∃ d, fOrder F_order___init__ fa env = .ok (.sh d) ∧ IsOrd n le jn mt d := by
  obtain ⟨es, e1, e2, e3⟩ := init_spec T c hps
  refine ⟨_, ?_, e2⟩
  unfold fOrder
  rw [ha, o_bind]
  simp only
  rw [if_pos ⟨rfl, by cases ps <;> rfl⟩, e1]
  simp only
  rw [if_pos e3]
section
variable {n : Nat} {le : Nat → Nat → Bool} {jn mt : Nat → Nat → Nat} {d : D}
theorem two_spec (h : IsOrd n le jn mt d) {a b : Nat} (ha : a < n) (hb : b < n) : F_order_look_two [d, .int a, .int b] = .ok (.sh .non) := by
  obtain ⟨ks, js, ls, ms, rfl, _, _⟩ := h.ex
  refine fn_nx rfl ?_
  unfold f_order_look_two ordV
  simp -implicitDefEqProofs only [DL.evB, DL.evN, beq_self_eq_true, DL.no6_look_two, DL.no6_at_most, DL.no6_join, DL.no6_meet, DL.no6_lowest, DL.no6_highest, DL.no3_look_order, not_false_eq_true, and_self, true_and, and_true, reduceIte, Bool.false_eq_true, List.length_map, List.length_range, List.length_append, List.getElem?_cons_zero, List.getElem?_cons_succ, List.set_cons_zero, List.set_cons_succ, fzE, wipeE, Option.bind_some, Option.map_some, List.length_cons, List.length_nil, cond_true, cond_false, Nat.reduceAdd, Nat.reduceLeDiff, Nat.zero_add, if_true, if_false, eq_self, bOne, Nat.reduceLT, Nat.reduceEqDiff, List.map_cons, List.map_nil, List.cons_append, List.nil_append, List.replicate, Nat.reduceSub, decide_true, decide_false, Bool.not_true, Bool.not_false, thing_spec ha, thing_spec hb]
theorem at_most_spec (h : IsOrd n le jn mt d) {a b : Nat} (ha : a < n) (hb : b < n) : F_order_at_most [d, .int a, .int b] = .ok (.sh (.bl (le a b))) := by
  have h2 := two_spec h ha hb
  obtain ⟨ks, js, ls, ms, rfl, _, _⟩ := h.ex
  refine fn_eq rfl ?_
  have a1 := ixN_lst (xs := rowsA n le) (k := a) (by rw [rowsA_length]; exact ha)
  unfold f_order_at_most
  unfold ordV at h2 ⊢
  simp -implicitDefEqProofs only [DL.evB, DL.evN, beq_self_eq_true, DL.no6_look_two, DL.no6_at_most, DL.no6_join, DL.no6_meet, DL.no6_lowest, DL.no6_highest, DL.no3_look_order, not_false_eq_true, and_self, true_and, and_true, reduceIte, Bool.false_eq_true, List.length_map, List.length_range, List.length_append, List.getElem?_cons_zero, List.getElem?_cons_succ, List.set_cons_zero, List.set_cons_succ, fzE, wipeE, Option.bind_some, Option.map_some, List.length_cons, List.length_nil, cond_true, cond_false, Nat.reduceAdd, Nat.reduceLeDiff, Nat.zero_add, if_true, if_false, eq_self, bOne, Nat.reduceLT, Nat.reduceEqDiff, List.map_cons, List.map_nil, List.cons_append, List.nil_append, List.replicate, Nat.reduceSub, decide_true, decide_false, Bool.not_true, Bool.not_false, h2, a1, tb_dec, testA ha hb]
theorem ix_dT {ks : List (List Key)} {vs : List D} {a b : Nat} {v : D} (h : lk ks vs (kk a b) = some v) : dIx (.dT ks vs) (.tup [.int (a : Int), .int (b : Int)]) = some (.sh v) := by
  show (lk ks vs (kk a b)).map R.sh = _
  rw [h]; rfl
theorem join_is (h : IsOrd n le jn mt d) {a b : Nat} (ha : a < n) (hb : b < n) : F_order_join [d, .int a, .int b] = .ok (.sh (.int (jn a b : Nat))) := by
  have h2 := two_spec h ha hb
  obtain ⟨ks, js, ls, ms, rfl, h3, _⟩ := h.ex
  refine fn_eq rfl ?_
  unfold f_order_join
  unfold ordV at h2 ⊢
  simp -implicitDefEqProofs only [DL.evB, DL.evN, beq_self_eq_true, DL.no6_look_two, DL.no6_at_most, DL.no6_join, DL.no6_meet, DL.no6_lowest, DL.no6_highest, DL.no3_look_order, not_false_eq_true, and_self, true_and, and_true, reduceIte, Bool.false_eq_true, List.length_map, List.length_range, List.length_append, List.getElem?_cons_zero, List.getElem?_cons_succ, List.set_cons_zero, List.set_cons_succ, fzE, wipeE, Option.bind_some, Option.map_some, List.length_cons, List.length_nil, cond_true, cond_false, Nat.reduceAdd, Nat.reduceLeDiff, Nat.zero_add, if_true, if_false, eq_self, bOne, Nat.reduceLT, Nat.reduceEqDiff, List.map_cons, List.map_nil, List.cons_append, List.nil_append, List.replicate, Nat.reduceSub, decide_true, decide_false, Bool.not_true, Bool.not_false, h2, ix_dT (h3 a b ha hb)]
theorem meet_is (h : IsOrd n le jn mt d) {a b : Nat} (ha : a < n) (hb : b < n) : F_order_meet [d, .int a, .int b] = .ok (.sh (.int (mt a b : Nat))) := by
  have h2 := two_spec h ha hb
  obtain ⟨ks, js, ls, ms, rfl, _, h3⟩ := h.ex
  refine fn_eq rfl ?_
  unfold f_order_meet
  unfold ordV at h2 ⊢
  simp -implicitDefEqProofs only [DL.evB, DL.evN, beq_self_eq_true, DL.no6_look_two, DL.no6_at_most, DL.no6_join, DL.no6_meet, DL.no6_lowest, DL.no6_highest, DL.no3_look_order, not_false_eq_true, and_self, true_and, and_true, reduceIte, Bool.false_eq_true, List.length_map, List.length_range, List.length_append, List.getElem?_cons_zero, List.getElem?_cons_succ, List.set_cons_zero, List.set_cons_succ, fzE, wipeE, Option.bind_some, Option.map_some, List.length_cons, List.length_nil, cond_true, cond_false, Nat.reduceAdd, Nat.reduceLeDiff, Nat.zero_add, if_true, if_false, eq_self, bOne, Nat.reduceLT, Nat.reduceEqDiff, List.map_cons, List.map_nil, List.cons_append, List.nil_append, List.replicate, Nat.reduceSub, decide_true, decide_false, Bool.not_true, Bool.not_false, h2, ix_dT (h3 a b ha hb)]
theorem are_step_spec (P : Pos n le) (h : IsOrd n le jn mt d) (hn : n ≤ 24) {a b : Nat} (ha : a < n) (hb : b < n) : F_are_step [d, .int a, .int b] = .ok (.sh (.bl (cov n le a b))) := by
  obtain ⟨ks, js, ls, ms, rfl, _, _⟩ := h.ex
  refine fn_eq rfl ?_
  have a1 := ixN_lst (xs := rowsA n le) (k := a) (by rw [rowsA_length]; exact ha)
  have u1 := ixN_lst (xs := rowsU n le) (k := b) (by rw [rowsU_length]; exact hb)
  unfold f_are_step ordV
  simp -implicitDefEqProofs only [DL.evB, DL.evN, beq_self_eq_true, DL.no6_look_two, DL.no6_at_most, DL.no6_join, DL.no6_meet, DL.no6_lowest, DL.no6_highest, DL.no3_look_order, not_false_eq_true, and_self, true_and, and_true, reduceIte, Bool.false_eq_true, List.length_map, List.length_range, List.length_append, List.getElem?_cons_zero, List.getElem?_cons_succ, List.set_cons_zero, List.set_cons_succ, fzE, wipeE, Option.bind_some, Option.map_some, List.length_cons, List.length_nil, cond_true, cond_false, Nat.reduceAdd, Nat.reduceLeDiff, Nat.zero_add, if_true, if_false, eq_self, bOne, Nat.reduceLT, Nat.reduceEqDiff, List.map_cons, List.map_nil, List.cons_append, List.nil_append, List.replicate, Nat.reduceSub, decide_true, decide_false, Bool.not_true, Bool.not_false, a1, u1, shl1_nat (b := a) (by omega), shl1_nat (b := b) (by omega)]
  by_cases e : a = b
  · subst e
    have : cov n le a a = false := by
      cases q : cov n le a a with
      | false => rfl
      | true => exact absurd rfl (cov_iff.mp q).2.1
    simp [this]
  · rw [mask_cov P ha hb e, decide_eq_false e]
    rfl
theorem psteps_spec (P : Pos n le) (h : IsOrd n le jn mt d) (hn : n ≤ 24) : F_steps [d] = .ok (.fr (.ow ((covs n le).map tI))) := by
  have hst := fun a b ha hb => are_step_spec P h hn (a := a) (b := b) ha hb
  obtain ⟨ks, js, ls, ms, rfl, _, _⟩ := h.ex
  refine fn_eq rfl ?_
  unfold f_steps
  unfold ordV at hst ⊢
  simp -implicitDefEqProofs only [DL.evB, DL.evN, beq_self_eq_true, DL.no6_look_two, DL.no6_at_most, DL.no6_join, DL.no6_meet, DL.no6_lowest, DL.no6_highest, DL.no3_look_order, not_false_eq_true, and_self, true_and, and_true, reduceIte, Bool.false_eq_true, List.length_map, List.length_range, List.length_append, List.getElem?_cons_zero, List.getElem?_cons_succ, List.set_cons_zero, List.set_cons_succ, fzE, wipeE, Option.bind_some, Option.map_some, List.length_cons, List.length_nil, cond_true, cond_false, Nat.reduceAdd, Nat.reduceLeDiff, Nat.zero_add, if_true, if_false, eq_self, bOne, Nat.reduceLT, Nat.reduceEqDiff, List.map_cons, List.map_nil, List.cons_append, List.nil_append, List.replicate, Nat.reduceSub, decide_true, decide_false, Bool.not_true, Bool.not_false]
  rw [rng1_nat (by omega)]
  simp -implicitDefEqProofs only [DL.evB, DL.evN, beq_self_eq_true, DL.no6_look_two, DL.no6_at_most, DL.no6_join, DL.no6_meet, DL.no6_lowest, DL.no6_highest, DL.no3_look_order, not_false_eq_true, and_self, true_and, and_true, reduceIte, Bool.false_eq_true, List.length_map, List.length_range, List.length_append, List.getElem?_cons_zero, List.getElem?_cons_succ, List.set_cons_zero, List.set_cons_succ, fzE, wipeE, Option.bind_some, Option.map_some, List.length_cons, List.length_nil, cond_true, cond_false, Nat.reduceAdd, Nat.reduceLeDiff, Nat.zero_add, if_true, if_false, eq_self, bOne, Nat.reduceLT, Nat.reduceEqDiff, List.map_cons, List.map_nil, List.cons_append, List.nil_append, List.replicate, Nat.reduceSub, decide_true, decide_false, Bool.not_true, Bool.not_false]
  refine wp_forL (fun pre e => ∃ o2, pre.length ≤ 24 ∧ e = [some (.sh (ordV n le ks js ls ms)), some (.ow ((pre.flatMap fun a => ((List.range n).filter (cov n le a)).map fun b => (a, b)).map tI)), o2, none]) ⟨_, by simp, rfl⟩ ?_ ?_
  · rintro pre a post e hx ⟨o2, hpl, rfl⟩
    obtain ⟨ea, ha⟩ := range_split hx
    refine ⟨_, rfl, ?_⟩
    unfold ordV
    simp -implicitDefEqProofs only [DL.evB, DL.evN, beq_self_eq_true, DL.no6_look_two, DL.no6_at_most, DL.no6_join, DL.no6_meet, DL.no6_lowest, DL.no6_highest, DL.no3_look_order, not_false_eq_true, and_self, true_and, and_true, reduceIte, Bool.false_eq_true, List.length_map, List.length_range, List.length_append, List.getElem?_cons_zero, List.getElem?_cons_succ, List.set_cons_zero, List.set_cons_succ, fzE, wipeE, Option.bind_some, Option.map_some, List.length_cons, List.length_nil, cond_true, cond_false, Nat.reduceAdd, Nat.reduceLeDiff, Nat.zero_add, if_true, if_false, eq_self, bOne, Nat.reduceLT, Nat.reduceEqDiff, List.map_cons, List.map_nil, List.cons_append, List.nil_append, List.replicate, Nat.reduceSub, decide_true, decide_false, Bool.not_true, Bool.not_false]
    rw [comp_tf (emb := nI) (xs := List.range n) (cov n le a) (fun b => (a, b)) (by simp -implicitDefEqProofs only [DL.evB, DL.evN, beq_self_eq_true, DL.no6_look_two, DL.no6_at_most, DL.no6_join, DL.no6_meet, DL.no6_lowest, DL.no6_highest, DL.no3_look_order, not_false_eq_true, and_self, true_and, and_true, reduceIte, Bool.false_eq_true, List.length_map, List.length_range, List.length_append, List.getElem?_cons_zero, List.getElem?_cons_succ, List.set_cons_zero, List.set_cons_succ, fzE, wipeE, Option.bind_some, Option.map_some, List.length_cons, List.length_nil, cond_true, cond_false, Nat.reduceAdd, Nat.reduceLeDiff, Nat.zero_add, if_true, if_false, eq_self, bOne, Nat.reduceLT, Nat.reduceEqDiff, List.map_cons, List.map_nil, List.cons_append, List.nil_append, List.replicate, Nat.reduceSub, decide_true, decide_false, Bool.not_true, Bool.not_false]; rw [rng1_nat (by omega)]) (by rw [List.length_range]; unfold lim; omega) (fun b hb => ⟨_, rfl, by
      have hb := List.mem_range.mp hb
      simp -implicitDefEqProofs only [DL.evB, DL.evN, beq_self_eq_true, DL.no6_look_two, DL.no6_at_most, DL.no6_join, DL.no6_meet, DL.no6_lowest, DL.no6_highest, DL.no3_look_order, not_false_eq_true, and_self, true_and, and_true, reduceIte, Bool.false_eq_true, List.length_map, List.length_range, List.length_append, List.getElem?_cons_zero, List.getElem?_cons_succ, List.set_cons_zero, List.set_cons_succ, fzE, wipeE, Option.bind_some, Option.map_some, List.length_cons, List.length_nil, cond_true, cond_false, Nat.reduceAdd, Nat.reduceLeDiff, Nat.zero_add, if_true, if_false, eq_self, bOne, Nat.reduceLT, Nat.reduceEqDiff, List.map_cons, List.map_nil, List.cons_append, List.nil_append, List.replicate, Nat.reduceSub, decide_true, decide_false, Bool.not_true, Bool.not_false, hst a b ha hb], fun _ => by simp -implicitDefEqProofs only [DL.evB, DL.evN, beq_self_eq_true, DL.no6_look_two, DL.no6_at_most, DL.no6_join, DL.no6_meet, DL.no6_lowest, DL.no6_highest, DL.no3_look_order, not_false_eq_true, and_self, true_and, and_true, reduceIte, Bool.false_eq_true, List.length_map, List.length_range, List.length_append, List.getElem?_cons_zero, List.getElem?_cons_succ, List.set_cons_zero, List.set_cons_succ, fzE, wipeE, Option.bind_some, Option.map_some, List.length_cons, List.length_nil, cond_true, cond_false, Nat.reduceAdd, Nat.reduceLeDiff, Nat.zero_add, if_true, if_false, eq_self, bOne, Nat.reduceLT, Nat.reduceEqDiff, List.map_cons, List.map_nil, List.cons_append, List.nil_append, List.replicate, Nat.reduceSub, decide_true, decide_false, Bool.not_true, Bool.not_false]⟩)]
    rw [extB_ok (es := (((List.range n).filter (cov n le a)).map fun b => (a, b)).map tI) rfl (by
      have h1 : ∀ l : List Nat, (l.flatMap fun a => ((List.range n).filter (cov n le a)).map fun b => (a, b)).length ≤ l.length * n := by
        intro l
        induction l with
        | nil => simp
        | cons y l ih =>
          rw [List.flatMap_cons, List.length_append, List.length_map, List.length_cons, Nat.add_mul]
          have := List.length_filter_le (cov n le y) (List.range n)
          rw [List.length_range] at this
          omega
      have h2 := h1 pre
      have h3 := List.length_filter_le (cov n le a) (List.range n)
      rw [List.length_range] at h3
      have h4 : pre.length * n ≤ 24 * 24 := Nat.mul_le_mul hpl hn
      simp only [List.length_map]
      unfold lim; omega)]
    simp -implicitDefEqProofs only [DL.evB, DL.evN, beq_self_eq_true, DL.no6_look_two, DL.no6_at_most, DL.no6_join, DL.no6_meet, DL.no6_lowest, DL.no6_highest, DL.no3_look_order, not_false_eq_true, and_self, true_and, and_true, reduceIte, Bool.false_eq_true, List.length_map, List.length_range, List.length_append, List.getElem?_cons_zero, List.getElem?_cons_succ, List.set_cons_zero, List.set_cons_succ, fzE, wipeE, Option.bind_some, Option.map_some, List.length_cons, List.length_nil, cond_true, cond_false, Nat.reduceAdd, Nat.reduceLeDiff, Nat.zero_add, if_true, if_false, eq_self, bOne, Nat.reduceLT, Nat.reduceEqDiff, List.map_cons, List.map_nil, List.cons_append, List.nil_append, List.replicate, Nat.reduceSub, decide_true, decide_false, Bool.not_true, Bool.not_false]
    refine ⟨some (.sh (.int a)), by omega, ?_⟩
    rw [List.flatMap_append, List.map_append, List.flatMap_cons, List.flatMap_nil, List.append_nil]
  · rintro e ⟨o2, _, rfl⟩
    simp -implicitDefEqProofs only [DL.evB, DL.evN, beq_self_eq_true, DL.no6_look_two, DL.no6_at_most, DL.no6_join, DL.no6_meet, DL.no6_lowest, DL.no6_highest, DL.no3_look_order, not_false_eq_true, and_self, true_and, and_true, reduceIte, Bool.false_eq_true, List.length_map, List.length_range, List.length_append, List.getElem?_cons_zero, List.getElem?_cons_succ, List.set_cons_zero, List.set_cons_succ, fzE, wipeE, Option.bind_some, Option.map_some, List.length_cons, List.length_nil, cond_true, cond_false, Nat.reduceAdd, Nat.reduceLeDiff, Nat.zero_add, if_true, if_false, eq_self, bOne, Nat.reduceLT, Nat.reduceEqDiff, List.map_cons, List.map_nil, List.cons_append, List.nil_append, List.replicate, Nat.reduceSub, decide_true, decide_false, Bool.not_true, Bool.not_false]
    rfl
end
end Ev
namespace Ev
open PySem PySem.Spec L2 DL
theorem made {n : Nat} {le : Nat → Nat → Bool} {jn mt : Nat → Nat → Nat} (T : Lat n le jn mt) {ps : List (Nat × Nat)} (c : IsClo n ps le) (hps : ps.length ≤ 1000000) :
    ∃ d, orderB F_order___init__ (.ok [.int n, .lst (ps.map tI)]) = .ok (.sh d) ∧ IsOrd n le jn mt d := by
  obtain ⟨d, e, h⟩ := order_made T c hps (env := []) (fa := fun _ => .ok [.int n, .lst (ps.map tI)]) rfl
  rw [ev_order] at e
  exact ⟨d, e, h⟩
end Ev

/-! SA6: an order of the laws k01 to k46, made. -/
namespace Ev
open PySem PySem.Spec L2 DL
theorem order_of (ns : List Int) (c : Nat) {m : List Nat} (g : Good m) : ∃ (ps : List (Nat × Nat)) (d : D) (c' : Int) (ds : List Nat), ps.length ≤ 1000 ∧ (∀ p ∈ ps, mle m p.1 p.2 = true) ∧ F__law_cell_at [.lkd (ns.map D.int), .int (c : Nat)] = .ok (.sh (.int c')) ∧ F__law_draws [.int c', .int (8 : Nat)] = .ok (.fr (.ow (ds.map nI))) ∧ F__law_handed [.lst (m.map nI), .lst (ds.map nI)] = .ok (.fr (.ow (ps.map tI))) ∧
    orderB F_order___init__ (.ok [.int (m.length : Nat), .lst (ps.map tI)]) = .ok (.sh d) ∧ IsOrd m.length (mle m) (mjn m) (mmt m) d := by
  obtain ⟨c', ec⟩ := cell_spec ns c
  obtain ⟨ds, dl, _, ed⟩ := draws_spec c' 8 (by omega)
  obtain ⟨ps, h1, h2, h3, eh⟩ := handed_spec g ds dl
  obtain ⟨d, e, hd⟩ := made g.lat (g.lat.po.clo h1 h2) (by omega)
  exact ⟨ps, d, c', ds, h3, h1, ec, ed, eh, e, hd⟩
theorem pure_lstT {n : Nat} {p : List (Nat × Nat)} : D.pure (n + 2) (.lst (p.map tI)) = true := by simp only [D.pure]; exact pure_map (fun _ => pure_tI) p
theorem pure_tupT {n : Nat} {p : List (Nat × Nat)} : D.pure (n + 2) (.tup (p.map tI)) = true := by simp only [D.pure]; exact pure_map (fun _ => pure_tI) p
theorem pure_lstN {n : Nat} {p : List Nat} : D.pure (n + 1) (.lst (p.map nI)) = true := by simp only [D.pure]; exact pure_map (fun _ => pure_nI) p
theorem eq_self {d : D} (h : D.pure 60 d = true) : dEq d d = some (.sh (.bl true)) := by rw [eq_pure (n := 60) (by omega) h h True (by simp)]; rfl
theorem ne_self {d : D} (h : D.pure 60 d = true) : dNe d d = some (.sh (.bl false)) := by rw [ne_pure (n := 60) (by omega) h h True (by simp)]; rfl
theorem two0 {a b : D} : dIx (.lst [a, b]) (.int ((0 : Nat) : Int)) = some (.sh a) := ix_lst (k := 0) rfl
theorem two1 {a b : D} : dIx (.lst [a, b]) (.int ((1 : Nat) : Int)) = some (.sh b) := ix_lst (k := 1) rfl
theorem one0 {a : D} : dIx (.lst [a]) (.int ((0 : Nat) : Int)) = some (.sh a) := ix_lst (k := 0) rfl
end Ev
namespace Ev
open PySem PySem.Spec L2 DL
theorem cells1 (a : Nat) (xs : List Int) (h : xs.length ≤ 1000) : ∃ cs : List Int, dAdd (.lst [.int (a : Nat)]) (.lst (xs.map D.int)) = some (.fr (.ow (cs.map D.int))) := by
  refine ⟨[(a : Int)] ++ xs, ?_⟩
  rw [show [D.int (a : Int)] = ([(a : Int)] : List Int).map D.int from rfl, add_nIs (by simp; omega)]
theorem cells2 (a b : Nat) (xs : List Int) (h : xs.length ≤ 1000) : ∃ cs : List Int, dAdd (.lst [.int (a : Nat), .int (b : Nat)]) (.lst (xs.map D.int)) = some (.fr (.ow (cs.map D.int))) := by
  refine ⟨[(a : Int), (b : Int)] ++ xs, ?_⟩
  rw [show [D.int (a : Int), D.int (b : Int)] = ([(a : Int), (b : Int)] : List Int).map D.int from rfl, add_nIs (by simp; omega)]
end Ev

/-! Xf: lowest and highest, laws of joins and meets. -/
namespace Ev
variable {n : Nat} {le : Nat → Nat → Bool} {jn mt : Nat → Nat → Nat}
theorem Lat.bot (T : Lat n le jn mt) : ∃ b, b < n ∧ ∀ a, a < n → le b a = true := by
  have : ∀ k, k < n → ∃ b, b < n ∧ ∀ a, a ≤ k → le b a = true := by
    intro k
    induction k with
    | zero => intro h; exact ⟨0, h, fun a ha => by have : a = 0 := by omega
                                                   subst this; exact T.rf h⟩
    | succ k ih =>
      intro h
      obtain ⟨b, hb, q⟩ := ih (by omega)
      refine ⟨mt b (k + 1), T.mlt hb h, fun a ha => ?_⟩
      by_cases e : a = k + 1
      · subst e; exact T.mr hb h
      · exact T.tr (T.ml hb h) (q a (by omega))
  obtain ⟨b, hb, q⟩ := this (n - 1) (by have := T.pos; omega)
  exact ⟨b, hb, fun a ha => q a (by omega)⟩
theorem Lat.top (T : Lat n le jn mt) : ∃ b, b < n ∧ ∀ a, a < n → le a b = true := T.dual.bot
theorem filter_single {p : Nat → Bool} {b : Nat} (hb : b < n) (h : ∀ t, t < n → (p t = true ↔ t = b)) : (List.range n).filter p = [b] := by
  have e : (List.range n).filter p = (List.range n).filter fun t => decide (t = b) := by
    apply List.filter_congr
    intro x hx
    rw [Bool.eq_iff_iff, h x (List.mem_range.mp hx), decide_eq_true_iff]
  rw [e]
  have : ∀ m, (List.range m).filter (fun t => decide (t = b)) = if b < m then [b] else [] := by
    intro m
    induction m with
    | zero => simp
    | succ m ih =>
      rw [List.range_succ, List.filter_append, ih]
      by_cases h1 : b < m
      · rw [if_pos h1, if_pos (by omega), List.filter_cons_of_neg (by simp; omega)]; simp
      · by_cases h2 : m = b
        · subst h2; simp
        · rw [if_neg h1, if_neg (by omega), List.filter_cons_of_neg (by simpa using h2)]; simp
  rw [this, if_pos hb]
theorem low_one (T : Lat n le jn mt) {b : Nat} (hb : b < n) (q : ∀ a, a < n → le b a = true) : (List.range n).filter (fun t => decide ((rowsU n le).getD t 0 = 1 <<< t)) = [b] := by
  refine filter_single hb fun t ht => ?_
  rw [decide_eq_true_iff, rowsU_get ht]
  constructor
  · intro h
    have := congrArg (fun x => x.testBit b) h
    simp only [testBit_rowOf, testBit_shl1] at this
    rw [decide_eq_true hb, q t ht] at this
    simpa using this
  · rintro rfl
    apply Nat.eq_of_testBit_eq
    intro i
    rw [testBit_rowOf, testBit_shl1, Bool.eq_iff_iff]
    simp only [Bool.and_eq_true, decide_eq_true_eq]
    constructor
    · rintro ⟨hi, h⟩; exact T.anti (q i hi) h
    · rintro rfl; exact ⟨hb, T.rf hb⟩
theorem high_one (T : Lat n le jn mt) {b : Nat} (hb : b < n) (q : ∀ a, a < n → le a b = true) : (List.range n).filter (fun t => decide ((rowsA n le).getD t 0 = 1 <<< t)) = [b] := low_one T.dual hb q
theorem Lat.jn_iff (T : Lat n le jn mt) {a b : Nat} (ha : a < n) (hb : b < n) : jn a b = b ↔ le a b = true :=
  ⟨fun h => by rw [← h]; exact T.jl ha hb, fun h => T.anti (T.jm h (T.rf hb)) (T.jr ha hb)⟩
theorem Lat.mt_iff (T : Lat n le jn mt) {a b : Nat} (ha : a < n) (hb : b < n) : mt a b = a ↔ le a b = true :=
  ⟨fun h => by rw [← h]; exact T.mr ha hb, fun h => T.anti (T.ml ha hb) (T.mm (T.rf ha) h)⟩
theorem Lat.jn_assoc (T : Lat n le jn mt) {a b c : Nat} (ha : a < n) (hb : b < n) (hc : c < n) : jn (jn a b) c = jn a (jn b c) := by
  have h1 := T.jlt ha hb
  have h2 := T.jlt hb hc
  refine T.anti (T.jm (T.jm (T.jl ha h2) (T.tr (T.jl hb hc) (T.jr ha h2))) (T.tr (T.jr hb hc) (T.jr ha h2))) (T.jm (T.tr (T.jl ha hb) (T.jl h1 hc)) (T.jm (T.tr (T.jr ha hb) (T.jl h1 hc)) (T.jr h1 hc)))
theorem Lat.mt_assoc (T : Lat n le jn mt) {a b c : Nat} (ha : a < n) (hb : b < n) (hc : c < n) : mt (mt a b) c = mt a (mt b c) := T.dual.jn_assoc ha hb hc
theorem Lat.absorb (T : Lat n le jn mt) {a b : Nat} (ha : a < n) (hb : b < n) : jn a (mt a b) = a := by
  rw [T.jn_comm ha (T.mlt ha hb)]; exact (T.jn_iff (T.mlt ha hb) ha).mpr (T.ml ha hb)
theorem Lat.absorb' (T : Lat n le jn mt) {a b : Nat} (ha : a < n) (hb : b < n) : mt a (jn a b) = a := T.dual.absorb ha hb
end Ev

/-! SP4: lowest, highest. -/
namespace Ev
open PySem PySem.Spec L2 DL
section
variable {n : Nat} {le : Nat → Nat → Bool} {jn mt : Nat → Nat → Nat} {d : D}
theorem lowest_spec (T : Lat n le jn mt) (h : IsOrd n le jn mt d) {b : Nat} (hb : b < n) (q : ∀ a, a < n → le b a = true) : F_order_lowest [d] = .ok (.sh (.int (b : Nat))) := by
  obtain ⟨ks, js, ls, ms, rfl, _, _⟩ := h.ex
  have hn := T.n24
  refine fn_eq rfl ?_
  unfold f_order_lowest ordV
  simp -implicitDefEqProofs only [DL.evB, DL.evN, beq_self_eq_true, DL.no6_look_two, DL.no6_at_most, DL.no6_join, DL.no6_meet, DL.no6_lowest, DL.no6_highest, DL.no3_look_order, not_false_eq_true, and_self, true_and, and_true, reduceIte, Bool.false_eq_true, List.length_map, List.length_range, List.length_append, List.getElem?_cons_zero, List.getElem?_cons_succ, List.set_cons_zero, List.set_cons_succ, fzE, wipeE, Option.bind_some, Option.map_some, List.length_cons, List.length_nil, cond_true, cond_false, Nat.reduceAdd, Nat.reduceLeDiff, Nat.zero_add, if_true, if_false, eq_self, bOne, Nat.reduceLT, Nat.reduceEqDiff, List.map_cons, List.map_nil, List.cons_append, List.nil_append, List.replicate, Nat.reduceSub, decide_true, decide_false, Bool.not_true, Bool.not_false]
  rw [comp_nf (emb := nI) (xs := List.range n) (fun t => decide ((rowsU n le).getD t 0 = 1 <<< t)) (fun t => t) (by simp -implicitDefEqProofs only [DL.evB, DL.evN, beq_self_eq_true, DL.no6_look_two, DL.no6_at_most, DL.no6_join, DL.no6_meet, DL.no6_lowest, DL.no6_highest, DL.no3_look_order, not_false_eq_true, and_self, true_and, and_true, reduceIte, Bool.false_eq_true, List.length_map, List.length_range, List.length_append, List.getElem?_cons_zero, List.getElem?_cons_succ, List.set_cons_zero, List.set_cons_succ, fzE, wipeE, Option.bind_some, Option.map_some, List.length_cons, List.length_nil, cond_true, cond_false, Nat.reduceAdd, Nat.reduceLeDiff, Nat.zero_add, if_true, if_false, eq_self, bOne, Nat.reduceLT, Nat.reduceEqDiff, List.map_cons, List.map_nil, List.cons_append, List.nil_append, List.replicate, Nat.reduceSub, decide_true, decide_false, Bool.not_true, Bool.not_false]; rw [rng1_nat (by omega)]) (by rw [List.length_range]; unfold lim; omega) (fun t ht => ⟨_, rfl, by
    have ht := List.mem_range.mp ht
    simp -implicitDefEqProofs only [DL.evB, DL.evN, beq_self_eq_true, DL.no6_look_two, DL.no6_at_most, DL.no6_join, DL.no6_meet, DL.no6_lowest, DL.no6_highest, DL.no3_look_order, not_false_eq_true, and_self, true_and, and_true, reduceIte, Bool.false_eq_true, List.length_map, List.length_range, List.length_append, List.getElem?_cons_zero, List.getElem?_cons_succ, List.set_cons_zero, List.set_cons_succ, fzE, wipeE, Option.bind_some, Option.map_some, List.length_cons, List.length_nil, cond_true, cond_false, Nat.reduceAdd, Nat.reduceLeDiff, Nat.zero_add, if_true, if_false, eq_self, bOne, Nat.reduceLT, Nat.reduceEqDiff, List.map_cons, List.map_nil, List.cons_append, List.nil_append, List.replicate, Nat.reduceSub, decide_true, decide_false, Bool.not_true, Bool.not_false, ixN_lst (xs := rowsU n le) (k := t) (by rw [rowsU_length]; exact ht), shl1_nat (b := t) (by omega)], fun _ => by simp -implicitDefEqProofs only [DL.evB, DL.evN, beq_self_eq_true, DL.no6_look_two, DL.no6_at_most, DL.no6_join, DL.no6_meet, DL.no6_lowest, DL.no6_highest, DL.no3_look_order, not_false_eq_true, and_self, true_and, and_true, reduceIte, Bool.false_eq_true, List.length_map, List.length_range, List.length_append, List.getElem?_cons_zero, List.getElem?_cons_succ, List.set_cons_zero, List.set_cons_succ, fzE, wipeE, Option.bind_some, Option.map_some, List.length_cons, List.length_nil, cond_true, cond_false, Nat.reduceAdd, Nat.reduceLeDiff, Nat.zero_add, if_true, if_false, eq_self, bOne, Nat.reduceLT, Nat.reduceEqDiff, List.map_cons, List.map_nil, List.cons_append, List.nil_append, List.replicate, Nat.reduceSub, decide_true, decide_false, Bool.not_true, Bool.not_false]⟩), low_one T hb q]
  simp -implicitDefEqProofs only [DL.evB, DL.evN, beq_self_eq_true, DL.no6_look_two, DL.no6_at_most, DL.no6_join, DL.no6_meet, DL.no6_lowest, DL.no6_highest, DL.no3_look_order, not_false_eq_true, and_self, true_and, and_true, reduceIte, Bool.false_eq_true, List.length_map, List.length_range, List.length_append, List.getElem?_cons_zero, List.getElem?_cons_succ, List.set_cons_zero, List.set_cons_succ, fzE, wipeE, Option.bind_some, Option.map_some, List.length_cons, List.length_nil, cond_true, cond_false, Nat.reduceAdd, Nat.reduceLeDiff, Nat.zero_add, if_true, if_false, eq_self, bOne, Nat.reduceLT, Nat.reduceEqDiff, List.map_cons, List.map_nil, List.cons_append, List.nil_append, List.replicate, Nat.reduceSub, decide_true, decide_false, Bool.not_true, Bool.not_false, ix_lst (ds := [D.int (b : Int)]) (k := 0) rfl]
theorem highest_spec (T : Lat n le jn mt) (h : IsOrd n le jn mt d) {b : Nat} (hb : b < n) (q : ∀ a, a < n → le a b = true) : F_order_highest [d] = .ok (.sh (.int (b : Nat))) := by
  obtain ⟨ks, js, ls, ms, rfl, _, _⟩ := h.ex
  have hn := T.n24
  refine fn_eq rfl ?_
  unfold f_order_highest ordV
  simp -implicitDefEqProofs only [DL.evB, DL.evN, beq_self_eq_true, DL.no6_look_two, DL.no6_at_most, DL.no6_join, DL.no6_meet, DL.no6_lowest, DL.no6_highest, DL.no3_look_order, not_false_eq_true, and_self, true_and, and_true, reduceIte, Bool.false_eq_true, List.length_map, List.length_range, List.length_append, List.getElem?_cons_zero, List.getElem?_cons_succ, List.set_cons_zero, List.set_cons_succ, fzE, wipeE, Option.bind_some, Option.map_some, List.length_cons, List.length_nil, cond_true, cond_false, Nat.reduceAdd, Nat.reduceLeDiff, Nat.zero_add, if_true, if_false, eq_self, bOne, Nat.reduceLT, Nat.reduceEqDiff, List.map_cons, List.map_nil, List.cons_append, List.nil_append, List.replicate, Nat.reduceSub, decide_true, decide_false, Bool.not_true, Bool.not_false]
  rw [comp_nf (emb := nI) (xs := List.range n) (fun t => decide ((rowsA n le).getD t 0 = 1 <<< t)) (fun t => t) (by simp -implicitDefEqProofs only [DL.evB, DL.evN, beq_self_eq_true, DL.no6_look_two, DL.no6_at_most, DL.no6_join, DL.no6_meet, DL.no6_lowest, DL.no6_highest, DL.no3_look_order, not_false_eq_true, and_self, true_and, and_true, reduceIte, Bool.false_eq_true, List.length_map, List.length_range, List.length_append, List.getElem?_cons_zero, List.getElem?_cons_succ, List.set_cons_zero, List.set_cons_succ, fzE, wipeE, Option.bind_some, Option.map_some, List.length_cons, List.length_nil, cond_true, cond_false, Nat.reduceAdd, Nat.reduceLeDiff, Nat.zero_add, if_true, if_false, eq_self, bOne, Nat.reduceLT, Nat.reduceEqDiff, List.map_cons, List.map_nil, List.cons_append, List.nil_append, List.replicate, Nat.reduceSub, decide_true, decide_false, Bool.not_true, Bool.not_false]; rw [rng1_nat (by omega)]) (by rw [List.length_range]; unfold lim; omega) (fun t ht => ⟨_, rfl, by
    have ht := List.mem_range.mp ht
    simp -implicitDefEqProofs only [DL.evB, DL.evN, beq_self_eq_true, DL.no6_look_two, DL.no6_at_most, DL.no6_join, DL.no6_meet, DL.no6_lowest, DL.no6_highest, DL.no3_look_order, not_false_eq_true, and_self, true_and, and_true, reduceIte, Bool.false_eq_true, List.length_map, List.length_range, List.length_append, List.getElem?_cons_zero, List.getElem?_cons_succ, List.set_cons_zero, List.set_cons_succ, fzE, wipeE, Option.bind_some, Option.map_some, List.length_cons, List.length_nil, cond_true, cond_false, Nat.reduceAdd, Nat.reduceLeDiff, Nat.zero_add, if_true, if_false, eq_self, bOne, Nat.reduceLT, Nat.reduceEqDiff, List.map_cons, List.map_nil, List.cons_append, List.nil_append, List.replicate, Nat.reduceSub, decide_true, decide_false, Bool.not_true, Bool.not_false, ixN_lst (xs := rowsA n le) (k := t) (by rw [rowsA_length]; exact ht), shl1_nat (b := t) (by omega)], fun _ => by simp -implicitDefEqProofs only [DL.evB, DL.evN, beq_self_eq_true, DL.no6_look_two, DL.no6_at_most, DL.no6_join, DL.no6_meet, DL.no6_lowest, DL.no6_highest, DL.no3_look_order, not_false_eq_true, and_self, true_and, and_true, reduceIte, Bool.false_eq_true, List.length_map, List.length_range, List.length_append, List.getElem?_cons_zero, List.getElem?_cons_succ, List.set_cons_zero, List.set_cons_succ, fzE, wipeE, Option.bind_some, Option.map_some, List.length_cons, List.length_nil, cond_true, cond_false, Nat.reduceAdd, Nat.reduceLeDiff, Nat.zero_add, if_true, if_false, eq_self, bOne, Nat.reduceLT, Nat.reduceEqDiff, List.map_cons, List.map_nil, List.cons_append, List.nil_append, List.replicate, Nat.reduceSub, decide_true, decide_false, Bool.not_true, Bool.not_false]⟩), high_one T hb q]
  simp -implicitDefEqProofs only [DL.evB, DL.evN, beq_self_eq_true, DL.no6_look_two, DL.no6_at_most, DL.no6_join, DL.no6_meet, DL.no6_lowest, DL.no6_highest, DL.no3_look_order, not_false_eq_true, and_self, true_and, and_true, reduceIte, Bool.false_eq_true, List.length_map, List.length_range, List.length_append, List.getElem?_cons_zero, List.getElem?_cons_succ, List.set_cons_zero, List.set_cons_succ, fzE, wipeE, Option.bind_some, Option.map_some, List.length_cons, List.length_nil, cond_true, cond_false, Nat.reduceAdd, Nat.reduceLeDiff, Nat.zero_add, if_true, if_false, eq_self, bOne, Nat.reduceLT, Nat.reduceEqDiff, List.map_cons, List.map_nil, List.cons_append, List.nil_append, List.replicate, Nat.reduceSub, decide_true, decide_false, Bool.not_true, Bool.not_false, ix_lst (ds := [D.int (b : Int)]) (k := 0) rfl]
/-- an Order's methods and fields, whatever its dicts -/
theorem ordM (h : IsOrd n le jn mt d) {m : Str} (hm : m ∉ nm6) {F : List D → O R} {g : O (List D)} : methB 0 m F g (.ok d) = g.bind fun ds => F (d :: ds) := by
  obtain ⟨ks, js, ls, ms, rfl, _, _⟩ := h.ex
  unfold ordV
  rw [methB_ins, if_pos ⟨rfl, hm⟩]
theorem mJoin (h : IsOrd n le jn mt d) {F : List D → O R} {g : O (List D)} : methB 0 "join" F g (.ok d) = g.bind fun ds => F (d :: ds) := ordM h no6_join
theorem mMeet (h : IsOrd n le jn mt d) {F : List D → O R} {g : O (List D)} : methB 0 "meet" F g (.ok d) = g.bind fun ds => F (d :: ds) := ordM h no6_meet
theorem mAt (h : IsOrd n le jn mt d) {F : List D → O R} {g : O (List D)} : methB 0 "at_most" F g (.ok d) = g.bind fun ds => F (d :: ds) := ordM h no6_at_most
theorem mLow (h : IsOrd n le jn mt d) {F : List D → O R} {g : O (List D)} : methB 0 "lowest" F g (.ok d) = g.bind fun ds => F (d :: ds) := ordM h no6_lowest
theorem mHigh (h : IsOrd n le jn mt d) {F : List D → O R} {g : O (List D)} : methB 0 "highest" F g (.ok d) = g.bind fun ds => F (d :: ds) := ordM h no6_highest
theorem mTwo (h : IsOrd n le jn mt d) {F : List D → O R} {g : O (List D)} : methB 0 "look_two" F g (.ok d) = g.bind fun ds => F (d :: ds) := ordM h no6_look_two
theorem fCount (h : IsOrd n le jn mt d) : fldC 0 "count" d = .ok (.sh (.int n)) := by obtain ⟨ks, js, ls, ms, rfl, _, _⟩ := h.ex; rfl
theorem fPairs (h : IsOrd n le jn mt d) : fldC 0 "pairs" d = .ok (.sh (.tup ((below n le).map tI))) := by obtain ⟨ks, js, ls, ms, rfl, _, _⟩ := h.ex; rfl
theorem fAbove (h : IsOrd n le jn mt d) : fldC 0 "above" d = .ok (.sh (.lst ((rowsA n le).map nI))) := by obtain ⟨ks, js, ls, ms, rfl, _, _⟩ := h.ex; rfl
theorem fUnder (h : IsOrd n le jn mt d) : fldC 0 "under" d = .ok (.sh (.lst ((rowsU n le).map nI))) := by obtain ⟨ks, js, ls, ms, rfl, _, _⟩ := h.ex; rfl
end
end Ev

/-! Xg: the first three that are uneven. -/
namespace Ev
/-- what the three say -/
def bad3 (le : Nat → Nat → Bool) (jn mt : Nat → Nat → Nat) (a b c : Nat) : Bool := le a c && !decide (jn a (mt b c) = mt (jn a b) c)
def unev (n : Nat) (le : Nat → Nat → Bool) (jn mt : Nat → Nat → Nat) : Option (Nat × Nat × Nat) :=
  (List.range n).findSome? fun a => (List.range n).findSome? fun b => (List.range n).findSome? fun c => if bad3 le jn mt a b c then some (a, b, c) else none
def Mod (n : Nat) (le : Nat → Nat → Bool) (jn mt : Nat → Nat → Nat) : Prop := ∀ a b c, a < n → b < n → c < n → le a c = true → jn a (mt b c) = mt (jn a b) c
theorem unev_none {n : Nat} {le : Nat → Nat → Bool} {jn mt : Nat → Nat → Nat} : unev n le jn mt = none ↔ Mod n le jn mt := by
  unfold unev Mod
  simp only [List.findSome?_eq_none_iff, List.mem_range]
  constructor
  · intro h a b c ha hb hc hac
    have := h a ha b hb c hc
    by_cases q : bad3 le jn mt a b c = true
    · rw [if_pos q] at this; cases this
    · unfold bad3 at q
      rw [hac] at q
      simpa using q
  · intro h a ha b hb c hc
    rw [if_neg]
    unfold bad3
    intro q
    rw [Bool.and_eq_true] at q
    have := h a b c ha hb hc q.1
    rw [this] at q
    simp at q
theorem findSome_some {α β : Type} {f : α → Option β} {l : List α} {y : β} (h : l.findSome? f = some y) : ∃ x ∈ l, f x = some y := List.exists_of_findSome?_eq_some h
theorem unev_some {n : Nat} {le : Nat → Nat → Bool} {jn mt : Nat → Nat → Nat} {a b c : Nat} (h : unev n le jn mt = some (a, b, c)) : a < n ∧ b < n ∧ c < n ∧ bad3 le jn mt a b c = true := by
  unfold unev at h
  obtain ⟨x, hx, h⟩ := findSome_some h
  obtain ⟨y, hy, h⟩ := findSome_some h
  obtain ⟨z, hz, h⟩ := findSome_some h
  by_cases q : bad3 le jn mt x y z = true
  · rw [if_pos q] at h
    cases h
    exact ⟨List.mem_range.mp hx, List.mem_range.mp hy, List.mem_range.mp hz, q⟩
  · rw [if_neg q] at h; cases h
end Ev

/-! SP5: uneven. -/
namespace Ev
open PySem PySem.Spec L2 DL
def unevD : Option (Nat × Nat × Nat) → D
  | some (a, b, c) => .tup [.int (a : Nat), .int (b : Nat), .int (c : Nat)]
  | none => .non
theorem find_map {α β γ : Type} {f : α → Option β} {h : β → γ} {l : List α} : (l.findSome? fun x => (f x).map h) = (l.findSome? f).map h := by
  induction l with
  | nil => rfl
  | cons x l ih => rw [List.findSome?_cons, List.findSome?_cons]; cases f x <;> simp [ih]
theorem uneven_spec {n : Nat} {le : Nat → Nat → Bool} {jn mt : Nat → Nat → Nat} {d : D} (T : Lat n le jn mt) (h : IsOrd n le jn mt d) : F_uneven [d] = .ok (.sh (unevD (unev n le jn mt))) := by
  have hn := T.n24
  have J := fun {x y : Nat} (hx : x < n) (hy : y < n) => join_is h hx hy
  have M := fun {x y : Nat} (hx : x < n) (hy : y < n) => meet_is h hx hy
  have A := fun {x y : Nat} (hx : x < n) (hy : y < n) => at_most_spec h hx hy
  refine fn_eq rfl ?_
  unfold f_uneven
  simp -implicitDefEqProofs only [DL.evB, DL.evN, beq_self_eq_true, DL.no6_look_two, DL.no6_at_most, DL.no6_join, DL.no6_meet, DL.no6_lowest, DL.no6_highest, DL.no3_look_order, not_false_eq_true, and_self, true_and, and_true, reduceIte, Bool.false_eq_true, List.length_map, List.length_range, List.length_append, List.getElem?_cons_zero, List.getElem?_cons_succ, List.set_cons_zero, List.set_cons_succ, fzE, wipeE, Option.bind_some, Option.map_some, List.length_cons, List.length_nil, cond_true, cond_false, Nat.reduceAdd, Nat.reduceLeDiff, Nat.zero_add, if_true, if_false, eq_self, bOne, Nat.reduceLT, Nat.reduceEqDiff, List.map_cons, List.map_nil, List.cons_append, List.nil_append, List.replicate, Nat.reduceSub, decide_true, decide_false, Bool.not_true, Bool.not_false, fCount h]
  rw [rng1_nat (by omega)]
  simp -implicitDefEqProofs only [DL.evB, DL.evN, beq_self_eq_true, DL.no6_look_two, DL.no6_at_most, DL.no6_join, DL.no6_meet, DL.no6_lowest, DL.no6_highest, DL.no3_look_order, not_false_eq_true, and_self, true_and, and_true, reduceIte, Bool.false_eq_true, List.length_map, List.length_range, List.length_append, List.getElem?_cons_zero, List.getElem?_cons_succ, List.set_cons_zero, List.set_cons_succ, fzE, wipeE, Option.bind_some, Option.map_some, List.length_cons, List.length_nil, cond_true, cond_false, Nat.reduceAdd, Nat.reduceLeDiff, Nat.zero_add, if_true, if_false, eq_self, bOne, Nat.reduceLT, Nat.reduceEqDiff, List.map_cons, List.map_nil, List.cons_append, List.nil_append, List.replicate, Nat.reduceSub, decide_true, decide_false, Bool.not_true, Bool.not_false]
  let R3 : Nat × Nat × Nat → R := fun q => .sh (.tup [.int (q.1 : Nat), .int (q.2.1 : Nat), .int (q.2.2 : Nat)])
  refine wp_find (fun e => ∃ o1 o2 o3 o4, e = [some (.sh d), o1, o2, o3, o4]) (fun a => ((List.range n).findSome? fun b => (List.range n).findSome? fun c => if bad3 le jn mt a b c then some (a, b, c) else none).map R3) ⟨_, _, _, _, rfl⟩ ?_ ?_ ?_
  · rintro a ha e ⟨o1, o2, o3, o4, rfl⟩
    have ha := List.mem_range.mp ha
    refine ⟨_, rfl, ?_⟩
    simp -implicitDefEqProofs only [DL.evB, DL.evN, beq_self_eq_true, DL.no6_look_two, DL.no6_at_most, DL.no6_join, DL.no6_meet, DL.no6_lowest, DL.no6_highest, DL.no3_look_order, not_false_eq_true, and_self, true_and, and_true, reduceIte, Bool.false_eq_true, List.length_map, List.length_range, List.length_append, List.getElem?_cons_zero, List.getElem?_cons_succ, List.set_cons_zero, List.set_cons_succ, fzE, wipeE, Option.bind_some, Option.map_some, List.length_cons, List.length_nil, cond_true, cond_false, Nat.reduceAdd, Nat.reduceLeDiff, Nat.zero_add, if_true, if_false, eq_self, bOne, Nat.reduceLT, Nat.reduceEqDiff, List.map_cons, List.map_nil, List.cons_append, List.nil_append, List.replicate, Nat.reduceSub, decide_true, decide_false, Bool.not_true, Bool.not_false, fCount h]
    rw [rng1_nat (by omega)]
    simp -implicitDefEqProofs only [DL.evB, DL.evN, beq_self_eq_true, DL.no6_look_two, DL.no6_at_most, DL.no6_join, DL.no6_meet, DL.no6_lowest, DL.no6_highest, DL.no3_look_order, not_false_eq_true, and_self, true_and, and_true, reduceIte, Bool.false_eq_true, List.length_map, List.length_range, List.length_append, List.getElem?_cons_zero, List.getElem?_cons_succ, List.set_cons_zero, List.set_cons_succ, fzE, wipeE, Option.bind_some, Option.map_some, List.length_cons, List.length_nil, cond_true, cond_false, Nat.reduceAdd, Nat.reduceLeDiff, Nat.zero_add, if_true, if_false, eq_self, bOne, Nat.reduceLT, Nat.reduceEqDiff, List.map_cons, List.map_nil, List.cons_append, List.nil_append, List.replicate, Nat.reduceSub, decide_true, decide_false, Bool.not_true, Bool.not_false]
    refine wp_find (fun e => ∃ o2 o3 o4, e = [some (.sh d), some (.sh (.int a)), o2, o3, o4]) (fun b => ((List.range n).findSome? fun c => if bad3 le jn mt a b c then some (a, b, c) else none).map R3) ⟨_, _, _, rfl⟩ ?_ ?_ ?_
    · rintro b hb e ⟨o2, o3, o4, rfl⟩
      have hb := List.mem_range.mp hb
      refine ⟨_, rfl, ?_⟩
      simp -implicitDefEqProofs only [DL.evB, DL.evN, beq_self_eq_true, DL.no6_look_two, DL.no6_at_most, DL.no6_join, DL.no6_meet, DL.no6_lowest, DL.no6_highest, DL.no3_look_order, not_false_eq_true, and_self, true_and, and_true, reduceIte, Bool.false_eq_true, List.length_map, List.length_range, List.length_append, List.getElem?_cons_zero, List.getElem?_cons_succ, List.set_cons_zero, List.set_cons_succ, fzE, wipeE, Option.bind_some, Option.map_some, List.length_cons, List.length_nil, cond_true, cond_false, Nat.reduceAdd, Nat.reduceLeDiff, Nat.zero_add, if_true, if_false, eq_self, bOne, Nat.reduceLT, Nat.reduceEqDiff, List.map_cons, List.map_nil, List.cons_append, List.nil_append, List.replicate, Nat.reduceSub, decide_true, decide_false, Bool.not_true, Bool.not_false, fCount h]
      rw [rng1_nat (by omega)]
      simp -implicitDefEqProofs only [DL.evB, DL.evN, beq_self_eq_true, DL.no6_look_two, DL.no6_at_most, DL.no6_join, DL.no6_meet, DL.no6_lowest, DL.no6_highest, DL.no3_look_order, not_false_eq_true, and_self, true_and, and_true, reduceIte, Bool.false_eq_true, List.length_map, List.length_range, List.length_append, List.getElem?_cons_zero, List.getElem?_cons_succ, List.set_cons_zero, List.set_cons_succ, fzE, wipeE, Option.bind_some, Option.map_some, List.length_cons, List.length_nil, cond_true, cond_false, Nat.reduceAdd, Nat.reduceLeDiff, Nat.zero_add, if_true, if_false, eq_self, bOne, Nat.reduceLT, Nat.reduceEqDiff, List.map_cons, List.map_nil, List.cons_append, List.nil_append, List.replicate, Nat.reduceSub, decide_true, decide_false, Bool.not_true, Bool.not_false]
      refine wp_find (fun e => ∃ o3 o4, e = [some (.sh d), some (.sh (.int a)), some (.sh (.int b)), o3, o4]) (fun c => (if bad3 le jn mt a b c then some (a, b, c) else none).map R3) ⟨_, _, rfl⟩ ?_ ?_ ?_
      · rintro c hc e ⟨o3, o4, rfl⟩
        have hc := List.mem_range.mp hc
        refine ⟨_, rfl, ?_⟩
        simp -implicitDefEqProofs only [DL.evB, DL.evN, beq_self_eq_true, DL.no6_look_two, DL.no6_at_most, DL.no6_join, DL.no6_meet, DL.no6_lowest, DL.no6_highest, DL.no3_look_order, not_false_eq_true, and_self, true_and, and_true, reduceIte, Bool.false_eq_true, List.length_map, List.length_range, List.length_append, List.getElem?_cons_zero, List.getElem?_cons_succ, List.set_cons_zero, List.set_cons_succ, fzE, wipeE, Option.bind_some, Option.map_some, List.length_cons, List.length_nil, cond_true, cond_false, Nat.reduceAdd, Nat.reduceLeDiff, Nat.zero_add, if_true, if_false, eq_self, bOne, Nat.reduceLT, Nat.reduceEqDiff, List.map_cons, List.map_nil, List.cons_append, List.nil_append, List.replicate, Nat.reduceSub, decide_true, decide_false, Bool.not_true, Bool.not_false, mJoin h, mMeet h, mAt h, M hb hc, J ha (T.mlt hb hc), A ha hc, J ha hb, M (T.jlt ha hb) hc]
        refine wp_ifB (fun q => ?_) fun q => ?_
        · simp -implicitDefEqProofs only [DL.evB, DL.evN, beq_self_eq_true, DL.no6_look_two, DL.no6_at_most, DL.no6_join, DL.no6_meet, DL.no6_lowest, DL.no6_highest, DL.no3_look_order, not_false_eq_true, and_self, true_and, and_true, reduceIte, Bool.false_eq_true, List.length_map, List.length_range, List.length_append, List.getElem?_cons_zero, List.getElem?_cons_succ, List.set_cons_zero, List.set_cons_succ, fzE, wipeE, Option.bind_some, Option.map_some, List.length_cons, List.length_nil, cond_true, cond_false, Nat.reduceAdd, Nat.reduceLeDiff, Nat.zero_add, if_true, if_false, eq_self, bOne, Nat.reduceLT, Nat.reduceEqDiff, List.map_cons, List.map_nil, List.cons_append, List.nil_append, List.replicate, Nat.reduceSub, decide_true, decide_false, Bool.not_true, Bool.not_false]
          rw [if_pos (show bad3 le jn mt a b c = true from q)]
          rfl
        · simp -implicitDefEqProofs only [DL.evB, DL.evN, beq_self_eq_true, DL.no6_look_two, DL.no6_at_most, DL.no6_join, DL.no6_meet, DL.no6_lowest, DL.no6_highest, DL.no3_look_order, not_false_eq_true, and_self, true_and, and_true, reduceIte, Bool.false_eq_true, List.length_map, List.length_range, List.length_append, List.getElem?_cons_zero, List.getElem?_cons_succ, List.set_cons_zero, List.set_cons_succ, fzE, wipeE, Option.bind_some, Option.map_some, List.length_cons, List.length_nil, cond_true, cond_false, Nat.reduceAdd, Nat.reduceLeDiff, Nat.zero_add, if_true, if_false, eq_self, bOne, Nat.reduceLT, Nat.reduceEqDiff, List.map_cons, List.map_nil, List.cons_append, List.nil_append, List.replicate, Nat.reduceSub, decide_true, decide_false, Bool.not_true, Bool.not_false]
          refine ⟨?_, _, _, rfl⟩
          rw [if_neg (show ¬ bad3 le jn mt a b c = true by unfold bad3; rw [q]; decide)]
          rfl
      · intro r hr
        rw [find_map] at hr
        exact hr
      · rintro hr e ⟨o3, o4, rfl⟩
        rw [find_map] at hr
        simp -implicitDefEqProofs only [DL.evB, DL.evN, beq_self_eq_true, DL.no6_look_two, DL.no6_at_most, DL.no6_join, DL.no6_meet, DL.no6_lowest, DL.no6_highest, DL.no3_look_order, not_false_eq_true, and_self, true_and, and_true, reduceIte, Bool.false_eq_true, List.length_map, List.length_range, List.length_append, List.getElem?_cons_zero, List.getElem?_cons_succ, List.set_cons_zero, List.set_cons_succ, fzE, wipeE, Option.bind_some, Option.map_some, List.length_cons, List.length_nil, cond_true, cond_false, Nat.reduceAdd, Nat.reduceLeDiff, Nat.zero_add, if_true, if_false, eq_self, bOne, Nat.reduceLT, Nat.reduceEqDiff, List.map_cons, List.map_nil, List.cons_append, List.nil_append, List.replicate, Nat.reduceSub, decide_true, decide_false, Bool.not_true, Bool.not_false]
        exact ⟨hr, _, _, _, rfl⟩
    · intro r hr
      rw [find_map] at hr
      exact hr
    · rintro hr e ⟨o2, o3, o4, rfl⟩
      rw [find_map] at hr
      simp -implicitDefEqProofs only [DL.evB, DL.evN, beq_self_eq_true, DL.no6_look_two, DL.no6_at_most, DL.no6_join, DL.no6_meet, DL.no6_lowest, DL.no6_highest, DL.no3_look_order, not_false_eq_true, and_self, true_and, and_true, reduceIte, Bool.false_eq_true, List.length_map, List.length_range, List.length_append, List.getElem?_cons_zero, List.getElem?_cons_succ, List.set_cons_zero, List.set_cons_succ, fzE, wipeE, Option.bind_some, Option.map_some, List.length_cons, List.length_nil, cond_true, cond_false, Nat.reduceAdd, Nat.reduceLeDiff, Nat.zero_add, if_true, if_false, eq_self, bOne, Nat.reduceLT, Nat.reduceEqDiff, List.map_cons, List.map_nil, List.cons_append, List.nil_append, List.replicate, Nat.reduceSub, decide_true, decide_false, Bool.not_true, Bool.not_false]
      exact ⟨hr, _, _, _, _, rfl⟩
  · intro r hr
    rw [find_map] at hr
    obtain ⟨q, hq, rfl⟩ := Option.map_eq_some_iff.mp hr
    show R3 q = _
    have : unev n le jn mt = some q := hq
    rw [this]
    rfl
  · rintro hr e ⟨o1, o2, o3, o4, rfl⟩
    rw [find_map] at hr
    have : unev n le jn mt = none := Option.map_eq_none_iff.mp hr
    rw [this]
    simp -implicitDefEqProofs only [DL.evB, DL.evN, beq_self_eq_true, DL.no6_look_two, DL.no6_at_most, DL.no6_join, DL.no6_meet, DL.no6_lowest, DL.no6_highest, DL.no3_look_order, not_false_eq_true, and_self, true_and, and_true, reduceIte, Bool.false_eq_true, List.length_map, List.length_range, List.length_append, List.getElem?_cons_zero, List.getElem?_cons_succ, List.set_cons_zero, List.set_cons_succ, fzE, wipeE, Option.bind_some, Option.map_some, List.length_cons, List.length_nil, cond_true, cond_false, Nat.reduceAdd, Nat.reduceLeDiff, Nat.zero_add, if_true, if_false, eq_self, bOne, Nat.reduceLT, Nat.reduceEqDiff, List.map_cons, List.map_nil, List.cons_append, List.nil_append, List.replicate, Nat.reduceSub, decide_true, decide_false, Bool.not_true, Bool.not_false]
    rfl
end Ev

/-! SA7: the law's own first three. -/
namespace Ev
open PySem PySem.Spec L2 DL
theorem table_ix {n : Nat} {f : Nat → Nat → Nat} {a : Nat} (ha : a < n) : dIx (.lst ((List.range n).map fun a => D.lst ((((List.range n).map fun b => f a b)).map nI))) (.int (a : Int)) = some (.sh (.lst (((List.range n).map fun b => f a b).map nI))) := by
  refine ix_lst ?_
  rw [getD_map (by rw [List.length_range]; exact ha), List.getElem_range]
theorem row_ix {n : Nat} {f : Nat → Nat} {b : Nat} (hb : b < n) : dIx (.lst (((List.range n).map f).map nI)) (.int (b : Int)) = some (.sh (.int (f b : Nat))) := by
  rw [ixN_lst (by simpa using hb), List.getD_eq_getElem?_getD, List.getElem?_map, List.getElem?_range hb]; rfl
theorem luneven_spec {ms : List Nat} (g : Good ms) : F__law_uneven [.lst (ms.map nI)] = .ok (.sh (unevD (unev ms.length (mle ms) (mjn ms) (mmt ms)))) := by
  have T := g.lat
  have hn := T.n24
  generalize hN : ms.length = n at T hn
  refine fn_eq rfl ?_
  unfold f__law_uneven
  let R3 : Nat × Nat × Nat → R := fun q => .sh (.tup [.int (q.1 : Nat), .int (q.2.1 : Nat), .int (q.2.2 : Nat)])
  simp -implicitDefEqProofs only [DL.evB, DL.evN, beq_self_eq_true, DL.no6_look_two, DL.no6_at_most, DL.no6_join, DL.no6_meet, DL.no6_lowest, DL.no6_highest, DL.no3_look_order, not_false_eq_true, and_self, true_and, and_true, reduceIte, Bool.false_eq_true, List.length_map, List.length_range, List.length_append, List.getElem?_cons_zero, List.getElem?_cons_succ, List.set_cons_zero, List.set_cons_succ, fzE, wipeE, Option.bind_some, Option.map_some, List.length_cons, List.length_nil, cond_true, cond_false, Nat.reduceAdd, Nat.reduceLeDiff, Nat.zero_add, if_true, if_false, eq_self, bOne, Nat.reduceLT, Nat.reduceEqDiff, List.map_cons, List.map_nil, List.cons_append, List.nil_append, List.replicate, Nat.reduceSub, decide_true, decide_false, Bool.not_true, Bool.not_false, hN]
  rw [comp_map (emb := nI) (xs := List.range n) (fun a => .lst (((List.range n).map fun b => mjn ms a b).map nI)) (by simp -implicitDefEqProofs only [DL.evB, DL.evN, beq_self_eq_true, DL.no6_look_two, DL.no6_at_most, DL.no6_join, DL.no6_meet, DL.no6_lowest, DL.no6_highest, DL.no3_look_order, not_false_eq_true, and_self, true_and, and_true, reduceIte, Bool.false_eq_true, List.length_map, List.length_range, List.length_append, List.getElem?_cons_zero, List.getElem?_cons_succ, List.set_cons_zero, List.set_cons_succ, fzE, wipeE, Option.bind_some, Option.map_some, List.length_cons, List.length_nil, cond_true, cond_false, Nat.reduceAdd, Nat.reduceLeDiff, Nat.zero_add, if_true, if_false, eq_self, bOne, Nat.reduceLT, Nat.reduceEqDiff, List.map_cons, List.map_nil, List.cons_append, List.nil_append, List.replicate, Nat.reduceSub, decide_true, decide_false, Bool.not_true, Bool.not_false]; rw [rng1_nat (by omega)]) (by rw [List.length_range]; unfold lim; omega) (fun a ha => ⟨_, rfl, by
    have ha := List.mem_range.mp ha
    simp -implicitDefEqProofs only [wipeE, List.set_cons_succ, List.set_cons_zero, nI_def]
    rw [comp_n (emb := nI) (xs := List.range n) (fun b => mjn ms a b) (by simp -implicitDefEqProofs only [DL.evB, DL.evN, beq_self_eq_true, DL.no6_look_two, DL.no6_at_most, DL.no6_join, DL.no6_meet, DL.no6_lowest, DL.no6_highest, DL.no3_look_order, not_false_eq_true, and_self, true_and, and_true, reduceIte, Bool.false_eq_true, List.length_map, List.length_range, List.length_append, List.getElem?_cons_zero, List.getElem?_cons_succ, List.set_cons_zero, List.set_cons_succ, fzE, wipeE, Option.bind_some, Option.map_some, List.length_cons, List.length_nil, cond_true, cond_false, Nat.reduceAdd, Nat.reduceLeDiff, Nat.zero_add, if_true, if_false, eq_self, bOne, Nat.reduceLT, Nat.reduceEqDiff, List.map_cons, List.map_nil, List.cons_append, List.nil_append, List.replicate, Nat.reduceSub, decide_true, decide_false, Bool.not_true, Bool.not_false]; rw [rng1_nat (by omega)]) (by rw [List.length_range]; unfold lim; omega) (fun b hb => ⟨_, rfl, by
      have hb := List.mem_range.mp hb
      simp -implicitDefEqProofs only [DL.evB, DL.evN, beq_self_eq_true, DL.no6_look_two, DL.no6_at_most, DL.no6_join, DL.no6_meet, DL.no6_lowest, DL.no6_highest, DL.no3_look_order, not_false_eq_true, and_self, true_and, and_true, reduceIte, Bool.false_eq_true, List.length_map, List.length_range, List.length_append, List.getElem?_cons_zero, List.getElem?_cons_succ, List.set_cons_zero, List.set_cons_succ, fzE, wipeE, Option.bind_some, Option.map_some, List.length_cons, List.length_nil, cond_true, cond_false, Nat.reduceAdd, Nat.reduceLeDiff, Nat.zero_add, if_true, if_false, eq_self, bOne, Nat.reduceLT, Nat.reduceEqDiff, List.map_cons, List.map_nil, List.cons_append, List.nil_append, List.replicate, Nat.reduceSub, decide_true, decide_false, Bool.not_true, Bool.not_false, join_spec g (a := a) (b := b) (by omega) (by omega)]⟩)]
    simp -implicitDefEqProofs only [DL.evB, DL.evN, beq_self_eq_true, DL.no6_look_two, DL.no6_at_most, DL.no6_join, DL.no6_meet, DL.no6_lowest, DL.no6_highest, DL.no3_look_order, not_false_eq_true, and_self, true_and, and_true, reduceIte, Bool.false_eq_true, List.length_map, List.length_range, List.length_append, List.getElem?_cons_zero, List.getElem?_cons_succ, List.set_cons_zero, List.set_cons_succ, fzE, wipeE, Option.bind_some, Option.map_some, List.length_cons, List.length_nil, cond_true, cond_false, Nat.reduceAdd, Nat.reduceLeDiff, Nat.zero_add, if_true, if_false, eq_self, bOne, Nat.reduceLT, Nat.reduceEqDiff, List.map_cons, List.map_nil, List.cons_append, List.nil_append, List.replicate, Nat.reduceSub, decide_true, decide_false, Bool.not_true, Bool.not_false]⟩)]
  simp -implicitDefEqProofs only [DL.evB, DL.evN, beq_self_eq_true, DL.no6_look_two, DL.no6_at_most, DL.no6_join, DL.no6_meet, DL.no6_lowest, DL.no6_highest, DL.no3_look_order, not_false_eq_true, and_self, true_and, and_true, reduceIte, Bool.false_eq_true, List.length_map, List.length_range, List.length_append, List.getElem?_cons_zero, List.getElem?_cons_succ, List.set_cons_zero, List.set_cons_succ, fzE, wipeE, Option.bind_some, Option.map_some, List.length_cons, List.length_nil, cond_true, cond_false, Nat.reduceAdd, Nat.reduceLeDiff, Nat.zero_add, if_true, if_false, eq_self, bOne, Nat.reduceLT, Nat.reduceEqDiff, List.map_cons, List.map_nil, List.cons_append, List.nil_append, List.replicate, Nat.reduceSub, decide_true, decide_false, Bool.not_true, Bool.not_false]
  rw [comp_map (emb := nI) (xs := List.range n) (fun a => .lst (((List.range n).map fun b => mmt ms a b).map nI)) (by simp -implicitDefEqProofs only [DL.evB, DL.evN, beq_self_eq_true, DL.no6_look_two, DL.no6_at_most, DL.no6_join, DL.no6_meet, DL.no6_lowest, DL.no6_highest, DL.no3_look_order, not_false_eq_true, and_self, true_and, and_true, reduceIte, Bool.false_eq_true, List.length_map, List.length_range, List.length_append, List.getElem?_cons_zero, List.getElem?_cons_succ, List.set_cons_zero, List.set_cons_succ, fzE, wipeE, Option.bind_some, Option.map_some, List.length_cons, List.length_nil, cond_true, cond_false, Nat.reduceAdd, Nat.reduceLeDiff, Nat.zero_add, if_true, if_false, eq_self, bOne, Nat.reduceLT, Nat.reduceEqDiff, List.map_cons, List.map_nil, List.cons_append, List.nil_append, List.replicate, Nat.reduceSub, decide_true, decide_false, Bool.not_true, Bool.not_false]; rw [rng1_nat (by omega)]) (by rw [List.length_range]; unfold lim; omega) (fun a ha => ⟨_, rfl, by
    have ha := List.mem_range.mp ha
    simp -implicitDefEqProofs only [wipeE, List.set_cons_succ, List.set_cons_zero, nI_def]
    rw [comp_n (emb := nI) (xs := List.range n) (fun b => mmt ms a b) (by simp -implicitDefEqProofs only [DL.evB, DL.evN, beq_self_eq_true, DL.no6_look_two, DL.no6_at_most, DL.no6_join, DL.no6_meet, DL.no6_lowest, DL.no6_highest, DL.no3_look_order, not_false_eq_true, and_self, true_and, and_true, reduceIte, Bool.false_eq_true, List.length_map, List.length_range, List.length_append, List.getElem?_cons_zero, List.getElem?_cons_succ, List.set_cons_zero, List.set_cons_succ, fzE, wipeE, Option.bind_some, Option.map_some, List.length_cons, List.length_nil, cond_true, cond_false, Nat.reduceAdd, Nat.reduceLeDiff, Nat.zero_add, if_true, if_false, eq_self, bOne, Nat.reduceLT, Nat.reduceEqDiff, List.map_cons, List.map_nil, List.cons_append, List.nil_append, List.replicate, Nat.reduceSub, decide_true, decide_false, Bool.not_true, Bool.not_false]; rw [rng1_nat (by omega)]) (by rw [List.length_range]; unfold lim; omega) (fun b hb => ⟨_, rfl, by
      have hb := List.mem_range.mp hb
      simp -implicitDefEqProofs only [DL.evB, DL.evN, beq_self_eq_true, DL.no6_look_two, DL.no6_at_most, DL.no6_join, DL.no6_meet, DL.no6_lowest, DL.no6_highest, DL.no3_look_order, not_false_eq_true, and_self, true_and, and_true, reduceIte, Bool.false_eq_true, List.length_map, List.length_range, List.length_append, List.getElem?_cons_zero, List.getElem?_cons_succ, List.set_cons_zero, List.set_cons_succ, fzE, wipeE, Option.bind_some, Option.map_some, List.length_cons, List.length_nil, cond_true, cond_false, Nat.reduceAdd, Nat.reduceLeDiff, Nat.zero_add, if_true, if_false, eq_self, bOne, Nat.reduceLT, Nat.reduceEqDiff, List.map_cons, List.map_nil, List.cons_append, List.nil_append, List.replicate, Nat.reduceSub, decide_true, decide_false, Bool.not_true, Bool.not_false, meet_spec g (a := a) (b := b) (by omega) (by omega)]⟩)]
    simp -implicitDefEqProofs only [DL.evB, DL.evN, beq_self_eq_true, DL.no6_look_two, DL.no6_at_most, DL.no6_join, DL.no6_meet, DL.no6_lowest, DL.no6_highest, DL.no3_look_order, not_false_eq_true, and_self, true_and, and_true, reduceIte, Bool.false_eq_true, List.length_map, List.length_range, List.length_append, List.getElem?_cons_zero, List.getElem?_cons_succ, List.set_cons_zero, List.set_cons_succ, fzE, wipeE, Option.bind_some, Option.map_some, List.length_cons, List.length_nil, cond_true, cond_false, Nat.reduceAdd, Nat.reduceLeDiff, Nat.zero_add, if_true, if_false, eq_self, bOne, Nat.reduceLT, Nat.reduceEqDiff, List.map_cons, List.map_nil, List.cons_append, List.nil_append, List.replicate, Nat.reduceSub, decide_true, decide_false, Bool.not_true, Bool.not_false]⟩)]
  simp -implicitDefEqProofs only [DL.evB, DL.evN, beq_self_eq_true, DL.no6_look_two, DL.no6_at_most, DL.no6_join, DL.no6_meet, DL.no6_lowest, DL.no6_highest, DL.no3_look_order, not_false_eq_true, and_self, true_and, and_true, reduceIte, Bool.false_eq_true, List.length_map, List.length_range, List.length_append, List.getElem?_cons_zero, List.getElem?_cons_succ, List.set_cons_zero, List.set_cons_succ, fzE, wipeE, Option.bind_some, Option.map_some, List.length_cons, List.length_nil, cond_true, cond_false, Nat.reduceAdd, Nat.reduceLeDiff, Nat.zero_add, if_true, if_false, eq_self, bOne, Nat.reduceLT, Nat.reduceEqDiff, List.map_cons, List.map_nil, List.cons_append, List.nil_append, List.replicate, Nat.reduceSub, decide_true, decide_false, Bool.not_true, Bool.not_false]
  rw [rng1_nat (by omega)]
  simp -implicitDefEqProofs only [DL.evB, DL.evN, beq_self_eq_true, DL.no6_look_two, DL.no6_at_most, DL.no6_join, DL.no6_meet, DL.no6_lowest, DL.no6_highest, DL.no3_look_order, not_false_eq_true, and_self, true_and, and_true, reduceIte, Bool.false_eq_true, List.length_map, List.length_range, List.length_append, List.getElem?_cons_zero, List.getElem?_cons_succ, List.set_cons_zero, List.set_cons_succ, fzE, wipeE, Option.bind_some, Option.map_some, List.length_cons, List.length_nil, cond_true, cond_false, Nat.reduceAdd, Nat.reduceLeDiff, Nat.zero_add, if_true, if_false, eq_self, bOne, Nat.reduceLT, Nat.reduceEqDiff, List.map_cons, List.map_nil, List.cons_append, List.nil_append, List.replicate, Nat.reduceSub, decide_true, decide_false, Bool.not_true, Bool.not_false]
  obtain ⟨tj, htj, ij⟩ : ∃ tj : List D, tj = ((List.range n).map fun a => D.lst ((((List.range n).map fun b => mjn ms a b)).map nI)) ∧ ∀ a, a < n → dIx (.lst tj) (.int (a : Int)) = some (.sh (.lst (((List.range n).map fun b => mjn ms a b).map nI))) := ⟨_, rfl, fun a ha => table_ix ha⟩
  obtain ⟨tm, htm, im⟩ : ∃ tm : List D, tm = ((List.range n).map fun a => D.lst ((((List.range n).map fun b => mmt ms a b)).map nI)) ∧ ∀ a, a < n → dIx (.lst tm) (.int (a : Int)) = some (.sh (.lst (((List.range n).map fun b => mmt ms a b).map nI))) := ⟨_, rfl, fun a ha => table_ix ha⟩
  rw [← htj, ← htm]
  refine wp_find (fun e => ∃ o4 o5 o6 o7, e = [some (.sh (.lst (ms.map nI))), some (.sh (.int n)), some (.sh (.lst tj)), some (.sh (.lst tm)), o4, o5, o6, o7]) (fun a => ((List.range n).findSome? fun b => (List.range n).findSome? fun c => if bad3 (mle ms) (mjn ms) (mmt ms) a b c then some (a, b, c) else none).map R3) ⟨_, _, _, _, rfl⟩ ?_ ?_ ?_
  · rintro a ha e ⟨o4, o5, o6, o7, rfl⟩
    have ha := List.mem_range.mp ha
    refine ⟨_, rfl, ?_⟩
    simp -implicitDefEqProofs only [DL.evB, DL.evN, beq_self_eq_true, DL.no6_look_two, DL.no6_at_most, DL.no6_join, DL.no6_meet, DL.no6_lowest, DL.no6_highest, DL.no3_look_order, not_false_eq_true, and_self, true_and, and_true, reduceIte, Bool.false_eq_true, List.length_map, List.length_range, List.length_append, List.getElem?_cons_zero, List.getElem?_cons_succ, List.set_cons_zero, List.set_cons_succ, fzE, wipeE, Option.bind_some, Option.map_some, List.length_cons, List.length_nil, cond_true, cond_false, Nat.reduceAdd, Nat.reduceLeDiff, Nat.zero_add, if_true, if_false, eq_self, bOne, Nat.reduceLT, Nat.reduceEqDiff, List.map_cons, List.map_nil, List.cons_append, List.nil_append, List.replicate, Nat.reduceSub, decide_true, decide_false, Bool.not_true, Bool.not_false]
    rw [rng1_nat (by omega)]
    simp -implicitDefEqProofs only [DL.evB, DL.evN, beq_self_eq_true, DL.no6_look_two, DL.no6_at_most, DL.no6_join, DL.no6_meet, DL.no6_lowest, DL.no6_highest, DL.no3_look_order, not_false_eq_true, and_self, true_and, and_true, reduceIte, Bool.false_eq_true, List.length_map, List.length_range, List.length_append, List.getElem?_cons_zero, List.getElem?_cons_succ, List.set_cons_zero, List.set_cons_succ, fzE, wipeE, Option.bind_some, Option.map_some, List.length_cons, List.length_nil, cond_true, cond_false, Nat.reduceAdd, Nat.reduceLeDiff, Nat.zero_add, if_true, if_false, eq_self, bOne, Nat.reduceLT, Nat.reduceEqDiff, List.map_cons, List.map_nil, List.cons_append, List.nil_append, List.replicate, Nat.reduceSub, decide_true, decide_false, Bool.not_true, Bool.not_false]
    refine wp_find (fun e => ∃ o5 o6 o7, e = [some (.sh (.lst (ms.map nI))), some (.sh (.int n)), some (.sh (.lst tj)), some (.sh (.lst tm)), some (.sh (.int a)), o5, o6, o7]) (fun b => ((List.range n).findSome? fun c => if bad3 (mle ms) (mjn ms) (mmt ms) a b c then some (a, b, c) else none).map R3) ⟨_, _, _, rfl⟩ ?_ ?_ ?_
    · rintro b hb e ⟨o5, o6, o7, rfl⟩
      have hb := List.mem_range.mp hb
      refine ⟨_, rfl, ?_⟩
      simp -implicitDefEqProofs only [DL.evB, DL.evN, beq_self_eq_true, DL.no6_look_two, DL.no6_at_most, DL.no6_join, DL.no6_meet, DL.no6_lowest, DL.no6_highest, DL.no3_look_order, not_false_eq_true, and_self, true_and, and_true, reduceIte, Bool.false_eq_true, List.length_map, List.length_range, List.length_append, List.getElem?_cons_zero, List.getElem?_cons_succ, List.set_cons_zero, List.set_cons_succ, fzE, wipeE, Option.bind_some, Option.map_some, List.length_cons, List.length_nil, cond_true, cond_false, Nat.reduceAdd, Nat.reduceLeDiff, Nat.zero_add, if_true, if_false, eq_self, bOne, Nat.reduceLT, Nat.reduceEqDiff, List.map_cons, List.map_nil, List.cons_append, List.nil_append, List.replicate, Nat.reduceSub, decide_true, decide_false, Bool.not_true, Bool.not_false]
      rw [rng1_nat (by omega)]
      simp -implicitDefEqProofs only [DL.evB, DL.evN, beq_self_eq_true, DL.no6_look_two, DL.no6_at_most, DL.no6_join, DL.no6_meet, DL.no6_lowest, DL.no6_highest, DL.no3_look_order, not_false_eq_true, and_self, true_and, and_true, reduceIte, Bool.false_eq_true, List.length_map, List.length_range, List.length_append, List.getElem?_cons_zero, List.getElem?_cons_succ, List.set_cons_zero, List.set_cons_succ, fzE, wipeE, Option.bind_some, Option.map_some, List.length_cons, List.length_nil, cond_true, cond_false, Nat.reduceAdd, Nat.reduceLeDiff, Nat.zero_add, if_true, if_false, eq_self, bOne, Nat.reduceLT, Nat.reduceEqDiff, List.map_cons, List.map_nil, List.cons_append, List.nil_append, List.replicate, Nat.reduceSub, decide_true, decide_false, Bool.not_true, Bool.not_false]
      refine wp_find (fun e => ∃ o6 o7, e = [some (.sh (.lst (ms.map nI))), some (.sh (.int n)), some (.sh (.lst tj)), some (.sh (.lst tm)), some (.sh (.int a)), some (.sh (.int b)), o6, o7]) (fun c => (if bad3 (mle ms) (mjn ms) (mmt ms) a b c then some (a, b, c) else none).map R3) ⟨_, _, rfl⟩ ?_ ?_ ?_
      · rintro c hc e ⟨o6, o7, rfl⟩
        have hc := List.mem_range.mp hc
        refine ⟨_, rfl, ?_⟩
        have hac : decide (mjn ms a c = c) = mle ms a c := by rw [Bool.eq_iff_iff, decide_eq_true_iff]; exact T.jn_iff ha hc
        simp -implicitDefEqProofs only [DL.evB, DL.evN, beq_self_eq_true, DL.no6_look_two, DL.no6_at_most, DL.no6_join, DL.no6_meet, DL.no6_lowest, DL.no6_highest, DL.no3_look_order, not_false_eq_true, and_self, true_and, and_true, reduceIte, Bool.false_eq_true, List.length_map, List.length_range, List.length_append, List.getElem?_cons_zero, List.getElem?_cons_succ, List.set_cons_zero, List.set_cons_succ, fzE, wipeE, Option.bind_some, Option.map_some, List.length_cons, List.length_nil, cond_true, cond_false, Nat.reduceAdd, Nat.reduceLeDiff, Nat.zero_add, if_true, if_false, eq_self, bOne, Nat.reduceLT, Nat.reduceEqDiff, List.map_cons, List.map_nil, List.cons_append, List.nil_append, List.replicate, Nat.reduceSub, decide_true, decide_false, Bool.not_true, Bool.not_false, ij a ha, im b hb, row_ix (f := fun b => mmt ms _ b) hc, row_ix (f := fun b => mjn ms a b) (T.mlt hb hc), row_ix (f := fun b => mjn ms a b) hc, row_ix (f := fun b => mjn ms a b) hb, im _ (T.jlt ha hb), hac]
        refine wp_ifB (fun q => ?_) fun q => ?_
        · simp -implicitDefEqProofs only [DL.evB, DL.evN, beq_self_eq_true, DL.no6_look_two, DL.no6_at_most, DL.no6_join, DL.no6_meet, DL.no6_lowest, DL.no6_highest, DL.no3_look_order, not_false_eq_true, and_self, true_and, and_true, reduceIte, Bool.false_eq_true, List.length_map, List.length_range, List.length_append, List.getElem?_cons_zero, List.getElem?_cons_succ, List.set_cons_zero, List.set_cons_succ, fzE, wipeE, Option.bind_some, Option.map_some, List.length_cons, List.length_nil, cond_true, cond_false, Nat.reduceAdd, Nat.reduceLeDiff, Nat.zero_add, if_true, if_false, eq_self, bOne, Nat.reduceLT, Nat.reduceEqDiff, List.map_cons, List.map_nil, List.cons_append, List.nil_append, List.replicate, Nat.reduceSub, decide_true, decide_false, Bool.not_true, Bool.not_false]
          rw [if_pos (show bad3 (mle ms) (mjn ms) (mmt ms) a b c = true from q)]
          rfl
        · simp -implicitDefEqProofs only [DL.evB, DL.evN, beq_self_eq_true, DL.no6_look_two, DL.no6_at_most, DL.no6_join, DL.no6_meet, DL.no6_lowest, DL.no6_highest, DL.no3_look_order, not_false_eq_true, and_self, true_and, and_true, reduceIte, Bool.false_eq_true, List.length_map, List.length_range, List.length_append, List.getElem?_cons_zero, List.getElem?_cons_succ, List.set_cons_zero, List.set_cons_succ, fzE, wipeE, Option.bind_some, Option.map_some, List.length_cons, List.length_nil, cond_true, cond_false, Nat.reduceAdd, Nat.reduceLeDiff, Nat.zero_add, if_true, if_false, eq_self, bOne, Nat.reduceLT, Nat.reduceEqDiff, List.map_cons, List.map_nil, List.cons_append, List.nil_append, List.replicate, Nat.reduceSub, decide_true, decide_false, Bool.not_true, Bool.not_false]
          refine ⟨?_, _, _, rfl⟩
          rw [if_neg (show ¬ bad3 (mle ms) (mjn ms) (mmt ms) a b c = true by unfold bad3; rw [q]; decide)]
          rfl
      · intro r hr
        rw [find_map] at hr
        exact hr
      · rintro hr e ⟨o6, o7, rfl⟩
        rw [find_map] at hr
        simp -implicitDefEqProofs only [DL.evB, DL.evN, beq_self_eq_true, DL.no6_look_two, DL.no6_at_most, DL.no6_join, DL.no6_meet, DL.no6_lowest, DL.no6_highest, DL.no3_look_order, not_false_eq_true, and_self, true_and, and_true, reduceIte, Bool.false_eq_true, List.length_map, List.length_range, List.length_append, List.getElem?_cons_zero, List.getElem?_cons_succ, List.set_cons_zero, List.set_cons_succ, fzE, wipeE, Option.bind_some, Option.map_some, List.length_cons, List.length_nil, cond_true, cond_false, Nat.reduceAdd, Nat.reduceLeDiff, Nat.zero_add, if_true, if_false, eq_self, bOne, Nat.reduceLT, Nat.reduceEqDiff, List.map_cons, List.map_nil, List.cons_append, List.nil_append, List.replicate, Nat.reduceSub, decide_true, decide_false, Bool.not_true, Bool.not_false]
        exact ⟨hr, _, _, _, rfl⟩
    · intro r hr
      rw [find_map] at hr
      exact hr
    · rintro hr e ⟨o5, o6, o7, rfl⟩
      rw [find_map] at hr
      simp -implicitDefEqProofs only [DL.evB, DL.evN, beq_self_eq_true, DL.no6_look_two, DL.no6_at_most, DL.no6_join, DL.no6_meet, DL.no6_lowest, DL.no6_highest, DL.no3_look_order, not_false_eq_true, and_self, true_and, and_true, reduceIte, Bool.false_eq_true, List.length_map, List.length_range, List.length_append, List.getElem?_cons_zero, List.getElem?_cons_succ, List.set_cons_zero, List.set_cons_succ, fzE, wipeE, Option.bind_some, Option.map_some, List.length_cons, List.length_nil, cond_true, cond_false, Nat.reduceAdd, Nat.reduceLeDiff, Nat.zero_add, if_true, if_false, eq_self, bOne, Nat.reduceLT, Nat.reduceEqDiff, List.map_cons, List.map_nil, List.cons_append, List.nil_append, List.replicate, Nat.reduceSub, decide_true, decide_false, Bool.not_true, Bool.not_false]
      exact ⟨hr, _, _, _, _, rfl⟩
  · intro r hr
    rw [find_map] at hr
    obtain ⟨q, hq, rfl⟩ := Option.map_eq_some_iff.mp hr
    show R3 q = _
    have : unev n (mle ms) (mjn ms) (mmt ms) = some q := hq
    rw [this]
    rfl
  · rintro hr e ⟨o4, o5, o6, o7, rfl⟩
    rw [find_map] at hr
    have : unev n (mle ms) (mjn ms) (mmt ms) = none := Option.map_eq_none_iff.mp hr
    rw [this]
    simp -implicitDefEqProofs only [DL.evB, DL.evN, beq_self_eq_true, DL.no6_look_two, DL.no6_at_most, DL.no6_join, DL.no6_meet, DL.no6_lowest, DL.no6_highest, DL.no3_look_order, not_false_eq_true, and_self, true_and, and_true, reduceIte, Bool.false_eq_true, List.length_map, List.length_range, List.length_append, List.getElem?_cons_zero, List.getElem?_cons_succ, List.set_cons_zero, List.set_cons_succ, fzE, wipeE, Option.bind_some, Option.map_some, List.length_cons, List.length_nil, cond_true, cond_false, Nat.reduceAdd, Nat.reduceLeDiff, Nat.zero_add, if_true, if_false, eq_self, bOne, Nat.reduceLT, Nat.reduceEqDiff, List.map_cons, List.map_nil, List.cons_append, List.nil_append, List.replicate, Nat.reduceSub, decide_true, decide_false, Bool.not_true, Bool.not_false]
    rfl
end Ev

/-! Xh: climbs. -/
namespace Ev
structure Clm (n : Nat) (le : Nat → Nat → Bool) (l : List Nat) : Prop where
  ne : l ≠ []
  lt : ∀ x ∈ l, x < n
  st : ∀ i, i + 1 < l.length → cov n le (l.getD i 0) (l.getD (i + 1) 0) = true
theorem getD_app_l {l m : List Nat} {i : Nat} (h : i < l.length) : (l ++ m).getD i 0 = l.getD i 0 := by
  rw [List.getD_eq_getElem?_getD, List.getElem?_append_left h, ← List.getD_eq_getElem?_getD]
theorem getD_app_r {l m : List Nat} {i : Nat} (h : l.length ≤ i) : (l ++ m).getD i 0 = m.getD (i - l.length) 0 := by
  rw [List.getD_eq_getElem?_getD, List.getElem?_append_right h, ← List.getD_eq_getElem?_getD]
theorem getD_lt {l : List Nat} {n i : Nat} (h : ∀ x ∈ l, x < n) (hi : i < l.length) : l.getD i 0 < n := h _ (getD_mem hi)
theorem getLastD_getD {l : List Nat} (h : l ≠ []) : l.getLastD 0 = l.getD (l.length - 1) 0 := by
  rw [List.getLastD_eq_getLast?, List.getLast?_eq_getElem?, ← List.getD_eq_getElem?_getD]
variable {n : Nat} {le : Nat → Nat → Bool}
theorem Clm.one {a : Nat} (h : a < n) : Clm n le [a] := ⟨by simp, by simpa using h, fun i hi => by simp at hi⟩
theorem Clm.snoc {l : List Nat} (c : Clm n le l) (P : Pos n le) {d : Nat} (h : cov n le (l.getLastD 0) d = true) : Clm n le (l ++ [d]) := by
  have hl : 0 < l.length := List.length_pos_iff.mpr c.ne
  refine ⟨by simp, fun x hx => ?_, fun i hi => ?_⟩
  · rcases List.mem_append.mp hx with h' | h'
    · exact c.lt x h'
    · rw [List.mem_singleton.mp h']; exact (P.lt (cov_iff.mp h).1).2
  · rw [List.length_append, List.length_singleton] at hi
    by_cases e : i + 1 < l.length
    · rw [getD_app_l (by omega), getD_app_l e]; exact c.st i e
    · have : i + 1 = l.length := by omega
      rw [getD_app_l (by omega), getD_app_r (by omega), this, Nat.sub_self]
      rw [getLastD_getD c.ne] at h
      have e2 : l.length - 1 = i := by omega
      rw [e2] at h
      exact h
/-- what is ahead is at most what follows -/
theorem Clm.mono {l : List Nat} (c : Clm n le l) (P : Pos n le) : ∀ {i j : Nat}, i ≤ j → j < l.length → le (l.getD i 0) (l.getD j 0) = true := by
  intro i j h hj
  obtain ⟨k, rfl⟩ := Nat.le.dest h
  clear h
  induction k with
  | zero => exact P.rf (getD_lt c.lt hj)
  | succ k ih => exact P.tr (ih (by omega)) (cov_iff.mp (c.st (i + k) (by omega))).1
theorem Clm.strict {l : List Nat} (c : Clm n le l) (P : Pos n le) {i j : Nat} (h : i < j) (hj : j < l.length) : l.getD i 0 ≠ l.getD j 0 := by
  intro e
  have h1 := cov_iff.mp (c.st i (by omega))
  have h2 := c.mono P (i := i + 1) (j := j) (by omega) hj
  rw [← e] at h2
  exact h1.2.1 (P.anti h1.1 h2)
theorem Clm.nodup {l : List Nat} (c : Clm n le l) (P : Pos n le) : l.Nodup := by
  rw [List.nodup_iff_pairwise_ne, List.pairwise_iff_getElem]
  intro i j hi hj hij e
  refine c.strict P hij hj ?_
  rw [List.getD_eq_getElem?_getD, List.getElem?_eq_getElem hi, List.getD_eq_getElem?_getD, List.getElem?_eq_getElem hj]
  simpa using e
theorem Clm.len {l : List Nat} (c : Clm n le l) (P : Pos n le) : l.length ≤ n := by
  have := List.Nodup.length_le_of_subset (c.nodup P) (l₂ := List.range n) (fun x hx => List.mem_range.mpr (c.lt x hx))
  simpa using this
/-- there is a step on the way up -/
theorem Pos.step_up (P : Pos n le) {a b : Nat} (h : le a b = true) (hab : a ≠ b) : ∃ d, cov n le a d = true ∧ le d b = true := by
  have key : ∀ (m : Nat) (b : Nat), ivl n le a b ≤ m → le a b = true → a ≠ b → ∃ d, cov n le a d = true ∧ le d b = true := by
    intro m
    induction m with
    | zero =>
      intro b hm h _
      exfalso
      have : a ∈ (List.range n).filter fun c => le a c && le c b := List.mem_filter.mpr ⟨List.mem_range.mpr (P.lt h).1, by rw [P.rf (P.lt h).1, h]; rfl⟩
      have := List.length_pos_of_mem this
      unfold ivl at hm; omega
    | succ m ih =>
      intro b hm h hab
      by_cases hc : cov n le a b = true
      · exact ⟨b, hc, P.rf (P.lt h).2⟩
      · have hn : ¬ ∀ c, c < n → le a c = true → le c b = true → c = a ∨ c = b := fun z => hc (cov_iff.mpr ⟨h, hab, z⟩)
        obtain ⟨c, hc⟩ := Classical.not_forall.mp hn
        have hc1 : le a c = true := Classical.byContradiction fun z => hc fun _ q => absurd q z
        have hc2 : le c b = true := Classical.byContradiction fun z => hc fun _ _ q => absurd q z
        have hca : c ≠ a := fun z => hc fun _ _ _ => .inl z
        have hcb : c ≠ b := fun z => hc fun _ _ _ => .inr z
        have l1 : ivl n le a c < ivl n le a b := filter_lt (y := b) (fun x hx => by
          rw [Bool.and_eq_true] at hx ⊢; exact ⟨hx.1, P.tr hx.2 hc2⟩) (List.mem_range.mpr (P.lt h).2) (by rw [h, P.rf (P.lt h).2]; rfl) (by
          cases q : le b c with
          | false => simp
          | true => exact absurd (P.anti hc2 q) hcb)
        obtain ⟨d, h1, h2⟩ := ih c (by omega) hc1 (Ne.symm hca)
        exact ⟨d, h1, P.tr h2 hc2⟩
  exact key _ b (Nat.le_refl _) h hab
def exP (n : Nat) (le : Nat → Nat → Bool) (l : List Nat) (p t : Nat) : Bool := (cov n le (l.getD (p - 1) 0) t && cov n le t (l.getD (p + 1) 0)) && !decide (t = l.getD p 0)
theorem filter_pos {α : Type} {p : α → Bool} {l : List α} {x : α} (h : p x = true) : (l ++ [x]).filter p = l.filter p ++ [x] := by rw [List.filter_append, List.filter_cons_of_pos h, List.filter_nil]
theorem filter_neg {α : Type} {p : α → Bool} {l : List α} {x : α} (h : p x = false) : (l ++ [x]).filter p = l.filter p := by rw [List.filter_append, List.filter_cons_of_neg (by rw [h]; decide), List.filter_nil, List.append_nil]
/-- the exchanges of a climb -/
def exch (n : Nat) (le : Nat → Nat → Bool) (l : List Nat) : List (Nat × Nat) := (List.range' 1 (l.length - 1 - 1)).flatMap fun p =>
  ((List.range n).filter (exP n le l p)).map fun t => (p, t)
theorem mem_exch {l : List Nat} (P : Pos n le) {p t : Nat} : (p, t) ∈ exch n le l ↔ 1 ≤ p ∧ p + 1 < l.length ∧ cov n le (l.getD (p - 1) 0) t = true ∧ cov n le t (l.getD (p + 1) 0) = true ∧ t ≠ l.getD p 0 := by
  unfold exch exP
  simp only [List.mem_flatMap, List.mem_map, List.mem_filter, List.mem_range, Prod.mk.injEq, List.mem_range'_1, Bool.and_eq_true, Bool.not_eq_true', decide_eq_false_iff_not]
  constructor
  · rintro ⟨q, ⟨h1, h2⟩, u, ⟨h3, ⟨h4, h5⟩, h6⟩, rfl, rfl⟩
    exact ⟨h1, by omega, h4, h5, h6⟩
  · rintro ⟨h1, h2, h3, h4, h5⟩
    exact ⟨p, ⟨h1, by omega⟩, t, ⟨(P.lt (cov_iff.mp h3).1).2, ⟨h3, h4⟩, h5⟩, rfl, rfl⟩
theorem exch_len {l : List Nat} (hl : l.length ≤ 24) (hn : n ≤ 24) : (exch n le l).length ≤ 576 := by
  have : ∀ ps : List Nat, (ps.flatMap fun p => ((List.range n).filter (exP n le l p)).map fun t => (p, t)).length ≤ ps.length * 24 := by
    intro ps
    induction ps with
    | nil => simp
    | cons p ps ih =>
      rw [List.flatMap_cons, List.length_append, List.length_map, List.length_cons, Nat.add_mul]
      have := List.length_filter_le (exP n le l p) (List.range n)
      rw [List.length_range] at this
      omega
  have := this (List.range' 1 (l.length - 1 - 1))
  rw [List.length_range'] at this
  unfold exch
  omega
/-- a climb with an exchange -/
def withEx (l : List Nat) (p t : Nat) : List Nat := l.take p ++ [t] ++ l.drop (p + 1)
theorem withEx_eq {l : List Nat} {p t : Nat} (h : p < l.length) : withEx l p t = l.set p t := by
  unfold withEx
  rw [List.set_eq_take_append_cons_drop, if_pos h]; simp
end Ev

/-! SP6: climbs looked at, exchanges. -/
namespace Ev
open PySem PySem.Spec L2 DL
section
variable {n : Nat} {le : Nat → Nat → Bool} {jn mt : Nat → Nat → Nat} {d : D}
theorem things_spec (h : IsOrd n le jn mt d) {l : List Nat} (hl : l.length ≤ 1000) (lt : ∀ x ∈ l, x < n) : F_are_things [d, .lst (l.map nI)] = .ok (.sh (.bl true)) := by
  refine fn_eq rfl ?_
  unfold f_are_things
  simp -implicitDefEqProofs only [DL.evB, DL.evN, beq_self_eq_true, DL.no6_look_two, DL.no6_at_most, DL.no6_join, DL.no6_meet, DL.no6_lowest, DL.no6_highest, DL.no3_look_order, not_false_eq_true, and_self, true_and, and_true, reduceIte, Bool.false_eq_true, List.length_map, List.length_range, List.length_append, List.getElem?_cons_zero, List.getElem?_cons_succ, List.set_cons_zero, List.set_cons_succ, fzE, wipeE, Option.bind_some, Option.map_some, List.length_cons, List.length_nil, cond_true, cond_false, Nat.reduceAdd, Nat.reduceLeDiff, Nat.zero_add, if_true, if_false, eq_self, bOne, Nat.reduceLT, Nat.reduceEqDiff, List.map_cons, List.map_nil, List.cons_append, List.nil_append, List.replicate, Nat.reduceSub, decide_true, decide_false, Bool.not_true, Bool.not_false]
  rw [comp_b (emb := nI) (xs := l) (fun x => true) (by simp -implicitDefEqProofs only [DL.evB, DL.evN, beq_self_eq_true, DL.no6_look_two, DL.no6_at_most, DL.no6_join, DL.no6_meet, DL.no6_lowest, DL.no6_highest, DL.no3_look_order, not_false_eq_true, and_self, true_and, and_true, reduceIte, Bool.false_eq_true, List.length_map, List.length_range, List.length_append, List.getElem?_cons_zero, List.getElem?_cons_succ, List.set_cons_zero, List.set_cons_succ, fzE, wipeE, Option.bind_some, Option.map_some, List.length_cons, List.length_nil, cond_true, cond_false, Nat.reduceAdd, Nat.reduceLeDiff, Nat.zero_add, if_true, if_false, eq_self, bOne, Nat.reduceLT, Nat.reduceEqDiff, List.map_cons, List.map_nil, List.cons_append, List.nil_append, List.replicate, Nat.reduceSub, decide_true, decide_false, Bool.not_true, Bool.not_false]) (by unfold lim; omega) (fun x hx => ⟨_, rfl, by simp -implicitDefEqProofs only [DL.evB, DL.evN, beq_self_eq_true, DL.no6_look_two, DL.no6_at_most, DL.no6_join, DL.no6_meet, DL.no6_lowest, DL.no6_highest, DL.no3_look_order, not_false_eq_true, and_self, true_and, and_true, reduceIte, Bool.false_eq_true, List.length_map, List.length_range, List.length_append, List.getElem?_cons_zero, List.getElem?_cons_succ, List.set_cons_zero, List.set_cons_succ, fzE, wipeE, Option.bind_some, Option.map_some, List.length_cons, List.length_nil, cond_true, cond_false, Nat.reduceAdd, Nat.reduceLeDiff, Nat.zero_add, if_true, if_false, eq_self, bOne, Nat.reduceLT, Nat.reduceEqDiff, List.map_cons, List.map_nil, List.cons_append, List.nil_append, List.replicate, Nat.reduceSub, decide_true, decide_false, Bool.not_true, Bool.not_false, fCount h, Nat.zero_le, lt x hx, Bool.and_self]⟩)]
  simp -implicitDefEqProofs only [DL.evB, DL.evN, beq_self_eq_true, DL.no6_look_two, DL.no6_at_most, DL.no6_join, DL.no6_meet, DL.no6_lowest, DL.no6_highest, DL.no3_look_order, not_false_eq_true, and_self, true_and, and_true, reduceIte, Bool.false_eq_true, List.length_map, List.length_range, List.length_append, List.getElem?_cons_zero, List.getElem?_cons_succ, List.set_cons_zero, List.set_cons_succ, fzE, wipeE, Option.bind_some, Option.map_some, List.length_cons, List.length_nil, cond_true, cond_false, Nat.reduceAdd, Nat.reduceLeDiff, Nat.zero_add, if_true, if_false, eq_self, bOne, Nat.reduceLT, Nat.reduceEqDiff, List.map_cons, List.map_nil, List.cons_append, List.nil_append, List.replicate, Nat.reduceSub, decide_true, decide_false, Bool.not_true, Bool.not_false]
  simp
/-- climbs, as they are tested -/
def clmB (n : Nat) (le : Nat → Nat → Bool) (l : List Nat) : Bool := (l.zip (l.drop 1)).all fun p => cov n le p.1 p.2
theorem clmB_of {l : List Nat} (h : ∀ i, i + 1 < l.length → cov n le (l.getD i 0) (l.getD (i + 1) 0) = true) : clmB n le l = true := by
  unfold clmB
  rw [List.all_eq_true]
  intro p hp
  obtain ⟨i, hi, rfl⟩ := List.mem_iff_getElem.mp hp
  rw [List.length_zip, List.length_drop] at hi
  have := h i (by omega)
  rw [List.getElem_zip]
  simp only [List.getElem_drop]
  rw [List.getD_eq_getElem?_getD, List.getElem?_eq_getElem (show i < l.length by omega), List.getD_eq_getElem?_getD, List.getElem?_eq_getElem (show i + 1 < l.length by omega)] at this
  simp only [Option.getD_some] at this
  have e : 1 + i = i + 1 := by omega
  simp only [e]
  exact this
theorem is_climb_spec (P : Pos n le) (h : IsOrd n le jn mt d) (hn : n ≤ 24) {l : List Nat} (c : Clm n le l) : F_is_climb [d, .lst (l.map nI)] = .ok (.sh (.bl true)) := by
  have hl := c.len P
  have hlp : 0 < l.length := List.length_pos_iff.mpr c.ne
  refine fn_eq rfl ?_
  unfold f_is_climb
  have e0 : decide (l.length = 0) = false := decide_eq_false (by omega)
  simp -implicitDefEqProofs only [DL.evB, DL.evN, beq_self_eq_true, DL.no6_look_two, DL.no6_at_most, DL.no6_join, DL.no6_meet, DL.no6_lowest, DL.no6_highest, DL.no3_look_order, not_false_eq_true, and_self, true_and, and_true, reduceIte, Bool.false_eq_true, List.length_map, List.length_range, List.length_append, List.getElem?_cons_zero, List.getElem?_cons_succ, List.set_cons_zero, List.set_cons_succ, fzE, wipeE, Option.bind_some, Option.map_some, List.length_cons, List.length_nil, cond_true, cond_false, Nat.reduceAdd, Nat.reduceLeDiff, Nat.zero_add, if_true, if_false, eq_self, bOne, Nat.reduceLT, Nat.reduceEqDiff, List.map_cons, List.map_nil, List.cons_append, List.nil_append, List.replicate, Nat.reduceSub, decide_true, decide_false, Bool.not_true, Bool.not_false, things_spec h (by omega) c.lt, e0, Bool.or_self]
  rw [comp_b (emb := tI) (xs := l.zip (l.drop 1)) (fun p => cov n le p.1 p.2) (by simp -implicitDefEqProofs only [DL.evB, DL.evN, beq_self_eq_true, DL.no6_look_two, DL.no6_at_most, DL.no6_join, DL.no6_meet, DL.no6_lowest, DL.no6_highest, DL.no3_look_order, not_false_eq_true, and_self, true_and, and_true, reduceIte, Bool.false_eq_true, List.length_map, List.length_range, List.length_append, List.getElem?_cons_zero, List.getElem?_cons_succ, List.set_cons_zero, List.set_cons_succ, fzE, wipeE, Option.bind_some, Option.map_some, List.length_cons, List.length_nil, cond_true, cond_false, Nat.reduceAdd, Nat.reduceLeDiff, Nat.zero_add, if_true, if_false, eq_self, bOne, Nat.reduceLT, Nat.reduceEqDiff, List.map_cons, List.map_nil, List.cons_append, List.nil_append, List.replicate, Nat.reduceSub, decide_true, decide_false, Bool.not_true, Bool.not_false, zip_nIs]) (by rw [List.length_zip]; unfold lim; omega) (fun p hp => ⟨_, rfl, by
    obtain ⟨i, hi, rfl⟩ := List.mem_iff_getElem.mp hp
    have h1 : (l.zip (l.drop 1))[i].1 < n := c.lt _ (List.of_mem_zip (List.getElem_mem hi)).1
    have h2 : (l.zip (l.drop 1))[i].2 < n := c.lt _ (List.mem_of_mem_drop (List.of_mem_zip (List.getElem_mem hi)).2)
    simp -implicitDefEqProofs only [DL.evB, DL.evN, beq_self_eq_true, DL.no6_look_two, DL.no6_at_most, DL.no6_join, DL.no6_meet, DL.no6_lowest, DL.no6_highest, DL.no3_look_order, not_false_eq_true, and_self, true_and, and_true, reduceIte, Bool.false_eq_true, List.length_map, List.length_range, List.length_append, List.getElem?_cons_zero, List.getElem?_cons_succ, List.set_cons_zero, List.set_cons_succ, fzE, wipeE, Option.bind_some, Option.map_some, List.length_cons, List.length_nil, cond_true, cond_false, Nat.reduceAdd, Nat.reduceLeDiff, Nat.zero_add, if_true, if_false, eq_self, bOne, Nat.reduceLT, Nat.reduceEqDiff, List.map_cons, List.map_nil, List.cons_append, List.nil_append, List.replicate, Nat.reduceSub, decide_true, decide_false, Bool.not_true, Bool.not_false, are_step_spec P h hn h1 h2]⟩)]
  simp -implicitDefEqProofs only [DL.evB, DL.evN, beq_self_eq_true, DL.no6_look_two, DL.no6_at_most, DL.no6_join, DL.no6_meet, DL.no6_lowest, DL.no6_highest, DL.no3_look_order, not_false_eq_true, and_self, true_and, and_true, reduceIte, Bool.false_eq_true, List.length_map, List.length_range, List.length_append, List.getElem?_cons_zero, List.getElem?_cons_succ, List.set_cons_zero, List.set_cons_succ, fzE, wipeE, Option.bind_some, Option.map_some, List.length_cons, List.length_nil, cond_true, cond_false, Nat.reduceAdd, Nat.reduceLeDiff, Nat.zero_add, if_true, if_false, eq_self, bOne, Nat.reduceLT, Nat.reduceEqDiff, List.map_cons, List.map_nil, List.cons_append, List.nil_append, List.replicate, Nat.reduceSub, decide_true, decide_false, Bool.not_true, Bool.not_false]
  have := clmB_of c.st
  unfold clmB at this
  rw [List.all_map]
  show R.sh (.bl ((l.zip (l.drop 1)).all fun p => cov n le p.1 p.2)) = _
  rw [this]
theorem look_climb_spec (P : Pos n le) (h : IsOrd n le jn mt d) (hn : n ≤ 24) {l : List Nat} (c : Clm n le l) : F_look_climb [d, .lst (l.map nI)] = .ok (.sh .non) := by
  refine fn_nx rfl ?_
  unfold f_look_climb
  simp -implicitDefEqProofs only [DL.evB, DL.evN, beq_self_eq_true, DL.no6_look_two, DL.no6_at_most, DL.no6_join, DL.no6_meet, DL.no6_lowest, DL.no6_highest, DL.no3_look_order, not_false_eq_true, and_self, true_and, and_true, reduceIte, Bool.false_eq_true, List.length_map, List.length_range, List.length_append, List.getElem?_cons_zero, List.getElem?_cons_succ, List.set_cons_zero, List.set_cons_succ, fzE, wipeE, Option.bind_some, Option.map_some, List.length_cons, List.length_nil, cond_true, cond_false, Nat.reduceAdd, Nat.reduceLeDiff, Nat.zero_add, if_true, if_false, eq_self, bOne, Nat.reduceLT, Nat.reduceEqDiff, List.map_cons, List.map_nil, List.cons_append, List.nil_append, List.replicate, Nat.reduceSub, decide_true, decide_false, Bool.not_true, Bool.not_false, is_climb_spec P h hn c]
theorem exchanges_spec (P : Pos n le) (h : IsOrd n le jn mt d) (hn : n ≤ 24) {l : List Nat} (c : Clm n le l) : F_exchanges [d, .lst (l.map nI)] = .ok (.fr (.ow ((exch n le l).map tI))) := by
  have hl := c.len P
  have hlp : 1 ≤ l.length := List.length_pos_iff.mpr c.ne
  refine fn_eq rfl ?_
  unfold f_exchanges
  simp -implicitDefEqProofs only [DL.evB, DL.evN, beq_self_eq_true, DL.no6_look_two, DL.no6_at_most, DL.no6_join, DL.no6_meet, DL.no6_lowest, DL.no6_highest, DL.no3_look_order, not_false_eq_true, and_self, true_and, and_true, reduceIte, Bool.false_eq_true, List.length_map, List.length_range, List.length_append, List.getElem?_cons_zero, List.getElem?_cons_succ, List.set_cons_zero, List.set_cons_succ, fzE, wipeE, Option.bind_some, Option.map_some, List.length_cons, List.length_nil, cond_true, cond_false, Nat.reduceAdd, Nat.reduceLeDiff, Nat.zero_add, if_true, if_false, eq_self, bOne, Nat.reduceLT, Nat.reduceEqDiff, List.map_cons, List.map_nil, List.cons_append, List.nil_append, List.replicate, Nat.reduceSub, decide_true, decide_false, Bool.not_true, Bool.not_false, look_climb_spec P h hn c, hlp]
  rw [rng2_nat (by omega) (by omega)]
  simp -implicitDefEqProofs only [DL.evB, DL.evN, beq_self_eq_true, DL.no6_look_two, DL.no6_at_most, DL.no6_join, DL.no6_meet, DL.no6_lowest, DL.no6_highest, DL.no3_look_order, not_false_eq_true, and_self, true_and, and_true, reduceIte, Bool.false_eq_true, List.length_map, List.length_range, List.length_append, List.getElem?_cons_zero, List.getElem?_cons_succ, List.set_cons_zero, List.set_cons_succ, fzE, wipeE, Option.bind_some, Option.map_some, List.length_cons, List.length_nil, cond_true, cond_false, Nat.reduceAdd, Nat.reduceLeDiff, Nat.zero_add, if_true, if_false, eq_self, bOne, Nat.reduceLT, Nat.reduceEqDiff, List.map_cons, List.map_nil, List.cons_append, List.nil_append, List.replicate, Nat.reduceSub, decide_true, decide_false, Bool.not_true, Bool.not_false]
  have hlen : ∀ ps : List Nat, (ps.flatMap fun p => ((List.range n).filter (exP n le l p)).map fun t => (p, t)).length ≤ ps.length * 24 := by
    intro ps
    induction ps with
    | nil => simp
    | cons p ps ih =>
      rw [List.flatMap_cons, List.length_append, List.length_map, List.length_cons, Nat.add_mul]
      have := List.length_filter_le (exP n le l p) (List.range n)
      rw [List.length_range] at this
      omega
  refine wp_forL (fun pre e => ∃ o3 o4 o5, e = [some (.sh d), some (.sh (.lst (l.map nI))), some (.ow ((pre.flatMap fun p => ((List.range n).filter (exP n le l p)).map fun t => (p, t)).map tI)), o3, o4, o5] ∧ pre.length ≤ 24) ⟨_, _, _, rfl, by simp⟩ ?_ ?_
  · rintro pre p post e hx ⟨o3, o4, o5, rfl, hpl⟩
    have hp : 1 ≤ p ∧ p + 1 < l.length := by
      have : p ∈ List.range' 1 (l.length - 1 - 1) := by rw [hx]; simp
      have := List.mem_range'_1.mp this
      omega
    have hpl2 : pre.length + 1 ≤ 24 := by
      have := congrArg List.length hx
      rw [List.length_range', List.length_append, List.length_cons] at this
      omega
    refine ⟨_, rfl, ?_⟩
    have i1 : p - 1 < l.length := by omega
    have i2 : p < l.length := by omega
    have t1 := getD_lt c.lt i1
    have t2 := getD_lt c.lt hp.2
    simp -implicitDefEqProofs only [DL.evB, DL.evN, beq_self_eq_true, DL.no6_look_two, DL.no6_at_most, DL.no6_join, DL.no6_meet, DL.no6_lowest, DL.no6_highest, DL.no3_look_order, not_false_eq_true, and_self, true_and, and_true, reduceIte, Bool.false_eq_true, List.length_map, List.length_range, List.length_append, List.getElem?_cons_zero, List.getElem?_cons_succ, List.set_cons_zero, List.set_cons_succ, fzE, wipeE, Option.bind_some, Option.map_some, List.length_cons, List.length_nil, cond_true, cond_false, Nat.reduceAdd, Nat.reduceLeDiff, Nat.zero_add, if_true, if_false, eq_self, bOne, Nat.reduceLT, Nat.reduceEqDiff, List.map_cons, List.map_nil, List.cons_append, List.nil_append, List.replicate, Nat.reduceSub, decide_true, decide_false, Bool.not_true, Bool.not_false, fCount h]
    rw [rng1_nat (by omega)]
    simp -implicitDefEqProofs only [DL.evB, DL.evN, beq_self_eq_true, DL.no6_look_two, DL.no6_at_most, DL.no6_join, DL.no6_meet, DL.no6_lowest, DL.no6_highest, DL.no3_look_order, not_false_eq_true, and_self, true_and, and_true, reduceIte, Bool.false_eq_true, List.length_map, List.length_range, List.length_append, List.getElem?_cons_zero, List.getElem?_cons_succ, List.set_cons_zero, List.set_cons_succ, fzE, wipeE, Option.bind_some, Option.map_some, List.length_cons, List.length_nil, cond_true, cond_false, Nat.reduceAdd, Nat.reduceLeDiff, Nat.zero_add, if_true, if_false, eq_self, bOne, Nat.reduceLT, Nat.reduceEqDiff, List.map_cons, List.map_nil, List.cons_append, List.nil_append, List.replicate, Nat.reduceSub, decide_true, decide_false, Bool.not_true, Bool.not_false]
    refine wp_forL (fun pr e => ∃ o4 o5, e = [some (.sh d), some (.sh (.lst (l.map nI))), some (.ow (((pre.flatMap fun p => ((List.range n).filter (exP n le l p)).map fun t => (p, t)) ++ ((pr.filter (exP n le l p)).map fun t => (p, t))).map tI)), some (.sh (.int p)), o4, o5] ∧ pr.length ≤ 24) ⟨_, _, by simp; exact ⟨rfl, rfl⟩, by simp⟩ ?_ ?_
    · rintro pr t po e hx2 ⟨o4, o5, rfl, hprl⟩
      obtain ⟨et, ht⟩ := range_split hx2
      refine ⟨_, rfl, ?_⟩
      simp -implicitDefEqProofs only [DL.evB, DL.evN, beq_self_eq_true, DL.no6_look_two, DL.no6_at_most, DL.no6_join, DL.no6_meet, DL.no6_lowest, DL.no6_highest, DL.no3_look_order, not_false_eq_true, and_self, true_and, and_true, reduceIte, Bool.false_eq_true, List.length_map, List.length_range, List.length_append, List.getElem?_cons_zero, List.getElem?_cons_succ, List.set_cons_zero, List.set_cons_succ, fzE, wipeE, Option.bind_some, Option.map_some, List.length_cons, List.length_nil, cond_true, cond_false, Nat.reduceAdd, Nat.reduceLeDiff, Nat.zero_add, if_true, if_false, eq_self, bOne, Nat.reduceLT, Nat.reduceEqDiff, List.map_cons, List.map_nil, List.cons_append, List.nil_append, List.replicate, Nat.reduceSub, decide_true, decide_false, Bool.not_true, Bool.not_false, hp.1, i1, hp.2, i2, are_step_spec P h hn t1 ht, are_step_spec P h hn ht t2]
      refine wp_ifB (fun q => ?_) fun q => ?_
      · simp -implicitDefEqProofs only [DL.evB, DL.evN, beq_self_eq_true, DL.no6_look_two, DL.no6_at_most, DL.no6_join, DL.no6_meet, DL.no6_lowest, DL.no6_highest, DL.no3_look_order, not_false_eq_true, and_self, true_and, and_true, reduceIte, Bool.false_eq_true, List.length_map, List.length_range, List.length_append, List.getElem?_cons_zero, List.getElem?_cons_succ, List.set_cons_zero, List.set_cons_succ, fzE, wipeE, Option.bind_some, Option.map_some, List.length_cons, List.length_nil, cond_true, cond_false, Nat.reduceAdd, Nat.reduceLeDiff, Nat.zero_add, if_true, if_false, eq_self, bOne, Nat.reduceLT, Nat.reduceEqDiff, List.map_cons, List.map_nil, List.cons_append, List.nil_append, List.replicate, Nat.reduceSub, decide_true, decide_false, Bool.not_true, Bool.not_false]
        rw [mutB_app (by
          have := hlen pre
          have h3 := List.length_filter_le (exP n le l p) pr
          simp only [List.length_map, List.length_append]
          unfold lim; omega), app_tIs]
        simp -implicitDefEqProofs only [DL.evB, DL.evN, beq_self_eq_true, DL.no6_look_two, DL.no6_at_most, DL.no6_join, DL.no6_meet, DL.no6_lowest, DL.no6_highest, DL.no3_look_order, not_false_eq_true, and_self, true_and, and_true, reduceIte, Bool.false_eq_true, List.length_map, List.length_range, List.length_append, List.getElem?_cons_zero, List.getElem?_cons_succ, List.set_cons_zero, List.set_cons_succ, fzE, wipeE, Option.bind_some, Option.map_some, List.length_cons, List.length_nil, cond_true, cond_false, Nat.reduceAdd, Nat.reduceLeDiff, Nat.zero_add, if_true, if_false, eq_self, bOne, Nat.reduceLT, Nat.reduceEqDiff, List.map_cons, List.map_nil, List.cons_append, List.nil_append, List.replicate, Nat.reduceSub, decide_true, decide_false, Bool.not_true, Bool.not_false]
        refine ⟨some (.sh (.int t)), some (.sh (.bl _)), by rw [filter_pos (p := exP n le l p) q, List.map_append (f := fun t => (p, t)), ← List.append_assoc]; rfl, by omega⟩
      · simp -implicitDefEqProofs only [DL.evB, DL.evN, beq_self_eq_true, DL.no6_look_two, DL.no6_at_most, DL.no6_join, DL.no6_meet, DL.no6_lowest, DL.no6_highest, DL.no3_look_order, not_false_eq_true, and_self, true_and, and_true, reduceIte, Bool.false_eq_true, List.length_map, List.length_range, List.length_append, List.getElem?_cons_zero, List.getElem?_cons_succ, List.set_cons_zero, List.set_cons_succ, fzE, wipeE, Option.bind_some, Option.map_some, List.length_cons, List.length_nil, cond_true, cond_false, Nat.reduceAdd, Nat.reduceLeDiff, Nat.zero_add, if_true, if_false, eq_self, bOne, Nat.reduceLT, Nat.reduceEqDiff, List.map_cons, List.map_nil, List.cons_append, List.nil_append, List.replicate, Nat.reduceSub, decide_true, decide_false, Bool.not_true, Bool.not_false]
        refine ⟨some (.sh (.int t)), some (.sh (.bl _)), by rw [filter_neg (p := exP n le l p) q], by omega⟩
    · rintro e ⟨o4, o5, rfl, _⟩
      simp -implicitDefEqProofs only [DL.evB, DL.evN, beq_self_eq_true, DL.no6_look_two, DL.no6_at_most, DL.no6_join, DL.no6_meet, DL.no6_lowest, DL.no6_highest, DL.no3_look_order, not_false_eq_true, and_self, true_and, and_true, reduceIte, Bool.false_eq_true, List.length_map, List.length_range, List.length_append, List.getElem?_cons_zero, List.getElem?_cons_succ, List.set_cons_zero, List.set_cons_succ, fzE, wipeE, Option.bind_some, Option.map_some, List.length_cons, List.length_nil, cond_true, cond_false, Nat.reduceAdd, Nat.reduceLeDiff, Nat.zero_add, if_true, if_false, eq_self, bOne, Nat.reduceLT, Nat.reduceEqDiff, List.map_cons, List.map_nil, List.cons_append, List.nil_append, List.replicate, Nat.reduceSub, decide_true, decide_false, Bool.not_true, Bool.not_false]
      refine ⟨some (.sh (.int p)), o4, o5, by rw [List.flatMap_append, List.flatMap_cons, List.flatMap_nil, List.append_nil], by omega⟩
  · rintro e ⟨o3, o4, o5, rfl, _⟩
    simp -implicitDefEqProofs only [DL.evB, DL.evN, beq_self_eq_true, DL.no6_look_two, DL.no6_at_most, DL.no6_join, DL.no6_meet, DL.no6_lowest, DL.no6_highest, DL.no3_look_order, not_false_eq_true, and_self, true_and, and_true, reduceIte, Bool.false_eq_true, List.length_map, List.length_range, List.length_append, List.getElem?_cons_zero, List.getElem?_cons_succ, List.set_cons_zero, List.set_cons_succ, fzE, wipeE, Option.bind_some, Option.map_some, List.length_cons, List.length_nil, cond_true, cond_false, Nat.reduceAdd, Nat.reduceLeDiff, Nat.zero_add, if_true, if_false, eq_self, bOne, Nat.reduceLT, Nat.reduceEqDiff, List.map_cons, List.map_nil, List.cons_append, List.nil_append, List.replicate, Nat.reduceSub, decide_true, decide_false, Bool.not_true, Bool.not_false]
    rfl
theorem with_exchange_spec {l : List Nat} {p t : Nat} (hl : l.length ≤ 1000) : F_with_exchange [.lst (l.map nI), .tup [.int (p : Nat), .int (t : Nat)]] = .ok (.fr (.ow ((withEx l p t).map nI))) := by
  refine fn_eq rfl ?_
  unfold f_with_exchange
  simp -implicitDefEqProofs only [DL.evB, DL.evN, beq_self_eq_true, DL.no6_look_two, DL.no6_at_most, DL.no6_join, DL.no6_meet, DL.no6_lowest, DL.no6_highest, DL.no3_look_order, not_false_eq_true, and_self, true_and, and_true, reduceIte, Bool.false_eq_true, List.length_map, List.length_range, List.length_append, List.getElem?_cons_zero, List.getElem?_cons_succ, List.set_cons_zero, List.set_cons_succ, fzE, wipeE, Option.bind_some, Option.map_some, List.length_cons, List.length_nil, cond_true, cond_false, Nat.reduceAdd, Nat.reduceLeDiff, Nat.zero_add, if_true, if_false, eq_self, bOne, Nat.reduceLT, Nat.reduceEqDiff, List.map_cons, List.map_nil, List.cons_append, List.nil_append, List.replicate, Nat.reduceSub, decide_true, decide_false, Bool.not_true, Bool.not_false, ix_tup (ds := [D.int (p : Int), D.int (t : Int)]) (k := 0) rfl, ix_tup (ds := [D.int (p : Int), D.int (t : Int)]) (k := 1) rfl]
  rw [add_nIs_sh (by simp; omega)]
  simp -implicitDefEqProofs only [DL.evB, DL.evN, beq_self_eq_true, DL.no6_look_two, DL.no6_at_most, DL.no6_join, DL.no6_meet, DL.no6_lowest, DL.no6_highest, DL.no3_look_order, not_false_eq_true, and_self, true_and, and_true, reduceIte, Bool.false_eq_true, List.length_map, List.length_range, List.length_append, List.getElem?_cons_zero, List.getElem?_cons_succ, List.set_cons_zero, List.set_cons_succ, fzE, wipeE, Option.bind_some, Option.map_some, List.length_cons, List.length_nil, cond_true, cond_false, Nat.reduceAdd, Nat.reduceLeDiff, Nat.zero_add, if_true, if_false, eq_self, bOne, Nat.reduceLT, Nat.reduceEqDiff, List.map_cons, List.map_nil, List.cons_append, List.nil_append, List.replicate, Nat.reduceSub, decide_true, decide_false, Bool.not_true, Bool.not_false]
  rw [add_nIs (by simp; omega)]
  simp -implicitDefEqProofs only [DL.evB, DL.evN, beq_self_eq_true, DL.no6_look_two, DL.no6_at_most, DL.no6_join, DL.no6_meet, DL.no6_lowest, DL.no6_highest, DL.no3_look_order, not_false_eq_true, and_self, true_and, and_true, reduceIte, Bool.false_eq_true, List.length_map, List.length_range, List.length_append, List.getElem?_cons_zero, List.getElem?_cons_succ, List.set_cons_zero, List.set_cons_succ, fzE, wipeE, Option.bind_some, Option.map_some, List.length_cons, List.length_nil, cond_true, cond_false, Nat.reduceAdd, Nat.reduceLeDiff, Nat.zero_add, if_true, if_false, eq_self, bOne, Nat.reduceLT, Nat.reduceEqDiff, List.map_cons, List.map_nil, List.cons_append, List.nil_append, List.replicate, Nat.reduceSub, decide_true, decide_false, Bool.not_true, Bool.not_false]
  rfl
theorem exchanged_spec (P : Pos n le) (h : IsOrd n le jn mt d) (hn : n ≤ 24) {l : List Nat} (c : Clm n le l) {p t : Nat} (hx : (p, t) ∈ exch n le l) : F_exchanged [d, .lst (l.map nI), .tup [.int (p : Nat), .int (t : Nat)]] = .ok (.fr (.ow ((withEx l p t).map nI))) := by
  have hl := c.len P
  refine fn_eq rfl ?_
  unfold f_exchanged
  simp -implicitDefEqProofs only [DL.evB, DL.evN, beq_self_eq_true, DL.no6_look_two, DL.no6_at_most, DL.no6_join, DL.no6_meet, DL.no6_lowest, DL.no6_highest, DL.no3_look_order, not_false_eq_true, and_self, true_and, and_true, reduceIte, Bool.false_eq_true, List.length_map, List.length_range, List.length_append, List.getElem?_cons_zero, List.getElem?_cons_succ, List.set_cons_zero, List.set_cons_succ, fzE, wipeE, Option.bind_some, Option.map_some, List.length_cons, List.length_nil, cond_true, cond_false, Nat.reduceAdd, Nat.reduceLeDiff, Nat.zero_add, if_true, if_false, eq_self, bOne, Nat.reduceLT, Nat.reduceEqDiff, List.map_cons, List.map_nil, List.cons_append, List.nil_append, List.replicate, Nat.reduceSub, decide_true, decide_false, Bool.not_true, Bool.not_false, exchanges_spec P h hn c, hx, with_exchange_spec (l := l) (p := p) (t := t) (by omega)]
end
end Ev

/-! SA8: lowest and highest masks; climbs drawn. -/
namespace Ev
open PySem PySem.Spec L2 DL
theorem Good.lo {ms : List Nat} (g : Good ms) : ∃ a, a < ms.length ∧ (∀ b, b < ms.length → mle ms a b = true) ∧ bMin [.lst (ms.map nI)] = some (.sh (.int (ms.getD a 0 : Nat))) ∧ ms.idxOf (ms.getD a 0) = a ∧ ms.getD a 0 ∈ ms := by
  obtain ⟨a, ha, q⟩ := g.lat.bot
  refine ⟨a, ha, q, min_nIs (getD_mem ha) fun y hy => ?_, ?_, getD_mem ha⟩
  · obtain ⟨i, hi, rfl⟩ := List.mem_iff_getElem.mp hy
    have := (mle_iff.mp (q i hi)).2.2
    rw [List.getD_eq_getElem?_getD (l := ms) (i := i), List.getElem?_eq_getElem hi, Option.getD_some] at this
    rw [← this]
    exact Nat.and_le_right
  · rw [List.getD_eq_getElem?_getD, List.getElem?_eq_getElem ha]; exact g.nd.idxOf_getElem a ha
theorem Good.hi {ms : List Nat} (g : Good ms) : ∃ a, a < ms.length ∧ (∀ b, b < ms.length → mle ms b a = true) ∧ bMax [.lst (ms.map nI)] = some (.sh (.int (ms.getD a 0 : Nat))) ∧ ms.idxOf (ms.getD a 0) = a ∧ ms.getD a 0 ∈ ms := by
  obtain ⟨a, ha, q⟩ := g.lat.top
  refine ⟨a, ha, q, max_nIs (getD_mem ha) fun y hy => ?_, ?_, getD_mem ha⟩
  · obtain ⟨i, hi, rfl⟩ := List.mem_iff_getElem.mp hy
    have := (mle_iff.mp (q i hi)).2.2
    rw [List.getD_eq_getElem?_getD (l := ms) (i := i), List.getElem?_eq_getElem hi, Option.getD_some] at this
    rw [← this]
    exact Nat.and_le_right
  · rw [List.getD_eq_getElem?_getD, List.getElem?_eq_getElem ha]; exact g.nd.idxOf_getElem a ha
/-- the steps ahead, below b -/
def ups (ms : List Nat) (x b : Nat) : List Nat := ((covs ms.length (mle ms)).filter fun p => decide (p.1 = x) && mle ms p.2 b).map fun p => p.2
theorem mem_ups {ms : List Nat} (g : Good ms) {x b d : Nat} : d ∈ ups ms x b ↔ cov ms.length (mle ms) x d = true ∧ mle ms d b = true := by
  unfold ups
  simp only [List.mem_map, List.mem_filter, Bool.and_eq_true, decide_eq_true_eq]
  constructor
  · rintro ⟨⟨p, q⟩, ⟨h1, h2, h3⟩, rfl⟩
    simp only at h2 h3
    subst h2
    exact ⟨(mem_covs g.lat.po).mp h1, h3⟩
  · rintro ⟨h1, h2⟩
    exact ⟨(x, d), ⟨(mem_covs g.lat.po).mpr h1, rfl, h2⟩, rfl⟩
theorem climb_spec {ms : List Nat} (g : Good ms) {a b : Nat} (hab : mle ms a b = true) (ds : List Nat) (hds : 6 ≤ ds.length) : ∃ l, F__law_climb [.lst ((covs ms.length (mle ms)).map tI), .lst (ms.map nI), .int a, .int b, .lst (ds.map nI)] = .ok (.fr (.ow (l.map nI))) ∧ Clm ms.length (mle ms) l ∧ l.getD 0 0 = a ∧ l.getLastD 0 = b := by
  have P := g.lat.po
  have hn := g.len
  have ha := (P.lt hab).1
  have hb := (P.lt hab).2
  have key : ∃ r, F__law_climb [.lst ((covs ms.length (mle ms)).map tI), .lst (ms.map nI), .int a, .int b, .lst (ds.map nI)] = .ok r ∧ ∃ l, r = .fr (.ow (l.map nI)) ∧ Clm ms.length (mle ms) l ∧ l.getD 0 0 = a ∧ l.getLastD 0 = b := by
    refine fn_rt rfl ?_
    unfold f__law_climb
    have hcl := covs_length (n := ms.length) (le := mle ms)
    have hcl2 : ms.length * ms.length ≤ 24 * 24 := Nat.mul_le_mul hn hn
    generalize hcv : covs ms.length (mle ms) = cv at hcl
    simp -implicitDefEqProofs only [DL.evB, DL.evN, beq_self_eq_true, DL.no6_look_two, DL.no6_at_most, DL.no6_join, DL.no6_meet, DL.no6_lowest, DL.no6_highest, DL.no3_look_order, not_false_eq_true, and_self, true_and, and_true, reduceIte, Bool.false_eq_true, List.length_map, List.length_range, List.length_append, List.getElem?_cons_zero, List.getElem?_cons_succ, List.set_cons_zero, List.set_cons_succ, fzE, wipeE, Option.bind_some, Option.map_some, List.length_cons, List.length_nil, cond_true, cond_false, Nat.reduceAdd, Nat.reduceLeDiff, Nat.zero_add, if_true, if_false, eq_self, bOne, Nat.reduceLT, Nat.reduceEqDiff, List.map_cons, List.map_nil, List.cons_append, List.nil_append, List.replicate, Nat.reduceSub, decide_true, decide_false, Bool.not_true, Bool.not_false]
    rw [show (24 : Nat) = 24 from rfl, rng1_nat (by omega)]
    simp -implicitDefEqProofs only [DL.evB, DL.evN, beq_self_eq_true, DL.no6_look_two, DL.no6_at_most, DL.no6_join, DL.no6_meet, DL.no6_lowest, DL.no6_highest, DL.no3_look_order, not_false_eq_true, and_self, true_and, and_true, reduceIte, Bool.false_eq_true, List.length_map, List.length_range, List.length_append, List.getElem?_cons_zero, List.getElem?_cons_succ, List.set_cons_zero, List.set_cons_succ, fzE, wipeE, Option.bind_some, Option.map_some, List.length_cons, List.length_nil, cond_true, cond_false, Nat.reduceAdd, Nat.reduceLeDiff, Nat.zero_add, if_true, if_false, eq_self, bOne, Nat.reduceLT, Nat.reduceEqDiff, List.map_cons, List.map_nil, List.cons_append, List.nil_append, List.replicate, Nat.reduceSub, decide_true, decide_false, Bool.not_true, Bool.not_false]
    refine wp_forL (fun pre e => ∃ (l : List Nat) (o6 o7 : Option L), e = [some (.sh (.lst (cv.map tI))), some (.sh (.lst (ms.map nI))), some (.sh (.int a)), some (.sh (.int b)), some (.sh (.lst (ds.map nI))), some (.ow (l.map nI)), o6, o7, none, none] ∧
      Clm ms.length (mle ms) l ∧ l.getD 0 0 = a ∧ mle ms (l.getLastD 0) b = true ∧ (l.getLastD 0 = b ∨ l.length = pre.length + 1)) ⟨[a], _, _, rfl, Clm.one ha, rfl, hab, .inr rfl⟩ ?_ ?_
    · rintro pre k post e hx ⟨l, o6, o7, rfl, c, h0, hle, hor⟩
      have hk : k < 24 := by
        have : k ∈ List.range 24 := by rw [hx]; simp
        exact List.mem_range.mp this
      have hll := c.len P
      refine ⟨_, rfl, ?_⟩
      simp -implicitDefEqProofs only [DL.evB, DL.evN, beq_self_eq_true, DL.no6_look_two, DL.no6_at_most, DL.no6_join, DL.no6_meet, DL.no6_lowest, DL.no6_highest, DL.no3_look_order, not_false_eq_true, and_self, true_and, and_true, reduceIte, Bool.false_eq_true, List.length_map, List.length_range, List.length_append, List.getElem?_cons_zero, List.getElem?_cons_succ, List.set_cons_zero, List.set_cons_succ, fzE, wipeE, Option.bind_some, Option.map_some, List.length_cons, List.length_nil, cond_true, cond_false, Nat.reduceAdd, Nat.reduceLeDiff, Nat.zero_add, if_true, if_false, eq_self, bOne, Nat.reduceLT, Nat.reduceEqDiff, List.map_cons, List.map_nil, List.cons_append, List.nil_append, List.replicate, Nat.reduceSub, decide_true, decide_false, Bool.not_true, Bool.not_false]
      rw [comp_nf (emb := tI) (xs := cv) (fun p => decide (p.1 = l.getLastD 0) && mle ms p.2 b) (fun p => p.2) (by simp -implicitDefEqProofs only [DL.evB, DL.evN, beq_self_eq_true, DL.no6_look_two, DL.no6_at_most, DL.no6_join, DL.no6_meet, DL.no6_lowest, DL.no6_highest, DL.no3_look_order, not_false_eq_true, and_self, true_and, and_true, reduceIte, Bool.false_eq_true, List.length_map, List.length_range, List.length_append, List.getElem?_cons_zero, List.getElem?_cons_succ, List.set_cons_zero, List.set_cons_succ, fzE, wipeE, Option.bind_some, Option.map_some, List.length_cons, List.length_nil, cond_true, cond_false, Nat.reduceAdd, Nat.reduceLeDiff, Nat.zero_add, if_true, if_false, eq_self, bOne, Nat.reduceLT, Nat.reduceEqDiff, List.map_cons, List.map_nil, List.cons_append, List.nil_append, List.replicate, Nat.reduceSub, decide_true, decide_false, Bool.not_true, Bool.not_false]) (by unfold lim; omega) (fun p hp => ⟨_, rfl, by
        have hp' : cov ms.length (mle ms) p.1 p.2 = true := (mem_covs P).mp (by rw [hcv]; exact hp)
        have hp2 := (P.lt (cov_iff.mp hp').1).2
        simp -implicitDefEqProofs only [DL.evB, DL.evN, beq_self_eq_true, DL.no6_look_two, DL.no6_at_most, DL.no6_join, DL.no6_meet, DL.no6_lowest, DL.no6_highest, DL.no3_look_order, not_false_eq_true, and_self, true_and, and_true, reduceIte, Bool.false_eq_true, List.length_map, List.length_range, List.length_append, List.getElem?_cons_zero, List.getElem?_cons_succ, List.set_cons_zero, List.set_cons_succ, fzE, wipeE, Option.bind_some, Option.map_some, List.length_cons, List.length_nil, cond_true, cond_false, Nat.reduceAdd, Nat.reduceLeDiff, Nat.zero_add, if_true, if_false, eq_self, bOne, Nat.reduceLT, Nat.reduceEqDiff, List.map_cons, List.map_nil, List.cons_append, List.nil_append, List.replicate, Nat.reduceSub, decide_true, decide_false, Bool.not_true, Bool.not_false, last_nIs c.ne, atm_spec hp2 hb], fun _ => by simp -implicitDefEqProofs only [DL.evB, DL.evN, beq_self_eq_true, DL.no6_look_two, DL.no6_at_most, DL.no6_join, DL.no6_meet, DL.no6_lowest, DL.no6_highest, DL.no3_look_order, not_false_eq_true, and_self, true_and, and_true, reduceIte, Bool.false_eq_true, List.length_map, List.length_range, List.length_append, List.getElem?_cons_zero, List.getElem?_cons_succ, List.set_cons_zero, List.set_cons_succ, fzE, wipeE, Option.bind_some, Option.map_some, List.length_cons, List.length_nil, cond_true, cond_false, Nat.reduceAdd, Nat.reduceLeDiff, Nat.zero_add, if_true, if_false, eq_self, bOne, Nat.reduceLT, Nat.reduceEqDiff, List.map_cons, List.map_nil, List.cons_append, List.nil_append, List.replicate, Nat.reduceSub, decide_true, decide_false, Bool.not_true, Bool.not_false]⟩)]
      have hup : ((cv.filter fun p => decide (p.1 = l.getLastD 0) && mle ms p.2 b).map fun p => p.2) = ups ms (l.getLastD 0) b := by rw [← hcv]; rfl
      rw [hup]
      simp -implicitDefEqProofs only [DL.evB, DL.evN, beq_self_eq_true, DL.no6_look_two, DL.no6_at_most, DL.no6_join, DL.no6_meet, DL.no6_lowest, DL.no6_highest, DL.no3_look_order, not_false_eq_true, and_self, true_and, and_true, reduceIte, Bool.false_eq_true, List.length_map, List.length_range, List.length_append, List.getElem?_cons_zero, List.getElem?_cons_succ, List.set_cons_zero, List.set_cons_succ, fzE, wipeE, Option.bind_some, Option.map_some, List.length_cons, List.length_nil, cond_true, cond_false, Nat.reduceAdd, Nat.reduceLeDiff, Nat.zero_add, if_true, if_false, eq_self, bOne, Nat.reduceLT, Nat.reduceEqDiff, List.map_cons, List.map_nil, List.cons_append, List.nil_append, List.replicate, Nat.reduceSub, decide_true, decide_false, Bool.not_true, Bool.not_false, last_nIs c.ne]
      refine wp_ifB (fun q => ?_) fun q => ?_
      · have q : l.getLastD 0 ≠ b := by simpa using q
        obtain ⟨d, hd1, hd2⟩ := P.step_up hle q
        have hmem : d ∈ ups ms (l.getLastD 0) b := (mem_ups g).mpr ⟨hd1, hd2⟩
        have hpos := List.length_pos_of_mem hmem
        have j1 : 0 < k + 1 := by omega
        have j2 : k + 1 < 1073741824 := by omega
        have j3 : k % 6 < ds.length := by omega
        have j4 := Nat.mod_lt (ds.getD (k % 6) 0 / (k + 1) + k) hpos
        simp -implicitDefEqProofs only [DL.evB, DL.evN, beq_self_eq_true, DL.no6_look_two, DL.no6_at_most, DL.no6_join, DL.no6_meet, DL.no6_lowest, DL.no6_highest, DL.no3_look_order, not_false_eq_true, and_self, true_and, and_true, reduceIte, Bool.false_eq_true, List.length_map, List.length_range, List.length_append, List.getElem?_cons_zero, List.getElem?_cons_succ, List.set_cons_zero, List.set_cons_succ, fzE, wipeE, Option.bind_some, Option.map_some, List.length_cons, List.length_nil, cond_true, cond_false, Nat.reduceAdd, Nat.reduceLeDiff, Nat.zero_add, if_true, if_false, eq_self, bOne, Nat.reduceLT, Nat.reduceEqDiff, List.map_cons, List.map_nil, List.cons_append, List.nil_append, List.replicate, Nat.reduceSub, decide_true, decide_false, Bool.not_true, Bool.not_false, j1, j2, j3, hpos, j4]
        rw [mutB_app (by rw [List.length_map]; unfold lim; omega), app_nIs]
        simp -implicitDefEqProofs only [DL.evB, DL.evN, beq_self_eq_true, DL.no6_look_two, DL.no6_at_most, DL.no6_join, DL.no6_meet, DL.no6_lowest, DL.no6_highest, DL.no3_look_order, not_false_eq_true, and_self, true_and, and_true, reduceIte, Bool.false_eq_true, List.length_map, List.length_range, List.length_append, List.getElem?_cons_zero, List.getElem?_cons_succ, List.set_cons_zero, List.set_cons_succ, fzE, wipeE, Option.bind_some, Option.map_some, List.length_cons, List.length_nil, cond_true, cond_false, Nat.reduceAdd, Nat.reduceLeDiff, Nat.zero_add, if_true, if_false, eq_self, bOne, Nat.reduceLT, Nat.reduceEqDiff, List.map_cons, List.map_nil, List.cons_append, List.nil_append, List.replicate, Nat.reduceSub, decide_true, decide_false, Bool.not_true, Bool.not_false]
        have hm2 : (ups ms (l.getLastD 0) b).getD ((ds.getD (k % 6) 0 / (k + 1) + k) % (ups ms (l.getLastD 0) b).length) 0 ∈ ups ms (l.getLastD 0) b := getD_mem j4
        generalize (ups ms (l.getLastD 0) b).getD ((ds.getD (k % 6) 0 / (k + 1) + k) % (ups ms (l.getLastD 0) b).length) 0 = y at hm2
        obtain ⟨hy1, hy2⟩ := (mem_ups g).mp hm2
        refine ⟨l ++ [y], some (.sh (.int k)), _, rfl, c.snoc P hy1, ?_, ?_, .inr ?_⟩
        · rw [getD_app_l (List.length_pos_iff.mpr c.ne)]; exact h0
        · rw [List.getLastD_concat]; exact hy2
        · rcases hor with h | h
          · exact absurd h q
          · rw [List.length_append, h]; rfl
      · have q : l.getLastD 0 = b := by simpa using q
        simp -implicitDefEqProofs only [DL.evB, DL.evN, beq_self_eq_true, DL.no6_look_two, DL.no6_at_most, DL.no6_join, DL.no6_meet, DL.no6_lowest, DL.no6_highest, DL.no3_look_order, not_false_eq_true, and_self, true_and, and_true, reduceIte, Bool.false_eq_true, List.length_map, List.length_range, List.length_append, List.getElem?_cons_zero, List.getElem?_cons_succ, List.set_cons_zero, List.set_cons_succ, fzE, wipeE, Option.bind_some, Option.map_some, List.length_cons, List.length_nil, cond_true, cond_false, Nat.reduceAdd, Nat.reduceLeDiff, Nat.zero_add, if_true, if_false, eq_self, bOne, Nat.reduceLT, Nat.reduceEqDiff, List.map_cons, List.map_nil, List.cons_append, List.nil_append, List.replicate, Nat.reduceSub, decide_true, decide_false, Bool.not_true, Bool.not_false]
        exact ⟨l, some (.sh (.int k)), _, rfl, c, h0, hle, .inl q⟩
    · rintro e ⟨l, o6, o7, rfl, c, h0, hle, hor⟩
      simp -implicitDefEqProofs only [DL.evB, DL.evN, beq_self_eq_true, DL.no6_look_two, DL.no6_at_most, DL.no6_join, DL.no6_meet, DL.no6_lowest, DL.no6_highest, DL.no3_look_order, not_false_eq_true, and_self, true_and, and_true, reduceIte, Bool.false_eq_true, List.length_map, List.length_range, List.length_append, List.getElem?_cons_zero, List.getElem?_cons_succ, List.set_cons_zero, List.set_cons_succ, fzE, wipeE, Option.bind_some, Option.map_some, List.length_cons, List.length_nil, cond_true, cond_false, Nat.reduceAdd, Nat.reduceLeDiff, Nat.zero_add, if_true, if_false, eq_self, bOne, Nat.reduceLT, Nat.reduceEqDiff, List.map_cons, List.map_nil, List.cons_append, List.nil_append, List.replicate, Nat.reduceSub, decide_true, decide_false, Bool.not_true, Bool.not_false]
      refine ⟨l, rfl, c, h0, ?_⟩
      rcases hor with h | h
      · exact h
      · exfalso
        have := c.len P
        rw [List.length_range] at h
        omega
  obtain ⟨r, e, l, rfl, h⟩ := key
  exact ⟨l, e, h⟩
end Ev
namespace Ev
open PySem PySem.Spec L2 DL
def lindB : O R → O R → O R
  | .ok r, b => match r.d.py with
    | some (.list _) => b.bind fun b => O.of (dLindex r.d b.d)
    | _ => .no
  | .ex x, _ => .ex x
  | .no, _ => .no
theorem ev_lindB {fo fa : Ev → O R} {env : Ev} : fLindex fo fa env = lindB (fo env) (fa env) := by
  rw [ev_lindex]
  cases fo env <;> rfl
theorem lindB_nI {xs : List Nat} {x : Nat} (hx : x ∈ xs) : lindB (.ok (.sh (.lst (xs.map nI)))) (.ok (.sh (.int (x : Nat)))) = .ok (.sh (.int (xs.idxOf x : Nat))) := by
  have := lindexN (fo := eC (.lst (xs.map nI))) (fa := eC (.int (x : Nat))) (env := []) (r := .sh (.lst (xs.map nI))) (xs := xs) (x := x) rfl rfl rfl hx
  rw [ev_lindB] at this
  exact this
theorem draws_len (c : Int) (m : Nat) (hm : m ≤ 100) : ∃ ds : List Nat, ds.length = m ∧ F__law_draws [.int c, .int m] = .ok (.fr (.ow (ds.map nI))) := by
  obtain ⟨ds, h1, _, h2⟩ := draws_spec c m hm
  exact ⟨ds, h1, h2⟩
end Ev

/-! F_k31: plain functions, printed by reg.py -/
namespace Ev
open PySem PySem.Spec L2 DL
def f__law_due_k31 : Ev → SO := (sSeq (sSet 3 (eLst aNil))
    (sSeq (sFor (fIt (vCons (eC (.int 1)) (vCons (fBin dSub (fBlt (bOne dLen) (vCons (eVar 1) aNil)) (eC (.int 1))) aNil)) rng2) (gN 4) (sFor (fIt (vCons (eVar 2) aNil) rng1) (gN 5) (sSeq (sSetF 6 (eAnd (fBin dIn (eTup (aCons (fBin dIx (eVar 1) (fBin dSub (eVar 4) (eC (.int 1)))) (aCons (eVar 5) aNil))) (eVar 0)) (fBin dIn (eTup (aCons (eVar 5) (aCons (fBin dIx (eVar 1) (fBin dAdd (eVar 4) (eC (.int 1)))) aNil))) (eVar 0))))
    (sIf (fAnd (fB (eVar 6)) (fB (fBin dNe (eVar 5) (fBin dIx (eVar 1) (eVar 4))))) (sMut 3 hAppend (aCons (eTup (aCons (eVar 4) (aCons (eVar 5) aNil))) aNil)) sNx))))
    (sRetv 3)))
def F__law_due_k31 : List D → O R := fnD 7 3 f__law_due_k31
def f_law_k31 : Ev → SO := (sSeq (sSetF 1 (fCall F__law_order (aCons (eVar 0) (aCons (eC (.int 0)) aNil))))
    (sSeq (sSetF 2 (fCall F__law_steps (aCons (eVar 1) aNil)))
    (sSeq (sSetF 3 (fCall F__law_handed (aCons (eVar 1) (aCons (fCall F__law_draws (aCons (fCall F__law_cell_at (aCons (eVar 0) (aCons (eC (.int 2)) aNil))) (aCons (eC (.int 8)) aNil))) aNil))))
    (sSeq (sSetF 4 (fOrder F_order___init__ (vCons (fBlt (bOne dLen) (vCons (eVar 1) aNil)) (vCons (eVar 3) aNil))))
    (sSeq (sFor (iSeqF (fBin dAdd (eLst (aCons (eC (.int 0)) (aCons (eC (.int 5)) aNil))) (fSl (eVar 0) (fPart (eC (.int 3))) (fPart (eC (.int 15)))))) (gN 5) (sSeq (sSetF 6 (fCall F__law_draws (aCons (eVar 5) (aCons (eC (.int 10)) aNil))))
    (sSeq (sSetF 7 (fLindex (eVar 1) (fBlt (bMin) (vCons (eVar 1) aNil))))
    (sSeq (sSetF 8 (fLindex (eVar 1) (fBlt (bMax) (vCons (eVar 1) aNil))))
    (sSeq (sIf (fB (fBin dEq (fBin dMod (fBin dIx (eVar 6) (eC (.int 6))) (eC (.int 3))) (eC (.int 1)))) (sSeq (sSetF 8 (fBin dMod (fBin dIx (eVar 6) (eC (.int 7))) (fBlt (bOne dLen) (vCons (eVar 1) aNil))))
    (sSetF 7 (fCall F__law_meet (aCons (eVar 1) (aCons (eVar 8) (aCons (fBin dMod (fBin dIx (eVar 6) (eC (.int 8))) (fBlt (bOne dLen) (vCons (eVar 1) aNil))) aNil)))))) sNx)
    (sSeq (sSetF 9 (fCall F__law_climb (aCons (eVar 2) (aCons (eVar 1) (aCons (eVar 7) (aCons (eVar 8) (aCons (eVar 6) aNil)))))))
    (sSeq (sSetF 10 (fBlt (bOne dList) (vCons (eVar 9) aNil)))
    (sSeq (sSetF 11 (fCall F__law_due_k31 (aCons (eVar 2) (aCons (eVar 9) (aCons (fBlt (bOne dLen) (vCons (eVar 1) aNil)) aNil)))))
    (sSeq (sSet 12 (fCall F_exchanges (aCons (eVar 4) (aCons (eVar 10) aNil))))
    (sSeq (sIf (fOr (fNot (fB (fCallB F__law_same (vCons (eVar 12) (vCons (eVar 11) aNil))))) (fB (fBin dNe (eVar 10) (eVar 9)))) (sRet (eC (.bl false))) sNx)
    (sSeq (sClear 12)
    (sSeq (sIf (fB (fBin dNe (fCall F_exchanges (aCons (eVar 4) (aCons (eVar 10) aNil))) (eVar 11))) (sRet (eC (.bl false))) sNx)
    (sFor (iSeqF (eVar 11)) (gS 2 (gCons (gN 13) (gCons (gN 14) gNil))) (sSeq (sSet 15 (fCall F_exchanged (aCons (eVar 4) (aCons (eVar 10) (aCons (eTup (aCons (eVar 13) (aCons (eVar 14) aNil))) aNil)))))
    (sSeq (sSetF 16 (fBin dAdd (fBin dAdd (fSl (eVar 9) (fun _ => .ok none) (fPart (eVar 13))) (eLst (aCons (eVar 14) aNil))) (fSl (eVar 9) (fPart (fBin dAdd (eVar 13) (eC (.int 1)))) (fun _ => .ok none))))
    (sSeq (sIf (fOr (fNot (fB (fCallB F__law_same (vCons (eVar 15) (vCons (eVar 16) aNil))))) (fB (fBin dNe (eVar 10) (eVar 9)))) (sRet (eC (.bl false))) sNx)
    (sClear 15)))))))))))))))))
    (sRet (eC (.bl true))))))))
def F_law_k31 : List D → O R := fnD 17 1 f_law_k31
end Ev

/-! M_k31: the law, over the plain functions. -/
namespace Ev
open PySem PySem.Spec L2 DL
theorem due_spec {ms : List Nat} (g : Good ms) {l : List Nat} (c : Clm ms.length (mle ms) l) : F__law_due_k31 [.lst ((covs ms.length (mle ms)).map tI), .lst (l.map nI), .int (ms.length : Nat)] = .ok (.fr (.ow ((exch ms.length (mle ms) l).map tI))) := by
  have P := g.lat.po
  have hn := g.len
  have hl := c.len P
  have hlp : 1 ≤ l.length := List.length_pos_iff.mpr c.ne
  have hin : ∀ {a b : Nat}, decide ((a, b) ∈ covs ms.length (mle ms)) = cov ms.length (mle ms) a b := by
    intro a b
    rw [Bool.eq_iff_iff, decide_eq_true_iff]; exact mem_covs P
  generalize hN : ms.length = n at *
  generalize hL : mle ms = le at *
  generalize hC : covs n le = cv at *
  refine fn_eq rfl ?_
  unfold f__law_due_k31
  simp -implicitDefEqProofs only [DL.evB, DL.evN, beq_self_eq_true, DL.no6_look_two, DL.no6_at_most, DL.no6_join, DL.no6_meet, DL.no6_lowest, DL.no6_highest, DL.no3_look_order, not_false_eq_true, and_self, true_and, and_true, reduceIte, Bool.false_eq_true, List.length_map, List.length_range, List.length_append, List.getElem?_cons_zero, List.getElem?_cons_succ, List.set_cons_zero, List.set_cons_succ, fzE, wipeE, Option.bind_some, Option.map_some, List.length_cons, List.length_nil, cond_true, cond_false, Nat.reduceAdd, Nat.reduceLeDiff, Nat.zero_add, if_true, if_false, eq_self, bOne, Nat.reduceLT, Nat.reduceEqDiff, List.map_cons, List.map_nil, List.cons_append, List.nil_append, List.replicate, Nat.reduceSub, decide_true, decide_false, Bool.not_true, Bool.not_false, hlp]
  rw [rng2_nat (by omega) (by omega)]
  simp -implicitDefEqProofs only [DL.evB, DL.evN, beq_self_eq_true, DL.no6_look_two, DL.no6_at_most, DL.no6_join, DL.no6_meet, DL.no6_lowest, DL.no6_highest, DL.no3_look_order, not_false_eq_true, and_self, true_and, and_true, reduceIte, Bool.false_eq_true, List.length_map, List.length_range, List.length_append, List.getElem?_cons_zero, List.getElem?_cons_succ, List.set_cons_zero, List.set_cons_succ, fzE, wipeE, Option.bind_some, Option.map_some, List.length_cons, List.length_nil, cond_true, cond_false, Nat.reduceAdd, Nat.reduceLeDiff, Nat.zero_add, if_true, if_false, eq_self, bOne, Nat.reduceLT, Nat.reduceEqDiff, List.map_cons, List.map_nil, List.cons_append, List.nil_append, List.replicate, Nat.reduceSub, decide_true, decide_false, Bool.not_true, Bool.not_false]
  have hlen : ∀ ps : List Nat, (ps.flatMap fun p => ((List.range n).filter (exP n le l p)).map fun t => (p, t)).length ≤ ps.length * 24 := by
    intro ps
    induction ps with
    | nil => simp
    | cons p ps ih =>
      rw [List.flatMap_cons, List.length_append, List.length_map, List.length_cons, Nat.add_mul]
      have := List.length_filter_le (exP n le l p) (List.range n)
      rw [List.length_range] at this
      omega
  refine wp_forL (fun pre e => ∃ o3 o4 o5, e = [some (.sh (.lst (cv.map tI))), some (.sh (.lst (l.map nI))), some (.sh (.int n)), some (.ow ((pre.flatMap fun p => ((List.range n).filter (exP n le l p)).map fun t => (p, t)).map tI)), o3, o4, o5] ∧ pre.length ≤ 24) ⟨_, _, _, rfl, by simp⟩ ?_ ?_
  · rintro pre p post e hx ⟨o3, o4, o5, rfl, hpl⟩
    have hp : 1 ≤ p ∧ p + 1 < l.length := by
      have : p ∈ List.range' 1 (l.length - 1 - 1) := by rw [hx]; simp
      have := List.mem_range'_1.mp this
      omega
    have hpl2 : pre.length + 1 ≤ 24 := by
      have := congrArg List.length hx
      rw [List.length_range', List.length_append, List.length_cons] at this
      omega
    refine ⟨_, rfl, ?_⟩
    have i1 : p - 1 < l.length := by omega
    have i2 : p < l.length := by omega
    simp -implicitDefEqProofs only [DL.evB, DL.evN, beq_self_eq_true, DL.no6_look_two, DL.no6_at_most, DL.no6_join, DL.no6_meet, DL.no6_lowest, DL.no6_highest, DL.no3_look_order, not_false_eq_true, and_self, true_and, and_true, reduceIte, Bool.false_eq_true, List.length_map, List.length_range, List.length_append, List.getElem?_cons_zero, List.getElem?_cons_succ, List.set_cons_zero, List.set_cons_succ, fzE, wipeE, Option.bind_some, Option.map_some, List.length_cons, List.length_nil, cond_true, cond_false, Nat.reduceAdd, Nat.reduceLeDiff, Nat.zero_add, if_true, if_false, eq_self, bOne, Nat.reduceLT, Nat.reduceEqDiff, List.map_cons, List.map_nil, List.cons_append, List.nil_append, List.replicate, Nat.reduceSub, decide_true, decide_false, Bool.not_true, Bool.not_false]
    rw [rng1_nat (by omega)]
    simp -implicitDefEqProofs only [DL.evB, DL.evN, beq_self_eq_true, DL.no6_look_two, DL.no6_at_most, DL.no6_join, DL.no6_meet, DL.no6_lowest, DL.no6_highest, DL.no3_look_order, not_false_eq_true, and_self, true_and, and_true, reduceIte, Bool.false_eq_true, List.length_map, List.length_range, List.length_append, List.getElem?_cons_zero, List.getElem?_cons_succ, List.set_cons_zero, List.set_cons_succ, fzE, wipeE, Option.bind_some, Option.map_some, List.length_cons, List.length_nil, cond_true, cond_false, Nat.reduceAdd, Nat.reduceLeDiff, Nat.zero_add, if_true, if_false, eq_self, bOne, Nat.reduceLT, Nat.reduceEqDiff, List.map_cons, List.map_nil, List.cons_append, List.nil_append, List.replicate, Nat.reduceSub, decide_true, decide_false, Bool.not_true, Bool.not_false]
    refine wp_forL (fun pr e => ∃ o4 o5, e = [some (.sh (.lst (cv.map tI))), some (.sh (.lst (l.map nI))), some (.sh (.int n)), some (.ow (((pre.flatMap fun p => ((List.range n).filter (exP n le l p)).map fun t => (p, t)) ++ ((pr.filter (exP n le l p)).map fun t => (p, t))).map tI)), some (.sh (.int p)), o4, o5] ∧ pr.length ≤ 24) ⟨_, _, by simp; exact ⟨rfl, rfl⟩, by simp⟩ ?_ ?_
    · rintro pr t po e hx2 ⟨o4, o5, rfl, hprl⟩
      obtain ⟨et, ht⟩ := range_split hx2
      refine ⟨_, rfl, ?_⟩
      simp -implicitDefEqProofs only [DL.evB, DL.evN, beq_self_eq_true, DL.no6_look_two, DL.no6_at_most, DL.no6_join, DL.no6_meet, DL.no6_lowest, DL.no6_highest, DL.no3_look_order, not_false_eq_true, and_self, true_and, and_true, reduceIte, Bool.false_eq_true, List.length_map, List.length_range, List.length_append, List.getElem?_cons_zero, List.getElem?_cons_succ, List.set_cons_zero, List.set_cons_succ, fzE, wipeE, Option.bind_some, Option.map_some, List.length_cons, List.length_nil, cond_true, cond_false, Nat.reduceAdd, Nat.reduceLeDiff, Nat.zero_add, if_true, if_false, eq_self, bOne, Nat.reduceLT, Nat.reduceEqDiff, List.map_cons, List.map_nil, List.cons_append, List.nil_append, List.replicate, Nat.reduceSub, decide_true, decide_false, Bool.not_true, Bool.not_false, hp.1, i1, hp.2, i2, hin]
      refine wp_ifB (fun q => ?_) fun q => ?_
      · simp -implicitDefEqProofs only [DL.evB, DL.evN, beq_self_eq_true, DL.no6_look_two, DL.no6_at_most, DL.no6_join, DL.no6_meet, DL.no6_lowest, DL.no6_highest, DL.no3_look_order, not_false_eq_true, and_self, true_and, and_true, reduceIte, Bool.false_eq_true, List.length_map, List.length_range, List.length_append, List.getElem?_cons_zero, List.getElem?_cons_succ, List.set_cons_zero, List.set_cons_succ, fzE, wipeE, Option.bind_some, Option.map_some, List.length_cons, List.length_nil, cond_true, cond_false, Nat.reduceAdd, Nat.reduceLeDiff, Nat.zero_add, if_true, if_false, eq_self, bOne, Nat.reduceLT, Nat.reduceEqDiff, List.map_cons, List.map_nil, List.cons_append, List.nil_append, List.replicate, Nat.reduceSub, decide_true, decide_false, Bool.not_true, Bool.not_false]
        rw [mutB_app (by
          have := hlen pre
          have h3 := List.length_filter_le (exP n le l p) pr
          simp only [List.length_map, List.length_append]
          unfold lim; omega), app_tIs]
        simp -implicitDefEqProofs only [DL.evB, DL.evN, beq_self_eq_true, DL.no6_look_two, DL.no6_at_most, DL.no6_join, DL.no6_meet, DL.no6_lowest, DL.no6_highest, DL.no3_look_order, not_false_eq_true, and_self, true_and, and_true, reduceIte, Bool.false_eq_true, List.length_map, List.length_range, List.length_append, List.getElem?_cons_zero, List.getElem?_cons_succ, List.set_cons_zero, List.set_cons_succ, fzE, wipeE, Option.bind_some, Option.map_some, List.length_cons, List.length_nil, cond_true, cond_false, Nat.reduceAdd, Nat.reduceLeDiff, Nat.zero_add, if_true, if_false, eq_self, bOne, Nat.reduceLT, Nat.reduceEqDiff, List.map_cons, List.map_nil, List.cons_append, List.nil_append, List.replicate, Nat.reduceSub, decide_true, decide_false, Bool.not_true, Bool.not_false]
        refine ⟨some (.sh (.int t)), some (.sh (.bl _)), by rw [filter_pos (p := exP n le l p) q, List.map_append (f := fun t => (p, t)), ← List.append_assoc]; rfl, by omega⟩
      · simp -implicitDefEqProofs only [DL.evB, DL.evN, beq_self_eq_true, DL.no6_look_two, DL.no6_at_most, DL.no6_join, DL.no6_meet, DL.no6_lowest, DL.no6_highest, DL.no3_look_order, not_false_eq_true, and_self, true_and, and_true, reduceIte, Bool.false_eq_true, List.length_map, List.length_range, List.length_append, List.getElem?_cons_zero, List.getElem?_cons_succ, List.set_cons_zero, List.set_cons_succ, fzE, wipeE, Option.bind_some, Option.map_some, List.length_cons, List.length_nil, cond_true, cond_false, Nat.reduceAdd, Nat.reduceLeDiff, Nat.zero_add, if_true, if_false, eq_self, bOne, Nat.reduceLT, Nat.reduceEqDiff, List.map_cons, List.map_nil, List.cons_append, List.nil_append, List.replicate, Nat.reduceSub, decide_true, decide_false, Bool.not_true, Bool.not_false]
        refine ⟨some (.sh (.int t)), some (.sh (.bl _)), by rw [filter_neg (p := exP n le l p) q], by omega⟩
    · rintro e ⟨o4, o5, rfl, _⟩
      simp -implicitDefEqProofs only [DL.evB, DL.evN, beq_self_eq_true, DL.no6_look_two, DL.no6_at_most, DL.no6_join, DL.no6_meet, DL.no6_lowest, DL.no6_highest, DL.no3_look_order, not_false_eq_true, and_self, true_and, and_true, reduceIte, Bool.false_eq_true, List.length_map, List.length_range, List.length_append, List.getElem?_cons_zero, List.getElem?_cons_succ, List.set_cons_zero, List.set_cons_succ, fzE, wipeE, Option.bind_some, Option.map_some, List.length_cons, List.length_nil, cond_true, cond_false, Nat.reduceAdd, Nat.reduceLeDiff, Nat.zero_add, if_true, if_false, eq_self, bOne, Nat.reduceLT, Nat.reduceEqDiff, List.map_cons, List.map_nil, List.cons_append, List.nil_append, List.replicate, Nat.reduceSub, decide_true, decide_false, Bool.not_true, Bool.not_false]
      refine ⟨some (.sh (.int p)), o4, o5, by rw [List.flatMap_append, List.flatMap_cons, List.flatMap_nil, List.append_nil], by omega⟩
  · rintro e ⟨o3, o4, o5, rfl, _⟩
    simp -implicitDefEqProofs only [DL.evB, DL.evN, beq_self_eq_true, DL.no6_look_two, DL.no6_at_most, DL.no6_join, DL.no6_meet, DL.no6_lowest, DL.no6_highest, DL.no3_look_order, not_false_eq_true, and_self, true_and, and_true, reduceIte, Bool.false_eq_true, List.length_map, List.length_range, List.length_append, List.getElem?_cons_zero, List.getElem?_cons_succ, List.set_cons_zero, List.set_cons_succ, fzE, wipeE, Option.bind_some, Option.map_some, List.length_cons, List.length_nil, cond_true, cond_false, Nat.reduceAdd, Nat.reduceLeDiff, Nat.zero_add, if_true, if_false, eq_self, bOne, Nat.reduceLT, Nat.reduceEqDiff, List.map_cons, List.map_nil, List.cons_append, List.nil_append, List.replicate, Nat.reduceSub, decide_true, decide_false, Bool.not_true, Bool.not_false]
    rfl
theorem law_true (ns : List Int) (hns : ns.length ≤ 63) : F_law_k31 [.lkd (ns.map D.int)] = .ok (.sh (.bl true)) := by
  refine fn_eq rfl ?_
  unfold f_law_k31
  obtain ⟨m, g, e0⟩ := order_spec ns 0
  obtain ⟨p, d, c, ds, l, _, ec, ed, eh, eo, ho⟩ := order_of ns 2 g
  have T := g.lat
  have P := T.po
  have hn := g.len
  have hm := g.pos
  obtain ⟨lo, hlo, qlo, elo, ilo, mlo⟩ := g.lo
  obtain ⟨hi, hhi, qhi, ehi, ihi, mhi⟩ := g.hi
  obtain ⟨cs, hcs⟩ := cells2 0 5 ((ns.take 15).drop 3) (by simp; omega)
  have xlo := lindB_nI mlo
  have xhi := lindB_nI mhi
  rw [ilo] at xlo
  rw [ihi] at xhi
  simp -implicitDefEqProofs only [DL.evB, DL.evN, beq_self_eq_true, DL.no6_look_two, DL.no6_at_most, DL.no6_join, DL.no6_meet, DL.no6_lowest, DL.no6_highest, DL.no3_look_order, not_false_eq_true, and_self, true_and, and_true, reduceIte, Bool.false_eq_true, List.length_map, List.length_range, List.length_append, List.getElem?_cons_zero, List.getElem?_cons_succ, List.set_cons_zero, List.set_cons_succ, fzE, wipeE, Option.bind_some, Option.map_some, List.length_cons, List.length_nil, cond_true, cond_false, Nat.reduceAdd, Nat.reduceLeDiff, Nat.zero_add, if_true, if_false, eq_self, bOne, Nat.reduceLT, Nat.reduceEqDiff, List.map_cons, List.map_nil, List.cons_append, List.nil_append, List.replicate, Nat.reduceSub, decide_true, decide_false, Bool.not_true, Bool.not_false, e0, steps_spec g, ec, ed, eh, eo, hcs]
  refine wp_forL (fun pre e => ∃ o5 o6 o7 o8 o9 o10 o11 o12 o13 o14 o15 o16, e = [some (.sh (.lkd (ns.map D.int))), some (.sh (.lst (m.map nI))), some (.sh (.lst ((covs m.length (mle m)).map tI))), some (.sh (.lst (p.map tI))), some (.sh d), o5, o6, o7, o8, o9, o10, o11, o12, o13, o14, o15, o16]) ⟨_, _, _, _, _, _, _, _, _, _, _, _, rfl⟩ ?_ ?_
  · rintro pre x post e hx ⟨o5, o6, o7, o8, o9, o10, o11, o12, o13, o14, o15, o16, rfl⟩
    obtain ⟨es, el, ee⟩ := draws_len x 10 (by omega)
    have k6 : 6 < es.length := by omega
    have k7 : 7 < es.length := by omega
    have k8 : 8 < es.length := by omega
    refine ⟨_, rfl, ?_⟩
    -- from the two ends on
    have rest : ∀ (a b : Nat), mle m a b = true → 
        wpS (turnP { rt := fun q => q = R.sh (D.bl true) } [sRet (eC (D.bl true))] (fun e => ∃ o5 o6 o7 o8 o9 o10 o11 o12 o13 o14 o15 o16, e = [some (.sh (.lkd (ns.map D.int))), some (.sh (.lst (m.map nI))), some (.sh (.lst ((covs m.length (mle m)).map tI))), some (.sh (.lst (p.map tI))), some (.sh d), o5, o6, o7, o8, o9, o10, o11, o12, o13, o14, o15, o16])) [(sSeq (sSetF 9 (fCall F__law_climb (aCons (eVar 2) (aCons (eVar 1) (aCons (eVar 7) (aCons (eVar 8) (aCons (eVar 6) aNil)))))))
    (sSeq (sSetF 10 (fBlt (bOne dList) (vCons (eVar 9) aNil)))
    (sSeq (sSetF 11 (fCall F__law_due_k31 (aCons (eVar 2) (aCons (eVar 9) (aCons (fBlt (bOne dLen) (vCons (eVar 1) aNil)) aNil)))))
    (sSeq (sSet 12 (fCall F_exchanges (aCons (eVar 4) (aCons (eVar 10) aNil))))
    (sSeq (sIf (fOr (fNot (fB (fCallB F__law_same (vCons (eVar 12) (vCons (eVar 11) aNil))))) (fB (fBin dNe (eVar 10) (eVar 9)))) (sRet (eC (.bl false))) sNx)
    (sSeq (sClear 12)
    (sSeq (sIf (fB (fBin dNe (fCall F_exchanges (aCons (eVar 4) (aCons (eVar 10) aNil))) (eVar 11))) (sRet (eC (.bl false))) sNx)
    (sFor (iSeqF (eVar 11)) (gS 2 (gCons (gN 13) (gCons (gN 14) gNil))) (sSeq (sSet 15 (fCall F_exchanged (aCons (eVar 4) (aCons (eVar 10) (aCons (eTup (aCons (eVar 13) (aCons (eVar 14) aNil))) aNil)))))
    (sSeq (sSetF 16 (fBin dAdd (fBin dAdd (fSl (eVar 9) (fun _ => .ok none) (fPart (eVar 13))) (eLst (aCons (eVar 14) aNil))) (fSl (eVar 9) (fPart (fBin dAdd (eVar 13) (eC (.int 1)))) (fun _ => .ok none))))
    (sSeq (sIf (fOr (fNot (fB (fCallB F__law_same (vCons (eVar 15) (vCons (eVar 16) aNil))))) (fB (fBin dNe (eVar 10) (eVar 9)))) (sRet (eC (.bl false))) sNx)
    (sClear 15))))))))))))] (.nx [some (.sh (.lkd (ns.map D.int))), some (.sh (.lst (m.map nI))), some (.sh (.lst ((covs m.length (mle m)).map tI))), some (.sh (.lst (p.map tI))), some (.sh d), some (.sh (.int x)), some (.sh (.lst (es.map nI))), some (.sh (.int a)), some (.sh (.int b)), o9, o10, o11, o12, o13, o14, o15, o16]) := by
      intro a b hab
      obtain ⟨cl, ecl, hc, _, _⟩ := climb_spec g hab es (by omega)
      have hcl := hc.len P
      have hxl := exch_len (n := m.length) (le := mle m) (l := cl) (by omega) hn
      have s1 := callBB_bl (same_spec (d := .lst ((exch m.length (mle m) cl).map tI)) (smp_lstT (by omega)))
      have n1 := ne_self (d := .lst (cl.map nI)) pure_lstN
      have n2 := ne_self (d := .lst ((exch m.length (mle m) cl).map tI)) pure_lstT
      simp -implicitDefEqProofs only [DL.evB, DL.evN, beq_self_eq_true, DL.no6_look_two, DL.no6_at_most, DL.no6_join, DL.no6_meet, DL.no6_lowest, DL.no6_highest, DL.no3_look_order, not_false_eq_true, and_self, true_and, and_true, reduceIte, Bool.false_eq_true, List.length_map, List.length_range, List.length_append, List.getElem?_cons_zero, List.getElem?_cons_succ, List.set_cons_zero, List.set_cons_succ, fzE, wipeE, Option.bind_some, Option.map_some, List.length_cons, List.length_nil, cond_true, cond_false, Nat.reduceAdd, Nat.reduceLeDiff, Nat.zero_add, if_true, if_false, eq_self, bOne, Nat.reduceLT, Nat.reduceEqDiff, List.map_cons, List.map_nil, List.cons_append, List.nil_append, List.replicate, Nat.reduceSub, decide_true, decide_false, Bool.not_true, Bool.not_false, ecl, due_spec g hc, exchanges_spec P ho hn hc, s1, n1, n2]
      refine wp_forL (fun pre e => ∃ o13 o14 o15 o16, e = [some (.sh (.lkd (ns.map D.int))), some (.sh (.lst (m.map nI))), some (.sh (.lst ((covs m.length (mle m)).map tI))), some (.sh (.lst (p.map tI))), some (.sh d), some (.sh (.int x)), some (.sh (.lst (es.map nI))), some (.sh (.int a)), some (.sh (.int b)), some (.sh (.lst (cl.map nI))), some (.sh (.lst (cl.map nI))), some (.sh (.lst ((exch m.length (mle m) cl).map tI))), some (.ow []), o13, o14, o15, o16]) ⟨_, _, _, _, rfl⟩ ?_ ?_
      · rintro pre ⟨i, t⟩ post e hx2 ⟨o13, o14, o15, o16, rfl⟩
        have hmem : (i, t) ∈ exch m.length (mle m) cl := by rw [hx2]; simp
        refine ⟨_, rfl, ?_⟩
        have hw : (withEx cl i t).length < 1000000 := by unfold withEx; simp; omega
        have s2 := callBB_bl (same_spec (d := .lst ((withEx cl i t).map nI)) (smp_lstN hw))
        simp -implicitDefEqProofs only [DL.evB, DL.evN, beq_self_eq_true, DL.no6_look_two, DL.no6_at_most, DL.no6_join, DL.no6_meet, DL.no6_lowest, DL.no6_highest, DL.no3_look_order, not_false_eq_true, and_self, true_and, and_true, reduceIte, Bool.false_eq_true, List.length_map, List.length_range, List.length_append, List.getElem?_cons_zero, List.getElem?_cons_succ, List.set_cons_zero, List.set_cons_succ, fzE, wipeE, Option.bind_some, Option.map_some, List.length_cons, List.length_nil, cond_true, cond_false, Nat.reduceAdd, Nat.reduceLeDiff, Nat.zero_add, if_true, if_false, eq_self, bOne, Nat.reduceLT, Nat.reduceEqDiff, List.map_cons, List.map_nil, List.cons_append, List.nil_append, List.replicate, Nat.reduceSub, decide_true, decide_false, Bool.not_true, Bool.not_false, exchanged_spec P ho hn hc hmem]
        rw [add_nIs_sh (by simp; omega)]
        simp -implicitDefEqProofs only [DL.evB, DL.evN, beq_self_eq_true, DL.no6_look_two, DL.no6_at_most, DL.no6_join, DL.no6_meet, DL.no6_lowest, DL.no6_highest, DL.no3_look_order, not_false_eq_true, and_self, true_and, and_true, reduceIte, Bool.false_eq_true, List.length_map, List.length_range, List.length_append, List.getElem?_cons_zero, List.getElem?_cons_succ, List.set_cons_zero, List.set_cons_succ, fzE, wipeE, Option.bind_some, Option.map_some, List.length_cons, List.length_nil, cond_true, cond_false, Nat.reduceAdd, Nat.reduceLeDiff, Nat.zero_add, if_true, if_false, eq_self, bOne, Nat.reduceLT, Nat.reduceEqDiff, List.map_cons, List.map_nil, List.cons_append, List.nil_append, List.replicate, Nat.reduceSub, decide_true, decide_false, Bool.not_true, Bool.not_false]
        rw [add_nIs (by simp; omega)]
        have ew : cl.take i ++ [t] ++ cl.drop (i + 1) = withEx cl i t := rfl
        simp -implicitDefEqProofs only [DL.evB, DL.evN, beq_self_eq_true, DL.no6_look_two, DL.no6_at_most, DL.no6_join, DL.no6_meet, DL.no6_lowest, DL.no6_highest, DL.no3_look_order, not_false_eq_true, and_self, true_and, and_true, reduceIte, Bool.false_eq_true, List.length_map, List.length_range, List.length_append, List.getElem?_cons_zero, List.getElem?_cons_succ, List.set_cons_zero, List.set_cons_succ, fzE, wipeE, Option.bind_some, Option.map_some, List.length_cons, List.length_nil, cond_true, cond_false, Nat.reduceAdd, Nat.reduceLeDiff, Nat.zero_add, if_true, if_false, eq_self, bOne, Nat.reduceLT, Nat.reduceEqDiff, List.map_cons, List.map_nil, List.cons_append, List.nil_append, List.replicate, Nat.reduceSub, decide_true, decide_false, Bool.not_true, Bool.not_false, ew, s2, n1]
        exact ⟨_, _, _, _, rfl⟩
      · rintro e ⟨o13, o14, o15, o16, rfl⟩
        simp -implicitDefEqProofs only [DL.evB, DL.evN, beq_self_eq_true, DL.no6_look_two, DL.no6_at_most, DL.no6_join, DL.no6_meet, DL.no6_lowest, DL.no6_highest, DL.no3_look_order, not_false_eq_true, and_self, true_and, and_true, reduceIte, Bool.false_eq_true, List.length_map, List.length_range, List.length_append, List.getElem?_cons_zero, List.getElem?_cons_succ, List.set_cons_zero, List.set_cons_succ, fzE, wipeE, Option.bind_some, Option.map_some, List.length_cons, List.length_nil, cond_true, cond_false, Nat.reduceAdd, Nat.reduceLeDiff, Nat.zero_add, if_true, if_false, eq_self, bOne, Nat.reduceLT, Nat.reduceEqDiff, List.map_cons, List.map_nil, List.cons_append, List.nil_append, List.replicate, Nat.reduceSub, decide_true, decide_false, Bool.not_true, Bool.not_false]
        exact ⟨_, _, _, _, _, _, _, _, _, _, _, _, rfl⟩
    simp -implicitDefEqProofs only [DL.evB, DL.evN, beq_self_eq_true, DL.no6_look_two, DL.no6_at_most, DL.no6_join, DL.no6_meet, DL.no6_lowest, DL.no6_highest, DL.no3_look_order, not_false_eq_true, and_self, true_and, and_true, reduceIte, Bool.false_eq_true, List.length_map, List.length_range, List.length_append, List.getElem?_cons_zero, List.getElem?_cons_succ, List.set_cons_zero, List.set_cons_succ, fzE, wipeE, Option.bind_some, Option.map_some, List.length_cons, List.length_nil, cond_true, cond_false, Nat.reduceAdd, Nat.reduceLeDiff, Nat.zero_add, if_true, if_false, eq_self, bOne, Nat.reduceLT, Nat.reduceEqDiff, List.map_cons, List.map_nil, List.cons_append, List.nil_append, List.replicate, Nat.reduceSub, decide_true, decide_false, Bool.not_true, Bool.not_false, ee, ev_lindB, elo, ehi, xlo, xhi, k6]
    refine wp_ifB (fun q => ?_) fun q => ?_
    · have b1 := Nat.mod_lt (es.getD 7 0) hm
      have b2 := Nat.mod_lt (es.getD 8 0) hm
      simp -implicitDefEqProofs only [DL.evB, DL.evN, beq_self_eq_true, DL.no6_look_two, DL.no6_at_most, DL.no6_join, DL.no6_meet, DL.no6_lowest, DL.no6_highest, DL.no3_look_order, not_false_eq_true, and_self, true_and, and_true, reduceIte, Bool.false_eq_true, List.length_map, List.length_range, List.length_append, List.getElem?_cons_zero, List.getElem?_cons_succ, List.set_cons_zero, List.set_cons_succ, fzE, wipeE, Option.bind_some, Option.map_some, List.length_cons, List.length_nil, cond_true, cond_false, Nat.reduceAdd, Nat.reduceLeDiff, Nat.zero_add, if_true, if_false, eq_self, bOne, Nat.reduceLT, Nat.reduceEqDiff, List.map_cons, List.map_nil, List.cons_append, List.nil_append, List.replicate, Nat.reduceSub, decide_true, decide_false, Bool.not_true, Bool.not_false, k7, k8, hm, meet_spec g b1 b2]
      have := rest _ _ (T.ml b1 b2)
      simp -implicitDefEqProofs only [DL.evB, DL.evN, beq_self_eq_true, DL.no6_look_two, DL.no6_at_most, DL.no6_join, DL.no6_meet, DL.no6_lowest, DL.no6_highest, DL.no3_look_order, not_false_eq_true, and_self, true_and, and_true, reduceIte, Bool.false_eq_true, List.length_map, List.length_range, List.length_append, List.getElem?_cons_zero, List.getElem?_cons_succ, List.set_cons_zero, List.set_cons_succ, fzE, wipeE, Option.bind_some, Option.map_some, List.length_cons, List.length_nil, cond_true, cond_false, Nat.reduceAdd, Nat.reduceLeDiff, Nat.zero_add, if_true, if_false, eq_self, bOne, Nat.reduceLT, Nat.reduceEqDiff, List.map_cons, List.map_nil, List.cons_append, List.nil_append, List.replicate, Nat.reduceSub, decide_true, decide_false, Bool.not_true, Bool.not_false] at this
      exact this
    · have := rest _ _ (qlo hi hhi)
      simp -implicitDefEqProofs only [DL.evB, DL.evN, beq_self_eq_true, DL.no6_look_two, DL.no6_at_most, DL.no6_join, DL.no6_meet, DL.no6_lowest, DL.no6_highest, DL.no3_look_order, not_false_eq_true, and_self, true_and, and_true, reduceIte, Bool.false_eq_true, List.length_map, List.length_range, List.length_append, List.getElem?_cons_zero, List.getElem?_cons_succ, List.set_cons_zero, List.set_cons_succ, fzE, wipeE, Option.bind_some, Option.map_some, List.length_cons, List.length_nil, cond_true, cond_false, Nat.reduceAdd, Nat.reduceLeDiff, Nat.zero_add, if_true, if_false, eq_self, bOne, Nat.reduceLT, Nat.reduceEqDiff, List.map_cons, List.map_nil, List.cons_append, List.nil_append, List.replicate, Nat.reduceSub, decide_true, decide_false, Bool.not_true, Bool.not_false] at this
      simp -implicitDefEqProofs only [DL.evB, DL.evN, beq_self_eq_true, DL.no6_look_two, DL.no6_at_most, DL.no6_join, DL.no6_meet, DL.no6_lowest, DL.no6_highest, DL.no3_look_order, not_false_eq_true, and_self, true_and, and_true, reduceIte, Bool.false_eq_true, List.length_map, List.length_range, List.length_append, List.getElem?_cons_zero, List.getElem?_cons_succ, List.set_cons_zero, List.set_cons_succ, fzE, wipeE, Option.bind_some, Option.map_some, List.length_cons, List.length_nil, cond_true, cond_false, Nat.reduceAdd, Nat.reduceLeDiff, Nat.zero_add, if_true, if_false, eq_self, bOne, Nat.reduceLT, Nat.reduceEqDiff, List.map_cons, List.map_nil, List.cons_append, List.nil_append, List.replicate, Nat.reduceSub, decide_true, decide_false, Bool.not_true, Bool.not_false]
      exact this
  · rintro e ⟨o5, o6, o7, o8, o9, o10, o11, o12, o13, o14, o15, o16, rfl⟩
    simp -implicitDefEqProofs only [DL.evB, DL.evN, beq_self_eq_true, DL.no6_look_two, DL.no6_at_most, DL.no6_join, DL.no6_meet, DL.no6_lowest, DL.no6_highest, DL.no3_look_order, not_false_eq_true, and_self, true_and, and_true, reduceIte, Bool.false_eq_true, List.length_map, List.length_range, List.length_append, List.getElem?_cons_zero, List.getElem?_cons_succ, List.set_cons_zero, List.set_cons_succ, fzE, wipeE, Option.bind_some, Option.map_some, List.length_cons, List.length_nil, cond_true, cond_false, Nat.reduceAdd, Nat.reduceLeDiff, Nat.zero_add, if_true, if_false, eq_self, bOne, Nat.reduceLT, Nat.reduceEqDiff, List.map_cons, List.map_nil, List.cons_append, List.nil_append, List.replicate, Nat.reduceSub, decide_true, decide_false, Bool.not_true, Bool.not_false]
end Ev

namespace Ev
open PySem PySem.Spec L2 DL
def top (i : Nat) : Stmt := PySem.Challenge.pw_evenclimb_k31_exchanges_of_climbs.main.body.getD i (.Pass ⟨0, 0, 0, 0⟩)
abbrev s__law_mixed : Stmt := top 27
abbrev s__law_draws : Stmt := top 28
abbrev s__law_cell_at : Stmt := top 26
abbrev s__law_flower : Stmt := top 31
abbrev s__law_stack : Stmt := top 32
abbrev s__law_fields : Stmt := top 34
abbrev s__law_beside : Stmt := top 33
abbrev s__law_shut : Stmt := top 30
abbrev s__law_kind : Stmt := top 35
abbrev s__law_order : Stmt := top 36
abbrev s__law_at_most : Stmt := top 37
abbrev s__law_steps : Stmt := top 40
abbrev s__law_handed : Stmt := top 41
abbrev s_look_thing : Stmt := top 20
abbrev s_carried_on : Stmt := top 21
abbrev s_turned_bits : Stmt := top 22
abbrev s_order_look_order : Stmt := inClass (top 24) 1
abbrev s_least_of : Stmt := top 23
abbrev s_order_look_joins : Stmt := inClass (top 24) 2
abbrev s_order___init__ : Stmt := inClass (top 24) 0
abbrev s__law_meet : Stmt := top 38
abbrev s__law_climb : Stmt := top 42
abbrev s__law_due : Stmt := top 43
abbrev s_are_things : Stmt := top 11
abbrev s_are_step : Stmt := top 10
abbrev s_is_climb : Stmt := top 12
abbrev s_look_climb : Stmt := top 13
abbrev s_exchanges : Stmt := top 15
abbrev s__law_same : Stmt := top 29
abbrev s_with_exchange : Stmt := top 16
abbrev s_exchanged : Stmt := top 17
abbrev s_law : Stmt := top 44
section
variable {P : Program} {w : World} {K : PySem.W.Frag} {mg : Str → Option Value} {base : Heap} {cl : Nat → Addr}
abbrev N__law_mixed : List Str := ["_law_cell", "_law_place", "_law_number"]
theorem sc__law_mixed : FnScope ["_law_cell", "_law_place", "_law_number"] ["_law_cell", "_law_place"] (defScope s__law_mixed) := ⟨rfl, rfl, rfl, by decide +kernel, rfl, by decide +kernel, by decide +kernel⟩
theorem ok__law_mixed {fa : Addr} {fd : FuncData} (F : Fun K "_law_mixed" "_law_mixed" s__law_mixed fa fd) : FnOk P w K mg base (L2.CX P w) 1 fa fd ["_law_cell", "_law_place"] (spD cl K 2 F__law_mixed) := by
  refine fn_D (k := 0) F sc__law_mixed rfl fun cdv A outer s H E hr C => ?_
  have h1 := hu_of hr
  have h64 := hr.units
  have h65 : (A.deeper (PyProof.Rows.envOfC "_law_mixed" (defScope s__law_mixed) s.heap.objs.size fa cdv)).units + 65 < cLine := by have := hr.un; omega
  have nd := sc__law_mixed.nd
  exact (dss_cons (ds_setF 2 nd (de_bin od_mod (de_bin od_add (de_bin od_add (de_bin od_mul (de_bin od_mod (dv 0) de_int) de_int) (de_bin od_mul de_int (dv 1))) de_int) de_int))
      (dss_cons (ds_setF 2 nd (de_bin od_mod (de_bin od_add (de_bin od_add (de_bin od_mul (dv 2) (dv 2)) (de_bin od_mul de_int (dv 1))) de_int) de_int))
      (dss_one (ds_ret (de_bin od_mod (de_bin od_add (de_bin od_mul (dv 2) (dv 2)) de_int) de_int)))))
abbrev N__law_draws : List Str := ["_law_cell", "_law_many", "_law_found", "_law_left", "_law_k"]
theorem sc__law_draws : FnScope ["_law_cell", "_law_many", "_law_found", "_law_left", "_law_k"] ["_law_cell", "_law_many"] (defScope s__law_draws) := ⟨rfl, rfl, rfl, by decide +kernel, rfl, by decide +kernel, by decide +kernel⟩
theorem ok__law_draws {fa : Addr} {fd : FuncData} (b_range : mg "range" = none) (h__law_mixed : DF P w K mg base cl "_law_mixed" 1 2 F__law_mixed) (F : Fun K "_law_draws" "_law_draws" s__law_draws fa fd) : FnOk P w K mg base (L2.CX P w) 2 fa fd ["_law_cell", "_law_many"] (spD cl K 2 F__law_draws) := by
  refine fn_D (k := 1) F sc__law_draws rfl fun cdv A outer s H E hr C => ?_
  have h1 := hu_of hr
  have h64 := hr.units
  have h65 : (A.deeper (PyProof.Rows.envOfC "_law_draws" (defScope s__law_draws) s.heap.objs.size fa cdv)).units + 65 < cLine := by have := hr.un; omega
  have nd := sc__law_draws.nd
  exact (dss_cons (ds_set 2 nd (de_lst da_nil))
      (dss_cons (ds_setF 3 nd (de_bin od_sub (dv 0) (de_bin od_pow de_int de_int)))
      (dss_cons (ds_for C (di_range1 b_range (dav_cons (dv 1) dav_nil)) (dgn 4 nd) (dss_one (ds_if (dt_cmp od_ge (dv 3) de_int (nomark _)) (dss_cons (ds_append 2 (da_cons (de_bin od_mod (dv 3) de_int) da_nil))
      (dss_one (ds_setF 3 nd (de_bin od_fdiv (dv 3) de_int)))) (dss_one (ds_append 2 (da_cons (de_callF h__law_mixed (hr.mono (by decide)) C.tk (da_cons (dv 0) (da_cons (dv 4) da_nil))) da_nil))))))
      (dss_one (ds_retv 2)))))
abbrev N__law_cell_at : List Str := ["_law_script", "_law_k"]
theorem sc__law_cell_at : FnScope ["_law_script", "_law_k"] ["_law_script", "_law_k"] (defScope s__law_cell_at) := ⟨rfl, rfl, rfl, by decide +kernel, rfl, by decide +kernel, by decide +kernel⟩
theorem ok__law_cell_at {fa : Addr} {fd : FuncData} (b_len : mg "len" = none) (F : Fun K "_law_cell_at" "_law_cell_at" s__law_cell_at fa fd) : FnOk P w K mg base (L2.CX P w) 1 fa fd ["_law_script", "_law_k"] (spD cl K 2 F__law_cell_at) := by
  refine fn_D (k := 0) F sc__law_cell_at rfl fun cdv A outer s H E hr C => ?_
  have h1 := hu_of hr
  have h64 := hr.units
  have h65 : (A.deeper (PyProof.Rows.envOfC "_law_cell_at" (defScope s__law_cell_at) s.heap.objs.size fa cdv)).units + 65 < cLine := by have := hr.un; omega
  have nd := sc__law_cell_at.nd
  exact (dss_cons (ds_if (dt_cmp od_lt (dv 1) (de_blt cd_len b_len (dav_cons (dv 0) dav_nil)) (nomark _)) (dss_one (ds_ret (de_ix h1 (dv 0) (dv 1)))) dss_nil)
      (dss_one (ds_ret de_int)))
abbrev N__law_flower : List Str := ["_law_many", "_law_k"]
theorem sc__law_flower : FnScope ["_law_many", "_law_k"] ["_law_many"] (defScope s__law_flower) := ⟨rfl, rfl, rfl, by decide +kernel, rfl, by decide +kernel, by decide +kernel⟩
theorem ok__law_flower {fa : Addr} {fd : FuncData} (b_range : mg "range" = none) (b_int : mg "int" = none) (F : Fun K "_law_flower" "_law_flower" s__law_flower fa fd) : FnOk P w K mg base (L2.CX P w) 1 fa fd ["_law_many"] (spD cl K 1 F__law_flower) := by
  refine fn_D (k := 0) F sc__law_flower rfl fun cdv A outer s H E hr C => ?_
  have h1 := hu_of hr
  have h64 := hr.units
  have h65 : (A.deeper (PyProof.Rows.envOfC "_law_flower" (defScope s__law_flower) s.heap.objs.size fa cdv)).units + 65 < cLine := by have := hr.un; omega
  have nd := sc__law_flower.nd
  exact (dss_one (ds_ret (de_bin od_add (de_bin od_add (de_lst (da_cons de_int da_nil)) (de_bin od_mul (de_lc (own := [("_law_k", 1)]) rfl nd (di_range1 b_range (dav_cons (dv 0) dav_nil)) (blkOk_by (N := N__law_flower) (sc := defScope s__law_flower) (own := [("_law_k", 1)]) (by decide +kernel)) (fun _ _ _ _ _ => (dgn 1 nd)) (fun _ _ _ _ _ => dts_nil) (fun _ _ _ _ _ => (de_bin od_shl de_int (dv 1)))) (de_bty cd_int b_int (dav_cons (de_cmp od_gt (dv 0) de_int (nomark _)) dav_nil)))) (de_lst (da_cons (de_bin od_sub (de_bin od_shl de_int (dv 0)) de_int) da_nil)))))
abbrev N__law_stack : List Str := ["_law_one", "_law_other", "_law_places", "_law_mask"]
theorem sc__law_stack : FnScope ["_law_one", "_law_other", "_law_places", "_law_mask"] ["_law_one", "_law_other", "_law_places"] (defScope s__law_stack) := ⟨rfl, rfl, rfl, by decide +kernel, rfl, by decide +kernel, by decide +kernel⟩
theorem ok__law_stack {fa : Addr} {fd : FuncData} (F : Fun K "_law_stack" "_law_stack" s__law_stack fa fd) : FnOk P w K mg base (L2.CX P w) 1 fa fd ["_law_one", "_law_other", "_law_places"] (spD cl K 3 F__law_stack) := by
  refine fn_D (k := 0) F sc__law_stack rfl fun cdv A outer s H E hr C => ?_
  have h1 := hu_of hr
  have h64 := hr.units
  have h65 : (A.deeper (PyProof.Rows.envOfC "_law_stack" (defScope s__law_stack) s.heap.objs.size fa cdv)).units + 65 < cLine := by have := hr.un; omega
  have nd := sc__law_stack.nd
  exact (dss_one (ds_ret (de_bin od_add (dv 0) (de_lc (own := [("_law_mask", 3)]) rfl nd (di_seq (de_slice (dv 1) (dpo_some de_int) dpo_none)) (blkOk_by (N := N__law_stack) (sc := defScope s__law_stack) (own := [("_law_mask", 3)]) (by decide +kernel)) (fun _ _ _ _ _ => (dgn 3 nd)) (fun _ _ _ _ _ => dts_nil) (fun _ _ _ _ _ => (de_bin od_or (de_ix h1 (dv 0) (de_neg de_int)) (de_bin od_shl (dv 3) (dv 2))))))))
abbrev N__law_fields : List Str := ["_law_found", "_law_k", "_law_rows", "_law_row"]
theorem sc__law_fields : FnScope ["_law_found", "_law_k", "_law_rows", "_law_row"] [] (defScope s__law_fields) := ⟨rfl, rfl, rfl, by decide +kernel, rfl, by decide +kernel, by decide +kernel⟩
theorem ok__law_fields {fa : Addr} {fd : FuncData} (b_range : mg "range" = none) (b_sum : mg "sum" = none) (F : Fun K "_law_fields" "_law_fields" s__law_fields fa fd) : FnOk P w K mg base (L2.CX P w) 1 fa fd [] (spD cl K 0 F__law_fields) := by
  refine fn_D (k := 0) F sc__law_fields rfl fun cdv A outer s H E hr C => ?_
  have h1 := hu_of hr
  have h64 := hr.units
  have h65 : (A.deeper (PyProof.Rows.envOfC "_law_fields" (defScope s__law_fields) s.heap.objs.size fa cdv)).units + 65 < cLine := by have := hr.un; omega
  have nd := sc__law_fields.nd
  exact (dss_cons (ds_set 0 nd (de_bin od_add (de_lst (da_cons de_int (da_cons de_int da_nil))) (de_lc (own := [("_law_k", 1)]) rfl nd (di_range2 b_range (dav_cons de_int (dav_cons de_int dav_nil))) (blkOk_by (N := N__law_fields) (sc := defScope s__law_fields) (own := [("_law_k", 1)]) (by decide +kernel)) (fun _ _ _ _ _ => (dgn 1 nd)) (fun _ _ _ _ _ => dts_nil) (fun _ _ _ _ _ => (de_bin od_or de_int (de_bin od_shl de_int (dv 1)))))))
      (dss_cons (ds_for C (di_range2 b_range (dav_cons de_int (dav_cons de_int dav_nil))) (dgn 1 nd) (dss_cons (ds_setLcF 2 (own := [("_law_row", 3)]) rfl nd rfl rfl (sw_true rfl rfl rfl (by decide +kernel)) (di_range1 b_range (dav_cons de_int dav_nil)) (blkOk_by (N := N__law_fields) (sc := defScope s__law_fields) (own := [("_law_row", 3)]) (by decide +kernel)) (fun _ _ _ _ _ => (dgn 3 nd)) (fun _ _ _ _ _ => (dts_one (dt_cmp (od_eq h64) (de_ix h1 (de_lst (da_cons de_int (da_cons de_int (da_cons de_int (da_cons de_int (da_cons de_int (da_cons de_int (da_cons de_int (da_cons de_int da_nil))))))))) (de_bin od_and (dv 3) (dv 1))) de_int (nomark _)))) (fun _ _ _ _ _ => (dv 3)))
      (dss_one (ds_append 0 (da_cons (de_blt (cd_sum rfl) b_sum (dav_cons (de_lc (own := [("_law_row", 3)]) rfl nd (di_seq (dv 2)) (blkOk_by (N := N__law_fields) (sc := defScope s__law_fields) (own := [("_law_row", 3)]) (by decide +kernel)) (fun _ _ _ _ _ => (dgn 3 nd)) (fun _ _ _ _ _ => dts_nil) (fun _ _ _ _ _ => (de_bin od_shl de_int (dv 3)))) dav_nil)) da_nil)))))
      (dss_one (ds_retv 0))))
abbrev N__law_beside : List Str := ["_law_one", "_law_other", "_law_found", "_law_mask", "_law_more"]
theorem sc__law_beside : FnScope ["_law_one", "_law_other", "_law_found", "_law_mask", "_law_more"] ["_law_one", "_law_other"] (defScope s__law_beside) := ⟨rfl, rfl, rfl, by decide +kernel, rfl, by decide +kernel, by decide +kernel⟩
theorem ok__law_beside {fa : Addr} {fd : FuncData} (F : Fun K "_law_beside" "_law_beside" s__law_beside fa fd) : FnOk P w K mg base (L2.CX P w) 1 fa fd ["_law_one", "_law_other"] (spD cl K 2 F__law_beside) := by
  refine fn_D (k := 0) F sc__law_beside rfl fun cdv A outer s H E hr C => ?_
  have h1 := hu_of hr
  have h64 := hr.units
  have h65 : (A.deeper (PyProof.Rows.envOfC "_law_beside" (defScope s__law_beside) s.heap.objs.size fa cdv)).units + 65 < cLine := by have := hr.un; omega
  have nd := sc__law_beside.nd
  exact (dss_cons (ds_set 2 nd (de_lst da_nil))
      (dss_cons (ds_for C (di_seq (dv 0)) (dgn 3 nd) (dss_one (ds_set 2 nd (de_bin od_add (dv 2) (de_lc (own := [("_law_more", 4)]) rfl nd (di_seq (dv 1)) (blkOk_by (N := N__law_beside) (sc := defScope s__law_beside) (own := [("_law_more", 4)]) (by decide +kernel)) (fun _ _ _ _ _ => (dgn 4 nd)) (fun _ _ _ _ _ => dts_nil) (fun _ _ _ _ _ => (de_bin od_or (dv 3) (de_bin od_shl (dv 4) de_int))))))))
      (dss_one (ds_retv 2))))
abbrev N__law_shut : List Str := ["_law_masks", "_law_both", "_law_found", "_law_at", "_law_here", "_law_there", "_law_some", "_law_mask"]
theorem sc__law_shut : FnScope ["_law_masks", "_law_both", "_law_found", "_law_at", "_law_here", "_law_there", "_law_some", "_law_mask"] ["_law_masks", "_law_both"] (defScope s__law_shut) := ⟨rfl, rfl, rfl, by decide +kernel, rfl, by decide +kernel, by decide +kernel⟩
theorem ok__law_shut {fa : Addr} {fd : FuncData} (b_list : mg "list" = none) (b_len : mg "len" = none) (b_int : mg "int" = none) (F : Fun K "_law_shut" "_law_shut" s__law_shut fa fd) : FnOk P w K mg base (L2.CX P w) 1 fa fd ["_law_masks", "_law_both"] (spD cl K 2 F__law_shut) := by
  refine fn_D (k := 0) F sc__law_shut rfl fun cdv A outer s H E hr C => ?_
  have h1 := hu_of hr
  have h64 := hr.units
  have h65 : (A.deeper (PyProof.Rows.envOfC "_law_shut" (defScope s__law_shut) s.heap.objs.size fa cdv)).units + 65 < cLine := by have := hr.un; omega
  have nd := sc__law_shut.nd
  exact (dss_cons (ds_set 2 nd (de_bty cd_list b_list (dav_cons (dv 0) dav_nil)))
      (dss_cons (ds_setF 3 nd de_int)
      (dss_cons (ds_while 1000000000000 C (dt_cmp od_lt (dv 3) (de_blt cd_len b_len (dav_cons (dv 2) dav_nil)) (nomark _)) (dss_cons (ds_setF 4 nd (de_ix h1 (dv 2) (dv 3)))
      (dss_cons (ds_for C (di_seq (de_slice (dv 2) dpo_none (dpo_some (dv 3)))) (dgn 5 nd) (dss_cons (ds_setF 6 nd (de_bin od_add (de_lst (da_cons (de_bin od_and (dv 4) (dv 5)) da_nil)) (de_bin od_mul (de_lst (da_cons (de_bin od_or (dv 4) (dv 5)) da_nil)) (de_bty cd_int b_int (dav_cons (dv 1) dav_nil)))))
      (dss_one (ds_for C (di_seq (dv 6)) (dgn 7 nd) (dss_one (ds_if (dt_cmp (od_nin h65) (dv 7) (dv 2) rfl) (dss_one (ds_append 2 (da_cons (dv 7) da_nil))) dss_nil))))))
      (dss_one (ds_setF 3 nd (de_bin od_add (dv 3) de_int))))))
      (dss_one (ds_retv 2)))))
abbrev N__law_kind : List Str := ["_law_draws_here", "_law_family", "_law_way", "_law_one", "_law_other", "_law_lower", "_law_row", "_law_ring", "_law_some", "_law_k"]
theorem sc__law_kind : FnScope ["_law_draws_here", "_law_family", "_law_way", "_law_one", "_law_other", "_law_lower", "_law_row", "_law_ring", "_law_some", "_law_k"] ["_law_draws_here", "_law_family"] (defScope s__law_kind) := ⟨rfl, rfl, rfl, by decide +kernel, rfl, by decide +kernel, by decide +kernel⟩
theorem ok__law_kind {fa : Addr} {fd : FuncData} (b_range : mg "range" = none) (h__law_flower : DF P w K mg base cl "_law_flower" 1 1 F__law_flower) (h__law_stack : DF P w K mg base cl "_law_stack" 1 3 F__law_stack) (h__law_fields : DF P w K mg base cl "_law_fields" 1 0 F__law_fields) (h__law_beside : DF P w K mg base cl "_law_beside" 1 2 F__law_beside) (h__law_shut : DF P w K mg base cl "_law_shut" 1 2 F__law_shut) (F : Fun K "_law_kind" "_law_kind" s__law_kind fa fd) : FnOk P w K mg base (L2.CX P w) 2 fa fd ["_law_draws_here", "_law_family"] (spD cl K 2 F__law_kind) := by
  refine fn_D (k := 1) F sc__law_kind rfl fun cdv A outer s H E hr C => ?_
  have h1 := hu_of hr
  have h64 := hr.units
  have h65 : (A.deeper (PyProof.Rows.envOfC "_law_kind" (defScope s__law_kind) s.heap.objs.size fa cdv)).units + 65 < cLine := by have := hr.un; omega
  have nd := sc__law_kind.nd
  exact (dss_cons (ds_setF 2 nd (de_bin od_mod (de_ix h1 (dv 0) de_int) de_int))
      (dss_cons (ds_setF 3 nd (de_callF h__law_flower (hr.mono (by decide)) C.tk (da_cons (de_bin od_add de_int (de_bin od_mod (de_ix h1 (dv 0) de_int) de_int)) da_nil)))
      (dss_cons (ds_setF 4 nd (de_callF h__law_flower (hr.mono (by decide)) C.tk (da_cons (de_bin od_add de_int (de_bin od_mod (de_ix h1 (dv 0) de_int) de_int)) da_nil)))
      (dss_cons (ds_if (dt_cmp (od_eq h64) (dv 2) de_int (nomark _)) (dss_cons (ds_setF 5 nd (de_callF h__law_stack (hr.mono (by decide)) C.tk (da_cons (dv 3) (da_cons (dv 4) (da_cons de_int da_nil)))))
      (dss_one (ds_ret (de_callF h__law_stack (hr.mono (by decide)) C.tk (da_cons (dv 5) (da_cons (de_callF h__law_flower (hr.mono (by decide)) C.tk (da_cons (de_bin od_add de_int (de_bin od_mod (de_ix h1 (dv 0) de_int) de_int)) da_nil)) (da_cons de_int da_nil))))))) dss_nil)
      (dss_cons (ds_if (dt_cmp (od_eq h64) (dv 2) de_int (nomark _)) (dss_one (ds_ret (de_callF0 h__law_fields (hr.mono (by decide)) C.tk))) dss_nil)
      (dss_cons (ds_if (dt_cmp (od_eq h64) (dv 2) de_int (nomark _)) (dss_cons (ds_setF 6 nd (de_slice (de_lst (da_cons de_int (da_cons de_int (da_cons de_int (da_cons de_int da_nil))))) dpo_none (dpo_some (de_bin od_add de_int (de_bin od_mod (de_ix h1 (dv 0) de_int) de_int)))))
      (dss_cons (ds_if (dt_cmp (od_eq h64) (de_bin od_mod (de_ix h1 (dv 0) de_int) de_int) de_int (nomark _)) (dss_one (ds_ret (de_callF h__law_beside (hr.mono (by decide)) C.tk (da_cons (dv 6) (da_cons (de_slice (de_lst (da_cons de_int (da_cons de_int (da_cons de_int (da_cons de_int (da_cons de_int (da_cons de_int da_nil))))))) dpo_none (dpo_some (de_bin od_add de_int (de_bin od_mod (de_ix h1 (dv 0) de_int) de_int)))) da_nil))))) dss_nil)
      (dss_one (ds_ret (de_callF h__law_beside (hr.mono (by decide)) C.tk (da_cons (dv 6) (da_cons (de_callF h__law_flower (hr.mono (by decide)) C.tk (da_cons (de_bin od_add de_int (de_bin od_mod (de_ix h1 (dv 0) de_int) de_int)) da_nil)) da_nil))))))) dss_nil)
      (dss_cons (ds_if (dt_cmp (od_eq h64) (dv 2) de_int (nomark _)) (dss_cons (ds_setF 7 nd (de_ix h1 (de_lst (da_cons (de_lst (da_cons de_int (da_cons de_int (da_cons de_int (da_cons de_int (da_cons de_int da_nil)))))) (da_cons (de_lst (da_cons de_int (da_cons de_int (da_cons de_int (da_cons de_int (da_cons de_int (da_cons de_int da_nil))))))) da_nil))) (de_bin od_mod (de_ix h1 (dv 0) de_int) de_int)))
      (dss_cons (ds_if (dt_cmp (od_eq h64) (de_bin od_mod (de_ix h1 (dv 0) de_int) de_int) de_int (nomark _)) (dss_one (ds_ret (de_callF h__law_beside (hr.mono (by decide)) C.tk (da_cons (de_slice (de_lst (da_cons de_int (da_cons de_int (da_cons de_int (da_cons de_int da_nil))))) dpo_none (dpo_some (de_bin od_add de_int (de_bin od_mod (de_ix h1 (dv 0) de_int) de_int)))) (da_cons (dv 7) da_nil))))) dss_nil)
      (dss_one (ds_ret (de_callF h__law_stack (hr.mono (by decide)) C.tk (da_cons (dv 7) (da_cons (dv 4) (da_cons de_int da_nil)))))))) dss_nil)
      (dss_cons (ds_setLcF 8 (own := [("_law_k", 9)]) rfl nd rfl rfl (sw_true rfl rfl rfl (by decide +kernel)) (di_range1 b_range (dav_cons de_int dav_nil)) (blkOk_by (N := N__law_kind) (sc := defScope s__law_kind) (own := [("_law_k", 9)]) (by decide +kernel)) (fun _ _ _ _ _ => (dgn 9 nd)) (fun _ _ _ _ _ => (dts_one (dt_cmp (od_eq h64) (de_bin od_and (de_bin od_shr (dv 1) (dv 9)) de_int) de_int (nomark _)))) (fun _ _ _ _ _ => (dv 9)))
      (dss_one (ds_ret (de_callF h__law_shut (hr.mono (by decide)) C.tk (da_cons (de_bin od_add (de_lst (da_cons de_int da_nil)) (dv 8)) (da_cons (de_cmp (od_in h65) (dv 2) (de_tup (da_cons de_int (da_cons de_int da_nil))) rfl) da_nil)))))))))))))
abbrev N__law_order : List Str := ["_law_script", "_law_at", "_law_draws_here", "_law_family", "_law_left", "_law_found", "_law_k"]
theorem sc__law_order : FnScope ["_law_script", "_law_at", "_law_draws_here", "_law_family", "_law_left", "_law_found", "_law_k"] ["_law_script", "_law_at"] (defScope s__law_order) := ⟨rfl, rfl, rfl, by decide +kernel, rfl, by decide +kernel, by decide +kernel⟩
theorem ok__law_order {fa : Addr} {fd : FuncData} (b_len : mg "len" = none) (b_range : mg "range" = none) (h__law_draws : DF P w K mg base cl "_law_draws" 2 2 F__law_draws) (h__law_cell_at : DF P w K mg base cl "_law_cell_at" 1 2 F__law_cell_at) (h__law_kind : DF P w K mg base cl "_law_kind" 2 2 F__law_kind) (F : Fun K "_law_order" "_law_order" s__law_order fa fd) : FnOk P w K mg base (L2.CX P w) 3 fa fd ["_law_script", "_law_at"] (spD cl K 2 F__law_order) := by
  refine fn_D (k := 2) F sc__law_order rfl fun cdv A outer s H E hr C => ?_
  have h1 := hu_of hr
  have h64 := hr.units
  have h65 : (A.deeper (PyProof.Rows.envOfC "_law_order" (defScope s__law_order) s.heap.objs.size fa cdv)).units + 65 < cLine := by have := hr.un; omega
  have nd := sc__law_order.nd
  exact (dss_cons (ds_setF 2 nd (de_callF h__law_draws (hr.mono (by decide)) C.tk (da_cons (de_callF h__law_cell_at (hr.mono (by decide)) C.tk (da_cons (dv 0) (da_cons (dv 1) da_nil))) (da_cons de_int da_nil))))
      (dss_cons (ds_setF 3 nd (de_ix h1 (de_callF h__law_draws (hr.mono (by decide)) C.tk (da_cons (de_callF h__law_cell_at (hr.mono (by decide)) C.tk (da_cons (dv 0) (da_cons (de_bin od_add (dv 1) de_int) da_nil))) (da_cons de_int da_nil))) de_int))
      (dss_cons (ds_if (dt_cmp (od_eq h64) (de_bin od_mod (de_ix h1 (dv 2) de_int) de_int) de_int (nomark _)) (dss_one (ds_setF 3 nd (de_bin od_and (dv 3) (de_ix h1 (dv 2) de_int)))) dss_nil)
      (dss_cons (ds_set 4 nd (de_callF h__law_kind (hr.mono (by decide)) C.tk (da_cons (dv 2) (da_cons (dv 3) da_nil))))
      (dss_cons (ds_set 5 nd (de_lst da_nil))
      (dss_cons (ds_for C (di_range1 b_range (dav_cons (de_blt cd_len b_len (dav_cons (dv 4) dav_nil)) dav_nil)) (dgn 6 nd) (dss_one (ds_popapp 5 4 (de_bin od_mod (de_bin od_add (de_bin od_fdiv (de_ix h1 (dv 2) de_int) de_int) (de_bin od_mul (dv 6) (de_ix h1 (dv 2) de_int))) (de_blt cd_len b_len (dav_cons (dv 4) dav_nil))))))
      (dss_one (ds_retv 5))))))))
abbrev N__law_at_most : List Str := ["_law_masks", "_law_a", "_law_b"]
theorem sc__law_at_most : FnScope ["_law_masks", "_law_a", "_law_b"] ["_law_masks", "_law_a", "_law_b"] (defScope s__law_at_most) := ⟨rfl, rfl, rfl, by decide +kernel, rfl, by decide +kernel, by decide +kernel⟩
theorem ok__law_at_most {fa : Addr} {fd : FuncData} (F : Fun K "_law_at_most" "_law_at_most" s__law_at_most fa fd) : FnOk P w K mg base (L2.CX P w) 1 fa fd ["_law_masks", "_law_a", "_law_b"] (spD cl K 3 F__law_at_most) := by
  refine fn_D (k := 0) F sc__law_at_most rfl fun cdv A outer s H E hr C => ?_
  have h1 := hu_of hr
  have h64 := hr.units
  have h65 : (A.deeper (PyProof.Rows.envOfC "_law_at_most" (defScope s__law_at_most) s.heap.objs.size fa cdv)).units + 65 < cLine := by have := hr.un; omega
  have nd := sc__law_at_most.nd
  exact (dss_one (ds_ret (de_cmp (od_eq h64) (de_bin od_and (de_ix h1 (dv 0) (dv 1)) (de_ix h1 (dv 0) (dv 2))) (de_ix h1 (dv 0) (dv 1)) (nomark _))))
abbrev N__law_steps : List Str := ["_law_masks", "_law_count", "_law_found", "_law_a", "_law_above", "_law_b", "_law_c"]
theorem sc__law_steps : FnScope ["_law_masks", "_law_count", "_law_found", "_law_a", "_law_above", "_law_b", "_law_c"] ["_law_masks"] (defScope s__law_steps) := ⟨rfl, rfl, rfl, by decide +kernel, rfl, by decide +kernel, by decide +kernel⟩
theorem ok__law_steps {fa : Addr} {fd : FuncData} (b_len : mg "len" = none) (b_range : mg "range" = none) (h__law_at_most : DF P w K mg base cl "_law_at_most" 1 3 F__law_at_most) (F : Fun K "_law_steps" "_law_steps" s__law_steps fa fd) : FnOk P w K mg base (L2.CX P w) 2 fa fd ["_law_masks"] (spD cl K 1 F__law_steps) := by
  refine fn_D (k := 1) F sc__law_steps rfl fun cdv A outer s H E hr C => ?_
  have h1 := hu_of hr
  have h64 := hr.units
  have h65 : (A.deeper (PyProof.Rows.envOfC "_law_steps" (defScope s__law_steps) s.heap.objs.size fa cdv)).units + 65 < cLine := by have := hr.un; omega
  have nd := sc__law_steps.nd
  exact (dss_cons (ds_setF 1 nd (de_blt cd_len b_len (dav_cons (dv 0) dav_nil)))
      (dss_cons (ds_set 2 nd (de_lst da_nil))
      (dss_cons (ds_for C (di_range1 b_range (dav_cons (dv 1) dav_nil)) (dgn 3 nd) (dss_cons (ds_setLcF 4 (own := [("_law_b", 5)]) rfl nd rfl rfl (sw_true rfl rfl rfl (by decide +kernel)) (di_range1 b_range (dav_cons (dv 1) dav_nil)) (blkOk_by (N := N__law_steps) (sc := defScope s__law_steps) (own := [("_law_b", 5)]) (by decide +kernel)) (fun _ _ _ _ _ => (dgn 5 nd)) (fun _ _ _ _ _ => (dts_one (dw_t (dw_and (dt_cmp (od_ne h64) (dv 3) (dv 5) (nomark _)) (dw_and1 (dt_val (de_callF h__law_at_most (hr.mono (by decide)) takes0 (da_cons (dv 0) (da_cons (dv 3) (da_cons (dv 5) da_nil)))))))))) (fun _ _ _ _ _ => (dv 5)))
      (dss_one (ds_for C (di_seq (dv 4)) (dgn 5 nd) (dss_one (ds_if (dt_cmp (od_eq h64) (de_blt cd_len b_len (dav_cons (de_lc (own := [("_law_c", 6)]) rfl nd (di_seq (dv 4)) (blkOk_by (N := N__law_steps) (sc := defScope s__law_steps) (own := [("_law_c", 6)]) (by decide +kernel)) (fun _ _ _ _ _ => (dgn 6 nd)) (fun _ _ _ _ _ => (dts_one (dt_val (de_callF h__law_at_most (hr.mono (by decide)) takes0 (da_cons (dv 0) (da_cons (dv 6) (da_cons (dv 5) da_nil))))))) (fun _ _ _ _ _ => (dv 6))) dav_nil)) de_int (nomark _)) (dss_one (ds_append 2 (da_cons (de_tup (da_cons (dv 3) (da_cons (dv 5) da_nil))) da_nil))) dss_nil))))))
      (dss_one (ds_retv 2)))))
abbrev N__law_handed : List Str := ["_law_masks", "_law_draws_here", "_law_found", "_law_k", "_law_a", "_law_b", "_law_turn"]
theorem sc__law_handed : FnScope ["_law_masks", "_law_draws_here", "_law_found", "_law_k", "_law_a", "_law_b", "_law_turn"] ["_law_masks", "_law_draws_here"] (defScope s__law_handed) := ⟨rfl, rfl, rfl, by decide +kernel, rfl, by decide +kernel, by decide +kernel⟩
theorem ok__law_handed {fa : Addr} {fd : FuncData} (b_range : mg "range" = none) (b_len : mg "len" = none) (h__law_steps : DF P w K mg base cl "_law_steps" 2 1 F__law_steps) (h__law_at_most : DF P w K mg base cl "_law_at_most" 1 3 F__law_at_most) (F : Fun K "_law_handed" "_law_handed" s__law_handed fa fd) : FnOk P w K mg base (L2.CX P w) 3 fa fd ["_law_masks", "_law_draws_here"] (spD cl K 2 F__law_handed) := by
  refine fn_D (k := 2) F sc__law_handed rfl fun cdv A outer s H E hr C => ?_
  have h1 := hu_of hr
  have h64 := hr.units
  have h65 : (A.deeper (PyProof.Rows.envOfC "_law_handed" (defScope s__law_handed) s.heap.objs.size fa cdv)).units + 65 < cLine := by have := hr.un; omega
  have nd := sc__law_handed.nd
  exact (dss_cons (ds_set 2 nd (de_callF h__law_steps (hr.mono (by decide)) C.tk (da_cons (dv 0) da_nil)))
      (dss_cons (ds_for C (di_range1 b_range (dav_cons (de_bin od_mod (de_ix h1 (dv 1) de_int) de_int) dav_nil)) (dgn 3 nd) (dss_cons (ds_setF 4 nd (de_bin od_mod (de_bin od_fdiv (de_ix h1 (dv 1) (de_bin od_add de_int (de_bin od_mod (dv 3) de_int))) (de_bin od_add (dv 3) de_int)) (de_blt cd_len b_len (dav_cons (dv 0) dav_nil))))
      (dss_cons (ds_setF 5 nd (de_bin od_mod (de_bin od_fdiv (de_ix h1 (dv 1) (de_bin od_add de_int (de_bin od_mod (dv 3) de_int))) (de_bin od_add (dv 3) de_int)) (de_blt cd_len b_len (dav_cons (dv 0) dav_nil))))
      (dss_one (ds_if (dt_val (de_callF h__law_at_most (hr.mono (by decide)) C.tk (da_cons (dv 0) (da_cons (dv 4) (da_cons (dv 5) da_nil))))) (dss_one (ds_append 2 (da_cons (de_tup (da_cons (dv 4) (da_cons (dv 5) da_nil))) da_nil))) dss_nil)))))
      (dss_fz 2 (dss_cons (ds_setF 6 nd (de_bin od_mod (de_ix h1 (dv 1) de_int) (de_bin od_add (de_blt cd_len b_len (dav_cons (dv 2) dav_nil)) de_int)))
      (dss_one (ds_ret (de_bin od_add (de_slice (dv 2) (dpo_some (dv 6)) dpo_none) (de_slice (dv 2) dpo_none (dpo_some (dv 6))))))))))
abbrev N_look_thing : List Str := ["count", "thing"]
theorem sc_look_thing : FnScope ["count", "thing"] ["count", "thing"] (defScope s_look_thing) := ⟨rfl, rfl, rfl, by decide +kernel, rfl, by decide +kernel, by decide +kernel⟩
theorem ok_look_thing {fa : Addr} {fd : FuncData} (F : Fun K "look_thing" "look_thing" s_look_thing fa fd) : FnOk P w K mg base (L2.CX P w) 1 fa fd ["count", "thing"] (spD cl K 2 F_look_thing) := by
  refine fn_D (k := 0) F sc_look_thing rfl fun cdv A outer s H E hr C => ?_
  have h1 := hu_of hr
  have h64 := hr.units
  have h65 : (A.deeper (PyProof.Rows.envOfC "look_thing" (defScope s_look_thing) s.heap.objs.size fa cdv)).units + 65 < cLine := by have := hr.un; omega
  have nd := sc_look_thing.nd
  exact (dss_one (ds_if (dw_t (dw_or (dt_cmp od_lt (dv 1) de_int (nomark _)) (dw_or1 (dt_cmp od_ge (dv 1) (dv 0) (nomark _))))) (dss_one ds_never) dss_nil))
abbrev N_carried_on : List Str := ["count", "pairs", "above", "a", "b", "through", "thing"]
theorem sc_carried_on : FnScope ["count", "pairs", "above", "a", "b", "through", "thing"] ["count", "pairs"] (defScope s_carried_on) := ⟨rfl, rfl, rfl, by decide +kernel, rfl, by decide +kernel, by decide +kernel⟩
theorem ok_carried_on {fa : Addr} {fd : FuncData} (b_range : mg "range" = none) (F : Fun K "carried_on" "carried_on" s_carried_on fa fd) : FnOk P w K mg base (L2.CX P w) 1 fa fd ["count", "pairs"] (spD cl K 2 F_carried_on) := by
  refine fn_D (k := 0) F sc_carried_on rfl fun cdv A outer s H E hr C => ?_
  have h1 := hu_of hr
  have h64 := hr.units
  have h65 : (A.deeper (PyProof.Rows.envOfC "carried_on" (defScope s_carried_on) s.heap.objs.size fa cdv)).units + 65 < cLine := by have := hr.un; omega
  have nd := sc_carried_on.nd
  exact (dss_cons (ds_setLc 2 (own := [("thing", 6)]) rfl nd rfl rfl (sw_true rfl rfl rfl (by decide +kernel)) (di_range1 b_range (dav_cons (dv 0) dav_nil)) (blkOk_by (N := N_carried_on) (sc := defScope s_carried_on) (own := [("thing", 6)]) (by decide +kernel)) (fun _ _ _ _ _ => (dgn 6 nd)) (fun _ _ _ _ _ => dts_nil) (fun _ _ _ _ _ => (de_bin od_shl de_int (dv 6))))
      (dss_cons (ds_for C (di_seq (dv 1)) (dg_seq rfl (dgs_cons (dgn 3 nd) (dgs_cons (dgn 4 nd) dgs_nil))) (dss_one (ds_putL 2 (de_bin od_or (de_ix h1 (dv 2) (dv 3)) (de_bin od_shl de_int (dv 4))) (dv 3))))
      (dss_cons (ds_for C (di_range1 b_range (dav_cons (dv 0) dav_nil)) (dgn 5 nd) (dss_one (ds_for C (di_range1 b_range (dav_cons (dv 0) dav_nil)) (dgn 6 nd) (dss_one (ds_if (dt_cmp (od_eq h64) (de_bin od_and (de_bin od_shr (de_ix h1 (dv 2) (dv 6)) (dv 5)) de_int) de_int (nomark _)) (dss_one (ds_putL 2 (de_bin od_or (de_ix h1 (dv 2) (dv 6)) (de_ix h1 (dv 2) (dv 5))) (dv 6))) dss_nil)))))
      (dss_one (ds_retv 2)))))
abbrev N_turned_bits : List Str := ["count", "above", "found", "thing", "other"]
theorem sc_turned_bits : FnScope ["count", "above", "found", "thing", "other"] ["count", "above"] (defScope s_turned_bits) := ⟨rfl, rfl, rfl, by decide +kernel, rfl, by decide +kernel, by decide +kernel⟩
theorem ok_turned_bits {fa : Addr} {fd : FuncData} (b_range : mg "range" = none) (F : Fun K "turned_bits" "turned_bits" s_turned_bits fa fd) : FnOk P w K mg base (L2.CX P w) 1 fa fd ["count", "above"] (spD cl K 2 F_turned_bits) := by
  refine fn_D (k := 0) F sc_turned_bits rfl fun cdv A outer s H E hr C => ?_
  have h1 := hu_of hr
  have h64 := hr.units
  have h65 : (A.deeper (PyProof.Rows.envOfC "turned_bits" (defScope s_turned_bits) s.heap.objs.size fa cdv)).units + 65 < cLine := by have := hr.un; omega
  have nd := sc_turned_bits.nd
  exact (dss_cons (ds_setLc 2 (own := [("thing", 3)]) rfl nd rfl rfl (sw_true rfl rfl rfl (by decide +kernel)) (di_range1 b_range (dav_cons (dv 0) dav_nil)) (blkOk_by (N := N_turned_bits) (sc := defScope s_turned_bits) (own := [("thing", 3)]) (by decide +kernel)) (fun _ _ _ _ _ => (dgn 3 nd)) (fun _ _ _ _ _ => dts_nil) (fun _ _ _ _ _ => de_int))
      (dss_cons (ds_for C (di_range1 b_range (dav_cons (dv 0) dav_nil)) (dgn 3 nd) (dss_one (ds_for C (di_range1 b_range (dav_cons (dv 0) dav_nil)) (dgn 4 nd) (dss_one (ds_if (dt_cmp (od_eq h64) (de_bin od_and (de_bin od_shr (de_ix h1 (dv 1) (dv 4)) (dv 3)) de_int) de_int (nomark _)) (dss_one (ds_putL 2 (de_bin od_or (de_ix h1 (dv 2) (dv 3)) (de_bin od_shl de_int (dv 4))) (dv 3))) dss_nil)))))
      (dss_one (ds_retv 2))))
abbrev N_order_look_order : List Str := ["self", "u", "v"]
theorem sc_order_look_order : FnScope ["self", "u", "v"] ["self"] (defScope s_order_look_order) := ⟨rfl, rfl, rfl, by decide +kernel, rfl, by decide +kernel, by decide +kernel⟩
theorem ok_order_look_order {fa : Addr} {fd : FuncData} (cOrd : Cls K (cl 0)) (n_count : NoAttr K (cl 0) "count") (b_range : mg "range" = none) (n_above : NoAttr K (cl 0) "above") (F : Fun K "look_order" "Order.look_order" s_order_look_order fa fd) : FnOk P w K mg base (L2.CX P w) 1 fa fd ["self"] (spD cl K 1 F_order_look_order) := by
  refine fn_D (k := 0) F sc_order_look_order rfl fun cdv A outer s H E hr C => ?_
  have h1 := hu_of hr
  have h64 := hr.units
  have h65 : (A.deeper (PyProof.Rows.envOfC "Order.look_order" (defScope s_order_look_order) s.heap.objs.size fa cdv)).units + 65 < cLine := by have := hr.un; omega
  have nd := sc_order_look_order.nd
  exact (dss_one (ds_for C (di_range1 b_range (dav_cons (de_fld (dv 0) cOrd n_count) dav_nil)) (dgn 1 nd) (dss_one (ds_for C (di_range2 b_range (dav_cons (de_bin od_add (dv 1) de_int) (dav_cons (de_fld (dv 0) cOrd n_count) dav_nil))) (dgn 2 nd) (dss_one (ds_if (dw_t (dw_and (dt_cmp (od_eq h64) (de_bin od_and (de_bin od_shr (de_ix h1 (de_fld (dv 0) cOrd n_above) (dv 1)) (dv 2)) de_int) de_int (nomark _)) (dw_and1 (dt_cmp (od_eq h64) (de_bin od_and (de_bin od_shr (de_ix h1 (de_fld (dv 0) cOrd n_above) (dv 2)) (dv 1)) de_int) de_int (nomark _))))) (dss_one ds_never) dss_nil))))))
abbrev N_least_of : List Str := ["count", "some", "above", "thing"]
theorem sc_least_of : FnScope ["count", "some", "above", "thing"] ["count", "some", "above"] (defScope s_least_of) := ⟨rfl, rfl, rfl, by decide +kernel, rfl, by decide +kernel, by decide +kernel⟩
theorem ok_least_of {fa : Addr} {fd : FuncData} (b_range : mg "range" = none) (F : Fun K "least_of" "least_of" s_least_of fa fd) : FnOk P w K mg base (L2.CX P w) 1 fa fd ["count", "some", "above"] (spD cl K 3 F_least_of) := by
  refine fn_D (k := 0) F sc_least_of rfl fun cdv A outer s H E hr C => ?_
  have h1 := hu_of hr
  have h64 := hr.units
  have h65 : (A.deeper (PyProof.Rows.envOfC "least_of" (defScope s_least_of) s.heap.objs.size fa cdv)).units + 65 < cLine := by have := hr.un; omega
  have nd := sc_least_of.nd
  exact (dss_cons (ds_for C (di_range1 b_range (dav_cons (dv 0) dav_nil)) (dgn 3 nd) (dss_one (ds_if (dw_t (dw_and (dt_cmp (od_eq h64) (de_bin od_and (de_bin od_shr (dv 1) (dv 3)) de_int) de_int (nomark _)) (dw_and1 (dt_cmp (od_eq h64) (de_bin od_and (de_ix h1 (dv 2) (dv 3)) (dv 1)) (dv 1) (nomark _))))) (dss_one (ds_retv 3)) dss_nil)))
      (dss_one (ds_ret de_non)))
abbrev N_order_look_joins : List Str := ["self", "u", "v", "join", "meet", "pair", "self.joins", "self.meets"]
theorem sc_order_look_joins : FnScope ["self", "u", "v", "join", "meet", "pair", "self.joins", "self.meets"] ["self"] (defScope s_order_look_joins) := ⟨rfl, rfl, rfl, by decide +kernel, rfl, by decide +kernel, by decide +kernel⟩
theorem ok_order_look_joins {cl0 : Nat → Addr} {fa : Addr} {fd : FuncData} (cOrd : Cls K (cl0 0)) (n_count : NoAttr K (cl0 0) "count") (b_range : mg "range" = none) (n_above : NoAttr K (cl0 0) "above") (n_under : NoAttr K (cl0 0) "under") (n_joins : NoAttr K (cl0 0) "joins") (n_meets : NoAttr K (cl0 0) "meets") (h_least_of : ∀ cl : Nat → Addr, AG cl0 cl → DF P w K mg base cl "least_of" 1 3 F_least_of) (F : Fun K "look_joins" "Order.look_joins" s_order_look_joins fa fd) : FnOk P w K mg base (L2.CX P w) 2 fa fd ["self"] (spLJ cl0 K F_order_look_joins) := by
  refine lj_ok (k := 6) (lev := 1) F sc_order_look_joins rfl (by decide) rfl rfl (by unfold Vis; decide +kernel) (by unfold Vis; decide +kernel) fun cl tg cdv A outer s H E hr C => ?_
  rw [tg 0 (by decide)] at cOrd n_count n_above n_under n_joins n_meets
  have h_least_of := h_least_of cl tg
  have h1 := hu_of hr
  have h64 := hr.units
  have h65 : (A.deeper (PyProof.Rows.envOfC "Order.look_joins" (defScope s_order_look_joins) s.heap.objs.size fa cdv)).units + 65 < cLine := by have := hr.un; omega
  have nd := sc_order_look_joins.nd
  exact (dss_one (ds_for C (di_range1 b_range (dav_cons (de_fld (dv 0) cOrd n_count) dav_nil)) (dgn 1 nd) (dss_one (ds_for C (di_range2 b_range (dav_cons (dv 1) (dav_cons (de_fld (dv 0) cOrd n_count) dav_nil))) (dgn 2 nd) (dss_cons (ds_setF 3 nd (de_callF h_least_of (hr.mono (by decide)) C.tk (da_cons (de_fld (dv 0) cOrd n_count) (da_cons (de_bin od_and (de_ix h1 (de_fld (dv 0) cOrd n_above) (dv 1)) (de_ix h1 (de_fld (dv 0) cOrd n_above) (dv 2))) (da_cons (de_fld (dv 0) cOrd n_above) da_nil)))))
      (dss_cons (ds_setF 4 nd (de_callF h_least_of (hr.mono (by decide)) C.tk (da_cons (de_fld (dv 0) cOrd n_count) (da_cons (de_bin od_and (de_ix h1 (de_fld (dv 0) cOrd n_under) (dv 1)) (de_ix h1 (de_fld (dv 0) cOrd n_under) (dv 2))) (da_cons (de_fld (dv 0) cOrd n_under) da_nil)))))
      (dss_cons (ds_if (dw_t (dw_or (dt_cmp od_is (dv 3) de_non (nomark _)) (dw_or1 (dt_cmp od_is (dv 4) de_non (nomark _))))) (dss_one ds_never) dss_nil)
      (dss_one (ds_for C (di_seq (de_tup (da_cons (de_tup (da_cons (dv 1) (da_cons (dv 2) da_nil))) (da_cons (de_tup (da_cons (dv 2) (da_cons (dv 1) da_nil))) da_nil)))) (dgn 5 nd) (dss_cons (ds_putP 6 h1 (dv 3) (de_fld (dv 0) cOrd n_joins) (dv 5))
      (dss_one (ds_putP 7 h1 (dv 4) (de_fld (dv 0) cOrd n_meets) (dv 5)))))))))))))
abbrev N_order___init__ : List Str := ["self", "count", "pairs", "pair", "thing", "found", "a", "b"]
theorem sc_order___init__ : FnScope ["self", "count", "pairs", "pair", "thing", "found", "a", "b"] ["self", "count", "pairs"] (defScope s_order___init__) := ⟨rfl, rfl, rfl, by decide +kernel, rfl, by decide +kernel, by decide +kernel⟩
theorem ok_order___init__ {cl0 : Nat → Addr} {fa : Addr} {fd : FuncData} {t_MOST : Tok} (c_MOST : mg "MOST" = some (.int 24 t_MOST)) (cOrd : Cls K (cl0 0)) (n_count : NoAttr K (cl0 0) "count") (n_above : NoAttr K (cl0 0) "above") (n_under : NoAttr K (cl0 0) "under") (n_joins : NoAttr K (cl0 0) "joins") (n_meets : NoAttr K (cl0 0) "meets") (b_range : mg "range" = none) (b_tuple : mg "tuple" = none) (n_pairs : NoAttr K (cl0 0) "pairs") (h_look_thing : ∀ cl : Nat → Addr, AG cl0 cl → DF P w K mg base cl "look_thing" 1 2 F_look_thing) (h_carried_on : ∀ cl : Nat → Addr, AG cl0 cl → DF P w K mg base cl "carried_on" 1 2 F_carried_on) (h_turned_bits : ∀ cl : Nat → Addr, AG cl0 cl → DF P w K mg base cl "turned_bits" 1 2 F_turned_bits) (h_order_look_order : ∀ cl : Nat → Addr, AG cl0 cl → DM P w K mg base cl 0 "look_order" 1 1 F_order_look_order) (h_order_look_joins : ∀ cl : Nat → Addr, AG cl0 cl → LJOk P w K mg base cl 2 F_order_look_joins) (F : Fun K "__init__" "Order.__init__" s_order___init__ fa fd) : FnOk P w K mg base (L2.CX P w) 3 fa fd ["self", "count", "pairs"] (spI cl0 K 0 2 F_order___init__) := by
  refine fn_DI (k := 2) F sc_order___init__ rfl (by decide) fun cl tg cdv A outer s H E hr C => ?_
  rw [tg 0 (by decide)] at cOrd n_count n_above n_under n_joins n_meets n_pairs
  have h_look_thing := h_look_thing cl tg
  have h_carried_on := h_carried_on cl tg
  have h_turned_bits := h_turned_bits cl tg
  have h_order_look_order := h_order_look_order cl tg
  have h_order_look_joins := h_order_look_joins cl tg
  have h1 := hu_of hr
  have h64 := hr.units
  have h65 : (A.deeper (PyProof.Rows.envOfC "Order.__init__" (defScope s_order___init__) s.heap.objs.size fa cdv)).units + 65 < cLine := by have := hr.un; omega
  have nd := sc_order___init__.nd
  exact (dss_cons (ds_if (dw_t (dw_or (dt_cmp od_lt (dv 1) de_int (nomark _)) (dw_or1 (dt_cmp od_gt (dv 1) (de_glob (v := .int 24) (by rfl) c_MOST ⟨_, rfl⟩ (fun _ => .int _)) (nomark _))))) (dss_one ds_never) dss_nil)
      (dss_cons (ds_for C (di_seq (dv 2)) (dgn 3 nd) (dss_one (ds_for C (di_seq (dv 3)) (dgn 4 nd) (dss_one (ds_expr (de_callF h_look_thing (hr.mono (by decide)) C.tk (da_cons (dv 1) (da_cons (dv 4) da_nil))))))))
      (dss_cons (ds_fld 0 0 (dv 1) cOrd n_count)
      (dss_cons (ds_fld 0 0 (de_callF h_carried_on (hr.mono (by decide)) C.tk (da_cons (dv 1) (da_cons (dv 2) da_nil))) cOrd n_above)
      (dss_cons (ds_fld 0 0 (de_callF h_turned_bits (hr.mono (by decide)) C.tk (da_cons (dv 1) (da_cons (de_fld (dv 0) cOrd n_above) da_nil))) cOrd n_under)
      (dss_cons (ds_expr (de_methB0 h_order_look_order (hr.mono (by decide)) C.tk (dv 0)))
      (dss_joinsB h_order_look_joins cOrd n_joins n_meets (hr.mono (by decide)) C.tk
      (dss_cons (ds_set 5 nd (de_lst da_nil))
      (dss_cons (ds_for C (di_range1 b_range (dav_cons (dv 1) dav_nil)) (dgn 6 nd) (dss_one (ds_extend 5 (de_lc (own := [("b", 7)]) rfl nd (di_range1 b_range (dav_cons (dv 1) dav_nil)) (blkOk_by (N := N_order___init__) (sc := defScope s_order___init__) (own := [("b", 7)]) (by decide +kernel)) (fun _ _ _ _ _ => (dgn 7 nd)) (fun _ _ _ _ _ => (dts_one (dw_t (dw_and (dt_cmp (od_ne h64) (dv 6) (dv 7) (nomark _)) (dw_and1 (dt_cmp (od_eq h64) (de_bin od_and (de_bin od_shr (de_ix h1 (de_fld (dv 0) cOrd n_above) (dv 6)) (dv 7)) de_int) de_int (nomark _))))))) (fun _ _ _ _ _ => (de_tup (da_cons (dv 6) (da_cons (dv 7) da_nil))))))))
      (dss_fz 5 (dss_one (ds_fld 0 0 (de_bty cd_tuple b_tuple (dav_cons (dv 5) dav_nil)) cOrd n_pairs))))))))))))
abbrev N__law_meet : List Str := ["_law_masks", "_law_a", "_law_b"]
theorem sc__law_meet : FnScope ["_law_masks", "_law_a", "_law_b"] ["_law_masks", "_law_a", "_law_b"] (defScope s__law_meet) := ⟨rfl, rfl, rfl, by decide +kernel, rfl, by decide +kernel, by decide +kernel⟩
theorem ok__law_meet {fa : Addr} {fd : FuncData} (F : Fun K "_law_meet" "_law_meet" s__law_meet fa fd) : FnOk P w K mg base (L2.CX P w) 1 fa fd ["_law_masks", "_law_a", "_law_b"] (spD cl K 3 F__law_meet) := by
  refine fn_D (k := 0) F sc__law_meet rfl fun cdv A outer s H E hr C => ?_
  have h1 := hu_of hr
  have h64 := hr.units
  have h65 : (A.deeper (PyProof.Rows.envOfC "_law_meet" (defScope s__law_meet) s.heap.objs.size fa cdv)).units + 65 < cLine := by have := hr.un; omega
  have nd := sc__law_meet.nd
  exact (dss_one (ds_ret (de_lindex h65 (dv 0) (de_bin od_and (de_ix h1 (dv 0) (dv 1)) (de_ix h1 (dv 0) (dv 2))))))
abbrev N__law_climb : List Str := ["_law_known", "_law_masks", "_law_a", "_law_b", "_law_draws_here", "_law_found", "_law_k", "_law_some", "_law_c", "_law_d"]
theorem sc__law_climb : FnScope ["_law_known", "_law_masks", "_law_a", "_law_b", "_law_draws_here", "_law_found", "_law_k", "_law_some", "_law_c", "_law_d"] ["_law_known", "_law_masks", "_law_a", "_law_b", "_law_draws_here"] (defScope s__law_climb) := ⟨rfl, rfl, rfl, by decide +kernel, rfl, by decide +kernel, by decide +kernel⟩
theorem ok__law_climb {fa : Addr} {fd : FuncData} (b_range : mg "range" = none) (b_len : mg "len" = none) (h__law_at_most : DF P w K mg base cl "_law_at_most" 1 3 F__law_at_most) (F : Fun K "_law_climb" "_law_climb" s__law_climb fa fd) : FnOk P w K mg base (L2.CX P w) 2 fa fd ["_law_known", "_law_masks", "_law_a", "_law_b", "_law_draws_here"] (spD cl K 5 F__law_climb) := by
  refine fn_D (k := 1) F sc__law_climb rfl fun cdv A outer s H E hr C => ?_
  have h1 := hu_of hr
  have h64 := hr.units
  have h65 : (A.deeper (PyProof.Rows.envOfC "_law_climb" (defScope s__law_climb) s.heap.objs.size fa cdv)).units + 65 < cLine := by have := hr.un; omega
  have nd := sc__law_climb.nd
  exact (dss_cons (ds_set 5 nd (de_lst (da_cons (dv 2) da_nil)))
      (dss_cons (ds_for C (di_range1 b_range (dav_cons de_int dav_nil)) (dgn 6 nd) (dss_cons (ds_setLcF 7 (own := [("_law_c", 8), ("_law_d", 9)]) rfl nd rfl rfl (sw_true rfl rfl rfl (by decide +kernel)) (di_seq (dv 0)) (blkOk_by (N := N__law_climb) (sc := defScope s__law_climb) (own := [("_law_c", 8), ("_law_d", 9)]) (by decide +kernel)) (fun _ _ _ _ _ => (dg_seq rfl (dgs_cons (dgn 8 nd) (dgs_cons (dgn 9 nd) dgs_nil)))) (fun _ _ _ _ _ => (dts_one (dw_t (dw_and (dt_cmp (od_eq h64) (dv 8) (de_ix h1 (dv 5) (de_neg de_int)) (nomark _)) (dw_and1 (dt_val (de_callF h__law_at_most (hr.mono (by decide)) takes0 (da_cons (dv 1) (da_cons (dv 9) (da_cons (dv 3) da_nil)))))))))) (fun _ _ _ _ _ => (dv 9)))
      (dss_one (ds_if (dt_cmp (od_ne h64) (de_ix h1 (dv 5) (de_neg de_int)) (dv 3) (nomark _)) (dss_one (ds_append 5 (da_cons (de_ix h1 (dv 7) (de_bin od_mod (de_bin od_add (de_bin od_fdiv (de_ix h1 (dv 4) (de_bin od_mod (dv 6) de_int)) (de_bin od_add (dv 6) de_int)) (dv 6)) (de_blt cd_len b_len (dav_cons (dv 7) dav_nil)))) da_nil))) dss_nil))))
      (dss_one (ds_retv 5))))
abbrev N__law_due : List Str := ["_law_known", "_law_climb_here", "_law_count", "_law_found", "_law_place", "_law_thing", "_law_good"]
theorem sc__law_due : FnScope ["_law_known", "_law_climb_here", "_law_count", "_law_found", "_law_place", "_law_thing", "_law_good"] ["_law_known", "_law_climb_here", "_law_count"] (defScope s__law_due) := ⟨rfl, rfl, rfl, by decide +kernel, rfl, by decide +kernel, by decide +kernel⟩
theorem ok__law_due {fa : Addr} {fd : FuncData} (b_len : mg "len" = none) (b_range : mg "range" = none) (F : Fun K "_law_due" "_law_due" s__law_due fa fd) : FnOk P w K mg base (L2.CX P w) 1 fa fd ["_law_known", "_law_climb_here", "_law_count"] (spD cl K 3 F__law_due_k31) := by
  refine fn_D (k := 0) F sc__law_due rfl fun cdv A outer s H E hr C => ?_
  have h1 := hu_of hr
  have h64 := hr.units
  have h65 : (A.deeper (PyProof.Rows.envOfC "_law_due" (defScope s__law_due) s.heap.objs.size fa cdv)).units + 65 < cLine := by have := hr.un; omega
  have nd := sc__law_due.nd
  exact (dss_cons (ds_set 3 nd (de_lst da_nil))
      (dss_cons (ds_for C (di_range2 b_range (dav_cons de_int (dav_cons (de_bin od_sub (de_blt cd_len b_len (dav_cons (dv 1) dav_nil)) de_int) dav_nil))) (dgn 4 nd) (dss_one (ds_for C (di_range1 b_range (dav_cons (dv 2) dav_nil)) (dgn 5 nd) (dss_cons (ds_setF 6 nd (de_and (de_cmp (od_in h65) (de_tup (da_cons (de_ix h1 (dv 1) (de_bin od_sub (dv 4) de_int)) (da_cons (dv 5) da_nil))) (dv 0) rfl) (de_one (de_cmp (od_in h65) (de_tup (da_cons (dv 5) (da_cons (de_ix h1 (dv 1) (de_bin od_add (dv 4) de_int)) da_nil))) (dv 0) rfl))))
      (dss_one (ds_if (dw_t (dw_and (dt_val (dv 6)) (dw_and1 (dt_cmp (od_ne h64) (dv 5) (de_ix h1 (dv 1) (dv 4)) (nomark _))))) (dss_one (ds_append 3 (da_cons (de_tup (da_cons (dv 4) (da_cons (dv 5) da_nil))) da_nil))) dss_nil))))))
      (dss_one (ds_retv 3))))
abbrev N_are_things : List Str := ["order", "things", "thing"]
theorem sc_are_things : FnScope ["order", "things", "thing"] ["order", "things"] (defScope s_are_things) := ⟨rfl, rfl, rfl, by decide +kernel, rfl, by decide +kernel, by decide +kernel⟩
theorem ok_are_things {fa : Addr} {fd : FuncData} (b_all : mg "all" = none) (cOrd : Cls K (cl 0)) (n_count : NoAttr K (cl 0) "count") (F : Fun K "are_things" "are_things" s_are_things fa fd) : FnOk P w K mg base (L2.CX P w) 1 fa fd ["order", "things"] (spD cl K 2 F_are_things) := by
  refine fn_D (k := 0) F sc_are_things rfl fun cdv A outer s H E hr C => ?_
  have h1 := hu_of hr
  have h64 := hr.units
  have h65 : (A.deeper (PyProof.Rows.envOfC "are_things" (defScope s_are_things) s.heap.objs.size fa cdv)).units + 65 < cLine := by have := hr.un; omega
  have nd := sc_are_things.nd
  exact (dss_one (ds_ret (de_blt (cd_all rfl) b_all (dav_cons (de_lc (own := [("thing", 2)]) rfl nd (di_seq (dv 1)) (blkOk_by (N := N_are_things) (sc := defScope s_are_things) (own := [("thing", 2)]) (by decide +kernel)) (fun _ _ _ _ _ => (dgn 2 nd)) (fun _ _ _ _ _ => dts_nil) (fun _ _ _ _ _ => (de_chain od_le od_lt de_int (dv 2) (de_fld (dv 0) cOrd n_count)))) dav_nil))))
abbrev N_are_step : List Str := ["order", "a", "b"]
theorem sc_are_step : FnScope ["order", "a", "b"] ["order", "a", "b"] (defScope s_are_step) := ⟨rfl, rfl, rfl, by decide +kernel, rfl, by decide +kernel, by decide +kernel⟩
theorem ok_are_step {fa : Addr} {fd : FuncData} (cOrd : Cls K (cl 0)) (n_above : NoAttr K (cl 0) "above") (n_under : NoAttr K (cl 0) "under") (F : Fun K "are_step" "are_step" s_are_step fa fd) : FnOk P w K mg base (L2.CX P w) 1 fa fd ["order", "a", "b"] (spD cl K 3 F_are_step) := by
  refine fn_D (k := 0) F sc_are_step rfl fun cdv A outer s H E hr C => ?_
  have h1 := hu_of hr
  have h64 := hr.units
  have h65 : (A.deeper (PyProof.Rows.envOfC "are_step" (defScope s_are_step) s.heap.objs.size fa cdv)).units + 65 < cLine := by have := hr.un; omega
  have nd := sc_are_step.nd
  exact (dss_one (ds_ret (de_and (de_cmp (od_ne h64) (dv 1) (dv 2) (nomark _)) (de_one (de_cmp (od_eq h64) (de_bin od_and (de_ix h1 (de_fld (dv 0) cOrd n_above) (dv 1)) (de_ix h1 (de_fld (dv 0) cOrd n_under) (dv 2))) (de_bin od_or (de_bin od_shl de_int (dv 1)) (de_bin od_shl de_int (dv 2))) (nomark _))))))
abbrev N_is_climb : List Str := ["order", "things", "a", "b"]
theorem sc_is_climb : FnScope ["order", "things", "a", "b"] ["order", "things"] (defScope s_is_climb) := ⟨rfl, rfl, rfl, by decide +kernel, rfl, by decide +kernel, by decide +kernel⟩
theorem ok_is_climb {fa : Addr} {fd : FuncData} (b_len : mg "len" = none) (b_all : mg "all" = none) (b_zip : mg "zip" = none) (h_are_things : DF P w K mg base cl "are_things" 1 2 F_are_things) (h_are_step : DF P w K mg base cl "are_step" 1 3 F_are_step) (F : Fun K "is_climb" "is_climb" s_is_climb fa fd) : FnOk P w K mg base (L2.CX P w) 2 fa fd ["order", "things"] (spD cl K 2 F_is_climb) := by
  refine fn_D (k := 1) F sc_is_climb rfl fun cdv A outer s H E hr C => ?_
  have h1 := hu_of hr
  have h64 := hr.units
  have h65 : (A.deeper (PyProof.Rows.envOfC "is_climb" (defScope s_is_climb) s.heap.objs.size fa cdv)).units + 65 < cLine := by have := hr.un; omega
  have nd := sc_is_climb.nd
  exact (dss_cons (ds_if (dw_t (dw_or (dt_cmp (od_eq h64) (de_blt cd_len b_len (dav_cons (dv 1) dav_nil)) de_int (nomark _)) (dw_or1 (dt_not (dt_val (de_callF h_are_things (hr.mono (by decide)) C.tk (da_cons (dv 0) (da_cons (dv 1) da_nil)))))))) (dss_one (ds_ret de_bl)) dss_nil)
      (dss_one (ds_ret (de_blt (cd_all rfl) b_all (dav_cons (de_lc (own := [("a", 2), ("b", 3)]) rfl nd (di_zip b_zip (da_cons (dv 1) (da_cons (de_slice (dv 1) (dpo_some de_int) dpo_none) da_nil))) (blkOk_by (N := N_is_climb) (sc := defScope s_is_climb) (own := [("a", 2), ("b", 3)]) (by decide +kernel)) (fun _ _ _ _ _ => (dg_seq rfl (dgs_cons (dgn 2 nd) (dgs_cons (dgn 3 nd) dgs_nil)))) (fun _ _ _ _ _ => dts_nil) (fun _ _ _ _ _ => (de_callF h_are_step (hr.mono (by decide)) takes0 (da_cons (dv 0) (da_cons (dv 2) (da_cons (dv 3) da_nil)))))) dav_nil)))))
abbrev N_look_climb : List Str := ["order", "climb"]
theorem sc_look_climb : FnScope ["order", "climb"] ["order", "climb"] (defScope s_look_climb) := ⟨rfl, rfl, rfl, by decide +kernel, rfl, by decide +kernel, by decide +kernel⟩
theorem ok_look_climb {fa : Addr} {fd : FuncData} (h_is_climb : DF P w K mg base cl "is_climb" 2 2 F_is_climb) (F : Fun K "look_climb" "look_climb" s_look_climb fa fd) : FnOk P w K mg base (L2.CX P w) 3 fa fd ["order", "climb"] (spD cl K 2 F_look_climb) := by
  refine fn_D (k := 2) F sc_look_climb rfl fun cdv A outer s H E hr C => ?_
  have h1 := hu_of hr
  have h64 := hr.units
  have h65 : (A.deeper (PyProof.Rows.envOfC "look_climb" (defScope s_look_climb) s.heap.objs.size fa cdv)).units + 65 < cLine := by have := hr.un; omega
  have nd := sc_look_climb.nd
  exact (dss_one (ds_if (dt_not (dt_val (de_callF h_is_climb (hr.mono (by decide)) C.tk (da_cons (dv 0) (da_cons (dv 1) da_nil))))) (dss_one ds_never) dss_nil))
abbrev N_exchanges : List Str := ["order", "climb", "found", "place", "thing", "good"]
theorem sc_exchanges : FnScope ["order", "climb", "found", "place", "thing", "good"] ["order", "climb"] (defScope s_exchanges) := ⟨rfl, rfl, rfl, by decide +kernel, rfl, by decide +kernel, by decide +kernel⟩
theorem ok_exchanges {fa : Addr} {fd : FuncData} (b_len : mg "len" = none) (b_range : mg "range" = none) (cOrd : Cls K (cl 0)) (n_count : NoAttr K (cl 0) "count") (h_look_climb : DF P w K mg base cl "look_climb" 3 2 F_look_climb) (h_are_step : DF P w K mg base cl "are_step" 1 3 F_are_step) (F : Fun K "exchanges" "exchanges" s_exchanges fa fd) : FnOk P w K mg base (L2.CX P w) 4 fa fd ["order", "climb"] (spD cl K 2 F_exchanges) := by
  refine fn_D (k := 3) F sc_exchanges rfl fun cdv A outer s H E hr C => ?_
  have h1 := hu_of hr
  have h64 := hr.units
  have h65 : (A.deeper (PyProof.Rows.envOfC "exchanges" (defScope s_exchanges) s.heap.objs.size fa cdv)).units + 65 < cLine := by have := hr.un; omega
  have nd := sc_exchanges.nd
  exact (dss_cons (ds_expr (de_callF h_look_climb (hr.mono (by decide)) C.tk (da_cons (dv 0) (da_cons (dv 1) da_nil))))
      (dss_cons (ds_set 2 nd (de_lst da_nil))
      (dss_cons (ds_for C (di_range2 b_range (dav_cons de_int (dav_cons (de_bin od_sub (de_blt cd_len b_len (dav_cons (dv 1) dav_nil)) de_int) dav_nil))) (dgn 3 nd) (dss_one (ds_for C (di_range1 b_range (dav_cons (de_fld (dv 0) cOrd n_count) dav_nil)) (dgn 4 nd) (dss_cons (ds_setF 5 nd (de_and (de_callF h_are_step (hr.mono (by decide)) C.tk (da_cons (dv 0) (da_cons (de_ix h1 (dv 1) (de_bin od_sub (dv 3) de_int)) (da_cons (dv 4) da_nil)))) (de_one (de_callF h_are_step (hr.mono (by decide)) C.tk (da_cons (dv 0) (da_cons (dv 4) (da_cons (de_ix h1 (dv 1) (de_bin od_add (dv 3) de_int)) da_nil)))))))
      (dss_one (ds_if (dw_t (dw_and (dt_val (dv 5)) (dw_and1 (dt_cmp (od_ne h64) (dv 4) (de_ix h1 (dv 1) (dv 3)) (nomark _))))) (dss_one (ds_append 2 (da_cons (de_tup (da_cons (dv 3) (da_cons (dv 4) da_nil))) da_nil))) dss_nil))))))
      (dss_one (ds_retv 2)))))
abbrev N__law_same : List Str := ["_law_found", "_law_due_here", "_law_k"]
theorem sc__law_same : FnScope ["_law_found", "_law_due_here", "_law_k"] ["_law_found", "_law_due_here"] (defScope s__law_same) := ⟨rfl, rfl, rfl, by decide +kernel, rfl, by decide +kernel, by decide +kernel⟩
theorem okr__law_same {fa : Addr} {fd : FuncData} (b_isinstance : mg "isinstance" = none) (b_tuple : mg "tuple" = none) (b_list : mg "list" = none) (b_len : mg "len" = none) (b_range : mg "range" = none) (b_bool : mg "bool" = none) (b_int : mg "int" = none) (b_str : mg "str" = none) (F : Fun K "_law_same" "_law_same" s__law_same fa fd) (hm : mg "_law_same" = some (.ref fa)) (hb : Binds K fd ["_law_found", "_law_due_here"] []) : ∀ n, FnOk P w K mg base (L2.CX P w) (1 + n) fa fd ["_law_found", "_law_due_here"] (spD cl K 2 (G__law_same n))
  | 0 => fnok_no rfl
  | n + 1 => by
    have h__law_same : DF P w K mg base cl "_law_same" (1 + n) 2 (G__law_same n) := ⟨⟨fa, fd, ["_law_found", "_law_due_here"], okr__law_same b_isinstance b_tuple b_list b_len b_range b_bool b_int b_str F hm hb n, hm, F.kp, hb⟩, aryr__law_same n⟩
    refine fn_D (k := 1 + n) F sc__law_same rfl fun cdv A outer s H E hr C => ?_
    have h1 := hu_of hr
    have h64 := hr.units
    have h65 : (A.deeper (PyProof.Rows.envOfC "_law_same" (defScope s__law_same) s.heap.objs.size fa cdv)).units + 65 < cLine := by have := hr.un; omega
    have nd := sc__law_same.nd
    exact (dss_cons (ds_if (dw_t (dw_or (dt_val (de_isi b_isinstance (dv 1) b_tuple)) (dw_or1 (dt_val (de_isi b_isinstance (dv 1) b_list))))) (dss_cons (ds_if (dw_t (dw_or (dt_cmp (od_ne h64) (de_isi b_isinstance (dv 0) b_tuple) (de_isi b_isinstance (dv 1) b_tuple) (nomark _)) (dw_or1 (dt_cmp (od_ne h64) (de_isi b_isinstance (dv 0) b_list) (de_isi b_isinstance (dv 1) b_list) (nomark _))))) (dss_one (ds_ret de_bl)) dss_nil)
        (dss_cons (ds_if (dt_cmp (od_ne h64) (de_blt cd_len b_len (dav_cons (dv 0) dav_nil)) (de_blt cd_len b_len (dav_cons (dv 1) dav_nil)) (nomark _)) (dss_one (ds_ret de_bl)) dss_nil)
        (dss_cons (ds_for C (di_range1 b_range (dav_cons (de_blt cd_len b_len (dav_cons (dv 1) dav_nil)) dav_nil)) (dgn 2 nd) (dss_one (ds_if (dt_not (dt_val (de_callF h__law_same (hr.mono (by omega)) C.tk (da_cons (de_ix h1 (dv 0) (dv 2)) (da_cons (de_ix h1 (dv 1) (dv 2)) da_nil))))) (dss_one (ds_ret de_bl)) dss_nil)))
        (dss_one (ds_ret de_bl))))) dss_nil)
        (dss_cons (ds_if (dt_val (de_isi b_isinstance (dv 1) b_bool)) (dss_one (ds_ret (de_and (de_isi b_isinstance (dv 0) b_bool) (de_one (de_cmp (od_eq h64) (dv 0) (dv 1) (nomark _)))))) dss_nil)
        (dss_cons (ds_if (dt_val (de_isi b_isinstance (dv 1) b_int)) (dss_one (ds_ret (de_and (de_isi b_isinstance (dv 0) b_int) (de_and (de_not (de_isi b_isinstance (dv 0) b_bool)) (de_one (de_cmp (od_eq h64) (dv 0) (dv 1) (nomark _))))))) dss_nil)
        (dss_cons (ds_if (dt_val (de_isi b_isinstance (dv 1) b_str)) (dss_one (ds_ret (de_and (de_isi b_isinstance (dv 0) b_str) (de_one (de_cmp (od_eq h64) (dv 0) (dv 1) (nomark _)))))) dss_nil)
        (dss_one (ds_ret (de_and (de_cmp od_is (dv 1) de_non (nomark _)) (de_one (de_cmp od_is (dv 0) de_non (nomark _))))))))))
abbrev N_with_exchange : List Str := ["climb", "exchange"]
theorem sc_with_exchange : FnScope ["climb", "exchange"] ["climb", "exchange"] (defScope s_with_exchange) := ⟨rfl, rfl, rfl, by decide +kernel, rfl, by decide +kernel, by decide +kernel⟩
theorem ok_with_exchange {fa : Addr} {fd : FuncData} (F : Fun K "with_exchange" "with_exchange" s_with_exchange fa fd) : FnOk P w K mg base (L2.CX P w) 1 fa fd ["climb", "exchange"] (spD cl K 2 F_with_exchange) := by
  refine fn_D (k := 0) F sc_with_exchange rfl fun cdv A outer s H E hr C => ?_
  have h1 := hu_of hr
  have h64 := hr.units
  have h65 : (A.deeper (PyProof.Rows.envOfC "with_exchange" (defScope s_with_exchange) s.heap.objs.size fa cdv)).units + 65 < cLine := by have := hr.un; omega
  have nd := sc_with_exchange.nd
  exact (dss_one (ds_ret (de_bin od_add (de_bin od_add (de_slice (dv 0) dpo_none (dpo_some (de_ix h1 (dv 1) de_int))) (de_lst (da_cons (de_ix h1 (dv 1) de_int) da_nil))) (de_slice (dv 0) (dpo_some (de_bin od_add (de_ix h1 (dv 1) de_int) de_int)) dpo_none))))
abbrev N_exchanged : List Str := ["order", "climb", "exchange"]
theorem sc_exchanged : FnScope ["order", "climb", "exchange"] ["order", "climb", "exchange"] (defScope s_exchanged) := ⟨rfl, rfl, rfl, by decide +kernel, rfl, by decide +kernel, by decide +kernel⟩
theorem ok_exchanged {fa : Addr} {fd : FuncData} (b_list : mg "list" = none) (h_exchanges : DF P w K mg base cl "exchanges" 4 2 F_exchanges) (h_with_exchange : DF P w K mg base cl "with_exchange" 1 2 F_with_exchange) (F : Fun K "exchanged" "exchanged" s_exchanged fa fd) : FnOk P w K mg base (L2.CX P w) 5 fa fd ["order", "climb", "exchange"] (spD cl K 3 F_exchanged) := by
  refine fn_D (k := 4) F sc_exchanged rfl fun cdv A outer s H E hr C => ?_
  have h1 := hu_of hr
  have h64 := hr.units
  have h65 : (A.deeper (PyProof.Rows.envOfC "exchanged" (defScope s_exchanged) s.heap.objs.size fa cdv)).units + 65 < cLine := by have := hr.un; omega
  have nd := sc_exchanged.nd
  exact (dss_cons (ds_if (dt_cmp (od_nin h65) (dv 2) (de_callF h_exchanges (hr.mono (by decide)) C.tk (da_cons (dv 0) (da_cons (dv 1) da_nil))) rfl) (dss_one ds_never) dss_nil)
      (dss_one (ds_ret (de_callF h_with_exchange (hr.mono (by decide)) C.tk (da_cons (de_bty cd_list b_list (dav_cons (dv 1) dav_nil)) (da_cons (dv 2) da_nil))))))
abbrev N_law : List Str := ["_law_script", "_law_masks", "_law_known", "_law_pairs", "_law_order_here", "_law_cell", "_law_draws_here", "_law_a", "_law_b", "_law_climb_here", "_law_handed_here", "_law_due_here", "_law_found", "_law_place", "_law_thing", "_law_told", "_law_due_here_here"]
theorem sc_law : FnScope ["_law_script", "_law_masks", "_law_known", "_law_pairs", "_law_order_here", "_law_cell", "_law_draws_here", "_law_a", "_law_b", "_law_climb_here", "_law_handed_here", "_law_due_here", "_law_found", "_law_place", "_law_thing", "_law_told", "_law_due_here_here"] ["_law_script"] (defScope s_law) := ⟨rfl, rfl, rfl, by decide +kernel, rfl, by decide +kernel, by decide +kernel⟩
theorem ok_law {fa : Addr} {fd : FuncData} (b_len : mg "len" = none) (b_min : mg "min" = none) (b_max : mg "max" = none) (b_list : mg "list" = none) (h__law_order : DF P w K mg base cl "_law_order" 3 2 F__law_order) (h__law_steps : DF P w K mg base cl "_law_steps" 2 1 F__law_steps) (h__law_handed : DF P w K mg base cl "_law_handed" 3 2 F__law_handed) (h__law_draws : DF P w K mg base cl "_law_draws" 2 2 F__law_draws) (h__law_cell_at : DF P w K mg base cl "_law_cell_at" 1 2 F__law_cell_at) (h_order___init__ : OrdOk P w K mg base cl 3 F_order___init__) (h__law_meet : DF P w K mg base cl "_law_meet" 1 3 F__law_meet) (h__law_climb : DF P w K mg base cl "_law_climb" 2 5 F__law_climb) (h__law_due : DF P w K mg base cl "_law_due" 1 3 F__law_due_k31) (h_exchanges : DF P w K mg base cl "exchanges" 4 2 F_exchanges) (h__law_same : DF P w K mg base cl "_law_same" 9 2 F__law_same) (h_exchanged : DF P w K mg base cl "exchanged" 5 3 F_exchanged) (F : Fun K "law" "law" s_law fa fd) : FnOk P w K mg base (L2.CX P w) 10 fa fd ["_law_script"] (spD cl K 1 F_law_k31) := by
  refine fn_D (k := 9) F sc_law rfl fun cdv A outer s H E hr C => ?_
  have h1 := hu_of hr
  have h64 := hr.units
  have h65 : (A.deeper (PyProof.Rows.envOfC "law" (defScope s_law) s.heap.objs.size fa cdv)).units + 65 < cLine := by have := hr.un; omega
  have nd := sc_law.nd
  exact (dss_cons (ds_setF 1 nd (de_callF h__law_order (hr.mono (by decide)) C.tk (da_cons (dv 0) (da_cons de_int da_nil))))
      (dss_cons (ds_setF 2 nd (de_callF h__law_steps (hr.mono (by decide)) C.tk (da_cons (dv 1) da_nil)))
      (dss_cons (ds_setF 3 nd (de_callF h__law_handed (hr.mono (by decide)) C.tk (da_cons (dv 1) (da_cons (de_callF h__law_draws (hr.mono (by decide)) C.tk (da_cons (de_callF h__law_cell_at (hr.mono (by decide)) C.tk (da_cons (dv 0) (da_cons de_int da_nil))) (da_cons de_int da_nil))) da_nil))))
      (dss_cons (ds_setF 4 nd (de_order h_order___init__ (hr.mono (by decide)) C.tk (dav_cons (de_blt cd_len b_len (dav_cons (dv 1) dav_nil)) (dav_cons (dv 3) dav_nil))))
      (dss_cons (ds_for C (di_seq (de_bin od_add (de_lst (da_cons de_int (da_cons de_int da_nil))) (de_slice (dv 0) (dpo_some de_int) (dpo_some de_int)))) (dgn 5 nd) (dss_cons (ds_setF 6 nd (de_callF h__law_draws (hr.mono (by decide)) C.tk (da_cons (dv 5) (da_cons de_int da_nil))))
      (dss_cons (ds_setF 7 nd (de_lindex h65 (dv 1) (de_blt (cd_min rfl) b_min (dav_cons (dv 1) dav_nil))))
      (dss_cons (ds_setF 8 nd (de_lindex h65 (dv 1) (de_blt (cd_max rfl) b_max (dav_cons (dv 1) dav_nil))))
      (dss_cons (ds_if (dt_cmp (od_eq h64) (de_bin od_mod (de_ix h1 (dv 6) de_int) de_int) de_int (nomark _)) (dss_cons (ds_setF 8 nd (de_bin od_mod (de_ix h1 (dv 6) de_int) (de_blt cd_len b_len (dav_cons (dv 1) dav_nil))))
      (dss_one (ds_setF 7 nd (de_callF h__law_meet (hr.mono (by decide)) C.tk (da_cons (dv 1) (da_cons (dv 8) (da_cons (de_bin od_mod (de_ix h1 (dv 6) de_int) (de_blt cd_len b_len (dav_cons (dv 1) dav_nil))) da_nil))))))) dss_nil)
      (dss_cons (ds_setF 9 nd (de_callF h__law_climb (hr.mono (by decide)) C.tk (da_cons (dv 2) (da_cons (dv 1) (da_cons (dv 7) (da_cons (dv 8) (da_cons (dv 6) da_nil)))))))
      (dss_cons (ds_setF 10 nd (de_bty cd_list b_list (dav_cons (dv 9) dav_nil)))
      (dss_cons (ds_setF 11 nd (de_callF h__law_due (hr.mono (by decide)) C.tk (da_cons (dv 2) (da_cons (dv 9) (da_cons (de_blt cd_len b_len (dav_cons (dv 1) dav_nil)) da_nil)))))
      (dss_cons (ds_set 12 nd (de_callF h_exchanges (hr.mono (by decide)) C.tk (da_cons (dv 4) (da_cons (dv 10) da_nil))))
      (dss_cons (ds_if (dw_t (dw_or (dt_not (dt_val (de_callB h__law_same (hr.mono (by decide)) C.tk (dav_cons (dv 12) (dav_cons (dv 11) dav_nil))))) (dw_or1 (dt_cmp (od_ne h64) (dv 10) (dv 9) (nomark _))))) (dss_one (ds_ret de_bl)) dss_nil)
      (dss_cons (ds_clear 12)
      (dss_cons (ds_if (dt_cmp (od_ne h64) (de_callF h_exchanges (hr.mono (by decide)) C.tk (da_cons (dv 4) (da_cons (dv 10) da_nil))) (dv 11) (nomark _)) (dss_one (ds_ret de_bl)) dss_nil)
      (dss_one (ds_for C (di_seq (dv 11)) (dg_seq rfl (dgs_cons (dgn 13 nd) (dgs_cons (dgn 14 nd) dgs_nil))) (dss_cons (ds_set 15 nd (de_callF h_exchanged (hr.mono (by decide)) C.tk (da_cons (dv 4) (da_cons (dv 10) (da_cons (de_tup (da_cons (dv 13) (da_cons (dv 14) da_nil))) da_nil)))))
      (dss_cons (ds_setF 16 nd (de_bin od_add (de_bin od_add (de_slice (dv 9) dpo_none (dpo_some (dv 13))) (de_lst (da_cons (dv 14) da_nil))) (de_slice (dv 9) (dpo_some (de_bin od_add (dv 13) de_int)) dpo_none)))
      (dss_cons (ds_if (dw_t (dw_or (dt_not (dt_val (de_callB h__law_same (hr.mono (by decide)) C.tk (dav_cons (dv 15) (dav_cons (dv 16) dav_nil))))) (dw_or1 (dt_cmp (od_ne h64) (dv 10) (dv 9) (nomark _))))) (dss_one (ds_ret de_bl)) dss_nil)
      (dss_one (ds_clear 15)))))))))))))))))))
      (dss_one (ds_ret de_bl)))))))
end
end Ev
namespace Ev
open PySem PySem.Spec L2 DL PyProof.Rows
theorem all_mk {P : Program} {w : World} {K : PySem.W.Frag} {h : Heap} {mg : Str → Option Value} {fa C : Addr} (X : K.In h) (G : h.Ns mainGlobals mg) (hfa : mg "law" = some (.ref fa))
    {od0 an0 : Option Addr} {sl0 : Array (Option Value)} {oc0 kV0 dc0 pm0 cd0 ct0 : Value} {f0 : Addr} {od1 an1 : Option Addr} {sl1 : Array (Option Value)} {oc1 kV1 dc1 pm1 cd1 ct1 : Value} {f1 : Addr} {od2 an2 : Option Addr} {sl2 : Array (Option Value)} {oc2 kV2 dc2 pm2 cd2 ct2 : Value} {f2 : Addr} {od3 an3 : Option Addr} {sl3 : Array (Option Value)} {oc3 kV3 dc3 pm3 cd3 ct3 : Value} {f3 : Addr} {od4 an4 : Option Addr} {sl4 : Array (Option Value)} {oc4 kV4 dc4 pm4 cd4 ct4 : Value} {f4 : Addr} {od5 an5 : Option Addr} {sl5 : Array (Option Value)} {oc5 kV5 dc5 pm5 cd5 ct5 : Value} {f5 : Addr} {od6 an6 : Option Addr} {sl6 : Array (Option Value)} {oc6 kV6 dc6 pm6 cd6 ct6 : Value} {f6 : Addr} {od7 an7 : Option Addr} {sl7 : Array (Option Value)} {oc7 kV7 dc7 pm7 cd7 ct7 : Value} {f7 : Addr} {od8 an8 : Option Addr} {sl8 : Array (Option Value)} {oc8 kV8 dc8 pm8 cd8 ct8 : Value} {f8 : Addr} {od9 an9 : Option Addr} {sl9 : Array (Option Value)} {oc9 kV9 dc9 pm9 cd9 ct9 : Value} {f9 : Addr} {od10 an10 : Option Addr} {sl10 : Array (Option Value)} {oc10 kV10 dc10 pm10 cd10 ct10 : Value} {f10 : Addr} {od11 an11 : Option Addr} {sl11 : Array (Option Value)} {oc11 kV11 dc11 pm11 cd11 ct11 : Value} {f11 : Addr} {od12 an12 : Option Addr} {sl12 : Array (Option Value)} {oc12 kV12 dc12 pm12 cd12 ct12 : Value} {f12 : Addr} {od13 an13 : Option Addr} {sl13 : Array (Option Value)} {oc13 kV13 dc13 pm13 cd13 ct13 : Value} {f13 : Addr} {od14 an14 : Option Addr} {sl14 : Array (Option Value)} {oc14 kV14 dc14 pm14 cd14 ct14 : Value} {f14 : Addr} {od15 an15 : Option Addr} {sl15 : Array (Option Value)} {oc15 kV15 dc15 pm15 cd15 ct15 : Value} {f15 : Addr} {od16 an16 : Option Addr} {sl16 : Array (Option Value)} {oc16 kV16 dc16 pm16 cd16 ct16 : Value} {f16 : Addr} {od17 an17 : Option Addr} {sl17 : Array (Option Value)} {oc17 kV17 dc17 pm17 cd17 ct17 : Value} {f17 : Addr} {od18 an18 : Option Addr} {sl18 : Array (Option Value)} {oc18 kV18 dc18 pm18 cd18 ct18 : Value} {f18 : Addr} {od19 an19 : Option Addr} {sl19 : Array (Option Value)} {oc19 kV19 dc19 pm19 cd19 ct19 : Value} {f19 : Addr} {od20 an20 : Option Addr} {sl20 : Array (Option Value)} {oc20 kV20 dc20 pm20 cd20 ct20 : Value} {f20 : Addr} {od21 an21 : Option Addr} {sl21 : Array (Option Value)} {oc21 kV21 dc21 pm21 cd21 ct21 : Value} {f21 : Addr} {od22 an22 : Option Addr} {sl22 : Array (Option Value)} {oc22 kV22 dc22 pm22 cd22 ct22 : Value} {f22 : Addr} {od23 an23 : Option Addr} {sl23 : Array (Option Value)} {oc23 kV23 dc23 pm23 cd23 ct23 : Value} {f23 : Addr} {od24 an24 : Option Addr} {sl24 : Array (Option Value)} {oc24 kV24 dc24 pm24 cd24 ct24 : Value} {f24 : Addr} {od25 an25 : Option Addr} {sl25 : Array (Option Value)} {oc25 kV25 dc25 pm25 cd25 ct25 : Value} {f25 : Addr} {od26 an26 : Option Addr} {sl26 : Array (Option Value)} {oc26 kV26 dc26 pm26 cd26 ct26 : Value} {f26 : Addr} {od27 an27 : Option Addr} {sl27 : Array (Option Value)} {oc27 kV27 dc27 pm27 cd27 ct27 : Value} {f27 : Addr} {od28 an28 : Option Addr} {sl28 : Array (Option Value)} {oc28 kV28 dc28 pm28 cd28 ct28 : Value} {f28 : Addr} {od29 an29 : Option Addr} {sl29 : Array (Option Value)} {oc29 kV29 dc29 pm29 cd29 ct29 : Value} {f29 : Addr} {od30 an30 : Option Addr} {sl30 : Array (Option Value)} {oc30 kV30 dc30 pm30 cd30 ct30 : Value} {f30 : Addr} {od31 an31 : Option Addr} {sl31 : Array (Option Value)} {oc31 kV31 dc31 pm31 cd31 ct31 : Value} {f31 : Addr} {t_MOST : Tok}
    (aC : PySem.W.nsIn K mainGlobals "Order" = some (some (.ref C)))
    (pg : PySem.W.plainGet K C Str.empty = true)
    (hd : PySem.W.hasDictIn K C = true)
    (po : PySem.W.plainOver K C = true)
    (sa : PySem.W.findIn K (.ref C) "__setattr__" = some (some (.builtin "object.__setattr__")))
    (mk : PySem.W.makesIn K C = true)
    (kc : PySem.W.keepIn K (.ref C) = true)
    (zb_range : PySem.W.nsIn K mainGlobals "range" = some none)
    (zb_len : PySem.W.nsIn K mainGlobals "len" = some none)
    (zb_int : PySem.W.nsIn K mainGlobals "int" = some none)
    (zb_sum : PySem.W.nsIn K mainGlobals "sum" = some none)
    (zb_list : PySem.W.nsIn K mainGlobals "list" = some none)
    (zn_count : PySem.W.findIn K (.ref C) "count" = some none)
    (zn_above : PySem.W.findIn K (.ref C) "above" = some none)
    (zn_under : PySem.W.findIn K (.ref C) "under" = some none)
    (zn_joins : PySem.W.findIn K (.ref C) "joins" = some none)
    (zn_meets : PySem.W.findIn K (.ref C) "meets" = some none)
    (zc_MOST : PySem.W.nsIn K mainGlobals "MOST" = some (some (.int 24 t_MOST)))
    (zb_tuple : PySem.W.nsIn K mainGlobals "tuple" = some none)
    (zn_pairs : PySem.W.findIn K (.ref C) "pairs" = some none)
    (zb_all : PySem.W.nsIn K mainGlobals "all" = some none)
    (zb_zip : PySem.W.nsIn K mainGlobals "zip" = some none)
    (zb_isinstance : PySem.W.nsIn K mainGlobals "isinstance" = some none)
    (zb_bool : PySem.W.nsIn K mainGlobals "bool" = some none)
    (zb_str : PySem.W.nsIn K mainGlobals "str" = some none)
    (zb_min : PySem.W.nsIn K mainGlobals "min" = some none)
    (zb_max : PySem.W.nsIn K mainGlobals "max" = some none)
    (a0 : PySem.W.nsIn K mainGlobals "_law_mixed" = some (some (.ref f0)))
    (l0 : K.lookup f0 = some ⟨oc0, od0, .func (PySem.W.fnOf "_law_mixed" "_law_mixed" (defArgs s__law_mixed) (defBody s__law_mixed) (defScope s__law_mixed) .none kV0 dc0 pm0 an0 cd0 ct0), sl0⟩)
    (d0 : PySem.W.codeIn K cd0 "_law_mixed" = true)
    (k0 : PySem.W.keepIn K (.ref f0) = true)
    (a1 : PySem.W.nsIn K mainGlobals "_law_draws" = some (some (.ref f1)))
    (l1 : K.lookup f1 = some ⟨oc1, od1, .func (PySem.W.fnOf "_law_draws" "_law_draws" (defArgs s__law_draws) (defBody s__law_draws) (defScope s__law_draws) .none kV1 dc1 pm1 an1 cd1 ct1), sl1⟩)
    (d1 : PySem.W.codeIn K cd1 "_law_draws" = true)
    (k1 : PySem.W.keepIn K (.ref f1) = true)
    (a2 : PySem.W.nsIn K mainGlobals "_law_cell_at" = some (some (.ref f2)))
    (l2 : K.lookup f2 = some ⟨oc2, od2, .func (PySem.W.fnOf "_law_cell_at" "_law_cell_at" (defArgs s__law_cell_at) (defBody s__law_cell_at) (defScope s__law_cell_at) .none kV2 dc2 pm2 an2 cd2 ct2), sl2⟩)
    (d2 : PySem.W.codeIn K cd2 "_law_cell_at" = true)
    (k2 : PySem.W.keepIn K (.ref f2) = true)
    (a3 : PySem.W.nsIn K mainGlobals "_law_flower" = some (some (.ref f3)))
    (l3 : K.lookup f3 = some ⟨oc3, od3, .func (PySem.W.fnOf "_law_flower" "_law_flower" (defArgs s__law_flower) (defBody s__law_flower) (defScope s__law_flower) .none kV3 dc3 pm3 an3 cd3 ct3), sl3⟩)
    (d3 : PySem.W.codeIn K cd3 "_law_flower" = true)
    (k3 : PySem.W.keepIn K (.ref f3) = true)
    (a4 : PySem.W.nsIn K mainGlobals "_law_stack" = some (some (.ref f4)))
    (l4 : K.lookup f4 = some ⟨oc4, od4, .func (PySem.W.fnOf "_law_stack" "_law_stack" (defArgs s__law_stack) (defBody s__law_stack) (defScope s__law_stack) .none kV4 dc4 pm4 an4 cd4 ct4), sl4⟩)
    (d4 : PySem.W.codeIn K cd4 "_law_stack" = true)
    (k4 : PySem.W.keepIn K (.ref f4) = true)
    (a5 : PySem.W.nsIn K mainGlobals "_law_fields" = some (some (.ref f5)))
    (l5 : K.lookup f5 = some ⟨oc5, od5, .func (PySem.W.fnOf "_law_fields" "_law_fields" (defArgs s__law_fields) (defBody s__law_fields) (defScope s__law_fields) .none kV5 dc5 pm5 an5 cd5 ct5), sl5⟩)
    (d5 : PySem.W.codeIn K cd5 "_law_fields" = true)
    (k5 : PySem.W.keepIn K (.ref f5) = true)
    (a6 : PySem.W.nsIn K mainGlobals "_law_beside" = some (some (.ref f6)))
    (l6 : K.lookup f6 = some ⟨oc6, od6, .func (PySem.W.fnOf "_law_beside" "_law_beside" (defArgs s__law_beside) (defBody s__law_beside) (defScope s__law_beside) .none kV6 dc6 pm6 an6 cd6 ct6), sl6⟩)
    (d6 : PySem.W.codeIn K cd6 "_law_beside" = true)
    (k6 : PySem.W.keepIn K (.ref f6) = true)
    (a7 : PySem.W.nsIn K mainGlobals "_law_shut" = some (some (.ref f7)))
    (l7 : K.lookup f7 = some ⟨oc7, od7, .func (PySem.W.fnOf "_law_shut" "_law_shut" (defArgs s__law_shut) (defBody s__law_shut) (defScope s__law_shut) .none kV7 dc7 pm7 an7 cd7 ct7), sl7⟩)
    (d7 : PySem.W.codeIn K cd7 "_law_shut" = true)
    (k7 : PySem.W.keepIn K (.ref f7) = true)
    (a8 : PySem.W.nsIn K mainGlobals "_law_kind" = some (some (.ref f8)))
    (l8 : K.lookup f8 = some ⟨oc8, od8, .func (PySem.W.fnOf "_law_kind" "_law_kind" (defArgs s__law_kind) (defBody s__law_kind) (defScope s__law_kind) .none kV8 dc8 pm8 an8 cd8 ct8), sl8⟩)
    (d8 : PySem.W.codeIn K cd8 "_law_kind" = true)
    (k8 : PySem.W.keepIn K (.ref f8) = true)
    (a9 : PySem.W.nsIn K mainGlobals "_law_order" = some (some (.ref f9)))
    (l9 : K.lookup f9 = some ⟨oc9, od9, .func (PySem.W.fnOf "_law_order" "_law_order" (defArgs s__law_order) (defBody s__law_order) (defScope s__law_order) .none kV9 dc9 pm9 an9 cd9 ct9), sl9⟩)
    (d9 : PySem.W.codeIn K cd9 "_law_order" = true)
    (k9 : PySem.W.keepIn K (.ref f9) = true)
    (a10 : PySem.W.nsIn K mainGlobals "_law_at_most" = some (some (.ref f10)))
    (l10 : K.lookup f10 = some ⟨oc10, od10, .func (PySem.W.fnOf "_law_at_most" "_law_at_most" (defArgs s__law_at_most) (defBody s__law_at_most) (defScope s__law_at_most) .none kV10 dc10 pm10 an10 cd10 ct10), sl10⟩)
    (d10 : PySem.W.codeIn K cd10 "_law_at_most" = true)
    (k10 : PySem.W.keepIn K (.ref f10) = true)
    (a11 : PySem.W.nsIn K mainGlobals "_law_steps" = some (some (.ref f11)))
    (l11 : K.lookup f11 = some ⟨oc11, od11, .func (PySem.W.fnOf "_law_steps" "_law_steps" (defArgs s__law_steps) (defBody s__law_steps) (defScope s__law_steps) .none kV11 dc11 pm11 an11 cd11 ct11), sl11⟩)
    (d11 : PySem.W.codeIn K cd11 "_law_steps" = true)
    (k11 : PySem.W.keepIn K (.ref f11) = true)
    (a12 : PySem.W.nsIn K mainGlobals "_law_handed" = some (some (.ref f12)))
    (l12 : K.lookup f12 = some ⟨oc12, od12, .func (PySem.W.fnOf "_law_handed" "_law_handed" (defArgs s__law_handed) (defBody s__law_handed) (defScope s__law_handed) .none kV12 dc12 pm12 an12 cd12 ct12), sl12⟩)
    (d12 : PySem.W.codeIn K cd12 "_law_handed" = true)
    (k12 : PySem.W.keepIn K (.ref f12) = true)
    (a13 : PySem.W.nsIn K mainGlobals "look_thing" = some (some (.ref f13)))
    (l13 : K.lookup f13 = some ⟨oc13, od13, .func (PySem.W.fnOf "look_thing" "look_thing" (defArgs s_look_thing) (defBody s_look_thing) (defScope s_look_thing) .none kV13 dc13 pm13 an13 cd13 ct13), sl13⟩)
    (d13 : PySem.W.codeIn K cd13 "look_thing" = true)
    (k13 : PySem.W.keepIn K (.ref f13) = true)
    (a14 : PySem.W.nsIn K mainGlobals "carried_on" = some (some (.ref f14)))
    (l14 : K.lookup f14 = some ⟨oc14, od14, .func (PySem.W.fnOf "carried_on" "carried_on" (defArgs s_carried_on) (defBody s_carried_on) (defScope s_carried_on) .none kV14 dc14 pm14 an14 cd14 ct14), sl14⟩)
    (d14 : PySem.W.codeIn K cd14 "carried_on" = true)
    (k14 : PySem.W.keepIn K (.ref f14) = true)
    (a15 : PySem.W.nsIn K mainGlobals "turned_bits" = some (some (.ref f15)))
    (l15 : K.lookup f15 = some ⟨oc15, od15, .func (PySem.W.fnOf "turned_bits" "turned_bits" (defArgs s_turned_bits) (defBody s_turned_bits) (defScope s_turned_bits) .none kV15 dc15 pm15 an15 cd15 ct15), sl15⟩)
    (d15 : PySem.W.codeIn K cd15 "turned_bits" = true)
    (k15 : PySem.W.keepIn K (.ref f15) = true)
    (a16 : PySem.W.findIn K (.ref C) "look_order" = some (some (.ref f16)))
    (i16 : PySem.W.isFn K (.ref f16) = true)
    (l16 : K.lookup f16 = some ⟨oc16, od16, .func (PySem.W.fnOf "look_order" "Order.look_order" (defArgs s_order_look_order) (defBody s_order_look_order) (defScope s_order_look_order) .none kV16 dc16 pm16 an16 cd16 ct16), sl16⟩)
    (d16 : PySem.W.codeIn K cd16 "Order.look_order" = true)
    (k16 : PySem.W.keepIn K (.ref f16) = true)
    (a17 : PySem.W.nsIn K mainGlobals "least_of" = some (some (.ref f17)))
    (l17 : K.lookup f17 = some ⟨oc17, od17, .func (PySem.W.fnOf "least_of" "least_of" (defArgs s_least_of) (defBody s_least_of) (defScope s_least_of) .none kV17 dc17 pm17 an17 cd17 ct17), sl17⟩)
    (d17 : PySem.W.codeIn K cd17 "least_of" = true)
    (k17 : PySem.W.keepIn K (.ref f17) = true)
    (a18 : PySem.W.findIn K (.ref C) "look_joins" = some (some (.ref f18)))
    (i18 : PySem.W.isFn K (.ref f18) = true)
    (l18 : K.lookup f18 = some ⟨oc18, od18, .func (PySem.W.fnOf "look_joins" "Order.look_joins" (defArgs s_order_look_joins) (defBody s_order_look_joins) (defScope s_order_look_joins) .none kV18 dc18 pm18 an18 cd18 ct18), sl18⟩)
    (d18 : PySem.W.codeIn K cd18 "Order.look_joins" = true)
    (k18 : PySem.W.keepIn K (.ref f18) = true)
    (a19 : PySem.W.findIn K (.ref C) "__init__" = some (some (.ref f19)))
    (i19 : PySem.W.isFn K (.ref f19) = true)
    (l19 : K.lookup f19 = some ⟨oc19, od19, .func (PySem.W.fnOf "__init__" "Order.__init__" (defArgs s_order___init__) (defBody s_order___init__) (defScope s_order___init__) .none kV19 dc19 pm19 an19 cd19 ct19), sl19⟩)
    (d19 : PySem.W.codeIn K cd19 "Order.__init__" = true)
    (k19 : PySem.W.keepIn K (.ref f19) = true)
    (a20 : PySem.W.nsIn K mainGlobals "_law_meet" = some (some (.ref f20)))
    (l20 : K.lookup f20 = some ⟨oc20, od20, .func (PySem.W.fnOf "_law_meet" "_law_meet" (defArgs s__law_meet) (defBody s__law_meet) (defScope s__law_meet) .none kV20 dc20 pm20 an20 cd20 ct20), sl20⟩)
    (d20 : PySem.W.codeIn K cd20 "_law_meet" = true)
    (k20 : PySem.W.keepIn K (.ref f20) = true)
    (a21 : PySem.W.nsIn K mainGlobals "_law_climb" = some (some (.ref f21)))
    (l21 : K.lookup f21 = some ⟨oc21, od21, .func (PySem.W.fnOf "_law_climb" "_law_climb" (defArgs s__law_climb) (defBody s__law_climb) (defScope s__law_climb) .none kV21 dc21 pm21 an21 cd21 ct21), sl21⟩)
    (d21 : PySem.W.codeIn K cd21 "_law_climb" = true)
    (k21 : PySem.W.keepIn K (.ref f21) = true)
    (a22 : PySem.W.nsIn K mainGlobals "_law_due" = some (some (.ref f22)))
    (l22 : K.lookup f22 = some ⟨oc22, od22, .func (PySem.W.fnOf "_law_due" "_law_due" (defArgs s__law_due) (defBody s__law_due) (defScope s__law_due) .none kV22 dc22 pm22 an22 cd22 ct22), sl22⟩)
    (d22 : PySem.W.codeIn K cd22 "_law_due" = true)
    (k22 : PySem.W.keepIn K (.ref f22) = true)
    (a23 : PySem.W.nsIn K mainGlobals "are_things" = some (some (.ref f23)))
    (l23 : K.lookup f23 = some ⟨oc23, od23, .func (PySem.W.fnOf "are_things" "are_things" (defArgs s_are_things) (defBody s_are_things) (defScope s_are_things) .none kV23 dc23 pm23 an23 cd23 ct23), sl23⟩)
    (d23 : PySem.W.codeIn K cd23 "are_things" = true)
    (k23 : PySem.W.keepIn K (.ref f23) = true)
    (a24 : PySem.W.nsIn K mainGlobals "are_step" = some (some (.ref f24)))
    (l24 : K.lookup f24 = some ⟨oc24, od24, .func (PySem.W.fnOf "are_step" "are_step" (defArgs s_are_step) (defBody s_are_step) (defScope s_are_step) .none kV24 dc24 pm24 an24 cd24 ct24), sl24⟩)
    (d24 : PySem.W.codeIn K cd24 "are_step" = true)
    (k24 : PySem.W.keepIn K (.ref f24) = true)
    (a25 : PySem.W.nsIn K mainGlobals "is_climb" = some (some (.ref f25)))
    (l25 : K.lookup f25 = some ⟨oc25, od25, .func (PySem.W.fnOf "is_climb" "is_climb" (defArgs s_is_climb) (defBody s_is_climb) (defScope s_is_climb) .none kV25 dc25 pm25 an25 cd25 ct25), sl25⟩)
    (d25 : PySem.W.codeIn K cd25 "is_climb" = true)
    (k25 : PySem.W.keepIn K (.ref f25) = true)
    (a26 : PySem.W.nsIn K mainGlobals "look_climb" = some (some (.ref f26)))
    (l26 : K.lookup f26 = some ⟨oc26, od26, .func (PySem.W.fnOf "look_climb" "look_climb" (defArgs s_look_climb) (defBody s_look_climb) (defScope s_look_climb) .none kV26 dc26 pm26 an26 cd26 ct26), sl26⟩)
    (d26 : PySem.W.codeIn K cd26 "look_climb" = true)
    (k26 : PySem.W.keepIn K (.ref f26) = true)
    (a27 : PySem.W.nsIn K mainGlobals "exchanges" = some (some (.ref f27)))
    (l27 : K.lookup f27 = some ⟨oc27, od27, .func (PySem.W.fnOf "exchanges" "exchanges" (defArgs s_exchanges) (defBody s_exchanges) (defScope s_exchanges) .none kV27 dc27 pm27 an27 cd27 ct27), sl27⟩)
    (d27 : PySem.W.codeIn K cd27 "exchanges" = true)
    (k27 : PySem.W.keepIn K (.ref f27) = true)
    (a28 : PySem.W.nsIn K mainGlobals "_law_same" = some (some (.ref f28)))
    (l28 : K.lookup f28 = some ⟨oc28, od28, .func (PySem.W.fnOf "_law_same" "_law_same" (defArgs s__law_same) (defBody s__law_same) (defScope s__law_same) .none kV28 dc28 pm28 an28 cd28 ct28), sl28⟩)
    (d28 : PySem.W.codeIn K cd28 "_law_same" = true)
    (k28 : PySem.W.keepIn K (.ref f28) = true)
    (a29 : PySem.W.nsIn K mainGlobals "with_exchange" = some (some (.ref f29)))
    (l29 : K.lookup f29 = some ⟨oc29, od29, .func (PySem.W.fnOf "with_exchange" "with_exchange" (defArgs s_with_exchange) (defBody s_with_exchange) (defScope s_with_exchange) .none kV29 dc29 pm29 an29 cd29 ct29), sl29⟩)
    (d29 : PySem.W.codeIn K cd29 "with_exchange" = true)
    (k29 : PySem.W.keepIn K (.ref f29) = true)
    (a30 : PySem.W.nsIn K mainGlobals "exchanged" = some (some (.ref f30)))
    (l30 : K.lookup f30 = some ⟨oc30, od30, .func (PySem.W.fnOf "exchanged" "exchanged" (defArgs s_exchanged) (defBody s_exchanged) (defScope s_exchanged) .none kV30 dc30 pm30 an30 cd30 ct30), sl30⟩)
    (d30 : PySem.W.codeIn K cd30 "exchanged" = true)
    (k30 : PySem.W.keepIn K (.ref f30) = true)
    (a31 : PySem.W.nsIn K mainGlobals "law" = some (some (.ref f31)))
    (l31 : K.lookup f31 = some ⟨oc31, od31, .func (PySem.W.fnOf "law" "law" (defArgs s_law) (defBody s_law) (defScope s_law) .none kV31 dc31 pm31 an31 cd31 ct31), sl31⟩)
    (d31 : PySem.W.codeIn K cd31 "law" = true)
    (k31 : PySem.W.keepIn K (.ref f31) = true)
    : ∃ fd : FuncData, (∀ (s : Shared) (v : Value), BindsTo s fd ⟨[v], []⟩ [("_law_script", v)]) ∧ ∀ base : Heap, K.In base → base.Ns mainGlobals mg → FnOk P w K mg base (L2.CX P w) 10 fa fd ["_law_script"] (spLaw K) := by
  have e := hfa.symm.trans (PySem.W.mg_of X G a31)
  cases e
  refine ⟨PySem.W.fnOf "law" "law" (defArgs s_law) (defBody s_law) (defScope s_law) .none kV31 dc31 pm31 an31 cd31 ct31, fun s v => .of_eq rfl, fun base _ _ => ?_⟩
  have cOrd : ∀ cl : Nat → Addr, AG (fun _ => C) cl → Cls K (cl 0) := fun cl ag => by rw [← ag 0 (by decide)]; exact ⟨pg, hd, po, sa⟩
  have b_range := PySem.W.mg_none_of X G zb_range
  have b_len := PySem.W.mg_none_of X G zb_len
  have b_int := PySem.W.mg_none_of X G zb_int
  have b_sum := PySem.W.mg_none_of X G zb_sum
  have b_list := PySem.W.mg_none_of X G zb_list
  have n_count : ∀ cl : Nat → Addr, AG (fun _ => C) cl → NoAttr K (cl 0) "count" := fun cl ag => by rw [← ag 0 (by decide)]; exact zn_count
  have n_above : ∀ cl : Nat → Addr, AG (fun _ => C) cl → NoAttr K (cl 0) "above" := fun cl ag => by rw [← ag 0 (by decide)]; exact zn_above
  have n_under : ∀ cl : Nat → Addr, AG (fun _ => C) cl → NoAttr K (cl 0) "under" := fun cl ag => by rw [← ag 0 (by decide)]; exact zn_under
  have n_joins : ∀ cl : Nat → Addr, AG (fun _ => C) cl → NoAttr K (cl 0) "joins" := fun cl ag => by rw [← ag 0 (by decide)]; exact zn_joins
  have n_meets : ∀ cl : Nat → Addr, AG (fun _ => C) cl → NoAttr K (cl 0) "meets" := fun cl ag => by rw [← ag 0 (by decide)]; exact zn_meets
  have c_MOST := PySem.W.mg_of X G zc_MOST
  have b_tuple := PySem.W.mg_none_of X G zb_tuple
  have n_pairs : ∀ cl : Nat → Addr, AG (fun _ => C) cl → NoAttr K (cl 0) "pairs" := fun cl ag => by rw [← ag 0 (by decide)]; exact zn_pairs
  have b_all := PySem.W.mg_none_of X G zb_all
  have b_zip := PySem.W.mg_none_of X G zb_zip
  have b_isinstance := PySem.W.mg_none_of X G zb_isinstance
  have b_bool := PySem.W.mg_none_of X G zb_bool
  have b_str := PySem.W.mg_none_of X G zb_str
  have b_min := PySem.W.mg_none_of X G zb_min
  have b_max := PySem.W.mg_none_of X G zb_max
  have F0 := fun_mk (st := s__law_mixed) l0 d0 k0
  have B0 := F0.binds (ps := ["_law_cell", "_law_place"]) fun _ _ _ _ _ _ us hl => match us, hl with | [_, _], _ => rfl
  have G__law_mixed : ∀ cl : Nat → Addr, AG (fun _ => C) cl → DF P w K mg base cl "_law_mixed" 1 2 F__law_mixed := fun cl ag => ⟨⟨_, _, _, ok__law_mixed (cl := cl)  F0, PySem.W.mg_of X G a0, F0.kp, B0⟩, fnD_ary _ _ _⟩
  have F1 := fun_mk (st := s__law_draws) l1 d1 k1
  have B1 := F1.binds (ps := ["_law_cell", "_law_many"]) fun _ _ _ _ _ _ us hl => match us, hl with | [_, _], _ => rfl
  have G__law_draws : ∀ cl : Nat → Addr, AG (fun _ => C) cl → DF P w K mg base cl "_law_draws" 2 2 F__law_draws := fun cl ag => ⟨⟨_, _, _, ok__law_draws (cl := cl) b_range (G__law_mixed cl ag) F1, PySem.W.mg_of X G a1, F1.kp, B1⟩, fnD_ary _ _ _⟩
  have F2 := fun_mk (st := s__law_cell_at) l2 d2 k2
  have B2 := F2.binds (ps := ["_law_script", "_law_k"]) fun _ _ _ _ _ _ us hl => match us, hl with | [_, _], _ => rfl
  have G__law_cell_at : ∀ cl : Nat → Addr, AG (fun _ => C) cl → DF P w K mg base cl "_law_cell_at" 1 2 F__law_cell_at := fun cl ag => ⟨⟨_, _, _, ok__law_cell_at (cl := cl) b_len F2, PySem.W.mg_of X G a2, F2.kp, B2⟩, fnD_ary _ _ _⟩
  have F3 := fun_mk (st := s__law_flower) l3 d3 k3
  have B3 := F3.binds (ps := ["_law_many"]) fun _ _ _ _ _ _ us hl => match us, hl with | [_], _ => rfl
  have G__law_flower : ∀ cl : Nat → Addr, AG (fun _ => C) cl → DF P w K mg base cl "_law_flower" 1 1 F__law_flower := fun cl ag => ⟨⟨_, _, _, ok__law_flower (cl := cl) b_range b_int F3, PySem.W.mg_of X G a3, F3.kp, B3⟩, fnD_ary _ _ _⟩
  have F4 := fun_mk (st := s__law_stack) l4 d4 k4
  have B4 := F4.binds (ps := ["_law_one", "_law_other", "_law_places"]) fun _ _ _ _ _ _ us hl => match us, hl with | [_, _, _], _ => rfl
  have G__law_stack : ∀ cl : Nat → Addr, AG (fun _ => C) cl → DF P w K mg base cl "_law_stack" 1 3 F__law_stack := fun cl ag => ⟨⟨_, _, _, ok__law_stack (cl := cl)  F4, PySem.W.mg_of X G a4, F4.kp, B4⟩, fnD_ary _ _ _⟩
  have F5 := fun_mk (st := s__law_fields) l5 d5 k5
  have B5 := F5.binds (ps := []) fun _ _ _ _ _ _ us hl => match us, hl with | [], _ => rfl
  have G__law_fields : ∀ cl : Nat → Addr, AG (fun _ => C) cl → DF P w K mg base cl "_law_fields" 1 0 F__law_fields := fun cl ag => ⟨⟨_, _, _, ok__law_fields (cl := cl) b_range b_sum F5, PySem.W.mg_of X G a5, F5.kp, B5⟩, fnD_ary _ _ _⟩
  have F6 := fun_mk (st := s__law_beside) l6 d6 k6
  have B6 := F6.binds (ps := ["_law_one", "_law_other"]) fun _ _ _ _ _ _ us hl => match us, hl with | [_, _], _ => rfl
  have G__law_beside : ∀ cl : Nat → Addr, AG (fun _ => C) cl → DF P w K mg base cl "_law_beside" 1 2 F__law_beside := fun cl ag => ⟨⟨_, _, _, ok__law_beside (cl := cl)  F6, PySem.W.mg_of X G a6, F6.kp, B6⟩, fnD_ary _ _ _⟩
  have F7 := fun_mk (st := s__law_shut) l7 d7 k7
  have B7 := F7.binds (ps := ["_law_masks", "_law_both"]) fun _ _ _ _ _ _ us hl => match us, hl with | [_, _], _ => rfl
  have G__law_shut : ∀ cl : Nat → Addr, AG (fun _ => C) cl → DF P w K mg base cl "_law_shut" 1 2 F__law_shut := fun cl ag => ⟨⟨_, _, _, ok__law_shut (cl := cl) b_list b_len b_int F7, PySem.W.mg_of X G a7, F7.kp, B7⟩, fnD_ary _ _ _⟩
  have F8 := fun_mk (st := s__law_kind) l8 d8 k8
  have B8 := F8.binds (ps := ["_law_draws_here", "_law_family"]) fun _ _ _ _ _ _ us hl => match us, hl with | [_, _], _ => rfl
  have G__law_kind : ∀ cl : Nat → Addr, AG (fun _ => C) cl → DF P w K mg base cl "_law_kind" 2 2 F__law_kind := fun cl ag => ⟨⟨_, _, _, ok__law_kind (cl := cl) b_range (G__law_flower cl ag) (G__law_stack cl ag) (G__law_fields cl ag) (G__law_beside cl ag) (G__law_shut cl ag) F8, PySem.W.mg_of X G a8, F8.kp, B8⟩, fnD_ary _ _ _⟩
  have F9 := fun_mk (st := s__law_order) l9 d9 k9
  have B9 := F9.binds (ps := ["_law_script", "_law_at"]) fun _ _ _ _ _ _ us hl => match us, hl with | [_, _], _ => rfl
  have G__law_order : ∀ cl : Nat → Addr, AG (fun _ => C) cl → DF P w K mg base cl "_law_order" 3 2 F__law_order := fun cl ag => ⟨⟨_, _, _, ok__law_order (cl := cl) b_len b_range (G__law_draws cl ag) (G__law_cell_at cl ag) (G__law_kind cl ag) F9, PySem.W.mg_of X G a9, F9.kp, B9⟩, fnD_ary _ _ _⟩
  have F10 := fun_mk (st := s__law_at_most) l10 d10 k10
  have B10 := F10.binds (ps := ["_law_masks", "_law_a", "_law_b"]) fun _ _ _ _ _ _ us hl => match us, hl with | [_, _, _], _ => rfl
  have G__law_at_most : ∀ cl : Nat → Addr, AG (fun _ => C) cl → DF P w K mg base cl "_law_at_most" 1 3 F__law_at_most := fun cl ag => ⟨⟨_, _, _, ok__law_at_most (cl := cl)  F10, PySem.W.mg_of X G a10, F10.kp, B10⟩, fnD_ary _ _ _⟩
  have F11 := fun_mk (st := s__law_steps) l11 d11 k11
  have B11 := F11.binds (ps := ["_law_masks"]) fun _ _ _ _ _ _ us hl => match us, hl with | [_], _ => rfl
  have G__law_steps : ∀ cl : Nat → Addr, AG (fun _ => C) cl → DF P w K mg base cl "_law_steps" 2 1 F__law_steps := fun cl ag => ⟨⟨_, _, _, ok__law_steps (cl := cl) b_len b_range (G__law_at_most cl ag) F11, PySem.W.mg_of X G a11, F11.kp, B11⟩, fnD_ary _ _ _⟩
  have F12 := fun_mk (st := s__law_handed) l12 d12 k12
  have B12 := F12.binds (ps := ["_law_masks", "_law_draws_here"]) fun _ _ _ _ _ _ us hl => match us, hl with | [_, _], _ => rfl
  have G__law_handed : ∀ cl : Nat → Addr, AG (fun _ => C) cl → DF P w K mg base cl "_law_handed" 3 2 F__law_handed := fun cl ag => ⟨⟨_, _, _, ok__law_handed (cl := cl) b_range b_len (G__law_steps cl ag) (G__law_at_most cl ag) F12, PySem.W.mg_of X G a12, F12.kp, B12⟩, fnD_ary _ _ _⟩
  have F13 := fun_mk (st := s_look_thing) l13 d13 k13
  have B13 := F13.binds (ps := ["count", "thing"]) fun _ _ _ _ _ _ us hl => match us, hl with | [_, _], _ => rfl
  have G_look_thing : ∀ cl : Nat → Addr, AG (fun _ => C) cl → DF P w K mg base cl "look_thing" 1 2 F_look_thing := fun cl ag => ⟨⟨_, _, _, ok_look_thing (cl := cl)  F13, PySem.W.mg_of X G a13, F13.kp, B13⟩, fnD_ary _ _ _⟩
  have F14 := fun_mk (st := s_carried_on) l14 d14 k14
  have B14 := F14.binds (ps := ["count", "pairs"]) fun _ _ _ _ _ _ us hl => match us, hl with | [_, _], _ => rfl
  have G_carried_on : ∀ cl : Nat → Addr, AG (fun _ => C) cl → DF P w K mg base cl "carried_on" 1 2 F_carried_on := fun cl ag => ⟨⟨_, _, _, ok_carried_on (cl := cl) b_range F14, PySem.W.mg_of X G a14, F14.kp, B14⟩, fnD_ary _ _ _⟩
  have F15 := fun_mk (st := s_turned_bits) l15 d15 k15
  have B15 := F15.binds (ps := ["count", "above"]) fun _ _ _ _ _ _ us hl => match us, hl with | [_, _], _ => rfl
  have G_turned_bits : ∀ cl : Nat → Addr, AG (fun _ => C) cl → DF P w K mg base cl "turned_bits" 1 2 F_turned_bits := fun cl ag => ⟨⟨_, _, _, ok_turned_bits (cl := cl) b_range F15, PySem.W.mg_of X G a15, F15.kp, B15⟩, fnD_ary _ _ _⟩
  have F16 := fun_mk (st := s_order_look_order) l16 d16 k16
  have B16 := F16.binds (ps := ["self"]) fun _ _ _ _ _ _ us hl => match us, hl with | [_], _ => rfl
  have G_order_look_order : ∀ cl : Nat → Addr, AG (fun _ => C) cl → DM P w K mg base cl 0 "look_order" 1 1 F_order_look_order := fun cl ag => ⟨⟨_, _, _, ok_order_look_order (cl := cl) (cOrd cl ag) (n_count cl ag) b_range (n_above cl ag) F16, ⟨by rw [← ag 0 (by decide)]; exact a16, i16, k16⟩, B16⟩, cOrd cl ag, fnD_ary _ _ _⟩
  have F17 := fun_mk (st := s_least_of) l17 d17 k17
  have B17 := F17.binds (ps := ["count", "some", "above"]) fun _ _ _ _ _ _ us hl => match us, hl with | [_, _, _], _ => rfl
  have G_least_of : ∀ cl : Nat → Addr, AG (fun _ => C) cl → DF P w K mg base cl "least_of" 1 3 F_least_of := fun cl ag => ⟨⟨_, _, _, ok_least_of (cl := cl) b_range F17, PySem.W.mg_of X G a17, F17.kp, B17⟩, fnD_ary _ _ _⟩
  have F18 := fun_mk (st := s_order_look_joins) l18 d18 k18
  have B18 := F18.binds (ps := ["self"]) fun _ _ _ _ _ _ us hl => match us, hl with | [_], _ => rfl
  have G_order_look_joins : ∀ cl : Nat → Addr, AG (fun _ => C) cl → LJOk P w K mg base cl 2 F_order_look_joins := fun cl ag => ⟨⟨_, _, ok_order_look_joins (cl0 := cl) (cOrd cl ag) (n_count cl ag) b_range (n_above cl ag) (n_under cl ag) (n_joins cl ag) (n_meets cl ag) (fun cl2 ag2 => G_least_of cl2 (AG.trans ag ag2)) F18, ⟨by rw [← ag 0 (by decide)]; exact a18, i18, k18⟩, B18⟩⟩
  have F19 := fun_mk (st := s_order___init__) l19 d19 k19
  have B19 := F19.binds (ps := ["self", "count", "pairs"]) fun _ _ _ _ _ _ us hl => match us, hl with | [_, _, _], _ => rfl
  have G_order___init__ : ∀ cl : Nat → Addr, AG (fun _ => C) cl → OrdOk P w K mg base cl 3 F_order___init__ := fun cl ag => ⟨⟨_, _, _, ok_order___init__ (cl0 := cl) c_MOST (cOrd cl ag) (n_count cl ag) (n_above cl ag) (n_under cl ag) (n_joins cl ag) (n_meets cl ag) b_range b_tuple (n_pairs cl ag) (fun cl2 ag2 => G_look_thing cl2 (AG.trans ag ag2)) (fun cl2 ag2 => G_carried_on cl2 (AG.trans ag ag2)) (fun cl2 ag2 => G_turned_bits cl2 (AG.trans ag ag2)) (fun cl2 ag2 => G_order_look_order cl2 (AG.trans ag ag2)) (fun cl2 ag2 => G_order_look_joins cl2 (AG.trans ag ag2)) F19, ⟨by rw [← ag 0 (by decide)]; exact mk, by rw [← ag 0 (by decide)]; exact a19, i19, by rw [← ag 0 (by decide)]; exact kc⟩, B19⟩, by rw [← ag 0 (by decide)]; exact PySem.W.mg_of X G aC⟩
  have F20 := fun_mk (st := s__law_meet) l20 d20 k20
  have B20 := F20.binds (ps := ["_law_masks", "_law_a", "_law_b"]) fun _ _ _ _ _ _ us hl => match us, hl with | [_, _, _], _ => rfl
  have G__law_meet : ∀ cl : Nat → Addr, AG (fun _ => C) cl → DF P w K mg base cl "_law_meet" 1 3 F__law_meet := fun cl ag => ⟨⟨_, _, _, ok__law_meet (cl := cl)  F20, PySem.W.mg_of X G a20, F20.kp, B20⟩, fnD_ary _ _ _⟩
  have F21 := fun_mk (st := s__law_climb) l21 d21 k21
  have B21 := F21.binds (ps := ["_law_known", "_law_masks", "_law_a", "_law_b", "_law_draws_here"]) fun _ _ _ _ _ _ us hl => match us, hl with | [_, _, _, _, _], _ => rfl
  have G__law_climb : ∀ cl : Nat → Addr, AG (fun _ => C) cl → DF P w K mg base cl "_law_climb" 2 5 F__law_climb := fun cl ag => ⟨⟨_, _, _, ok__law_climb (cl := cl) b_range b_len (G__law_at_most cl ag) F21, PySem.W.mg_of X G a21, F21.kp, B21⟩, fnD_ary _ _ _⟩
  have F22 := fun_mk (st := s__law_due) l22 d22 k22
  have B22 := F22.binds (ps := ["_law_known", "_law_climb_here", "_law_count"]) fun _ _ _ _ _ _ us hl => match us, hl with | [_, _, _], _ => rfl
  have G__law_due : ∀ cl : Nat → Addr, AG (fun _ => C) cl → DF P w K mg base cl "_law_due" 1 3 F__law_due_k31 := fun cl ag => ⟨⟨_, _, _, ok__law_due (cl := cl) b_len b_range F22, PySem.W.mg_of X G a22, F22.kp, B22⟩, fnD_ary _ _ _⟩
  have F23 := fun_mk (st := s_are_things) l23 d23 k23
  have B23 := F23.binds (ps := ["order", "things"]) fun _ _ _ _ _ _ us hl => match us, hl with | [_, _], _ => rfl
  have G_are_things : ∀ cl : Nat → Addr, AG (fun _ => C) cl → DF P w K mg base cl "are_things" 1 2 F_are_things := fun cl ag => ⟨⟨_, _, _, ok_are_things (cl := cl) b_all (cOrd cl ag) (n_count cl ag) F23, PySem.W.mg_of X G a23, F23.kp, B23⟩, fnD_ary _ _ _⟩
  have F24 := fun_mk (st := s_are_step) l24 d24 k24
  have B24 := F24.binds (ps := ["order", "a", "b"]) fun _ _ _ _ _ _ us hl => match us, hl with | [_, _, _], _ => rfl
  have G_are_step : ∀ cl : Nat → Addr, AG (fun _ => C) cl → DF P w K mg base cl "are_step" 1 3 F_are_step := fun cl ag => ⟨⟨_, _, _, ok_are_step (cl := cl) (cOrd cl ag) (n_above cl ag) (n_under cl ag) F24, PySem.W.mg_of X G a24, F24.kp, B24⟩, fnD_ary _ _ _⟩
  have F25 := fun_mk (st := s_is_climb) l25 d25 k25
  have B25 := F25.binds (ps := ["order", "things"]) fun _ _ _ _ _ _ us hl => match us, hl with | [_, _], _ => rfl
  have G_is_climb : ∀ cl : Nat → Addr, AG (fun _ => C) cl → DF P w K mg base cl "is_climb" 2 2 F_is_climb := fun cl ag => ⟨⟨_, _, _, ok_is_climb (cl := cl) b_len b_all b_zip (G_are_things cl ag) (G_are_step cl ag) F25, PySem.W.mg_of X G a25, F25.kp, B25⟩, fnD_ary _ _ _⟩
  have F26 := fun_mk (st := s_look_climb) l26 d26 k26
  have B26 := F26.binds (ps := ["order", "climb"]) fun _ _ _ _ _ _ us hl => match us, hl with | [_, _], _ => rfl
  have G_look_climb : ∀ cl : Nat → Addr, AG (fun _ => C) cl → DF P w K mg base cl "look_climb" 3 2 F_look_climb := fun cl ag => ⟨⟨_, _, _, ok_look_climb (cl := cl) (G_is_climb cl ag) F26, PySem.W.mg_of X G a26, F26.kp, B26⟩, fnD_ary _ _ _⟩
  have F27 := fun_mk (st := s_exchanges) l27 d27 k27
  have B27 := F27.binds (ps := ["order", "climb"]) fun _ _ _ _ _ _ us hl => match us, hl with | [_, _], _ => rfl
  have G_exchanges : ∀ cl : Nat → Addr, AG (fun _ => C) cl → DF P w K mg base cl "exchanges" 4 2 F_exchanges := fun cl ag => ⟨⟨_, _, _, ok_exchanges (cl := cl) b_len b_range (cOrd cl ag) (n_count cl ag) (G_look_climb cl ag) (G_are_step cl ag) F27, PySem.W.mg_of X G a27, F27.kp, B27⟩, fnD_ary _ _ _⟩
  have F28 := fun_mk (st := s__law_same) l28 d28 k28
  have B28 := F28.binds (ps := ["_law_found", "_law_due_here"]) fun _ _ _ _ _ _ us hl => match us, hl with | [_, _], _ => rfl
  have G__law_same : ∀ cl : Nat → Addr, AG (fun _ => C) cl → DF P w K mg base cl "_law_same" 9 2 F__law_same := fun cl ag => ⟨⟨_, _, _, okr__law_same (cl := cl) b_isinstance b_tuple b_list b_len b_range b_bool b_int b_str F28 (PySem.W.mg_of X G a28) B28 8, PySem.W.mg_of X G a28, F28.kp, B28⟩, aryr__law_same _⟩
  have F29 := fun_mk (st := s_with_exchange) l29 d29 k29
  have B29 := F29.binds (ps := ["climb", "exchange"]) fun _ _ _ _ _ _ us hl => match us, hl with | [_, _], _ => rfl
  have G_with_exchange : ∀ cl : Nat → Addr, AG (fun _ => C) cl → DF P w K mg base cl "with_exchange" 1 2 F_with_exchange := fun cl ag => ⟨⟨_, _, _, ok_with_exchange (cl := cl)  F29, PySem.W.mg_of X G a29, F29.kp, B29⟩, fnD_ary _ _ _⟩
  have F30 := fun_mk (st := s_exchanged) l30 d30 k30
  have B30 := F30.binds (ps := ["order", "climb", "exchange"]) fun _ _ _ _ _ _ us hl => match us, hl with | [_, _, _], _ => rfl
  have G_exchanged : ∀ cl : Nat → Addr, AG (fun _ => C) cl → DF P w K mg base cl "exchanged" 5 3 F_exchanged := fun cl ag => ⟨⟨_, _, _, ok_exchanged (cl := cl) b_list (G_exchanges cl ag) (G_with_exchange cl ag) F30, PySem.W.mg_of X G a30, F30.kp, B30⟩, fnD_ary _ _ _⟩
  have F31 := fun_mk (st := s_law) l31 d31 k31
  have B31 := F31.binds (ps := ["_law_script"]) fun _ _ _ _ _ _ us hl => match us, hl with | [_], _ => rfl
  exact law_imp law_true (ok_law (cl := fun _ => C) b_len b_min b_max b_list (G__law_order (fun _ => C) (fun _ _ => rfl)) (G__law_steps (fun _ => C) (fun _ _ => rfl)) (G__law_handed (fun _ => C) (fun _ _ => rfl)) (G__law_draws (fun _ => C) (fun _ _ => rfl)) (G__law_cell_at (fun _ => C) (fun _ _ => rfl)) (G_order___init__ (fun _ => C) (fun _ _ => rfl)) (G__law_meet (fun _ => C) (fun _ _ => rfl)) (G__law_climb (fun _ => C) (fun _ _ => rfl)) (G__law_due (fun _ => C) (fun _ _ => rfl)) (G_exchanges (fun _ => C) (fun _ _ => rfl)) (G__law_same (fun _ => C) (fun _ _ => rfl)) (G_exchanged (fun _ => C) (fun _ _ => rfl)) F31)
end Ev
open PySem PySem.W PyProof.Rows in
set_option maxRecDepth 100000 in
set_option maxHeartbeats 0 in
theorem PySem.Challenge.cw_evenclimb_k31_exchanges_of_climbs_holds : PySem.Challenge.rw_evenclimb_k31_exchanges_of_climbs.Holds := by
  w_on; o_law; k_head; (case hw => w_witness2)
  k_fill
  refine DL.law_walk (l := PySem.Challenge.rw_evenclimb_k31_exchanges_of_climbs) (k := 10) (x := "_law_script") rfl rfl ⟨rfl, by decide, by decide⟩ (fun w h Y => PySem.W.kIn_of Y) ?F
  case F =>
    intro w mg fa h KX G hmg
    refine' Ev.all_mk KX G hmg ?aC ?pg ?hd ?po ?sa ?mk ?kc ?zb_range ?zb_len ?zb_int ?zb_sum ?zb_list ?zn_count ?zn_above ?zn_under ?zn_joins ?zn_meets ?zc_MOST ?zb_tuple ?zn_pairs ?zb_all ?zb_zip ?zb_isinstance ?zb_bool ?zb_str ?zb_min ?zb_max ?a0 ?l0 ?d0 ?k0 ?a1 ?l1 ?d1 ?k1 ?a2 ?l2 ?d2 ?k2 ?a3 ?l3 ?d3 ?k3 ?a4 ?l4 ?d4 ?k4 ?a5 ?l5 ?d5 ?k5 ?a6 ?l6 ?d6 ?k6 ?a7 ?l7 ?d7 ?k7 ?a8 ?l8 ?d8 ?k8 ?a9 ?l9 ?d9 ?k9 ?a10 ?l10 ?d10 ?k10 ?a11 ?l11 ?d11 ?k11 ?a12 ?l12 ?d12 ?k12 ?a13 ?l13 ?d13 ?k13 ?a14 ?l14 ?d14 ?k14 ?a15 ?l15 ?d15 ?k15 ?a16 ?i16 ?l16 ?d16 ?k16 ?a17 ?l17 ?d17 ?k17 ?a18 ?i18 ?l18 ?d18 ?k18 ?a19 ?i19 ?l19 ?d19 ?k19 ?a20 ?l20 ?d20 ?k20 ?a21 ?l21 ?d21 ?k21 ?a22 ?l22 ?d22 ?k22 ?a23 ?l23 ?d23 ?k23 ?a24 ?l24 ?d24 ?k24 ?a25 ?l25 ?d25 ?k25 ?a26 ?l26 ?d26 ?k26 ?a27 ?l27 ?d27 ?k27 ?a28 ?l28 ?d28 ?k28 ?a29 ?l29 ?d29 ?k29 ?a30 ?l30 ?d30 ?k30 ?a31 ?l31 ?d31 ?k31
    (case aC => k_is)
    (case pg => k_is)
    (case hd => k_is)
    (case po => k_is)
    (case sa => k_is)
    (case mk => k_is)
    (case kc => k_is)
    (case zb_range => k_is)
    (case zb_len => k_is)
    (case zb_int => k_is)
    (case zb_sum => k_is)
    (case zb_list => k_is)
    (case zn_count => k_is)
    (case zn_above => k_is)
    (case zn_under => k_is)
    (case zn_joins => k_is)
    (case zn_meets => k_is)
    (case zc_MOST => k_is)
    (case zb_tuple => k_is)
    (case zn_pairs => k_is)
    (case zb_all => k_is)
    (case zb_zip => k_is)
    (case zb_isinstance => k_is)
    (case zb_bool => k_is)
    (case zb_str => k_is)
    (case zb_min => k_is)
    (case zb_max => k_is)
    (case a0 => k_is)
    (case l0 => k_is)
    (case d0 => k_is)
    (case k0 => k_is)
    (case a1 => k_is)
    (case l1 => k_is)
    (case d1 => k_is)
    (case k1 => k_is)
    (case a2 => k_is)
    (case l2 => k_is)
    (case d2 => k_is)
    (case k2 => k_is)
    (case a3 => k_is)
    (case l3 => k_is)
    (case d3 => k_is)
    (case k3 => k_is)
    (case a4 => k_is)
    (case l4 => k_is)
    (case d4 => k_is)
    (case k4 => k_is)
    (case a5 => k_is)
    (case l5 => k_is)
    (case d5 => k_is)
    (case k5 => k_is)
    (case a6 => k_is)
    (case l6 => k_is)
    (case d6 => k_is)
    (case k6 => k_is)
    (case a7 => k_is)
    (case l7 => k_is)
    (case d7 => k_is)
    (case k7 => k_is)
    (case a8 => k_is)
    (case l8 => k_is)
    (case d8 => k_is)
    (case k8 => k_is)
    (case a9 => k_is)
    (case l9 => k_is)
    (case d9 => k_is)
    (case k9 => k_is)
    (case a10 => k_is)
    (case l10 => k_is)
    (case d10 => k_is)
    (case k10 => k_is)
    (case a11 => k_is)
    (case l11 => k_is)
    (case d11 => k_is)
    (case k11 => k_is)
    (case a12 => k_is)
    (case l12 => k_is)
    (case d12 => k_is)
    (case k12 => k_is)
    (case a13 => k_is)
    (case l13 => k_is)
    (case d13 => k_is)
    (case k13 => k_is)
    (case a14 => k_is)
    (case l14 => k_is)
    (case d14 => k_is)
    (case k14 => k_is)
    (case a15 => k_is)
    (case l15 => k_is)
    (case d15 => k_is)
    (case k15 => k_is)
    (case a16 => k_is)
    (case i16 => k_is)
    (case l16 => k_is)
    (case d16 => k_is)
    (case k16 => k_is)
    (case a17 => k_is)
    (case l17 => k_is)
    (case d17 => k_is)
    (case k17 => k_is)
    (case a18 => k_is)
    (case i18 => k_is)
    (case l18 => k_is)
    (case d18 => k_is)
    (case k18 => k_is)
    (case a19 => k_is)
    (case i19 => k_is)
    (case l19 => k_is)
    (case d19 => k_is)
    (case k19 => k_is)
    (case a20 => k_is)
    (case l20 => k_is)
    (case d20 => k_is)
    (case k20 => k_is)
    (case a21 => k_is)
    (case l21 => k_is)
    (case d21 => k_is)
    (case k21 => k_is)
    (case a22 => k_is)
    (case l22 => k_is)
    (case d22 => k_is)
    (case k22 => k_is)
    (case a23 => k_is)
    (case l23 => k_is)
    (case d23 => k_is)
    (case k23 => k_is)
    (case a24 => k_is)
    (case l24 => k_is)
    (case d24 => k_is)
    (case k24 => k_is)
    (case a25 => k_is)
    (case l25 => k_is)
    (case d25 => k_is)
    (case k25 => k_is)
    (case a26 => k_is)
    (case l26 => k_is)
    (case d26 => k_is)
    (case k26 => k_is)
    (case a27 => k_is)
    (case l27 => k_is)
    (case d27 => k_is)
    (case k27 => k_is)
    (case a28 => k_is)
    (case l28 => k_is)
    (case d28 => k_is)
    (case k28 => k_is)
    (case a29 => k_is)
    (case l29 => k_is)
    (case d29 => k_is)
    (case k29 => k_is)
    (case a30 => k_is)
    (case l30 => k_is)
    (case d30 => k_is)
    (case k30 => k_is)
    (case a31 => k_is)
    (case l31 => k_is)
    (case d31 => k_is)
    (case k31 => k_is)
