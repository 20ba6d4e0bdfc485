import PyProof.Rows.All
import Wide.All
import OpenK.AllK
import Wide.FinOn
import HandS.ForMost
import HandS.Walk
import HandS.IsInst
import HandS.Wide
import HandS.Style
import HandS.Exc
import HandS.WordsExc
import HandS.Strs
import HandS.Star
import HandS.NoneIn
import HandS.TupAny
import HandS.TupMul
import HandS.TupLe
import HandS.RaiseMore
import HandS.Codes
import HandS.Conv
import HandS.Comp
import HandS.ClsMeth
import HandS.Property
import HandS.Defaults
import HandS.TryMany
import HandS.TryOnly
import HandS.ExcField
import HandS.ExcIs
import HandS.ExcInit
import HandS.ExcValue
import HandS.DictComp
import HandS.SetKeys
import HandS.SetFor
import HandS.Zip
import HandS.CallSlots
import HandS.FStr
import HandS.MakeKw
import HandS.MakeKwOnly
import KE.KExcSuper
import HandS.SlotsOwn
import KE.KCallOwn
import KE.KExcIs
import PyProof.InstNe
import PyProof.StrLawsRepr
import KE.GoesSet
import PyProof.ReprRoads
import HandS.SetBool
import HandS.Head0
import HandS.Head1
import HandS.Head2
import HandS.HeadHook1
import HandS.HeadHook2
import PySem.Challenge.RW_namedabove_k24_short_forms
set_option Elab.async false
set_option linter.all false
set_option maxRecDepth 100000
set_option maxHeartbeats 4000000
/-! Mw: mirrors. Pure data in place of heaps; each def of the text has a mirror, a plain predicate transformer over data. -/
namespace Mw
open PySem PySem.Spec PyProof.Rows L2

/-! ### heaps: G is what is known of the heap, H what is there -/
abbrev Ex (G H : Hp) : Prop := L2.Same G H
theorem Ex.new {H : Hp} {p : Addr} {o : HO} (h : H p = none) : Ex H (upd H p o) := fun a u e => by
  rw [upd_ne (ne_of_none e h)]; exact e
theorem Ex.tup {K : PySem.W.Frag} {H H' : Hp} {a : Addr} {xs : List V} (e : Ex H H') (h : SqT K H a xs) : SqT K H' a xs := by
  rcases h with (h | ⟨o, h⟩) | h
  · exact .inl (.inl (e _ _ h))
  · exact .inl (.inr ⟨o, e _ _ h⟩)
  · exact .inr h
theorem Ex.rd {H H' : Hp} {a : Addr} {u : HO} (e : Ex H H') (h : Rd H a u) : Rd H' a u := by
  rcases h with h | ⟨o, h⟩
  · exact .inl (e _ _ h)
  · exact .inr ⟨o, e _ _ h⟩
structure Go (G H G' H' : Hp) : Prop where
  kn : Ex G G'
  nw : ∀ a, G a = none → H a ≠ none → G' a = none
  ink : Ex G' H'
  up : Ex H H'
theorem Go.refl {G H : Hp} (e : Ex G H) : Go G H G H := ⟨Same.refl G, fun _ h _ => h, e, Same.refl H⟩
theorem ne_up {H H' : Hp} (e : Ex H H') {a : Addr} (h : H a ≠ none) : H' a ≠ none := fun z => by
  cases q : H a with
  | none => exact h q
  | some o => rw [e a o q] at z; cases z
theorem Go.trans {G H G1 H1 G2 H2 : Hp} (a : Go G H G1 H1) (b : Go G1 H1 G2 H2) : Go G H G2 H2 :=
  ⟨a.kn.trans b.kn, fun x h1 h2 => b.nw x (a.nw x h1 h2) (ne_up a.up h2), b.ink, a.up.trans b.up⟩
theorem upd_mono {G H : Hp} (e : Ex G H) (p : Addr) (o : HO) : Ex (upd G p o) (upd H p o) := fun a u h => by
  by_cases c : a = p
  · subst c; rw [upd_same] at h ⊢; exact h
  · rw [upd_ne c] at h ⊢; exact e a u h
theorem Go.new {G H : Hp} {p : Addr} {o : HO} (e : Ex G H) (h : H p = none) : Go G H (upd G p o) (upd H p o) :=
  ⟨Ex.new (e.free h), fun a h1 h2 => by rw [upd_ne (fun c => h2 (by rw [c]; exact h))]; exact h1, upd_mono e p o, Ex.new h⟩
theorem Go.put {G H : Hp} {p : Addr} {o : HO} (e : Ex G H) (h : H p = none) : Go G H G (upd H p o) :=
  ⟨Same.refl G, fun _ h _ => h, e.trans (Ex.new h), Ex.new h⟩

/-! ### data -/
inductive Dt where
  | non | bl (b : Bool) | int (i : Int) | str (x : Str) | ty (n : String)
  | lst (l : List Dt) | sq (l : List Dt) | tup (l : List Dt)
  | dic (l : List (Key × Dt)) | dit (l : List (List Key × Dt))
  | set (l : List Int)
  | ins (C : Nat) (l : List (Str × Dt))
  | cls (C : Nat)
  | dice
/-- the written part, the world, where the text's classes stand -/
structure Kc where
  K : PySem.W.Frag
  w : World
  ca : Nat → Addr
  cl : List Nat
/-- a list of three ints, hidden -/
def DiceH : Addr → Heap → Prop := fun a h => ∃ (x y z : Int) (its : List Value) (n : Nat), Vals [.int x, .int y, .int z] its ∧ h.get? a = some { cls := .type "list", data := .seq its.toArray n }
mutual
def Dat (c : Kc) (G : Hp) : Dt → V → Prop
  | .non, v => v = .non
  | .bl b, v => v = .bl b
  | .int i, v => v = .int i
  | .str x, v => v = .str x
  | .ty n, v => v = .ty n
  | .lst l, v => ∃ a xs, v = .ref a ∧ G a = some (.lst xs) ∧ Dats c G l xs
  | .sq l, v => ∃ a xs, v = .ref a ∧ SqL c.K G a xs ∧ Dats c G l xs
  | .tup l, v => ∃ a xs, v = .ref a ∧ SqT c.K G a xs ∧ Dats c G l xs
  | .dic l, v => ∃ a kvs, v = .ref a ∧ Rd G a (.dK kvs) ∧ Datk c G l kvs
  | .dit l, v => ∃ a kvs, v = .ref a ∧ Rd G a (.dT kvs) ∧ Datt c G l kvs
  | .set l, v => ∃ a S n, v = .ref a ∧ G a = some (SetO c.w a S n) ∧ n ≤ l.length ∧ ∀ i, S i = true ↔ i ∈ l
  | .ins C l, v => ∃ a dx fs, v = .ref a ∧ G a = some (.ins (c.ca C) dx fs) ∧ C ∈ c.cl ∧ Datf c G l fs
  | .cls C, v => v = .ref (c.ca C) ∧ C ∈ c.cl
  | .dice, v => ∃ a, v = .ref a ∧ G a = some (.ext (DiceH a))
def Dats (c : Kc) (G : Hp) : List Dt → List V → Prop
  | [], xs => xs = []
  | d :: l, xs => ∃ x r, xs = x :: r ∧ Dat c G d x ∧ Dats c G l r
def Datk (c : Kc) (G : Hp) : List (Key × Dt) → List (Key × V) → Prop
  | [], xs => xs = []
  | (k, d) :: l, xs => ∃ x r, xs = (k, x) :: r ∧ Dat c G d x ∧ Datk c G l r
def Datt (c : Kc) (G : Hp) : List (List Key × Dt) → List (List Key × V) → Prop
  | [], xs => xs = []
  | (k, d) :: l, xs => ∃ x r, xs = (k, x) :: r ∧ Dat c G d x ∧ Datt c G l r
def Datf (c : Kc) (G : Hp) : List (Str × Dt) → List (Str × V) → Prop
  | [], xs => xs = []
  | (k, d) :: l, xs => ∃ x r, xs = (k, x) :: r ∧ Dat c G d x ∧ Datf c G l r
end
section
variable {c : Kc} {G G' : Hp}
mutual
theorem Dat.up (e : Ex G G') : ∀ {d : Dt} {v : V}, Dat c G d v → Dat c G' d v
  | .non, _, h => h
  | .bl _, _, h => h
  | .int _, _, h => h
  | .str _, _, h => h
  | .ty _, _, h => h
  | .cls _, _, h => h
  | .lst _, _, ⟨a, xs, h1, h2, h3⟩ => ⟨a, xs, h1, e _ _ h2, Dats.up e h3⟩
  | .sq _, _, ⟨a, xs, h1, h2, h3⟩ => ⟨a, xs, h1, e.seq h2, Dats.up e h3⟩
  | .tup _, _, ⟨a, xs, h1, h2, h3⟩ => ⟨a, xs, h1, Ex.tup e h2, Dats.up e h3⟩
  | .dic _, _, ⟨a, xs, h1, h2, h3⟩ => ⟨a, xs, h1, Ex.rd e h2, Datk.up e h3⟩
  | .dit _, _, ⟨a, xs, h1, h2, h3⟩ => ⟨a, xs, h1, Ex.rd e h2, Datt.up e h3⟩
  | .set _, _, ⟨a, S, n, h1, h2, h3⟩ => ⟨a, S, n, h1, e _ _ h2, h3⟩
  | .ins _ _, _, ⟨a, dx, fs, h1, h2, h4, h3⟩ => ⟨a, dx, fs, h1, e _ _ h2, h4, Datf.up e h3⟩
  | .dice, _, ⟨a, h1, h2⟩ => ⟨a, h1, e _ _ h2⟩
theorem Dats.up (e : Ex G G') : ∀ {l : List Dt} {xs : List V}, Dats c G l xs → Dats c G' l xs
  | [], _, h => h
  | _ :: _, _, ⟨x, r, h1, h2, h3⟩ => ⟨x, r, h1, Dat.up e h2, Dats.up e h3⟩
theorem Datk.up (e : Ex G G') : ∀ {l : List (Key × Dt)} {xs : List (Key × V)}, Datk c G l xs → Datk c G' l xs
  | [], _, h => h
  | (_, _) :: _, _, ⟨x, r, h1, h2, h3⟩ => ⟨x, r, h1, Dat.up e h2, Datk.up e h3⟩
theorem Datt.up (e : Ex G G') : ∀ {l : List (List Key × Dt)} {xs : List (List Key × V)}, Datt c G l xs → Datt c G' l xs
  | [], _, h => h
  | (_, _) :: _, _, ⟨x, r, h1, h2, h3⟩ => ⟨x, r, h1, Dat.up e h2, Datt.up e h3⟩
theorem Datf.up (e : Ex G G') : ∀ {l : List (Str × Dt)} {xs : List (Str × V)}, Datf c G l xs → Datf c G' l xs
  | [], _, h => h
  | (_, _) :: _, _, ⟨x, r, h1, h2, h3⟩ => ⟨x, r, h1, Dat.up e h2, Datf.up e h3⟩
end
theorem Dats.len : ∀ {l : List Dt} {xs : List V}, Dats c G l xs → xs.length = l.length
  | [], _, h => by cases h; rfl
  | _ :: _, _, ⟨x, r, h1, _, h3⟩ => by subst h1; simp [Dats.len h3]
theorem Dats.get : ∀ {l : List Dt} {xs : List V} {i : Nat} {d : Dt}, Dats c G l xs → l[i]? = some d → ∃ x, xs[i]? = some x ∧ Dat c G d x
  | [], _, _, _, _, h => by simp at h
  | _ :: _, _, 0, _, ⟨x, r, h1, h2, _⟩, h => by
    simp at h; subst h; subst h1; exact ⟨x, rfl, h2⟩
  | _ :: _, _, i + 1, d, ⟨x, r, h1, _, h3⟩, h => by
    subst h1
    obtain ⟨y, q1, q2⟩ := Dats.get (i := i) (d := d) h3 (by simpa using h)
    exact ⟨y, by simpa using q1, q2⟩
theorem Dats.getV : ∀ {l : List Dt} {xs : List V} {i : Nat} {x : V}, Dats c G l xs → xs[i]? = some x → ∃ d, l[i]? = some d ∧ Dat c G d x
  | [], _, _, _, h, q => by cases h; simp at q
  | d :: _, _, 0, _, ⟨x, r, h1, h2, _⟩, h => by
    subst h1; simp at h; subst h; exact ⟨d, rfl, h2⟩
  | _ :: _, _, i + 1, y, ⟨x, r, h1, _, h3⟩, h => by
    subst h1
    obtain ⟨d, q1, q2⟩ := Dats.getV (i := i) (x := y) h3 (by simpa using h)
    exact ⟨d, by simpa using q1, q2⟩
theorem Dats.snoc : ∀ {l : List Dt} {xs : List V} {d : Dt} {x : V}, Dats c G l xs → Dat c G d x → Dats c G (l ++ [d]) (xs ++ [x])
  | [], _, _, x, h, q => by cases h; exact ⟨x, [], rfl, q, rfl⟩
  | _ :: _, _, _, _, ⟨y, r, h1, h2, h3⟩, q => by subst h1; exact ⟨y, r ++ [_], rfl, h2, Dats.snoc h3 q⟩
theorem Dats.app : ∀ {l m : List Dt} {xs ys : List V}, Dats c G l xs → Dats c G m ys → Dats c G (l ++ m) (xs ++ ys)
  | [], _, _, _, h, q => by cases h; exact q
  | _ :: _, _, _, _, ⟨y, r, h1, h2, h3⟩, q => by subst h1; exact ⟨y, r ++ _, rfl, h2, Dats.app h3 q⟩
theorem Dats.take : ∀ {l : List Dt} {xs : List V} (n : Nat), Dats c G l xs → Dats c G (l.take n) (xs.take n)
  | _, _, 0, _ => by simp [Dats]
  | [], _, _ + 1, h => by cases h; simp [Dats]
  | _ :: _, _, n + 1, ⟨y, r, h1, h2, h3⟩ => by subst h1; exact ⟨y, r.take n, rfl, h2, Dats.take n h3⟩
theorem Dats.drop : ∀ {l : List Dt} {xs : List V} (n : Nat), Dats c G l xs → Dats c G (l.drop n) (xs.drop n)
  | _, _, 0, h => h
  | [], _, _ + 1, h => by cases h; simp [Dats]
  | _ :: _, _, n + 1, ⟨y, r, h1, h2, h3⟩ => by subst h1; exact Dats.drop n h3
theorem Datf.len : ∀ {l : List (Str × Dt)} {xs : List (Str × V)}, Datf c G l xs → xs.length = l.length
  | [], _, h => by cases h; rfl
  | (_, _) :: _, _, ⟨x, r, h1, _, h3⟩ => by subst h1; simp [Datf.len h3]
theorem Datf.lookup {f : Str} {d : Dt} : ∀ {l : List (Str × Dt)} {xs : List (Str × V)}, Datf c G l xs → l.lookup f = some d → ∃ v, xs.lookup f = some v ∧ Dat c G d v
  | [], _, _, h => by cases h
  | (k, e) :: l, _, ⟨x, r, h1, h2, h3⟩, h => by
    subst h1
    rw [List.lookup_cons] at h ⊢
    cases q : (f == k) with
    | true => rw [q] at h; cases h; exact ⟨x, rfl, h2⟩
    | false => rw [q] at h; exact Datf.lookup h3 h
theorem Datf.lookup_none {f : Str} : ∀ {l : List (Str × Dt)} {xs : List (Str × V)}, Datf c G l xs → l.lookup f = none → xs.lookup f = none
  | [], _, h, _ => by cases h; rfl
  | (k, e) :: l, _, ⟨x, r, h1, h2, h3⟩, h => by
    subst h1
    rw [List.lookup_cons] at h ⊢
    cases q : (f == k) with
    | true => rw [q] at h; cases h
    | false => rw [q] at h; exact Datf.lookup_none h3 h
/-- a field is stored -/
def putD (f : Str) (d : Dt) : List (Str × Dt) → List (Str × Dt)
  | [] => [(f, d)]
  | (k, e) :: l => if k = f then (k, d) :: l else (k, e) :: putD f d l
theorem Datk.len : ∀ {l : List (Key × Dt)} {xs : List (Key × V)}, Datk c G l xs → xs.length = l.length
  | [], _, h => by cases h; rfl
  | (_, _) :: _, _, ⟨x, r, h1, _, h3⟩ => by subst h1; simp [Datk.len h3]
theorem Datt.len : ∀ {l : List (List Key × Dt)} {xs : List (List Key × V)}, Datt c G l xs → xs.length = l.length
  | [], _, h => by cases h; rfl
  | (_, _) :: _, _, ⟨x, r, h1, _, h3⟩ => by subst h1; simp [Datt.len h3]
end

/-! ### slots -/
inductive Sd where
  | no | dt (d : Dt) | own (d : Dt) | slf (C : Nat) (l : List (Str × Dt)) | exc (C : Nat) (l : List (Str × Dt))
abbrev SS := List Sd
/-- an object of a def's own: d, as the heap has it -/
def OwnD (c : Kc) (G : Hp) : Dt → HO → Prop
  | .lst l, o => ∃ xs, o = .lst xs ∧ Dats c G l xs
  | .dic l, o => ∃ xs, o = .dK xs ∧ Datk c G l xs
  | .dit l, o => ∃ xs, o = .dT xs ∧ Datt c G l xs
  | _, _ => False
theorem OwnD.up {c : Kc} {G G' : Hp} (e : Ex G G') : ∀ {d : Dt} {o : HO}, OwnD c G d o → OwnD c G' d o
  | .lst _, _, ⟨xs, h1, h2⟩ => ⟨xs, h1, h2.up e⟩
  | .dic _, _, ⟨xs, h1, h2⟩ => ⟨xs, h1, h2.up e⟩
  | .dit _, _, ⟨xs, h1, h2⟩ => ⟨xs, h1, h2.up e⟩
theorem OwnD.dat {c : Kc} {G : Hp} {a : Addr} (hn : G a = none) : ∀ {d : Dt} {o : HO}, OwnD c G d o → Dat c (upd G a o) d (.ref a)
  | .lst _, _, ⟨xs, h1, h2⟩ => by subst h1; exact ⟨a, xs, rfl, upd_same, h2.up (Ex.new hn)⟩
  | .dic _, _, ⟨xs, h1, h2⟩ => by subst h1; exact ⟨a, xs, rfl, .inl upd_same, h2.up (Ex.new hn)⟩
  | .dit _, _, ⟨xs, h1, h2⟩ => by subst h1; exact ⟨a, xs, rfl, .inl upd_same, h2.up (Ex.new hn)⟩
/-- the exception's own dict -/
def XD (c : Kc) (G : Hp) (od : Option Addr) (l : List (Str × Dt)) : Prop := (od = none ∧ l = []) ∨ ∃ dx fs, od = some dx ∧ G dx = some (.xd fs) ∧ Datf c G l fs
theorem XD.up {c : Kc} {G G' : Hp} {od : Option Addr} {l : List (Str × Dt)} (e : Ex G G') (h : XD c G od l) : XD c G' od l := by
  rcases h with h | ⟨dx, fs, h1, h2, h3⟩
  · exact .inl h
  · exact .inr ⟨dx, fs, h1, e _ _ h2, h3.up e⟩
/-- of a body: where its own self stands, and the exception that is handled -/
structure Mx where
  me : Addr := 0
  xa : Addr := 0
  xd : Option Addr := none
structure Sv (c : Kc) (x : Mx) (G H : Hp) (σ : L2.St) (ss : SS) : Prop where
  len : σ.length = ss.length
  dat : ∀ (i : Nat) (d : Dt), ss[i]? = some (.dt d) → ∃ v, σ[i]? = some (some v) ∧ Dat c G d v
  own : ∀ (i : Nat) (d : Dt), ss[i]? = some (.own d) → ∃ a o, σ[i]? = some (some (.ref a)) ∧ G a = none ∧ H a = some o ∧ OwnD c G d o
  slf : ∀ (i : Nat) (C : Nat) (l : List (Str × Dt)), ss[i]? = some (.slf C l) → σ[i]? = some (some (.ref x.me)) ∧ G x.me = none ∧ ∃ dx fs, H x.me = some (.ins (c.ca C) dx fs) ∧ C ∈ c.cl ∧ Datf c G l fs
  exc : ∀ (i : Nat) (C : Nat) (l : List (Str × Dt)), ss[i]? = some (.exc C l) → σ[i]? = some (some (.ref x.xa)) ∧ XD c G x.xd l
structure Sl (c : Kc) (x : Mx) (H0 G H : Hp) (σ : L2.St) (ss : SS) : Prop where
  sv : Sv c x G H σ ss
  new : ∀ (i : Nat) (d : Dt) (a : Addr), ss[i]? = some (.own d) → σ[i]? = some (some (.ref a)) → H0 a = none
  sep : ∀ (i j : Nat) (d e : Dt) (a : Addr), ss[i]? = some (.own d) → ss[j]? = some (.own e) → σ[i]? = some (some (.ref a)) → σ[j]? = some (some (.ref a)) → i = j
  me0 : ∀ (i : Nat) (C : Nat) (l : List (Str × Dt)), ss[i]? = some (.slf C l) → H0 x.me = none
  mes : ∀ (i j : Nat) (C : Nat) (l : List (Str × Dt)) (d : Dt), ss[i]? = some (.slf C l) → ss[j]? = some (.own d) → σ[j]? ≠ some (some (.ref x.me))
  me1 : ∀ (i j : Nat) (C D : Nat) (l m : List (Str × Dt)), ss[i]? = some (.slf C l) → ss[j]? = some (.slf D m) → i = j
section
variable {c : Kc} {x : Mx} {G G' H H' H0 : Hp} {σ : L2.St} {ss : SS}
theorem ne_some {o : HO} {a : Addr} (h : H a = some o) : H a ≠ none := by rw [h]; exact fun z => nomatch z
theorem Sv.go (h : Sv c x G H σ ss) (g : Go G H G' H') : Sv c x G' H' σ ss :=
  ⟨h.len, fun i d q => let ⟨v, h1, h2⟩ := h.dat i d q; ⟨v, h1, h2.up g.kn⟩,
   fun i d q => let ⟨a, o, h1, h2, h3, h4⟩ := h.own i d q; ⟨a, o, h1, g.nw a h2 (ne_some h3), g.up a _ h3, h4.up g.kn⟩,
   fun i C l q => let ⟨h1, h2, dx, fs, h3, h5, h4⟩ := h.slf i C l q; ⟨h1, g.nw _ h2 (ne_some h3), dx, fs, g.up _ _ h3, h5, h4.up g.kn⟩,
   fun i C l q => let ⟨h1, h2⟩ := h.exc i C l q; ⟨h1, h2.up g.kn⟩⟩
theorem Sl.go (h : Sl c x H0 G H σ ss) (g : Go G H G' H') : Sl c x H0 G' H' σ ss := ⟨h.sv.go g, h.new, h.sep, h.me0, h.mes, h.me1⟩
theorem get_set' {j i : Nat} {y z : Sd} (h : (ss.set j y)[i]? = some z) : (j = i ∧ y = z ∧ j < ss.length) ∨ (ss[i]? = some z ∧ j ≠ i) := by
  by_cases e : j = i
  · subst e
    by_cases b : j < ss.length
    · rw [List.getElem?_set_self b] at h; exact .inl ⟨rfl, Option.some.inj h, b⟩
    · rw [List.getElem?_eq_none (by simpa using b)] at h; cases h
  · rw [List.getElem?_set_ne e] at h
    exact .inr ⟨h, e⟩
theorem Sv.set (h : Sv c x G H σ ss) {j : Nat} {d : Dt} {v : V} (q : Dat c G d v) : Sv c x G H (σ.set j (some v)) (ss.set j (.dt d)) := by
  refine ⟨by simp [h.len], fun i e z => ?_, fun i e z => ?_, fun i C l z => ?_, fun i C l z => ?_⟩
  · rcases get_set' z with ⟨rfl, e1, b⟩ | ⟨z', e1⟩
    · cases e1; exact ⟨v, by rw [List.getElem?_set_self (by rw [h.len]; exact b)], q⟩
    · rw [List.getElem?_set_ne e1]; exact h.dat i e z'
  · rcases get_set' z with ⟨rfl, e1, b⟩ | ⟨z', e1⟩
    · cases e1
    · rw [List.getElem?_set_ne e1]; exact h.own i e z'
  · rcases get_set' z with ⟨rfl, e1, b⟩ | ⟨z', e1⟩
    · cases e1
    · rw [List.getElem?_set_ne e1]; exact h.slf i C l z'
  · rcases get_set' z with ⟨rfl, e1, b⟩ | ⟨z', e1⟩
    · cases e1
    · rw [List.getElem?_set_ne e1]; exact h.exc i C l z'
theorem Sv.forget (h : Sv c x G H σ ss) {j : Nat} {o : Option V} : Sv c x G H (σ.set j o) (ss.set j .no) := by
  refine ⟨by simp [h.len], fun i e z => ?_, fun i e z => ?_, fun i C l z => ?_, fun i C l z => ?_⟩
  · rcases get_set' z with ⟨rfl, e1, b⟩ | ⟨z', e1⟩
    · cases e1
    · rw [List.getElem?_set_ne e1]; exact h.dat i e z'
  · rcases get_set' z with ⟨rfl, e1, b⟩ | ⟨z', e1⟩
    · cases e1
    · rw [List.getElem?_set_ne e1]; exact h.own i e z'
  · rcases get_set' z with ⟨rfl, e1, b⟩ | ⟨z', e1⟩
    · cases e1
    · rw [List.getElem?_set_ne e1]; exact h.slf i C l z'
  · rcases get_set' z with ⟨rfl, e1, b⟩ | ⟨z', e1⟩
    · cases e1
    · rw [List.getElem?_set_ne e1]; exact h.exc i C l z'
/-- what holds of the slots that hold own things, when slot j takes something else -/
theorem Sl.other (h : Sl c x H0 G H σ ss) {j : Nat} {y : Sd} {o : Option V} (sv : Sv c x G' H' (σ.set j o) (ss.set j y)) (h1 : ∀ d, y ≠ .own d) (h2 : ∀ C l, y ≠ .slf C l) : Sl c x H0 G' H' (σ.set j o) (ss.set j y) := by
  have gt : ∀ {i : Nat} {d : Dt}, (ss.set j y)[i]? = some (.own d) → ss[i]? = some (.own d) ∧ j ≠ i := fun {i d} z => by
    rcases get_set' z with ⟨_, e1, _⟩ | z'
    · exact absurd e1 (h1 d)
    · exact z'
  have gs : ∀ {i : Nat} {C : Nat} {l : List (Str × Dt)}, (ss.set j y)[i]? = some (.slf C l) → ss[i]? = some (.slf C l) ∧ j ≠ i := fun {i C l} z => by
    rcases get_set' z with ⟨_, e1, _⟩ | z'
    · exact absurd e1 (h2 C l)
    · exact z'
  refine ⟨sv, fun i d a z q => ?_, fun i k d e a z1 z2 q1 q2 => ?_, fun i C l z => h.me0 i C l (gs z).1, fun i k C l d z1 z2 q => ?_, fun i k C D l m z1 z2 => h.me1 i k C D l m (gs z1).1 (gs z2).1⟩
  · obtain ⟨z, e⟩ := gt z
    rw [List.getElem?_set_ne e] at q
    exact h.new i d a z q
  · obtain ⟨z1, e1⟩ := gt z1
    obtain ⟨z2, e2⟩ := gt z2
    rw [List.getElem?_set_ne e1] at q1
    rw [List.getElem?_set_ne e2] at q2
    exact h.sep i k d e a z1 z2 q1 q2
  · obtain ⟨z2, e2⟩ := gt z2
    rw [List.getElem?_set_ne e2] at q
    exact h.mes i k C l d (gs z1).1 z2 q
theorem Sl.set (h : Sl c x H0 G H σ ss) {j : Nat} {d : Dt} {v : V} (q : Dat c G d v) : Sl c x H0 G H (σ.set j (some v)) (ss.set j (.dt d)) :=
  h.other (h.sv.set q) (fun _ => Sd.noConfusion) fun _ _ => Sd.noConfusion
theorem Sl.forget (h : Sl c x H0 G H σ ss) {j : Nat} {o : Option V} : Sl c x H0 G H (σ.set j o) (ss.set j .no) :=
  h.other h.sv.forget (fun _ => Sd.noConfusion) fun _ _ => Sd.noConfusion
end
end Mw

set_option Elab.async false
set_option linter.all false
set_option maxRecDepth 100000
set_option maxHeartbeats 4000000
namespace Mw
open PySem PySem.Spec PyProof.Rows L2
/-! ### mirrors -/
abbrev Xn := Nat → List (Str × Dt) → Prop
abbrev xF : Xn := fun _ _ => False
abbrev EM := SS → (Dt → Prop) → Xn → Prop
abbrev TM := SS → (Bool → Prop) → Xn → Prop
abbrev AM := SS → (List Dt → Prop) → Xn → Prop
abbrev OM := SS → (Option Int → Prop) → Xn → Prop
abbrev GM := Dt → SS → (SS → Prop) → Prop
abbrev GsM := List Dt → SS → (SS → Prop) → Prop
inductive Oc where
  | nx (s : SS) | bk (s : SS) | ct (s : SS) | rt (d : Dt) | ex (s : SS) (C : Nat) (l : List (Str × Dt))
abbrev SM := SS → (Oc → Prop) → Prop
abbrev D1 := Dt → (Dt → Prop) → Prop
abbrev D2 := Dt → Dt → (Dt → Prop) → Prop
abbrev DN := List Dt → (Dt → Prop) → Prop
abbrev PreX := List Dt → (Dt → Prop) → Xn → Prop

@[irreducible] def ifP (b : Bool) (A B : Prop) : Prop := if b = true then A else B
theorem ifP_t {A B : Prop} (h : ifP true A B) : A := by unfold ifP at h; rw [if_pos rfl] at h; exact h
theorem ifP_f {A B : Prop} (h : ifP false A B) : B := by unfold ifP at h; rw [if_neg Bool.false_ne_true] at h; exact h
theorem ifb {b : Bool} {A B : Prop} (h1 : b = true → A) (h2 : b = false → B) : ifP b A B := by
  unfold ifP
  cases b with
  | true => exact h1 rfl
  | false => exact h2 rfl
theorem ifT {b : Bool} {A B : Prop} (h : b = true) (hA : A) : ifP b A B := ifb (fun _ => hA) fun z => by rw [h] at z; cases z
theorem ifF {b : Bool} {A B : Prop} (h : b = false) (hB : B) : ifP b A B := ifb (fun z => by rw [h] at z; cases z) fun _ => hB
def rdS : Option Sd → (Dt → Prop) → Prop
  | some (.dt d), R => R d
  | _, _ => False
def boolD : Dt → (Bool → Prop) → Prop
  | .bl b, R => R b
  | _, _ => False
def intD : Dt → (Int → Prop) → Prop
  | .int b, R => R b
  | _, _ => False
def vW (i : Nat) : EM := fun ss R _ => rdS ss[i]? R
def cW (d : Dt) : EM := fun _ R _ => R d
def opW (o : D2) (a b : EM) : EM := fun ss R X => a ss (fun x => b ss (fun y => o x y R) X) X
def unW (o : D1) (a : EM) : EM := fun ss R X => a ss (fun x => o x R) X
def nilW : AM := fun _ R _ => R []
def consW (a : EM) (as : AM) : AM := fun ss R X => a ss (fun x => as ss (fun l => R (x :: l)) X) X
def itemsD : Dt → (List Dt → Prop) → Prop
  | .lst l, R => R l
  | .tup l, R => R l
  | _, _ => False
def starW (a : EM) (as : AM) : AM := fun ss R X => a ss (fun x => itemsD x fun l => as ss (fun m => R (l ++ m)) X) X
def cbW (o : DN) (as : AM) : EM := fun ss R X => as ss (fun l => o l R) X
def lstW (as : AM) : EM := fun ss R X => as ss (fun l => l.length ≤ 1000000 ∧ R (.lst l)) X
def tupW (as : AM) : EM := fun ss R X => as ss (fun l => l.length ≤ 1000000 ∧ R (.tup l)) X
def testW (a : EM) : TM := fun ss R X => a ss (fun d => boolD d R) X
def andW (a b : TM) : TM := fun ss R X => a ss (fun k => ifP k (b ss R X) (R false)) X
def orW (a b : TM) : TM := fun ss R X => a ss (fun k => ifP k (R true) (b ss R X)) X
def notW (a : TM) : TM := fun ss R X => a ss (fun k => R (!k)) X
def yesW : TM := fun _ R _ => R true
def avW (a b : EM) : EM := fun ss R X => a ss (fun d => boolD d fun k => ifP k (b ss R X) (R (.bl false))) X
def ovW (a b : EM) : EM := fun ss R X => a ss (fun d => boolD d fun k => ifP k (R (.bl true)) (b ss R X)) X
def nvW (a : EM) : EM := fun ss R X => a ss (fun d => boolD d fun k => R (.bl (!k))) X
def ifW (t : TM) (a b : EM) : EM := fun ss R X => t ss (fun k => ifP k (a ss R X) (b ss R X)) X
def chainW (o o' : D2) (a b d : EM) : EM := fun ss R X => a ss (fun x => b ss (fun y => o x y fun z => boolD z fun k => ifP k (d ss (fun u => o' y u R) X) (R (.bl false))) X) X
def noW : OM := fun _ R _ => R none
def soW (a : EM) : OM := fun ss R X => a ss (fun d => intD d fun i => R (some i)) X
abbrev DSl := Dt → Option Int → Option Int → (Dt → Prop) → Prop
def slW (o : DSl) (a : EM) (lo hi : OM) : EM := fun ss R X => a ss (fun d => lo ss (fun i => hi ss (fun j => o d i j R) X) X) X
abbrev DM := Dt → List Dt → (Dt → Prop) → Prop
def tyD : Dt → String
  | .str _ => "str"
  | .int _ => "int"
  | .lst _ => "list"
  | .sq _ => "list"
  | _ => ""
def bmW (T : String) (o : DM) (a : EM) (as : AM) : EM := fun ss R X => a ss (fun d => tyD d = T ∧ as ss (fun l => o d l R) X) X
def callW (P : PreX) (as : AM) : EM := fun ss R X => as ss (fun l => P l R X) X
def noxW (a : EM) : EM := fun ss R _ => a ss R xF
def noxT (a : TM) : TM := fun ss R _ => a ss R xF
/-! what is walked -/
def rangeD (lo : Int) (n : Nat) : List Dt := (List.range n).map fun i : Nat => .int (lo + (i : Int))
def signsD (z : Str) : List Dt := z.cps.toList.map fun c => .str ⟨#[c]⟩
def iLstD : Dt → (List Dt → Prop) → Prop
  | .lst l, R => R l
  | .sq l, R => R l
  | _, _ => False
def iTupD : Dt → (List Dt → Prop) → Prop
  | .tup l, R => R l
  | _, _ => False
def iStrD : Dt → (List Dt → Prop) → Prop
  | .str z, R => R (signsD z)
  | _, _ => False
def rng1D : List Dt → (List Dt → Prop) → Prop
  | [.int j], R => (-(2 ^ 62) ≤ j ∧ j < 2 ^ 62) ∧ R (rangeD 0 j.toNat)
  | _, _ => False
def rng2D : List Dt → (List Dt → Prop) → Prop
  | [.int i, .int j], R => (-(2 ^ 62) ≤ i ∧ i < 2 ^ 62 ∧ -(2 ^ 62) ≤ j ∧ j < 2 ^ 62) ∧ R (rangeD i (j - i).toNat)
  | _, _ => False
def itW (o : Dt → (List Dt → Prop) → Prop) (a : EM) : AM := fun ss R X => a ss (fun d => o d R) X
def itAW (o : List Dt → (List Dt → Prop) → Prop) (a : AM) : AM := fun ss R X => a ss (fun d => o d R) X
/-! targets -/
def gN (i : Nat) : GM := fun d ss R => R (ss.set i (.dt d))
def gNilW : GsM := fun l ss R => l = [] ∧ R ss
def gConsW (g : GM) (gs : GsM) : GsM := fun l ss R => match l with
  | [] => False
  | d :: r => g d ss fun s1 => gs r s1 R
def gT (gs : GsM) : GM := fun d ss R => iTupD d fun l => gs l ss R
def gL (gs : GsM) : GM := fun d ss R => match d with
  | .lst l => gs l ss R
  | _ => False
/-! comprehensions -/
def wipeS (ss : SS) : List Nat → SS
  | [] => ss
  | j :: r => (wipeS ss r).set j .no
def lcL (ss : SS) (g : GM) (t : TM) (e : EM) : List Dt → List Dt → (List Dt → Prop) → Prop
  | [], acc, R => R acc
  | d :: l, acc, R => g d ss fun s1 => t s1 (fun k => ifP k (e s1 (fun y => lcL ss g t e l (acc ++ [y]) R) xF) (lcL ss g t e l acc R)) xF
def lcW (it : AM) (vs : List Nat) (g : GM) (t : TM) (e : EM) : EM := fun ss R X => it ss (fun l => l.length < 1000000 ∧ lcL (wipeS ss vs) g t e l [] fun acc => R (.lst acc)) X
def lc2L (ss : SS) (g : GM) (t : TM) (inner : SS → List Dt → (List Dt → Prop) → Prop) : List Dt → List Dt → (List Dt → Prop) → Prop
  | [], acc, R => R acc
  | d :: l, acc, R => g d ss fun s1 => t s1 (fun k => ifP k (inner s1 acc (fun acc' => lc2L ss g t inner l acc' R)) (lc2L ss g t inner l acc R)) xF
/-! statements -/
def passW : SM := fun ss k => k (.nx ss)
def seqW (a b : SM) : SM := fun ss k => a ss fun o => match o with
  | .nx s => b s k
  | .bk s => k (.bk s)
  | .ct s => k (.ct s)
  | .rt d => k (.rt d)
  | .ex s C l => k (.ex s C l)
def retW (a : EM) : SM := fun ss k => a ss (fun d => k (.rt d)) fun C l => k (.ex ss C l)
def ret0W : SM := fun _ k => k (.rt .non)
def exprW (a : EM) : SM := fun ss k => a ss (fun _ => k (.nx ss)) fun C l => k (.ex ss C l)
def ifSW (t : TM) (a b : SM) : SM := fun ss k => t ss (fun v => ifP v (a ss k) (b ss k)) fun C l => k (.ex ss C l)
def asgW (a : EM) (g : GM) : SM := fun ss k => a ss (fun d => g d ss fun s => k (.nx s)) fun C l => k (.ex ss C l)
def brkW : SM := fun ss k => k (.bk ss)
def cntW : SM := fun ss k => k (.ct ss)
def neverW : SM := fun _ _ => False
def forL (g : GM) (b : SM) : List Dt → SS → (Oc → Prop) → Prop
  | [], ss, k => k (.nx ss)
  | d :: l, ss, k => g d ss fun s1 => b s1 fun o => match o with
    | .nx s => forL g b l s k
    | .ct s => forL g b l s k
    | .bk s => k (.nx s)
    | .rt d => k (.rt d)
    | .ex s C l => k (.ex s C l)
def forW (it : AM) (g : GM) (b : SM) : SM := fun ss k => it ss (fun l => forL g b l ss k) fun C l => k (.ex ss C l)
def whL (t : TM) (b : SM) : Nat → SS → (Oc → Prop) → Prop
  | 0, _, _ => False
  | n + 1, ss, k => t ss (fun v => ifP v (b ss fun o => match o with
    | .nx s => whL t b n s k
    | .ct s => whL t b n s k
    | .bk s => k (.nx s)
    | .rt d => k (.rt d)
    | .ex s C l => k (.ex s C l)) (k (.nx ss))) fun C l => k (.ex ss C l)
def whW (t : TM) (b : SM) : SM := fun ss k => ∃ n, whL t b n ss k
/-! defs -/
def startS (n : Nat) (ds : List Dt) : SS := ds.map .dt ++ List.replicate (n - ds.length) .no
def endO (R : Dt → Prop) (X : Xn) : Oc → Prop
  | .nx _ => R .non
  | .rt d => R d
  | .ex _ C l => X C l
  | _ => False
def defW (n m : Nat) (b : SM) : PreX := fun ds R X => ds.length = n ∧ b (startS m ds) (endO R X)

/-! ### that a reading keeps a mirror -/
abbrev wF : WX := fun _ _ _ _ => False
abbrev KX (c : Kc) (w : Option WX) (X : Xn) (σ : L2.St) (G H : Hp) : Prop := ∀ C l od G' H', Go G H G' H' → XD c G' od l → X C l → (w.getD wF) (.ref (c.ca C)) od σ H'
def WalkD (c : Kc) (J : It) (l : List Dt) (G0 : Hp) : Prop := Walk J l.length (fun H => Ex G0 H) (fun i H x H' => ∀ G : Hp, Ex G0 G → Ex G H → ∃ d G2, l[i]? = some d ∧ Go G H G2 H' ∧ Dat c G2 d x)
section
variable (c : Kc) (x : Mx) (w : Option WX)
def RE (te : TE) (m : EM) : Prop := ∀ ss R X G σ H, m ss R X → Ex G H → Sv c x G H σ ss → ∀ Q : VK, (∀ v d G' H', Go G H G' H' → Dat c G' d v → R d → Q v H') → KX c w X σ G H → te σ H Q
def RT (tt : TT) (m : TM) : Prop := ∀ ss R X G σ H, m ss R X → Ex G H → Sv c x G H σ ss → ∀ Q : Bool → Hp → Prop, (∀ b G' H', Go G H G' H' → R b → Q b H') → KX c w X σ G H → tt σ H Q
def RA (ta : TA) (m : AM) : Prop := ∀ ss R X G σ H, m ss R X → Ex G H → Sv c x G H σ ss → ∀ Q : List V → Hp → Prop, (∀ vs ds G' H', Go G H G' H' → Dats c G' ds vs → R ds → Q vs H') → KX c w X σ G H → ta σ H Q
def RP (to : TO) (m : OM) : Prop := ∀ ss R X G σ H, m ss R X → Ex G H → Sv c x G H σ ss → ∀ Q : Option Int → Hp → Prop, (∀ o G' H', Go G H G' H' → R o → Q o H') → KX c w X σ G H → to σ H Q
def RI (wi : TI) (m : AM) : Prop := ∀ ss R X G σ H, m ss R X → Ex G H → Sv c x G H σ ss → ∀ Q : It → Hp → Prop, (∀ J l G' H', Go G H G' H' → WalkD c J l G' → R l → Q J H') → KX c w X σ G H → wi σ H Q
end
/-- operators, calls, methods by data -/
def RO2 (c : Kc) (r : R2) (o : D2) : Prop := ∀ d e R, o d e R → ∀ (G H : Hp) (v u : V), Ex G H → Dat c G d v → Dat c G e u → ∀ Q : VK, (∀ z y G' H', Go G H G' H' → Dat c G' y z → R y → Q z H') → r v u H Q
def RO1 (c : Kc) (r : V → Hp → VK → Prop) (o : D1) : Prop := ∀ d R, o d R → ∀ (G H : Hp) (v : V), Ex G H → Dat c G d v → ∀ Q : VK, (∀ z y G' H', Go G H G' H' → Dat c G' y z → R y → Q z H') → r v H Q
def RON (c : Kc) (r : List V → Hp → VK → Prop) (o : DN) : Prop := ∀ ds R, o ds R → ∀ (G H : Hp) (vs : List V), Ex G H → Dats c G ds vs → ∀ Q : VK, (∀ z y G' H', Go G H G' H' → Dat c G' y z → R y → Q z H') → r vs H Q
def ROS (c : Kc) (r : V → Option Int → Option Int → Hp → VK → Prop) (o : DSl) : Prop := ∀ d lo hi R, o d lo hi R → ∀ (G H : Hp) (v : V), Ex G H → Dat c G d v → ∀ Q : VK, (∀ z y G' H', Go G H G' H' → Dat c G' y z → R y → Q z H') → r v lo hi H Q
def ROM (c : Kc) (T : String) (r : V → List V → Hp → VK → Prop) (o : DM) : Prop := ∀ d ds R, o d ds R → ∀ (G H : Hp) (v : V) (vs : List V), Ex G H → Dat c G d v → Dats c G ds vs → ∀ Q : VK, (∀ z y G' H', Go G H G' H' → Dat c G' y z → R y → Q z H') → r v vs H Q
def RG (c : Kc) (x : Mx) (vs : List Nat) (g : TG) (m : GM) : Prop := ∀ d ss R, m d ss R → ∀ (G H : Hp) (σ : L2.St) (v : V), Ex G H → Sv c x G H σ ss → Dat c G d v → ∀ Q : L2.St → Hp → Prop, (∀ σ' ss', Sv c x G H σ' ss' → wipe σ' vs = wipe σ vs → R ss' → Q σ' H) → g v σ H Q
def RGs (c : Kc) (x : Mx) (vs : List Nat) (g : TGs) (m : GsM) : Prop := ∀ ds ss R, m ds ss R → ∀ (G H : Hp) (σ : L2.St) (us : List V), Ex G H → Sv c x G H σ ss → Dats c G ds us → ∀ Q : L2.St → Hp → Prop, (∀ σ' ss', Sv c x G H σ' ss' → wipe σ' vs = wipe σ vs → R ss' → Q σ' H) → g us σ H Q
def RL (c : Kc) (x : Mx) (g : TG) (m : GM) : Prop := ∀ d ss R, m d ss R → ∀ (H0 G H : Hp) (σ : L2.St) (v : V), Ex G H → Sl c x H0 G H σ ss → Dat c G d v → ∀ Q : L2.St → Hp → Prop, (∀ σ' ss', Sl c x H0 G H σ' ss' → R ss' → Q σ' H) → g v σ H Q
def RLs (c : Kc) (x : Mx) (g : TGs) (m : GsM) : Prop := ∀ ds ss R, m ds ss R → ∀ (H0 G H : Hp) (σ : L2.St) (us : List V), Ex G H → Sl c x H0 G H σ ss → Dats c G ds us → ∀ Q : L2.St → Hp → Prop, (∀ σ' ss', Sl c x H0 G H σ' ss' → R ss' → Q σ' H) → g us σ H Q
structure Kon (c : Kc) (x : Mx) (w : Option WX) (k : Oc → Prop) (G0 H0 : Hp) (D : Ends) : Prop where
  nx : ∀ σ ss G H, Go G0 H0 G H → Sl c x H0 G H σ ss → k (.nx ss) → D.nx σ H
  bk : ∀ σ ss G H, Go G0 H0 G H → Sl c x H0 G H σ ss → k (.bk ss) → D.bk σ H
  ct : ∀ σ ss G H, Go G0 H0 G H → Sl c x H0 G H σ ss → k (.ct ss) → D.ct σ H
  rt : ∀ v d G H, Go G0 H0 G H → Dat c G d v → k (.rt d) → D.rt v H
  ex : ∀ σ ss C l od G H, Go G0 H0 G H → Sl c x H0 G H σ ss → XD c G od l → k (.ex ss C l) → (w.getD wF) (.ref (c.ca C)) od σ H
def RS (c : Kc) (x : Mx) (w : Option WX) (ts : TS) (m : SM) : Prop := ∀ ss k G0 H0 D σ G H, m ss k → Kon c x w k G0 H0 D → Go G0 H0 G H → Sl c x H0 G H σ ss → ts D σ H

section
variable {c : Kc} {x : Mx} {w : Option WX} {X : Xn} {σ : L2.St} {G H G1 H1 : Hp}
theorem kx_go (z : KX c w X σ G H) (g : Go G H G1 H1) : KX c w X σ G1 H1 := fun C l od G' H' g' hd hc => z C l od G' H' (g.trans g') hd hc
theorem sz_of {n : Nat} (h : n ≤ 1000000) : n ≤ sizeLine := Nat.le_trans h (by decide)
theorem sz_lt {n : Nat} (h : n < 1000000) : n < sizeLine := Nat.lt_of_lt_of_le h (by decide)
theorem dat_newL {p : Addr} {l : List Dt} {xs : List V} (d : Dats c G l xs) (h : G p = none) : Dat c (upd G p (.lst xs)) (.lst l) (.ref p) := ⟨p, xs, rfl, upd_same, d.up (Ex.new h)⟩
theorem dat_newT {p : Addr} {l : List Dt} {xs : List V} (d : Dats c G l xs) (h : G p = none) : Dat c (upd G p (.tup xs)) (.tup l) (.ref p) := ⟨p, xs, rfl, .inl (.inl upd_same), d.up (Ex.new h)⟩
variable {ta tb tc te : TE} {a b d : EM} {tt tu : TT} {t u : TM} {tas : TA} {as : AM}
theorem re_var {i : Nat} : RE c x w (tVar i) (vW i) := fun ss R X G σ H m e s Q q z => by
  unfold vW at m
  cases h : ss[i]? with
  | none => rw [h] at m; exact m.elim
  | some y =>
    rw [h] at m
    cases y with
    | dt d =>
      obtain ⟨v, h1, h2⟩ := s.dat i d h
      exact ⟨v, h1, q v d G H (Go.refl e) h2 m⟩
    | _ => exact m.elim
theorem re_c {v : V} {d : Dt} (hd : ∀ G, Dat c G d v) : RE c x w (tC v) (cW d) := fun ss R X G σ H m e s Q q z => q v d G H (Go.refl e) (hd G) m
theorem re_op {r : R2} {o : D2} (hr : RO2 c r o) (ha : RE c x w ta a) (hb : RE c x w tb b) : RE c x w (tOp r ta tb) (opW o a b) := fun ss R X G σ H m e s Q q z =>
  ha ss _ X G σ H m e s _ (fun v d G1 H1 g1 d1 m1 => hb ss _ X G1 σ H1 m1 g1.ink (s.go g1) _ (fun u y G2 H2 g2 d2 m2 =>
    hr d y R m2 G2 H2 v u g2.ink (d1.up g2.kn) d2 Q fun z y G3 H3 g3 d3 hr => q z y G3 H3 (g1.trans (g2.trans g3)) d3 hr) (kx_go z g1)) z
theorem re_un {r : V → Hp → VK → Prop} {o : D1} (hr : RO1 c r o) (ha : RE c x w ta a) : RE c x w (tUn r ta) (unW o a) := fun ss R X G σ H m e s Q q z =>
  ha ss _ X G σ H m e s _ (fun v d G1 H1 g1 d1 m1 => hr d R m1 G1 H1 v g1.ink d1 Q fun z y G3 H3 g3 d3 hr => q z y G3 H3 (g1.trans g3) d3 hr) z
theorem ra_nil : RA c x w tNil nilW := fun ss R X G σ H m e s Q q z => q [] [] G H (Go.refl e) rfl m
theorem ra_cons (ha : RE c x w ta a) (hs : RA c x w tas as) : RA c x w (tCons ta tas) (consW a as) := fun ss R X G σ H m e s Q q z =>
  ha ss _ X G σ H m e s _ (fun v d G1 H1 g1 d1 m1 => hs ss _ X G1 σ H1 m1 g1.ink (s.go g1) _ (fun vs l G2 H2 g2 d2 m2 => q (v :: vs) (d :: l) G2 H2 (g1.trans g2) ⟨v, vs, rfl, d1.up g2.kn, d2⟩ m2) (kx_go z g1)) z
theorem re_cb {r : List V → Hp → VK → Prop} {o : DN} (hr : RON c r o) (hs : RA c x w tas as) : RE c x w (tCB r tas) (cbW o as) := fun ss R X G σ H m e s Q q z =>
  hs ss _ X G σ H m e s _ (fun vs l G1 H1 g1 d1 m1 => hr l R m1 G1 H1 vs g1.ink d1 Q fun z y G3 H3 g3 d3 hr => q z y G3 H3 (g1.trans g3) d3 hr) z
theorem re_lst (hs : RA c x w tas as) : RE c x w (tLst tas) (lstW as) := fun ss R X G σ H m e s Q q z =>
  hs ss _ X G σ H m e s _ (fun vs l G1 H1 g1 d1 m1 => ⟨by rw [d1.len]; exact sz_of m1.1, fun p hp => q (.ref p) (.lst l) _ _ (g1.trans (Go.new g1.ink hp)) (dat_newL d1 (g1.ink.free hp)) m1.2⟩) z
theorem re_tup (hs : RA c x w tas as) : RE c x w (tTup tas) (tupW as) := fun ss R X G σ H m e s Q q z =>
  hs ss _ X G σ H m e s _ (fun vs l G1 H1 g1 d1 m1 => ⟨by rw [d1.len]; exact sz_of m1.1, fun p hp => q (.ref p) (.tup l) _ _ (g1.trans (Go.new g1.ink hp)) (dat_newT d1 (g1.ink.free hp)) m1.2⟩) z
theorem of_boolD {d : Dt} {R : Bool → Prop} (h : boolD d R) : ∃ k, d = .bl k ∧ R k := by
  cases d with
  | bl k => exact ⟨k, rfl, h⟩
  | _ => exact h.elim
theorem of_intD {d : Dt} {R : Int → Prop} (h : intD d R) : ∃ k, d = .int k ∧ R k := by
  cases d with
  | int k => exact ⟨k, rfl, h⟩
  | _ => exact h.elim
theorem rt_test (ha : RE c x w ta a) : RT c x w (tTest ta) (testW a) := fun ss R X G σ H m e s Q q z =>
  ha ss _ X G σ H m e s _ (fun v d G1 H1 g1 d1 m1 => by
    obtain ⟨k, rfl, h⟩ := of_boolD m1
    exact ⟨k, d1, q k G1 H1 g1 h⟩) z
theorem rt_B (ha : RE c x w ta a) : RT c x w (tB ta) (testW a) := fun ss R X G σ H m e s Q q z =>
  ha ss _ X G σ H m e s _ (fun v d G1 H1 g1 d1 m1 => by
    obtain ⟨k, rfl, h⟩ := of_boolD m1
    exact ⟨k, d1, q k G1 H1 g1 h⟩) z
theorem rt_and (ha : RT c x w tt t) (hb : RT c x w tu u) : RT c x w (tAnd tt tu) (andW t u) := fun ss R X G σ H m e s Q q z =>
  ha ss _ X G σ H m e s _ (fun k G1 H1 g1 m1 => by
    cases k with
    | true => exact hb ss R X G1 σ H1 (ifP_t m1) g1.ink (s.go g1) Q (fun b G2 H2 g2 h3 => q b G2 H2 (g1.trans g2) h3) (kx_go z g1)
    | false => exact q false G1 H1 g1 (ifP_f m1)) z
theorem rt_or (ha : RT c x w tt t) (hb : RT c x w tu u) : RT c x w (tOr tt tu) (orW t u) := fun ss R X G σ H m e s Q q z =>
  ha ss _ X G σ H m e s _ (fun k G1 H1 g1 m1 => by
    cases k with
    | true => exact q true G1 H1 g1 (ifP_t m1)
    | false => exact hb ss R X G1 σ H1 (ifP_f m1) g1.ink (s.go g1) Q (fun b G2 H2 g2 h3 => q b G2 H2 (g1.trans g2) h3) (kx_go z g1)) z
theorem rt_not (ha : RT c x w tt t) : RT c x w (tNot tt) (notW t) := fun ss R X G σ H m e s Q q z =>
  ha ss _ X G σ H m e s _ (fun k G1 H1 g1 m1 => q (!k) G1 H1 g1 m1) z
theorem rt_yes : RT c x w tYes yesW := fun ss R X G σ H m e s Q q z => q true G H (Go.refl e) m
theorem re_and (ha : RE c x w ta a) (hb : RE c x w tb b) : RE c x w (tAndV ta tb) (avW a b) := fun ss R X G σ H m e s Q q z =>
  ha ss _ X G σ H m e s _ (fun v d G1 H1 g1 d1 m1 => by
    obtain ⟨k, rfl, h⟩ := of_boolD m1
    refine ⟨k, d1, ?_⟩
    cases k with
    | true => exact hb ss R X G1 σ H1 (ifP_t h) g1.ink (s.go g1) Q (fun v d G2 H2 g2 d2 h3 => q v d G2 H2 (g1.trans g2) d2 h3) (kx_go z g1)
    | false => exact q (.bl false) (.bl false) G1 H1 g1 rfl (ifP_f h)) z
theorem re_or (ha : RE c x w ta a) (hb : RE c x w tb b) : RE c x w (tOrV ta tb) (ovW a b) := fun ss R X G σ H m e s Q q z =>
  ha ss _ X G σ H m e s _ (fun v d G1 H1 g1 d1 m1 => by
    obtain ⟨k, rfl, h⟩ := of_boolD m1
    refine ⟨k, d1, ?_⟩
    cases k with
    | true => exact q (.bl true) (.bl true) G1 H1 g1 rfl (ifP_t h)
    | false => exact hb ss R X G1 σ H1 (ifP_f h) g1.ink (s.go g1) Q (fun v d G2 H2 g2 d2 h3 => q v d G2 H2 (g1.trans g2) d2 h3) (kx_go z g1)) z
theorem re_not (ha : RE c x w ta a) : RE c x w (tNotV ta) (nvW a) := fun ss R X G σ H m e s Q q z =>
  ha ss _ X G σ H m e s _ (fun v d G1 H1 g1 d1 m1 => by
    obtain ⟨k, rfl, h⟩ := of_boolD m1
    exact ⟨k, d1, q (.bl (!k)) (.bl (!k)) G1 H1 g1 rfl h⟩) z
theorem re_if (ht : RT c x w tt t) (ha : RE c x w ta a) (hb : RE c x w tb b) : RE c x w (tIf tt ta tb) (ifW t a b) := fun ss R X G σ H m e s Q q z =>
  ht ss _ X G σ H m e s _ (fun k G1 H1 g1 m1 => by
    cases k with
    | true => exact ha ss R X G1 σ H1 (ifP_t m1) g1.ink (s.go g1) Q (fun v d G2 H2 g2 d2 h3 => q v d G2 H2 (g1.trans g2) d2 h3) (kx_go z g1)
    | false => exact hb ss R X G1 σ H1 (ifP_f m1) g1.ink (s.go g1) Q (fun v d G2 H2 g2 d2 h3 => q v d G2 H2 (g1.trans g2) d2 h3) (kx_go z g1)) z
theorem re_chain {r r' : R2} {o o' : D2} (hr : RO2 c r o) (hr' : RO2 c r' o') (ha : RE c x w ta a) (hb : RE c x w tb b) (hd : RE c x w tc d) : RE c x w (tChain r r' ta tb tc) (chainW o o' a b d) := fun ss R X G σ H m e s Q q z =>
  ha ss _ X G σ H m e s _ (fun v d1 G1 H1 g1 e1 m1 => hb ss _ X G1 σ H1 m1 g1.ink (s.go g1) _ (fun u d2 G2 H2 g2 e2 m2 =>
    hr d1 d2 _ m2 G2 H2 v u g2.ink (e1.up g2.kn) e2 _ fun y d3 G3 H3 g3 e3 m3 => by
      obtain ⟨k, rfl, h⟩ := of_boolD m3
      refine ⟨k, e3, ?_⟩
      have g13 := g1.trans (g2.trans g3)
      cases k with
      | true => exact hd ss _ X G3 σ H3 (ifP_t h) g3.ink (s.go g13) _ (fun y d4 G4 H4 g4 e4 m4 => hr' d2 d4 R m4 G4 H4 u y g4.ink ((e2.up g3.kn).up g4.kn) e4 Q fun z y G5 H5 g5 e5 hr => q z y G5 H5 (g13.trans (g4.trans g5)) e5 hr) (kx_go z g13)
      | false => exact q (.bl false) (.bl false) G3 H3 g13 rfl (ifP_f h)) (kx_go z g1)) z
theorem rp_no : RP c x w tNoPart noW := fun ss R X G σ H m e s Q q z => q none G H (Go.refl e) m
theorem rp_so (ha : RE c x w ta a) : RP c x w (tPart ta) (soW a) := fun ss R X G σ H m e s Q q z =>
  ha ss _ X G σ H m e s _ (fun v d G1 H1 g1 d1 m1 => by
    obtain ⟨k, rfl, h⟩ := of_intD m1
    exact ⟨k, d1, q (some k) G1 H1 g1 h⟩) z
theorem re_sl {r : V → Option Int → Option Int → Hp → VK → Prop} {o : DSl} {tl th : TO} {lo hi : OM} (hr : ROS c r o) (ha : RE c x w ta a) (hl : RP c x w tl lo) (hh : RP c x w th hi) : RE c x w (tSl r ta tl th) (slW o a lo hi) := fun ss R X G σ H m e s Q q z =>
  ha ss _ X G σ H m e s _ (fun v d G1 H1 g1 d1 m1 => hl ss _ X G1 σ H1 m1 g1.ink (s.go g1) _ (fun i G2 H2 g2 m2 => hh ss _ X G2 σ H2 m2 g2.ink (s.go (g1.trans g2)) _ (fun j G3 H3 g3 m3 =>
    hr d i j R m3 G3 H3 v g3.ink ((d1.up g2.kn).up g3.kn) Q fun z y G4 H4 g4 d4 hr => q z y G4 H4 (g1.trans (g2.trans (g3.trans g4))) d4 hr) (kx_go z (g1.trans g2))) (kx_go z g1)) z
theorem tyD_ok {T : String} {d : Dt} {v : V} (h : tyD d = T) (hT : T ≠ "") (e : Ex G H) (hd : Dat c G d v) : tyV c.K T v H := by
  subst h
  cases d with
  | str z => cases hd; rfl
  | int z => cases hd; rfl
  | lst l => obtain ⟨a, xs, rfl, h1, h2⟩ := hd; exact .inl ⟨rfl, xs, .inl (.inl (e _ _ h1))⟩
  | sq l => obtain ⟨a, xs, rfl, h1, h2⟩ := hd; exact .inl ⟨rfl, xs, e.seq h1⟩
  | _ => exact absurd rfl hT
theorem re_bm {T : String} {r : V → List V → Hp → VK → Prop} {o : DM} (hT : T ≠ "") (hr : ROM c T r o) (ha : RE c x w ta a) (hs : RA c x w tas as) : RE c x w (tBM c.K T r ta tas) (bmW T o a as) := fun ss R X G σ H m e s Q q z =>
  ha ss _ X G σ H m e s _ (fun v d G1 H1 g1 d1 m1 => ⟨tyD_ok m1.1 hT g1.ink d1, hs ss _ X G1 σ H1 m1.2 g1.ink (s.go g1) _ (fun vs l G2 H2 g2 d2 m2 =>
    hr d l R m2 G2 H2 v vs g2.ink (d1.up g2.kn) d2 Q fun z y G4 H4 g4 d4 hr => q z y G4 H4 (g1.trans (g2.trans g4)) d4 hr) (kx_go z g1)⟩) z
theorem re_bm0 {T : String} {r : V → List V → Hp → VK → Prop} {o : DM} (hT : T ≠ "") (hr : ROM c T r o) (ha : RE c x w ta a) : RE c x w (tBM0 c.K T r ta) (bmW T o a nilW) := fun ss R X G σ H m e s Q q z =>
  ha ss _ X G σ H m e s _ (fun v d G1 H1 g1 d1 m1 => ⟨tyD_ok m1.1 hT g1.ink d1, hr d [] R m1.2 G1 H1 v [] g1.ink d1 rfl Q fun z y G4 H4 g4 d4 hr => q z y G4 H4 (g1.trans g4) d4 hr⟩) z
theorem of_itemsD {d : Dt} {R : List Dt → Prop} (h : itemsD d R) : ∃ l, (d = .lst l ∨ d = .tup l) ∧ R l := by
  cases d with
  | lst l => exact ⟨l, .inl rfl, h⟩
  | tup l => exact ⟨l, .inr rfl, h⟩
  | _ => exact h.elim
theorem ra_star (ha : RE c x w ta a) (hs : RA c x w tas as) : RA c x w (StX.tStar c.K ta tas) (starW a as) := fun ss R X G σ H m e s Q q z =>
  ha ss _ X G σ H m e s _ (fun v d G1 H1 g1 d1 m1 => by
    obtain ⟨l, h, m2⟩ := of_itemsD m1
    have fin : ∀ xs, Dats c G1 l xs → tas σ H1 fun ys H2 => Q (xs ++ ys) H2 := fun xs hd => hs ss _ X G1 σ H1 m2 g1.ink (s.go g1) _ (fun ys m G2 H2 g2 d2 hr => q _ _ G2 H2 (g1.trans g2) ((hd.up g2.kn).app d2) hr) (kx_go z g1)
    rcases h with rfl | rfl
    · obtain ⟨a, xs, rfl, hs, hd⟩ := d1
      exact ⟨a, xs, rfl, .inr (.inl (.inl (g1.ink _ _ hs))), fin xs hd⟩
    · obtain ⟨a, xs, rfl, hs, hd⟩ := d1
      exact ⟨a, xs, rfl, .inl (Ex.tup g1.ink hs), fin xs hd⟩) z
theorem re_nox (ha : RE c x none ta a) : RE c x w ta (noxW a) := fun ss R X G σ H m e s Q q z => ha ss R xF G σ H m e s Q q fun _ _ _ _ _ _ _ hc => hc.elim
theorem rt_nox (ha : RT c x none tt t) : RT c x w tt (noxT t) := fun ss R X G σ H m e s Q q z => ha ss R xF G σ H m e s Q q fun _ _ _ _ _ _ _ hc => hc.elim
end
end Mw

set_option Elab.async false
set_option linter.all false
set_option maxRecDepth 100000
set_option maxHeartbeats 4000000
namespace Mw
open PySem PySem.Spec PyProof.Rows L2
section
variable {c : Kc} {x : Mx} {w : Option WX} {X : Xn} {G H : Hp}
/-! ### what is walked -/
theorem wd_list {a : Addr} {l : List Dt} {xs : List V} (hs : SqL c.K G a xs) (d : Dats c G l xs) : WalkD c (Itl c.K a) l G := by
  have w := walk_list (K := c.K) (a := a) (xs := xs)
  rw [d.len] at w
  refine w.mono (fun H e => e.seq hs) fun i H x H' hi e y G2 e2 e3 => ?_
  obtain ⟨rfl, y⟩ := y
  obtain ⟨dd, h1, h2⟩ := d.getV y
  exact ⟨dd, G2, h1, Go.refl e3, h2.up e2⟩
theorem wd_tup {a : Addr} {l : List Dt} {xs : List V} (hs : SqT c.K G a xs) (d : Dats c G l xs) : WalkD c (Itt c.K a) l G := by
  have w := walk_tup (K := c.K) (a := a) (xs := xs)
  rw [d.len] at w
  refine w.mono (fun H e => Ex.tup e hs) fun i H x H' hi e y G2 e2 e3 => ?_
  obtain ⟨rfl, y⟩ := y
  obtain ⟨dd, h1, h2⟩ := d.getV y
  exact ⟨dd, G2, h1, Go.refl e3, h2.up e2⟩
theorem wd_range {lo : Int} {n : Nat} : WalkD c (Itr lo n) (rangeD lo n) G := by
  have w := walk_range (lo := lo) (n := n)
  have e : (rangeD lo n).length = n := by simp [rangeD]
  unfold WalkD
  rw [e]
  refine w.mono (fun H e => True.intro) fun i H x H' hi e y G2 e2 e3 => ?_
  obtain ⟨rfl, rfl⟩ := y
  exact ⟨.int (lo + (i : Int)), G2, by simp [rangeD, hi], Go.refl e3, rfl⟩
theorem wd_str {z : Str} : WalkD c (Its z) (signsD z) G := by
  have w := walk_str (z := z)
  have e : (signsD z).length = z.cps.size := by simp [signsD]
  unfold WalkD
  rw [e]
  refine w.mono (fun H e => True.intro) fun i H x H' hi e y G2 e2 e3 => ?_
  obtain ⟨rfl, k, h1, rfl⟩ := y
  have h2 : z.cps.toList[i]? = some k := by simpa using h1
  exact ⟨.str ⟨#[k]⟩, G2, by simp [signsD, h2], Go.refl e3, rfl⟩
variable {ta te : TE} {a e : EM} {tas : TA} {as : AM}
theorem ri_list (ha : RE c x w ta a) : RI c x w (iList c.K ta) (itW iLstD a) := fun ss R X G σ H m e s Q q z =>
  ha ss _ X G σ H m e s _ (fun v d G1 H1 g1 d1 m1 => by
    cases d with
    | lst l =>
      obtain ⟨a, xs, rfl, hs, hd⟩ := d1
      exact ⟨a, rfl, ⟨xs, .inl (.inl (g1.ink _ _ hs))⟩, q _ l G1 H1 g1 (wd_list (.inl (.inl hs)) hd) m1⟩
    | sq l =>
      obtain ⟨a, xs, rfl, hs, hd⟩ := d1
      exact ⟨a, rfl, ⟨xs, g1.ink.seq hs⟩, q _ l G1 H1 g1 (wd_list hs hd) m1⟩
    | _ => exact m1.elim) z
theorem ri_tup (ha : RE c x w ta a) : RI c x w (iTup c.K ta) (itW iTupD a) := fun ss R X G σ H m e s Q q z =>
  ha ss _ X G σ H m e s _ (fun v d G1 H1 g1 d1 m1 => by
    cases d with
    | tup l =>
      obtain ⟨a, xs, rfl, hs, hd⟩ := d1
      exact ⟨a, rfl, ⟨xs, Ex.tup g1.ink hs⟩, q _ l G1 H1 g1 (wd_tup hs hd) m1⟩
    | _ => exact m1.elim) z
theorem ri_str (ha : RE c x w ta a) : RI c x w (iStr ta) (itW iStrD a) := fun ss R X G σ H m e s Q q z =>
  ha ss _ X G σ H m e s _ (fun v d G1 H1 g1 d1 m1 => by
    cases d with
    | str l =>
      cases d1
      exact ⟨l, rfl, q _ _ G1 H1 g1 wd_str m1⟩
    | _ => exact m1.elim) z
theorem ri_rng1 (ha : RA c x w tas as) : RI c x w (iRng1 tas) (itAW rng1D as) := fun ss R X G σ H m e s Q q z =>
  ha ss _ X G σ H m e s _ (fun vs l G1 H1 g1 d1 m1 => by
    match l, m1 with
    | [.int j], ⟨h3, h4⟩ =>
      obtain ⟨y, r, rfl, hx, hr⟩ := d1
      cases hx; cases hr
      exact ⟨j, rfl, h3.1, h3.2, q _ _ G1 H1 g1 wd_range h4⟩) z
theorem ri_rng2 (ha : RA c x w tas as) : RI c x w (iRng2 tas) (itAW rng2D as) := fun ss R X G σ H m e s Q q z =>
  ha ss _ X G σ H m e s _ (fun vs l G1 H1 g1 d1 m1 => by
    match l, m1 with
    | [.int i, .int j], ⟨h3, h4⟩ =>
      obtain ⟨y, r, rfl, hx, y2, r2, rfl, hx2, hr⟩ := d1
      cases hx; cases hx2; cases hr
      exact ⟨i, j, rfl, h3, q _ _ G1 H1 g1 wd_range h4⟩) z
/-! ### targets -/
theorem wipe_set {σ : L2.St} {i : Nat} {o : Option V} : ∀ {vs : List Nat}, i ∈ vs → wipe (σ.set i o) vs = wipe σ vs := by
  intro vs h
  apply List.ext_getElem?
  intro j
  have key : ∀ (τ : L2.St) (vs : List Nat) (j : Nat), (wipe τ vs)[j]? = if j ∈ vs then (τ[j]?).map fun _ => none else τ[j]? := by
    intro τ vs
    induction vs with
    | nil => intro j; simp [wipe]
    | cons v vs ih =>
      intro j
      unfold wipe
      by_cases e : v = j
      · subst e
        rw [List.getElem?_set_self']
        rw [ih]
        by_cases h2 : v ∈ vs
        · rw [if_pos h2, if_pos (List.mem_cons_self)]; cases τ[v]? <;> rfl
        · rw [if_neg h2, if_pos (List.mem_cons_self)]; cases τ[v]? <;> rfl
      · rw [List.getElem?_set_ne e, ih]
        by_cases h2 : j ∈ vs
        · rw [if_pos h2, if_pos (List.mem_cons_of_mem _ h2)]
        · rw [if_neg h2, if_neg (by simp [h2]; exact fun z => e z.symm)]
  rw [key, key]
  by_cases e : i = j
  · subst e
    rw [if_pos h, if_pos h, List.getElem?_set_self']
    cases σ[i]? <;> rfl
  · rw [List.getElem?_set_ne e]
theorem wipe_wipe {σ : L2.St} : ∀ {vs ws : List Nat}, (∀ i ∈ ws, i ∈ vs) → wipe (wipe σ ws) vs = wipe σ vs
  | vs, [], _ => rfl
  | vs, v :: ws, h => by
    show wipe ((wipe σ ws).set v none) vs = _
    rw [wipe_set (h v List.mem_cons_self), wipe_wipe fun i hi => h i (List.mem_cons_of_mem _ hi)]
theorem Sv.wipe {σ : L2.St} {ss : SS} (h : Sv c x G H σ ss) : ∀ vs : List Nat, Sv c x G H (L2.wipe σ vs) (wipeS ss vs)
  | [] => h
  | v :: vs => (Sv.wipe h vs).forget
theorem rg_name {vs : List Nat} {i : Nat} (hi : i ∈ vs) : RG c x vs (gName i) (gN i) := fun d ss R m G H σ v e s hd Q q => q _ _ (s.set hd) (wipe_set hi) m
theorem rgs_nil {vs : List Nat} : RGs c x vs gNil gNilW := fun ds ss R m G H σ us e s hd Q q => by
  obtain ⟨rfl, m⟩ := m
  exact ⟨hd, q σ ss s rfl m⟩
theorem rgs_cons {vs : List Nat} {g : TG} {gs : TGs} {m : GM} {ms : GsM} (hg : RG c x vs g m) (hs : RGs c x vs gs ms) : RGs c x vs (gCons g gs) (gConsW m ms) := fun ds ss R mm G H σ us e s hd Q q => by
  match ds, mm with
  | d :: r, mm =>
    obtain ⟨v, us', rfl, d1, d2⟩ := hd
    exact ⟨v, us', rfl, hg d ss _ mm G H σ v e s d1 _ fun σ1 s1 sv1 w1 m1 => hs r s1 R m1 G H σ1 us' e sv1 d2 Q fun σ2 s2 sv2 w2 m2 => q σ2 s2 sv2 (w2.trans w1) m2⟩
theorem gs_len {c : Kc} {x : Mx} {gs : TGs} {ms : GsM} {n : Nat} (h : ∀ ds ss R, ms ds ss R → ds.length = n) {ds : List Dt} {xs : List V} {ss : SS} {R : SS → Prop} (m : ms ds ss R) (d : Dats c G ds xs) : xs.length = n := by rw [d.len]; exact h ds ss R m
theorem nil_len : ∀ ds ss R, gNilW ds ss R → ds.length = 0 := fun ds ss R h => by rw [h.1]; rfl
/-- it asks for just n -/
def GsLen (ms : GsM) (n : Nat) : Prop := ∀ ds ss R, ms ds ss R → ds.length = n ∨ ∀ ss', ¬ R ss'
theorem rg_tup {vs : List Nat} {gs : TGs} {ms : GsM} {n : Nat} (hs : RGs c x vs gs ms) : RG c x vs (gTup c.K n gs) (fun d ss R => iTupD d fun l => l.length = n ∧ ms l ss R) := fun d ss R mm G H σ v e s hd Q q => by
  cases d with
  | tup l =>
    obtain ⟨a, xs, rfl, h1, h2⟩ := hd
    exact ⟨a, xs, rfl, Ex.tup e h1, by rw [h2.len]; exact mm.1, hs l ss R mm.2 G H σ xs e s h2 Q q⟩
  | _ => exact mm.elim
theorem rl_name {i : Nat} : RL c x (gName i) (gN i) := fun d ss R m H0 G H σ v e s hd Q q => q _ _ (s.set hd) m
theorem rls_nil : RLs c x gNil gNilW := fun ds ss R m H0 G H σ us e s hd Q q => by
  obtain ⟨rfl, m⟩ := m
  exact ⟨hd, q σ ss s m⟩
theorem rls_cons {g : TG} {gs : TGs} {m : GM} {ms : GsM} (hg : RL c x g m) (hs : RLs c x gs ms) : RLs c x (gCons g gs) (gConsW m ms) := fun ds ss R mm H0 G H σ us e s hd Q q => by
  match ds, mm with
  | d :: r, mm =>
    obtain ⟨v, us', rfl, d1, d2⟩ := hd
    exact ⟨v, us', rfl, hg d ss _ mm H0 G H σ v e s d1 _ fun σ1 s1 sv1 m1 => hs r s1 R m1 H0 G H σ1 us' e sv1 d2 Q q⟩
theorem rl_tup {gs : TGs} {ms : GsM} {n : Nat} (hs : RLs c x gs ms) : RL c x (gTup c.K n gs) (fun d ss R => iTupD d fun l => l.length = n ∧ ms l ss R) := fun d ss R mm H0 G H σ v e s hd Q q => by
  cases d with
  | tup l =>
    obtain ⟨a, xs, rfl, h1, h2⟩ := hd
    exact ⟨a, xs, rfl, Ex.tup e h1, by rw [h2.len]; exact mm.1, hs l ss R mm.2 H0 G H σ xs e s h2 Q q⟩
  | _ => exact mm.elim
theorem rl_unl {gs : TGs} {ms : GsM} {n : Nat} (hs : RLs c x gs ms) : RL c x (gUnl c.K n gs) (fun d ss R => iLstD d fun l => l.length = n ∧ ms l ss R) := fun d ss R mm H0 G H σ v e s hd Q q => by
  cases d with
  | lst l =>
    obtain ⟨a, xs, rfl, h1, h2⟩ := hd
    exact ⟨a, xs, rfl, .inl (.inl (e _ _ h1)), by rw [h2.len]; exact mm.1, hs l ss R mm.2 H0 G H σ xs e s h2 Q q⟩
  | sq l =>
    obtain ⟨a, xs, rfl, h1, h2⟩ := hd
    exact ⟨a, xs, rfl, e.seq h1, by rw [h2.len]; exact mm.1, hs l ss R mm.2 H0 G H σ xs e s h2 Q q⟩
  | _ => exact mm.elim
/-! ### comprehensions -/
theorem drop_at {l : List Dt} {i : Nat} {d : Dt} (h : l[i]? = some d) : l.drop i = d :: l.drop (i + 1) := by
  obtain ⟨hi, rfl⟩ := List.getElem?_eq_some_iff.mp h
  exact List.drop_eq_getElem_cons hi
theorem re_lc {wi : TI} {it : AM} {g : TG} {gm : GM} {tt : TT} {t : TM} {vs : List Nat} (hi : RI c x w wi it) (hg : RG c x vs g gm) (ht : RT c x none tt t) (he : RE c x none te e) : RE c x w (tLc wi g tt te vs) (lcW it vs gm t e) := fun ss R X G σ H m ex s Q q z =>
  hi ss _ X G σ H m ex s _ (fun J l G1 H1 g1 wk ⟨hl, m1⟩ => by
    have s1 := s.go g1
    intro D nD
    have nG : G1 D = none := g1.ink.free nD
    refine lc_it wk (fun i H' => ∃ (G' : Hp) (acc : List Dt) (xs : List V), Go G1 H1 G' H' ∧ G' D = none ∧ H' D = some (.lst xs) ∧ Dats c G' acc xs ∧ acc.length ≤ i ∧ lcL (wipeS ss vs) gm t e (l.drop i) acc fun acc => R (.lst acc)) ?_ ?_ ?_ ?_
    · exact ⟨G1, [], [], Go.put g1.ink nD, nG, upd_same, rfl, Nat.le_refl _, m1⟩
    · rintro i H' _ ⟨G', acc, xs, g2, _⟩
      exact g2.kn.trans g2.ink
    · rintro i v H2 H3 hi ⟨G2, acc, xs, g2, n2, e2, d2, l2, m2⟩ y
      obtain ⟨d, G3, hd3, g3, dx⟩ := y G2 g2.kn g2.ink
      have e3 : H3 D = some (.lst xs) := g3.up D _ e2
      have n3 : G3 D = none := g3.nw D n2 (ne_some e2)
      rw [drop_at hd3] at m2
      have s3 : Sv c x G3 H3 (wipe σ vs) (wipeS ss vs) := ((s1.go g2).go g3).wipe vs
      refine hg d _ _ m2 G3 H3 _ v g3.ink s3 dx _ fun σ4 s4 sv4 w4 m4 => ⟨by rw [w4]; exact wipe_wipe fun _ h => h, ?_⟩
      refine ht s4 _ xF G3 σ4 H3 m4 g3.ink sv4 _ (fun b G5 H5 g5 m5 => ?_) fun _ _ _ _ _ _ _ hc => hc.elim
      have e5 : H5 D = some (.lst xs) := g5.up D _ e3
      have n5 : G5 D = none := g5.nw D n3 (ne_some e3)
      cases b with
      | false => exact ⟨G5, acc, xs, (g2.trans g3).trans g5, n5, e5, (d2.up g3.kn).up g5.kn, by omega, ifP_f m5⟩
      | true =>
        refine he s4 _ xF G5 σ4 H5 (ifP_t m5) g5.ink (sv4.go g5) _ (fun y dy G6 H6 g6 d6 m6 => ?_) fun _ _ _ _ _ _ _ hc => hc.elim
        have e6 : H6 D = some (.lst xs) := g6.up D _ e5
        have n6 : G6 D = none := g6.nw D n5 (ne_some e5)
        have d7 : Dats c G6 (acc ++ [dy]) (xs ++ [y]) := Dats.snoc (((d2.up g3.kn).up g5.kn).up g6.kn) d6
        have g7 := ((g2.trans g3).trans g5).trans g6
        refine ⟨xs, e6, ?_, G6, acc ++ [dy], xs ++ [y], ⟨g7.kn, g7.nw, fun a u z => ?_, fun a u z => ?_⟩, n6, upd_same, d7, by simp; omega, m6⟩
        · rw [d2.len]; exact sz_lt (by omega)
        · rw [upd_ne (ne_of_none z n6)]; exact g7.ink a u z
        · rw [upd_ne (ne_of_none z nD)]; exact g7.up a u z
    · rintro H2 ⟨G2, acc, xs, g2, n2, e2, d2, l2, m2⟩
      rw [List.drop_length] at m2
      refine q (.ref D) (.lst acc) (upd G2 D (.lst xs)) H2 (g1.trans ⟨g2.kn.trans (Ex.new n2), fun a h1 h2 => ?_, fun a u z => ?_, g2.up⟩) (dat_newL d2 n2) m2
      · rw [upd_ne (fun c => h2 (by rw [c]; exact nD))]; exact g2.nw a h1 h2
      · by_cases c : a = D
        · subst c; rw [upd_same] at z; rw [e2]; exact z
        · rw [upd_ne c] at z; exact g2.ink a u z) z
/-! ### statements -/
variable {ts tu : TS} {sm su : SM} {tt : TT} {t : TM}
theorem rs_next : RS c x w tNext passW := fun ss k G0 H0 D σ G H m K g s => K.nx σ ss G H g s m
theorem rs_seq (ha : RS c x w ts sm) (hb : RS c x w tu su) : RS c x w (tSeq ts tu) (seqW sm su) := fun ss k G0 H0 D σ G H m K g s =>
  ha ss _ G0 H0 { D with nx := tu D } σ G H m ⟨fun σ' s' G' H' g' l' m' => hb s' k G0 H0 D σ' G' H' m' K g' l', K.bk, K.ct, K.rt, K.ex⟩ g s
theorem kx_of {k : Oc → Prop} {G0 H0 : Hp} {D : Ends} {σ : L2.St} {ss : SS} (K : Kon c x w k G0 H0 D) (g : Go G0 H0 G H) (s : Sl c x H0 G H σ ss) : KX c w (fun C l => k (.ex ss C l)) σ G H := fun C l od G' H' g' xd hk => K.ex σ ss C l od G' H' (g.trans g') (s.go g') xd hk
theorem rs_ret (ha : RE c x w ta a) : RS c x w (tRet ta) (retW a) := fun ss k G0 H0 D σ G H m K g s =>
  ha ss _ _ G σ H m g.ink s.sv _ (fun v d G1 H1 g1 d1 m1 => K.rt v d G1 H1 (g.trans g1) d1 m1) (kx_of K g s)
theorem rs_ret0 : RS c x w tRetN ret0W := fun ss k G0 H0 D σ G H m K g s => K.rt .non .non G H g rfl m
theorem rs_expr (ha : RE c x w ta a) : RS c x w (tDrop ta) (exprW a) := fun ss k G0 H0 D σ G H m K g s =>
  ha ss _ _ G σ H m g.ink s.sv _ (fun v d G1 H1 g1 d1 m1 => K.nx σ ss G1 H1 (g.trans g1) (s.go g1) m1) (kx_of K g s)
theorem rs_if (ht : RT c x w tt t) (ha : RS c x w ts sm) (hb : RS c x w tu su) : RS c x w (tIfS tt ts tu) (ifSW t sm su) := fun ss k G0 H0 D σ G H m K g s =>
  ht ss _ _ G σ H m g.ink s.sv _ (fun b G1 H1 g1 m1 => by
    cases b with
    | true => exact ha ss k G0 H0 D σ G1 H1 (ifP_t m1) K (g.trans g1) (s.go g1)
    | false => exact hb ss k G0 H0 D σ G1 H1 (ifP_f m1) K (g.trans g1) (s.go g1)) (kx_of K g s)
theorem rs_asg {g : TG} {gm : GM} (ha : RE c x w ta a) (hg : RL c x g gm) : RS c x w (tAsg ta g) (asgW a gm) := fun ss k G0 H0 D σ G H m K g s =>
  ha ss _ _ G σ H m g.ink s.sv _ (fun v d G1 H1 g1 d1 m1 => hg d ss _ m1 H0 G1 H1 σ v g1.ink (s.go g1) d1 _ fun σ' s' l' m' => K.nx σ' s' G1 H1 (g.trans g1) l' m') (kx_of K g s)
theorem rs_brk : RS c x w tBreak brkW := fun ss k G0 H0 D σ G H m K g s => K.bk σ ss G H g s m
theorem rs_cnt : RS c x w tCont cntW := fun ss k G0 H0 D σ G H m K g s => K.ct σ ss G H g s m
theorem rs_never : RS c x w tNever neverW := fun ss k G0 H0 D σ G H m K g s => m.elim
theorem rs_nox (ha : RS c x none ts sm) : RS c x w ts (fun ss k => sm ss fun o => match o with | .ex _ _ _ => False | .nx s => k (.nx s) | .bk s => k (.bk s) | .ct s => k (.ct s) | .rt d => k (.rt d)) := fun ss k G0 H0 D σ G H m K g s =>
  ha ss _ G0 H0 D σ G H m ⟨K.nx, K.bk, K.ct, K.rt, fun _ _ _ _ _ _ _ _ _ _ h => h.elim⟩ g s
theorem go_back {G0 H0 G1 H1 : Hp} (gg : Go G0 H0 G1 H1) {G' H' : Hp} (z : Go G1 H0 G' H') : Go G0 H0 G' H' := ⟨gg.kn.trans z.kn, fun a h1 h2 => z.nw a (gg.nw a h1 h2) h2, z.ink, z.up⟩
theorem rs_for {wi : TI} {it : AM} {g : TG} {gm : GM} (hi : RI c x w wi it) (hg : RL c x g gm) (hb : RS c x w ts sm) : RS c x w (tFor wi g ts) (forW it gm sm) := fun ss k G0 H0 D σ G H m K g s =>
  hi ss _ _ G σ H m g.ink s.sv _ (fun J l G1 H1 g1 wk m1 => by
    have gg : Go G0 H0 G1 H1 := g.trans g1
    refine for_it wk (fun i σ' H' => ∃ G' s', Go G1 H0 G' H' ∧ Sl c x H0 G' H' σ' s' ∧ forL gm sm (l.drop i) s' k) ⟨G1, ss, ⟨Same.refl _, fun _ h _ => h, gg.ink, gg.up⟩, s.go g1, m1⟩ ?_ ?_ ?_
    · rintro i σ' H' _ ⟨G', s', g2, _⟩
      exact g2.kn.trans g2.ink
    · rintro i v σ' H' H2 hi ⟨G', s', g2, l2, m2⟩ y
      obtain ⟨d, G3, hd3, g3, dx⟩ := y G' g2.kn g2.ink
      rw [drop_at hd3] at m2
      refine hg d s' _ m2 H0 G3 H2 σ' v g3.ink (l2.go g3) dx _ fun σ4 s4 l4 m4 => ?_
      refine hb s4 _ G1 H0 { D with nx := _, ct := _, bk := D.nx } σ4 G3 H2 m4 ⟨?_, ?_, ?_, ?_, ?_⟩ (g2.trans g3) l4
      · exact fun σ5 s5 G5 H5 g5 l5 m5 => ⟨G5, s5, g5, l5, m5⟩
      · exact fun σ5 s5 G5 H5 g5 l5 m5 => K.nx σ5 s5 G5 H5 (go_back gg g5) l5 m5
      · exact fun σ5 s5 G5 H5 g5 l5 m5 => ⟨G5, s5, g5, l5, m5⟩
      · exact fun v d G5 H5 g5 d5 m5 => K.rt v d G5 H5 (go_back gg g5) d5 m5
      · exact fun σ5 s5 C l od G5 H5 g5 l5 xd m5 => K.ex σ5 s5 C l od G5 H5 (go_back gg g5) l5 xd m5
    · rintro σ' H' ⟨G', s', g2, l2, m2⟩
      rw [List.drop_length] at m2
      exact K.nx σ' s' G' H' (go_back gg g2) l2 m2) (kx_of K g s)
theorem rs_while (ht : RT c x w tt t) (hb : RS c x w ts sm) : RS c x w (tWhile tt ts) (whW t sm) := fun ss k G0 H0 D σ G H m K g s => by
  obtain ⟨n, m⟩ := m
  refine ⟨fun n σ' H' => ∃ G' s', Go G0 H0 G' H' ∧ Sl c x H0 G' H' σ' s' ∧ whL t sm n s' k, ⟨n, G, ss, g, s, m⟩, ?_⟩
  rintro n σ' H' ⟨G', s', g2, l2, m2⟩
  cases n with
  | zero => exact m2.elim
  | succ n =>
    refine ht s' _ _ G' σ' H' m2 g2.ink l2.sv _ (fun b G1 H1 g1 m1 => ?_) (kx_of K g2 l2)
    cases b with
    | false => exact K.nx σ' s' G1 H1 (g2.trans g1) (l2.go g1) (ifP_f m1)
    | true =>
      have m1 := ifP_t m1
      refine ⟨fun σ5 H5 => ∃ G5 s5, Go G0 H0 G5 H5 ∧ Sl c x H0 G5 H5 σ5 s5 ∧ whL t sm n s5 k, fun σ5 H5 z => ⟨n, Nat.lt_succ_self n, z⟩, ?_⟩
      refine hb s' _ G0 H0 { D with nx := _, ct := _, bk := D.nx } σ' G1 H1 m1 ⟨?_, ?_, ?_, ?_, ?_⟩ (g2.trans g1) (l2.go g1)
      · exact fun σ5 s5 G5 H5 g5 l5 m5 => ⟨G5, s5, g5, l5, m5⟩
      · exact fun σ5 s5 G5 H5 g5 l5 m5 => K.nx σ5 s5 G5 H5 g5 l5 m5
      · exact fun σ5 s5 G5 H5 g5 l5 m5 => ⟨G5, s5, g5, l5, m5⟩
      · exact K.rt
      · exact K.ex
/-- a, b = x, y -/
def parW (i j : Nat) (as : AM) : SM := fun ss k => as ss (fun l => match l with | [d, e] => k (.nx ((ss.set i (.dt d)).set j (.dt e))) | _ => False) fun C l => k (.ex ss C l)
theorem rs_par {i j : Nat} (ha : RA c x w tas as) : RS c x w (tPar i j tas) (parW i j as) := fun ss k G0 H0 D σ G H m K g s =>
  ha ss _ _ G σ H m g.ink s.sv _ (fun vs l G1 H1 g1 d1 m1 => by
    match l, m1 with
    | [d, e], m1 =>
      obtain ⟨v, r1, rfl, e1, u, r2, rfl, e2, e3⟩ := d1
      cases e3
      exact ⟨v, u, rfl, K.nx _ _ G1 H1 (g.trans g1) (((s.go g1).set e1).set e2) m1⟩) (kx_of K g s)
end
end Mw

set_option Elab.async false
set_option linter.all false
set_option maxRecDepth 100000
set_option maxHeartbeats 4000000
namespace Mw
open PySem PySem.Spec PyProof.Rows L2
/-! ### defs -/
def spX (c : Kc) (Pre : PreX) : Sp := fun vs H Q E => ∃ (G : Hp) (ds : List Dt) (R : Dt → Prop) (X : Xn), Ex G H ∧ Dats c G ds vs ∧ Pre ds R X ∧
  (∀ v d G' H', Go G H G' H' → Dat c G' d v → R d → Q v H') ∧ ∀ C l od G' H', Go G H G' H' → XD c G' od l → X C l → E (.ref (c.ca C)) od H'
/-- where nothing is raised -/
def spN (c : Kc) (Pre : PreX) : Sp := fun vs H Q _ => ∃ (G : Hp) (ds : List Dt) (R : Dt → Prop), Ex G H ∧ Dats c G ds vs ∧ Pre ds R xF ∧ ∀ v d G' H', Go G H G' H' → Dat c G' d v → R d → Q v H'
def calmP (Pre : PreX) : PreX := fun ds R _ => Pre ds R xF
/-- a def's object, and its name -/
def Df (K : PySem.W.Frag) (mg : Str → Option Value) (x : Str) (st : Stmt) (ps : List Str) : Prop :=
  ∃ f fd, Fun K x x st f fd ∧ Binds K fd ps [] ∧ mg x = some (.ref f)
def Dm (K : PySem.W.Frag) (x qual : Str) (st : Stmt) (ps : List Str) (f : Addr) : Prop := ∃ fd, Fun K x qual st f fd ∧ Binds K fd ps []
abbrev Gmx (P : Program) (c : Kc) (mg : Str → Option Value) (base : Heap) (k : Nat) (f : Addr) (Pre : PreX) : Prop := FnR P c.w c.K mg base (L2.CX P c.w) k f (spX c Pre)
def Gfx (P : Program) (c : Kc) (mg : Str → Option Value) (base : Heap) (x : Str) (k : Nat) (Pre : PreX) : Prop :=
  ∃ f, Gmx P c mg base k f Pre ∧ mg x = some (.ref f) ∧ PySem.W.keepIn c.K (.ref f) = true
/-- a def that keeps the promise wherever no repr is under way, and raises nothing -/
structure FnG (P : Program) (w : World) (K : PySem.W.Frag) (mg : Str → Option Value) (base : Heap) (k : Nat) (f : Addr) (fd : FuncData) (ps : List Str) (sp : Sp) : Prop where
  len : ∀ vs H Q E, sp vs H Q E → vs.length = ps.length
  run : ∀ (A : Around) (outer : List Env) (s : Shared) (H : Hp) (args : Args) (us : List Value) (vs : List V) (Q : VK) (E : XK), A.guards = some [] → Room k A → Env0 P w K mg base A outer s H → BindsTo s fd args (ps.zip us) → Vals vs us → sp vs H Q E →
    codeAny (model P w) A (.call (.ref f) args) (CR CX0 outer P w H s Q E) s
def Ggx (P : Program) (c : Kc) (mg : Str → Option Value) (base : Heap) (x : Str) (k : Nat) (ps : List Str) (Pre : PreX) : Prop :=
  ∃ f fd, FnG P c.w c.K mg base k f fd ps (spN c Pre) ∧ Binds c.K fd ps [] ∧ mg x = some (.ref f) ∧ PySem.W.keepIn c.K (.ref f) = true ∧ ∃ oc od osl, c.K.lookup f = some ⟨oc, od, .func fd, osl⟩
theorem get_start {N m : Nat} {ds : List Dt} {i : Nat} {y : Sd} (h : (startS N ds)[i]? = some y) : (∃ d, ds[i]? = some d ∧ y = .dt d) ∨ y = .no := by
  unfold startS at h
  by_cases b : i < ds.length
  · rw [List.getElem?_append_left (by simpa using b), List.getElem?_map] at h
    cases q : ds[i]? with
    | none => rw [q] at h; cases h
    | some d => rw [q] at h; cases h; exact .inl ⟨d, rfl, rfl⟩
  · rw [List.getElem?_append_right (by simpa using b), List.getElem?_replicate] at h
    split at h
    · cases h; exact .inr rfl
    · cases h
theorem sl_start {c : Kc} {x : Mx} {G H : Hp} {ds : List Dt} {vs : List V} {N : List Str} (e : Ex G H) (d : Dats c G ds vs) : Sl c x H G H (L2.start N vs) (startS N.length ds) := by
  have hl := d.len
  have no : ∀ {i : Nat} {y : Sd}, (startS N.length ds)[i]? = some y → (∃ d, ds[i]? = some d ∧ y = .dt d) ∨ y = .no := fun h => get_start (m := 0) h
  have n1 : ∀ {i : Nat} {d : Dt}, (startS N.length ds)[i]? ≠ some (.own d) := fun h => by rcases no h with ⟨_, _, z⟩ | z <;> cases z
  have n2 : ∀ {i : Nat} {C : Nat} {l : List (Str × Dt)}, (startS N.length ds)[i]? ≠ some (.slf C l) := fun h => by rcases no h with ⟨_, _, z⟩ | z <;> cases z
  have n3 : ∀ {i : Nat} {C : Nat} {l : List (Str × Dt)}, (startS N.length ds)[i]? ≠ some (.exc C l) := fun h => by rcases no h with ⟨_, _, z⟩ | z <;> cases z
  refine ⟨⟨by simp [L2.start, startS, hl], fun i y z => ?_, fun i y z => absurd z n1, fun i C l z => absurd z n2, fun i C l z => absurd z n3⟩, fun i y a z => absurd z n1, fun i j y y' a z => absurd z n1, fun i C l z => absurd z n2, fun i j C l y z => absurd z n2, fun i j C D l m z => absurd z n2⟩
  rcases no z with ⟨y', h1, h2⟩ | h2
  · cases h2
    obtain ⟨v, q1, q2⟩ := d.get h1
    refine ⟨v, ?_, q2⟩
    have b : i < vs.length := (List.getElem?_eq_some_iff.mp q1).1
    unfold L2.start
    rw [List.getElem?_append_left (by simpa using b), List.getElem?_map, q1]; rfl
  · cases h2
/-- the exception's wish in a def's body -/
abbrev wE (E : XK) : Option WX := some fun c od _ H => E c od H
section
variable {P : Program} {c : Kc} {mg : Str → Option Value} {base : Heap}
theorem frx_of {f : Addr} {fd : FuncData} {ps : List Str} {k : Nat} {sp : Sp} {CX : CXT} (F : FnOk P c.w c.K mg base CX k f fd ps sp) (b : Binds c.K fd ps []) : FnR P c.w c.K mg base CX k f sp :=
  (F.raw b .nil).imp fun vs H Q E h => by rw [List.append_nil]; exact h
theorem body_end {N : List Str} {n : Nat} {b : SM} {x : Mx} {t : TS} {E : XK} {G H : Hp} {ds : List Dt} {vs : List V} {R : Dt → Prop} {X : Xn} {Q : VK} (ht : RS c x (wE E) t b) (e : Ex G H) (d : Dats c G ds vs) (m : b (startS N.length ds) (endO R X))
    (q : ∀ v d G' H', Go G H G' H' → Dat c G' d v → R d → Q v H') (qx : ∀ C l od G' H', Go G H G' H' → XD c G' od l → X C l → E (.ref (c.ca C)) od H') : t { nx := fun _ H' => Q .non H', rt := Q } (L2.start N vs) H :=
  ht _ _ G H _ _ G H m ⟨fun σ' s' G' H' g' _ hn => q .non .non G' H' g' rfl hn, fun σ' s' G' H' g' _ hn => hn.elim, fun σ' s' G' H' g' _ hn => hn.elim, fun v d G' H' g' dd hr => q v d G' H' g' dd hr, fun σ' s' C l od G' H' g' _ xd hx => qx C l od G' H' g' xd hx⟩ (Go.refl e) (sl_start e d)
theorem body_endN {N : List Str} {b : SM} {x : Mx} {t : TS} {G H : Hp} {ds : List Dt} {vs : List V} {R : Dt → Prop} {Q : VK} (ht : RS c x none t b) (e : Ex G H) (d : Dats c G ds vs) (m : b (startS N.length ds) (endO R xF))
    (q : ∀ v d G' H', Go G H G' H' → Dat c G' d v → R d → Q v H') : t { nx := fun _ H' => Q .non H', rt := Q } (L2.start N vs) H :=
  ht _ _ G H _ _ G H m ⟨fun σ' s' G' H' g' _ hn => q .non .non G' H' g' rfl hn, fun σ' s' G' H' g' _ hn => hn.elim, fun σ' s' G' H' g' _ hn => hn.elim, fun v d G' H' g' dd hr => q v d G' H' g' dd hr, fun σ' s' C l od G' H' g' _ xd hx => hx.elim⟩ (Go.refl e) (sl_start e d)
theorem fokx_of {x qual : Str} {st : Stmt} {f : Addr} {fd : FuncData} {N ps : List Str} {k n m : Nat} {b : SM} (F : Fun c.K x qual st f fd) (S : FnScope N ps (defScope st)) (hn : n = ps.length) (hm : m = N.length)
    (hbody : ∀ (cdv : Value) (A : Around) (outer : List Env) (s : Shared) (H : Hp) (E : XK), Room k (A.deeper (envOfC qual (defScope st) s.heap.objs.size f cdv)) →
      ∃ t, PSs (cxOf (L2.CX P c.w) P c.w c.K mg base N qual (defScope st) f cdv A outer s H E) (defBody st) t ∧ RS c {} (wE E) t b) :
    FnOk P c.w c.K mg base (L2.CX P c.w) (k + 1) f fd ps (spX c (defW n m b)) := by
  subst hn hm
  refine F.okX S (fun vs H Q E h => ?_) (fun cdv A outer s H vs Q E hr h => ?_)
  · obtain ⟨G, ds, R, X, e, d, p, _⟩ := h
    rw [d.len]; exact p.1
  · obtain ⟨G, ds, R, X, e, d, p, q, qx⟩ := h
    obtain ⟨t, ht, hs⟩ := hbody cdv A outer s H E hr
    exact ⟨t, ht, body_end (n := 0) hs e d p.2 q qx⟩
theorem gfx_of {x : Str} {st : Stmt} {N ps : List Str} {k n m : Nat} {b : SM} (F : Df c.K mg x st ps) (S : FnScope N ps (defScope st)) (hn : n = ps.length) (hm : m = N.length)
    (hbody : ∀ (f : Addr) (cdv : Value) (A : Around) (outer : List Env) (s : Shared) (H : Hp) (E : XK), Room k (A.deeper (envOfC x (defScope st) s.heap.objs.size f cdv)) →
      ∃ t, PSs (cxOf (L2.CX P c.w) P c.w c.K mg base N x (defScope st) f cdv A outer s H E) (defBody st) t ∧ RS c {} (wE E) t b) :
    Gfx P c mg base x (k + 1) (defW n m b) := by
  obtain ⟨f, fd, F, b, m⟩ := F
  exact ⟨f, frx_of (fokx_of F S hn hm fun cdv A outer s H E hr => hbody f cdv A outer s H E hr) b, m, F.kp⟩
theorem gmx_of {x qual : Str} {st : Stmt} {f : Addr} {N ps : List Str} {k n m : Nat} {b : SM} (F : Dm c.K x qual st ps f) (S : FnScope N ps (defScope st)) (hn : n = ps.length) (hm : m = N.length)
    (hbody : ∀ (cdv : Value) (A : Around) (outer : List Env) (s : Shared) (H : Hp) (E : XK), Room k (A.deeper (envOfC qual (defScope st) s.heap.objs.size f cdv)) →
      ∃ t, PSs (cxOf (L2.CX P c.w) P c.w c.K mg base N qual (defScope st) f cdv A outer s H E) (defBody st) t ∧ RS c {} (wE E) t b) :
    Gmx P c mg base (k + 1) f (defW n m b) := by
  obtain ⟨fd, F, b⟩ := F
  exact frx_of (fokx_of F S hn hm hbody) b
theorem lk_of {K : PySem.W.Frag} {x q : Str} {st : Stmt} {f : Addr} {fd : FuncData} (F : Fun K x q st f fd) : ∃ oc od osl, K.lookup f = some ⟨oc, od, .func fd, osl⟩ := by
  obtain ⟨oc, od, kV, doc, pm, an, cdv, ct, osl, _, lk, _⟩ := F.ex
  exact ⟨oc, od, osl, lk⟩
theorem ggx_of {x : Str} {st : Stmt} {N ps : List Str} {k n m : Nat} {b : SM} (F : Df c.K mg x st ps) (S : FnScope N ps (defScope st)) (hn : n = ps.length) (hm : m = N.length)
    (hbody : ∀ (f : Addr) (cdv : Value) (A : Around) (outer : List Env) (s : Shared) (H : Hp) (E : XK), A.guards = some [] → Room k (A.deeper (envOfC x (defScope st) s.heap.objs.size f cdv)) →
      ∃ t, PSs (cxOf CX0 P c.w c.K mg base N x (defScope st) f cdv A outer s H E).nox (defBody st) t ∧ RS c {} none t b) :
    Ggx P c mg base x (k + 1) ps (defW n m b) := by
  subst hn hm
  obtain ⟨f, fd, F, bb, m⟩ := F
  refine ⟨f, fd, ⟨fun vs H Q E h => ?_, fun A outer s H args us vs Q E hg hr e0 hb hv h => ?_⟩, bb, m, F.kp, lk_of F⟩
  · obtain ⟨G, ds, R, e, d, p, _⟩ := h
    rw [d.len]; exact p.1
  · obtain ⟨oc, od, kV, doc, pm, an, cdv, ct, osl, rfl, lk, hcd⟩ := F.ex
    obtain ⟨G, ds, R, e, d, p, q⟩ := h
    have hl : vs.length = ps.length := by rw [d.len]; exact p.1
    refine StX.run_bnd (G := fun xs H2 => xs = vs ∧ H2 = H) lk hcd S hr e0 (fun A' Ex' Q' h' => hb _ A' Ex' Q' (h' s H vs us e0 Un.refl rfl (fun _ _ z => z) hv hl ⟨rfl, rfl⟩)) fun s2 H2 xs hx hr' => ?_
    obtain ⟨rfl, rfl⟩ := hx
    obtain ⟨t, ht, hs⟩ := hbody f cdv A outer s2 H2 E hg hr'
    exact ⟨t, ht.nox, body_endN hs e d p.2 q⟩
end
/-! ### calls -/
/-- what is raised is wished for at the caller's slots -/
def tCl (w : Option WX) (sp : Sp) (t : TA) : TE := fun σ H Q => t σ H fun vs H1 => sp vs H1 Q fun cls od H' => (w.getD wF) cls od σ H'
theorem run_fnRS {X : Cx} {CX : CXT} {k : Nat} {f : Addr} {sp : Sp} {E : XK} {pins : List (Addr × Obj)} {σ : L2.St} {H : Hp} {s : Shared} {Q : VK} {us : List Value} {vs : List V} (F : FnR X.prog X.w X.K X.mg X.base CX k f sp) (hr : Room k X.A) (hx : PassesAt CX X σ E) (I : Inv X pins σ H s) (r : Vals vs us) (h : sp vs H Q E) :
    wpAny (model X.prog X.w) X.A (call (.ref f) us) (EP X pins σ Q) X.xe s := by
  refine wpAny_call (codeAny_mono (F X.A X.stack s H us vs Q E hr I.env0 r h) fun r s' hq => ?_)
  cases r with
  | error e => exact hx pins H s e s' I hq
  | ok fl =>
    cases fl with
    | ret u => exact I.after hq
    | next => exact False.elim hq
    | brk => exact False.elim hq
    | cont => exact False.elim hq
/-- a context: what is wished for there -/
def Tk (X : Cx) (w : Option WX) : Prop := ∀ σ, PassesAt (L2.CX X.prog X.w) X σ fun cls od H' => (w.getD wF) cls od σ H'
theorem tk_some {X : Cx} {W : WX} (tk : Takes X W) : Tk X (some W) := fun σ => passAt tk σ
theorem takesF {X : Cx} : Takes X wF := takes0
theorem tk_none {X : Cx} : Tk X none := fun σ => passAt (takesF (X := X)) σ
section
variable {X : Cx} {P : Program} {c : Kc} {mg : Str → Option Value} {base : Heap} {w : Option WX}
/-- X is a context of the text -/
structure At (X : Cx) (P : Program) (c : Kc) (mg : Str → Option Value) (base : Heap) : Prop where
  p : X.prog = P
  w : X.w = c.w
  K : X.K = c.K
  mg : X.mg = mg
  b : X.base = base
theorem pe_gx {x : Str} {k : Nat} {Pre : PreX} {p pos : Pos} {e : Expr} {es : List Expr} {t : TA} (F : Gfx P c mg base x k Pre) (hX : At X P c mg base) (hr : Room k X.A) (hg : Gl X x) (tk : Tk X w) (ha : PA X (e :: es) t)
    (hdb : (x == ("__debug__" : Str)) = false := by decide) (he : starEach (e :: es) X.env = (false, eval e X.env) :: starEach es X.env := by rfl) (hpl : (backTo pos (starEach es X.env)).any (·.1) = false := by rfl) :
    PE X (.Call (.Name x p) (e :: es) [] pos) (tCl w (spX c Pre) t) := by
  obtain ⟨h1, h2, h3, h4, h5⟩ := hX
  obtain ⟨f, F, m, kp⟩ := F
  unfold Gmx at F
  rw [← h1, ← h2, ← h3, ← h4, ← h5] at F
  rw [← h4] at m
  rw [← h3] at kp
  refine ⟨fun pins s σ H Q I h => ?_⟩
  refine wpAny_Call_Name_kw (ld_glob I hg m ?_ hdb)
  refine PySem.W.callWith_K (h₀ := X.base) I.ok.mod.kin kp (thn (ha.run pos pins s σ H _ I h) fun us s1 ⟨vs, H1, I1, r, q⟩ => ⟨I1.kIn, ?_⟩) he hpl
  exact run_fnRS F hr (tk σ) I1 r q
theorem pe_gg {x : Str} {k : Nat} {ps : List Str} {Pre : PreX} {p pos : Pos} {e : Expr} {es : List Expr} {t : TA} (F : Ggx P c mg base x k ps Pre) (hX : At X P c mg base) (hA : X.A.guards = some []) (hr : Room k X.A) (hg : Gl X x) (ha : PA X (e :: es) t)
    (hdb : (x == ("__debug__" : Str)) = false := by decide) (he : starEach (e :: es) X.env = (false, eval e X.env) :: starEach es X.env := by rfl) (hpl : (backTo pos (starEach es X.env)).any (·.1) = false := by rfl) :
    PE X (.Call (.Name x p) (e :: es) [] pos) (tCl none (spN c Pre) t) := by
  obtain ⟨h1, h2, h3, h4, h5⟩ := hX
  obtain ⟨f, fd, F, b, m, kp, _⟩ := F
  rw [← h1, ← h2, ← h3, ← h4, ← h5] at F
  rw [← h3] at b kp
  rw [← h4] at m
  constructor
  intro pins s σ H Q I h
  refine wpAny_Call_Name_kw (ld_glob I hg m (PySem.W.callWith_K (h₀ := X.base) I.ok.mod.kin kp ?_ he hpl) hdb)
  refine thn (ha.run pos pins s σ H _ I h) fun us s1 ⟨vs, H1, I1, r, q⟩ => ⟨I1.kIn, wpAny_call ?_⟩
  have hl : us.length = ps.length := by rw [← r.length]; exact F.len _ _ _ _ q
  have hb := b s1 us I1.kIn (by rw [List.append_nil]; exact hl)
  rw [List.append_nil] at hb
  refine codeAny_mono (F.run X.A X.stack s1 H1 _ us vs Q _ hA hr I1.env0 hb r q) fun rr s2 hq => ?_
  cases rr with
  | error _ => exact hq.elim
  | ok fl => cases fl with
    | ret u => exact I1.after hq
    | _ => exact hq.elim
variable {x : Mx} {tas : TA} {as : AM}
theorem re_call {Pre : PreX} (ha : RA c x w tas as) : RE c x w (tCl w (spX c Pre) tas) (callW Pre as) := fun ss R X G σ H m e s Q q z =>
  ha ss _ X G σ H m e s _ (fun vs l G1 H1 g1 d1 m1 => ⟨G1, l, R, X, g1.ink, d1, m1, fun v d G' H' g hd hr => q v d G' H' (g1.trans g) hd hr, fun C l od G' H' g xd hx => z C l od G' H' (g1.trans g) xd hx⟩) z
theorem re_callN {w' : Option WX} {Pre : PreX} (ha : RA c x w tas as) : RE c x w (tCl w' (spN c Pre) tas) (callW (calmP Pre) as) := fun ss R X G σ H m e s Q q z =>
  ha ss _ X G σ H m e s _ (fun vs l G1 H1 g1 d1 m1 => ⟨G1, l, R, g1.ink, d1, m1, fun v d G' H' g hd hr => q v d G' H' (g1.trans g) hd hr⟩) z
end
end Mw

set_option Elab.async false
set_option linter.all false
set_option maxRecDepth 100000
set_option maxHeartbeats 4000000
namespace Mw
open PySem PySem.Spec PyProof.Rows L2
/-! ### operators by data -/
def addD : D2
  | .int i, .int j, R => R (.int (i + j))
  | .str a, .str b, R => a.length + b.length ≤ 1000000 ∧ R (.str (a ++ b))
  | .lst l, .lst m, R => l.length + m.length ≤ 1000000 ∧ R (.lst (l ++ m))
  | .tup l, .tup m, R => l.length + m.length ≤ 1000000 ∧ R (.tup (l ++ m))
  | _, _, _ => False
def subD : D2
  | .int i, .int j, R => R (.int (i - j))
  | _, _, _ => False
def mulD : D2
  | .int i, .int j, R => CMul i j ∧ R (.int (i * j))
  | .lst l, .int j, R => (0 ≤ j ∧ j ≤ 1000 ∧ l.length ≤ 1000) ∧ R (.lst (List.replicate j.toNat l).flatten)
  | .str z, .int j, R => PySem.MulOk z j ∧ R (.str (Txt.mul z j))
  | _, _, _ => False
def modD : D2
  | .int i, .int j, R => 0 < j ∧ R (.int (i % j))
  | _, _, _ => False
def fdivD : D2
  | .int i, .int j, R => CDivW i j ∧ R (.int (i / j))
  | _, _, _ => False
def CPowW (i j : Int) : Prop := 0 ≤ j ∧ (Builtin.Int.intBits i : Int) * j ≤ 2 ^ 27
def powD : D2
  | .int i, .int j, R => CPowW i j ∧ R (.int (i ^ j.toNat))
  | _, _, _ => False
def cmpD (p : Int → Int → Bool) : D2
  | .int i, .int j, R => R (.bl (p i j))
  | _, _, _ => False
abbrev ltD := cmpD fun i j => decide (i < j)
abbrev leD := cmpD fun i j => decide (i ≤ j)
abbrev gtD := cmpD fun i j => decide (j < i)
abbrev geD := cmpD fun i j => decide (j ≤ i)
/-! data of the library's own kind -/
mutual
def toPy : Dt → Option PyData
  | .non => some .none
  | .bl b => some (.bool b)
  | .int i => some (.int i)
  | .str x => some (.str x)
  | .lst l => (toPys l).map .list
  | .sq l => (toPys l).map .list
  | .tup l => (toPys l).map .tuple
  | _ => none
def toPys : List Dt → Option (List PyData)
  | [] => some []
  | d :: l => match toPy d, toPys l with
    | some p, some q => some (p :: q)
    | _, _ => none
end
def eqvD (x y : Dt) (R : Bool → Prop) : Prop := ∃ p q, toPy x = some p ∧ toPy y = some q ∧ SeqAt.shaped p = true ∧ SeqAt.shaped q = true ∧ R (PyData.eqv p q)
def eqD : D2
  | .int i, .int j, R => R (.bl (decide (i = j)))
  | .str a, .str b, R => R (.bl (decide (a = b)))
  | .bl a, .bl b, R => R (.bl (decide (a = b)))
  | x, y, R => eqvD x y fun b => R (.bl b)
def neD : D2
  | .int i, .int j, R => R (.bl (!decide (i = j)))
  | .str a, .str b, R => R (.bl (!decide (a = b)))
  | .bl a, .bl b, R => R (.bl (!decide (a = b)))
  | x, y, R => eqvD x y fun b => R (.bl (!b))
def isN : Dt → Bool
  | .non => true
  | _ => false
def isD : D2
  | x, .non, R => R (.bl (isN x))
  | .bl a, .bl b, R => R (.bl (decide (a = b)))
  | _, _, _ => False
def isntD : D2
  | x, .non, R => R (.bl (!isN x))
  | .bl a, .bl b, R => R (.bl (!decide (a = b)))
  | _, _, _ => False
/-- a value that is no object -/
def flD : Dt → Option V
  | .non => some .non
  | .bl b => some (.bl b)
  | .int i => some (.int i)
  | .str z => some (.str z)
  | _ => none
def flDs : List Dt → Option (List V)
  | [] => some []
  | d :: l => match flD d, flDs l with
    | some v, some r => some (v :: r)
    | _, _ => none
def inD (neg : Bool) : D2
  | .str a, .str b, R => ∃ k, a = ⟨#[k]⟩ ∧ R (.bl (if neg then !decide (k ∈ b.cps.toList) else decide (k ∈ b.cps.toList)))
  | x, .lst l, R => ∃ v vs, flD x = some v ∧ flDs l = some vs ∧ R (.bl (if neg then !inV v vs else inV v vs))
  | x, .tup l, R => ∃ v vs, flD x = some v ∧ flDs l = some vs ∧ R (.bl (if neg then !inV v vs else inV v vs))
  | _, _, _ => False
def negD : D1
  | .int i, R => R (.int (-i))
  | _, _ => False
def lenD : DN
  | [.str z], R => z.length ≤ 1000000 ∧ R (.int z.length)
  | [.lst l], R => R (.int l.length)
  | [.sq l], R => R (.int l.length)
  | [.tup l], R => R (.int l.length)
  | _, _ => False
def int1D : DN
  | [.int i], R => R (.int i)
  | [.bl b], R => R (.int (if b then 1 else 0))
  | _, _ => False
def absD : DN
  | [.int i], R => R (.int (if i < 0 then -i else i))
  | _, _ => False
def maxD : DN
  | [.int i, .int j], R => R (.int (if j > i then j else i))
  | _, _ => False
def minD : DN
  | [.int i, .int j], R => R (.int (if j < i then j else i))
  | _, _ => False
def blsD : List Dt → Option (List Bool)
  | [] => some []
  | .bl b :: l => (blsD l).map (b :: ·)
  | _ => none
def allD : DN
  | [.lst l], R => ∃ bs, blsD l = some bs ∧ R (.bl (bs.all id))
  | _, _ => False
def strD : DN
  | [.int i], R => i.natAbs.log2 < 1920 ∧ R (.str (toString i))
  | [.str z], R => R (.str z)
  | _, _ => False
def tupD : DN
  | [.lst l], R => R (.tup l)
  | [.tup l], R => R (.tup l)
  | _, _ => False
def listD : DN
  | [.lst l], R => R (.lst l)
  | [.tup l], R => R (.lst l)
  | _, _ => False
def tyN : Dt → Option String
  | .non => some "NoneType"
  | .bl _ => some "bool"
  | .int _ => some "int"
  | .str _ => some "str"
  | .lst _ => some "list"
  | .tup _ => some "tuple"
  | .dic _ => some "dict"
  | _ => none
def kinds7 : List String := ["NoneType", "bool", "int", "str", "tuple", "list", "dict"]
def isB (T n : String) : Bool := T == n || (T == "bool" && n == "int")
theorem kitB_is : ∀ T ∈ kinds7, ∀ n ∈ kinds7, kitB T n = some (isB T n) := by decide +kernel
theorem tyN_kinds {d : Dt} {T : String} (h : tyN d = some T) : T ∈ kinds7 := by
  cases d <;> first | (cases h; decide) | cases h
def isiD : DN
  | [d, .ty n], R => n ∈ kinds7 ∧ match d with
    | .ins _ _ => R (.bl false)
    | d => ∃ T, tyN d = some T ∧ R (.bl (isB T n))
  | [d, .cls C], R => match d with
    | .ins C' _ => R (.bl (decide (C' = C)))
    | d => ∃ T, tyN d = some T ∧ R (.bl false)
  | _, _ => False
def ixD : D2
  | .lst l, .int i, R => ∃ d, atI l i = some d ∧ R d
  | .sq l, .int i, R => ∃ d, atI l i = some d ∧ R d
  | .tup l, .int i, R => ∃ d, atI l i = some d ∧ R d
  | .str z, .int i, R => z.length ≤ 1000000 ∧ ∃ k, atI z.cps.toList i = some k ∧ R (.str ⟨#[k]⟩)
  | _, _, _ => False
def cutD (l : List Dt) (lo hi : Option Int) : List Dt := (l.drop (HT.sIx l.length 0 lo)).take (HT.sIx l.length l.length hi - HT.sIx l.length 0 lo)
def slLD : DSl
  | .lst l, lo, hi, R => R (.lst (cutD l lo hi))
  | _, _, _, _ => False
def slTD : DSl
  | .tup l, lo, hi, R => R (.tup (cutD l lo hi))
  | _, _, _, _ => False
def slSD : DSl
  | .str z, lo, hi, R => z.length ≤ 1000000 ∧ R (.str (cutS z lo hi))
  | _, _, _, _ => False
def strsD : List Dt → Option (List Str)
  | [] => some []
  | .str b :: l => (strsD l).map (b :: ·)
  | _ => none
def joinD : DM
  | .str a, [.lst l], R => ∃ ys, strsD l = some ys ∧ (ys.map (·.length)).sum + ys.length * a.length ≤ 16777216 ∧ R (.str (Txt.join a ys))
  | .str a, [.tup l], R => ∃ ys, strsD l = some ys ∧ (ys.map (·.length)).sum + ys.length * a.length ≤ 16777216 ∧ R (.str (Txt.join a ys))
  | _, _, _ => False
def splitD : DM
  | .str a, [.str b], R => ((b.length == 0) = false ∧ a.length ≤ 1000000) ∧ R (.lst ((Txt.split a b).map .str))
  | _, _, _ => False

/-! ### that the rules keep them -/
section
variable {X : Cx}
theorem op_powW : OpR X (binaryOp .Pow) (rI CPowW fun i j => .int (i ^ j.toNat)) := opI fun _ _ _ _ _ _ _ hc q => pow_int hc.1 hc.2 q
abbrev rAddS : R2 := fun x y H Q => ∃ i j, x = .str i ∧ y = .str j ∧ i.length + j.length ≤ sizeLine ∧ Q (.str (i ++ j)) H
def rAddA (K : PySem.W.Frag) : R2 := fun x y H Q => (rI0 fun i j => .int (i + j)) x y H Q ∨ (rAddS x y H Q ∨ (rCat x y H Q ∨ rCatA K x y H Q))
theorem opAdd {K : PySem.W.Frag} (hK : X.K = K) : OpR X (binaryOp .Add) (rAddA K) := by subst hK; exact op_add.or (op_add_str.or (op_cat.or op_catA))
def rMulS : R2 := fun x y H Q => ∃ z n, x = .str z ∧ y = .int n ∧ PySem.MulOk z n ∧ Q (.str (Txt.mul z n)) H
theorem op_mulS : OpR X (binaryOp .Mult) rMulS := by
  intro pins s σ H x y v u Q I rx ry h
  obtain ⟨z, n, rfl, rfl, ok, q⟩ := h
  obtain ⟨t, rfl⟩ := rx
  obtain ⟨t', rfl⟩ := ry
  exact PySem.SB.mul ok fun t' k => ⟨.str _, H, I.tok _, ⟨_, rfl⟩, q⟩
def rMulA (K : PySem.W.Frag) : R2 := fun x y H Q => (rI CMul fun i j => .int (i * j)) x y H Q ∨ (rRep x y H Q ∨ rMulS x y H Q)
theorem opMul {K : PySem.W.Frag} (hK : X.K = K) : OpR X (binaryOp .Mult) (rMulA K) := op_mul.or (op_rep.or op_mulS)
def rEqA (K : PySem.W.Frag) : R2 := fun x y H Q => rEq x y H Q ∨ rEqD K x y H Q
theorem opEq {K : PySem.W.Frag} (hK : X.K = K) (hu : X.A.units + 64 < cLine) : OpR X (compareOp .Eq) (rEqA K) := by subst hK; exact op_eq.or (op_eqD hu)
def rNeA (K : PySem.W.Frag) : R2 := fun x y H Q => rNe x y H Q ∨ rNeD K x y H Q
theorem opNe {K : PySem.W.Frag} (hK : X.K = K) (hu : X.A.units + 64 < cLine) : OpR X (compareOp .NotEq) (rNeA K) := by subst hK; exact op_ne.or (op_neD hu)
abbrev rIsNA : R2 := fun x y H Q => y = .non ∧ Q (.bl (decide (x = .non))) H
abbrev rIsBA : R2 := fun x y H Q => ∃ a b, x = .bl a ∧ y = .bl b ∧ Q (.bl (decide (a = b))) H
def rIsA : R2 := fun x y H Q => rIsNA x y H Q ∨ rIsBA x y H Q
theorem opIs : OpR X (compareOp .Is) rIsA := op_isN.or op_is_bl
abbrev rNotNA : R2 := fun x y H Q => y = .non ∧ Q (.bl (!decide (x = .non))) H
abbrev rNotBA : R2 := fun x y H Q => ∃ a b, x = .bl a ∧ y = .bl b ∧ Q (.bl (!decide (a = b))) H
def rNotA : R2 := fun x y H Q => rNotNA x y H Q ∨ rNotBA x y H Q
theorem opIsNot : OpR X (compareOp .IsNot) rNotA := op_notN.or op_isnot_bl
abbrev rInS : R2 := fun x y H Q => ∃ (c : Nat) (z : Str), x = .str ⟨#[c]⟩ ∧ y = .str z ∧ Q (.bl (decide (c ∈ z.cps.toList))) H
def rInA (K : PySem.W.Frag) : R2 := fun x y H Q => rInS x y H Q ∨ rIn K false x y H Q
theorem opIn {K : PySem.W.Frag} (hK : X.K = K) : OpR X (compareOp .In) (rInA K) := by subst hK; exact op_in_sign.or op_in_seq
abbrev rNiS : R2 := fun x y H Q => ∃ (c : Nat) (z : Str), x = .str ⟨#[c]⟩ ∧ y = .str z ∧ Q (.bl (!decide (c ∈ z.cps.toList))) H
def rNiA (K : PySem.W.Frag) : R2 := fun x y H Q => rNiS x y H Q ∨ rIn K true x y H Q
theorem opNotIn {K : PySem.W.Frag} (hK : X.K = K) : OpR X (compareOp .NotIn) (rNiA K) := by subst hK; exact op_notIn_sign.or op_notIn_seq
theorem pe_g {x : Str} {v : V} {pos : Pos} (hg : Gl X x) (h : ∃ u, X.mg x = some u ∧ RelV v u) (hd : (x == ("__debug__" : Str)) = false := by decide) : PE X (.Name x pos) (tC v) :=
  let ⟨_, h1, h2⟩ := h
  pe_glob hg h1 h2 hd
theorem pe_bty (n : String) {x : Str} {pos : Pos} (hg : Gl X x) (hm : X.mg x = none) (hv : bootBuiltins x = some (.type n)) (hn : x ≠ "__name__" := by decide) (hd : (x == ("__debug__" : Str)) = false := by decide) : PE X (.Name x pos) (tC (.ty n)) :=
  pe_bltn hg hm hv rfl hn hd
theorem pe_cl {x : Str} {C : Addr} {pos : Pos} (hg : Gl X x) (h : X.mg x = some (.ref C)) (hd : (x == ("__debug__" : Str)) = false := by decide) : PE X (.Name x pos) (tC (.ref C)) := pe_g hg ⟨_, h, rfl⟩ hd
abbrev rStrI : List V → Hp → VK → Prop := fun xs H Q => ∃ i, xs = [.int i] ∧ i.natAbs.log2 < 1920 ∧ Q (.str (toString i)) H
abbrev rStrS : List V → Hp → VK → Prop := fun xs H Q => ∃ a, xs = [.str a] ∧ Q (.str a) H
def rStrA : List V → Hp → VK → Prop := fun xs H Q => rStrI xs H Q ∨ rStrS xs H Q
theorem callStr : CallR X (.type "str") rStrA := call_str_int.or SkE.call_str_str
abbrev rLenV (K : PySem.W.Frag) : List V → Hp → VK → Prop := fun xs H Q => ∃ x n, xs = [x] ∧ LenV K x H n ∧ Q (.int n) H
theorem callLen {K : PySem.W.Frag} (hK : X.K = K) : CallR X (.builtin "len") (rLenV K) := by subst hK; exact call_len
theorem callAll {K : PySem.W.Frag} (hK : X.K = K) (hc : X.calm = true) : CallR X (.builtin "all") (rAll K) := by subst hK; exact cr_all hc
theorem callIsi {K : PySem.W.Frag} (hK : X.K = K) : CallR X (.builtin "isinstance") (rIsi K) := by subst hK; exact call_isi
theorem ixA {K : PySem.W.Frag} (hK : X.K = K) : IxR X (rIx K) := by subst hK; exact ix_seq
theorem piList {K : PySem.W.Frag} (hK : X.K = K) {tg e : Expr} {te : TE} (he : PE X e te) : PI X tg e (iList K te) := by subst hK; exact pi_list he
theorem piTup {K : PySem.W.Frag} (hK : X.K = K) {tg e : Expr} {te : TE} (he : PE X e te) : PI X tg e (iTup K te) := by subst hK; exact pi_tup he
abbrev rJoin (K : PySem.W.Frag) : V → List V → Hp → VK → Prop := fun x xs H Q => ∃ a p, ∃ ys : List Str, x = .str a ∧ xs = [.ref p] ∧ (SqL K H p (ys.map V.str) ∨ SqT K H p (ys.map V.str)) ∧
    (ys.map (·.length)).sum + ys.length * a.length ≤ 16777216 ∧ Q (.str (Txt.join a ys)) H
theorem mtJoin {K : PySem.W.Frag} (hK : X.K = K) : MtR X "str.join" (rJoin K) := by
  subst hK
  exact mt_join
def rSplit : V → List V → Hp → VK → Prop := fun x xs H Q => ∃ a b, x = .str a ∧ xs = [.str b] ∧ (b.length == 0) = false ∧ a.length + 2 ≤ sizeLine ∧ rNewStrs (Txt.split a b) H Q
theorem mtSplit : MtR X "str.split" rSplit := mt_split
theorem peBm {K : PySem.W.Frag} (hK : X.K = K) {o e : Expr} {es : List Expr} {to : TE} {t : TA} {name : Str} {apos cpos : Pos} {T id : String} {r : V → List V → Hp → VK → Prop} (pa : PlainAttrs T) (slot : Slot T name id) (hty : typeOf (.builtin id) = pure (.type "method_descriptor")) (hm : MtR X id r) (ho : PE X o to) (ha : PA X (e :: es) t)
    (hbase : attributeBase o name X.env (eval o X.env) = eval o X.env := by rfl)
    (hfew : ((backTo cpos (starEach (e :: es) X.env)).all (fun x => !x.1) && (backToKw cpos (keywordEach [] X.env)).all (fun x => x.1.isSome) && decide ((e :: es).length + ([] : List Keyword).length + (if ([] : List Keyword).isEmpty then 0 else 1) < 30)) = true := by rfl)
    (hline : (apos.endLine == cpos.line) = true := by rfl) (hs : starEach (e :: es) X.env = (false, eval e X.env) :: starEach es X.env := by rfl) (hplain : (backTo cpos (starEach es X.env)).any (·.1) = false := by rfl) :
    PE X (.Call (.Attribute o name apos) (e :: es) [] cpos) (tBM K T r to t) := by
  subst hK
  exact pe_bm pa slot hty hm ho ha hbase hfew hline hs hplain
theorem paStar {K : PySem.W.Frag} (hK : X.K = K) {e : Expr} {es : List Expr} {te : TE} {t : TA} {p : Pos} (he : PE X e te) (hr : PA X es t) (hs : starEach (.Starred e p :: es) X.env = (true, eval e X.env) :: starEach es X.env := by rfl) : PA X (.Starred e p :: es) (StX.tStar K te t) := by
  subst hK; exact StX.pa_star he hr hs
theorem pgUnl {K : PySem.W.Frag} (hK : X.K = K) {es : List Expr} {k : Nat} {t : TGs} {n : Nat} {pos : Pos} (hc : X.calm = true) (h : PGs X es t)
    (hn : (assignEach es X.env).length = n := by rfl) (hst : (assignEach es X.env).findIdx? (·.1) = none := by rfl) : PG X (.Tuple es k pos) (gUnl K n t) := by
  subst hK; exact pg_unl hc h hn hst
theorem pgTup {K : PySem.W.Frag} (hK : X.K = K) {es : List Expr} {k : Nat} {t : TGs} {n : Nat} {pos : Pos} (hc : X.calm = true) (h : PGs X es t)
    (hn : (assignEach es X.env).length = n := by rfl) (hst : (assignEach es X.env).findIdx? (·.1) = none := by rfl) : PG X (.Tuple es k pos) (gTup K n t) := by
  subst hK; exact pg_tup hc h hn hst
def rToTup (K : PySem.W.Frag) : List V → Hp → VK → Prop := fun xs H Q => ∃ p ys, xs = [.ref p] ∧ ((SqL K H p ys ∧ ∀ l, H l = none → Q (.ref l) (upd H l (.tup ys))) ∨ (SqT K H p ys ∧ Q (.ref p) H))
theorem callTuple {K : PySem.W.Frag} (hK : X.K = K) : CallR X (.type "tuple") (rToTup K) := by subst hK; exact call_tuple_of
def rToLst (K : PySem.W.Frag) : List V → Hp → VK → Prop := fun xs H Q => ∃ p ys, xs = [.ref p] ∧ (SqL K H p ys ∨ SqT K H p ys) ∧ ∀ l, H l = none → Q (.ref l) (upd H l (.lst ys))
theorem callList {K : PySem.W.Frag} (hK : X.K = K) : CallR X (.type "list") (rToLst K) := by subst hK; exact call_list_of
theorem slList {K : PySem.W.Frag} (hK : X.K = K) : SlR X (rSlL K) := by subst hK; exact sl_list
abbrev rInt1 : List V → Hp → VK → Prop := fun xs H Q => (∃ i, xs = [.int i] ∧ Q (.int i) H) ∨ ∃ k, xs = [.bl k] ∧ Q (.int (if k then 1 else 0)) H
abbrev rAbs : List V → Hp → VK → Prop := fun xs H Q => ∃ i, xs = [.int i] ∧ Q (.int (if i < 0 then -i else i)) H
abbrev rMax2 : List V → Hp → VK → Prop := fun xs H Q => ∃ i j, xs = [.int i, .int j] ∧ Q (.int (if j > i then j else i)) H
abbrev rMin2 : List V → Hp → VK → Prop := fun xs H Q => ∃ i j, xs = [.int i, .int j] ∧ Q (.int (if j < i then j else i)) H
end
section
variable {c : Kc}
theorem ro_add : RO2 c (rAddA c.K) addD := fun d e R m G H v u ex d1 d2 Q q => by
  match d, e, m with
  | .int i, .int j, m => cases d1; cases d2; exact .inl ⟨i, j, rfl, rfl, q _ (.int (i + j)) G H (Go.refl ex) rfl m⟩
  | .str a, .str b, m => cases d1; cases d2; exact .inr (.inl ⟨a, b, rfl, rfl, sz_of m.1, q _ (.str (a ++ b)) G H (Go.refl ex) rfl m.2⟩)
  | .lst l, .lst k, m =>
    obtain ⟨a, xs, rfl, h1, h2⟩ := d1
    obtain ⟨b, ys, rfl, h3, h4⟩ := d2
    exact .inr (.inr (.inl ⟨a, b, xs, ys, rfl, rfl, ex _ _ h1, ex _ _ h3, by rw [h2.len, h4.len]; exact sz_of m.1, fun p hp => q _ (.lst (l ++ k)) _ _ (Go.new ex hp) (dat_newL (h2.app h4) (ex.free hp)) m.2⟩))
  | .tup l, .tup k, m =>
    obtain ⟨a, xs, rfl, h1, h2⟩ := d1
    obtain ⟨b, ys, rfl, h3, h4⟩ := d2
    obtain ⟨m1, m2⟩ := m
    have l1 := h2.len
    have l2 := h4.len
    refine .inr (.inr (.inr ⟨a, b, xs, ys, rfl, rfl, Ex.tup ex h1, Ex.tup ex h3, by rw [l1, l2]; exact sz_of m1, fun z => ?_, fun _ z => ?_, fun _ _ p hp => q _ (.tup (l ++ k)) _ _ (Go.new ex hp) (dat_newT (h2.app h4) (ex.free hp)) m2⟩))
    · subst z
      have z : l = [] := List.length_eq_zero_iff.mp (by rw [← l1]; rfl)
      subst z
      exact q _ (.tup k) G H (Go.refl ex) ⟨b, ys, rfl, h3, h4⟩ m2
    · subst z
      have z : k = [] := List.length_eq_zero_iff.mp (by rw [← l2]; rfl)
      subst z
      rw [List.append_nil] at m2
      exact q _ (.tup l) G H (Go.refl ex) ⟨a, xs, rfl, h1, h2⟩ m2
theorem ro_sub : RO2 c (rI0 fun i j => .int (i - j)) subD := fun d e R m G H v u ex d1 d2 Q q => by
  match d, e, m with
  | .int i, .int j, m => cases d1; cases d2; exact ⟨i, j, rfl, rfl, q _ (.int (i - j)) G H (Go.refl ex) rfl m⟩
theorem Dats.rep {G : Hp} {l : List Dt} {xs : List V} (d : Dats c G l xs) : ∀ n : Nat, Dats c G (List.replicate n l).flatten (List.replicate n xs).flatten
  | 0 => rfl
  | n + 1 => by
    rw [List.replicate_succ, List.replicate_succ, List.flatten_cons, List.flatten_cons]
    exact d.app (Dats.rep d n)
theorem ro_mul : RO2 c (rMulA c.K) mulD := fun d e R m G H v u ex d1 d2 Q q => by
  match d, e, m with
  | .int i, .int j, m => cases d1; cases d2; exact .inl ⟨i, j, rfl, rfl, m.1, q _ (.int (i * j)) G H (Go.refl ex) rfl m.2⟩
  | .lst l, .int j, ⟨⟨h0, hj, hl⟩, m⟩ =>
    obtain ⟨a, xs, rfl, h1, h2⟩ := d1
    cases d2
    have hz : l.length * j.toNat ≤ 1000 * 1000 := Nat.mul_le_mul hl (by omega)
    exact .inr (.inl ⟨a, j, xs, rfl, rfl, ex _ _ h1, by omega, by omega, by rw [h2.len]; exact sz_of hz, fun p hp => q _ (.lst _) _ _ (Go.new ex hp) (dat_newL (h2.rep j.toNat) (ex.free hp)) m⟩)
  | .str z, .int j, m => cases d1; cases d2; exact .inr (.inr ⟨z, j, rfl, rfl, m.1, q _ (.str _) G H (Go.refl ex) rfl m.2⟩)
theorem ro_mod : RO2 c (rI (fun _ j => 0 < j) fun i j => .int (i % j)) modD := fun d e R m G H v u ex d1 d2 Q q => by
  match d, e, m with
  | .int i, .int j, m => cases d1; cases d2; exact ⟨i, j, rfl, rfl, m.1, q _ (.int (i % j)) G H (Go.refl ex) rfl m.2⟩
theorem ro_fdiv : RO2 c (rI CDivW fun i j => .int (i / j)) fdivD := fun d e R m G H v u ex d1 d2 Q q => by
  match d, e, m with
  | .int i, .int j, m => cases d1; cases d2; exact ⟨i, j, rfl, rfl, m.1, q _ (.int (i / j)) G H (Go.refl ex) rfl m.2⟩
theorem ro_pow : RO2 c (rI CPowW fun i j => .int (i ^ j.toNat)) powD := fun d e R m G H v u ex d1 d2 Q q => by
  match d, e, m with
  | .int i, .int j, m => cases d1; cases d2; exact ⟨i, j, rfl, rfl, m.1, q _ (.int (i ^ j.toNat)) G H (Go.refl ex) rfl m.2⟩
theorem ro_cmp {p : Int → Int → Bool} : RO2 c (rI0 fun i j => .bl (p i j)) (cmpD p) := fun d e R m G H v u ex d1 d2 Q q => by
  match d, e, m with
  | .int i, .int j, m => cases d1; cases d2; exact ⟨i, j, rfl, rfl, q _ (.bl (p i j)) G H (Go.refl ex) rfl m⟩
mutual
theorem dp_of {G : Hp} : ∀ {d : Dt} {p : PyData} {v : V}, Dat c G d v → toPy d = some p → Dp c.K G v p
  | .non, _, _, h, e => by cases h; cases e; exact .non
  | .bl _, _, _, h, e => by cases h; cases e; exact .bl _
  | .int _, _, _, h, e => by cases h; cases e; exact .int _
  | .str _, _, _, h, e => by cases h; cases e; exact .str _
  | .lst l, _, _, ⟨a, xs, h1, h2, h3⟩, e => by
    subst h1
    unfold toPy at e
    cases q : toPys l with
    | none => rw [q] at e; cases e
    | some ps => rw [q] at e; cases e; exact .lst (.inl (.inl h2)) (dps_of h3 q)
  | .sq l, _, _, ⟨a, xs, h1, h2, h3⟩, e => by
    subst h1
    unfold toPy at e
    cases q : toPys l with
    | none => rw [q] at e; cases e
    | some ps => rw [q] at e; cases e; exact .lst h2 (dps_of h3 q)
  | .tup l, _, _, ⟨a, xs, h1, h2, h3⟩, e => by
    subst h1
    unfold toPy at e
    cases q : toPys l with
    | none => rw [q] at e; cases e
    | some ps => rw [q] at e; cases e; exact .tup h2 (dps_of h3 q)
  | .ty _, _, _, _, e => by cases e
  | .dic _, _, _, _, e => by cases e
  | .dit _, _, _, _, e => by cases e
  | .set _, _, _, _, e => by cases e
  | .ins _ _, _, _, _, e => by cases e
  | .cls _, _, _, _, e => by cases e
  | .dice, _, _, _, e => by cases e
theorem dps_of {G : Hp} : ∀ {l : List Dt} {ps : List PyData} {xs : List V}, Dats c G l xs → toPys l = some ps → DpAll c.K G xs ps
  | [], _, _, h, e => by cases h; cases e; exact .nil
  | d :: l, _, _, ⟨x, r, h1, h2, h3⟩, e => by
    subst h1
    unfold toPys at e
    cases q1 : toPy d with
    | none => rw [q1] at e; cases e
    | some p =>
      cases q2 : toPys l with
      | none => rw [q1, q2] at e; cases e
      | some ps => rw [q1, q2] at e; cases e; exact .cons (dp_of h2 q1) (dps_of h3 q2)
end
theorem ro_eq : RO2 c (rEqA c.K) eqD := fun d e R m G H v u ex d1 d2 Q q => by
  have gen : eqvD d e (fun b => R (.bl b)) → rEqA c.K v u H Q := fun ⟨p, r, h1, h2, h3, h4, h5⟩ => .inr ⟨p, r, dp_of (d1.up ex) h1, dp_of (d2.up ex) h2, h3, h4, q _ (.bl _) G H (Go.refl ex) rfl h5⟩
  unfold eqD at m
  split at m
  · rename_i i j
    cases d1; cases d2
    have z : decide ((V.int i) = V.int j) = decide (i = j) := by simp
    exact .inl ⟨rfl, by rw [z]; exact q _ (.bl _) G H (Go.refl ex) rfl m⟩
  · rename_i i j
    cases d1; cases d2
    have z : decide ((V.str i) = V.str j) = decide (i = j) := by simp
    exact .inl ⟨rfl, by rw [z]; exact q _ (.bl _) G H (Go.refl ex) rfl m⟩
  · rename_i i j
    cases d1; cases d2
    have z : decide ((V.bl i) = V.bl j) = decide (i = j) := by rw [Bool.eq_iff_iff]; simp
    exact .inl ⟨rfl, by rw [z]; exact q _ (.bl _) G H (Go.refl ex) rfl m⟩
  · exact gen m
theorem ro_ne : RO2 c (rNeA c.K) neD := fun d e R m G H v u ex d1 d2 Q q => by
  have gen : eqvD d e (fun b => R (.bl (!b))) → rNeA c.K v u H Q := fun ⟨p, r, h1, h2, h3, h4, h5⟩ => .inr ⟨p, r, dp_of (d1.up ex) h1, dp_of (d2.up ex) h2, h3, h4, q _ (.bl _) G H (Go.refl ex) rfl h5⟩
  unfold neD at m
  split at m
  · rename_i i j
    cases d1; cases d2
    have z : decide ((V.int i) = V.int j) = decide (i = j) := by simp
    exact .inl ⟨rfl, by rw [z]; exact q _ (.bl _) G H (Go.refl ex) rfl m⟩
  · rename_i i j
    cases d1; cases d2
    have z : decide ((V.str i) = V.str j) = decide (i = j) := by simp
    exact .inl ⟨rfl, by rw [z]; exact q _ (.bl _) G H (Go.refl ex) rfl m⟩
  · rename_i i j
    cases d1; cases d2
    have z : decide ((V.bl i) = V.bl j) = decide (i = j) := by rw [Bool.eq_iff_iff]; simp
    exact .inl ⟨rfl, by rw [z]; exact q _ (.bl _) G H (Go.refl ex) rfl m⟩
  · exact gen m
theorem dat_non {G : Hp} {d : Dt} {v : V} (h : Dat c G d v) : decide (v = .non) = isN d := by
  cases d with
  | non => cases h; rfl
  | bl _ => cases h; rfl
  | int _ => cases h; rfl
  | str _ => cases h; rfl
  | ty _ => cases h; rfl
  | cls _ => obtain ⟨rfl, _⟩ := h; rfl
  | lst _ => obtain ⟨_, _, rfl, _⟩ := h; rfl
  | sq _ => obtain ⟨_, _, rfl, _⟩ := h; rfl
  | tup _ => obtain ⟨_, _, rfl, _⟩ := h; rfl
  | dic _ => obtain ⟨_, _, rfl, _⟩ := h; rfl
  | dit _ => obtain ⟨_, _, rfl, _⟩ := h; rfl
  | set _ => obtain ⟨_, _, _, rfl, _⟩ := h; rfl
  | ins _ _ => obtain ⟨_, _, _, rfl, _⟩ := h; rfl
  | dice => obtain ⟨_, rfl, _⟩ := h; rfl
theorem ro_is : RO2 c rIsA isD := fun d e R m G H v u ex d1 d2 Q q => by
  unfold isD at m
  split at m
  · cases d2
    rw [← dat_non d1] at m
    exact .inl ⟨rfl, q _ (.bl _) G H (Go.refl ex) rfl m⟩
  · cases d1; cases d2; exact .inr ⟨_, _, rfl, rfl, q _ (.bl _) G H (Go.refl ex) rfl m⟩
  · exact m.elim
theorem ro_isnt : RO2 c rNotA isntD := fun d e R m G H v u ex d1 d2 Q q => by
  unfold isntD at m
  split at m
  · cases d2
    rw [← dat_non d1] at m
    exact .inl ⟨rfl, q _ (.bl _) G H (Go.refl ex) rfl m⟩
  · cases d1; cases d2; exact .inr ⟨_, _, rfl, rfl, q _ (.bl _) G H (Go.refl ex) rfl m⟩
  · exact m.elim
theorem fl_of {G : Hp} {d : Dt} {v u : V} (h : Dat c G d v) (e : flD d = some u) : v = u ∧ flatV v = true := by
  cases d <;> first | (cases h; cases e; exact ⟨rfl, rfl⟩) | cases e
theorem fls_of {G : Hp} : ∀ {l : List Dt} {xs us : List V}, Dats c G l xs → flDs l = some us → xs = us ∧ xs.all flatV = true
  | [], _, _, h, e => by cases h; cases e; exact ⟨rfl, rfl⟩
  | d :: l, _, _, ⟨x, r, h1, h2, h3⟩, e => by
    subst h1
    unfold flDs at e
    cases q1 : flD d with
    | none => rw [q1] at e; cases e
    | some p =>
      cases q2 : flDs l with
      | none => rw [q1, q2] at e; cases e
      | some ps =>
        rw [q1, q2] at e
        cases e
        obtain ⟨rfl, f1⟩ := fl_of h2 q1
        obtain ⟨rfl, f2⟩ := fls_of h3 q2
        exact ⟨rfl, by rw [List.all_cons, f1, f2]; rfl⟩
theorem ro_in : RO2 c (rInA c.K) (inD false) := fun d e R m G H v u ex d1 d2 Q q => by
  unfold inD at m
  split at m
  · obtain ⟨k, rfl, m⟩ := m
    cases d1; cases d2
    exact .inl ⟨k, _, rfl, rfl, q _ (.bl _) G H (Go.refl ex) rfl m⟩
  · obtain ⟨y, ys, h1, h2, m⟩ := m
    obtain ⟨a, xs, rfl, h3, h4⟩ := d2
    obtain ⟨rfl, f1⟩ := fl_of d1 h1
    obtain ⟨rfl, f2⟩ := fls_of h4 h2
    exact .inr ⟨a, _, rfl, .inl (.inl (.inl (ex _ _ h3))), f1, f2, q _ (.bl _) G H (Go.refl ex) rfl m⟩
  · obtain ⟨y, ys, h1, h2, m⟩ := m
    obtain ⟨a, xs, rfl, h3, h4⟩ := d2
    obtain ⟨rfl, f1⟩ := fl_of d1 h1
    obtain ⟨rfl, f2⟩ := fls_of h4 h2
    exact .inr ⟨a, _, rfl, .inr (Ex.tup ex h3), f1, f2, q _ (.bl _) G H (Go.refl ex) rfl m⟩
  · exact m.elim
theorem ro_nin : RO2 c (rNiA c.K) (inD true) := fun d e R m G H v u ex d1 d2 Q q => by
  unfold inD at m
  split at m
  · obtain ⟨k, rfl, m⟩ := m
    cases d1; cases d2
    exact .inl ⟨k, _, rfl, rfl, q _ (.bl _) G H (Go.refl ex) rfl m⟩
  · obtain ⟨y, ys, h1, h2, m⟩ := m
    obtain ⟨a, xs, rfl, h3, h4⟩ := d2
    obtain ⟨rfl, f1⟩ := fl_of d1 h1
    obtain ⟨rfl, f2⟩ := fls_of h4 h2
    exact .inr ⟨a, _, rfl, .inl (.inl (.inl (ex _ _ h3))), f1, f2, q _ (.bl _) G H (Go.refl ex) rfl m⟩
  · obtain ⟨y, ys, h1, h2, m⟩ := m
    obtain ⟨a, xs, rfl, h3, h4⟩ := d2
    obtain ⟨rfl, f1⟩ := fl_of d1 h1
    obtain ⟨rfl, f2⟩ := fls_of h4 h2
    exact .inr ⟨a, _, rfl, .inr (Ex.tup ex h3), f1, f2, q _ (.bl _) G H (Go.refl ex) rfl m⟩
  · exact m.elim
theorem ro_neg : RO1 c (rU fun i => .int (-i)) negD := fun d R m G H v ex d1 Q q => by
  match d, m with
  | .int i, m => cases d1; exact ⟨i, rfl, q _ (.int _) G H (Go.refl ex) rfl m⟩
theorem ro_len : RON c (rLenV c.K) lenD := fun ds R m G H vs ex d Q q => by
  match ds, m with
  | [.str z], m => obtain ⟨v, r, rfl, d1, d2⟩ := d; cases d1; cases d2; exact ⟨_, _, rfl, ⟨sz_of m.1, rfl⟩, q _ (.int _) G H (Go.refl ex) rfl m.2⟩
  | [.lst l], m =>
    obtain ⟨v, r, rfl, ⟨a, xs, rfl, h1, h2⟩, d2⟩ := d
    cases d2
    have m : R (.int l.length) := m
    rw [← h2.len] at m
    exact ⟨_, _, rfl, .inl ⟨xs, .inl (.inl (ex _ _ h1)), rfl⟩, q _ (.int _) G H (Go.refl ex) rfl m⟩
  | [.sq l], m =>
    obtain ⟨v, r, rfl, ⟨a, xs, rfl, h1, h2⟩, d2⟩ := d
    cases d2
    have m : R (.int l.length) := m
    rw [← h2.len] at m
    exact ⟨_, _, rfl, .inl ⟨xs, ex.seq h1, rfl⟩, q _ (.int _) G H (Go.refl ex) rfl m⟩
  | [.tup l], m =>
    obtain ⟨v, r, rfl, ⟨a, xs, rfl, h1, h2⟩, d2⟩ := d
    cases d2
    have m : R (.int l.length) := m
    rw [← h2.len] at m
    exact ⟨_, _, rfl, .inr ⟨xs, Ex.tup ex h1, rfl⟩, q _ (.int _) G H (Go.refl ex) rfl m⟩
theorem ro_int1 : RON c rInt1 int1D := fun ds R m G H vs ex d Q q => by
  match ds, m with
  | [.int i], m => obtain ⟨v, r, rfl, d1, d2⟩ := d; cases d1; cases d2; exact .inl ⟨i, rfl, q _ (.int _) G H (Go.refl ex) rfl m⟩
  | [.bl i], m => obtain ⟨v, r, rfl, d1, d2⟩ := d; cases d1; cases d2; exact .inr ⟨i, rfl, q _ (.int _) G H (Go.refl ex) rfl m⟩
theorem ro_abs : RON c rAbs absD := fun ds R m G H vs ex d Q q => by
  match ds, m with
  | [.int i], m => obtain ⟨v, r, rfl, d1, d2⟩ := d; cases d1; cases d2; exact ⟨i, rfl, q _ (.int _) G H (Go.refl ex) rfl m⟩
theorem ro_max : RON c rMax2 maxD := fun ds R m G H vs ex d Q q => by
  match ds, m with
  | [.int i, .int j], m => obtain ⟨v, r, rfl, d1, v2, r2, rfl, d2, d3⟩ := d; cases d1; cases d2; cases d3; exact ⟨i, j, rfl, q _ (.int _) G H (Go.refl ex) rfl m⟩
theorem ro_min : RON c rMin2 minD := fun ds R m G H vs ex d Q q => by
  match ds, m with
  | [.int i, .int j], m => obtain ⟨v, r, rfl, d1, v2, r2, rfl, d2, d3⟩ := d; cases d1; cases d2; cases d3; exact ⟨i, j, rfl, q _ (.int _) G H (Go.refl ex) rfl m⟩
theorem bls_of {G : Hp} : ∀ {l : List Dt} {bs : List Bool} {xs : List V}, Dats c G l xs → blsD l = some bs → xs = bs.map V.bl
  | [], _, _, h, e => by cases h; cases e; rfl
  | d :: l, _, _, ⟨x, r, h1, h2, h3⟩, e => by
    cases d with
    | bl b =>
      unfold blsD at e
      obtain ⟨bs, e1, rfl⟩ := Option.map_eq_some_iff.mp e
      cases h2
      rw [h1, bls_of h3 e1]; rfl
    | _ => cases e
theorem strs_of {G : Hp} : ∀ {l : List Dt} {bs : List Str} {xs : List V}, Dats c G l xs → strsD l = some bs → xs = bs.map V.str
  | [], _, _, h, e => by cases h; cases e; rfl
  | d :: l, _, _, ⟨x, r, h1, h2, h3⟩, e => by
    cases d with
    | str b =>
      unfold strsD at e
      obtain ⟨bs, e1, rfl⟩ := Option.map_eq_some_iff.mp e
      cases h2
      rw [h1, strs_of h3 e1]; rfl
    | _ => cases e
theorem ro_all : RON c (rAll c.K) allD := fun ds R m G H vs ex d Q q => by
  match ds, m with
  | [.lst l], ⟨bs, e, m⟩ =>
    obtain ⟨v, r, rfl, ⟨a, xs, rfl, h1, h2⟩, d2⟩ := d
    cases d2
    rw [bls_of h2 e] at h1
    exact ⟨a, bs, rfl, .inl (.inl (ex _ _ h1)), q _ (.bl _) G H (Go.refl ex) rfl m⟩
theorem ro_str : RON c rStrA strD := fun ds R m G H vs ex d Q q => by
  match ds, m with
  | [.int i], m => obtain ⟨v, r, rfl, d1, d2⟩ := d; cases d1; cases d2; exact .inl ⟨i, rfl, m.1, q _ (.str _) G H (Go.refl ex) rfl m.2⟩
  | [.str i], m => obtain ⟨v, r, rfl, d1, d2⟩ := d; cases d1; cases d2; exact .inr ⟨i, rfl, q _ (.str _) G H (Go.refl ex) rfl m⟩
theorem ro_tup : RON c (rToTup c.K) tupD := fun ds R m G H vs ex d Q q => by
  match ds, m with
  | [.lst l], m =>
    obtain ⟨v, r, rfl, ⟨a, xs, rfl, h1, h2⟩, d3⟩ := d
    cases d3
    exact ⟨a, xs, rfl, .inl ⟨.inl (.inl (ex _ _ h1)), fun p hp => q _ (.tup l) _ _ (Go.new ex hp) (dat_newT h2 (ex.free hp)) m⟩⟩
  | [.tup l], m =>
    obtain ⟨v, r, rfl, ⟨a, xs, rfl, h1, h2⟩, d3⟩ := d
    cases d3
    exact ⟨a, xs, rfl, .inr ⟨Ex.tup ex h1, q _ (.tup l) G H (Go.refl ex) ⟨a, xs, rfl, h1, h2⟩ m⟩⟩
theorem ro_list : RON c (rToLst c.K) listD := fun ds R m G H vs ex d Q q => by
  match ds, m with
  | [.lst l], m =>
    obtain ⟨v, r, rfl, ⟨a, xs, rfl, h1, h2⟩, d3⟩ := d
    cases d3
    exact ⟨a, xs, rfl, .inl (.inl (.inl (ex _ _ h1))), fun p hp => q _ (.lst l) _ _ (Go.new ex hp) (dat_newL h2 (ex.free hp)) m⟩
  | [.tup l], m =>
    obtain ⟨v, r, rfl, ⟨a, xs, rfl, h1, h2⟩, d3⟩ := d
    cases d3
    exact ⟨a, xs, rfl, .inr (Ex.tup ex h1), fun p hp => q _ (.lst l) _ _ (Go.new ex hp) (dat_newL h2 (ex.free hp)) m⟩
theorem atI_map {α β : Type} {l : List α} {m : List β} (h : l.length = m.length) {i : Int} {b : β} (e : atI m i = some b) : ∃ (j : Nat) (a : α), atI l i = some a ∧ l[j]? = some a ∧ m[j]? = some b := by
  unfold atI at e ⊢
  rw [h]
  cases q : ixN m.length i with
  | none => rw [q] at e; cases e
  | some j =>
    rw [q] at e
    have e' : m[j]? = some b := e
    have hj : j < m.length := (List.getElem?_eq_some_iff.mp e').1
    exact ⟨j, l[j]'(by omega), by simp [h, hj], by simp [h, hj], e'⟩
theorem dats_at {G : Hp} {l : List Dt} {xs : List V} {i : Int} {d : Dt} (h2 : Dats c G l xs) (ha : atI l i = some d) : ∃ z, atI xs i = some z ∧ Dat c G d z := by
  obtain ⟨j, z, z1, z2, z3⟩ := atI_map h2.len ha
  obtain ⟨y, y1, y2⟩ := h2.get z3
  rw [z2] at y1; cases y1
  exact ⟨z, z1, y2⟩
theorem ro_ix : RO2 c (rIx c.K) ixD := fun d e R m G H v u ex d1 d2 Q q => by
  match d, e, m with
  | .lst l, .int i, ⟨y, ha, m⟩ =>
    obtain ⟨a, xs, rfl, h1, h2⟩ := d1
    cases d2
    obtain ⟨z, z1, z2⟩ := dats_at h2 ha
    exact .inl ⟨a, xs, i, z, rfl, rfl, .inl (.inl (ex _ _ h1)), z1, q z y G H (Go.refl ex) z2 m⟩
  | .sq l, .int i, ⟨y, ha, m⟩ =>
    obtain ⟨a, xs, rfl, h1, h2⟩ := d1
    cases d2
    obtain ⟨z, z1, z2⟩ := dats_at h2 ha
    exact .inl ⟨a, xs, i, z, rfl, rfl, ex.seq h1, z1, q z y G H (Go.refl ex) z2 m⟩
  | .tup l, .int i, ⟨y, ha, m⟩ =>
    obtain ⟨a, xs, rfl, h1, h2⟩ := d1
    cases d2
    obtain ⟨z, z1, z2⟩ := dats_at h2 ha
    exact .inr (.inl ⟨a, xs, i, z, rfl, rfl, Ex.tup ex h1, z1, q z y G H (Go.refl ex) z2 m⟩)
  | .str z, .int i, ⟨hl, k, ha, m⟩ =>
    cases d1; cases d2
    exact .inr (.inr ⟨z, i, k, rfl, rfl, sz_of hl, ha, q _ (.str _) G H (Go.refl ex) rfl m⟩)
theorem Dats.cut {G : Hp} {l : List Dt} {xs : List V} (d : Dats c G l xs) (lo hi : Option Int) : Dats c G (cutD l lo hi) (cutV xs lo hi) := by
  unfold cutV cutD
  rw [d.len]
  exact (d.drop _).take _
theorem ro_slL : ROS c (rSlL c.K) slLD := fun d lo hi R m G H v ex d1 Q q => by
  match d, m with
  | .lst l, m =>
    obtain ⟨a, xs, rfl, h1, h2⟩ := d1
    exact ⟨a, xs, rfl, .inl (.inl (ex _ _ h1)), fun p hp => q _ (.lst _) _ _ (Go.new ex hp) (dat_newL (h2.cut lo hi) (ex.free hp)) m⟩
theorem ro_slS : ROS c rSlS slSD := fun d lo hi R m G H v ex d1 Q q => by
  match d, m with
  | .str z, m => cases d1; exact ⟨z, rfl, sz_of m.1, q _ (.str _) G H (Go.refl ex) rfl m.2⟩
theorem ro_join : ROM c "str" (rJoin c.K) joinD := fun d ds R m G H v vs ex d1 d2 Q q => by
  match d, ds, m with
  | .str z, [.lst l], ⟨ys, e, hz, m⟩ =>
    obtain ⟨v, r, rfl, ⟨a, xs, rfl, h1, h2⟩, d3⟩ := d2
    cases d1; cases d3
    rw [strs_of h2 e] at h1
    exact ⟨z, a, ys, rfl, rfl, .inl (.inl (.inl (ex _ _ h1))), hz, q _ (.str _) G H (Go.refl ex) rfl m⟩
  | .str z, [.tup l], ⟨ys, e, hz, m⟩ =>
    obtain ⟨v, r, rfl, ⟨a, xs, rfl, h1, h2⟩, d3⟩ := d2
    cases d1; cases d3
    rw [strs_of h2 e] at h1
    exact ⟨z, a, ys, rfl, rfl, .inr (Ex.tup ex h1), hz, q _ (.str _) G H (Go.refl ex) rfl m⟩
theorem dats_map_str {G : Hp} : ∀ ys : List Str, Dats c G (ys.map .str) (ys.map V.str)
  | [] => rfl
  | y :: ys => ⟨_, _, rfl, rfl, dats_map_str ys⟩
theorem ro_split : ROM c "str" rSplit splitD := fun d ds R m G H v vs ex d1 d2 Q q => by
  match d, ds, m with
  | .str a, [.str b], ⟨⟨h1, h2⟩, m⟩ =>
    obtain ⟨w, r, rfl, d2, d3⟩ := d2
    cases d1; cases d2; cases d3
    exact ⟨a, b, rfl, rfl, h1, Nat.le_trans (Nat.add_le_add_right h2 2) (by decide), fun p hp => q _ (.lst _) _ _ (Go.new ex hp) (dat_newL (dats_map_str _) (ex.free hp)) m⟩
end
end Mw

set_option Elab.async false
set_option linter.all false
set_option maxRecDepth 100000
set_option maxHeartbeats 4000000
namespace Mw
open PySem PySem.Spec PyProof.Rows L2
/-! ### dice: a list of three ints, hidden: a roll leaves what is known of the heap as it was -/
/-- the def's own promise, with the list in sight -/
def spRoll0 : Sp := fun vs H Q _ => ∃ (d : Addr) (n x y z : Int), vs = [.ref d, .int n] ∧ H d = some (.lst [.int x, .int y, .int z]) ∧ 0 < n ∧ n < 2 ^ 64 ∧
  ∀ r x' y' z', 0 ≤ r → r < n → Q (.int r) (upd H d (.lst [.int x', .int y', .int z']))
def PreRoll : PreX := fun ds R _ => ∃ n, ds = [.dice, .int n] ∧ 0 < n ∧ n < 2 ^ 64 ∧ ∀ r, 0 ≤ r → r < n → R (.int r)
def spDice0 (K : PySem.W.Frag) : Sp := fun vs H Q _ => ∃ (a : Addr) (ns : List Int) (i : Nat), vs = [.ref a, .int i] ∧ SqL K H a (ns.map V.int) ∧
  ∀ p x y z H', Ex H H' → H p = none → H' p = some (.lst [.int x, .int y, .int z]) → Q (.ref p) H'
def PreDice : PreX := fun ds R _ => ∃ (ns : List Int) (i : Nat), ds = [.sq (ns.map .int), .int i] ∧ R .dice
section
variable {P : Program} {c : Kc} {mg : Str → Option Value} {base : Heap}
theorem ok_ext {w : World} {H' : Hp} {h : Heap} {a : Addr} {x y z : Int} (ok : ObjOk P w H' h a (.lst [.int x, .int y, .int z])) : ∀ H : Hp, ObjOk P w H h a (.ext (DiceH a)) := fun H => by
  obtain ⟨_, its, n, r, e⟩ := ok
  exact ⟨⟨x, y, z, its, n, r, e⟩, ⟨_, e⟩, fun h1 h2 ⟨x, y, z, its, n, r, e⟩ k => ⟨x, y, z, its, n, r, k _ e⟩⟩
/-- other objects do not ask how a list or a hidden thing is told -/
theorem ok_turn {w : World} {H H' : Hp} {h : Heap} {a b : Addr} {u o : HO} (ok : ObjOk P w H h b u) (ha : H a = some o) (h1 : ∀ c, o ≠ .own c) (h2 : ∀ xs, o ≠ .tup xs) (hb : ∀ c, c ≠ a → H' c = H c) : ObjOk P w H' h b u := by
  refine ok.stay (fun _ _ _ q => q) (fun c q => ?_) fun c xs q => ?_
  · rw [hb c (fun z => by subst z; rw [ha] at q; exact h1 b (Option.some.inj q))]; exact q
  · rw [hb c (fun z => by subst z; rw [ha] at q; exact h2 xs (Option.some.inj q))]; exact q
theorem roll_hide {k : Nat} {f : Addr} {fd : FuncData} {ps : List Str} (F : FnOk P c.w c.K mg base CX0 k f fd ps spRoll0) : FnOk P c.w c.K mg base CX0 k f fd ps (spN c PreRoll) := by
  refine ⟨fun vs H Q E h => ?_, fun A outer s H args us vs Q E hr e0 hb hv h => ?_⟩
  · obtain ⟨G, ds, R, e, d, ⟨n, rfl, h0, h1, hR⟩, q⟩ := h
    obtain ⟨v, r, rfl, ⟨a, rfl, ha⟩, v2, r2, rfl, d2, d3⟩ := d
    cases d2; cases d3
    exact F.len _ (upd H a (.lst [.int 0, .int 0, .int 0])) (fun _ _ => True) E ⟨a, n, 0, 0, 0, rfl, upd_same, h0, h1, fun _ _ _ _ _ _ => trivial⟩
  · obtain ⟨G, ds, R, e, d, ⟨n, rfl, h0, h1, hR⟩, q⟩ := h
    obtain ⟨v, r, rfl, ⟨a, rfl, ha⟩, v2, r2, rfl, d2, d3⟩ := d
    cases d2; cases d3
    have hH : H a = some (.ext (DiceH a)) := e _ _ ha
    obtain ⟨⟨x, y, z, its, m, rv, eo⟩, _, _⟩ := e0.hok a _ hH
    have e1 : Env0 P c.w c.K mg base A outer s (upd H a (.lst [.int x, .int y, .int z])) := by
      refine ⟨e0.frames, e0.mod, fun b o hb => ⟨(e0.bs b o hb).1, ?_⟩, e0.bsz, e0.funs, fun b hb => ?_, fun b u hb => ?_, e0.bare⟩
      · rw [upd_ne (fun z => by subst z; rw [(e0.bs _ o hb).2] at hH; cases hH)]; exact (e0.bs b o hb).2
      · rw [upd_ne (fun z => by subst z; rw [e0.frf _ hb] at hH; cases hH)]; exact e0.frf b hb
      · by_cases c : b = a
        · subst c
          rw [upd_same] at hb
          cases hb
          exact ⟨by show 3 ≤ sizeLine; decide, its, m, rv, eo⟩
        · rw [upd_ne c] at hb
          exact ok_turn (e0.hok b u hb) hH (fun _ z => nomatch z) (fun _ z => nomatch z) fun c' hc => upd_ne hc
    refine codeAny_mono (F.run A outer s _ args us _ (fun v H' => ∃ r x' y' z', v = .int r ∧ 0 ≤ r ∧ r < n ∧ H' = upd H a (.lst [.int x', .int y', .int z'])) E hr e1 hb hv
      ⟨a, n, x, y, z, rfl, upd_same, h0, h1, fun r x' y' z' hr0 hr1 => ⟨r, x', y', z', rfl, hr0, hr1, upd_upd⟩⟩) fun r s' hq => ?_
    cases r with
    | error _ => exact hq
    | ok fl =>
      cases fl with
      | next => exact hq
      | brk => exact hq
      | cont => exact hq
      | ret u =>
        obtain ⟨v, H', os, bare, un, hok, rl, r, x', y', z', rfl, hr0, hr1, rfl⟩ := hq
        have ne : ∀ {b}, H b = none → b ≠ a := fun {b} q z => by rw [z, hH] at q; cases q
        refine ⟨.int r, H, os, bare, ⟨fun b o q n1 n2 n3 => un.keep b o q (by rw [upd_ne (ne n1)]; exact n1) n2 n3, fun b o q n1 n2 n3 => un.slot b o q (by rw [upd_ne (ne n1)]; exact n1) n2 n3,
          fun b o q n1 n2 => n1, un.there, fun b xs q => q, fun b o u q => q, fun b ps q => ⟨#[], by rw [q]; simp⟩⟩, fun b u hb => ?_, rl, q _ (.int r) G H (Go.refl e) rfl (hR r hr0 hr1)⟩
        by_cases c : b = a
        · subst c
          rw [hH] at hb
          cases hb
          exact ok_ext (hok b _ upd_same) H
        · exact ok_turn (hok b u (by rw [upd_ne c]; exact hb)) (a := a) upd_same (fun _ z => nomatch z) (fun _ z => nomatch z) fun c' hc => (upd_ne hc).symm
theorem dice_hide {k : Nat} {f : Addr} {fd : FuncData} {ps : List Str} (F : FnOk P c.w c.K mg base CX0 k f fd ps (spDice0 c.K)) : FnOk P c.w c.K mg base CX0 k f fd ps (spN c PreDice) := by
  have itsOf : ∀ {G : Hp} {ns : List Int} {xs : List V}, Dats c G (ns.map .int) xs → xs = ns.map V.int := fun {G} {ns} => by
    induction ns with
    | nil => intro xs h; exact h
    | cons n ns ih => rintro xs ⟨x, r, h1, h2, h3⟩; cases h2; rw [h1, ih h3]; rfl
  have pre : ∀ {vs H Q E}, spN c PreDice vs H Q E → spDice0 c.K vs H (fun v H' => ∃ p, v = .ref p ∧ Ex H H' ∧ H p = none ∧ (∃ x y z, H' p = some (.lst [.int x, .int y, .int z])) ∧ Q (.ref p) (upd H' p (.ext (DiceH p)))) E := fun {vs H Q E} h => by
    obtain ⟨G, ds, R, e, d, ⟨ns, i, rfl, hR⟩, q⟩ := h
    obtain ⟨v, r, rfl, ⟨a, xs, rfl, ha, hd⟩, v2, r2, rfl, d2, d3⟩ := d
    cases d2; cases d3
    refine ⟨a, ns, i, rfl, by rw [← itsOf hd]; exact e.seq ha, fun p x y z H' e' hp hl => ⟨p, rfl, e', hp, ⟨x, y, z, hl⟩, q _ .dice (upd G p (.ext (DiceH p))) _ ⟨Ex.new (e.free hp), fun b h1 h2 => ?_, upd_mono (e.trans e') p _, fun b o z => ?_⟩ ⟨p, rfl, upd_same⟩ hR⟩⟩
    · rw [upd_ne (fun c => h2 (by rw [c]; exact hp))]; exact h1
    · rw [upd_ne (ne_of_none z hp)]; exact e' b o z
  refine ⟨fun vs H Q E h => F.len _ _ _ _ (pre h), fun A outer s H args us vs Q E hr e0 hb hv h => ?_⟩
  refine codeAny_mono (F.run A outer s H args us vs _ E hr e0 hb hv (pre h)) fun r s' hq => ?_
  cases r with
  | error _ => exact hq
  | ok fl =>
    cases fl with
    | next => exact hq
    | brk => exact hq
    | cont => exact hq
    | ret u =>
      obtain ⟨v, H', os, bare, un, hok, rl, p, rfl, e', hp, ⟨x, y, z, hl⟩, q⟩ := hq
      have np : ∀ {b}, H' b = none → b ≠ p := fun {b} q z => by rw [z, hl] at q; cases q
      refine ⟨.ref p, _, os, bare, ⟨un.keep, un.slot, fun b o q1 n1 n2 => ?_, un.there, fun b xs q => ?_, fun b o u q => ?_, fun b ps q => ?_⟩, fun b u hb => ?_, rl, q⟩
      · have := un.free b o q1 n1 n2
        rw [upd_ne (np this)]; exact this
      · rw [upd_ne (ne_of_none q hp)]; exact un.tups b xs q
      · rw [upd_ne (ne_of_none q hp)]; exact un.frzs b o u q
      · rw [upd_ne (ne_of_none q hp)]; exact un.tbls b ps q
      · by_cases c : b = p
        · subst c
          rw [upd_same] at hb
          cases hb
          exact ok_ext (hok b _ hl) _
        · rw [upd_ne c] at hb
          exact ok_turn (hok b u hb) (a := p) hl (fun _ z => nomatch z) (fun _ z => nomatch z) fun c' hc => by rw [upd_ne hc]
end
/-- a def that raises nothing, as one that may -/
theorem gmx_calm {P : Program} {c : Kc} {mg : Str → Option Value} {base : Heap} {k : Nat} {f : Addr} {Pre : PreX} (hp : ∀ ds R X, Pre ds R X → Pre ds R xF) (F : FnR P c.w c.K mg base CX0 k f (spN c Pre)) : Gmx P c mg base k f Pre := by
  intro A outer s H us vs Q E hr e0 hv h
  obtain ⟨G, ds, R, X, e, d, p, q, _⟩ := h
  refine codeAny_mono (F A outer s H us vs Q E hr e0 hv ⟨G, ds, R, e, d, hp ds R X p, q⟩) fun r s' hq => ?_
  cases r with
  | error _ => exact hq.elim
  | ok fl => cases fl <;> exact hq
theorem gfx_calm {P : Program} {c : Kc} {mg : Str → Option Value} {base : Heap} {k : Nat} {x : Str} {st : Stmt} {f : Addr} {fd : FuncData} {ps : List Str} {Pre : PreX} (hp : ∀ ds R X, Pre ds R X → Pre ds R xF) (F : Fun c.K x x st f fd) (b : Binds c.K fd ps []) (m : mg x = some (.ref f))
    (ok : FnOk P c.w c.K mg base CX0 k f fd ps (spN c Pre)) : Gfx P c mg base x k Pre := ⟨f, gmx_calm hp (frx_of ok b), m, F.kp⟩
theorem roll_calm : ∀ ds R X, PreRoll ds R X → PreRoll ds R xF := fun _ _ _ h => h
theorem dice_calm : ∀ ds R X, PreDice ds R X → PreDice ds R xF := fun _ _ _ h => h
section
variable {c : Kc} {x : Mx}
theorem st_asg_raw {te : TE} {m : EM} {i : Nat} {ss : SS} {R : Dt → Prop} {D : Ends} {σ : L2.St} {G H : Hp} {u : TS} (h : RE c x none te m) (hm : m ss R xF) (e : Ex G H) (sv : Sv c x G H σ ss)
    (k : ∀ v d G' H', Go G H G' H' → Dat c G' d v → R d → u D (σ.set i (some v)) H') : tSeq (tAsg te (gName i)) u D σ H := h ss R xF G σ H hm e sv _ (fun v d G' H' g dv hr => k v d G' H' g dv hr) fun _ _ _ _ _ _ _ hc => hc.elim
theorem ret_new_raw {ta : TA} {m : AM} {ss : SS} {R : List Dt → Prop} {D : Ends} {σ : L2.St} {G H : Hp} (h : RA c x none ta m) (hm : m ss R xF) (e : Ex G H) (sv : Sv c x G H σ ss)
    (k : ∀ vs ds G' H', Go G H G' H' → Dats c G' ds vs → R ds → vs.length ≤ 1000 ∧ ∀ p, H' p = none → D.rt (.ref p) (upd H' p (.lst vs))) : tRet (tLst ta) D σ H := h ss R xF G σ H hm e sv _ (fun vs ds G' H' g dv hr => let ⟨k1, k2⟩ := k vs ds G' H' g dv hr; ⟨sz_of (by omega), k2⟩) fun _ _ _ _ _ _ _ hc => hc.elim
theorem ifbI {b : Bool} {A B : Prop} (h1 : b = true → A) (h2 : b = false → B) : if b = true then A else B := by
  cases b with
  | true => exact h1 rfl
  | false => exact h2 rfl
theorem modb {e m : Int} (h : 0 < m) (h2 : m < 2 ^ 64) : -(2 ^ 64) < e % m ∧ e % m < 2 ^ 64 := by
  have h3 := Int.emod_nonneg e (by omega : m ≠ 0)
  have h4 := Int.emod_lt_of_pos e h
  omega
theorem modm {e m j : Int} (h : 0 < m) (h2 : m < 2 ^ 64) : CMul (e % m) j := .inl (modb h h2)
theorem divw {i n : Int} (h0 : 0 < n) (h1 : n < 2 ^ 64) : CDivW i n := wide_div h0 (b := 64) (by omega) (by decide) (by decide)
/-! ### tuples' slices -/
theorem ro_slT : ROS c (rSlA c.K) slTD := fun d lo hi R m G H v ex d1 Q q => by
  match d, m with
  | .tup l, m =>
    obtain ⟨a, xs, rfl, h1, h2⟩ := d1
    refine ⟨a, xs, rfl, Ex.tup ex h1, fun z => ?_, fun _ p hp => q _ (.tup _) _ _ (Go.new ex hp) (dat_newT (h2.cut lo hi) (ex.free hp)) m⟩
    have e : cutD l lo hi = l := by
      have hl := h2.len
      unfold cutD
      rw [hl] at z
      rw [z.1, z.2, List.drop_zero, Nat.sub_zero, List.take_length]
    have m : R (.tup (cutD l lo hi)) := m
    rw [e] at m
    exact q _ (.tup l) G H (Go.refl ex) ⟨a, xs, rfl, h1, h2⟩ m
theorem slTup {X : Cx} {K : PySem.W.Frag} (hK : X.K = K) : SlR X (rSlA K) := by subst hK; exact sl_tupA
end
/-! ### classes of the text -/
structure ClsI (K : PySem.W.Frag) (C : Addr) : Prop where
  cls : Cls K C
  si : SlX.SIsi K C
theorem kit_no {K : PySem.W.Frag} {C : Addr} {t : Value} (h0 : t ≠ .ref C) (h1 : PySem.W.isClsIn K C = true) (h2 : PySem.W.typeIn K (.ref C) = some (.type "type")) (h3 : PySem.W.subIn K t (.ref C) = some false) : PySem.W.kitOne K t (.ref C) = some false := by
  unfold PySem.W.kitOne
  rw [if_neg (by simpa using h0)]
  show (if ((PySem.W.clsIn K C).isSome && PySem.W.typeIn K (.ref C) == some (.type "type")) = true then PySem.W.subIn K t (.ref C) else none) = some false
  rw [if_pos (by rw [h2, show (PySem.W.clsIn K C).isSome = true from h1]; simp)]
  exact h3
theorem kit_self {K : PySem.W.Frag} {C : Addr} : PySem.W.kitOne K (.ref C) (.ref C) = some true := by
  unfold PySem.W.kitOne
  rw [if_pos (by simp)]
theorem kit_bt {K : PySem.W.Frag} {C : Addr} {n : String} (h : PySem.W.subIn K (.ref C) (.type n) = some false) (hm : PySem.W.kitOne K (.ref C) (.type n) = PySem.W.subIn K (.ref C) (.type n)) : PySem.W.kitOne K (.ref C) (.type n) = some false := by rw [hm, h]
/-- what is asked of all classes -/
structure Kls (c : Kc) (C : Nat) : Prop where
  ci : ClsI c.K (c.ca C)
  kC : ∀ T ∈ kinds7, PySem.W.kitOne c.K (.type T) (.ref (c.ca C)) = some false
  kT : ∀ T ∈ kinds7, PySem.W.kitOne c.K (.ref (c.ca C)) (.type T) = some false
  kD : ∀ D ∈ c.cl, D ≠ C → PySem.W.kitOne c.K (.ref (c.ca D)) (.ref (c.ca C)) = some false
def Klss (c : Kc) : Prop := ∀ C ∈ c.cl, Kls c C
section
variable {c : Kc}
def tyVal (c : Kc) : Dt → Option Value
  | .ins C _ => some (.ref (c.ca C))
  | d => (tyN d).map .type
theorem tyx_of {G : Hp} {d : Dt} {v : V} {T : String} (h : Dat c G d v) (e : tyN d = some T) : TyX c.K G v (.type T) := by
  cases d with
  | non => cases h; cases e; exact .base .non
  | bl _ => cases h; cases e; exact .base (.bl _)
  | int _ => cases h; cases e; exact .base (.int _)
  | str _ => cases h; cases e; exact .base (.str _)
  | lst _ => obtain ⟨_, _, rfl, h, _⟩ := h; cases e; exact .base (.lst h)
  | tup _ =>
    obtain ⟨_, _, rfl, h, _⟩ := h
    cases e
    rcases h with (h | ⟨o, h⟩) | ⟨o, _, _, h, c, _⟩
    · exact .base (.tup h)
    · exact .fTuple h
    · exact .kTuple h c
  | dic _ =>
    obtain ⟨_, _, rfl, h, _⟩ := h
    cases e
    rcases h with h | ⟨o, h⟩
    · exact .base (.dK h)
    · exact .fDict h
  | _ => cases e
theorem tyx_val (hk : Klss c) {G : Hp} {d : Dt} {v : V} {t : Value} (h : Dat c G d v) (e : tyVal c d = some t) : TyX c.K G v t := by
  cases d with
  | ins C l =>
    obtain ⟨a, dx, fs, rfl, ha, hc, _⟩ := h
    cases e
    have k := (hk C hc).ci
    exact .base (.ins ha k.cls k.si.ca k.si.cn k.si.ct k.si.cm)
  | _ =>
    unfold tyVal at e
    obtain ⟨T, e1, rfl⟩ := Option.map_eq_some_iff.mp e
    exact tyx_of h e1
theorem ro_isi (hk : Klss c) : RON c (rIsi c.K) isiD := fun ds R m G H vs ex d Q q => by
  unfold isiD at m
  split at m
  · rename_i d0 n
    obtain ⟨hn, m⟩ := m
    obtain ⟨v, r, rfl, d1, v2, r2, rfl, d2, d3⟩ := d
    cases d2; cases d3
    split at m
    · rename_i C l
      obtain ⟨a, dx, fs, rfl, ha, hc, hf⟩ := d1
      have k := hk C hc
      exact ⟨.ref a, .ty n, .ref (c.ca C), .type n, false, rfl, .ty n, .base (.ins (ex _ _ ha) k.ci.cls k.ci.si.ca k.ci.si.cn k.ci.si.ct k.ci.si.cm), k.kT n hn, q _ (.bl _) G H (Go.refl ex) rfl m⟩
    · obtain ⟨T, hT, m⟩ := m
      exact ⟨v, .ty n, .type T, .type n, isB T n, rfl, .ty n, tyx_of (d1.up ex) hT, kit_ty (kitB_is T (tyN_kinds hT) n hn), q _ (.bl _) G H (Go.refl ex) rfl m⟩
  · rename_i d0 C
    obtain ⟨v, r, rfl, d1, v2, r2, rfl, ⟨rfl, hC⟩, d3⟩ := d
    cases d3
    split at m
    · rename_i C' l
      obtain ⟨a, dx, fs, rfl, ha, hc, hf⟩ := d1
      have k := hk C' hc
      refine ⟨.ref a, .ref (c.ca C), .ref (c.ca C'), .ref (c.ca C), decide (C' = C), rfl, .own _, .base (.ins (ex _ _ ha) k.ci.cls k.ci.si.ca k.ci.si.cn k.ci.si.ct k.ci.si.cm), ?_, q _ (.bl _) G H (Go.refl ex) rfl m⟩
      by_cases e : C' = C
      · subst e; rw [decide_eq_true rfl]; exact kit_self
      · rw [decide_eq_false e]; exact (hk C hC).kD C' hc e
    · obtain ⟨T, hT, m⟩ := m
      exact ⟨v, .ref (c.ca C), .type T, .ref (c.ca C), false, rfl, .own _, tyx_of (d1.up ex) hT, (hk C hC).kC T (tyN_kinds hT), q _ (.bl _) G H (Go.refl ex) rfl m⟩
  · exact m.elim
end
/-! ### own lists -/
section
variable {c : Kc} {x : Mx} {w : Option WX} {G G' H H' H0 : Hp} {σ : L2.St} {ss : SS}
theorem set_self {α : Type} : ∀ {l : List α} {i : Nat} {x : α}, l[i]? = some x → l.set i x = l
  | [], _, _, h => by simp at h
  | _ :: _, 0, _, h => by simp at h; subst h; rfl
  | y :: l, i + 1, x, h => by
    have := set_self (l := l) (i := i) (x := x) (by simpa using h)
    simp [this]
theorem Go.turn {G0 : Hp} {a : Addr} {o : HO} (g : Go G0 H0 G H) (hG : G a = none) (h0 : H0 a = none) : Go G0 H0 G (upd H a o) :=
  ⟨g.kn, g.nw, fun b u z => by rw [upd_ne (ne_of_none z hG)]; exact g.ink b u z, fun b u z => by rw [upd_ne (ne_of_none z h0)]; exact g.up b u z⟩
theorem Go.tell {G0 : Hp} {a : Addr} {o : HO} (g : Go G0 H0 G H) (hG : G a = none) (h0 : H0 a = none) (hH : H a = some o) : Go G0 H0 (upd G a o) H :=
  ⟨g.kn.trans (Ex.new hG), fun b h1 h2 => by rw [upd_ne (fun c => h2 (by rw [c]; exact h0))]; exact g.nw b h1 h2, fun b u z => by
    by_cases c : b = a
    · subst c; rw [upd_same] at z; rw [hH]; exact z
    · rw [upd_ne c] at z; exact g.ink b u z, g.up⟩
/-- the slot j takes the object a, which no slot has as its own -/
theorem Sl.takeOwn (h : Sl c x H0 G H σ ss) {j : Nat} {d : Dt} {a : Addr} {o : HO} (hn : H a = none) (h0 : H0 a = none) (hg : G a = none) (ho : OwnD c G d o) : Sl c x H0 G (upd H a o) (σ.set j (some (.ref a))) (ss.set j (.own d)) := by
  have ne : ∀ {b : Addr} {u : HO}, H b = some u → b ≠ a := fun e => ne_of_none e hn
  refine ⟨⟨by simp [h.sv.len], fun i y z => ?_, fun i y z => ?_, fun i C l z => ?_, fun i C l z => ?_⟩, fun i y b z q => ?_, fun i k y y' b z1 z2 q1 q2 => ?_, fun i C l z => ?_, fun i k C l y z1 z2 q => ?_, fun i k C D l m z1 z2 => ?_⟩
  · rcases get_set' z with ⟨rfl, e1, b⟩ | ⟨z', e1⟩
    · cases e1
    · rw [List.getElem?_set_ne e1]; exact h.sv.dat i y z'
  · rcases get_set' z with ⟨rfl, e1, b⟩ | ⟨z', e1⟩
    · cases e1
      exact ⟨a, o, by rw [List.getElem?_set_self (by rw [h.sv.len]; exact b)], hg, upd_same, ho⟩
    · rw [List.getElem?_set_ne e1]
      obtain ⟨b, u, q1, q2, q3, q4⟩ := h.sv.own i y z'
      exact ⟨b, u, q1, q2, by rw [upd_ne (ne q3)]; exact q3, q4⟩
  · rcases get_set' z with ⟨rfl, e1, b⟩ | ⟨z', e1⟩
    · cases e1
    · rw [List.getElem?_set_ne e1]
      obtain ⟨q1, q2, dx, fs, q3, q5, q4⟩ := h.sv.slf i C l z'
      exact ⟨q1, q2, dx, fs, by rw [upd_ne (ne q3)]; exact q3, q5, q4⟩
  · rcases get_set' z with ⟨rfl, e1, b⟩ | ⟨z', e1⟩
    · cases e1
    · rw [List.getElem?_set_ne e1]; exact h.sv.exc i C l z'
  · rcases get_set' z with ⟨rfl, e1, bb⟩ | ⟨z', e1⟩
    · rw [List.getElem?_set_self (by rw [h.sv.len]; exact bb)] at q; cases q; exact h0
    · rw [List.getElem?_set_ne e1] at q; exact h.new i y b z' q
  · have own : ∀ {i : Nat} {y : Dt}, ss[i]? = some (.own y) → σ[i]? = some (some (.ref a)) → False := fun {i y} z q => by
      obtain ⟨b, u, r1, r2, r3, r4⟩ := h.sv.own i y z
      rw [q] at r1; cases r1
      rw [hn] at r3; cases r3
    rcases get_set' z1 with ⟨rfl, e1, bb⟩ | ⟨z1', e1⟩
    · rcases get_set' z2 with ⟨rfl, e2, bb2⟩ | ⟨z2', e2⟩
      · rfl
      · rw [List.getElem?_set_self (by rw [h.sv.len]; exact bb)] at q1; cases q1
        rw [List.getElem?_set_ne e2] at q2
        exact (own z2' q2).elim
    · rcases get_set' z2 with ⟨rfl, e2, bb2⟩ | ⟨z2', e2⟩
      · rw [List.getElem?_set_self (by rw [h.sv.len]; exact bb2)] at q2; cases q2
        rw [List.getElem?_set_ne e1] at q1
        exact (own z1' q1).elim
      · rw [List.getElem?_set_ne e1] at q1
        rw [List.getElem?_set_ne e2] at q2
        exact h.sep i k y y' b z1' z2' q1 q2
  · rcases get_set' z with ⟨rfl, e1, b⟩ | ⟨z', e1⟩
    · cases e1
    · exact h.me0 i C l z'
  · rcases get_set' z1 with ⟨rfl, e1, b⟩ | ⟨z1', e1⟩
    · cases e1
    · rcases get_set' z2 with ⟨rfl, e2, bb2⟩ | ⟨z2', e2⟩
      · rw [List.getElem?_set_self (by rw [h.sv.len]; exact bb2)] at q; cases q
        obtain ⟨_, _, dx, fs, q3, _⟩ := h.sv.slf i C l z1'
        rw [hn] at q3; cases q3
      · rw [List.getElem?_set_ne e2] at q
        exact h.mes i k C l y z1' z2' q
  · rcases get_set' z1 with ⟨rfl, e1, b⟩ | ⟨z1', e1⟩
    · cases e1
    · rcases get_set' z2 with ⟨rfl, e2, bb2⟩ | ⟨z2', e2⟩
      · cases e2
      · exact h.me1 i k C D l m z1' z2'
/-- the object of a slot is changed -/
theorem Sl.turnOwn (h : Sl c x H0 G H σ ss) {j : Nat} {d d' : Dt} {a : Addr} {o : HO} (hs : ss[j]? = some (.own d)) (ha : σ[j]? = some (some (.ref a))) (ho : OwnD c G d' o) : Sl c x H0 G (upd H a o) σ (ss.set j (.own d')) := by
  have hl : j < ss.length := by rcases List.getElem?_eq_some_iff.mp hs with ⟨x, _⟩; exact x
  obtain ⟨a', o', h1, h2, h3, h4⟩ := h.sv.own j d hs
  rw [ha] at h1; cases h1
  have bk : ∀ {i : Nat} {y : Dt}, (ss.set j (.own d'))[i]? = some (.own y) → ∃ y', ss[i]? = some (.own y') := fun {i y} z => by
    rcases get_set' z with ⟨rfl, e1, _⟩ | ⟨z', _⟩
    · exact ⟨_, hs⟩
    · exact ⟨_, z'⟩
  have bs : ∀ {i : Nat} {C : Nat} {l : List (Str × Dt)}, (ss.set j (.own d'))[i]? = some (.slf C l) → ss[i]? = some (.slf C l) := fun {i C l} z => by
    rcases get_set' z with ⟨rfl, e1, _⟩ | ⟨z', _⟩
    · cases e1
    · exact z'
  refine ⟨⟨by rw [h.sv.len]; simp, fun i y z => ?_, fun i y z => ?_, fun i C l z => ?_, fun i C l z => ?_⟩, fun i y b z q => ?_, fun i k y y' b z1 z2 q1 q2 => ?_, fun i C l z => h.me0 i C l (bs z), fun i k C l y z1 z2 q => ?_, fun i k C D l m z1 z2 => h.me1 i k C D l m (bs z1) (bs z2)⟩
  · rcases get_set' z with ⟨rfl, e1, b⟩ | ⟨z', e1⟩
    · cases e1
    · exact h.sv.dat i y z'
  · rcases get_set' z with ⟨rfl, e1, b⟩ | ⟨z', e1⟩
    · cases e1; exact ⟨a, o, ha, h2, upd_same, ho⟩
    · obtain ⟨b, u, q1, q2, q3, q4⟩ := h.sv.own i y z'
      have ne : b ≠ a := fun e => by subst e; exact e1 (h.sep j i d y b hs z' ha q1)
      exact ⟨b, u, q1, q2, by rw [upd_ne ne]; exact q3, q4⟩
  · have z := bs z
    obtain ⟨q1, q2, dx, fs, q3, q5, q4⟩ := h.sv.slf i C l z
    have ne : x.me ≠ a := fun e => h.mes i j C l d z hs (by rw [ha, e])
    exact ⟨q1, q2, dx, fs, by rw [upd_ne ne]; exact q3, q5, q4⟩
  · rcases get_set' z with ⟨rfl, e1, b⟩ | ⟨z', e1⟩
    · cases e1
    · exact h.sv.exc i C l z'
  · obtain ⟨y', z'⟩ := bk z
    exact h.new i y' b z' q
  · obtain ⟨y1, z1'⟩ := bk z1
    obtain ⟨y2, z2'⟩ := bk z2
    exact h.sep i k y1 y2 b z1' z2' q1 q2
  · obtain ⟨y', z'⟩ := bk z2
    exact h.mes i k C l y' (bs z1) z' q
/-- .. is told: data from here on -/
theorem Sl.tell (h : Sl c x H0 G H σ ss) {j : Nat} {d : Dt} {a : Addr} {o : HO} (hs : ss[j]? = some (.own d)) (ha : σ[j]? = some (some (.ref a))) (hG : G a = none) (hH : H a = some o) (ho : OwnD c G d o) : Sl c x H0 (upd G a o) H σ (ss.set j (.dt d)) := by
  have e := Ex.new (o := o) hG
  have bo : ∀ {i : Nat} {y : Dt}, (ss.set j (.dt d))[i]? = some (.own y) → ss[i]? = some (.own y) ∧ j ≠ i := fun {i y} z => by
    rcases get_set' z with ⟨rfl, e1, _⟩ | z'
    · cases e1
    · exact z'
  have bs : ∀ {i : Nat} {C : Nat} {l : List (Str × Dt)}, (ss.set j (.dt d))[i]? = some (.slf C l) → ss[i]? = some (.slf C l) := fun {i C l} z => by
    rcases get_set' z with ⟨rfl, e1, _⟩ | ⟨z', _⟩
    · cases e1
    · exact z'
  refine ⟨⟨by rw [h.sv.len]; simp, fun i y z => ?_, fun i y z => ?_, fun i C l z => ?_, fun i C l z => ?_⟩, fun i y b z q => h.new i y b (bo z).1 q, fun i k y y' b z1 z2 q1 q2 => h.sep i k y y' b (bo z1).1 (bo z2).1 q1 q2, fun i C l z => h.me0 i C l (bs z), fun i k C l y z1 z2 q => h.mes i k C l y (bs z1) (bo z2).1 q, fun i k C D l m z1 z2 => h.me1 i k C D l m (bs z1) (bs z2)⟩
  · rcases get_set' z with ⟨rfl, e1, b⟩ | ⟨z', e1⟩
    · cases e1; exact ⟨.ref a, ha, OwnD.dat hG ho⟩
    · obtain ⟨v, q1, q2⟩ := h.sv.dat i y z'
      exact ⟨v, q1, q2.up e⟩
  · obtain ⟨z', e1⟩ := bo z
    obtain ⟨b, u, q1, q2, q3, q4⟩ := h.sv.own i y z'
    have ne : b ≠ a := fun e => by subst e; exact e1 (h.sep j i d y b hs z' ha q1)
    exact ⟨b, u, q1, by rw [upd_ne ne]; exact q2, q3, q4.up e⟩
  · have z := bs z
    obtain ⟨q1, q2, dx, fs, q3, q5, q4⟩ := h.sv.slf i C l z
    have ne : x.me ≠ a := fun e => h.mes i j C l d z hs (by rw [ha, e])
    exact ⟨q1, by rw [upd_ne ne]; exact q2, dx, fs, q3, q5, q4.up e⟩
  · rcases get_set' z with ⟨rfl, e1, b⟩ | ⟨z', e1⟩
    · cases e1
    · obtain ⟨q1, q2⟩ := h.sv.exc i C l z'
      exact ⟨q1, q2.up e⟩
/-- told, then the rest -/
def tellW (j : Nat) (a : SM) : SM := fun ss k => match ss[j]? with
  | some (.own d) => a (ss.set j (.dt d)) k
  | _ => a ss k
theorem rs_tell {ts : TS} {sm : SM} {j : Nat} (h : RS c x w ts sm) : RS c x w ts (tellW j sm) := fun ss k G0 H0 D σ G H m K g s => by
  unfold tellW at m
  split at m
  · rename_i d hs
    obtain ⟨a, o, h1, h2, h3, h4⟩ := s.sv.own j d hs
    exact h _ k G0 H0 D σ (upd G a o) H m K (g.tell h2 (s.new j d a hs h1) h3) (s.tell hs h1 h2 h3 h4)
  · exact h ss k G0 H0 D σ G H m K g s
variable {ta : TE} {a : EM} {tas : TA} {as : AM}
/-- x = [..], its own -/
def newLW (i : Nat) (as : AM) : SM := fun ss k => as ss (fun l => l.length ≤ 1000000 ∧ k (.nx (ss.set i (.own (.lst l))))) fun C l => k (.ex ss C l)
theorem rs_newL {i : Nat} (ha : RA c x w tas as) : RS c x w (tAsg (tLst tas) (gName i)) (newLW i as) := fun ss k G0 H0 D σ G H m K g s =>
  ha ss _ _ G σ H m g.ink s.sv _ (fun vs l G1 H1 g1 d1 m1 => ⟨by rw [d1.len]; exact sz_of m1.1, fun p hp => by
    have gg := g.trans g1
    have h0 : H0 p = none := gg.up.free hp
    have hG : G1 p = none := gg.ink.free hp
    exact K.nx _ _ G1 (upd H1 p (.lst vs)) (gg.turn hG h0) ((s.go g1).takeOwn (d := .lst l) hp h0 hG ⟨vs, rfl, d1⟩) m1.2⟩) (kx_of K g s)
/-- xs.append(e) -/
def appW (i : Nat) (as : AM) : SM := fun ss k => match ss[i]? with
  | some (.own (.lst l)) => as ss (fun ds => match ds with
    | [y] => l.length < 1000000 ∧ k (.nx (ss.set i (.own (.lst (l ++ [y])))))
    | _ => False) fun C l => k (.ex ss C l)
  | _ => False
theorem rs_append {i : Nat} (ha : RA c x w tas as) : RS c x w (tDrop (tBM c.K "list" rAppend (tVar i) tas)) (appW i as) := fun ss k G0 H0 D σ G H m K g s => by
  unfold appW at m
  split at m
  · rename_i l hs
    obtain ⟨p, o, h1, h2, h3, xs, rfl, h6⟩ := s.sv.own i _ hs
    refine ⟨.ref p, h1, .inl ⟨rfl, xs, .inl (.inl h3)⟩, ha ss _ _ G σ H m g.ink s.sv _ (fun vs ds G1 H1 g1 d1 m1 => ?_) (kx_of K g s)⟩
    match ds, m1 with
    | [y], ⟨hl, m1⟩ =>
      obtain ⟨v, r1, rfl, e1, e2⟩ := d1
      cases e2
      have s1 := s.go g1
      obtain ⟨p', o, k1, k2, k3, xs, rfl, k6⟩ := s1.sv.own i _ hs
      rw [h1] at k1; cases k1
      exact ⟨p, xs, v, rfl, rfl, k3, by rw [k6.len]; exact sz_lt hl, K.nx σ _ G1 _ ((g.trans g1).turn k2 (s.new i _ p hs h1)) (s1.turnOwn (d' := .lst (l ++ [y])) hs h1 ⟨_, rfl, k6.snoc e1⟩) m1⟩
  · exact m.elim
end
end Mw

set_option Elab.async false
set_option linter.all false
set_option maxRecDepth 100000
set_option maxHeartbeats 4000000
namespace Mw
open PySem PySem.Spec PyProof.Rows L2
/-! ### raise -/
def tRaise0 (C : Addr) (W : WX) : TS := fun _ σ H => W (.ref C) none σ H
def raise0W (C : Nat) : SM := fun ss k => k (.ex ss C [])
/-- an exception class of the text without an __init__ of its own -/
structure XoC (K : PySem.W.Frag) (mg : Str → Option Value) (nm : Str) (C : Addr) (bmB : List Value) (newId : String) : Prop where
  m : mg nm = some (.ref C)
  xi : PySem.W.excIn K C bmB newId = true
  kp : PySem.W.keepIn K (.ref C) = true
  sb : PySem.W.subIn K (.ref C) (.type "BaseException") = some true
  ty : PySem.W.typeIn K (.ref C) = some (.type "type")
  hd : PySem.W.hasDictIn K C = true
section
variable {X : Cx} {C : Addr} {W : WX} {c : Kc} {x : Mx}
theorem ps_raise0 {bmB : List Value} {B newId initId : String} {x m : Str} {j : Nat} {p p2 pos pos' : Pos} (F : ExcBaseFacts B newId initId bmB) (q : PySem.W.excIn X.K C bmB newId = true) (gC : X.mg x = some (.ref C)) (kC : PySem.W.keepIn X.K (.ref C) = true) (r : Raises X (.ref C)) (hc : X.calm = true) (tk : Takes X W) (hg : Gl X x)
    (hdb : (x == ("__debug__" : Str)) = false := by decide) : PS X (.Raise (some (.Call (.Name x p) [.Constant (.str m) j p2] [] pos)) none pos') (tRaise0 C W) := ps_raise hc tk (pmk_own F q gC kC r hg hdb)
theorem rs_raise0 {D : Nat} : RS c x (some W) (tRaise0 (c.ca D) W) (raise0W D) := fun ss k G0 H0 E σ G H m K g s => K.ex σ ss D [] none G H g s (.inl ⟨rfl, rfl⟩) m
end
/-! ### try .. except C: -/
/-- the own classes above an exception class of the package -/
def exUp (n : Nat) : List Nat := if 1 ≤ n ∧ n ≤ 10 then [n, 0] else [n]
def tryW (xl : List Nat) (C : Nat) (body suite : SM) : SM := fun ss k => body ss fun o => match o with
  | .nx s => k (.nx s)
  | .bk s => k (.bk s)
  | .ct s => k (.ct s)
  | .rt d => k (.rt d)
  | .ex s D l => D ∈ xl ∧ ifP ((exUp D).contains C) (suite s (fun o => match o with
      | .nx s => k (.nx s)
      | .bk s => k (.bk s)
      | .ct s => k (.ct s)
      | .rt d => k (.rt d)
      | .ex _ _ _ => False)) (k (.ex s D l))
/-- how exceptions of the text are met by except C -/
def Meets (c : Kc) (xl : List Nat) (C : Nat) : Prop := ∀ D ∈ xl, PySem.W.exmOne c.K (.ref (c.ca D)) (.ref (c.ca C)) = some ((exUp D).contains C)
def tTry (K : PySem.W.Frag) (v : Value) (tb : WX → TS) (ts : Addr → Value → Option Addr → TS) (Wout : WX) : TS := fun D σ H => tb (wOnly K v ts Wout D) D σ H
section
variable {X : Cx} {K : PySem.W.Frag}
theorem psTry {n : Str} {v : Value} {body suite : List Stmt} {b₀ : Stmt} {np pos pos' : Pos} {tb : WX → TS} {ts : Addr → Value → Option Addr → TS} {w : Option WX} (hK : X.K = K) (hs : X.stack = X.env :: X.outer) (hf : X.env.frame = some X.env.locals) (hc : Names X n v) (tk : Takes X (w.getD wF))
    (hb : ∀ (W : WX) (pn : List (Addr × Obj)) (xe : Value → Shared → Prop), Takes (X.tr pn xe) W → PassesOwn (model X.prog X.w) X.A X.env xe → PSs (X.tr pn xe) body (tb W))
    (hsu : ∀ (a : Addr) (oe : Obj) (cls : Value) (d : Option Addr) (pn : List (Addr × Obj)), Zc cls d oe → (∃ vs, oe.data = .fields vs) → PSs (X.suite a ((a, oe) :: pn)) (b₀ :: suite) (ts a cls d)) :
    PS X (.Try body [.ExceptHandler (some (.Name n np)) none (b₀ :: suite) pos'] [] [] pos) (tTry K v tb ts (w.getD wF)) := by
  subst hK
  exact ps_try_only hs hf hc tk hb hsu
variable {c : Kc} {x : Mx} {w : Option WX}
theorem rs_try {xl : List Nat} {C : Nat} {tb : WX → TS} {ts : Addr → Value → Option Addr → TS} {body suite : SM} (hm : Meets c xl C) (hb : ∀ W, RS c x (some W) (tb W) body) (hs : ∀ a cls d, RS c x none (ts a cls d) suite) :
    RS c x w (tTry c.K (.ref (c.ca C)) tb ts (w.getD wF)) (tryW xl C body suite) := fun ss k G0 H0 D σ G H m K g s => by
  refine hb _ ss _ G0 H0 D σ G H m ⟨K.nx, K.bk, K.ct, K.rt, fun σ' s' E l od G' H' g' l' xd ⟨h1, h2⟩ => ?_⟩ g s
  refine ⟨_, hm E h1, fun hk a ha => ?_, fun hk => ?_⟩
  · rw [hk] at h2
    have h2 := ifP_t h2
    exact hs a _ od s' _ G0 H0 D σ' G' H' h2 ⟨K.nx, K.bk, K.ct, K.rt, fun _ _ _ _ _ _ _ _ _ _ z => z.elim⟩ g' l'
  · rw [hk] at h2
    have h2 := ifP_f h2
    exact K.ex σ' s' E l od G' H' g' l' xd h2
end
/-! ### C.m(..), m a staticmethod -/
structure SMet (K : PySem.W.Frag) (C : Addr) (m : Str) (p g : Addr) : Prop where
  at_ : PySem.W.findCls K (.ref C) (.type "type") m = some (.get (.builtin "staticmethod.__get__") (.ref p) .none (.ref C))
  rc : ∃ rest, PySem.W.recIn K p "staticmethod" = some (.ref g :: rest)
  hv : PySem.W.handedIn (.ref g) = true
  kp : PySem.W.keepIn K (.ref g) = true
section
variable {X : Cx} {P : Program} {c : Kc} {mg : Str → Option Value} {base : Heap} {w : Option WX}
theorem pe_smeth {C p g : Addr} {m nm : Str} {k : Nat} {Pre : PreX} {np apos pos : Pos} {pl : Sem Bool} {e : Expr} {es : List Expr} {t : TA} (F : Gmx P c mg base k g Pre) (hX : At X P c mg base) (hr : Room k X.A) (hg : Gl X nm) (tk : Tk X w) (hC : mg nm = some (.ref C)) (r : ClX.CRead c.K C (.type "type")) (s : SMet c.K C m p g) (ha : PA X (e :: es) t)
    (hdb : (nm == ("__debug__" : Str)) = false := by decide) (hst : starEach (e :: es) X.env = (false, eval e X.env) :: starEach es X.env := by rfl) (hpl : (backTo pos (starEach es X.env)).any (·.1) = false := by rfl)
    (ht : eval (.Call (.Attribute (.Name nm np) m apos) (e :: es) [] pos) X.env = (do
      let ov ← eval (.Name nm np) X.env
      standAt apos.atName
      let (f, first) ← holding [ov] (getMethod ov m pl)
      callWith pos f first (backTo pos (starEach (e :: es) X.env)) (backToKw pos (keywordEach [] X.env))) := by rfl) :
    PE X (.Call (.Attribute (.Name nm np) m apos) (e :: es) [] pos) (tCl w (spX c Pre) t) := by
  obtain ⟨h1, h2, h3, h4, h5⟩ := hX
  unfold Gmx at F
  rw [← h1, ← h2, ← h3, ← h4, ← h5] at F
  rw [← h4] at hC
  rw [← h3] at r s
  obtain ⟨rest, hp⟩ := s.rc
  refine ⟨fun pins s1 σ H Q I h => ?_⟩
  refine PySem.W.methodCall_KW (pl := pl) (thn ((pe_cl hg hC hdb).run pins s1 σ H (fun v H' => v = .ref C ∧ H' = H) I ⟨rfl, rfl⟩) fun u s2 ⟨y, H1, I1, ry, e1, e2⟩ => ?_) ht
  subst e1 e2
  obtain rfl : u = Value.ref C := ry
  refine PySem.W.method_cls I1.kIn r.ga (PySem.W.cls_bind I1.kIn r.rd s.at_ (wpAny_call (PySem.W.sm_get (s := { s2 with toks := s2.toks + 1 }) I1.kIn hp (PySem.W.handed_on s.hv ?_))))
  have I2 := I1.tok (s2.toks + 1)
  refine PySem.W.callWith_K (h₀ := X.base) I.ok.mod.kin s.kp (thn (ha.run pos pins _ σ H1 _ I2 h) fun us s3 ⟨vs, H2, I3, rv, q⟩ => ⟨I3.kIn, ?_⟩) hst hpl
  exact run_fnRS F hr (tk σ) I3 rv q
end
/-! ### repr -/
/-! how long what is shown is at most -/
mutual
def szD : PyData → Nat
  | .none => 4
  | .bool _ => 5
  | .int i => i.natAbs.log2 + 3
  | .str x => 10 * x.length + 2
  | .list xs => szAll xs + 2
  | .tuple xs => szAll xs + 3
  | .dict kvs => szKv kvs + 2
def szAll : List PyData → Nat
  | [] => 0
  | x :: xs => szD x + 2 + szAll xs
def szKv : List (PyData × PyData) → Nat
  | [] => 0
  | (k, v) :: r => szD k + szD v + 4 + szKv r
end
mutual
/-- ints and texts that are not too large -/
def fitD : PyData → Bool
  | .none => true
  | .bool _ => true
  | .int i => decide (i.natAbs.log2 < 1920)
  | .str x => x.cps.toList.all fun c => decide (c < 16 ^ 8)
  | .list xs => fitAll xs
  | .tuple xs => fitAll xs
  | .dict kvs => fitKv kvs
def fitAll : List PyData → Bool
  | [] => true
  | x :: xs => fitD x && fitAll xs
def fitKv : List (PyData × PyData) → Bool
  | [] => true
  | (k, v) :: r => fitD k && fitD v && fitKv r
end
theorem piled_sz : ∀ {ts : List Str} {n : Nat}, ts ≠ [] → PySem.piled ts ≤ n → (Str.join ", " ts).length ≤ n := fun {ts n} h hn => by
  have := join_length_add ts h
  omega
theorem lst_len : ∀ (ts : List Str) (k : Nat) (acc : Str), (textFrom k acc ts).length ≤ acc.length + (ts.map fun t => t.length + 2).sum
  | [], k, acc => by show acc.length ≤ _; simp
  | t :: r, k, acc => by
    have ih := lst_len r (k + 1) (acc ++ (if k > 0 then ", " else "" : String) ++ t)
    have e : (acc ++ (if k > 0 then ", " else "" : String) ++ t).length ≤ acc.length + 2 + t.length := by
      rw [strLen_append, strLen_append]
      by_cases c : k > 0
      · rw [if_pos c, show ((", " : String) : Str).length = 2 from rfl] <;> omega
      · rw [if_neg c, show (("" : String) : Str).length = 0 from rfl]; omega
    show (textFrom (k + 1) (acc ++ (if k > 0 then ", " else "" : String) ++ t) r).length ≤ _
    rw [List.map_cons, List.sum_cons]
    omega
theorem join_len : ∀ ts : List Str, (Str.join ", " ts).length ≤ (ts.map fun t => t.length + 2).sum
  | [] => by show 0 ≤ _; exact Nat.zero_le _
  | [x] => by show x.length ≤ _; simp
  | x :: y :: r => by
    have ih := join_len (y :: r)
    show (x ++ ", " ++ Str.join ", " (y :: r)).length ≤ _
    rw [strLen_append, strLen_append, List.map_cons, List.sum_cons, show ((", " : String) : Str).length = 2 from rfl]
    omega
mutual
theorem shown_le : ∀ {d : PyData}, fitD d = true → d.shown.length ≤ szD d
  | .none, _ => by decide
  | .bool b, _ => by cases b <;> decide
  | .int i, _ => by
    have := int_text_length_le (a := i) (k := i.natAbs.log2 + 1) (by omega) (by omega)
    show (Str.ofString (toString i)).length ≤ i.natAbs.log2 + 3
    rw [PySem.ofString_length]; omega
  | .str x, h => PySem.StrLaws.reprText_len x fun c hc => of_decide_eq_true (List.all_eq_true.mp h c hc)
  | .list xs, h => by
    have := shownAll_le (l := xs) h
    have e := lst_len (PyData.shownAll xs) 0 "["
    show (textFrom 0 "[" (PyData.shownAll xs) ++ "]").length ≤ szAll xs + 2
    rw [strLen_append, show (("]" : String) : Str).length = 1 from rfl]
    rw [show (("[" : String) : Str).length = 1 from rfl] at e
    omega
  | .tuple xs, h => by
    have := shownAll_le (l := xs) h
    have e := join_len (PyData.shownAll xs)
    show (("(" : Str) ++ Str.join ", " (PyData.shownAll xs) ++ (if (PyData.shownAll xs).length == 1 then ",)" else ")" : String)).length ≤ szAll xs + 3
    rw [strLen_append, strLen_append, show (("(" : String) : Str).length = 1 from rfl]
    cases (PyData.shownAll xs).length == 1 with
    | true => rw [if_pos rfl, show ((",)" : String) : Str).length = 2 from rfl]; omega
    | false => rw [if_neg Bool.false_ne_true, show ((")" : String) : Str).length = 1 from rfl]; omega
  | .dict kvs, h => by
    have := shownKv_le (l := kvs) h
    have e := join_len (PyData.shownKv kvs)
    show (("{" : Str) ++ Str.join ", " (PyData.shownKv kvs) ++ "}").length ≤ szKv kvs + 2
    rw [strLen_append, strLen_append, show (("{" : String) : Str).length = 1 from rfl, show (("}" : String) : Str).length = 1 from rfl]
    omega
theorem shownAll_le : ∀ {l : List PyData}, fitAll l = true → ((PyData.shownAll l).map fun t => t.length + 2).sum ≤ szAll l
  | [], _ => Nat.le_refl _
  | x :: l, h => by
    obtain ⟨h1, h2⟩ := Bool.and_eq_true_iff.mp (show (fitD x && fitAll l) = true from h)
    have a := shown_le h1
    have b := shownAll_le h2
    show (((x.shown :: PyData.shownAll l)).map fun t => t.length + 2).sum ≤ szD x + 2 + szAll l
    rw [List.map_cons, List.sum_cons]
    omega
theorem shownKv_le : ∀ {l : List (PyData × PyData)}, fitKv l = true → ((PyData.shownKv l).map fun t => t.length + 2).sum ≤ szKv l
  | [], _ => Nat.le_refl _
  | (k, v) :: l, h => by
    obtain ⟨h12, h3⟩ := Bool.and_eq_true_iff.mp (show ((fitD k && fitD v) && fitKv l) = true from h)
    obtain ⟨h1, h2⟩ := Bool.and_eq_true_iff.mp h12
    have a := shown_le h1
    have b := shown_le h2
    have c := shownKv_le h3
    show ((((k.shown ++ ": " ++ v.shown) :: PyData.shownKv l)).map fun t => t.length + 2).sum ≤ szD k + szD v + 4 + szKv l
    rw [List.map_cons, List.sum_cons, strLen_append, strLen_append, show ((": " : String) : Str).length = 2 from rfl]
    omega
end
mutual
theorem showable_of : ∀ {d : PyData}, fitD d = true → d.showable = true
  | .none, _ => rfl
  | .bool _, _ => rfl
  | .int _, h => h
  | .str _, _ => rfl
  | .list _, h => showables_of h
  | .tuple _, h => showables_of h
  | .dict _, h => showablek_of h
theorem showables_of : ∀ {l : List PyData}, fitAll l = true → PyData.showableAll l = true
  | [], _ => rfl
  | x :: l, h => by
    obtain ⟨h1, h2⟩ := Bool.and_eq_true_iff.mp (show (fitD x && fitAll l) = true from h)
    show (x.showable && PyData.showableAll l) = true
    rw [showable_of h1, showables_of h2]; rfl
theorem showablek_of : ∀ {l : List (PyData × PyData)}, fitKv l = true → PyData.showableKv l = true
  | [], _ => rfl
  | (k, v) :: l, h => by
    obtain ⟨h12, h3⟩ := Bool.and_eq_true_iff.mp (show ((fitD k && fitD v) && fitKv l) = true from h)
    obtain ⟨h1, h2⟩ := Bool.and_eq_true_iff.mp h12
    show ((k.showable && v.showable) && PyData.showableKv l) = true
    rw [showable_of h1, showable_of h2, showablek_of h3]; rfl
end
def rReprD (K : PySem.W.Frag) : List V → Hp → VK → Prop := fun xs H Q => ∃ x d, xs = [x] ∧ Dp K H x d ∧ fitD d = true ∧ d.hasDict = false ∧ d.depth ≤ 60 ∧ szD d ≤ 1000000 ∧ Q (.str d.shown) H
theorem callRepr {X : Cx} {K : PySem.W.Frag} (hK : X.K = K) (hA : X.A.guards = some []) (hu : X.A.units + 64 < cLine) : CallR X (.builtin "repr") (rReprD K) := by
  subst hK
  intro pins s σ H xs us Q I r h
  obtain ⟨x, d, rfl, hd, hf, hdd, hdp, hz, q⟩ := h
  have hs := showable_of hf
  have hz : d.shown.length ≤ sizeLine := Nat.le_trans (shown_le hf) (sz_of hz)
  obtain ⟨u, rfl, rx⟩ := vals1 r
  obtain ⟨as, rd⟩ := Dp.reads I d x u hd rx
  have fin : ∀ (h' : Heap) (t : Tok) (tk : Nat), (∀ b o, s.heap.get? b = some o → h'.get? b = some o) → EP X pins σ Q (.str d.shown t) { s with heap := h', toks := tk } := fun h' t tk k => ⟨.str d.shown, H, I.kept k, ⟨_, rfl⟩, q⟩
  cases hd with
  | non => cases rx; exact PySem.P.repr_of_none (fin _ _ _ fun _ _ z => z)
  | bl b => cases rx; exact PySem.P.repr_of_bool (fin _ _ _ fun _ _ z => z)
  | int i =>
    obtain ⟨t, rfl⟩ := rx
    exact PySem.P.repr_of_int (by simpa [PyData.showable] using hs) (fin _ _ _ fun _ _ z => z)
  | str y =>
    obtain ⟨t, rfl⟩ := rx
    exact PySem.P.repr_of_str (fin _ _ _ fun _ _ z => z) hz
  | lst h1 h2 => cases rx; exact repr_of_reads' rd hs (fun z => by rw [hdd] at z; cases z) hA (by omega) (fun _ _ z => z) (fun h' u tk k => fin h' u tk k) hz
  | tup h1 h2 => cases rx; exact repr_of_reads' rd hs (fun z => by rw [hdd] at z; cases z) hA (by omega) (fun _ _ z => z) (fun h' u tk k => fin h' u tk k) hz
def reprD : DN
  | [d], R => ∃ p, toPy d = some p ∧ fitD p = true ∧ p.hasDict = false ∧ p.depth ≤ 60 ∧ szD p ≤ 1000000 ∧ R (.str p.shown)
  | _, _ => False
theorem ro_repr {c : Kc} : RON c (rReprD c.K) reprD := fun ds R m G H vs ex d Q q => by
  match ds, m with
  | [d0], ⟨p, hp, hf, hdd, hdp, hz, m⟩ =>
    obtain ⟨v, r, rfl, d1, d2⟩ := d
    cases d2
    exact ⟨v, p, rfl, dp_of (d1.up ex) hp, hf, hdd, hdp, hz, q _ (.str _) G H (Go.refl ex) rfl m⟩
end Mw

set_option Elab.async false
set_option linter.all false
set_option maxRecDepth 100000
set_option maxHeartbeats 4000000
namespace Mw
open PySem PySem.Spec PyProof.Rows L2
open PpSet (newSet_ok eval_SetComp compLoopS_any codeAny_compStart_set)
/-! ### sets of ints -/
section
variable {X : Cx}
def rSetI (K : PySem.W.Frag) (w : World) : List V → Hp → VK → Prop := fun xs H Q => ∃ (p : Addr) (ns : List Int), xs = [.ref p] ∧ SqT K H p (ns.map V.int) ∧ ns.length ≤ 1000 ∧
  ∀ a n, n ≤ ns.length → H a = none → Q (.ref a) (upd H a (SetO w a (fun j => decide (j ∈ ns)) n))
theorem callSet {K : PySem.W.Frag} {w : World} (hK : X.K = K) (hw : X.w = w) (hc : X.calm = true) : CallR X (.type "set") (rSetI K w) := by
  subst hK hw
  intro pins s σ H xs us Q I r h
  obtain ⟨p, ns, rfl, hq, hl, q⟩ := h
  rw [Vals.ref1 r]
  obtain ⟨its, rv, pt, hz⟩ := I.tuple hq
  refine call_set_tupI ns (I.ok.hd hc) (show s.heap.IsTuple p its.toArray from pt) (ints_of_vals rv) (by unfold scanBound; omega) fun h' tk n R hn k => ?_
  have fr : H s.heap.objs.size = none := I.hok.fresh (Nat.le_refl _)
  exact ⟨.ref _, _, I.laid (t' := tk) k (Nat.le_refl _) (setO_new R), rfl, q _ n hn fr⟩
theorem callSorted {w : World} (hw : X.w = w) (hc : X.calm = true) : CallR X (.builtin "sorted") (rSortedSet w) := by subst hw; exact cr_sortedSet hc
/-- {elt for target in iter if ..}, elt an int: D the new set -/
def tScI (w : World) (wi : TI) (g : TG) (tt : TT) (te : TE) (vs : List Nat) : TE := fun σ H Q => wi σ H fun J H1 => ∀ D, H1 D = none → ∃ W : Nat → Nat → Hp → Prop, (∃ m, W 0 m (upd H1 D (SetO w D (fun _ => false) 0))) ∧ ∀ i m H, W i m H →
  (J.stop i H ∧ Q (.ref D) H) ∨ (J.go i H ∧ ∃ Nx : Hp → Prop, (∀ H', Nx H' → ∃ m', m' < m ∧ W (i + 1) m' H') ∧ ∀ x H', J.yld i H x H' → g x (wipe σ vs) H' fun σ2 H2 => wipe σ2 vs = wipe σ vs ∧ tt σ2 H2 fun b H3 =>
    if b = true then te σ2 H3 fun y H4 => ∃ (k : Int) (S : Int → Bool) (n : Nat), y = .int k ∧ H4 D = some (SetO w D S n) ∧ n + 1 < scanBound ∧ Nx (upd H4 D (SetO w D (fun j => S j || decide (j = k)) (if S k = true then n else n + 1))) else Nx H3)
theorem addI_ok {pins : List (Addr × Obj)} {σ : L2.St} {H : Hp} {s : Shared} {E : Value → Shared → Prop} {D : Addr} {S : Int → Bool} {n : Nat} {y : Int} {ty : Tok} {Q : Value → Shared → Prop} (I : Inv X pins σ H s) (hD : H D = some (SetO X.w D S n)) (room : n + 1 < scanBound)
    (h : ∀ s', Inv X pins σ (upd H D (SetO X.w D (fun j => S j || decide (j = y)) (if S y = true then n else n + 1))) s' → Q .none s') : wpAny (model X.prog X.w) X.A (call (.builtin "set.add") [.ref D, .int y ty]) Q E s := by
  refine setR_add (setO_get I hD) room fun hp' same fresh => ?_
  obtain ⟨ob, r0, r1, r2, hob, _⟩ := id fresh
  exact h _ (I.write (e := D) (t' := s.toks + 1) (by rw [hD]; trivial) (.inl rfl) (fun b u nb hu => (same.2 b nb).trans hu) ⟨ob, hob⟩ (setO_new fresh))
abbrev FrI (w : World) (D : Addr) : HO := SetO w D (fun _ => false) 0
theorem scI_core {pins : List (Addr × Obj)} {s : Shared} {σ : L2.St} {H : Hp} {Q : VK} {elt tg iter : Expr} {ifs : List Expr} {scope : Scope} {own : List (PySem.Str × Nat)} {pos pos' : Pos} {wi : TI} {g : TG} {tt : TT} {te : TE} {use : Option (Value → Sem Unit)} {Qf : Value → Shared → Prop}
    (calm : X.calm = true) (nod : X.N.Nodup) (I : Inv X pins σ H s) (walk : PI X tg iter wi) (blk : BlkOk X.N X.env.scope scope own)
    (pgs : ∀ (s : Shared) (H : Hp) (C : Addr) (cl : List (PySem.Str × Addr)) (fp : List Addr), PG (X.blk s H scope (compEnvC scope cl C X.env) fp) tg g)
    (pts : ∀ (s : Shared) (H : Hp) (C : Addr) (cl : List (PySem.Str × Addr)) (fp : List Addr), PTs (X.blk s H scope (compEnvC scope cl C X.env) fp) ifs tt)
    (pes : ∀ (s : Shared) (H : Hp) (C : Addr) (cl : List (PySem.Str × Addr)) (fp : List Addr), PE (X.blk s H scope (compEnvC scope cl C X.env) fp) elt te) (fold : ∀ x, foldedSetIterable iter X.env x = pure x)
    (rd : tScI X.w wi g tt te (own.map (·.2)) σ H Q)
    (back : ∀ D C s' m H', Inv X pins σ H' s' → Q (.ref D) H' → s'.heap.Ns C m → FpOk X pins H' C → compPost (model X.prog X.w) X.A X.xe use Qf (.ref D) C (.ok .next) s') :
    wpAny (model X.prog X.w) X.A (comprehension (.SetComp elt [⟨tg, iter, ifs, 0⟩] scope pos) scope X.env pos' (newSet (.type "set")) false (eval iter X.env) use) Qf X.xe s := by
  have frees : ∀ y ∈ scope.names, y.2 = .free → ∃ c, X.env.cells.lookup y.1 = some c := fun y hy e => (blk.free y hy e).elim (fun k => I.ok.has _ (.inl k)) fun k => I.ok.has _ (.inr k)
  refine wpAny_comprehension_free (use := use) rfl fold (closure_ok frees) blk.kind (fun y hy e => by rw [blk.uniq y hy, e]) (thn (walk.run pins s σ H _ I rd) fun xv s1 hx => thn hx fun itv s2 got => ?_)
  obtain ⟨it, fp, tn, J, Ha, e0, Ia, T, sta, fa, ask⟩ := got
  subst e0
  refine newSet_ok (newEnv_comp ?_)
  generalize eD : s2.heap.objs.size = D
  have freeD : Ha D = none := Ia.hok.fresh (Nat.le_of_eq eD)
  obtain ⟨W, ⟨m0, w0⟩, turn⟩ := ask D freeD
  generalize es : ({ s2 with heap := s2.heap.push { cls := .type "set", dict := none, data := .set #[] 0 (.fresh 0 0 (!X.w.params.followText "set-order")) } } : Shared) = sb
  have hb : sb.heap = s2.heap.push { cls := .type "set", dict := none, data := .set #[] 0 (.fresh 0 0 (!X.w.params.followText "set-order")) } := by rw [← es]
  have Ib : Inv X pins σ (upd Ha D (FrI X.w D)) sb := by
    rw [← es]
    refine Ia.laid (t' := s2.toks) (fun b o e => Heap.get?_push_of_some _ e) (Nat.le_of_eq eD) ?_
    rw [← eD]
    exact setO_new (setR_fresh X.w)
  have below : ∀ b ∈ fp, b < s2.heap.objs.size := fun b hb => let ⟨o, e, _⟩ := T.obj _ _ sta b hb; Heap.lt_size e
  have fb : ∀ b ∈ fp, FpOk X pins (upd Ha D (FrI X.w D)) b ∧ b < sb.heap.objs.size := fun b hm => by
    have lt := below b hm
    exact ⟨⟨by rw [upd_ne (by rw [← eD]; exact Nat.ne_of_lt lt)]; exact (fa b hm).1, (fa b hm).2⟩, by rw [hb, Heap.size_push]; exact Nat.lt_succ_of_lt lt⟩
  have stb : tn 0 sb.heap := T.keep _ _ _ sta fun b _ o e => by rw [hb]; exact Heap.get?_push_of_some _ e
  have Ic := block_start Ib blk nod fb
  have pg := pgs sb (upd Ha D (FrI X.w D)) sb.heap.objs.size (cellsFrom (sb.heap.objs.size + 1) scope.names (cloFrom X.env.cells scope.names [])) fp
  have pt := pts sb (upd Ha D (FrI X.w D)) sb.heap.objs.size (cellsFrom (sb.heap.objs.size + 1) scope.names (cloFrom X.env.cells scope.names [])) fp
  have pe := pes sb (upd Ha D (FrI X.w D)) sb.heap.objs.size (cellsFrom (sb.heap.objs.size + 1) scope.names (cloFrom X.env.cells scope.names [])) fp
  show codeAny _ _ (.compStart (.SetComp elt [⟨tg, iter, ifs, 0⟩] scope pos) 0 (.ref it) (.ref D) (compEnvC scope (cellsFrom (sb.heap.objs.size + 1) scope.names (cloFrom X.env.cells scope.names [])) sb.heap.objs.size X.env)) (compPost (model X.prog X.w) X.A X.xe use Qf (.ref D) sb.heap.objs.size) { sb with heap := pushCells (sb.heap.push { cls := .type "dict", data := .dict #[] }) scope.names }
  have nofp : ∀ b ∈ fp, (upd Ha D (FrI X.w D)) b = none := fun b hm => (fb b hm).1.1
  generalize ece : compEnvC scope (cellsFrom (sb.heap.objs.size + 1) scope.names (cloFrom X.env.cells scope.names [])) sb.heap.objs.size X.env = ce at Ic pg pt pe ⊢
  have loc : ce.locals = sb.heap.objs.size := by subst ece; rfl
  generalize eH : upd Ha D (FrI X.w D) = Hb at Ib Ic pg pt pe w0 nofp fb
  generalize esc : ({ sb with heap := pushCells (sb.heap.push { cls := .type "dict", data := .dict #[] }) scope.names } : Shared) = sc at Ic ⊢
  have stc : tn 0 sc.heap := T.keep _ _ _ stb fun b _ o e => by rw [← esc]; exact pushCells_keeps _ _ _ _ (Heap.get?_push_of_some _ e)
  have held : ∀ {σ' : L2.St} {H' : Hp} {s' : Shared}, Inv (X.blk sb Hb scope ce fp) [] σ' H' s' → (∀ b ∈ fp, H' b = none) → ∀ b ∈ fp, FpOk (X.blk sb Hb scope ce fp) [] H' b := fun {σ' H' s'} I' hn b hm =>
    ⟨hn b hm, (I'.ok.exf b hm).1, I'.ok.exfs b hm, .inl hm, fun x c e => (I'.ok.exf b hm).2 x c e, fun p hp => absurd (show p ∈ ([] : List (Addr × Obj)) ++ [] from hp) (by simp)⟩
  have loop : codeAny (model X.prog X.w) X.A (.compLoop (.SetComp elt [⟨tg, iter, ifs, 0⟩] scope pos) 0 (.ref it) (.ref D) ce) (compPost (model X.prog X.w) X.A X.xe use Qf (.ref D) sb.heap.objs.size) sc := by
    refine compLoopS_any (fun n s' => ∃ i H', Inv (X.blk sb Hb scope ce fp) [] (wipe σ (own.map (·.2))) H' s' ∧ tn i s'.heap ∧ (∀ b ∈ fp, H' b = none) ∧ W i n H') ?_ m0 ⟨0, Hb, Ic, stc, nofp, w0⟩
    rintro n sd ⟨i, Hd, Id, std, nd, wd⟩
    rcases turn i n Hd wd with ⟨stop, fin⟩ | ⟨go, Nx, more, step⟩
    · refine thnF (T.done (X.blk sb Hb scope ce fp) rfl rfl rfl calm i [] sd _ Hd (fun _ _ => False) Id (held Id nd) std stop) fun r se ⟨hr, Ie⟩ => ?_
      subst hr
      have If : Inv X pins σ Hd se := Ib.call' (ch := fp) Ie.os Ie.base Ie.hok Ie.bare fun b hm => let z := (fb b hm).1.2; ⟨z.2.2.1, z.1, z.2.2.2.1, z.2.2.2.2⟩
      have nC : Hd sb.heap.objs.size = none := by rw [← loc]; exact Ie.free
      obtain ⟨m, hn, _⟩ := Ie.loc
      have hn : se.heap.Ns sb.heap.objs.size m := by rw [← loc]; exact hn
      exact back D sb.heap.objs.size se m Hd If fin hn (Ib.fpOk (Nat.le_refl _) nC)
    · refine thnF (T.item (X.blk sb Hb scope ce fp) rfl rfl rfl calm i [] sd _ Hd (fun _ _ => False) Id (held Id nd) std go) fun r se ⟨u, hr, he⟩ => ?_
      subst hr
      refine thnF he fun _ sg ⟨x, Hg, Ig, rg, yg, stg, ng⟩ => ?_
      refine thnF (pg.run _ sg _ Hg x u _ (Ig.pinned (held Ig ng) (T.obj _ _ stg)) rg (step x Hg yg)) fun _ sh ⟨σh, Hh, Ih, wh, qh⟩ => ?_
      refine thnF (pt.run _ sh σh Hh _ Ih qh) fun b si ⟨Hi, Ii, qi⟩ => ?_
      have on : ∀ {s' : Shared} {H' : Hp}, Inv (X.blk sb Hb scope ce fp) ([] ++ pinsAt fp sg.heap) σh H' s' → Nx H' → ∃ m, m < n ∧ ∃ i H', Inv (X.blk sb Hb scope ce fp) [] (wipe σ (own.map (·.2))) H' s' ∧ tn i s'.heap ∧ (∀ b ∈ fp, H' b = none) ∧ W i m H' := fun {s' H'} I' nx => by
        obtain ⟨m', hm, w'⟩ := more H' nx
        have pinned : ∀ b ∈ fp, ∀ o, sg.heap.get? b = some o → s'.heap.get? b = some o ∧ H' b = none := fun b hb o e =>
          have z := I'.pin (b, o) (List.mem_append_right _ (List.mem_append_right _ (mem_pinsAt hb e)))
          ⟨z.1, z.2.1⟩
        refine ⟨m', hm, i + 1, H', (I'.unpinned (pins := [])).weak (by rw [← wh, wipe_length]) (fun j v e => (wipe_some (by rw [wh]; exact e)).1), T.keep _ _ _ stg fun b hb o e => (pinned b hb o e).1, fun b hb => ?_, w'⟩
        obtain ⟨o, e, _⟩ := T.obj _ _ stg b hb
        exact (pinned b hb o e).2
      cases b with
      | false =>
        rw [if_neg Bool.false_ne_true] at qi
        exact on Ii qi
      | true =>
        rw [if_pos rfl] at qi
        show wpAny _ _ _ _ _ _
        refine thnF (pe.run _ si σh Hi _ Ii qi) fun z sj ⟨yv, Hj, Ij, rj, kb, S0, n0, ey, hDj, hzj, nx⟩ => ?_
        subst ey
        obtain ⟨tk, rfl⟩ := (show ∃ t, z = Value.int kb t from rj)
        exact addI_ok (X := X.blk sb Hb scope ce fp) Ij hDj hzj fun sk Ik => on Ik nx
  exact PpSet.codeAny_compStart_set loop (T.self X.A 0 _ _ _ stc loop)
theorem pe_scI {elt tg iter : Expr} {ifs : List Expr} {scope : Scope} {own : List (PySem.Str × Nat)} {pos : Pos} {wi : TI} {g : TG} {tt : TT} {te : TE} {w : World} (hw : X.w = w) (calm : X.calm = true) (nod : X.N.Nodup) (walk : PI X tg iter wi) (blk : BlkOk X.N X.env.scope scope own)
    (pgs : ∀ (s : Shared) (H : Hp) (C : Addr) (cl : List (PySem.Str × Addr)) (fp : List Addr), PG (X.blk s H scope (compEnvC scope cl C X.env) fp) tg g)
    (pts : ∀ (s : Shared) (H : Hp) (C : Addr) (cl : List (PySem.Str × Addr)) (fp : List Addr), PTs (X.blk s H scope (compEnvC scope cl C X.env) fp) ifs tt)
    (pes : ∀ (s : Shared) (H : Hp) (C : Addr) (cl : List (PySem.Str × Addr)) (fp : List Addr), PE (X.blk s H scope (compEnvC scope cl C X.env) fp) elt te) (fold : ∀ x, foldedSetIterable iter X.env x = pure x := by intro _; rfl) :
    PE X (.SetComp elt [⟨tg, iter, ifs, 0⟩] scope pos) (tScI w wi g tt te (own.map (·.2))) := by
  subst hw
  refine ⟨fun pins s σ H Q I h => ?_⟩
  rw [eval_SetComp]
  refine scI_core calm nod I walk blk pgs pts pes fold h fun D C s' m H' I' q hn f => ⟨m, hn, fun h'' sb => ?_⟩
  obtain ⟨f0, f1, f2, f3, f4, f5⟩ := f
  exact ⟨.ref D, H', I'.turned (t' := s'.toks) (fun b o hb e => (sb.2 b hb).trans e) f0 f1 f3 f4 f5, rfl, q⟩
end
section
variable {X : Cx}
/-- y = {elt for ..} -/
theorem ps_setScI {i : Nat} {y : Str} {py : Pos} {elt tg iter : Expr} {ifs : List Expr} {scope : Scope} {own : List (Str × Nat)} {pos spos : Pos} {wi : TI} {g : TG} {tt : TT} {te : TE} {w : World} (hw : X.w = w) (calm : X.calm = true) (nod : X.N.Nodup) (at_ : X.N[i]? = some y) (lo : X.env.scope.names.lookup y = some .local)
    (sw : swapsWith (.SetComp elt [⟨tg, iter, ifs, 0⟩] scope pos) (some (.Name y py)) spos.line X.env = pure true) (walk : PI X tg iter wi) (blk : BlkOk X.N X.env.scope scope own)
    (pgs : ∀ (s : Shared) (H : Hp) (C : Addr) (cl : List (PySem.Str × Addr)) (fp : List Addr), PG (X.blk s H scope (compEnvC scope cl C X.env) fp) tg g)
    (pts : ∀ (s : Shared) (H : Hp) (C : Addr) (cl : List (PySem.Str × Addr)) (fp : List Addr), PTs (X.blk s H scope (compEnvC scope cl C X.env) fp) ifs tt)
    (pes : ∀ (s : Shared) (H : Hp) (C : Addr) (cl : List (PySem.Str × Addr)) (fp : List Addr), PE (X.blk s H scope (compEnvC scope cl C X.env) fp) elt te) (fold : ∀ x, foldedSetIterable iter X.env x = pure x := by intro _; rfl) :
    PS X (.Assign [.Name y py] (.SetComp elt [⟨tg, iter, ifs, 0⟩] scope pos) spos) (tAsg (tScI w wi g tt te (own.map (·.2))) (gName i)) := by
  subst hw
  refine ⟨fun pins s σ H D I h => ?_⟩
  rw [exec_Assign_Name_used _ _ _ _ sw]
  refine wpAny_bind (wpAny_standAt (wpAny_bind ?_))
  show wpAny _ X.A (do let _ ← comprehension (.SetComp elt [⟨tg, iter, ifs, 0⟩] scope pos) scope X.env (firstIterPos [⟨tg, iter, ifs, 0⟩] pos) (newSet (.type "set")) false (eval iter X.env) (some (assign (.Name y py) X.env))) _ _ s
  have rd : tScI X.w wi g tt te (own.map (·.2)) σ H (fun x H1 => gName i x σ H1 D.nx) := h
  refine wpAny_bind (thn (scI_core (Qf := fun _ s' => SP X pins D .next s') calm nod I walk blk pgs pts pes fold rd fun L C s' m H' I' qq ns f => ?_) fun _ s' hq => wpAny_pure (wpAny_pure hq))
  show wpAny _ _ (assign (.Name y py) X.env (.ref L)) _ _ _
  refine wpAny_assign_Name (store_ok2 (v := V.ref L) I' nod at_ (.inl lo) rfl (fun s2 I2 ⟨a, same, ha⟩ => ?_) (.inr lo))
  obtain ⟨f0, f1, f2, f3, f4, f5⟩ := f
  have ne : C ≠ a := ha.elim (fun z => by rw [z]; exact f1) fun z e => f4 y a z e.symm
  exact ⟨m, ns.sameBut same ne, fun h3 same3 => ⟨_, H', I2.turned (t' := s2.toks) (fun b o hb e => (same3.2 b hb).trans e) f0 f1 f3 f4 f5, qq⟩⟩
theorem sw_trueS {elt : Expr} {gs : List Comprehension} {scope : Scope} {pos py : Pos} {y : Str} {l : Nat} {env : Env} (hk : env.scope.kind = .function) (hy : env.scope.names.lookup y = some .local) (hl : (py.line == pos.line) = true)
    (ha : (scope.names.any fun (n, k) => n == y && (k == .local || k == .cell)) = false) : swapsWith (.SetComp elt gs scope pos) (some (.Name y py)) l env = pure true := by
  have kd : env.kindOf y = some .local := hy
  have fn : env.blockKind = .function := by unfold Env.blockKind; rw [hk]; rfl
  unfold swapsWith
  simp only [fn, kd, ha, Expr.pos, hl]
  rfl
end
/-! ### strictly ascending lists -/
def insU (k : Int) : List Int → List Int
  | [] => [k]
  | y :: r => if k < y then k :: y :: r else if k = y then y :: r else y :: insU k r
def sortU : List Int → List Int
  | [] => []
  | k :: r => insU k (sortU r)
theorem mem_insU {k j : Int} : ∀ {l : List Int}, j ∈ insU k l ↔ j = k ∨ j ∈ l
  | [] => by simp [insU]
  | y :: r => by
    unfold insU
    split
    · simp
    · split
      · rename_i h; subst h; simp
      · simp only [List.mem_cons, mem_insU (l := r)]
        constructor
        · rintro (h | h | h)
          · exact .inr (.inl h)
          · exact .inl h
          · exact .inr (.inr h)
        · rintro (h | h | h)
          · exact .inr (.inl h)
          · exact .inl h
          · exact .inr (.inr h)
theorem mem_sortU {j : Int} : ∀ {l : List Int}, j ∈ sortU l ↔ j ∈ l
  | [] => by simp [sortU]
  | k :: r => by unfold sortU; rw [mem_insU, mem_sortU (l := r), List.mem_cons]
theorem asc_insU {k : Int} : ∀ {l : List Int}, l.Pairwise (· < ·) → (insU k l).Pairwise (· < ·)
  | [], _ => by simp [insU]
  | y :: r, h => by
    unfold insU
    rw [List.pairwise_cons] at h
    split
    · rename_i hk
      rw [List.pairwise_cons, List.pairwise_cons]
      refine ⟨fun z hz => ?_, h⟩
      rcases List.mem_cons.mp hz with rfl | hz
      · exact hk
      · have := h.1 z hz; omega
    · split
      · rw [List.pairwise_cons]; exact h
      · rw [List.pairwise_cons]
        refine ⟨fun z hz => ?_, asc_insU h.2⟩
        rcases mem_insU.mp hz with rfl | hz
        · omega
        · exact h.1 z hz
theorem asc_sortU : ∀ l : List Int, (sortU l).Pairwise (· < ·)
  | [] => by simp [sortU]
  | k :: r => asc_insU (asc_sortU r)
theorem asc_eq : ∀ {l m : List Int}, l.Pairwise (· < ·) → m.Pairwise (· < ·) → (∀ j, j ∈ l ↔ j ∈ m) → l = m
  | [], [], _, _, _ => rfl
  | [], y :: m, _, _, h => by have := (h y).mpr (by simp); simp at this
  | x :: l, [], _, _, h => by have := (h x).mp (by simp); simp at this
  | x :: l, y :: m, h1, h2, h => by
    rw [List.pairwise_cons] at h1 h2
    have e : x = y := by
      rcases List.mem_cons.mp ((h x).mp (by simp)) with e | e
      · exact e
      · rcases List.mem_cons.mp ((h y).mpr (by simp)) with e2 | e2
        · exact e2.symm
        · have := h1.1 y e2; have := h2.1 x e; omega
    subst e
    rw [asc_eq h1.2 h2.2 fun j => ?_]
    have hj := h j
    simp only [List.mem_cons] at hj
    constructor
    · intro q
      rcases hj.mp (.inr q) with e | e
      · have := h1.1 j q; omega
      · exact e
    · intro q
      rcases hj.mpr (.inr q) with e | e
      · have := h2.1 j q; omega
      · exact e
theorem len_insU {k : Int} : ∀ {l : List Int}, (insU k l).length ≤ l.length + 1
  | [] => by simp [insU]
  | y :: r => by
    unfold insU
    split
    · simp
    · split
      · simp
      · have := len_insU (k := k) (l := r); simp; omega
/-! ### sets by data -/
def intsD : List Dt → Option (List Int)
  | [] => some []
  | .int b :: l => (intsD l).map (b :: ·)
  | _ => none
def setD : DN
  | [.tup l], R => ∃ ns, intsD l = some ns ∧ ns.length ≤ 1000 ∧ R (.set ns)
  | _, _ => False
def sortedD : DN
  | [.set l], R => l.length < 64 ∧ R (.lst ((sortU l).map .int))
  | _, _ => False
section
variable {c : Kc} {x : Mx} {w : Option WX}
theorem ints_ofD {G : Hp} : ∀ {l : List Dt} {bs : List Int} {xs : List V}, Dats c G l xs → intsD l = some bs → xs = bs.map V.int
  | [], _, _, h, e => by cases h; cases e; rfl
  | d :: l, _, _, ⟨x, r, h1, h2, h3⟩, e => by
    cases d with
    | int b =>
      unfold intsD at e
      obtain ⟨bs, e1, rfl⟩ := Option.map_eq_some_iff.mp e
      cases h2
      rw [h1, ints_ofD h3 e1]; rfl
    | _ => cases e
theorem dats_ints {G : Hp} : ∀ {ns : List Int}, Dats c G (ns.map .int) (ns.map V.int)
  | [] => rfl
  | n :: ns => ⟨.int n, _, rfl, rfl, dats_ints⟩
theorem ro_set : RON c (rSetI c.K c.w) setD := fun ds R m G H vs ex d Q q => by
  match ds, m with
  | [.tup l], ⟨ns, e, hl, m⟩ =>
    obtain ⟨v, r, rfl, ⟨a, xs, rfl, h1, h2⟩, d3⟩ := d
    cases d3
    rw [ints_ofD h2 e] at h1
    refine ⟨a, ns, rfl, Ex.tup ex h1, hl, fun p n hn hp => q _ (.set ns) _ _ (Go.new ex hp) ⟨p, _, n, rfl, upd_same, hn, fun i => ?_⟩ m⟩
    rw [decide_eq_true_eq]
theorem ro_sorted : RON c (rSortedSet c.w) sortedD := fun ds R m G H vs ex d Q q => by
  match ds, m with
  | [.set l], ⟨hl, m⟩ =>
    obtain ⟨v, r, rfl, ⟨a, S, n, rfl, h1, hn, hS⟩, d3⟩ := d
    cases d3
    refine ⟨a, S, n, rfl, ex _ _ h1, by omega, fun ns p hp hm _ hn => ?_⟩
    have e : ns = sortU l := asc_eq hp (asc_sortU l) fun j => by rw [hm, hS, mem_sortU]
    subst e
    exact q _ (.lst _) _ _ (Go.new ex hn) (dat_newL dats_ints (ex.free hn)) m
/-- {e for ..}, ints -/
def scL (ss : SS) (g : GM) (t : TM) (e : EM) : List Dt → List Int → (List Int → Prop) → Prop
  | [], acc, R => R acc
  | d :: l, acc, R => g d ss fun s1 => t s1 (fun k => ifP k (e s1 (fun y => intD y fun i => scL ss g t e l (acc ++ [i]) R) xF) (scL ss g t e l acc R)) xF
def scW (it : AM) (vs : List Nat) (g : GM) (t : TM) (e : EM) : EM := fun ss R X => it ss (fun l => l.length ≤ 1000 ∧ scL (wipeS ss vs) g t e l [] fun acc => R (.set acc)) X
theorem re_sc {wi : TI} {it : AM} {g : TG} {gm : GM} {tt : TT} {t : TM} {te : TE} {e : EM} {vs : List Nat} (hi : RI c x w wi it) (hg : RG c x vs g gm) (ht : RT c x none tt t) (he : RE c x none te e) : RE c x w (tScI c.w wi g tt te vs) (scW it vs gm t e) := fun ss R X G σ H m ex s Q q z =>
  hi ss _ X G σ H m ex s _ (fun J l G1 H1 g1 wk ⟨hl, m1⟩ => by
    have s1 := s.go g1
    intro D nD
    have nG : G1 D = none := g1.ink.free nD
    refine ⟨fun i m H' => m = l.length - i ∧ i ≤ l.length ∧ ∃ (G' : Hp) (acc : List Int) (S : Int → Bool) (n : Nat), Go G1 H1 G' H' ∧ G' D = none ∧ H' D = some (SetO c.w D S n) ∧ n ≤ acc.length ∧ acc.length ≤ i ∧ (∀ k, S k = true ↔ k ∈ acc) ∧ scL (wipeS ss vs) gm t e (l.drop i) acc fun acc => R (.set acc), ⟨l.length, by simp, Nat.zero_le _, G1, [], _, 0, Go.put g1.ink nD, nG, upd_same, Nat.le_refl _, Nat.le_refl _, fun k => by simp, m1⟩, ?_⟩
    rintro i m H2 ⟨rfl, hi, G2, acc, S, n, g2, n2, e2, hn, ha, hS, m2⟩
    by_cases hlt : i < l.length
    · refine .inr ⟨wk.goes i H2 hlt (g2.kn.trans g2.ink), fun H' => ∃ (G' : Hp) (acc : List Int) (S : Int → Bool) (n : Nat), Go G1 H1 G' H' ∧ G' D = none ∧ H' D = some (SetO c.w D S n) ∧ n ≤ acc.length ∧ acc.length ≤ i + 1 ∧ (∀ k, S k = true ↔ k ∈ acc) ∧ scL (wipeS ss vs) gm t e (l.drop (i + 1)) acc fun acc => R (.set acc), fun H' p' => ⟨l.length - (i + 1), by omega, rfl, hlt, p'⟩, fun v H3 y => ?_⟩
      obtain ⟨d, G3, hd3, g3, dx⟩ := wk.yields i H2 v H3 hlt (g2.kn.trans g2.ink) y G2 g2.kn g2.ink
      have e3 : H3 D = some (SetO c.w D S n) := g3.up D _ e2
      have n3 : G3 D = none := g3.nw D n2 (ne_some e2)
      rw [drop_at hd3] at m2
      have s3 : Sv c x G3 H3 (wipe σ vs) (wipeS ss vs) := ((s1.go g2).go g3).wipe vs
      refine hg d _ _ m2 G3 H3 _ v g3.ink s3 dx _ fun σ4 s4 sv4 w4 m4 => ⟨by rw [w4]; exact wipe_wipe fun _ h => h, ?_⟩
      refine ht s4 _ xF G3 σ4 H3 m4 g3.ink sv4 _ (fun b G5 H5 g5 m5 => ?_) fun _ _ _ _ _ _ _ hc => hc.elim
      have e5 : H5 D = some (SetO c.w D S n) := g5.up D _ e3
      have n5 : G5 D = none := g5.nw D n3 (ne_some e3)
      cases b with
      | false => exact ⟨G5, acc, S, n, (g2.trans g3).trans g5, n5, e5, hn, by omega, hS, ifP_f m5⟩
      | true =>
        refine he s4 _ xF G5 σ4 H5 (ifP_t m5) g5.ink (sv4.go g5) _ (fun y dy G6 H6 g6 d6 m6 => ?_) fun _ _ _ _ _ _ _ hc => hc.elim
        obtain ⟨k, rfl, m7⟩ := of_intD m6
        cases d6
        have e6 : H6 D = some (SetO c.w D S n) := g6.up D _ e5
        have n6 : G6 D = none := g6.nw D n5 (ne_some e5)
        have g7 := ((g2.trans g3).trans g5).trans g6
        refine ⟨k, S, n, rfl, e6, by unfold scanBound; omega, G6, acc ++ [k], _, _, g7.turn n6 nD, n6, upd_same, ?_, by simp; omega, fun j => ?_, m7⟩
        · split
          · simp; omega
          · simp; omega
        · simp [hS]
    · have e : i = l.length := by omega
      subst e
      rw [List.drop_length] at m2
      refine .inl ⟨wk.stops H2 (g2.kn.trans g2.ink), q (.ref D) (.set acc) (upd G2 D (SetO c.w D S n)) H2 (g1.trans (g2.tell n2 nD e2)) ⟨D, S, n, rfl, upd_same, hn, hS⟩ m2⟩) z
end
end Mw

set_option Elab.async false
set_option linter.all false
set_option maxRecDepth 100000
set_option maxHeartbeats 4000000
namespace Mw
open PySem PySem.Spec PyProof.Rows L2
/-! ### defs with defaults -/
def dflP (Pre : PreX) (dd : List Dt) : PreX := fun ds R X => Pre (ds ++ dd) R X
def Dfd (K : PySem.W.Frag) (mg : Str → Option Value) (x : Str) (st : Stmt) (ps : List Str) (dvs : List V) (js : List Nat) : Prop :=
  ∃ f fd, FunD K x x (defArgs st) (defBody st) (defScope st) dvs [] f fd ∧ mg x = some (.ref f) ∧ ∀ j ∈ js, ∃ ds, Vals (dvs.drop j) ds ∧ Binds K fd ps ds
/-- the default values are such data -/
def DflD (c : Kc) (dvs : List V) (dd : List Dt) : Prop := ∀ G, Dats c G dd dvs
section
variable {P : Program} {c : Kc} {mg : Str → Option Value} {base : Heap}
theorem spX_dfl {Pre : PreX} {dd : List Dt} {dvs vs : List V} {H : Hp} {Q : VK} {E : XK} (hd : DflD c dvs dd) (h : spX c (dflP Pre dd) vs H Q E) : spX c Pre (vs ++ dvs) H Q E := by
  obtain ⟨G, ds, R, X, e, d, p, q⟩ := h
  exact ⟨G, ds ++ dd, R, X, e, d.app (hd G), p, q⟩
theorem gfxd_of {x : Str} {st : Stmt} {N ps : List Str} {k n m j : Nat} {js : List Nat} {dvs : List V} {dd : List Dt} {b : SM} (F : Dfd c.K mg x st ps dvs js) (hj : j ∈ js) (hd : DflD c (dvs.drop j) dd) (S : FnScope N ps (defScope st)) (hn : n = ps.length) (hm : m = N.length)
    (hbody : ∀ (f : Addr) (cdv : Value) (A : Around) (outer : List Env) (s : Shared) (H : Hp) (E : XK), Room k (A.deeper (envOfC x (defScope st) s.heap.objs.size f cdv)) →
      ∃ t, PSs (cxOf (L2.CX P c.w) P c.w c.K mg base N x (defScope st) f cdv A outer s H E) (defBody st) t ∧ RS c {} (wE E) t b) :
    Gfx P c mg base x (k + 1) (dflP (defW n m b) dd) := by
  subst hn hm
  obtain ⟨f, fd, F, mm, bb⟩ := F
  obtain ⟨ds, rv, bb⟩ := bb j hj
  have ok : FnOk P c.w c.K mg base (L2.CX P c.w) (k + 1) f fd ps (spX c (defW ps.length N.length b)) := by
    refine F.ok S (fun vs H Q E h => ?_) (fun cdv A outer s H vs Q E hr h => ?_)
    · obtain ⟨G, ds, R, X, e, d, p, _⟩ := h
      rw [d.len]; exact p.1
    · obtain ⟨G, ds, R, X, e, d, p, q, qx⟩ := h
      obtain ⟨t, ht, hs⟩ := hbody f cdv A outer s H E hr
      exact ⟨t, ht, body_end (n := 0) hs e d p.2 q qx⟩
  exact ⟨f, (ok.raw bb rv).imp fun vs H Q E h => spX_dfl hd h, mm, F.kp⟩
theorem dd_nil {dvs : List V} : DflD c (dvs.drop dvs.length) [] := fun G => by rw [List.drop_length]; rfl
theorem gfx_dfl0 {x : Str} {k : Nat} {Pre : PreX} (g : Gfx P c mg base x k (dflP Pre [])) : Gfx P c mg base x k Pre := by
  have e : dflP Pre [] = Pre := by
    funext ds R X
    unfold dflP
    rw [List.append_nil]
  rw [e] at g; exact g
end
end Mw

set_option Elab.async false
set_option linter.all false
set_option maxRecDepth 100000
set_option maxHeartbeats 4000000
namespace Mw
open PySem PySem.Spec PyProof.Rows L2
/-! ### readings of any kind -/
def iOr (v w : TI) : TI := fun σ H R => v σ H R ∨ w σ H R
theorem PI.or {X : Cx} {tg e : Expr} {v w : TI} (h1 : PI X tg e v) (h2 : PI X tg e w) : PI X tg e (iOr v w) := ⟨fun pins s σ H R I h => h.elim (h1.run pins s σ H R I) (h2.run pins s σ H R I)⟩
def iAnyD : Dt → (List Dt → Prop) → Prop
  | .lst l, R => R l
  | .sq l, R => R l
  | .tup l, R => R l
  | .str z, R => R (signsD z)
  | _, _ => False
def iAny (K : PySem.W.Frag) (te : TE) : TI := fun σ H R => te σ H fun v H1 => (∃ a, v = .ref a ∧ (∃ xs, SqL K H1 a xs) ∧ R (Itl K a) H1) ∨ ((∃ a, v = .ref a ∧ (∃ xs, SqT K H1 a xs) ∧ R (Itt K a) H1) ∨ ∃ z, v = .str z ∧ R (Its z) H1)
theorem piAny {X : Cx} {K : PySem.W.Frag} (hK : X.K = K) {tg e : Expr} {te : TE} (he : PE X e te) : PI X tg e (iAny K te) := by
  subst hK
  refine ⟨fun pins s σ H R I h => thn (he.run pins s σ H _ I h) fun u s1 ⟨v, H1, I1, rv, got⟩ => ?_⟩
  rcases got with ⟨a, rfl, ⟨xs, sq⟩, q⟩ | ⟨a, rfl, ⟨xs, sq⟩, q⟩ | ⟨z, rfl, q⟩
  · cases rv
    obtain ⟨its, _, p, _⟩ := I1.list sq
    exact wpAny_pyIter_list p.isList (pi_one (tk := s1.toks) I1 _ (turn_list a _) ⟨_, Heap.get?_push_size _ rfl, rfl, rfl⟩ q)
  · cases rv
    obtain ⟨its, _, p, _⟩ := I1.tuple sq
    exact wpAny_pyIter_tuple (show s1.heap.IsTuple a its.toArray from p) (pi_one (tk := s1.toks) I1 _ (turn_tuple a _) ⟨_, Heap.get?_push_size _ rfl, rfl, rfl⟩ q)
  · obtain ⟨t, rfl⟩ := rv
    cases asc : z.cps.all (· < 128)
    · exact wpAny_pyIter_wide asc (pi_one (tk := s1.toks) I1 _ (turn_str _ z t "str_iterator" (.inr rfl)) ⟨_, Heap.get?_push_size _ rfl, rfl, rfl⟩ q)
    · exact wpAny_pyIter_ascii asc (pi_one (tk := s1.toks) I1 _ (turn_str _ z t "str_ascii_iterator" (.inl rfl)) ⟨_, Heap.get?_push_size _ rfl, rfl, rfl⟩ q)
def rSlAny (K : PySem.W.Frag) : V → Option Int → Option Int → Hp → VK → Prop := fun x lo hi H Q => rSlL K x lo hi H Q ∨ (rSlA K x lo hi H Q ∨ rSlS x lo hi H Q)
theorem slAny {X : Cx} {K : PySem.W.Frag} (hK : X.K = K) : SlR X (rSlAny K) := by
  subst hK
  intro pins s σ H x v vl vu lo hi sl Q I rx hs pl pu h
  rcases h with h | h | h
  · exact sl_list pins s σ H x v vl vu lo hi sl Q I rx hs pl pu h
  · exact sl_tupA pins s σ H x v vl vu lo hi sl Q I rx hs pl pu h
  · exact sl_str pins s σ H x v vl vu lo hi sl Q I rx hs pl pu h
def slD : DSl
  | .lst l, lo, hi, R => R (.lst (cutD l lo hi))
  | .tup l, lo, hi, R => R (.tup (cutD l lo hi))
  | .str z, lo, hi, R => z.length ≤ 1000000 ∧ R (.str (cutS z lo hi))
  | _, _, _, _ => False
section
variable {c : Kc} {x : Mx} {w : Option WX} {ta : TE} {a : EM}
theorem ro_sl : ROS c (rSlAny c.K) slD := fun d lo hi R m G H v ex d1 Q q => by
  cases d with
  | lst l => exact .inl (ro_slL (.lst l) lo hi R m G H v ex d1 Q q)
  | tup l => exact .inr (.inl (ro_slT (.tup l) lo hi R m G H v ex d1 Q q))
  | str l => exact .inr (.inr (ro_slS (.str l) lo hi R m G H v ex d1 Q q))
  | _ => exact m.elim
theorem ri_any (ha : RE c x w ta a) : RI c x w (iAny c.K ta) (itW iAnyD a) := fun ss R X G σ H m e s Q q z =>
  ha ss _ X G σ H m e s _ (fun v d G1 H1 g1 d1 m1 => by
    cases d with
    | lst l =>
      obtain ⟨a, xs, rfl, hs, hd⟩ := d1
      exact .inl ⟨a, rfl, ⟨xs, .inl (.inl (g1.ink _ _ hs))⟩, q _ l G1 H1 g1 (wd_list (.inl (.inl hs)) hd) m1⟩
    | sq l =>
      obtain ⟨a, xs, rfl, hs, hd⟩ := d1
      exact .inl ⟨a, rfl, ⟨xs, g1.ink.seq hs⟩, q _ l G1 H1 g1 (wd_list hs hd) m1⟩
    | tup l =>
      obtain ⟨a, xs, rfl, hs, hd⟩ := d1
      exact .inr (.inl ⟨a, rfl, ⟨xs, Ex.tup g1.ink hs⟩, q _ l G1 H1 g1 (wd_tup hs hd) m1⟩)
    | str l =>
      cases d1
      exact .inr (.inr ⟨l, rfl, q _ _ G1 H1 g1 wd_str m1⟩)
    | _ => exact m1.elim) z
theorem dat_newK {G : Hp} {p : Addr} {l : List (Key × Dt)} {xs : List (Key × V)} (d : Datk c G l xs) (h : G p = none) : Dat c (upd G p (.dK xs)) (.dic l) (.ref p) := ⟨p, xs, rfl, .inl upd_same, d.up (Ex.new h)⟩
def dnewW : EM := fun _ R _ => R (.dic [])
theorem re_dnew : RE c x w tDNewK dnewW := fun ss R X G σ H m e s Q q z p hp => q (.ref p) (.dic []) _ _ (Go.new e hp) (dat_newK (show Datk c G [] [] from rfl) (e.free hp)) m
end
end Mw

set_option Elab.async false
set_option linter.all false
set_option maxRecDepth 100000
set_option maxHeartbeats 4000000
namespace Mw
open PySem PySem.Spec PyProof.Rows L2
/-! ### the law's call, where no repr is under way -/
section
variable {P : Program} {w : World} {K : PySem.W.Frag} {mg mb : Str → Option Value} {s : Shared} {a : Addr} {vs : List Value} {ns : List Int}
/-- what is tracked at the law's call: the script alone, or nothing -/
structure TopH (P : Program) (w : World) (K : PySem.W.Frag) (s : Shared) (a : Addr) (ns : List Int) (H : Hp) : Prop where
  sq : SqL K H a (ns.map V.int)
  ok : HOk P w H s.heap
  only : ∀ b u, H b = some u → b = a ∧ K.lookup a = none ∧ ∃ o xs, u = .frz o (.lst xs)
theorem top_H (KX : K.In s.heap) (ha : s.heap.get? a = some { cls := .type "list", data := .seq vs.toArray }) (hi : IntsAre vs ns) (hl : ns.length ≤ sizeLine) : ∃ H, TopH P w K s a ns H := by
  have rv := vals_ints hi
  cases hk : K.lookup a with
  | some o =>
    have e := KX a o hk
    rw [ha] at e
    cases e
    exact ⟨fun _ => none, .inr ⟨_, vs.toArray, _, hk, rfl, rfl, rfl, by rw [List.size_toArray, hi.length]; exact hl, by simpa using rv⟩, (fun b u z => nomatch (show (none : Option HO) = some u from z)), (fun b u z => nomatch (show (none : Option HO) = some u from z))⟩
  | none =>
    have at_ : ∀ {b : Addr} {u : HO}, (upd (fun _ => none) a (.frz { cls := .type "list", data := .seq vs.toArray } (.lst (ns.map V.int))) : Hp) b = some u → b = a ∧ u = .frz { cls := .type "list", data := .seq vs.toArray } (.lst (ns.map V.int)) := fun {b u} z => by
      by_cases c : b = a
      · subst c; rw [upd_same] at z; exact ⟨rfl, (Option.some.inj z).symm⟩
      · rw [upd_ne c] at z; cases z
    refine ⟨upd (fun _ => none) a (.frz { cls := .type "list", data := .seq vs.toArray } (.lst (ns.map V.int))), .inl (.inr ⟨_, upd_same⟩), fun b u z => ?_, fun b u z => ?_⟩
    · obtain ⟨rfl, rfl⟩ := at_ z
      exact ⟨ha, by rw [List.length_map]; exact hl, vs, _, rv, ha⟩
    · obtain ⟨rfl, rfl⟩ := at_ z
      exact ⟨rfl, hk, _, _, rfl⟩
theorem top_env {H : Hp} (KX : K.In s.heap) (hns : s.heap.Ns mainGlobals mg) (hb : s.heap.Ns builtinsNs mb) (hbb : ∀ x : Str, x ≠ "__name__" → mb x = bootBuiltins x) (hlim : s.heap.NoLimit) (hg : s.gens = #[])
    (ha : s.heap.get? a = some { cls := .type "list", data := .seq vs.toArray }) (T : TopH P w K s a ns H) : K.In (hidT s.heap H) ∧ (hidT s.heap H).Ns mainGlobals mg ∧ Env0 P w K mg (hidT s.heap H) callerA [] s H := by
  have free : ∀ {b : Addr} {o : Obj}, s.heap.get? b = some o → (∀ z, o ≠ { cls := .type "list", data := .seq vs.toArray } ∨ K.lookup a = some z) → (hidT s.heap H).get? b = some o := fun {b o} e q => hidT_get e (by
    cases c : H b with
    | none => rfl
    | some u =>
      obtain ⟨rfl, hk, _⟩ := T.only b u c
      rw [ha] at e
      rcases q o with q | q
      · exact absurd (Option.some.inj e).symm q
      · rw [hk] at q; cases q)
  have names : ∀ {b : Addr} {m : Str → Option Value}, s.heap.Ns b m → (hidT s.heap H).Ns b m := fun {b m} ⟨o, es, ep, e, d, r⟩ => ⟨o, es, ep, free e (fun z => .inl fun c => by subst c; cases d), d, r⟩
  have kin : K.In (hidT s.heap H) := fun b o e => hidT_get (KX b o e) (by
    cases c : H b with
    | none => rfl
    | some u => obtain ⟨rfl, hk, _⟩ := T.only b u c; rw [hk] at e; cases e)
  exact ⟨kin, names hns, rfl, ⟨kin, names hns, ⟨mb, names hb, hbb⟩, let ⟨mc, h1, h2⟩ := hlim; ⟨mc, names h1, h2⟩⟩, fun b o e => of_hidT e, Nat.le_of_eq (hidT_size _ _), trivial, (fun b hb => nomatch (show b ∈ ([] : List Addr) from hb)), T.ok, .of_eq hg⟩
theorem top_call {k : Nat} {fa : Addr} {fd : FuncData} {x : Str} {sp : Sp} (KX : K.In s.heap) (hns : s.heap.Ns mainGlobals mg) (hb : s.heap.Ns builtinsNs mb) (hbb : ∀ x : Str, x ≠ "__name__" → mb x = bootBuiltins x) (hlim : s.heap.NoLimit) (hg : s.gens = #[])
    (ha : s.heap.get? a = some { cls := .type "list", data := .seq vs.toArray }) (hi : IntsAre vs ns) (hl : ns.length ≤ sizeLine) (hr : Room k callerA)
    (F : ∀ base : Heap, FnG P w K mg base k fa fd [x] sp) (hbind : ∀ (s : Shared) (u : Value), BindsTo s fd ⟨[u], []⟩ [(x, u)])
    (hsp : ∀ H : Hp, SqL K H a (ns.map V.int) → sp [.ref a] H (fun v _ => v = .bl true) fun _ _ _ => False) :
    codeAny (model P w) callerA (.call (.ref fa) ⟨[.ref a], []⟩) (fun r s' => r = .ok (.ret (.bool true)) ∧ OldK s.heap s'.heap ∧ s'.os = s.os ∧ AllBare s'.gens) s := by
  obtain ⟨H, T⟩ := top_H (P := P) (w := w) KX ha hi hl
  obtain ⟨kin, hn', e0⟩ := top_env KX hns hb hbb hlim hg ha T
  refine codeAny_mono ((F _).run callerA [] s H ⟨[.ref a], []⟩ [.ref a] [.ref a] _ _ rfl hr e0 (hbind s (.ref a)) (.cons rfl .nil) (hsp H T.sq)) fun r s' h => ?_
  match r, h with
  | .error e, h => exact h.elim
  | .ok .next, h => exact False.elim h
  | .ok .brk, h => exact False.elim h
  | .ok .cont, h => exact False.elim h
  | .ok (.ret u), h =>
    obtain ⟨v, H', os, bare, un, hok', r', q⟩ := h
    cases (show v = .bl true from q)
    cases (show u = Value.bool true from r')
    refine ⟨rfl, OldK.of_keep fun b o e => ?_, os, bare⟩
    cases c : H b with
    | none => exact un.keep b o e c (fun z => nomatch (show b ∈ ([] : List Addr) from z)) (by simp)
    | some u =>
      obtain ⟨rfl, _, ob, xs, rfl⟩ := T.only b u c
      have e1 := (T.ok b _ c).1
      have e2 := (hok' b _ (un.frzs b ob _ c)).1
      rw [e] at e1
      cases e1
      exact e2
end
theorem walk_ofG {l : PySem.W.OpenLaw} {n k : Nat} {q : Program} {loose : List Str} {XP : (Str → Option Value) → Heap → Prop} {YP : World → Heap → Prop} {d : DefRec} {K : Params → PySem.W.Frag} {x : Str}
    (hn : l.most = some n) (hn2 : n ≤ sizeLine) (hdf : d.params.defaults = []) (hr : Room k callerA)
    (hY : ∀ (w : World) (h : Heap), YP w h → (K w.params).In h)
    (F : ∀ (w : World) (mg : Str → Option Value) (fa : Addr) (h : Heap), (K w.params).In h → h.Ns mainGlobals mg → mg d.name = some (.ref fa) →
      ∃ (sp : Sp) (fd : FuncData), (∀ (s : Shared) (u : Value), BindsTo s fd ⟨[u], []⟩ [(x, u)]) ∧ (∀ base : Heap, FnG l.prog w (K w.params) mg base k fa fd [x] sp) ∧
        ∀ (H : Hp) (a : Addr) (ns : List Int), ns.length ≤ n → SqL (K w.params) H a (ns.map V.int) → sp [.ref a] H (fun v _ => v = .bl true) fun _ _ _ => False) :
    PySem.W.WalkO q loose XP YP l.row.toRowW d [] (fun f vs => PySem.call f vs) := by
  refine Att.attach_call hn hdf fun w s₀ s₁ mg mb fa o pm cd doc a vs ns G Y ho hd hcd hmg hobj hints hlen hg => ?_
  obtain ⟨sp, fd, hb, hF, hsp⟩ := F w mg fa _ (hY w _ Y) G.T.g hmg
  exact top_call (hY w _ Y) G.T.g G.T.b G.T.builtins G.T.nolimit hg hobj hints (Nat.le_trans hlen hn2) hr hF hb fun H hS => hsp H a ns hlen hS
end Mw

set_option Elab.async false
set_option linter.all false
set_option maxRecDepth 100000
set_option maxHeartbeats 4000000
namespace Mw
open PySem PySem.Spec PyProof.Rows L2
/-! ### reckoning with mirrors -/
/-- one item of a comprehension -/
def lcS (ss : SS) (g : GM) (t : TM) (e : EM) (d : Dt) (Q : Option Dt → Prop) : Prop := g d ss fun s1 => t s1 (fun k => ifP k (e s1 (fun y => Q (some y)) xF) (Q none)) xF
theorem lc_fm {ss : SS} {g : GM} {t : TM} {e : EM} {F : Dt → Option Dt} : ∀ {l : List Dt} {acc : List Dt} {R : List Dt → Prop}, (∀ d ∈ l, ∀ Q : Option Dt → Prop, Q (F d) → lcS ss g t e d Q) → R (acc ++ l.filterMap F) → lcL ss g t e l acc R
  | [], acc, R, _, hr => by rw [List.filterMap_nil, List.append_nil] at hr; exact hr
  | d :: l, acc, R, h, hr => by
    have hl : ∀ d ∈ l, ∀ Q : Option Dt → Prop, Q (F d) → lcS ss g t e d Q := fun x hx => h x (List.mem_cons_of_mem _ hx)
    refine h d List.mem_cons_self (fun o => match o with | some y => lcL ss g t e l (acc ++ [y]) R | none => lcL ss g t e l acc R) ?_
    rw [List.filterMap_cons] at hr
    cases q : F d with
    | none => rw [q] at hr; exact lc_fm hl hr
    | some y => rw [q] at hr; exact lc_fm hl (by rw [List.append_assoc]; exact hr)
theorem lc_map {ss : SS} {g : GM} {e : EM} {f : Dt → Dt} {l : List Dt} {acc : List Dt} {R : List Dt → Prop} (h : ∀ d ∈ l, ∀ Q : Dt → Prop, Q (f d) → g d ss fun s1 => e s1 Q xF) (hr : R (acc ++ l.map f)) : lcL ss g yesW e l acc R := by
  refine lc_fm (F := fun d => some (f d)) (fun d hd Q hq => ?_) (by rw [List.filterMap_eq_map']; exact hr)
  have := h d hd (fun y => Q (some y)) hq
  unfold lcS yesW
  have e : (fun s1 => ifP true (e s1 (fun y => Q (some y)) xF) (Q none)) = fun s1 => e s1 (fun y => Q (some y)) xF := by
    funext s1
    unfold ifP
    rw [if_pos rfl]
  rw [e]
  exact this
theorem lc_any {ss : SS} {g : GM} {e : EM} {P : Dt → Prop} : ∀ {l : List Dt} {acc : List Dt} {R : List Dt → Prop}, (∀ d ∈ l, ∀ Q : Dt → Prop, (∀ y, P y → Q y) → g d ss fun s1 => e s1 Q xF) → (∀ ys : List Dt, ys.length = l.length → (∀ y ∈ ys, P y) → R (acc ++ ys)) → lcL ss g yesW e l acc R
  | [], acc, R, _, hr => by have := hr [] rfl (fun y h => nomatch h); rw [List.append_nil] at this; exact this
  | d :: l, acc, R, h, hr => by
    have e0 : (fun s1 => ifP true (e s1 (fun y => lcL ss g yesW e l (acc ++ [y]) R) xF) (lcL ss g yesW e l acc R)) = fun s1 => e s1 (fun y => lcL ss g yesW e l (acc ++ [y]) R) xF := by
      funext s1
      unfold ifP
      rw [if_pos rfl]
    show g d ss (fun s1 => ifP true (e s1 (fun y => lcL ss g yesW e l (acc ++ [y]) R) xF) (lcL ss g yesW e l acc R))
    rw [e0]
    refine h d List.mem_cons_self (fun y => lcL ss g yesW e l (acc ++ [y]) R) fun y hy => ?_
    refine lc_any (fun x hx => h x (List.mem_cons_of_mem _ hx)) fun ys hl hp => ?_
    rw [List.append_assoc]
    exact hr (y :: ys) (by simp [hl]) fun z hz => by
      rcases List.mem_cons.mp hz with rfl | hz
      · exact hy
      · exact hp z hz
def scS (ss : SS) (g : GM) (t : TM) (e : EM) (d : Dt) (Q : Option Int → Prop) : Prop := g d ss fun s1 => t s1 (fun k => ifP k (e s1 (fun y => intD y fun i => Q (some i)) xF) (Q none)) xF
theorem sc_fm {ss : SS} {g : GM} {t : TM} {e : EM} {F : Dt → Option Int} : ∀ {l : List Dt} {acc : List Int} {R : List Int → Prop}, (∀ d ∈ l, ∀ Q : Option Int → Prop, Q (F d) → scS ss g t e d Q) → R (acc ++ l.filterMap F) → scL ss g t e l acc R
  | [], acc, R, _, hr => by rw [List.filterMap_nil, List.append_nil] at hr; exact hr
  | d :: l, acc, R, h, hr => by
    have hl : ∀ d ∈ l, ∀ Q : Option Int → Prop, Q (F d) → scS ss g t e d Q := fun x hx => h x (List.mem_cons_of_mem _ hx)
    refine h d List.mem_cons_self (fun o => match o with | some y => scL ss g t e l (acc ++ [y]) R | none => scL ss g t e l acc R) ?_
    rw [List.filterMap_cons] at hr
    cases q : F d with
    | none => rw [q] at hr; exact sc_fm hl hr
    | some y => rw [q] at hr; exact sc_fm hl (by rw [List.append_assoc]; exact hr)
/-- how a loop's turn ends -/
def turnO (N : SS → Prop) (k : Oc → Prop) : Oc → Prop
  | .nx s => N s
  | .ct s => N s
  | .bk s => k (.nx s)
  | .rt d => k (.rt d)
  | .ex s C l => k (.ex s C l)
theorem for_inv {g : GM} {b : SM} {k : Oc → Prop} (I : Nat → SS → Prop) : ∀ {l : List Dt} {s : SS} (j : Nat), I j s → (∀ i d s (N : SS → Prop), l[i]? = some d → I (j + i) s → (∀ s', I (j + i + 1) s' → N s') → g d s fun s1 => b s1 (turnO N k)) → (∀ s, I (j + l.length) s → k (.nx s)) → forL g b l s k
  | [], s, j, h0, hs, hd => hd s h0
  | d :: l, s, j, h0, hs, hd => by
    have := hs 0 d s (fun s' => forL g b l s' k) rfl h0 fun s' h' => for_inv I (j + 1) h' (fun i d s N hi h hn => by
      have := hs (i + 1) d s N hi (by rw [show j + (i + 1) = j + 1 + i by omega]; exact h) fun s' h' => hn s' (by rw [show j + (i + 1) + 1 = j + 1 + i + 1 by omega] at h'; exact h')
      exact this) (fun s h => hd s (by rw [List.length_cons, show j + (l.length + 1) = j + 1 + l.length by omega]; exact h))
    have e : (fun s1 => b s1 (turnO (fun s' => forL g b l s' k) k)) = fun s1 => b s1 fun o => match o with
      | .nx s => forL g b l s k
      | .ct s => forL g b l s k
      | .bk s => k (.nx s)
      | .rt d => k (.rt d)
      | .ex s C l => k (.ex s C l) := by
      funext s1
      congr 1
    rw [e] at this
    exact this
theorem sIx_neg {n d k : Nat} (h : 0 < k) : HT.sIx n d (some (-(k : Int))) = n - k := by
  show (if (-(k : Int)) < 0 then (-(k : Int) + (n : Int)).toNat else _) = _
  rw [if_pos (by omega)]; omega
theorem range_len {lo : Int} {n : Nat} : (rangeD lo n).length = n := by simp [rangeD]
theorem range_at {lo : Int} {n i : Nat} {d : Dt} (h : (rangeD lo n)[i]? = some d) : i < n ∧ d = .int (lo + i) := by
  unfold rangeD at h
  rw [List.getElem?_map] at h
  by_cases hi : i < n
  · rw [List.getElem?_range hi] at h; cases h; exact ⟨hi, rfl⟩
  · rw [List.getElem?_eq_none (by simp; omega)] at h; cases h
theorem intsD_map : ∀ ns : List Int, intsD (ns.map .int) = some ns
  | [] => rfl
  | n :: ns => by show (intsD (ns.map .int)).map _ = _; rw [intsD_map ns]; rfl
theorem blsD_map : ∀ ns : List Bool, blsD (ns.map .bl) = some ns
  | [] => rfl
  | n :: ns => by show (blsD (ns.map .bl)).map _ = _; rw [blsD_map ns]; rfl
theorem strsD_map : ∀ ns : List Str, strsD (ns.map .str) = some ns
  | [] => rfl
  | n :: ns => by show (strsD (ns.map .str)).map _ = _; rw [strsD_map ns]; rfl
end Mw

set_option Elab.async false
set_option linter.all false
set_option maxRecDepth 100000
set_option maxHeartbeats 4000000
namespace Mw
open PySem PySem.Spec PyProof.Rows L2

def B_short_form : SM := (seqW (ifSW (testW (opW leD (cbW lenD (consW (vW 0) nilW)) (cW (.int 5)))) (retW (tupW (consW (cbW tupD (consW (vW 0) nilW)) (consW (tupW nilW) (consW (tupW nilW) nilW))))) passW) (seqW (asgW (scW (itW iAnyD (slW slD (vW 0) (soW (cW (.int 2))) (soW (unW negD (cW (.int 3)))))) [3] (gN 3) (testW (opW neD (vW 3) (vW 1))) (vW 3)) (gN 2)) (retW (tupW (consW (cbW tupD (consW (slW slD (vW 0) noW (soW (cW (.int 2)))) nilW)) (consW (cbW tupD (consW (cbW sortedD (consW (vW 2) nilW)) nilW)) (consW (cbW tupD (consW (slW slD (vW 0) (soW (unW negD (cW (.int 3)))) noW) nilW)) nilW)))))))
@[irreducible] def W_short_form : PreX := defW 2 4 B_short_form
theorem W_short_form_eq : W_short_form = defW 2 4 B_short_form := by unfold W_short_form; rfl
def B_is_integer : SM := (retW (avW (cbW isiD (consW (vW 0) (consW (cW (.ty "int")) nilW))) (nvW (cbW isiD (consW (vW 0) (consW (cW (.ty "bool")) nilW))))))
@[irreducible] def W_is_integer : PreX := defW 1 1 B_is_integer
theorem W_is_integer_eq : W_is_integer = defW 1 1 B_is_integer := by unfold W_is_integer; rfl
def B_Walk_short : SM := (seqW (ifSW (orW (notW (testW (cbW isiD (consW (vW 0) (consW (cW (.ty "tuple")) nilW))))) (notW (testW (cbW allD (consW (lcW (itW iAnyD (vW 0)) [1] (gN 1) yesW (callW W_is_integer (consW (vW 1) nilW))) nilW))))) (raise0W 9) passW) (retW (callW (dflP W_short_form [.non]) (consW (vW 0) nilW))))
@[irreducible] def W_Walk_short : PreX := defW 1 2 B_Walk_short
theorem W_Walk_short_eq : W_Walk_short = defW 1 2 B_Walk_short := by unfold W_Walk_short; rfl
end Mw

set_option Elab.async false
set_option linter.all false
set_option maxRecDepth 100000
set_option maxHeartbeats 4000000
namespace Mw
open PySem PySem.Spec PyProof.Rows L2
def isInt : Dt → Bool
  | .int _ => true
  | _ => false
variable {R : Dt → Prop} {X : Xn}
theorem sp_is_integer {d : Dt} (hd : (tyN d).isSome = true) (h : R (.bl (isInt d))) : W_is_integer [d] R X := by
  rw [W_is_integer_eq]
  refine ⟨rfl, ?_⟩
  cases d with
  | int i => exact ⟨by decide, _, rfl, ifT (by decide) ⟨by decide, _, rfl, h⟩⟩
  | bl i => exact ⟨by decide, _, rfl, ifT (by decide) ⟨by decide, _, rfl, h⟩⟩
  | non => exact ⟨by decide, _, rfl, ifF (by decide) h⟩
  | str i => exact ⟨by decide, _, rfl, ifF (by decide) h⟩
  | lst i => exact ⟨by decide, _, rfl, ifF (by decide) h⟩
  | tup i => exact ⟨by decide, _, rfl, ifF (by decide) h⟩
  | dic i => exact ⟨by decide, _, rfl, ifF (by decide) h⟩
  | _ => cases hd
/-! the short form -/
def midN (ns : List Int) : List Int := (ns.drop 2).take (ns.length - 3 - 2)
def shortD (ns : List Int) : Dt :=
  if ns.length ≤ 5 then .tup [.tup (ns.map .int), .tup [], .tup []] else .tup [.tup ((ns.take 2).map .int), .tup ((sortU (midN ns)).map .int), .tup ((ns.drop (ns.length - 3)).map .int)]
theorem sp_short_form {ns : List Int} (hl : ns.length ≤ 60) (h : R (shortD ns)) : W_short_form [.tup (ns.map .int), .non] R X := by
  rw [W_short_form_eq]
  refine ⟨rfl, ?_⟩
  refine ifb (fun h1 => ?_) fun h1 => ?_
  · have h1 := of_decide_eq_true h1
    rw [List.length_map] at h1
    unfold shortD at h
    rw [if_pos (by omega)] at h
    exact ⟨by decide, by decide, Nat.le_of_ble_eq_true rfl, h⟩
  · have h1 := of_decide_eq_false h1
    rw [List.length_map] at h1
    unfold shortD at h
    rw [if_neg (by omega)] at h
    have e1 : cutD (ns.map .int) (some 2) (some (-3)) = (midN ns).map .int := by
      unfold cutD midN
      rw [List.length_map, show HT.sIx ns.length 0 (some 2) = min 2 ns.length from HT.sIx_nat _ _ 2, show HT.sIx ns.length ns.length (some (-3)) = ns.length - 3 from sIx_neg (k := 3) (by decide), Nat.min_eq_left (by omega), List.map_take, List.map_drop]
    have e2 : cutD (ns.map .int) none (some 2) = (ns.take 2).map .int := by
      unfold cutD
      rw [List.length_map, show HT.sIx ns.length ns.length (some 2) = min 2 ns.length from HT.sIx_nat _ _ 2, HT.sIx_none, Nat.min_eq_left (by omega), List.drop_zero, List.map_take]
    have e3 : cutD (ns.map .int) (some (-3)) none = (ns.drop (ns.length - 3)).map .int := by
      unfold cutD
      rw [List.length_map, HT.sIx_none, show HT.sIx ns.length 0 (some (-3)) = ns.length - 3 from sIx_neg (k := 3) (by decide), List.take_of_length_le (by simp), List.map_drop]
    have hm : (midN ns).length ≤ 60 := by unfold midN; simp; omega
    have fm : ((midN ns).map Dt.int).filterMap (fun d => match d with | .int i => some i | _ => none) = midN ns := by
      rw [List.filterMap_map]
      exact List.filterMap_some
    show (cutD (ns.map .int) (some 2) (some (-3))).length ≤ 1000 ∧ _
    rw [e1]
    refine ⟨by simp; omega, sc_fm (F := fun d => match d with | .int i => some i | _ => none) (fun d hd Q hq => ?_) ?_⟩
    · obtain ⟨i, _, rfl⟩ := List.mem_map.mp hd
      exact ⟨_, _, rfl, rfl, rfl, rfl, ifT rfl hq⟩
    · rw [fm]
      show (midN ns).length < 64 ∧ _
      refine ⟨by omega, ?_⟩
      show [_, _, _].length ≤ 1000000 ∧ R (.tup [.tup (cutD (ns.map .int) none (some 2)), .tup ((sortU (midN ns)).map .int), .tup (cutD (ns.map .int) (some (-3)) none)])
      rw [e2, e3]
      exact ⟨Nat.le_of_ble_eq_true rfl, h⟩
end Mw

set_option Elab.async false
set_option linter.all false
set_option maxRecDepth 100000
set_option maxHeartbeats 4000000
namespace Mw
open PySem PySem.Spec PyProof.Rows L2

def B__law_one_of : SM := (retW (opW ixD (vW 1) (callW PreRoll (consW (vW 0) (consW (cbW lenD (consW (vW 1) nilW)) nilW)))))
@[irreducible] def W__law_one_of : PreX := defW 2 2 B__law_one_of
theorem W__law_one_of_eq : W__law_one_of = defW 2 2 B__law_one_of := by unfold W__law_one_of; rfl
def B__law_short : SM := (seqW (asgW (cbW tupD (consW (vW 0) nilW)) (gN 0)) (seqW (ifSW (testW (opW ltD (cbW lenD (consW (vW 0) nilW)) (cW (.int 6)))) (retW (tupW (consW (vW 0) (consW (tupW nilW) (consW (tupW nilW) nilW))))) passW) (retW (tupW (consW (slW slD (vW 0) noW (soW (cW (.int 2)))) (consW (cbW tupD (consW (cbW sortedD (consW (cbW setD (consW (slW slD (vW 0) (soW (cW (.int 2))) (soW (opW subD (cbW lenD (consW (vW 0) nilW)) (cW (.int 3))))) nilW)) nilW)) nilW)) (consW (slW slD (vW 0) (soW (opW subD (cbW lenD (consW (vW 0) nilW)) (cW (.int 3)))) noW) nilW)))))))
@[irreducible] def W__law_short : PreX := defW 1 1 B__law_short
theorem W__law_short_eq : W__law_short = defW 1 1 B__law_short := by unfold W__law_short; rfl
def B__law_is_refused : SM := (seqW (tryW [9] 9 (exprW (callW W_Walk_short (consW (vW 0) nilW))) (retW (cW (.bl true)))) (retW (cW (.bl false))))
@[irreducible] def W__law_is_refused : PreX := defW 1 1 B__law_is_refused
theorem W__law_is_refused_eq : W__law_is_refused = defW 1 1 B__law_is_refused := by unfold W__law_is_refused; rfl
def B__law_right : SM := (seqW (asgW (callW W__law_one_of (consW (vW 0) (consW (lstW (consW (lstW (consW (cW (.int 0)) (consW (cW (.int 1)) nilW))) (consW (lstW (consW (cW (.int 0)) (consW (cW (.int 1)) (consW (cW (.int 2)) nilW)))) (consW (lstW (consW (cW (.int 0)) (consW (cW (.int 0)) (consW (cW (.int 0)) (consW (cW (.int 1)) nilW))))) (consW (lstW (consW (cW (.int 7)) (consW (cW (.int 3)) (consW (opW subD (cW (.int 0)) (cW (.int 5))) (consW (cW (.int 0)) nilW))))) (consW (lstW (consW (callW PreRoll (consW (vW 0) (consW (opW powD (cW (.int 10)) (cW (.int 12))) nilW))) (consW (cW (.int 0)) nilW))) nilW)))))) nilW))) (gN 1)) (seqW (asgW (cbW tupD (consW (lcW (itAW rng1D (consW (callW PreRoll (consW (vW 0) (consW (cW (.int 15)) nilW))) nilW)) [3] (gN 3) yesW (callW W__law_one_of (consW (vW 0) (consW (vW 1) nilW)))) nilW)) (gN 2)) (seqW (ifSW (testW (opW neD (cbW reprD (consW (callW W_Walk_short (consW (vW 2) nilW)) nilW)) (cbW reprD (consW (callW W__law_short (consW (vW 2) nilW)) nilW)))) (retW (cW (.bl false))) passW) (seqW (asgW (callW PreRoll (consW (vW 0) (consW (opW addD (cbW lenD (consW (vW 2) nilW)) (cW (.int 1))) nilW))) (gN 3)) (seqW (newLW 4 (consW (cW (.non)) (consW (cbW listD (consW (vW 2) nilW)) (consW dnewW (consW (cW (.str "row")) (consW (cW (.int 0)) (consW (cW (.bl true)) nilW))))))) (seqW (forW (itW iAnyD (lstW (consW (cW (.non)) (consW (cW (.bl true)) (consW (cW (.bl false)) (consW (cW (.str "0")) (consW (tupW (consW (cW (.int 0)) nilW)) (consW (lstW (consW (cW (.int 0)) nilW)) (consW (tupW nilW) (consW dnewW nilW)))))))))) (gN 5) (appW 4 (consW (opW addD (opW addD (slW slD (vW 2) noW (soW (vW 3))) (tupW (consW (vW 5) nilW))) (slW slD (vW 2) (soW (vW 3)) noW)) nilW))) (tellW 4 (retW (opW eqD (lcW (itW iAnyD (vW 4)) [5] (gN 5) (notW (testW (callW W__law_is_refused (consW (vW 5) nilW)))) (vW 5)) (lstW nilW))))))))))
@[irreducible] def W__law_right : PreX := defW 1 6 B__law_right
theorem W__law_right_eq : W__law_right = defW 1 6 B__law_right := by unfold W__law_right; rfl
def B_law : SM := (seqW (forW (itAW rng1D (consW (cbW maxD (consW (cW (.int 1)) (consW (cbW minD (consW (cW (.int 9)) (consW (cbW lenD (consW (vW 0) nilW)) nilW))) nilW))) nilW)) (gN 1) (ifSW (notW (testW (callW (calmP W__law_right) (consW (callW PreDice (consW (vW 0) (consW (vW 1) nilW))) nilW)))) (retW (cW (.bl false))) passW)) (seqW (asgW (lstW (consW (callW W_Walk_short (consW (tupW (consW (cW (.int 1)) (consW (cW (.int 0)) (consW (cW (.int 0)) (consW (cW (.int 1)) (consW (cW (.int 1)) nilW)))))) nilW)) (consW (callW W_Walk_short (consW (tupW (consW (cW (.int 0)) (consW (cW (.int 1)) (consW (cW (.int 9)) (consW (cW (.int 1)) (consW (cW (.int 1)) (consW (cW (.int 0)) nilW))))))) nilW)) (consW (callW W_Walk_short (consW (tupW (consW (cW (.int 3)) (consW (cW (.int 3)) (consW (cW (.int 2)) (consW (cW (.int 1)) (consW (cW (.int 2)) (consW (cW (.int 0)) (consW (cW (.int 4)) (consW (cW (.int 4)) (consW (cW (.int 4)) nilW)))))))))) nilW)) nilW)))) (gN 2)) (seqW (asgW (lstW (consW (tupW (consW (tupW (consW (cW (.int 1)) (consW (cW (.int 0)) (consW (cW (.int 0)) (consW (cW (.int 1)) (consW (cW (.int 1)) nilW)))))) (consW (tupW nilW) (consW (tupW nilW) nilW)))) (consW (tupW (consW (tupW (consW (cW (.int 0)) (consW (cW (.int 1)) nilW))) (consW (tupW (consW (cW (.int 9)) nilW)) (consW (tupW (consW (cW (.int 1)) (consW (cW (.int 1)) (consW (cW (.int 0)) nilW)))) nilW)))) (consW (tupW (consW (tupW (consW (cW (.int 3)) (consW (cW (.int 3)) nilW))) (consW (tupW (consW (cW (.int 0)) (consW (cW (.int 1)) (consW (cW (.int 2)) nilW)))) (consW (tupW (consW (cW (.int 4)) (consW (cW (.int 4)) (consW (cW (.int 4)) nilW)))) nilW)))) nilW)))) (gN 3)) (retW (avW (opW eqD (vW 2) (vW 3)) (opW eqD (callW W_Walk_short (consW (tupW nilW) nilW)) (tupW (consW (tupW nilW) (consW (tupW nilW) (consW (tupW nilW) nilW))))))))))
@[irreducible] def W_law : PreX := defW 1 4 B_law
theorem W_law_eq : W_law = defW 1 4 B_law := by unfold W_law; rfl
end Mw

set_option Elab.async false
set_option linter.all false
set_option maxRecDepth 100000
set_option maxHeartbeats 4000000
namespace Mw
open PySem PySem.Spec PyProof.Rows L2
variable {R : Dt → Prop} {X : Xn}
/-! Walk.short -/
theorem sp_walk_tup {l : List Dt} (hl : l.length ≤ 60) (ht : ∀ x ∈ l, (tyN x).isSome = true) (h1 : l.all isInt = true → W_short_form [.tup l, .non] R X) (h2 : l.all isInt = false → X 9 []) : W_Walk_short [.tup l] R X := by
  rw [W_Walk_short_eq]
  refine ⟨rfl, ?_⟩
  refine ⟨by decide, _, rfl, ifF (by decide) ?_⟩
  show l.length < 1000000 ∧ _
  refine ⟨by omega, lc_map (f := fun d => .bl (isInt d)) (fun d hd Q hq => sp_is_integer (ht d hd) hq) ?_⟩
  have e : ([] : List Dt) ++ l.map (fun d => Dt.bl (isInt d)) = (l.map isInt).map .bl := by rw [List.map_map]; rfl
  rw [e]
  refine ⟨l.map isInt, blsD_map _, ?_⟩
  have ea : (l.map isInt).all id = l.all isInt := by rw [List.all_map]; rfl
  rw [ea]
  refine ifb (fun h => ?_) fun h => ?_
  · exact h2 (by simpa using h)
  · exact h1 (by simpa using h)
theorem sp_walk_no {d : Dt} (ht : (tyN d).isSome = true) (hn : tyN d ≠ some "tuple") (h2 : X 9 []) : W_Walk_short [d] R X := by
  rw [W_Walk_short_eq]
  refine ⟨rfl, ?_⟩
  cases d with
  | tup l => exact absurd rfl hn
  | int i => exact ⟨by decide, _, rfl, ifT (by decide) (ifT rfl h2)⟩
  | bl i => exact ⟨by decide, _, rfl, ifT (by decide) (ifT rfl h2)⟩
  | non => exact ⟨by decide, _, rfl, ifT (by decide) (ifT rfl h2)⟩
  | str i => exact ⟨by decide, _, rfl, ifT (by decide) (ifT rfl h2)⟩
  | lst i => exact ⟨by decide, _, rfl, ifT (by decide) (ifT rfl h2)⟩
  | dic i => exact ⟨by decide, _, rfl, ifT (by decide) (ifT rfl h2)⟩
  | _ => cases ht
theorem all_ints (ns : List Int) : (ns.map Dt.int).all isInt = true := by
  rw [List.all_map, List.all_eq_true]; exact fun _ _ => rfl
theorem ty_ints (ns : List Int) : ∀ x ∈ ns.map Dt.int, (tyN x).isSome = true := fun x hx => by
  obtain ⟨i, _, rfl⟩ := List.mem_map.mp hx; rfl
theorem sp_walk_ints {ns : List Int} (hl : ns.length ≤ 60) (h : R (shortD ns)) : W_Walk_short [.tup (ns.map .int)] R X :=
  sp_walk_tup (by simpa using hl) (ty_ints ns) (fun _ => sp_short_form hl h) fun z => by rw [all_ints] at z; cases z
/-! the law's own -/
theorem sp_one_of {l : List Dt} (h0 : l ≠ []) (hl : l.length ≤ 100000) (h : ∀ x ∈ l, R x) : W__law_one_of [.dice, .lst l] R X := by
  rw [W__law_one_of_eq]
  refine ⟨rfl, ?_⟩
  have h0 : 0 < l.length := List.length_pos_iff.mpr h0
  refine ⟨_, rfl, by omega, by omega, fun r h1 h2 => ?_⟩
  obtain ⟨i, rfl⟩ : ∃ i : Nat, r = i := ⟨r.toNat, by omega⟩
  have hi : i < l.length := by omega
  exact ⟨l[i], atI_nat (List.getElem?_eq_getElem hi), h _ (List.getElem_mem hi)⟩
theorem sp_law_short {ns : List Int} (hl : ns.length ≤ 60) (h : R (shortD ns)) : W__law_short [.tup (ns.map .int)] R X := by
  rw [W__law_short_eq]
  refine ⟨rfl, ?_⟩
  refine ifb (fun h1 => ?_) fun h1 => ?_
  · have h1 := of_decide_eq_true h1
    rw [List.length_map] at h1
    unfold shortD at h
    rw [if_pos (by omega)] at h
    exact ⟨by decide, by decide, Nat.le_of_ble_eq_true rfl, h⟩
  · have h1 := of_decide_eq_false h1
    rw [List.length_map] at h1
    unfold shortD at h
    rw [if_neg (by omega)] at h
    have hc : ((ns.map Dt.int).length : Int) - 3 = ((ns.length - 3 : Nat) : Int) := by rw [List.length_map]; omega
    have e1 : cutD (ns.map .int) (some 2) (some (((ns.map Dt.int).length : Int) - 3)) = (midN ns).map .int := by
      unfold cutD midN
      rw [hc, List.length_map, show HT.sIx ns.length 0 (some 2) = min 2 ns.length from HT.sIx_nat _ _ 2, HT.sIx_nat, Nat.min_eq_left (by omega), Nat.min_eq_left (by omega), List.map_take, List.map_drop]
    have e2 : cutD (ns.map .int) none (some 2) = (ns.take 2).map .int := by
      unfold cutD
      rw [List.length_map, show HT.sIx ns.length ns.length (some 2) = min 2 ns.length from HT.sIx_nat _ _ 2, HT.sIx_none, Nat.min_eq_left (by omega), List.drop_zero, List.map_take]
    have e3 : cutD (ns.map .int) (some (((ns.map Dt.int).length : Int) - 3)) none = (ns.drop (ns.length - 3)).map .int := by
      unfold cutD
      rw [hc, List.length_map, HT.sIx_none, HT.sIx_nat, Nat.min_eq_left (by omega), List.take_of_length_le (by simp), List.map_drop]
    have hm : (midN ns).length ≤ 60 := by unfold midN; simp; omega
    show ∃ ks, intsD (cutD (ns.map .int) (some 2) (some (((ns.map Dt.int).length : Int) - 3))) = some ks ∧ _
    rw [e1]
    refine ⟨midN ns, intsD_map _, by omega, by omega, ?_⟩
    show [_, _, _].length ≤ 1000000 ∧ R (.tup [.tup (cutD (ns.map .int) none (some 2)), .tup ((sortU (midN ns)).map .int), .tup (cutD (ns.map .int) (some (((ns.map Dt.int).length : Int) - 3)) none)])
    rw [e2, e3]
    exact ⟨Nat.le_of_ble_eq_true rfl, h⟩
/-- it is refused -/
theorem sp_refused {d : Dt} (ht : (tyN d).isSome = true) (hn : tyN d ≠ some "tuple" ∨ ∃ l, d = .tup l ∧ l.length ≤ 60 ∧ (∀ x ∈ l, (tyN x).isSome = true) ∧ l.all isInt = false) (h : R (.bl true)) : W__law_is_refused [d] R X := by
  rw [W__law_is_refused_eq]
  refine ⟨rfl, ?_⟩
  rcases hn with hn | ⟨l, rfl, hl, hx, ha⟩
  · exact sp_walk_no ht hn ⟨by decide, ifT (by decide) h⟩
  · exact sp_walk_tup hl hx (fun z => by rw [ha] at z; cases z) fun _ => ⟨by decide, ifT (by decide) h⟩
end Mw

set_option Elab.async false
set_option linter.all false
set_option maxRecDepth 100000
set_option maxHeartbeats 4000000
namespace Mw
open PySem PySem.Spec PyProof.Rows L2
variable {R : Dt → Prop} {X : Xn}
theorem toPys_ints : ∀ ns : List Int, toPys (ns.map .int) = some (ns.map .int)
  | [] => rfl
  | n :: ns => by
    show (match some (PyData.int n), toPys (ns.map .int) with | some p, some q => some (p :: q) | _, _ => none) = _
    rw [toPys_ints ns]; rfl
def smallI (i : Int) : Prop := i.natAbs < 2 ^ 64
theorem small_log {i : Int} (h : smallI i) : i.natAbs.log2 ≤ 64 := by
  by_cases z : i.natAbs = 0
  · rw [z]; decide
  · have := (Nat.log2_lt z).mpr h; omega
theorem fit_ints : ∀ {ns : List Int}, (∀ n ∈ ns, smallI n) → fitAll (ns.map .int) = true
  | [], _ => rfl
  | n :: ns, h => by
    show (decide (n.natAbs.log2 < 1920) && fitAll (ns.map .int)) = true
    rw [fit_ints fun x hx => h x (List.mem_cons_of_mem _ hx), decide_eq_true (by have := small_log (h n List.mem_cons_self); omega)]; rfl
theorem sz_ints : ∀ {ns : List Int}, (∀ n ∈ ns, smallI n) → szAll (ns.map .int) ≤ 70 * ns.length
  | [], _ => Nat.le_refl _
  | n :: ns, h => by
    show n.natAbs.log2 + 3 + 2 + szAll (ns.map .int) ≤ 70 * (ns.length + 1)
    have := sz_ints fun x hx => h x (List.mem_cons_of_mem _ hx)
    have := small_log (h n List.mem_cons_self)
    omega
theorem hasDict_ints : ∀ ns : List Int, PyData.hasDictAll (ns.map .int) = false
  | [] => rfl
  | n :: ns => by
    show (false || PyData.hasDictAll (ns.map .int)) = false
    rw [hasDict_ints ns]; rfl
theorem depth_ints : ∀ ns : List Int, PyData.depthAll (ns.map .int) ≤ 1
  | [] => by decide
  | n :: ns => by
    show max (PyData.depth (.int n)) (PyData.depthAll (ns.map .int)) ≤ 1
    exact Nat.max_le.mpr ⟨by show 0 ≤ 1; decide, depth_ints ns⟩
/-- three rows of ints, shown -/
theorem three_py {a b d : List Int} (ha : ∀ n ∈ a, smallI n) (hb : ∀ n ∈ b, smallI n) (hd : ∀ n ∈ d, smallI n) (la : a.length ≤ 1000) (lb : b.length ≤ 1000) (ld : d.length ≤ 1000) :
    ∃ p, toPy (.tup [.tup (a.map .int), .tup (b.map .int), .tup (d.map .int)]) = some p ∧ fitD p = true ∧ p.hasDict = false ∧ p.depth ≤ 60 ∧ szD p ≤ 1000000 := by
  refine ⟨.tuple [.tuple (a.map .int), .tuple (b.map .int), .tuple (d.map .int)], ?_, ?_, ?_, ?_, ?_⟩
  · show (toPys [.tup (a.map .int), .tup (b.map .int), .tup (d.map .int)]).map _ = _
    have e : ∀ ns : List Int, toPy (.tup (ns.map .int)) = some (.tuple (ns.map .int)) := fun ns => by
      show (toPys (ns.map .int)).map _ = _
      rw [toPys_ints]; rfl
    simp only [toPys, e]; rfl
  · show (fitAll (a.map .int) && (fitAll (b.map .int) && (fitAll (d.map .int) && true))) = true
    rw [fit_ints ha, fit_ints hb, fit_ints hd]; rfl
  · show (PyData.hasDictAll (a.map .int) || (PyData.hasDictAll (b.map .int) || (PyData.hasDictAll (d.map .int) || false))) = false
    rw [hasDict_ints, hasDict_ints, hasDict_ints]; rfl
  · have h1 := depth_ints a
    have h2 := depth_ints b
    have h3 := depth_ints d
    simp only [PyData.depth, PyData.depthAll] at *
    omega
  · show szAll (a.map .int) + 3 + 2 + (szAll (b.map .int) + 3 + 2 + (szAll (d.map .int) + 3 + 2 + 0)) + 3 ≤ 1000000
    have := sz_ints ha
    have := sz_ints hb
    have := sz_ints hd
    omega
theorem short_py {ns : List Int} (hl : ns.length ≤ 60) (h : ∀ n ∈ ns, smallI n) : ∃ p, toPy (shortD ns) = some p ∧ fitD p = true ∧ p.hasDict = false ∧ p.depth ≤ 60 ∧ szD p ≤ 1000000 := by
  unfold shortD
  split
  · exact three_py (a := ns) (b := []) (d := []) h (fun _ z => nomatch z) (fun _ z => nomatch z) (by omega) (by decide) (by decide)
  · have hm : ∀ n ∈ midN ns, n ∈ ns := fun n hn => List.mem_of_mem_drop (List.mem_of_mem_take hn)
    have ls : (sortU (midN ns)).length ≤ 1000 := by
      have key : ∀ l : List Int, (sortU l).length ≤ l.length := fun l => by
        induction l with
        | nil => exact Nat.le_refl _
        | cons x l ih => exact Nat.le_trans len_insU (by simp; omega)
      have := key (midN ns)
      have : (midN ns).length ≤ 60 := by unfold midN; simp; omega
      omega
    refine three_py (fun n hn => h n (List.mem_of_mem_take hn)) (fun n hn => h n (hm n (mem_sortU.mp hn))) (fun n hn => h n (List.mem_of_mem_drop hn)) (by simp; omega) ls (by simp; omega)
def Bad (d : Dt) : Prop := (tyN d).isSome = true ∧ (tyN d ≠ some "tuple" ∨ ∃ l, d = .tup l ∧ l.length ≤ 60 ∧ (∀ x ∈ l, (tyN x).isSome = true) ∧ l.all isInt = false)
theorem mem_cut {l : List Dt} {lo hi : Option Int} {x : Dt} (h : x ∈ cutD l lo hi) : x ∈ l := List.mem_of_mem_drop (List.mem_of_mem_take h)
theorem len_cut {l : List Dt} {lo hi : Option Int} : (cutD l lo hi).length ≤ l.length := by
  unfold cutD
  exact Nat.le_trans (List.length_take_le' _ _) (by simp)
theorem bad_mid {ns : List Int} {v : Dt} {at_ : Int} (hl : ns.length ≤ 14) (ht : (tyN v).isSome = true) (hv : isInt v = false) : Bad (.tup (cutD (ns.map .int) none (some at_) ++ [v] ++ cutD (ns.map .int) (some at_) none)) := by
  refine ⟨rfl, .inr ⟨_, rfl, ?_, fun x hx => ?_, ?_⟩⟩
  · have h1 := len_cut (l := ns.map Dt.int) (lo := none) (hi := some at_)
    have h2 := len_cut (l := ns.map Dt.int) (lo := some at_) (hi := none)
    rw [List.length_map] at h1 h2
    simp only [List.length_append, List.length_cons, List.length_nil]
    omega
  · rw [List.mem_append, List.mem_append] at hx
    rcases hx with (hx | hx) | hx
    · exact ty_ints ns x (mem_cut hx)
    · rw [List.mem_singleton.mp hx]; exact ht
    · exact ty_ints ns x (mem_cut hx)
  · rw [List.all_append, List.all_append]
    show (_ && (isInt v && true) && _) = false
    rw [hv]; simp
theorem sp_right (h : R (.bl true)) : W__law_right [.dice] R X := by
  rw [W__law_right_eq]
  refine ⟨rfl, ?_⟩
  refine ⟨Nat.le_of_ble_eq_true rfl, Nat.le_of_ble_eq_true rfl, Nat.le_of_ble_eq_true rfl, Nat.le_of_ble_eq_true rfl, ⟨by decide, by decide +kernel⟩, _, rfl, by decide, by decide, fun r h0 h1 => ⟨Nat.le_of_ble_eq_true rfl, Nat.le_of_ble_eq_true rfl, ?_⟩⟩
  refine sp_one_of (by simp) (by show 5 ≤ 100000; decide) fun menu hm => ?_
  obtain ⟨ms, rfl, hne, hlen, hsm⟩ : ∃ ms : List Int, menu = .lst (ms.map .int) ∧ ms ≠ [] ∧ ms.length ≤ 4 ∧ ∀ m ∈ ms, smallI m := by
    simp only [List.mem_cons, List.not_mem_nil, or_false] at hm
    have sm : ∀ l : List Int, (l.all fun m => decide (m.natAbs < 2 ^ 64)) = true → ∀ m ∈ l, smallI m := fun l h m hm => show m.natAbs < 2 ^ 64 from of_decide_eq_true (List.all_eq_true.mp h m hm)
    rcases hm with rfl | rfl | rfl | rfl | rfl
    · exact ⟨[0, 1], rfl, by simp, by decide, sm _ (by decide)⟩
    · exact ⟨[0, 1, 2], rfl, by simp, by decide, sm _ (by decide)⟩
    · exact ⟨[0, 0, 0, 1], rfl, by simp, by decide, sm _ (by decide)⟩
    · exact ⟨[7, 3, 0 - 5, 0], rfl, by simp, by decide, sm _ (by decide)⟩
    · refine ⟨[r, 0], rfl, by simp, by show 2 ≤ 4; decide, fun m hm => ?_⟩
      simp only [List.mem_cons, List.not_mem_nil, or_false] at hm
      have h1 : r < 10 ^ 12 := h1
      rcases hm with rfl | rfl
      · show m.natAbs < 2 ^ 64; omega
      · show (0 : Int).natAbs < 2 ^ 64; decide
  refine ⟨_, rfl, by decide, by decide, fun n n0 n1 => ⟨⟨by omega, by omega⟩, ?_⟩⟩
  show (rangeD 0 n.toNat).length < 1000000 ∧ _
  refine ⟨by rw [range_len]; omega, lc_any (P := fun y => ∃ m ∈ ms, y = .int m) (fun d hd Q hq => ?_) fun ys hl hp => ?_⟩
  · refine sp_one_of (by simpa using hne) (by simp; omega) fun y hy => hq y ?_
    obtain ⟨m, hm, rfl⟩ := List.mem_map.mp hy
    exact ⟨m, hm, rfl⟩
  obtain ⟨ns, rfl, hns⟩ : ∃ ns : List Int, ys = ns.map .int ∧ ∀ k ∈ ns, smallI k := by
    clear hl
    induction ys with
    | nil => exact ⟨[], rfl, fun _ z => nomatch z⟩
    | cons y ys ih =>
      obtain ⟨m, hm, rfl⟩ := hp y List.mem_cons_self
      obtain ⟨ns, rfl, hns⟩ := ih fun z hz => hp z (List.mem_cons_of_mem _ hz)
      exact ⟨m :: ns, rfl, fun k hk => by
        rcases List.mem_cons.mp hk with rfl | hk
        · exact hsm k hm
        · exact hns k hk⟩
  rw [List.length_map, range_len] at hl
  have hl : ns.length ≤ 14 := by omega
  obtain ⟨p, p1, p2, p3, p4, p5⟩ := short_py (ns := ns) (by omega) hns
  refine sp_walk_ints (by omega) ⟨p, p1, p2, p3, p4, p5, ?_⟩
  refine sp_law_short (by omega) ⟨p, p1, p2, p3, p4, p5, ?_⟩
  refine ifF (by simp) ?_
  refine ⟨_, rfl, by rw [List.length_append, List.length_map]; show (0 : Int) < ((0 + ns.length : Nat) : Int) + 1; omega, by rw [List.length_append, List.length_map]; show ((0 + ns.length : Nat) : Int) + 1 < 2 ^ 64; omega, fun at_ a0 a1 => ?_⟩
  refine ⟨Nat.le_of_ble_eq_true rfl, ?_⟩
  refine ⟨Nat.le_of_ble_eq_true rfl, Nat.le_of_ble_eq_true rfl, Nat.le_of_ble_eq_true rfl, Nat.le_of_ble_eq_true rfl, ?_⟩
  refine for_inv (fun i s => ∃ l x, s = [.dt .dice, .dt (.lst (ms.map .int)), .dt (.tup (ns.map .int)), .dt (.int at_), .own (.lst l), x] ∧ l.length ≤ 6 + i ∧ ∀ d ∈ l, Bad d) 0 ⟨_, _, rfl, by show 6 ≤ 6; decide, ?_⟩ ?_ ?_
  · intro d hd
    simp only [List.mem_cons, List.not_mem_nil, or_false] at hd
    rcases hd with rfl | rfl | rfl | rfl | rfl | rfl
    · exact ⟨rfl, .inl (by simp [tyN])⟩
    · exact ⟨rfl, .inl (by simp [tyN])⟩
    · exact ⟨rfl, .inl (by simp [tyN])⟩
    · exact ⟨rfl, .inl (by simp [tyN])⟩
    · exact ⟨rfl, .inl (by simp [tyN])⟩
    · exact ⟨rfl, .inl (by simp [tyN])⟩
  · rintro i d s N hi ⟨l, x, rfl, hl2, hb⟩ hn
    have hv : (tyN d).isSome = true ∧ isInt d = false := by
      have := List.mem_of_getElem? hi
      simp only [List.mem_cons, List.not_mem_nil, or_false] at this
      rcases this with rfl | rfl | rfl | rfl | rfl | rfl | rfl | rfl <;> exact ⟨rfl, rfl⟩
    have hi8 : i < 8 := (List.getElem?_eq_some_iff.mp hi).1
    have h1 := len_cut (l := ns.map Dt.int) (lo := none) (hi := some at_)
    have h2 := len_cut (l := ns.map Dt.int) (lo := some at_) (hi := none)
    rw [List.length_map] at h1 h2
    refine ⟨Nat.le_of_ble_eq_true rfl, by show _ + 1 ≤ _; omega, by simp only [List.length_append, List.length_cons, List.length_nil]; omega, by omega, hn _ ⟨_, _, rfl, by simp; omega, fun y hy => ?_⟩⟩
    rcases List.mem_append.mp hy with hy | hy
    · exact hb y hy
    · rw [List.mem_singleton.mp hy]; exact bad_mid hl hv.1 hv.2
  · rintro s ⟨l, x, rfl, hl2, hb⟩
    have hl2 : l.length ≤ 14 := hl2
    show l.length < 1000000 ∧ _
    refine ⟨by omega, lc_fm (F := fun _ => none) (fun d hd Q hq => ?_) ?_⟩
    · obtain ⟨b1, b2⟩ := hb d hd
      exact sp_refused b1 b2 (ifF rfl hq)
    · rw [show l.filterMap (fun _ => (none : Option Dt)) = [] by simp]
      exact ⟨by decide, .list [], .list [], rfl, rfl, by decide, by decide, h⟩
theorem sp_law (ns : List Int) (hl : ns.length ≤ 63) (R : Dt → Prop) (h : R (.bl true)) : W_law [.sq (ns.map .int)] R xF := by
  rw [W_law_eq]
  refine ⟨rfl, ?_⟩
  have hb : ∀ z : Int, 0 ≤ z → z ≤ 63 → -(2 ^ 62) ≤ (if (if z < 9 then z else 9) > 1 then (if z < 9 then z else 9) else (1 : Int)) ∧ (if (if z < 9 then z else 9) > 1 then (if z < 9 then z else 9) else (1 : Int)) < 2 ^ 62 := fun z h0 h1 => by
    split <;> split <;> omega
  refine ⟨hb _ (by omega) (by simp; omega), for_inv (fun i s => ∃ x1 x2 x3, s = [.dt (.sq (ns.map .int)), x1, x2, x3]) 0 ⟨_, _, _, rfl⟩ ?_ ?_⟩
  · rintro i d s N hi ⟨x1, x2, x3, rfl⟩ hn
    obtain ⟨_, rfl⟩ := range_at hi
    refine ⟨ns, i, by simp [rdS], ?_⟩
    exact sp_right (ifF rfl (hn _ ⟨_, _, _, rfl⟩))
  · rintro s ⟨x1, x2, x3, rfl⟩
    refine ⟨Nat.le_of_ble_eq_true rfl, sp_walk_ints (ns := [1, 0, 0, 1, 1]) (by decide) ?_⟩
    refine ⟨Nat.le_of_ble_eq_true rfl, sp_walk_ints (ns := [0, 1, 9, 1, 1, 0]) (by decide) ?_⟩
    refine ⟨Nat.le_of_ble_eq_true rfl, sp_walk_ints (ns := [3, 3, 2, 1, 2, 0, 4, 4, 4]) (by decide) ?_⟩
    refine ⟨Nat.le_of_ble_eq_true rfl, ?_⟩
    have e1 : shortD [1, 0, 0, 1, 1] = .tup [.tup [.int 1, .int 0, .int 0, .int 1, .int 1], .tup [], .tup []] := rfl
    have e2 : shortD [0, 1, 9, 1, 1, 0] = .tup [.tup [.int 0, .int 1], .tup [.int 9], .tup [.int 1, .int 1, .int 0]] := rfl
    have e3 : shortD [3, 3, 2, 1, 2, 0, 4, 4, 4] = .tup [.tup [.int 3, .int 3], .tup [.int 0, .int 1, .int 2], .tup [.int 4, .int 4, .int 4]] := rfl
    have e4 : shortD [] = .tup [.tup [], .tup [], .tup []] := rfl
    rw [e1, e2, e3]
    refine ⟨Nat.le_of_ble_eq_true rfl, Nat.le_of_ble_eq_true rfl, Nat.le_of_ble_eq_true rfl, Nat.le_of_ble_eq_true rfl, Nat.le_of_ble_eq_true rfl, Nat.le_of_ble_eq_true rfl, Nat.le_of_ble_eq_true rfl, Nat.le_of_ble_eq_true rfl, Nat.le_of_ble_eq_true rfl, Nat.le_of_ble_eq_true rfl, Nat.le_of_ble_eq_true rfl, Nat.le_of_ble_eq_true rfl, Nat.le_of_ble_eq_true rfl, ?_⟩
    refine ⟨_, _, rfl, rfl, by decide +kernel, by decide +kernel, ifT (by decide +kernel) ?_⟩
    refine ⟨Nat.le_of_ble_eq_true rfl, sp_walk_ints (ns := []) (by decide) ?_⟩
    rw [e4]
    refine ⟨Nat.le_of_ble_eq_true rfl, Nat.le_of_ble_eq_true rfl, Nat.le_of_ble_eq_true rfl, Nat.le_of_ble_eq_true rfl, ?_⟩
    exact ⟨_, _, rfl, rfl, by decide +kernel, by decide +kernel, h⟩
end Mw

set_option Elab.async false
set_option linter.all false
set_option maxRecDepth 100000
set_option maxHeartbeats 4000000
namespace Mw
open PySem PySem.Spec PyProof.Rows L2

def top (i : Nat) : Stmt := PySem.Challenge.pw_namedabove_k24_short_forms.main.body.getD i (.Pass ⟨0, 0, 0, 0⟩)
abbrev s_short_form : Stmt := top 63
theorem sc_short_form : FnScope ["row", "left_out", "between", "value"] ["row", "left_out"] (defScope s_short_form) := ⟨rfl, rfl, rfl, by decide +kernel, rfl, by decide +kernel, by decide +kernel⟩
abbrev s_is_integer : Stmt := top 15
theorem sc_is_integer : FnScope ["value"] ["value"] (defScope s_is_integer) := ⟨rfl, rfl, rfl, by decide +kernel, rfl, by decide +kernel, by decide +kernel⟩
abbrev s_Walk_short : Stmt := inClass (top 75) 3
theorem sc_Walk_short : FnScope ["row", "value"] ["row"] (defScope s_Walk_short) := ⟨rfl, rfl, rfl, by decide +kernel, rfl, by decide +kernel, by decide +kernel⟩
abbrev s__law_roll : Stmt := top 78
theorem sc__law_roll : FnScope ["_law_dice_here", "_law_total", "_law_one", "_law_two", "_law_found"] ["_law_dice_here", "_law_total"] (defScope s__law_roll) := ⟨rfl, rfl, rfl, by decide +kernel, rfl, by decide +kernel, by decide +kernel⟩
abbrev s__law_one_of : Stmt := top 79
theorem sc__law_one_of : FnScope ["_law_dice_here", "_law_items"] ["_law_dice_here", "_law_items"] (defScope s__law_one_of) := ⟨rfl, rfl, rfl, by decide +kernel, rfl, by decide +kernel, by decide +kernel⟩
abbrev s__law_short : Stmt := top 80
theorem sc__law_short : FnScope ["_law_row"] ["_law_row"] (defScope s__law_short) := ⟨rfl, rfl, rfl, by decide +kernel, rfl, by decide +kernel, by decide +kernel⟩
abbrev s__law_is_refused : Stmt := top 81
theorem sc__law_is_refused : FnScope ["_law_value"] ["_law_value"] (defScope s__law_is_refused) := ⟨rfl, rfl, rfl, by decide +kernel, rfl, by decide +kernel, by decide +kernel⟩
abbrev s__law_right : Stmt := top 82
theorem sc__law_right : FnScope ["_law_dice_here", "_law_menu", "_law_row", "_law_at", "_law_odd", "_law_value"] ["_law_dice_here"] (defScope s__law_right) := ⟨rfl, rfl, rfl, by decide +kernel, rfl, by decide +kernel, by decide +kernel⟩
abbrev s__law_dice : Stmt := top 77
theorem sc__law_dice : FnScope ["_law_script", "_law_at", "_law_cell", "_law_great", "_law_mixed"] ["_law_script", "_law_at"] (defScope s__law_dice) := ⟨rfl, rfl, rfl, by decide +kernel, rfl, by decide +kernel, by decide +kernel⟩
abbrev s_law : Stmt := top 83
theorem sc_law : FnScope ["_law_script", "_law_at", "_law_told", "_law_due"] ["_law_script"] (defScope s_law) := ⟨rfl, rfl, rfl, by decide +kernel, rfl, by decide +kernel, by decide +kernel⟩
structure EA where
  (p_Walk_short f_Walk_short C_Walk : Addr)
structure Tx (P : Program) (c : Kc) (mg : Str → Option Value) (ea : EA) : Prop where
  m_range : mg "range" = none
  m_max : mg "max" = none
  m_min : mg "min" = none
  m_len : mg "len" = none
  m_isinstance : mg "isinstance" = none
  m_tuple : mg "tuple" = none
  m_all : mg "all" = none
  m_sorted : mg "sorted" = none
  m_int : mg "int" = none
  m_bool : mg "bool" = none
  m_repr : mg "repr" = none
  m_list : mg "list" = none
  m_set : mg "set" = none
  m_abs : mg "abs" = none
  g_SHORT : ∃ u, mg "SHORT" = some u ∧ RelV (.int 5) u
  D_short_form : Dfd c.K mg "short_form" s_short_form ["row", "left_out"] [.non] [0]
  D_is_integer : Df c.K mg "is_integer" s_is_integer ["value"]
  D__law_roll : Df c.K mg "_law_roll" s__law_roll ["_law_dice_here", "_law_total"]
  D__law_one_of : Df c.K mg "_law_one_of" s__law_one_of ["_law_dice_here", "_law_items"]
  D__law_short : Df c.K mg "_law_short" s__law_short ["_law_row"]
  D__law_is_refused : Df c.K mg "_law_is_refused" s__law_is_refused ["_law_value"]
  D__law_right : Df c.K mg "_law_right" s__law_right ["_law_dice_here"]
  D__law_dice : Df c.K mg "_law_dice" s__law_dice ["_law_script", "_law_at"]
  D_law : Df c.K mg "law" s_law ["_law_script"]
  cm_Walk : mg "Walk" = some (.ref ea.C_Walk)
  cr_Walk : ClX.CRead c.K ea.C_Walk (.type "type")
  sm_Walk_short : SMet c.K ea.C_Walk "short" ea.p_Walk_short ea.f_Walk_short
  D_Walk_short : Dm c.K "short" "Walk.short" s_Walk_short ["row"] ea.f_Walk_short
  x_InvalidOperation : XoC c.K mg "InvalidOperation" (c.ca 9) [.type "ValueError", .type "Exception", .type "BaseException", .type "object"] "ValueError.__new__"
  xm_InvalidOperation : mg "InvalidOperation" = some (.ref (c.ca 9))
  meet_InvalidOperation : Meets c [9] 9
  kls : Klss c
end Mw

set_option Elab.async false
set_option linter.all false
set_option maxRecDepth 100000
set_option maxHeartbeats 4000000
namespace Mw
open PySem PySem.Spec PyProof.Rows L2
/-! ### what the head looks at: the module's names, and what some of them reach -/
def rootG (g : Addr → Option Obj) (x : Str) : Addr := He.ga (He.frG g [mainGlobals]) x
def cloG (g : Addr → Option Obj) : Nat → List Addr → List Addr
  | 0, as => as
  | n + 1, as => cloG g n (He.growD g as)
def asR (g : Addr → Option Obj) (n : Nat) (xs : List Str) : List Addr := mainGlobals :: cStatics :: cloG g n (xs.map (rootG g))
/-- a def: where it stands, its name, qualified name, text, defaults -/
structure Dd where
  ad : PySem.W.Frag → Addr
  name : Str
  qual : Str
  st : Stmt
  dfl : List He.Dv := []
  kwd : List (Str × He.Dv) := []
def Dd.dvs (K : PySem.W.Frag) (d : Dd) : List V := d.dfl.map (He.Dv.v K)
def Dd.kws (K : PySem.W.Frag) (d : Dd) : List (Str × V) := d.kwd.map fun q => (q.1, q.2.v K)
def fnU (K : PySem.W.Frag) (a : Addr) : He.FnW := match K.lookup a with
  | some ⟨_, _, .func fd, _⟩ => some (fd.name, fd.qualname, fd.params, fd.body, fd.scope, fd.globals, fd.closure, fd.builtins)
  | _ => none
def Dd.val (d : Dd) : He.FnW := some (d.name, d.qual, defArgs d.st, .stmts (defBody d.st), defScope d.st, mainGlobals, [], builtinsNs)
def Dd.ok (K : PySem.W.Frag) (d : Dd) : Bool := PySem.W.keepIn K (.ref (d.ad K)) && (match K.lookup (d.ad K) with
  | some ⟨_, _, .func fd, _⟩ => PySem.W.codeIn K fd.code d.qual && (He.dflB K fd.defaults (d.dvs K) && He.kwdB K fd.kwdefaults (d.kws K))
  | _ => false)
theorem Dd.funD {K : PySem.W.Frag} {d : Dd} (e : fnU K (d.ad K) = d.val) (c : d.ok K = true) : ∃ fd, FunD K d.name d.qual (defArgs d.st) (defBody d.st) (defScope d.st) (d.dvs K) (d.kws K) (d.ad K) fd := by
  obtain ⟨kp, c2⟩ := He.ba c
  unfold fnU at e
  generalize d.ad K = a at *
  match q : K.lookup a with
  | none => rw [q] at c2; cases c2
  | some ⟨oc, od, dt, osl⟩ =>
    rw [q] at c2 e
    cases dt with
    | func fd =>
      obtain ⟨n1, n2, n3, n4, n5, n6, n7, n8, n9, n10, n11, n12, n13, n14, n15⟩ := fd
      have e2 : (some (n1, n2, n3, n4, n5, n6, n7, n15) : He.FnW) = some (d.name, d.qual, defArgs d.st, .stmts (defBody d.st), defScope d.st, mainGlobals, [], builtinsNs) := e
      simp only [Option.some.injEq, Prod.mk.injEq] at e2
      obtain ⟨h1, h2, h3, h4, h5, h6, h7, h8⟩ := e2
      subst h1 h2 h3 h4 h5 h6 h7 h8
      obtain ⟨k1, k2⟩ := He.ba (show (PySem.W.codeIn K n13 d.qual && (He.dflB K n8 (d.dvs K) && He.kwdB K n9 (d.kws K))) = true from c2)
      obtain ⟨k3, k4⟩ := He.ba k2
      exact ⟨_, ⟨oc, od, n8, n9, n10, n11, n12, n13, n14, osl, rfl, q, k1, He.dflB_ok k3, He.kwdB_ok k4⟩, kp⟩
    | _ => cases c2
theorem fun_ofD {K : PySem.W.Frag} {x qual : Str} {st : Stmt} {kws : List (Str × V)} {f : Addr} {fd : FuncData} (F : FunD K x qual (defArgs st) (defBody st) (defScope st) [] kws f fd) : L2.Fun K x qual st f fd := by
  obtain ⟨oc, od, dV, kV, doc, pm, an, cdv, ct, osl, rfl, lk, hcd, hD, hK⟩ := F.ex
  rcases hD with ⟨_, rfl⟩ | ⟨e, _⟩
  · exact ⟨⟨oc, od, kV, doc, pm, an, cdv, ct, osl, rfl, lk, hcd⟩, F.kp⟩
  · exact absurd rfl e
/-! ### facts -/
abbrev Ft : Type := PySem.W.Frag → Bool
def fFree (x : Str) : Ft := fun K => He.eqO (PySem.W.nsIn K mainGlobals x) (some none)
def fGlo (x : Str) : Ft := fun K => He.eqO (PySem.W.nsIn K mainGlobals x) (some (some (.ref (He.ga K x))))
def fVal (x : Str) (v : V) : Ft := fun K => match PySem.W.nsIn K mainGlobals x with
  | some (some u) => He.relB v u
  | _ => false
def fReads (x : Str) : Ft := fun K => PySem.W.readsIn K (He.ga K x) (.type "type")
def fSpec (x m : Str) (b : String) : Ft := fun K => He.eqO (PySem.W.specialIn K (.ref (He.ga K x)) m) (some (some (.builtin b)))
def fKeep (x : Str) : Ft := fun K => PySem.W.keepIn K (.ref (He.ga K x))
def fSubT (x : Str) (T : String) : Ft := fun K => decide (PySem.W.subIn K (.ref (He.ga K x)) (.type T) = some true)
def fSub (x y : Str) (b : Bool) : Ft := fun K => decide (PySem.W.subIn K (.ref (He.ga K x)) (.ref (He.ga K y)) = some b)
def fTy (x : Str) : Ft := fun K => decide (PySem.W.typeIn K (.ref (He.ga K x)) = some (.type "type"))
def fHd (x : Str) : Ft := fun K => PySem.W.hasDictIn K (He.ga K x)
def fExc (x : Str) (bm : List Value) (n : String) : Ft := fun K => PySem.W.excIn K (He.ga K x) bm n
/-- a staticmethod: its object, its function -/
def stP (K : PySem.W.Frag) (C m : Str) : Addr := match PySem.W.findCls K (.ref (He.ga K C)) (.type "type") m with
  | some (.get _ (.ref p) _ _) => p
  | _ => 0
def stF (C m : Str) (K : PySem.W.Frag) : Addr := match PySem.W.recIn K (stP K C m) "staticmethod" with
  | some (.ref f :: _) => f
  | _ => 0
def fStat (C m : Str) : Ft := fun K => (match PySem.W.findCls K (.ref (He.ga K C)) (.type "type") m with
  | some (.get (.builtin b) (.ref p) .none (.ref a)) => decide (b = "staticmethod.__get__") && (decide (p = stP K C m) && decide (a = He.ga K C))
  | _ => false) && (match PySem.W.recIn K (stP K C m) "staticmethod" with
  | some (.ref f :: _) => decide (f = stF C m K)
  | _ => false)
section
variable {K : PySem.W.Frag}
theorem fFree_ok {x : Str} (h : fFree x K = true) : PySem.W.nsIn K mainGlobals x = some none := He.eqO_ok h
theorem fGlo_ok {x : Str} (h : fGlo x K = true) : PySem.W.nsIn K mainGlobals x = some (some (.ref (He.ga K x))) := He.eqO_ok h
theorem fVal_ok {x : Str} {v : V} (h : fVal x v K = true) : ∃ u, PySem.W.nsIn K mainGlobals x = some (some u) ∧ RelV v u := by
  unfold fVal at h
  split at h
  · rename_i u e; exact ⟨u, e, He.relB_ok h⟩
  · cases h
theorem fSpec_ok {x m : Str} {b : String} (h : fSpec x m b K = true) : PySem.W.specialIn K (.ref (He.ga K x)) m = some (some (.builtin b)) := He.eqO_ok h
theorem fSubT_ok {x : Str} {T : String} (h : fSubT x T K = true) : PySem.W.subIn K (.ref (He.ga K x)) (.type T) = some true := of_decide_eq_true h
theorem fSub_ok {x y : Str} {b : Bool} (h : fSub x y b K = true) : PySem.W.subIn K (.ref (He.ga K x)) (.ref (He.ga K y)) = some b := of_decide_eq_true h
theorem fTy_ok {x : Str} (h : fTy x K = true) : PySem.W.typeIn K (.ref (He.ga K x)) = some (.type "type") := of_decide_eq_true h
theorem fStat_ok {C m : Str} (h : fStat C m K = true) : PySem.W.findCls K (.ref (He.ga K C)) (.type "type") m = some (.get (.builtin "staticmethod.__get__") (.ref (stP K C m)) .none (.ref (He.ga K C))) ∧ ∃ r, PySem.W.recIn K (stP K C m) "staticmethod" = some (.ref (stF C m K) :: r) := by
  obtain ⟨h1, h2⟩ := He.ba h
  constructor
  · split at h1
    · rename_i b p a e
      obtain ⟨e1, h1⟩ := He.ba h1
      obtain ⟨e2, e3⟩ := He.ba h1
      rw [e, of_decide_eq_true e1, ← of_decide_eq_true e2, ← of_decide_eq_true e3]
    · cases h1
  · split at h2
    · rename_i f r e
      rw [e, ← of_decide_eq_true h2]
      exact ⟨r, rfl⟩
    · cases h2
end
/-! ### the Hook -/
abbrev AlM : Type := Bool × List He.FnW
def obsM (fs : List Ft) (fn : List Dd) (K : PySem.W.Frag) : AlM := ((fs.all fun f => f K) && fn.all fun d => d.ok K, fn.map fun d => fnU K (d.ad K))
def valM (fn : List Dd) : AlM := (true, fn.map Dd.val)
def SaysM (fs : List Ft) (fn : List Dd) (K : PySem.W.Frag) : Prop := obsM fs fn K = valM fn
def obsMG (n : Nat) (xs : List Str) (fs : List Ft) (fn : List Dd) (g : Addr → Option Obj) : AlM := obsM fs fn (He.frG g (asR g n xs))
def hookM (n : Nat) (xs : List Str) (fs : List Ft) (fn : List Dd) : PySem.W.Hook where
  α := AlM
  obs := fun s => obsMG n xs fs fn s.heap.get?
  val := fun _ => valM fn
  says := fun _ h => ∃ K : PySem.W.Frag, K.In h ∧ SaysM fs fn K
  of := fun _ _ e => ⟨_, He.frG_in, e⟩
  keeps := fun _ _ _ ⟨K, hK, c⟩ k => ⟨K, PySem.W.Frag.In.keeps hK k, c⟩
theorem obsMG_eq {n : Nat} {xs : List Str} {fs : List Ft} {fn : List Dd} {g : Addr → Option Obj} {s : Shared} (h : ∀ a, g a = s.heap.get? a) : obsMG n xs fs fn g = (hookM n xs fs fn).obs s := by
  have e : g = s.heap.get? := funext h
  rw [e] <;> rfl
section
variable {fs : List Ft} {fn : List Dd} {K : PySem.W.Frag}
theorem SaysM.fact (c : SaysM fs fn K) (i : Nat) {f : Ft} (h : fs[i]? = some f := by rfl) : f K = true := by
  have c1 := (He.ba (show ((fs.all fun f => f K) && fn.all fun d => d.ok K) = true from congrArg (fun z : AlM => z.1) c)).1
  exact List.all_eq_true.mp c1 f (List.mem_of_getElem? h)
theorem SaysM.def_ (c : SaysM fs fn K) (i : Nat) {d : Dd} (h : fn[i]? = some d := by rfl) : ∃ fd, FunD K d.name d.qual (defArgs d.st) (defBody d.st) (defScope d.st) (d.dvs K) (d.kws K) (d.ad K) fd := by
  have c2 := (He.ba (show ((fs.all fun f => f K) && fn.all fun d => d.ok K) = true from congrArg (fun z : AlM => z.1) c)).2
  have e : fn.map (fun d => fnU K (d.ad K)) = fn.map Dd.val := congrArg (fun z : AlM => z.2) c
  have e2 : (fn.map fun d => fnU K (d.ad K))[i]? = (fn.map Dd.val)[i]? := by rw [e]
  rw [List.getElem?_map, List.getElem?_map, h] at e2
  exact Dd.funD (Option.some.inj e2) (List.all_eq_true.mp c2 d (List.mem_of_getElem? h))
end
/-- the end over such a Hook -/
theorem walk_ofM {l : PySem.W.OpenLaw} {n k : Nat} {q : Program} {loose : List Str} {XP : (Str → Option Value) → Heap → Prop} {YP : World → Heap → Prop} {d : DefRec} {x : Str}
    (hn : l.most = some n) (hn2 : n ≤ sizeLine) (hdf : d.params.defaults = []) (hr : Room k callerA)
    (F : ∀ (w : World) (mg : Str → Option Value) (fa : Addr) (h : Heap), YP w h → h.Ns mainGlobals mg → mg d.name = some (.ref fa) →
      ∃ (K : PySem.W.Frag) (sp : Sp) (fd : FuncData), K.In h ∧ (∀ (s : Shared) (u : Value), BindsTo s fd ⟨[u], []⟩ [(x, u)]) ∧ (∀ base : Heap, FnG l.prog w K mg base k fa fd [x] sp) ∧
        ∀ (H : Hp) (a : Addr) (ns : List Int), ns.length ≤ n → SqL K H a (ns.map V.int) → sp [.ref a] H (fun v _ => v = .bl true) fun _ _ _ => False) :
    PySem.W.WalkO q loose XP YP l.row.toRowW d [] (fun f vs => PySem.call f vs) := by
  refine Att.attach_call hn hdf fun w s₀ s₁ mg mb fa o pm cd doc a vs ns G Y ho hd hcd hmg hobj hints hlen hg => ?_
  obtain ⟨K, sp, fd, KX, hb, hF, hsp⟩ := F w mg fa _ Y G.T.g hmg
  exact top_call KX G.T.g G.T.b G.T.builtins G.T.nolimit hg hobj hints (Nat.le_trans hlen hn2) hr hF hb fun H hS => hsp H a ns hlen hS
end Mw

set_option Elab.async false
set_option linter.all false
set_option maxRecDepth 100000
set_option maxHeartbeats 0
namespace Mw
open PySem PySem.Spec PyProof.Rows L2
def nm0 : List PySem.Str := ["_wall", "__name__", "LetterError", "InvalidCutter", "InvalidCompany", "InvalidRule", "InvalidState", "InvalidOperation", "UnknownName", "InvalidNumber", "TooMany", "LETTERS", "LONGEST", "is_name", "is_integer", "is_ascending", "require_flag", "require_number", "MAX_PARTS", "MAX_ROW", "MOST_FRONT", "MOST_BACK", "FEW", "WHOLE", "GAP", "are_signs", "is_part", "part_places", "chain_places", "Known"]
def nm1 : List PySem.Str := ["Cutter", "kept_places", "cut", "keeps_all_in", "chained", "require_cutter", "MAX_PEOPLE", "is_turn", "are_people", "are_some", "is_pair", "are_turns", "are_copies", "in_order", "Company", "require_company", "require_person", "require_some", "company_in", "moves", "Rule", "through_in", "require_rule", "explored", "MAX_STATES", "SHORT", "LOST", "short_form", "pushed", "cut_short"]
def nm2 : List PySem.Str := ["written_short", "values_of", "require_limit", "may_come_in", "is_possible", "coloured", "begins_in", "steps_in", "reached_in", "Walk", "_law_dice", "_law_roll", "_law_one_of", "_law_short", "_law_is_refused", "_law_right"]
def names : List PySem.Str := nm0 ++ nm1 ++ nm2
def dd_short_form : Dd := { ad := (fun K => He.ga K "short_form"), name := "short_form", qual := "short_form", st := s_short_form, dfl := [.non] }
def dd_is_integer : Dd := { ad := (fun K => He.ga K "is_integer"), name := "is_integer", qual := "is_integer", st := s_is_integer }
def dd__law_roll : Dd := { ad := (fun K => He.ga K "_law_roll"), name := "_law_roll", qual := "_law_roll", st := s__law_roll }
def dd__law_one_of : Dd := { ad := (fun K => He.ga K "_law_one_of"), name := "_law_one_of", qual := "_law_one_of", st := s__law_one_of }
def dd__law_short : Dd := { ad := (fun K => He.ga K "_law_short"), name := "_law_short", qual := "_law_short", st := s__law_short }
def dd__law_is_refused : Dd := { ad := (fun K => He.ga K "_law_is_refused"), name := "_law_is_refused", qual := "_law_is_refused", st := s__law_is_refused }
def dd__law_right : Dd := { ad := (fun K => He.ga K "_law_right"), name := "_law_right", qual := "_law_right", st := s__law_right }
def dd__law_dice : Dd := { ad := (fun K => He.ga K "_law_dice"), name := "_law_dice", qual := "_law_dice", st := s__law_dice }
def dd_law : Dd := { ad := (fun K => He.ga K "law"), name := "law", qual := "law", st := s_law }
def dd_Walk_short : Dd := { ad := stF "Walk" "short", name := "short", qual := "Walk.short", st := s_Walk_short }
def fns : List Dd := [dd_short_form, dd_is_integer, dd__law_roll, dd__law_one_of, dd__law_short, dd__law_is_refused, dd__law_right, dd__law_dice, dd_law, dd_Walk_short]
def fs0 : List Ft := [fFree "range", fFree "max", fFree "min", fFree "len", fFree "isinstance", fFree "tuple", fFree "all", fFree "sorted", fFree "int", fFree "bool", fFree "repr", fFree "list", fFree "set", fFree "abs", fVal "SHORT" (.int 5), fGlo "short_form", fGlo "is_integer", fGlo "_law_roll", fGlo "_law_one_of", fGlo "_law_short", fGlo "_law_is_refused", fGlo "_law_right", fGlo "_law_dice", fGlo "law", fGlo "Walk", fReads "Walk", fSpec "Walk" "__getattribute__" "type.__getattribute__", fStat "Walk" "short", fGlo "InvalidOperation", fExc "InvalidOperation" [.type "ValueError", .type "Exception", .type "BaseException", .type "object"] "ValueError.__new__"]
def fs1 : List Ft := [fKeep "InvalidOperation", fSubT "InvalidOperation" "BaseException", fTy "InvalidOperation", fHd "InvalidOperation", fSub "InvalidOperation" "InvalidOperation" true]
def fss : List Ft := fs0 ++ fs1
def rts : List PySem.Str := ["short_form", "is_integer", "_law_roll", "_law_one_of", "_law_short", "_law_is_refused", "_law_right", "_law_dice", "law", "Walk", "InvalidOperation"]
abbrev R : PySem.W.OpenRow := PySem.W.OpenLaw.row PySem.Challenge.rw_namedabove_k24_short_forms
abbrev hk : PySem.W.Hook := hookM 4 rts fss fns
def ob (s : PySem.W.SharedT) : AlM := obsMG 4 rts fss fns (HandSHeadRun.getT s)
theorem ob_eq (s : PySem.W.SharedT) : ob s = hk.obs s.abs := obsMG_eq (HandSHeadRun.getT_eq s)
theorem run (w : World) : HandSHeadRun.RunEq R (PySem.W.view R.prog [83]) hk ob 20000 names w := by
  intro os
  kernel_rfl
end Mw

set_option Elab.async false
set_option linter.all false
set_option maxRecDepth 100000
set_option maxHeartbeats 4000000
namespace Mw
open PySem PySem.Spec PyProof.Rows L2

section
variable {P : Program} {c : Kc} {mg : Str → Option Value} {base : Heap} {ea : EA}
theorem gx_short_form_1 (T : Tx P c mg ea)  : Gfx P c mg base "short_form" 1 (dflP W_short_form [.non]) := by
  rw [W_short_form_eq]
  exact gfxd_of (j := 0) T.D_short_form (by decide) (fun _ => ⟨_, _, rfl, rfl, rfl⟩) sc_short_form rfl rfl (fun f cdv A outer s H E hr => ⟨_, (pss_cons (ps_if (pt_cmpR op_le (pe_callB (callLen (K := c.K) rfl) (by rfl) T.m_len (by decide +kernel) (pa_cons (pv 0) pa_nil)) (pe_g rfl T.g_SHORT) (nomark _)) (pss_one (ps_ret (pe_tup (pa_cons (pe_callTy (callTuple (K := c.K) rfl) (by rfl) T.m_tuple (by decide +kernel) (pa_cons (pv 0) pa_nil)) (pa_cons (pe_tup pa_nil) (pa_cons (pe_tup pa_nil) pa_nil)))))) pss_nil) (pss_cons (ps_setScI (w := c.w) (i := 2) (own := [("value", 3)]) (g := gName 3) rfl rfl sc_short_form.nd rfl rfl (sw_trueS rfl rfl rfl (by decide +kernel)) (piAny (K := c.K) rfl (pe_slice (slAny (K := c.K) rfl) (pv 0) (po_some pe_int) (po_some (pe_un un_neg pe_int)))) (blkOk_by (own := [("value", 3)]) (N := ["row", "left_out", "between", "value"]) (sc := defScope s_short_form) (by decide +kernel)) (fun _ _ _ _ _ => (pg_name (i := 3) sc_short_form.nd rfl (by first | exact Or.inl rfl | exact Or.inr rfl))) (fun _ _ _ _ _ => (pts_one (pt_cmpR (opNe (K := c.K) rfl hr.units) (pv 3) (pv 1) (nomark _)))) (fun _ _ _ _ _ => (pv 3))) (pss_one (ps_ret (pe_tup (pa_cons (pe_callTy (callTuple (K := c.K) rfl) (by rfl) T.m_tuple (by decide +kernel) (pa_cons (pe_slice (slAny (K := c.K) rfl) (pv 0) po_none (po_some pe_int)) pa_nil)) (pa_cons (pe_callTy (callTuple (K := c.K) rfl) (by rfl) T.m_tuple (by decide +kernel) (pa_cons (pe_callB (callSorted (w := c.w) rfl rfl) (by rfl) T.m_sorted (by decide +kernel) (pa_cons (pv 2) pa_nil)) pa_nil)) (pa_cons (pe_callTy (callTuple (K := c.K) rfl) (by rfl) T.m_tuple (by decide +kernel) (pa_cons (pe_slice (slAny (K := c.K) rfl) (pv 0) (po_some (pe_un un_neg pe_int)) po_none) pa_nil)) pa_nil)))))))), (rs_seq (rs_if (rt_test (re_op ro_cmp (re_cb ro_len (ra_cons re_var ra_nil)) (re_c (v := .int 5) (d := .int 5) fun _ => rfl))) (rs_ret (re_tup (ra_cons (re_cb ro_tup (ra_cons re_var ra_nil)) (ra_cons (re_tup ra_nil) (ra_cons (re_tup ra_nil) ra_nil))))) rs_next) (rs_seq (rs_asg (re_sc (ri_any (re_sl ro_sl re_var (rp_so (re_c (v := .int 2) (d := .int 2) fun _ => rfl)) (rp_so (re_un ro_neg (re_c (v := .int 3) (d := .int 3) fun _ => rfl))))) (rg_name (by decide)) (rt_test (re_op ro_ne re_var re_var)) re_var) rl_name) (rs_ret (re_tup (ra_cons (re_cb ro_tup (ra_cons (re_sl ro_sl re_var rp_no (rp_so (re_c (v := .int 2) (d := .int 2) fun _ => rfl))) ra_nil)) (ra_cons (re_cb ro_tup (ra_cons (re_cb ro_sorted (ra_cons re_var ra_nil)) ra_nil)) (ra_cons (re_cb ro_tup (ra_cons (re_sl ro_sl re_var (rp_so (re_un ro_neg (re_c (v := .int 3) (d := .int 3) fun _ => rfl))) rp_no) ra_nil)) ra_nil)))))))⟩)
theorem gx_is_integer (T : Tx P c mg ea)  : Gfx P c mg base "is_integer" 1 W_is_integer := by
  rw [W_is_integer_eq]
  exact gfx_of T.D_is_integer sc_is_integer rfl rfl (fun f cdv A outer s H E hr => ⟨_, (pss_one (ps_ret (pe_and (pe_callB (callIsi (K := c.K) rfl) (by rfl) T.m_isinstance (by decide +kernel) (pa_cons (pv 0) (pa_cons (pe_bty "int" rfl T.m_int (by decide +kernel)) pa_nil))) (pe_one (pe_not (pe_callB (callIsi (K := c.K) rfl) (by rfl) T.m_isinstance (by decide +kernel) (pa_cons (pv 0) (pa_cons (pe_bty "bool" rfl T.m_bool (by decide +kernel)) pa_nil)))))))), (rs_ret (re_and (re_cb (ro_isi T.kls) (ra_cons re_var (ra_cons (re_c (v := .ty "int") (d := .ty "int") fun _ => rfl) ra_nil))) (re_not (re_cb (ro_isi T.kls) (ra_cons re_var (ra_cons (re_c (v := .ty "bool") (d := .ty "bool") fun _ => rfl) ra_nil))))))⟩)
theorem gx_Walk_short (T : Tx P c mg ea) (g_short_form_1 : Gfx P c mg base "short_form" 1 (dflP W_short_form [.non])) (g_is_integer : Gfx P c mg base "is_integer" 1 W_is_integer) : Gmx P c mg base 2 ea.f_Walk_short W_Walk_short := by
  rw [W_Walk_short_eq]
  exact gmx_of T.D_Walk_short sc_Walk_short rfl rfl (fun cdv A outer s H E hr => ⟨_, (pss_cons (ps_if (PW.pt (pw_or (pt_not (pt_val (pe_callB (callIsi (K := c.K) rfl) (by rfl) T.m_isinstance (by decide +kernel) (pa_cons (pv 0) (pa_cons (pe_bty "tuple" rfl T.m_tuple (by decide +kernel)) pa_nil))))) (pw_or1 (pt_not (pt_val (pe_callB (callAll (K := c.K) rfl rfl) (by rfl) T.m_all (by decide +kernel) (pa_cons (pe_lc (own := [("value", 1)]) (g := gName 1) rfl sc_Walk_short.nd (piAny (K := c.K) rfl (pv 0)) (blkOk_by (own := [("value", 1)]) (N := ["row", "value"]) (sc := defScope s_Walk_short) (by decide +kernel)) (fun _ _ _ _ _ => (pg_name (i := 1) sc_Walk_short.nd rfl (by first | exact Or.inl rfl | exact Or.inr rfl))) (fun _ _ _ _ _ => pts_nil) (fun _ _ _ _ _ => (pe_gx g_is_integer ⟨rfl, rfl, rfl, rfl, rfl⟩ (hr.mono (by decide)) rfl tk_none (pa_cons (pv 1) pa_nil)))) pa_nil))))))) (pss_one (ps_raise0 PySem.F.excBase_ValueError T.x_InvalidOperation.xi T.x_InvalidOperation.m T.x_InvalidOperation.kp (raises_own T.x_InvalidOperation.sb T.x_InvalidOperation.ty) rfl (takes_of rfl rfl rfl rfl) rfl)) pss_nil) (pss_one (ps_ret (pe_gx g_short_form_1 ⟨rfl, rfl, rfl, rfl, rfl⟩ (hr.mono (by decide)) rfl (tk_some (takes_of rfl rfl rfl rfl)) (pa_cons (pv 0) pa_nil))))), (rs_seq (rs_if (rt_or (rt_not (rt_B (re_cb (ro_isi T.kls) (ra_cons re_var (ra_cons (re_c (v := .ty "tuple") (d := .ty "tuple") fun _ => rfl) ra_nil))))) (rt_not (rt_B (re_cb ro_all (ra_cons (re_lc (ri_any re_var) (rg_name (by decide)) rt_yes (re_call (ra_cons re_var ra_nil))) ra_nil))))) rs_raise0 rs_next) (rs_ret (re_call (ra_cons re_var ra_nil))))⟩)
theorem gx__law_roll (T : Tx P c mg ea) : Gfx P c mg base "_law_roll" 1 PreRoll := by
  obtain ⟨f, fd, F, b, m⟩ := T.D__law_roll
  refine gfx_calm roll_calm F b m (roll_hide (F.ok sc__law_roll (fun vs H Q E h => ?_) (fun cdv A outer s H vs Q E hr h => ⟨_, (pss_cons (ps_if (pt_cmpR op_gt (pe_ix (ixA (K := c.K) rfl) (pv 0) pe_int (fun _ _ => rfl)) pe_int (nomark _)) (pss_cons (ps_set (i := 4) sc__law_roll.nd rfl (by first | exact Or.inl rfl | exact Or.inr rfl) (pe_op op_mod (pe_callTy call_int1 (by rfl) T.m_int (by decide +kernel) (pa_cons (pe_ix (ixA (K := c.K) rfl) (pv 0) pe_int (fun _ _ => rfl)) pa_nil)) (pv 1))) (pss_cons (ps_asg (pe_op op_fdivW (pe_ix (ixA (K := c.K) rfl) (pv 0) pe_int (fun _ _ => rfl)) (pv 1)) (pg_sub (pv 0) pe_int set_list)) (pss_one (ps_ret (pv 4))))) pss_nil) (pss_cons (ps_asg (pe_op (opAdd (K := c.K) rfl) (pe_ix (ixA (K := c.K) rfl) (pv 0) pe_int (fun _ _ => rfl)) pe_int) (pg_sub (pv 0) pe_int set_list)) (pss_cons (ps_set (i := 2) sc__law_roll.nd rfl (by first | exact Or.inl rfl | exact Or.inr rfl) (pe_op op_mod (pe_callTy call_int1 (by rfl) T.m_int (by decide +kernel) (pa_cons (pe_op (opAdd (K := c.K) rfl) (pe_ix (ixA (K := c.K) rfl) (pv 0) pe_int (fun _ _ => rfl)) (pe_op (opMul (K := c.K) rfl) pe_int (pe_ix (ixA (K := c.K) rfl) (pv 0) pe_int (fun _ _ => rfl)))) pa_nil)) pe_int)) (pss_cons (ps_set (i := 3) sc__law_roll.nd rfl (by first | exact Or.inl rfl | exact Or.inr rfl) (pe_op (opAdd (K := c.K) rfl) (pe_op (opMul (K := c.K) rfl) (pe_op op_mod (pe_callTy call_int1 (by rfl) T.m_int (by decide +kernel) (pa_cons (pe_op (opMul (K := c.K) rfl) (pv 2) (pv 2)) pa_nil)) pe_int) (pv 2)) (pe_op (opMul (K := c.K) rfl) pe_int (pe_ix (ixA (K := c.K) rfl) (pv 0) pe_int (fun _ _ => rfl))))) (pss_cons (ps_set (i := 3) sc__law_roll.nd rfl (by first | exact Or.inl rfl | exact Or.inr rfl) (pe_op op_mod (pe_callTy call_int1 (by rfl) T.m_int (by decide +kernel) (pa_cons (pv 3) pa_nil)) pe_int)) (pss_one (ps_ret (pe_op op_mod (pe_callTy call_int1 (by rfl) T.m_int (by decide +kernel) (pa_cons (pe_op op_fdivW (pv 3) pe_int) pa_nil)) (pv 1))))))))), ?_⟩)))
  · obtain ⟨d, n, x, y, z, rfl, _⟩ := h; rfl
  · obtain ⟨d, n, x, y, z, rfl, hd, h0, h1, k⟩ := h
    refine ⟨_, rfl, .inl ⟨d, _, _, _, rfl, rfl, .inl (.inl hd), rfl, _, _, rfl, rfl, _, rfl, ifbI (fun h2 => ?_) fun h2 => ?_⟩⟩
    · refine ⟨_, rfl, .inl ⟨d, _, _, _, rfl, rfl, .inl (.inl hd), rfl, .inl ⟨_, rfl, _, rfl, _, _, rfl, rfl, h0, ?_⟩⟩⟩
      refine ⟨_, rfl, .inl ⟨d, _, _, _, rfl, rfl, .inl (.inl hd), rfl, _, rfl, _, _, rfl, rfl, divw h0 h1, _, rfl, d, _, _, _, rfl, rfl, hd, rfl, ?_⟩⟩
      exact ⟨_, rfl, k _ _ y z (Int.emod_nonneg _ (by omega)) (Int.emod_lt_of_pos _ h0)⟩
    · refine ⟨_, rfl, .inl ⟨d, _, _, _, rfl, rfl, .inl (.inl hd), rfl, .inl ⟨_, _, rfl, rfl, _, rfl, d, _, _, _, rfl, rfl, hd, rfl, ?_⟩⟩⟩
      refine ⟨_, rfl, .inl ⟨d, _, _, _, rfl, rfl, .inl (.inl upd_same), rfl, _, rfl, .inl ⟨d, _, _, _, rfl, rfl, .inl (.inl upd_same), rfl, .inl ⟨_, _, rfl, rfl, .inl ⟨by decide, by decide⟩, .inl ⟨_, _, rfl, rfl, .inl ⟨_, rfl, _, _, rfl, rfl, (by show (0 : Int) < _; decide), ?_⟩⟩⟩⟩⟩⟩
      refine ⟨_, rfl, _, rfl, .inl ⟨_, _, rfl, rfl, modm (by decide) (by decide), .inl ⟨_, rfl, _, _, rfl, rfl, (by show (0 : Int) < _; decide), _, rfl, .inl ⟨_, _, rfl, rfl, modm (by decide) (by decide), _, rfl, .inl ⟨d, _, _, _, rfl, rfl, .inl (.inl upd_same), rfl, .inl ⟨_, _, rfl, rfl, .inl ⟨by decide, by decide⟩, .inl ⟨_, _, rfl, rfl, ?_⟩⟩⟩⟩⟩⟩⟩
      refine ⟨_, rfl, .inl ⟨_, rfl, _, _, rfl, rfl, (by show (0 : Int) < _; decide), ?_⟩⟩
      exact ⟨_, rfl, _, _, rfl, rfl, divw (by decide) (by decide), .inl ⟨_, rfl, _, rfl, _, _, rfl, rfl, h0, k _ x y _ (Int.emod_nonneg _ (by omega)) (Int.emod_lt_of_pos _ h0)⟩⟩

theorem gx__law_one_of (T : Tx P c mg ea) (g__law_roll : Gfx P c mg base "_law_roll" 1 PreRoll) : Gfx P c mg base "_law_one_of" 2 W__law_one_of := by
  rw [W__law_one_of_eq]
  exact gfx_of T.D__law_one_of sc__law_one_of rfl rfl (fun f cdv A outer s H E hr => ⟨_, (pss_one (ps_ret (pe_ix (ixA (K := c.K) rfl) (pv 1) (pe_gx g__law_roll ⟨rfl, rfl, rfl, rfl, rfl⟩ (hr.mono (by decide)) rfl (tk_some (takes_of rfl rfl rfl rfl)) (pa_cons (pv 0) (pa_cons (pe_callB (callLen (K := c.K) rfl) (by rfl) T.m_len (by decide +kernel) (pa_cons (pv 1) pa_nil)) pa_nil))) (fun _ _ => rfl)))), (rs_ret (re_op ro_ix re_var (re_call (ra_cons re_var (ra_cons (re_cb ro_len (ra_cons re_var ra_nil)) ra_nil)))))⟩)
end
end Mw

set_option Elab.async false
set_option linter.all false
set_option maxRecDepth 100000
set_option maxHeartbeats 4000000
namespace Mw
open PySem PySem.Spec PyProof.Rows L2

section
variable {P : Program} {c : Kc} {mg : Str → Option Value} {base : Heap} {ea : EA}
theorem gx__law_short (T : Tx P c mg ea)  : Gfx P c mg base "_law_short" 1 W__law_short := by
  rw [W__law_short_eq]
  exact gfx_of T.D__law_short sc__law_short rfl rfl (fun f cdv A outer s H E hr => ⟨_, (pss_cons (ps_set (i := 0) sc__law_short.nd rfl (by first | exact Or.inl rfl | exact Or.inr rfl) (pe_callTy (callTuple (K := c.K) rfl) (by rfl) T.m_tuple (by decide +kernel) (pa_cons (pv 0) pa_nil))) (pss_cons (ps_if (pt_cmpR op_lt (pe_callB (callLen (K := c.K) rfl) (by rfl) T.m_len (by decide +kernel) (pa_cons (pv 0) pa_nil)) pe_int (nomark _)) (pss_one (ps_ret (pe_tup (pa_cons (pv 0) (pa_cons (pe_tup pa_nil) (pa_cons (pe_tup pa_nil) pa_nil)))))) pss_nil) (pss_one (ps_ret (pe_tup (pa_cons (pe_slice (slAny (K := c.K) rfl) (pv 0) po_none (po_some pe_int)) (pa_cons (pe_callTy (callTuple (K := c.K) rfl) (by rfl) T.m_tuple (by decide +kernel) (pa_cons (pe_callB (callSorted (w := c.w) rfl rfl) (by rfl) T.m_sorted (by decide +kernel) (pa_cons (pe_callTy (callSet (K := c.K) (w := c.w) rfl rfl rfl) (by rfl) T.m_set (by decide +kernel) (pa_cons (pe_slice (slAny (K := c.K) rfl) (pv 0) (po_some pe_int) (po_some (pe_op op_sub (pe_callB (callLen (K := c.K) rfl) (by rfl) T.m_len (by decide +kernel) (pa_cons (pv 0) pa_nil)) pe_int))) pa_nil)) pa_nil)) pa_nil)) (pa_cons (pe_slice (slAny (K := c.K) rfl) (pv 0) (po_some (pe_op op_sub (pe_callB (callLen (K := c.K) rfl) (by rfl) T.m_len (by decide +kernel) (pa_cons (pv 0) pa_nil)) pe_int)) po_none) pa_nil)))))))), (rs_seq (rs_asg (re_cb ro_tup (ra_cons re_var ra_nil)) rl_name) (rs_seq (rs_if (rt_test (re_op ro_cmp (re_cb ro_len (ra_cons re_var ra_nil)) (re_c (v := .int 6) (d := .int 6) fun _ => rfl))) (rs_ret (re_tup (ra_cons re_var (ra_cons (re_tup ra_nil) (ra_cons (re_tup ra_nil) ra_nil))))) rs_next) (rs_ret (re_tup (ra_cons (re_sl ro_sl re_var rp_no (rp_so (re_c (v := .int 2) (d := .int 2) fun _ => rfl))) (ra_cons (re_cb ro_tup (ra_cons (re_cb ro_sorted (ra_cons (re_cb ro_set (ra_cons (re_sl ro_sl re_var (rp_so (re_c (v := .int 2) (d := .int 2) fun _ => rfl)) (rp_so (re_op ro_sub (re_cb ro_len (ra_cons re_var ra_nil)) (re_c (v := .int 3) (d := .int 3) fun _ => rfl)))) ra_nil)) ra_nil)) ra_nil)) (ra_cons (re_sl ro_sl re_var (rp_so (re_op ro_sub (re_cb ro_len (ra_cons re_var ra_nil)) (re_c (v := .int 3) (d := .int 3) fun _ => rfl))) rp_no) ra_nil)))))))⟩)
theorem gx__law_is_refused (T : Tx P c mg ea) (g_Walk_short : Gmx P c mg base 2 ea.f_Walk_short W_Walk_short) : Gfx P c mg base "_law_is_refused" 3 W__law_is_refused := by
  rw [W__law_is_refused_eq]
  exact gfx_of T.D__law_is_refused sc__law_is_refused rfl rfl (fun f cdv A outer s H E hr => ⟨_, (pss_cons (psTry (K := c.K) (w := wE E) rfl rfl rfl ⟨rfl, by decide, .inl T.xm_InvalidOperation⟩ (takes_of rfl rfl rfl rfl) (fun W pn xe tk po => (pss_one (ps_expr (pe_smeth g_Walk_short ⟨rfl, rfl, rfl, rfl, rfl⟩ (hr.mono (by decide)) rfl (tk_some tk) T.cm_Walk T.cr_Walk T.sm_Walk_short (pa_cons (pv 0) pa_nil))))) (fun a oe cls d pn hz hf => (pss_one (ps_ret pe_bl)))) (pss_one (ps_ret pe_bl))), (rs_seq (rs_try T.meet_InvalidOperation (fun W => (rs_expr (re_call (ra_cons re_var ra_nil)))) (fun a cls d => (rs_ret (re_c (v := .bl true) (d := .bl true) fun _ => rfl)))) (rs_ret (re_c (v := .bl false) (d := .bl false) fun _ => rfl)))⟩)
theorem gx__law_right (T : Tx P c mg ea) (g_Walk_short : Gmx P c mg base 2 ea.f_Walk_short W_Walk_short) (g__law_one_of : Gfx P c mg base "_law_one_of" 2 W__law_one_of) (g__law_roll : Gfx P c mg base "_law_roll" 1 PreRoll) (g__law_short : Gfx P c mg base "_law_short" 1 W__law_short) (g__law_is_refused : Gfx P c mg base "_law_is_refused" 3 W__law_is_refused) : Ggx P c mg base "_law_right" 4 ["_law_dice_here"] W__law_right := by
  rw [W__law_right_eq]
  exact ggx_of T.D__law_right sc__law_right rfl rfl (fun f cdv A outer s H E hA hr => ⟨_, (pss_cons (ps_set (i := 1) sc__law_right.nd rfl (by first | exact Or.inl rfl | exact Or.inr rfl) (pe_gx g__law_one_of ⟨rfl, rfl, rfl, rfl, rfl⟩ (hr.mono (by decide)) rfl tk_none (pa_cons (pv 0) (pa_cons (pe_lst (pa_cons (pe_lst (pa_cons pe_int (pa_cons pe_int pa_nil))) (pa_cons (pe_lst (pa_cons pe_int (pa_cons pe_int (pa_cons pe_int pa_nil)))) (pa_cons (pe_lst (pa_cons pe_int (pa_cons pe_int (pa_cons pe_int (pa_cons pe_int pa_nil))))) (pa_cons (pe_lst (pa_cons pe_int (pa_cons pe_int (pa_cons (pe_op op_sub pe_int pe_int) (pa_cons pe_int pa_nil))))) (pa_cons (pe_lst (pa_cons (pe_gx g__law_roll ⟨rfl, rfl, rfl, rfl, rfl⟩ (hr.mono (by decide)) rfl tk_none (pa_cons (pv 0) (pa_cons (pe_op op_powW pe_int pe_int) pa_nil))) (pa_cons pe_int pa_nil))) pa_nil)))))) pa_nil)))) (pss_cons (ps_set (i := 2) sc__law_right.nd rfl (by first | exact Or.inl rfl | exact Or.inr rfl) (pe_callTy (callTuple (K := c.K) rfl) (by rfl) T.m_tuple (by decide +kernel) (pa_cons (pe_lc (own := [("_law_at", 3)]) (g := gName 3) rfl sc__law_right.nd (pi_range1 rfl T.m_range (pa_cons (pe_gx g__law_roll ⟨rfl, rfl, rfl, rfl, rfl⟩ (hr.mono (by decide)) rfl tk_none (pa_cons (pv 0) (pa_cons pe_int pa_nil))) pa_nil)) (blkOk_by (own := [("_law_at", 3)]) (N := ["_law_dice_here", "_law_menu", "_law_row", "_law_at", "_law_odd", "_law_value"]) (sc := defScope s__law_right) (by decide +kernel)) (fun _ _ _ _ _ => (pg_name (i := 3) sc__law_right.nd rfl (by first | exact Or.inl rfl | exact Or.inr rfl))) (fun _ _ _ _ _ => pts_nil) (fun _ _ _ _ _ => (pe_gx g__law_one_of ⟨rfl, rfl, rfl, rfl, rfl⟩ (hr.mono (by decide)) rfl tk_none (pa_cons (pv 0) (pa_cons (pv 1) pa_nil))))) pa_nil))) (pss_cons (ps_if (pt_cmpR (opNe (K := c.K) rfl hr.units) (pe_callB (callRepr (K := c.K) rfl hA hr.units) (by rfl) T.m_repr (by decide +kernel) (pa_cons (pe_smeth g_Walk_short ⟨rfl, rfl, rfl, rfl, rfl⟩ (hr.mono (by decide)) rfl tk_none T.cm_Walk T.cr_Walk T.sm_Walk_short (pa_cons (pv 2) pa_nil)) pa_nil)) (pe_callB (callRepr (K := c.K) rfl hA hr.units) (by rfl) T.m_repr (by decide +kernel) (pa_cons (pe_gx g__law_short ⟨rfl, rfl, rfl, rfl, rfl⟩ (hr.mono (by decide)) rfl tk_none (pa_cons (pv 2) pa_nil)) pa_nil)) (nomark _)) (pss_one (ps_ret pe_bl)) pss_nil) (pss_cons (ps_set (i := 3) sc__law_right.nd rfl (by first | exact Or.inl rfl | exact Or.inr rfl) (pe_gx g__law_roll ⟨rfl, rfl, rfl, rfl, rfl⟩ (hr.mono (by decide)) rfl tk_none (pa_cons (pv 0) (pa_cons (pe_op (opAdd (K := c.K) rfl) (pe_callB (callLen (K := c.K) rfl) (by rfl) T.m_len (by decide +kernel) (pa_cons (pv 2) pa_nil)) pe_int) pa_nil)))) (pss_cons (ps_set (i := 4) sc__law_right.nd rfl (by first | exact Or.inl rfl | exact Or.inr rfl) (pe_lst (pa_cons pe_non (pa_cons (pe_callTy (callList (K := c.K) rfl) (by rfl) T.m_list (by decide +kernel) (pa_cons (pv 2) pa_nil)) (pa_cons pe_dnewK (pa_cons pe_str (pa_cons pe_int (pa_cons pe_bl pa_nil)))))))) (pss_cons (ps_for PassesOwn.never rfl (piAny (K := c.K) rfl (pe_lst (pa_cons pe_non (pa_cons pe_bl (pa_cons pe_bl (pa_cons pe_str (pa_cons (pe_tup (pa_cons pe_int pa_nil)) (pa_cons (pe_lst (pa_cons pe_int pa_nil)) (pa_cons (pe_tup pa_nil) (pa_cons pe_dnewK pa_nil)))))))))) (pg_name (i := 5) sc__law_right.nd rfl (by first | exact Or.inl rfl | exact Or.inr rfl)) (pss_one (ps_expr (peBm (K := c.K) rfl PySem.F.plainAttrs_list PySem.F.slot_list_append PySem.F.type_list_append mt_append (pv 4) (pa_cons (pe_op (opAdd (K := c.K) rfl) (pe_op (opAdd (K := c.K) rfl) (pe_slice (slAny (K := c.K) rfl) (pv 2) po_none (po_some (pv 3))) (pe_tup (pa_cons (pv 5) pa_nil))) (pe_slice (slAny (K := c.K) rfl) (pv 2) (po_some (pv 3)) po_none)) pa_nil))))) (pss_one (ps_ret (pe_cmpR (opEq (K := c.K) rfl hr.units) (pe_lc (own := [("_law_value", 5)]) (g := gName 5) rfl sc__law_right.nd (piAny (K := c.K) rfl (pv 4)) (blkOk_by (own := [("_law_value", 5)]) (N := ["_law_dice_here", "_law_menu", "_law_row", "_law_at", "_law_odd", "_law_value"]) (sc := defScope s__law_right) (by decide +kernel)) (fun _ _ _ _ _ => (pg_name (i := 5) sc__law_right.nd rfl (by first | exact Or.inl rfl | exact Or.inr rfl))) (fun _ _ _ _ _ => (pts_one (pt_not (pt_val (pe_gx g__law_is_refused ⟨rfl, rfl, rfl, rfl, rfl⟩ (hr.mono (by decide)) rfl tk_none (pa_cons (pv 5) pa_nil)))))) (fun _ _ _ _ _ => (pv 5))) (pe_lst pa_nil) (nomark _)))))))))), (rs_seq (rs_asg (re_call (ra_cons re_var (ra_cons (re_lst (ra_cons (re_lst (ra_cons (re_c (v := .int 0) (d := .int 0) fun _ => rfl) (ra_cons (re_c (v := .int 1) (d := .int 1) fun _ => rfl) ra_nil))) (ra_cons (re_lst (ra_cons (re_c (v := .int 0) (d := .int 0) fun _ => rfl) (ra_cons (re_c (v := .int 1) (d := .int 1) fun _ => rfl) (ra_cons (re_c (v := .int 2) (d := .int 2) fun _ => rfl) ra_nil)))) (ra_cons (re_lst (ra_cons (re_c (v := .int 0) (d := .int 0) fun _ => rfl) (ra_cons (re_c (v := .int 0) (d := .int 0) fun _ => rfl) (ra_cons (re_c (v := .int 0) (d := .int 0) fun _ => rfl) (ra_cons (re_c (v := .int 1) (d := .int 1) fun _ => rfl) ra_nil))))) (ra_cons (re_lst (ra_cons (re_c (v := .int 7) (d := .int 7) fun _ => rfl) (ra_cons (re_c (v := .int 3) (d := .int 3) fun _ => rfl) (ra_cons (re_op ro_sub (re_c (v := .int 0) (d := .int 0) fun _ => rfl) (re_c (v := .int 5) (d := .int 5) fun _ => rfl)) (ra_cons (re_c (v := .int 0) (d := .int 0) fun _ => rfl) ra_nil))))) (ra_cons (re_lst (ra_cons (re_call (ra_cons re_var (ra_cons (re_op ro_pow (re_c (v := .int 10) (d := .int 10) fun _ => rfl) (re_c (v := .int 12) (d := .int 12) fun _ => rfl)) ra_nil))) (ra_cons (re_c (v := .int 0) (d := .int 0) fun _ => rfl) ra_nil))) ra_nil)))))) ra_nil))) rl_name) (rs_seq (rs_asg (re_cb ro_tup (ra_cons (re_lc (ri_rng1 (ra_cons (re_call (ra_cons re_var (ra_cons (re_c (v := .int 15) (d := .int 15) fun _ => rfl) ra_nil))) ra_nil)) (rg_name (by decide)) rt_yes (re_call (ra_cons re_var (ra_cons re_var ra_nil)))) ra_nil)) rl_name) (rs_seq (rs_if (rt_test (re_op ro_ne (re_cb ro_repr (ra_cons (re_call (ra_cons re_var ra_nil)) ra_nil)) (re_cb ro_repr (ra_cons (re_call (ra_cons re_var ra_nil)) ra_nil)))) (rs_ret (re_c (v := .bl false) (d := .bl false) fun _ => rfl)) rs_next) (rs_seq (rs_asg (re_call (ra_cons re_var (ra_cons (re_op ro_add (re_cb ro_len (ra_cons re_var ra_nil)) (re_c (v := .int 1) (d := .int 1) fun _ => rfl)) ra_nil))) rl_name) (rs_seq (rs_newL (ra_cons (re_c (v := .non) (d := .non) fun _ => rfl) (ra_cons (re_cb ro_list (ra_cons re_var ra_nil)) (ra_cons re_dnew (ra_cons (re_c (v := .str "row") (d := .str "row") fun _ => rfl) (ra_cons (re_c (v := .int 0) (d := .int 0) fun _ => rfl) (ra_cons (re_c (v := .bl true) (d := .bl true) fun _ => rfl) ra_nil))))))) (rs_seq (rs_for (ri_any (re_lst (ra_cons (re_c (v := .non) (d := .non) fun _ => rfl) (ra_cons (re_c (v := .bl true) (d := .bl true) fun _ => rfl) (ra_cons (re_c (v := .bl false) (d := .bl false) fun _ => rfl) (ra_cons (re_c (v := .str "0") (d := .str "0") fun _ => rfl) (ra_cons (re_tup (ra_cons (re_c (v := .int 0) (d := .int 0) fun _ => rfl) ra_nil)) (ra_cons (re_lst (ra_cons (re_c (v := .int 0) (d := .int 0) fun _ => rfl) ra_nil)) (ra_cons (re_tup ra_nil) (ra_cons re_dnew ra_nil)))))))))) rl_name (rs_append (ra_cons (re_op ro_add (re_op ro_add (re_sl ro_sl re_var rp_no (rp_so re_var)) (re_tup (ra_cons re_var ra_nil))) (re_sl ro_sl re_var (rp_so re_var) rp_no)) ra_nil))) (rs_tell (rs_ret (re_op ro_eq (re_lc (ri_any re_var) (rg_name (by decide)) (rt_not (rt_B (re_call (ra_cons re_var ra_nil)))) re_var) (re_lst ra_nil))))))))))⟩)
theorem gx__law_dice (T : Tx P c mg ea) : Gfx P c mg base "_law_dice" 1 PreDice := by
  obtain ⟨f, fd, F, b, m⟩ := T.D__law_dice
  refine gfx_calm dice_calm F b m (dice_hide (F.ok sc__law_dice (fun vs H Q E h => ?_) (fun cdv A outer s H vs Q E hr h => ⟨_, (pss_cons (ps_set (i := 2) sc__law_dice.nd rfl (by first | exact Or.inl rfl | exact Or.inr rfl) (pe_ifExp (pt_cmpR op_lt (pv 1) (pe_callB (callLen (K := c.K) rfl) (by rfl) T.m_len (by decide +kernel) (pa_cons (pv 0) pa_nil)) (nomark _)) (pe_ix (ixA (K := c.K) rfl) (pv 0) (pv 1) (fun _ _ => rfl)) (pe_op (opAdd (K := c.K) rfl) (pe_op (opMul (K := c.K) rfl) pe_int (pv 1)) pe_int))) (pss_cons (ps_set (i := 3) sc__law_dice.nd rfl (by first | exact Or.inl rfl | exact Or.inr rfl) (pe_op op_mod (pe_callTy call_int1 (by rfl) T.m_int (by decide +kernel) (pa_cons (pe_callB call_abs (by rfl) T.m_abs (by decide +kernel) (pa_cons (pv 2) pa_nil)) pa_nil)) (pe_op op_powW (pe_op op_powW pe_int pe_int) pe_int))) (pss_cons (ps_set (i := 4) sc__law_dice.nd rfl (by first | exact Or.inl rfl | exact Or.inr rfl) (pe_op (opAdd (K := c.K) rfl) (pe_op (opAdd (K := c.K) rfl) (pe_op (opAdd (K := c.K) rfl) (pe_op (opMul (K := c.K) rfl) (pe_op op_mod (pe_callTy call_int1 (by rfl) T.m_int (by decide +kernel) (pa_cons (pv 3) pa_nil)) pe_int) pe_int) (pe_op (opMul (K := c.K) rfl) pe_int (pv 1))) (pe_op (opMul (K := c.K) rfl) pe_int (pe_callTy call_int1 (by rfl) T.m_int (by decide +kernel) (pa_cons (pe_cmpR op_lt (pv 2) pe_int (nomark _)) pa_nil)))) pe_int)) (pss_one (ps_ret (pe_lst (pa_cons (pe_callB (call_max2 rfl) (by rfl) T.m_max (by decide +kernel) (pa_cons pe_int (pa_cons (pe_op op_sub (pv 3) (pe_op op_powW pe_int pe_int)) pa_nil))) (pa_cons (pe_op op_mod (pe_callTy call_int1 (by rfl) T.m_int (by decide +kernel) (pa_cons (pv 4) pa_nil)) pe_int) (pa_cons pe_int pa_nil))))))))), ?_⟩)))
  · obtain ⟨a, ns, i, rfl, _⟩ := h; rfl
  · obtain ⟨a, ns, i, rfl, hs, k⟩ := h
    have sv : Sv c {} H H (L2.start ["_law_script", "_law_at", "_law_cell", "_law_great", "_law_mixed"] [V.ref a, V.int i]) (startS 5 [.sq (ns.map .int), .int i]) :=
      (sl_start (N := ["_law_script", "_law_at", "_law_cell", "_law_great", "_law_mixed"]) (Same.refl H) (show Dats c H [.sq (ns.map .int), .int i] [.ref a, .int i] from ⟨_, _, rfl, ⟨a, _, rfl, hs, dats_ints⟩, _, _, rfl, rfl, rfl⟩)).sv
    refine st_asg_raw (R := fun d => ∃ j, d = .int j) (m := (ifW (testW (opW ltD (vW 1) (cbW lenD (consW (vW 0) nilW)))) (opW ixD (vW 0) (vW 1)) (opW addD (opW mulD (cW (.int 47)) (vW 1)) (cW (.int 7))))) (re_if (rt_test (re_op ro_cmp re_var (re_cb ro_len (ra_cons re_var ra_nil)))) (re_op ro_ix re_var re_var) (re_op ro_add (re_op ro_mul (re_c (v := .int 47) (d := .int 47) fun _ => rfl) re_var) (re_c (v := .int 7) (d := .int 7) fun _ => rfl))) (by
      refine ifb (fun h1 => ?_) fun h1 => ?_
      · have hi : i < ns.length := by have := of_decide_eq_true h1; simp at this; exact this
        exact ⟨.int ns[i], atI_nat (by simp [hi]), _, rfl⟩
      · exact ⟨.inl ⟨by decide, by decide⟩, _, rfl⟩) (Same.refl H) sv fun v1 c1 G1 H1 g1 e1 ⟨j1, q1⟩ => ?_
    subst q1
    have sv1 := (sv.go g1).set (j := 2) e1
    refine st_asg_raw (R := fun d => ∃ j, d = .int j) (m := (opW modD (cbW int1D (consW (cbW absD (consW (vW 2) nilW)) nilW)) (opW powD (opW powD (cW (.int 10)) (cW (.int 60))) (cW (.int 10))))) (re_op ro_mod (re_cb ro_int1 (ra_cons (re_cb ro_abs (ra_cons re_var ra_nil)) ra_nil)) (re_op ro_pow (re_op ro_pow (re_c (v := .int 10) (d := .int 10) fun _ => rfl) (re_c (v := .int 60) (d := .int 60) fun _ => rfl)) (re_c (v := .int 10) (d := .int 10) fun _ => rfl))) (by
      refine ⟨⟨by decide, by decide +kernel⟩, ?_⟩
      refine ⟨⟨by decide, by decide +kernel⟩, ?_⟩
      exact ⟨Int.pow_pos (Int.pow_pos (by decide)), _, rfl⟩) g1.ink sv1 fun v2 c2 G2 H2 g2 e2 ⟨j2, q2⟩ => ?_
    subst q2
    have sv2 := (sv1.go g2).set (j := 3) e2
    refine st_asg_raw (R := fun d => ∃ j, d = .int j) (m := (opW addD (opW addD (opW addD (opW mulD (opW modD (cbW int1D (consW (vW 3) nilW)) (cW (.int 2147483399))) (cW (.int 60029))) (opW mulD (cW (.int 4007)) (vW 1))) (opW mulD (cW (.int 29)) (cbW int1D (consW (opW ltD (vW 2) (cW (.int 0))) nilW)))) (cW (.int 61)))) (re_op ro_add (re_op ro_add (re_op ro_add (re_op ro_mul (re_op ro_mod (re_cb ro_int1 (ra_cons re_var ra_nil)) (re_c (v := .int 2147483399) (d := .int 2147483399) fun _ => rfl)) (re_c (v := .int 60029) (d := .int 60029) fun _ => rfl)) (re_op ro_mul (re_c (v := .int 4007) (d := .int 4007) fun _ => rfl) re_var)) (re_op ro_mul (re_c (v := .int 29) (d := .int 29) fun _ => rfl) (re_cb ro_int1 (ra_cons (re_op ro_cmp re_var (re_c (v := .int 0) (d := .int 0) fun _ => rfl)) ra_nil)))) (re_c (v := .int 61) (d := .int 61) fun _ => rfl)) (by
      refine ⟨by decide, modm (by decide) (by decide), ?_⟩
      refine ⟨.inl ⟨by decide, by decide⟩, ?_⟩
      refine ⟨.inl ⟨by decide, by decide⟩, ?_⟩
      exact ⟨_, rfl⟩) g2.ink sv2 fun v3 c3 G3 H3 g3 e3 ⟨j3, q3⟩ => ?_
    subst q3
    have sv3 := (sv2.go g3).set (j := 4) e3
    refine ret_new_raw (R := fun ds => ∃ x y z, ds = [.int x, .int y, .int z]) (m := (consW (cbW maxD (consW (cW (.int 0)) (consW (opW subD (vW 3) (opW powD (cW (.int 10)) (cW (.int 18)))) nilW))) (consW (opW modD (cbW int1D (consW (vW 4) nilW)) (cW (.int 2147483423))) (consW (cW (.int 0)) nilW)))) (ra_cons (re_cb ro_max (ra_cons (re_c (v := .int 0) (d := .int 0) fun _ => rfl) (ra_cons (re_op ro_sub re_var (re_op ro_pow (re_c (v := .int 10) (d := .int 10) fun _ => rfl) (re_c (v := .int 18) (d := .int 18) fun _ => rfl))) ra_nil))) (ra_cons (re_op ro_mod (re_cb ro_int1 (ra_cons re_var ra_nil)) (re_c (v := .int 2147483423) (d := .int 2147483423) fun _ => rfl)) (ra_cons (re_c (v := .int 0) (d := .int 0) fun _ => rfl) ra_nil))) (by
      refine ⟨⟨by decide, by decide +kernel⟩, ?_⟩
      exact ⟨by decide, _, _, _, rfl⟩) g3.ink sv3 fun vs ds G4 H4 g4 e4 ⟨x, y, z, q4⟩ => ?_
    subst q4
    obtain ⟨_, _, rfl, z1, _, _, rfl, z2, _, _, rfl, z3, z4⟩ := e4
    cases z1; cases z2; cases z3; cases z4
    refine ⟨(by show 3 ≤ 1000; decide), fun p hp => k p x y z _ ?_ ?_ upd_same⟩
    · exact ((g1.trans (g2.trans (g3.trans g4))).up).trans (Ex.new hp)
    · exact (g1.trans (g2.trans (g3.trans g4))).up.free hp

theorem gx_law (T : Tx P c mg ea) (g_Walk_short : Gmx P c mg base 2 ea.f_Walk_short W_Walk_short) (g__law_right : Ggx P c mg base "_law_right" 4 ["_law_dice_here"] W__law_right) (g__law_dice : Gfx P c mg base "_law_dice" 1 PreDice) : Ggx P c mg base "law" 5 ["_law_script"] W_law := by
  rw [W_law_eq]
  exact ggx_of T.D_law sc_law rfl rfl (fun f cdv A outer s H E hA hr => ⟨_, (pss_cons (ps_for PassesOwn.never rfl (pi_range1 rfl T.m_range (pa_cons (pe_callB (call_max2 rfl) (by rfl) T.m_max (by decide +kernel) (pa_cons pe_int (pa_cons (pe_callB (call_min2 rfl) (by rfl) T.m_min (by decide +kernel) (pa_cons pe_int (pa_cons (pe_callB (callLen (K := c.K) rfl) (by rfl) T.m_len (by decide +kernel) (pa_cons (pv 0) pa_nil)) pa_nil))) pa_nil))) pa_nil)) (pg_name (i := 1) sc_law.nd rfl (by first | exact Or.inl rfl | exact Or.inr rfl)) (pss_one (ps_if (pt_not (pt_val (pe_gg g__law_right ⟨rfl, rfl, rfl, rfl, rfl⟩ hA (hr.mono (by decide)) rfl (pa_cons (pe_gx g__law_dice ⟨rfl, rfl, rfl, rfl, rfl⟩ (hr.mono (by decide)) rfl tk_none (pa_cons (pv 0) (pa_cons (pv 1) pa_nil))) pa_nil)))) (pss_one (ps_ret pe_bl)) pss_nil))) (pss_cons (ps_set (i := 2) sc_law.nd rfl (by first | exact Or.inl rfl | exact Or.inr rfl) (pe_lst (pa_cons (pe_smeth g_Walk_short ⟨rfl, rfl, rfl, rfl, rfl⟩ (hr.mono (by decide)) rfl tk_none T.cm_Walk T.cr_Walk T.sm_Walk_short (pa_cons (pe_tup (pa_cons pe_int (pa_cons pe_int (pa_cons pe_int (pa_cons pe_int (pa_cons pe_int pa_nil)))))) pa_nil)) (pa_cons (pe_smeth g_Walk_short ⟨rfl, rfl, rfl, rfl, rfl⟩ (hr.mono (by decide)) rfl tk_none T.cm_Walk T.cr_Walk T.sm_Walk_short (pa_cons (pe_tup (pa_cons pe_int (pa_cons pe_int (pa_cons pe_int (pa_cons pe_int (pa_cons pe_int (pa_cons pe_int pa_nil))))))) pa_nil)) (pa_cons (pe_smeth g_Walk_short ⟨rfl, rfl, rfl, rfl, rfl⟩ (hr.mono (by decide)) rfl tk_none T.cm_Walk T.cr_Walk T.sm_Walk_short (pa_cons (pe_tup (pa_cons pe_int (pa_cons pe_int (pa_cons pe_int (pa_cons pe_int (pa_cons pe_int (pa_cons pe_int (pa_cons pe_int (pa_cons pe_int (pa_cons pe_int pa_nil)))))))))) pa_nil)) pa_nil))))) (pss_cons (ps_set (i := 3) sc_law.nd rfl (by first | exact Or.inl rfl | exact Or.inr rfl) (pe_lst (pa_cons (pe_tup (pa_cons (pe_tup (pa_cons pe_int (pa_cons pe_int (pa_cons pe_int (pa_cons pe_int (pa_cons pe_int pa_nil)))))) (pa_cons (pe_tup pa_nil) (pa_cons (pe_tup pa_nil) pa_nil)))) (pa_cons (pe_tup (pa_cons (pe_tup (pa_cons pe_int (pa_cons pe_int pa_nil))) (pa_cons (pe_tup (pa_cons pe_int pa_nil)) (pa_cons (pe_tup (pa_cons pe_int (pa_cons pe_int (pa_cons pe_int pa_nil)))) pa_nil)))) (pa_cons (pe_tup (pa_cons (pe_tup (pa_cons pe_int (pa_cons pe_int pa_nil))) (pa_cons (pe_tup (pa_cons pe_int (pa_cons pe_int (pa_cons pe_int pa_nil)))) (pa_cons (pe_tup (pa_cons pe_int (pa_cons pe_int (pa_cons pe_int pa_nil)))) pa_nil)))) pa_nil))))) (pss_one (ps_ret (pe_and (pe_cmpR (opEq (K := c.K) rfl hr.units) (pv 2) (pv 3) (nomark _)) (pe_one (pe_cmpR (opEq (K := c.K) rfl hr.units) (pe_smeth g_Walk_short ⟨rfl, rfl, rfl, rfl, rfl⟩ (hr.mono (by decide)) rfl tk_none T.cm_Walk T.cr_Walk T.sm_Walk_short (pa_cons (pe_tup pa_nil) pa_nil)) (pe_tup (pa_cons (pe_tup pa_nil) (pa_cons (pe_tup pa_nil) (pa_cons (pe_tup pa_nil) pa_nil)))) (nomark _))))))))), (rs_seq (rs_for (ri_rng1 (ra_cons (re_cb ro_max (ra_cons (re_c (v := .int 1) (d := .int 1) fun _ => rfl) (ra_cons (re_cb ro_min (ra_cons (re_c (v := .int 9) (d := .int 9) fun _ => rfl) (ra_cons (re_cb ro_len (ra_cons re_var ra_nil)) ra_nil))) ra_nil))) ra_nil)) rl_name (rs_if (rt_not (rt_B (re_callN (ra_cons (re_call (ra_cons re_var (ra_cons re_var ra_nil))) ra_nil)))) (rs_ret (re_c (v := .bl false) (d := .bl false) fun _ => rfl)) rs_next)) (rs_seq (rs_asg (re_lst (ra_cons (re_call (ra_cons (re_tup (ra_cons (re_c (v := .int 1) (d := .int 1) fun _ => rfl) (ra_cons (re_c (v := .int 0) (d := .int 0) fun _ => rfl) (ra_cons (re_c (v := .int 0) (d := .int 0) fun _ => rfl) (ra_cons (re_c (v := .int 1) (d := .int 1) fun _ => rfl) (ra_cons (re_c (v := .int 1) (d := .int 1) fun _ => rfl) ra_nil)))))) ra_nil)) (ra_cons (re_call (ra_cons (re_tup (ra_cons (re_c (v := .int 0) (d := .int 0) fun _ => rfl) (ra_cons (re_c (v := .int 1) (d := .int 1) fun _ => rfl) (ra_cons (re_c (v := .int 9) (d := .int 9) fun _ => rfl) (ra_cons (re_c (v := .int 1) (d := .int 1) fun _ => rfl) (ra_cons (re_c (v := .int 1) (d := .int 1) fun _ => rfl) (ra_cons (re_c (v := .int 0) (d := .int 0) fun _ => rfl) ra_nil))))))) ra_nil)) (ra_cons (re_call (ra_cons (re_tup (ra_cons (re_c (v := .int 3) (d := .int 3) fun _ => rfl) (ra_cons (re_c (v := .int 3) (d := .int 3) fun _ => rfl) (ra_cons (re_c (v := .int 2) (d := .int 2) fun _ => rfl) (ra_cons (re_c (v := .int 1) (d := .int 1) fun _ => rfl) (ra_cons (re_c (v := .int 2) (d := .int 2) fun _ => rfl) (ra_cons (re_c (v := .int 0) (d := .int 0) fun _ => rfl) (ra_cons (re_c (v := .int 4) (d := .int 4) fun _ => rfl) (ra_cons (re_c (v := .int 4) (d := .int 4) fun _ => rfl) (ra_cons (re_c (v := .int 4) (d := .int 4) fun _ => rfl) ra_nil)))))))))) ra_nil)) ra_nil)))) rl_name) (rs_seq (rs_asg (re_lst (ra_cons (re_tup (ra_cons (re_tup (ra_cons (re_c (v := .int 1) (d := .int 1) fun _ => rfl) (ra_cons (re_c (v := .int 0) (d := .int 0) fun _ => rfl) (ra_cons (re_c (v := .int 0) (d := .int 0) fun _ => rfl) (ra_cons (re_c (v := .int 1) (d := .int 1) fun _ => rfl) (ra_cons (re_c (v := .int 1) (d := .int 1) fun _ => rfl) ra_nil)))))) (ra_cons (re_tup ra_nil) (ra_cons (re_tup ra_nil) ra_nil)))) (ra_cons (re_tup (ra_cons (re_tup (ra_cons (re_c (v := .int 0) (d := .int 0) fun _ => rfl) (ra_cons (re_c (v := .int 1) (d := .int 1) fun _ => rfl) ra_nil))) (ra_cons (re_tup (ra_cons (re_c (v := .int 9) (d := .int 9) fun _ => rfl) ra_nil)) (ra_cons (re_tup (ra_cons (re_c (v := .int 1) (d := .int 1) fun _ => rfl) (ra_cons (re_c (v := .int 1) (d := .int 1) fun _ => rfl) (ra_cons (re_c (v := .int 0) (d := .int 0) fun _ => rfl) ra_nil)))) ra_nil)))) (ra_cons (re_tup (ra_cons (re_tup (ra_cons (re_c (v := .int 3) (d := .int 3) fun _ => rfl) (ra_cons (re_c (v := .int 3) (d := .int 3) fun _ => rfl) ra_nil))) (ra_cons (re_tup (ra_cons (re_c (v := .int 0) (d := .int 0) fun _ => rfl) (ra_cons (re_c (v := .int 1) (d := .int 1) fun _ => rfl) (ra_cons (re_c (v := .int 2) (d := .int 2) fun _ => rfl) ra_nil)))) (ra_cons (re_tup (ra_cons (re_c (v := .int 4) (d := .int 4) fun _ => rfl) (ra_cons (re_c (v := .int 4) (d := .int 4) fun _ => rfl) (ra_cons (re_c (v := .int 4) (d := .int 4) fun _ => rfl) ra_nil)))) ra_nil)))) ra_nil)))) rl_name) (rs_ret (re_and (re_op ro_eq re_var re_var) (re_op ro_eq (re_call (ra_cons (re_tup ra_nil) ra_nil)) (re_tup (ra_cons (re_tup ra_nil) (ra_cons (re_tup ra_nil) (ra_cons (re_tup ra_nil) ra_nil))))))))))⟩)
end
end Mw

set_option Elab.async false
set_option linter.all false
set_option maxRecDepth 100000
set_option maxHeartbeats 4000000
namespace Mw
open PySem PySem.Spec PyProof.Rows L2
def PreLaw : PreX := fun ds R _ => ∃ ns : List Int, ds = [.sq (ns.map .int)] ∧ ns.length ≤ 63 ∧ R (.bl true)
theorem all_mk {P : Program} {w : World} {K : PySem.W.Frag} {h : Heap} {mg : Str → Option Value} {fa : Addr} (X : K.In h) (G : h.Ns mainGlobals mg) (hfa : mg "law" = some (.ref fa)) (S : SaysM fss fns K) :
    ∃ (c : Kc) (fd : FuncData), c.K = K ∧ c.w = w ∧ (∀ (s : Shared) (v : Value), BindsTo s fd ⟨[v], []⟩ [("_law_script", v)]) ∧ ∀ base : Heap, FnG P w K mg base 5 fa fd ["_law_script"] (spN c PreLaw) := by
  obtain ⟨u_SHORT, y_SHORT, r_SHORT⟩ := fVal_ok (S.fact 14 (f := fVal "SHORT" (.int 5)))
  obtain ⟨fd_short_form, F_short_form⟩ := S.def_ 0 (d := dd_short_form)
  have F_short_form : FunD K "short_form" "short_form" (defArgs s_short_form) (defBody s_short_form) (defScope s_short_form) [.non] [] (He.ga K "short_form") fd_short_form := F_short_form
  obtain ⟨fd_is_integer, F_is_integer⟩ := S.def_ 1 (d := dd_is_integer)
  have F_is_integer : FunD K "is_integer" "is_integer" (defArgs s_is_integer) (defBody s_is_integer) (defScope s_is_integer) [] [] (He.ga K "is_integer") fd_is_integer := F_is_integer
  obtain ⟨fd__law_roll, F__law_roll⟩ := S.def_ 2 (d := dd__law_roll)
  have F__law_roll : FunD K "_law_roll" "_law_roll" (defArgs s__law_roll) (defBody s__law_roll) (defScope s__law_roll) [] [] (He.ga K "_law_roll") fd__law_roll := F__law_roll
  obtain ⟨fd__law_one_of, F__law_one_of⟩ := S.def_ 3 (d := dd__law_one_of)
  have F__law_one_of : FunD K "_law_one_of" "_law_one_of" (defArgs s__law_one_of) (defBody s__law_one_of) (defScope s__law_one_of) [] [] (He.ga K "_law_one_of") fd__law_one_of := F__law_one_of
  obtain ⟨fd__law_short, F__law_short⟩ := S.def_ 4 (d := dd__law_short)
  have F__law_short : FunD K "_law_short" "_law_short" (defArgs s__law_short) (defBody s__law_short) (defScope s__law_short) [] [] (He.ga K "_law_short") fd__law_short := F__law_short
  obtain ⟨fd__law_is_refused, F__law_is_refused⟩ := S.def_ 5 (d := dd__law_is_refused)
  have F__law_is_refused : FunD K "_law_is_refused" "_law_is_refused" (defArgs s__law_is_refused) (defBody s__law_is_refused) (defScope s__law_is_refused) [] [] (He.ga K "_law_is_refused") fd__law_is_refused := F__law_is_refused
  obtain ⟨fd__law_right, F__law_right⟩ := S.def_ 6 (d := dd__law_right)
  have F__law_right : FunD K "_law_right" "_law_right" (defArgs s__law_right) (defBody s__law_right) (defScope s__law_right) [] [] (He.ga K "_law_right") fd__law_right := F__law_right
  obtain ⟨fd__law_dice, F__law_dice⟩ := S.def_ 7 (d := dd__law_dice)
  have F__law_dice : FunD K "_law_dice" "_law_dice" (defArgs s__law_dice) (defBody s__law_dice) (defScope s__law_dice) [] [] (He.ga K "_law_dice") fd__law_dice := F__law_dice
  obtain ⟨fd_law, F_law⟩ := S.def_ 8 (d := dd_law)
  have F_law : FunD K "law" "law" (defArgs s_law) (defBody s_law) (defScope s_law) [] [] (He.ga K "law") fd_law := F_law
  have q_Walk_short := fStat_ok (S.fact 27 (f := fStat "Walk" "short"))
  obtain ⟨fd_Walk_short, F_Walk_short⟩ := S.def_ 9 (d := dd_Walk_short)
  have F_Walk_short : FunD K "short" "Walk.short" (defArgs s_Walk_short) (defBody s_Walk_short) (defScope s_Walk_short) [] [] (stF "Walk" "short" K) fd_Walk_short := F_Walk_short
  have e := hfa.symm.trans (PySem.W.mg_of X G (fGlo_ok (S.fact 23 (f := fGlo "law"))))
  cases e
  let c : Kc := { K := K, w := w, ca := fun i => ([0, 0, 0, 0, 0, 0, 0, 0, 0, He.ga K "InvalidOperation"] : List Addr).getD i 0, cl := [] }
  have T : Tx P c mg { p_Walk_short := stP K "Walk" "short", f_Walk_short := stF "Walk" "short" K, C_Walk := He.ga K "Walk" } :=
    {
      m_range := PySem.W.mg_none_of X G (fFree_ok (S.fact 0 (f := fFree "range")))
      m_max := PySem.W.mg_none_of X G (fFree_ok (S.fact 1 (f := fFree "max")))
      m_min := PySem.W.mg_none_of X G (fFree_ok (S.fact 2 (f := fFree "min")))
      m_len := PySem.W.mg_none_of X G (fFree_ok (S.fact 3 (f := fFree "len")))
      m_isinstance := PySem.W.mg_none_of X G (fFree_ok (S.fact 4 (f := fFree "isinstance")))
      m_tuple := PySem.W.mg_none_of X G (fFree_ok (S.fact 5 (f := fFree "tuple")))
      m_all := PySem.W.mg_none_of X G (fFree_ok (S.fact 6 (f := fFree "all")))
      m_sorted := PySem.W.mg_none_of X G (fFree_ok (S.fact 7 (f := fFree "sorted")))
      m_int := PySem.W.mg_none_of X G (fFree_ok (S.fact 8 (f := fFree "int")))
      m_bool := PySem.W.mg_none_of X G (fFree_ok (S.fact 9 (f := fFree "bool")))
      m_repr := PySem.W.mg_none_of X G (fFree_ok (S.fact 10 (f := fFree "repr")))
      m_list := PySem.W.mg_none_of X G (fFree_ok (S.fact 11 (f := fFree "list")))
      m_set := PySem.W.mg_none_of X G (fFree_ok (S.fact 12 (f := fFree "set")))
      m_abs := PySem.W.mg_none_of X G (fFree_ok (S.fact 13 (f := fFree "abs")))
      g_SHORT := ⟨_, PySem.W.mg_of X G y_SHORT, r_SHORT⟩
      D_short_form := (by
          refine ⟨_, _, F_short_form, (PySem.W.mg_of X G (fGlo_ok (S.fact 15 (f := fGlo "short_form")))), fun j hj => ?_⟩
          simp only [List.mem_cons, List.not_mem_nil, or_false] at hj
          rcases hj with rfl
          · exact F_short_form.binds1 (ps := ["row", "left_out"]) 1 0 (by simp) rfl (fun _ _ _ _ _ _ _ us its h1 h2 => match us, h1, its, h2 with | [_], _, [_], _ => ⟨_, rfl, rfl⟩))
      D_is_integer := ⟨_, _, fun_ofD F_is_integer, (fun_ofD F_is_integer).binds fun _ _ _ _ _ _ us hl => match us, hl with | [_], _ => rfl, (PySem.W.mg_of X G (fGlo_ok (S.fact 16 (f := fGlo "is_integer"))))⟩
      D__law_roll := ⟨_, _, fun_ofD F__law_roll, (fun_ofD F__law_roll).binds fun _ _ _ _ _ _ us hl => match us, hl with | [_, _], _ => rfl, (PySem.W.mg_of X G (fGlo_ok (S.fact 17 (f := fGlo "_law_roll"))))⟩
      D__law_one_of := ⟨_, _, fun_ofD F__law_one_of, (fun_ofD F__law_one_of).binds fun _ _ _ _ _ _ us hl => match us, hl with | [_, _], _ => rfl, (PySem.W.mg_of X G (fGlo_ok (S.fact 18 (f := fGlo "_law_one_of"))))⟩
      D__law_short := ⟨_, _, fun_ofD F__law_short, (fun_ofD F__law_short).binds fun _ _ _ _ _ _ us hl => match us, hl with | [_], _ => rfl, (PySem.W.mg_of X G (fGlo_ok (S.fact 19 (f := fGlo "_law_short"))))⟩
      D__law_is_refused := ⟨_, _, fun_ofD F__law_is_refused, (fun_ofD F__law_is_refused).binds fun _ _ _ _ _ _ us hl => match us, hl with | [_], _ => rfl, (PySem.W.mg_of X G (fGlo_ok (S.fact 20 (f := fGlo "_law_is_refused"))))⟩
      D__law_right := ⟨_, _, fun_ofD F__law_right, (fun_ofD F__law_right).binds fun _ _ _ _ _ _ us hl => match us, hl with | [_], _ => rfl, (PySem.W.mg_of X G (fGlo_ok (S.fact 21 (f := fGlo "_law_right"))))⟩
      D__law_dice := ⟨_, _, fun_ofD F__law_dice, (fun_ofD F__law_dice).binds fun _ _ _ _ _ _ us hl => match us, hl with | [_, _], _ => rfl, (PySem.W.mg_of X G (fGlo_ok (S.fact 22 (f := fGlo "_law_dice"))))⟩
      D_law := ⟨_, _, fun_ofD F_law, (fun_ofD F_law).binds fun _ _ _ _ _ _ us hl => match us, hl with | [_], _ => rfl, (PySem.W.mg_of X G (fGlo_ok (S.fact 23 (f := fGlo "law"))))⟩
      cm_Walk := (PySem.W.mg_of X G (fGlo_ok (S.fact 24 (f := fGlo "Walk"))))
      cr_Walk := ⟨(S.fact 25 (f := fReads "Walk")), fSpec_ok (S.fact 26 (f := fSpec "Walk" "__getattribute__" "type.__getattribute__"))⟩
      sm_Walk_short := ⟨q_Walk_short.1, q_Walk_short.2, rfl, F_Walk_short.kp⟩
      D_Walk_short := ⟨_, fun_ofD F_Walk_short, (fun_ofD F_Walk_short).binds fun _ _ _ _ _ _ us hl => match us, hl with | [_], _ => rfl⟩
      x_InvalidOperation := ⟨(PySem.W.mg_of X G (fGlo_ok (S.fact 28 (f := fGlo "InvalidOperation")))), (S.fact 29 (f := fExc "InvalidOperation" [.type "ValueError", .type "Exception", .type "BaseException", .type "object"] "ValueError.__new__")), (S.fact 30 (f := fKeep "InvalidOperation")), fSubT_ok (S.fact 31 (f := fSubT "InvalidOperation" "BaseException")), fTy_ok (S.fact 32 (f := fTy "InvalidOperation")), (S.fact 33 (f := fHd "InvalidOperation"))⟩
      xm_InvalidOperation := (PySem.W.mg_of X G (fGlo_ok (S.fact 28 (f := fGlo "InvalidOperation"))))
      meet_InvalidOperation := (by
          intro D hD
          simp only [List.mem_cons, List.not_mem_nil, or_false] at hD
          rcases hD with rfl
          · exact PySem.W.exm_ref (fSubT_ok (S.fact 31 (f := fSubT "InvalidOperation" "BaseException"))) (S.fact 33 (f := fHd "InvalidOperation")) (fTy_ok (S.fact 32 (f := fTy "InvalidOperation"))) (fSub_ok (S.fact 34 (f := fSub "InvalidOperation" "InvalidOperation" true))))
      kls := (fun C h => nomatch h) }
  refine ⟨c, fd_law, rfl, rfl, fun s v => FunD.bindsA (ps := ["_law_script"]) F_law (fun _ _ _ _ _ _ us hl => match us, hl with | [_], _ => rfl) s [v] rfl, fun base => ?_⟩
  have g_short_form_1 := gx_short_form_1 (P := P) (base := base) T 
  have g_is_integer := gx_is_integer (P := P) (base := base) T 
  have g_Walk_short := gx_Walk_short (P := P) (base := base) T g_short_form_1 g_is_integer
  have g__law_roll := gx__law_roll (P := P) (base := base) T 
  have g__law_one_of := gx__law_one_of (P := P) (base := base) T g__law_roll
  have g__law_short := gx__law_short (P := P) (base := base) T 
  have g__law_is_refused := gx__law_is_refused (P := P) (base := base) T g_Walk_short
  have g__law_right := gx__law_right (P := P) (base := base) T g_Walk_short g__law_one_of g__law_roll g__law_short g__law_is_refused
  have g__law_dice := gx__law_dice (P := P) (base := base) T 
  obtain ⟨f', fd', F', _, m', _, oc', od', osl', lk'⟩ := gx_law (P := P) (base := base) T g_Walk_short g__law_right g__law_dice
  rw [hfa] at m'
  cases m'
  have lk'' : K.lookup (He.ga K "law") = some _ := lk'
  obtain ⟨oc, od, dV, kV, doc, pm, an, cdv, ct, osl, efd, lk, _⟩ := F_law.ex
  rw [lk] at lk''
  cases lk''
  refine ⟨fun vs H Q E h => ?_, fun A outer s H args us vs Q E hg hr e0 hb hv h => ?_⟩
  · obtain ⟨G, ds, R, e, d, ⟨ns, h1, _⟩, _⟩ := h
    subst h1
    rw [d.len]; rfl
  · obtain ⟨G, ds, R, e, d, ⟨ns, h1, h2, h3⟩, q⟩ := h
    subst h1
    exact F'.run A outer s H args us vs Q E hg hr e0 hb hv ⟨G, _, R, e, d, sp_law ns h2 R h3, q⟩
end Mw
open PySem PySem.W PyProof.Rows
set_option maxRecDepth 100000 in
set_option maxHeartbeats 0 in
theorem PySem.Challenge.cw_namedabove_k24_short_forms_holds : PySem.Challenge.rw_namedabove_k24_short_forms.Holds := by
  w_on; o_law
  refine HandSHeadRun.head_any (r := OpenLaw.row PySem.Challenge.rw_namedabove_k24_short_forms) (q := view (OpenLaw.row PySem.Challenge.rw_namedabove_k24_short_forms).prog [83]) (H := Mw.hk) (ob := Mw.ob) (M := 20000) (loose := Mw.names) (d := HandSHeadRun.topDef (OpenLaw.row PySem.Challenge.rw_namedabove_k24_short_forms).prog 83) (kwd := []) Mw.ob_eq
    (by kernel_rfl) (fun s => by kernel_rfl) Mw.run (by kernel_rfl) (by kernel_rfl) (by kernel_rfl) (by rfl) (by first | assumption | decide +kernel) (by decide +kernel) ⟨rfl, rfl, rfl, rfl, rfl, by decide +kernel⟩ ?hw ?hc
  case hw => w_witness2
  case hc =>
    refine Mw.walk_ofM (l := PySem.Challenge.rw_namedabove_k24_short_forms) (n := 63) (k := 5) (x := "_law_script") rfl (by decide) (by kernel_rfl) ⟨rfl, by decide, by decide⟩ ?F
    intro w mg fa h Y G hmg0
    obtain ⟨K, KX, S⟩ := Y
    have hmg : mg ("law" : PySem.Str) = some (.ref fa) := by
      have e : (HandSHeadRun.topDef (OpenLaw.row PySem.Challenge.rw_namedabove_k24_short_forms).prog 83).name = ("law" : PySem.Str) := by kernel_rfl
      rw [← e]
      exact hmg0
    obtain ⟨c, fd, e1, e2, hb, hF⟩ := Mw.all_mk (P := (PySem.Challenge.rw_namedabove_k24_short_forms).prog) (w := w) KX G hmg S
    exact ⟨K, Mw.spN c Mw.PreLaw, fd, KX, hb, hF, fun H a ns hl hS => ⟨H, [.sq (ns.map .int)], fun d => d = .bl true, L2.Same.refl H, ⟨.ref a, [], rfl, ⟨a, _, rfl, by rw [e1]; exact hS, Mw.dats_ints⟩, rfl⟩, ⟨ns, rfl, hl, rfl⟩, fun v d G' H' _ hd hr => by subst hr; exact hd⟩⟩
#print axioms PySem.Challenge.cw_namedabove_k24_short_forms_holds
