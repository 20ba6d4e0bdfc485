import PyProof.Rows.All
import Wide.All
import OpenK.AllK
import Wide.FinOn
import HandS.ForMost
import HandS.Walk
import HandS.IsInst
import HandS.Wide
import HandS.Style
import HandS.Exc
import HandS.WordsExc
import HandS.Strs
import HandS.Star
import HandS.Lambda
import HandS.NoneIn
import HandS.TupAny
import HandS.TupMul
import HandS.TupLe
import HandS.RaiseMore
import HandS.Codes
import HandS.Conv
import HandS.Comp
import HandS.ClsMeth
import HandS.Property
import HandS.Defaults
import HandS.TryMany
import HandS.TryOnly
import HandS.ExcField
import HandS.ExcIs
import HandS.ExcInit
import HandS.ExcValue
import HandS.DictComp
import HandS.SetKeys
import HandS.SetFor
import HandS.Zip
import HandS.CallSlots
import HandS.FStr
import HandS.MakeKw
import HandS.MakeKwOnly
import KE.KExcSuper
import HandS.SlotsOwn
import KE.KCallOwn
import KE.KExcIs
import PyProof.InstNe
import PyProof.StrLawsRepr
import KE.GoesSet
import PyProof.ReprRoads
import HandS.SetBool
import HandS.DictTup
import KE.KSortTupG
import PyProof.Rows.TupDisplay
import KE.KAssignIn
import KE.KFmtOwn
import KE.GoesMore
import PyProof.EnumMake
import HandS.Head0
import HandS.Head1
import HandS.Head2
import HandS.HeadHook1
import HandS.HeadHook2
import HandS.HeadHook4
import PySem.Challenge.RW_namedabove_k17_errors_of_rules
set_option Elab.async false
set_option linter.all false
set_option maxRecDepth 100000
set_option maxHeartbeats 4000000
/-! Mw: mirrors. Pure data in place of heaps; each def of the text has a mirror, a plain predicate transformer over data. -/
namespace Mw
open PySem PySem.Spec PyProof.Rows L2

/-! ### heaps: G is what is known of the heap, H what is there -/
abbrev Ex (G H : Hp) : Prop := L2.Same G H
theorem Ex.new {H : Hp} {p : Addr} {o : HO} (h : H p = none) : Ex H (upd H p o) := fun a u e => by
  rw [upd_ne (ne_of_none e h)]; exact e
theorem Ex.tup {K : PySem.W.Frag} {H H' : Hp} {a : Addr} {xs : List V} (e : Ex H H') (h : SqT K H a xs) : SqT K H' a xs := by
  rcases h with (h | ⟨o, h⟩) | h
  · exact .inl (.inl (e _ _ h))
  · exact .inl (.inr ⟨o, e _ _ h⟩)
  · exact .inr h
theorem Ex.tp {K : PySem.W.Frag} {H H' : Hp} {a : Addr} {xs : List V} (e : Ex H H') (h : H a = some (.tup xs)) : SqT K H' a xs := .inl (.inl (e _ _ h))
theorem Ex.rd {H H' : Hp} {a : Addr} {u : HO} (e : Ex H H') (h : Rd H a u) : Rd H' a u := by
  rcases h with h | ⟨o, h⟩
  · exact .inl (e _ _ h)
  · exact .inr ⟨o, e _ _ h⟩
theorem upd_mono {G H : Hp} (e : Ex G H) (p : Addr) (o : HO) : Ex (upd G p o) (upd H p o) := fun a u h => by
  by_cases c : a = p
  · subst c; rw [upd_same] at h ⊢; exact h
  · rw [upd_ne c] at h ⊢; exact e a u h
/-! ### data -/
inductive Dt where
  | non | bl (b : Bool) | int (i : Int) | str (x : Str) | ty (n : String)
  | lst (l : List Dt) | sq (l : List Dt) | tup (l : List Dt)
  | dic (l : List (Key × Dt)) | dit (l : List (List Key × Dt))
  | set (l : List Int)
  | ins (C : Nat) (l : List (Str × Dt))
  | cls (C : Nat)
  | dice
  | adr (a : Addr)
/-- the written part, the world, where the text's classes stand -/
structure Kc where
  K : PySem.W.Frag
  w : World
  ca : Nat → Addr
  cl : List Nat
  tb : List (Addr × Str)
  fl : Hp := fun _ => none
/-- what the heap keeps of what it had: all but the tables of code objects, which may grow -/
structure Up (H H' : Hp) : Prop where
  st : ∀ a o, H a = some o → (∀ ps, o ≠ .tbl ps) → H' a = some o
  tb : ∀ a ps, H a = some (.tbl ps) → ∃ ps', H' a = some (.tbl ps')
theorem Up.refl (H : Hp) : Up H H := ⟨fun _ _ h _ => h, fun _ ps h => ⟨ps, h⟩⟩
theorem Up.trans {H H1 H2 : Hp} (a : Up H H1) (b : Up H1 H2) : Up H H2 := ⟨fun x o h n => b.st x o (a.st x o h n) n, fun x ps h => let ⟨ps', h'⟩ := a.tb x ps h; b.tb x ps' h'⟩
theorem Up.of {H H' : Hp} (e : Ex H H') : Up H H' := ⟨fun a o h _ => e a o h, fun a ps h => ⟨ps, e a _ h⟩⟩
theorem Up.free {H H' : Hp} (e : Up H H') {a : Addr} (h : H' a = none) : H a = none := by
  cases q : H a with
  | none => rfl
  | some o =>
    by_cases t : ∃ ps, o = .tbl ps
    · obtain ⟨ps, rfl⟩ := t
      obtain ⟨ps', z⟩ := e.tb a ps q
      rw [h] at z; cases z
    · have z := e.st a o q fun ps z => t ⟨ps, z⟩
      rw [h] at z; cases z
/-- what is known, in the heap: no tables; the tables are as they have to be -/
structure In (c : Kc) (G H : Hp) : Prop where
  ex : Ex G H
  nt : ∀ a ps, G a ≠ some (.tbl ps)
  tb : LamX.Tabs c.tb H
  fl : Ex c.fl G
instance {c : Kc} {G H : Hp} : CoeFun (In c G H) (fun _ => ∀ a o, G a = some o → H a = some o) := ⟨fun e => e.ex⟩
section
variable {c : Kc} {G G1 G2 H H1 H2 H0 G0 : Hp}
theorem In.seq {a : Addr} {xs : List V} (e : In c G H) (h : SqL c.K G a xs) : SqL c.K H a xs := e.ex.seq h
theorem In.free {a : Addr} (e : In c G H) (h : H a = none) : G a = none := e.ex.free h
theorem tabs_new {T : List (Addr × Str)} {p : Addr} {o : HO} (t : LamX.Tabs T H) (h : H p = none) : LamX.Tabs T (upd H p o) := t.ext (Ex.new h)
theorem In.new {p : Addr} {o : HO} (e : In c G H) (h : H p = none) (ho : ∀ ps, o ≠ .tbl ps) : In c (upd G p o) (upd H p o) :=
  ⟨upd_mono e.ex p o, fun a ps z => by
    by_cases q : a = p
    · subst q; rw [upd_same] at z; exact ho ps (Option.some.inj z)
    · rw [upd_ne q] at z; exact e.nt a ps z, tabs_new e.tb h, e.fl.trans (Ex.new (e.ex.free h))⟩
/-- from the known G in the heap H to the known G' in the heap H': what was known is known, what is new was free (or a tuple) -/
structure Go (c : Kc) (G H G' H' : Hp) : Prop where
  kn : Ex G G'
  nw : ∀ a o, G a = none → H a = some o → (∀ xs, o ≠ .tup xs) → G' a = none
  ink : In c G' H'
  up : Up H H'
theorem Go.refl (e : In c G H) : Go c G H G H := ⟨Same.refl G, fun _ _ h _ _ => h, e, Up.refl H⟩
theorem Go.trans (a : Go c G H G1 H1) (b : Go c G1 H1 G2 H2) : Go c G H G2 H2 :=
  ⟨a.kn.trans b.kn, fun x o h1 h2 n => by
    have h3 := a.nw x o h1 h2 n
    by_cases t : ∃ ps, o = .tbl ps
    · obtain ⟨ps, rfl⟩ := t
      obtain ⟨ps', z⟩ := a.up.tb x ps h2
      exact b.nw x _ h3 z fun xs q => by cases q
    · exact b.nw x o h3 (a.up.st x o h2 fun ps z => t ⟨ps, z⟩) n, b.ink, a.up.trans b.up⟩
theorem Go.new {p : Addr} {o : HO} (e : In c G H) (h : H p = none) (ho : ∀ ps, o ≠ .tbl ps := by intro ps z; cases z) : Go c G H (upd G p o) (upd H p o) :=
  ⟨Ex.new (e.free h), fun a u h1 h2 _ => by rw [upd_ne (ne_of_none h2 h)]; exact h1, e.new h ho, Up.of (Ex.new h)⟩
theorem Go.put {p : Addr} {o : HO} (e : In c G H) (h : H p = none) : Go c G H G (upd H p o) :=
  ⟨Same.refl G, fun _ _ h _ _ => h, ⟨e.ex.trans (Ex.new h), e.nt, tabs_new e.tb h, e.fl⟩, Up.of (Ex.new h)⟩
/-- an object that is neither a table nor a code object -/
def Flat (a : Addr) (o : HO) : Prop := (∀ ps, o ≠ .tbl ps) ∧ ∀ q, o ≠ LamX.CodeO a q
theorem tabs_turn {T : List (Addr × Str)} {a : Addr} {o u : HO} (t : LamX.Tabs T H) (h : H a = some u) (hu : Flat a u) : LamX.Tabs T (upd H a o) := fun p hp => by
  obtain ⟨ps, h1, h2, h3⟩ := t p hp
  refine ⟨ps, ?_, h2, fun pos cv hc => ?_⟩
  · rw [upd_ne fun z => by subst z; rw [h] at h1; exact hu.1 ps (Option.some.inj h1)]; exact h1
  · obtain ⟨k, e1, e2⟩ := h3 pos cv hc
    refine ⟨k, e1, ?_⟩
    rw [upd_ne fun z => by subst z; rw [h] at e2; exact hu.2 _ (Option.some.inj e2)]; exact e2
theorem flat_lst {a : Addr} {xs : List V} : Flat a (.lst xs) := ⟨(fun _ z => by cases z), (fun _ z => by unfold LamX.CodeO at z; cases z)⟩
theorem flat_dK {a : Addr} {xs : List (Key × V)} : Flat a (.dK xs) := ⟨(fun _ z => by cases z), (fun _ z => by unfold LamX.CodeO at z; cases z)⟩
theorem flat_dT {a : Addr} {xs : List (List Key × V)} : Flat a (.dT xs) := ⟨(fun _ z => by cases z), (fun _ z => by unfold LamX.CodeO at z; cases z)⟩
theorem flat_ins {a C dx : Addr} {fs : List (Str × V)} : Flat a (.ins C dx fs) := ⟨(fun _ z => by cases z), (fun _ z => by unfold LamX.CodeO at z; cases z)⟩
/-- an object of one's own is changed -/
theorem Go.turn {a : Addr} {o u : HO} (g : Go c G0 H0 G H) (hG : G a = none) (h0 : H0 a = none) (hH : H a = some u) (hu : Flat a u) : Go c G0 H0 G (upd H a o) :=
  ⟨g.kn, g.nw, ⟨fun b v z => by rw [upd_ne (ne_of_none z hG)]; exact g.ink b v z, g.ink.nt, tabs_turn g.ink.tb hH hu, g.ink.fl⟩,
    ⟨fun b v z n => by rw [upd_ne (ne_of_none z h0)]; exact g.up.st b v z n, fun b ps z => by rw [upd_ne (ne_of_none z h0)]; exact g.up.tb b ps z⟩⟩
/-- .. is told -/
theorem Go.tell {a : Addr} {o : HO} (g : Go c G0 H0 G H) (hG : G a = none) (h0 : H0 a = none) (hH : H a = some o) (ho : ∀ ps, o ≠ .tbl ps := by intro ps z; cases z) : Go c G0 H0 (upd G a o) H :=
  ⟨g.kn.trans (Ex.new hG), fun b u h1 h2 n => by rw [upd_ne (ne_of_none h2 h0)]; exact g.nw b u h1 h2 n, ⟨fun b u z => by
    by_cases q : b = a
    · subst q; rw [upd_same] at z; rw [hH]; exact z
    · rw [upd_ne q] at z; exact g.ink b u z, fun b ps z => by
    by_cases q : b = a
    · subst q; rw [upd_same] at z; exact ho ps (Option.some.inj z)
    · rw [upd_ne q] at z; exact g.ink.nt b ps z, g.ink.tb, g.ink.fl.trans (Ex.new hG)⟩, g.up⟩
end
/-- a list of three ints, hidden -/
def DiceH : Addr → Heap → Prop := fun a h => ∃ (x y z : Int) (its : List Value) (n : Nat), Vals [.int x, .int y, .int z] its ∧ h.get? a = some { cls := .type "list", data := .seq its.toArray n }
mutual
def Dat (c : Kc) (G : Hp) : Dt → V → Prop
  | .non, v => v = .non
  | .bl b, v => v = .bl b
  | .int i, v => v = .int i
  | .str x, v => v = .str x
  | .ty n, v => v = .ty n
  | .lst l, v => ∃ a xs, v = .ref a ∧ G a = some (.lst xs) ∧ Dats c G l xs
  | .sq l, v => ∃ a xs, v = .ref a ∧ SqL c.K G a xs ∧ Dats c G l xs
  | .tup l, v => ∃ a xs, v = .ref a ∧ G a = some (.tup xs) ∧ Dats c G l xs
  | .dic l, v => ∃ a o kvs, v = .ref a ∧ G a = some (.frz o (.dK kvs)) ∧ Datk c G l kvs
  | .dit l, v => ∃ a o kvs, v = .ref a ∧ G a = some (.frz o (.dT kvs)) ∧ Datt c G l kvs
  | .set l, v => ∃ a S n, v = .ref a ∧ G a = some (SetO c.w a S n) ∧ n ≤ l.length ∧ ∀ i, S i = true ↔ i ∈ l
  | .ins C l, v => ∃ a dx fs, v = .ref a ∧ G a = some (.ins (c.ca C) dx fs) ∧ C ∈ c.cl ∧ Datf c G l fs
  | .cls C, v => v = .ref (c.ca C) ∧ C ∈ c.cl
  | .dice, v => ∃ a, v = .ref a ∧ G a = some (.ext (DiceH a))
  | .adr a, v => v = .ref a
def Dats (c : Kc) (G : Hp) : List Dt → List V → Prop
  | [], xs => xs = []
  | d :: l, xs => ∃ x r, xs = x :: r ∧ Dat c G d x ∧ Dats c G l r
def Datk (c : Kc) (G : Hp) : List (Key × Dt) → List (Key × V) → Prop
  | [], xs => xs = []
  | (k, d) :: l, xs => ∃ x r, xs = (k, x) :: r ∧ Dat c G d x ∧ Datk c G l r
def Datt (c : Kc) (G : Hp) : List (List Key × Dt) → List (List Key × V) → Prop
  | [], xs => xs = []
  | (k, d) :: l, xs => ∃ x r, xs = (k, x) :: r ∧ Dat c G d x ∧ Datt c G l r
def Datf (c : Kc) (G : Hp) : List (Str × Dt) → List (Str × V) → Prop
  | [], xs => xs = []
  | (k, d) :: l, xs => ∃ x r, xs = (k, x) :: r ∧ Dat c G d x ∧ Datf c G l r
end
section
variable {c : Kc} {G G' : Hp}
mutual
theorem Dat.up (e : Ex G G') : ∀ {d : Dt} {v : V}, Dat c G d v → Dat c G' d v
  | .non, _, h => h
  | .bl _, _, h => h
  | .int _, _, h => h
  | .str _, _, h => h
  | .ty _, _, h => h
  | .cls _, _, h => h
  | .adr _, _, h => h
  | .lst _, _, ⟨a, xs, h1, h2, h3⟩ => ⟨a, xs, h1, e _ _ h2, Dats.up e h3⟩
  | .sq _, _, ⟨a, xs, h1, h2, h3⟩ => ⟨a, xs, h1, e.seq h2, Dats.up e h3⟩
  | .tup _, _, ⟨a, xs, h1, h2, h3⟩ => ⟨a, xs, h1, e _ _ h2, Dats.up e h3⟩
  | .dic _, _, ⟨a, o, xs, h1, h2, h3⟩ => ⟨a, o, xs, h1, e _ _ h2, Datk.up e h3⟩
  | .dit _, _, ⟨a, o, xs, h1, h2, h3⟩ => ⟨a, o, xs, h1, e _ _ h2, Datt.up e h3⟩
  | .set _, _, ⟨a, S, n, h1, h2, h3⟩ => ⟨a, S, n, h1, e _ _ h2, h3⟩
  | .ins _ _, _, ⟨a, dx, fs, h1, h2, h4, h3⟩ => ⟨a, dx, fs, h1, e _ _ h2, h4, Datf.up e h3⟩
  | .dice, _, ⟨a, h1, h2⟩ => ⟨a, h1, e _ _ h2⟩
theorem Dats.up (e : Ex G G') : ∀ {l : List Dt} {xs : List V}, Dats c G l xs → Dats c G' l xs
  | [], _, h => h
  | _ :: _, _, ⟨x, r, h1, h2, h3⟩ => ⟨x, r, h1, Dat.up e h2, Dats.up e h3⟩
theorem Datk.up (e : Ex G G') : ∀ {l : List (Key × Dt)} {xs : List (Key × V)}, Datk c G l xs → Datk c G' l xs
  | [], _, h => h
  | (_, _) :: _, _, ⟨x, r, h1, h2, h3⟩ => ⟨x, r, h1, Dat.up e h2, Datk.up e h3⟩
theorem Datt.up (e : Ex G G') : ∀ {l : List (List Key × Dt)} {xs : List (List Key × V)}, Datt c G l xs → Datt c G' l xs
  | [], _, h => h
  | (_, _) :: _, _, ⟨x, r, h1, h2, h3⟩ => ⟨x, r, h1, Dat.up e h2, Datt.up e h3⟩
theorem Datf.up (e : Ex G G') : ∀ {l : List (Str × Dt)} {xs : List (Str × V)}, Datf c G l xs → Datf c G' l xs
  | [], _, h => h
  | (_, _) :: _, _, ⟨x, r, h1, h2, h3⟩ => ⟨x, r, h1, Dat.up e h2, Datf.up e h3⟩
end
theorem Dats.len : ∀ {l : List Dt} {xs : List V}, Dats c G l xs → xs.length = l.length
  | [], _, h => by cases h; rfl
  | _ :: _, _, ⟨x, r, h1, _, h3⟩ => by subst h1; simp [Dats.len h3]
theorem Dats.get : ∀ {l : List Dt} {xs : List V} {i : Nat} {d : Dt}, Dats c G l xs → l[i]? = some d → ∃ x, xs[i]? = some x ∧ Dat c G d x
  | [], _, _, _, _, h => by simp at h
  | _ :: _, _, 0, _, ⟨x, r, h1, h2, _⟩, h => by
    simp at h; subst h; subst h1; exact ⟨x, rfl, h2⟩
  | _ :: _, _, i + 1, d, ⟨x, r, h1, _, h3⟩, h => by
    subst h1
    obtain ⟨y, q1, q2⟩ := Dats.get (i := i) (d := d) h3 (by simpa using h)
    exact ⟨y, by simpa using q1, q2⟩
theorem Dats.getV : ∀ {l : List Dt} {xs : List V} {i : Nat} {x : V}, Dats c G l xs → xs[i]? = some x → ∃ d, l[i]? = some d ∧ Dat c G d x
  | [], _, _, _, h, q => by cases h; simp at q
  | d :: _, _, 0, _, ⟨x, r, h1, h2, _⟩, h => by
    subst h1; simp at h; subst h; exact ⟨d, rfl, h2⟩
  | _ :: _, _, i + 1, y, ⟨x, r, h1, _, h3⟩, h => by
    subst h1
    obtain ⟨d, q1, q2⟩ := Dats.getV (i := i) (x := y) h3 (by simpa using h)
    exact ⟨d, by simpa using q1, q2⟩
theorem Dats.snoc : ∀ {l : List Dt} {xs : List V} {d : Dt} {x : V}, Dats c G l xs → Dat c G d x → Dats c G (l ++ [d]) (xs ++ [x])
  | [], _, _, x, h, q => by cases h; exact ⟨x, [], rfl, q, rfl⟩
  | _ :: _, _, _, _, ⟨y, r, h1, h2, h3⟩, q => by subst h1; exact ⟨y, r ++ [_], rfl, h2, Dats.snoc h3 q⟩
theorem Dats.app : ∀ {l m : List Dt} {xs ys : List V}, Dats c G l xs → Dats c G m ys → Dats c G (l ++ m) (xs ++ ys)
  | [], _, _, _, h, q => by cases h; exact q
  | _ :: _, _, _, _, ⟨y, r, h1, h2, h3⟩, q => by subst h1; exact ⟨y, r ++ _, rfl, h2, Dats.app h3 q⟩
theorem Dats.take : ∀ {l : List Dt} {xs : List V} (n : Nat), Dats c G l xs → Dats c G (l.take n) (xs.take n)
  | _, _, 0, _ => by simp [Dats]
  | [], _, _ + 1, h => by cases h; simp [Dats]
  | _ :: _, _, n + 1, ⟨y, r, h1, h2, h3⟩ => by subst h1; exact ⟨y, r.take n, rfl, h2, Dats.take n h3⟩
theorem Dats.drop : ∀ {l : List Dt} {xs : List V} (n : Nat), Dats c G l xs → Dats c G (l.drop n) (xs.drop n)
  | _, _, 0, h => h
  | [], _, _ + 1, h => by cases h; simp [Dats]
  | _ :: _, _, n + 1, ⟨y, r, h1, h2, h3⟩ => by subst h1; exact Dats.drop n h3
theorem Datf.len : ∀ {l : List (Str × Dt)} {xs : List (Str × V)}, Datf c G l xs → xs.length = l.length
  | [], _, h => by cases h; rfl
  | (_, _) :: _, _, ⟨x, r, h1, _, h3⟩ => by subst h1; simp [Datf.len h3]
theorem Datf.lookup {f : Str} {d : Dt} : ∀ {l : List (Str × Dt)} {xs : List (Str × V)}, Datf c G l xs → l.lookup f = some d → ∃ v, xs.lookup f = some v ∧ Dat c G d v
  | [], _, _, h => by cases h
  | (k, e) :: l, _, ⟨x, r, h1, h2, h3⟩, h => by
    subst h1
    rw [List.lookup_cons] at h ⊢
    cases q : (f == k) with
    | true => rw [q] at h; cases h; exact ⟨x, rfl, h2⟩
    | false => rw [q] at h; exact Datf.lookup h3 h
theorem Datf.lookup_none {f : Str} : ∀ {l : List (Str × Dt)} {xs : List (Str × V)}, Datf c G l xs → l.lookup f = none → xs.lookup f = none
  | [], _, h, _ => by cases h; rfl
  | (k, e) :: l, _, ⟨x, r, h1, h2, h3⟩, h => by
    subst h1
    rw [List.lookup_cons] at h ⊢
    cases q : (f == k) with
    | true => rw [q] at h; cases h
    | false => rw [q] at h; exact Datf.lookup_none h3 h
/-- a field is stored -/
def putD (f : Str) (d : Dt) : List (Str × Dt) → List (Str × Dt)
  | [] => [(f, d)]
  | (k, e) :: l => if k = f then (k, d) :: l else (k, e) :: putD f d l
theorem Datk.len : ∀ {l : List (Key × Dt)} {xs : List (Key × V)}, Datk c G l xs → xs.length = l.length
  | [], _, h => by cases h; rfl
  | (_, _) :: _, _, ⟨x, r, h1, _, h3⟩ => by subst h1; simp [Datk.len h3]
theorem Datt.len : ∀ {l : List (List Key × Dt)} {xs : List (List Key × V)}, Datt c G l xs → xs.length = l.length
  | [], _, h => by cases h; rfl
  | (_, _) :: _, _, ⟨x, r, h1, _, h3⟩ => by subst h1; simp [Datt.len h3]
end

/-! ### slots -/
inductive Sd where
  | no | dt (d : Dt) | own (d : Dt) | slf (C : Nat) (l : List (Str × Dt)) | exc (C : Nat) (l : List (Str × Dt))
abbrev SS := List Sd
/-- an object of a def's own: d, as the heap has it -/
def OwnD (c : Kc) (G : Hp) : Dt → HO → Prop
  | .lst l, o => ∃ xs, o = .lst xs ∧ Dats c G l xs
  | .dic l, o => ∃ xs, o = .dK xs ∧ Datk c G l xs
  | .dit l, o => ∃ xs, o = .dT xs ∧ Datt c G l xs
  | _, _ => False
theorem OwnD.up {c : Kc} {G G' : Hp} (e : Ex G G') : ∀ {d : Dt} {o : HO}, OwnD c G d o → OwnD c G' d o
  | .lst _, _, ⟨xs, h1, h2⟩ => ⟨xs, h1, h2.up e⟩
  | .dic _, _, ⟨xs, h1, h2⟩ => ⟨xs, h1, h2.up e⟩
  | .dit _, _, ⟨xs, h1, h2⟩ => ⟨xs, h1, h2.up e⟩
def isLst : Dt → Bool
  | .lst _ => true
  | _ => false
theorem OwnD.dat {c : Kc} {G : Hp} {a : Addr} (hn : G a = none) : ∀ {d : Dt} {o : HO}, isLst d = true → OwnD c G d o → Dat c (upd G a o) d (.ref a)
  | .lst _, _, _, ⟨xs, h1, h2⟩ => by subst h1; exact ⟨a, xs, rfl, upd_same, h2.up (Ex.new hn)⟩
theorem OwnD.datF {c : Kc} {G : Hp} {a : Addr} {ob : Obj} (hn : G a = none) : ∀ {d : Dt} {o : HO}, isLst d = false → OwnD c G d o → Dat c (upd G a (.frz ob o)) d (.ref a)
  | .dic _, _, _, ⟨xs, h1, h2⟩ => by subst h1; exact ⟨a, ob, xs, rfl, upd_same, h2.up (Ex.new hn)⟩
  | .dit _, _, _, ⟨xs, h1, h2⟩ => by subst h1; exact ⟨a, ob, xs, rfl, upd_same, h2.up (Ex.new hn)⟩
theorem OwnD.mut {c : Kc} {G : Hp} : ∀ {d : Dt} {o : HO}, OwnD c G d o → Mut (some o)
  | .lst _, _, ⟨xs, h1, h2⟩ => by subst h1; trivial
  | .dic _, _, ⟨xs, h1, h2⟩ => by subst h1; trivial
  | .dit _, _, ⟨xs, h1, h2⟩ => by subst h1; trivial
/-- the exception's own dict -/
def XD (c : Kc) (G : Hp) (od : Option Addr) (l : List (Str × Dt)) : Prop := (od = none ∧ l = []) ∨ ∃ dx fs, od = some dx ∧ l ≠ [] ∧ G dx = some (.xd fs) ∧ Datf c G l fs
theorem XD.up {c : Kc} {G G' : Hp} {od : Option Addr} {l : List (Str × Dt)} (e : Ex G G') (h : XD c G od l) : XD c G' od l := by
  rcases h with h | ⟨dx, fs, h1, h0, h2, h3⟩
  · exact .inl h
  · exact .inr ⟨dx, fs, h1, h0, e _ _ h2, h3.up e⟩
/-- of a body: where its own self stands, and the exception that is handled -/
structure Mx where
  me : Addr := 0
  xa : Addr := 0
  xd : Option Addr := none
  xc : Nat := 0
structure Sv (c : Kc) (x : Mx) (G H : Hp) (σ : L2.St) (ss : SS) : Prop where
  len : σ.length = ss.length
  dat : ∀ (i : Nat) (d : Dt), ss[i]? = some (.dt d) → ∃ v, σ[i]? = some (some v) ∧ Dat c G d v
  own : ∀ (i : Nat) (d : Dt), ss[i]? = some (.own d) → ∃ a o, σ[i]? = some (some (.ref a)) ∧ G a = none ∧ H a = some o ∧ OwnD c G d o
  slf : ∀ (i : Nat) (C : Nat) (l : List (Str × Dt)), ss[i]? = some (.slf C l) → σ[i]? = some (some (.ref x.me)) ∧ G x.me = none ∧ ∃ dx fs, H x.me = some (.ins (c.ca C) dx fs) ∧ C ∈ c.cl ∧ Datf c G l fs
  exc : ∀ (i : Nat) (C : Nat) (l : List (Str × Dt)), ss[i]? = some (.exc C l) → (C = x.xc ∧ σ[i]? = some (some (.ref x.xa))) ∧ XD c G x.xd l
structure Sl (c : Kc) (x : Mx) (H0 G H : Hp) (σ : L2.St) (ss : SS) : Prop where
  sv : Sv c x G H σ ss
  new : ∀ (i : Nat) (d : Dt) (a : Addr), ss[i]? = some (.own d) → σ[i]? = some (some (.ref a)) → H0 a = none
  sep : ∀ (i j : Nat) (d e : Dt) (a : Addr), ss[i]? = some (.own d) → ss[j]? = some (.own e) → σ[i]? = some (some (.ref a)) → σ[j]? = some (some (.ref a)) → i = j
  me0 : ∀ (i : Nat) (C : Nat) (l : List (Str × Dt)), ss[i]? = some (.slf C l) → H0 x.me = none
  mes : ∀ (i j : Nat) (C : Nat) (l : List (Str × Dt)) (d : Dt), ss[i]? = some (.slf C l) → ss[j]? = some (.own d) → σ[j]? ≠ some (some (.ref x.me))
  me1 : ∀ (i j : Nat) (C D : Nat) (l m : List (Str × Dt)), ss[i]? = some (.slf C l) → ss[j]? = some (.slf D m) → i = j
section
variable {c : Kc} {x : Mx} {G G' H H' H0 : Hp} {σ : L2.St} {ss : SS}
theorem ne_some {o : HO} {a : Addr} (h : H a = some o) : H a ≠ none := by rw [h]; exact fun z => nomatch z
theorem OwnD.flat {d : Dt} {o : HO} {a : Addr} (h : OwnD c G d o) : Flat a o := by
  cases d with
  | lst l => obtain ⟨xs, rfl, _⟩ := h; exact flat_lst
  | dic l => obtain ⟨xs, rfl, _⟩ := h; exact flat_dK
  | dit l => obtain ⟨xs, rfl, _⟩ := h; exact flat_dT
  | _ => exact h.elim
theorem OwnD.ntup {d : Dt} {o : HO} (h : OwnD c G d o) : ∀ xs, o ≠ .tup xs := by
  cases d with
  | lst l => obtain ⟨xs, rfl, _⟩ := h; exact fun _ z => by cases z
  | dic l => obtain ⟨xs, rfl, _⟩ := h; exact fun _ z => by cases z
  | dit l => obtain ⟨xs, rfl, _⟩ := h; exact fun _ z => by cases z
  | _ => exact h.elim
theorem Sv.go (h : Sv c x G H σ ss) (g : Go c G H G' H') : Sv c x G' H' σ ss :=
  ⟨h.len, fun i d q => let ⟨v, h1, h2⟩ := h.dat i d q; ⟨v, h1, h2.up g.kn⟩,
   fun i d q => let ⟨a, o, h1, h2, h3, h4⟩ := h.own i d q; ⟨a, o, h1, g.nw a o h2 h3 h4.ntup, g.up.st a _ h3 (OwnD.flat (a := a) h4).1, h4.up g.kn⟩,
   fun i C l q => let ⟨h1, h2, dx, fs, h3, h5, h4⟩ := h.slf i C l q; ⟨h1, g.nw _ _ h2 h3 (fun _ z => by cases z), dx, fs, g.up.st _ _ h3 (fun _ z => by cases z), h5, h4.up g.kn⟩,
   fun i C l q => let ⟨h1, h2⟩ := h.exc i C l q; ⟨h1, h2.up g.kn⟩⟩
theorem Sl.go (h : Sl c x H0 G H σ ss) (g : Go c G H G' H') : Sl c x H0 G' H' σ ss := ⟨h.sv.go g, h.new, h.sep, h.me0, h.mes, h.me1⟩
theorem get_set' {j i : Nat} {y z : Sd} (h : (ss.set j y)[i]? = some z) : (j = i ∧ y = z ∧ j < ss.length) ∨ (ss[i]? = some z ∧ j ≠ i) := by
  by_cases e : j = i
  · subst e
    by_cases b : j < ss.length
    · rw [List.getElem?_set_self b] at h; exact .inl ⟨rfl, Option.some.inj h, b⟩
    · rw [List.getElem?_eq_none (by simpa using b)] at h; cases h
  · rw [List.getElem?_set_ne e] at h
    exact .inr ⟨h, e⟩
theorem Sv.set (h : Sv c x G H σ ss) {j : Nat} {d : Dt} {v : V} (q : Dat c G d v) : Sv c x G H (σ.set j (some v)) (ss.set j (.dt d)) := by
  refine ⟨by simp [h.len], fun i e z => ?_, fun i e z => ?_, fun i C l z => ?_, fun i C l z => ?_⟩
  · rcases get_set' z with ⟨rfl, e1, b⟩ | ⟨z', e1⟩
    · cases e1; exact ⟨v, by rw [List.getElem?_set_self (by rw [h.len]; exact b)], q⟩
    · rw [List.getElem?_set_ne e1]; exact h.dat i e z'
  · rcases get_set' z with ⟨rfl, e1, b⟩ | ⟨z', e1⟩
    · cases e1
    · rw [List.getElem?_set_ne e1]; exact h.own i e z'
  · rcases get_set' z with ⟨rfl, e1, b⟩ | ⟨z', e1⟩
    · cases e1
    · rw [List.getElem?_set_ne e1]; exact h.slf i C l z'
  · rcases get_set' z with ⟨rfl, e1, b⟩ | ⟨z', e1⟩
    · cases e1
    · rw [List.getElem?_set_ne e1]; exact h.exc i C l z'
theorem Sv.forget (h : Sv c x G H σ ss) {j : Nat} {o : Option V} : Sv c x G H (σ.set j o) (ss.set j .no) := by
  refine ⟨by simp [h.len], fun i e z => ?_, fun i e z => ?_, fun i C l z => ?_, fun i C l z => ?_⟩
  · rcases get_set' z with ⟨rfl, e1, b⟩ | ⟨z', e1⟩
    · cases e1
    · rw [List.getElem?_set_ne e1]; exact h.dat i e z'
  · rcases get_set' z with ⟨rfl, e1, b⟩ | ⟨z', e1⟩
    · cases e1
    · rw [List.getElem?_set_ne e1]; exact h.own i e z'
  · rcases get_set' z with ⟨rfl, e1, b⟩ | ⟨z', e1⟩
    · cases e1
    · rw [List.getElem?_set_ne e1]; exact h.slf i C l z'
  · rcases get_set' z with ⟨rfl, e1, b⟩ | ⟨z', e1⟩
    · cases e1
    · rw [List.getElem?_set_ne e1]; exact h.exc i C l z'
/-- what holds of the slots that hold own things, when slot j takes something else -/
theorem Sl.other (h : Sl c x H0 G H σ ss) {j : Nat} {y : Sd} {o : Option V} (sv : Sv c x G' H' (σ.set j o) (ss.set j y)) (h1 : ∀ d, y ≠ .own d) (h2 : ∀ C l, y ≠ .slf C l) : Sl c x H0 G' H' (σ.set j o) (ss.set j y) := by
  have gt : ∀ {i : Nat} {d : Dt}, (ss.set j y)[i]? = some (.own d) → ss[i]? = some (.own d) ∧ j ≠ i := fun {i d} z => by
    rcases get_set' z with ⟨_, e1, _⟩ | z'
    · exact absurd e1 (h1 d)
    · exact z'
  have gs : ∀ {i : Nat} {C : Nat} {l : List (Str × Dt)}, (ss.set j y)[i]? = some (.slf C l) → ss[i]? = some (.slf C l) ∧ j ≠ i := fun {i C l} z => by
    rcases get_set' z with ⟨_, e1, _⟩ | z'
    · exact absurd e1 (h2 C l)
    · exact z'
  refine ⟨sv, fun i d a z q => ?_, fun i k d e a z1 z2 q1 q2 => ?_, fun i C l z => h.me0 i C l (gs z).1, fun i k C l d z1 z2 q => ?_, fun i k C D l m z1 z2 => h.me1 i k C D l m (gs z1).1 (gs z2).1⟩
  · obtain ⟨z, e⟩ := gt z
    rw [List.getElem?_set_ne e] at q
    exact h.new i d a z q
  · obtain ⟨z1, e1⟩ := gt z1
    obtain ⟨z2, e2⟩ := gt z2
    rw [List.getElem?_set_ne e1] at q1
    rw [List.getElem?_set_ne e2] at q2
    exact h.sep i k d e a z1 z2 q1 q2
  · obtain ⟨z2, e2⟩ := gt z2
    rw [List.getElem?_set_ne e2] at q
    exact h.mes i k C l d (gs z1).1 z2 q
theorem Sl.set (h : Sl c x H0 G H σ ss) {j : Nat} {d : Dt} {v : V} (q : Dat c G d v) : Sl c x H0 G H (σ.set j (some v)) (ss.set j (.dt d)) :=
  h.other (h.sv.set q) (fun _ => Sd.noConfusion) fun _ _ => Sd.noConfusion
theorem Sl.forget (h : Sl c x H0 G H σ ss) {j : Nat} {o : Option V} : Sl c x H0 G H (σ.set j o) (ss.set j .no) :=
  h.other h.sv.forget (fun _ => Sd.noConfusion) fun _ _ => Sd.noConfusion
end
end Mw

set_option Elab.async false
set_option linter.all false
set_option maxRecDepth 100000
set_option maxHeartbeats 4000000
namespace Mw
open PySem PySem.Spec PyProof.Rows L2
/-! ### mirrors -/
abbrev Xn := Nat → List (Str × Dt) → Prop
abbrev xF : Xn := fun _ _ => False
abbrev EM := SS → (Dt → Prop) → Xn → Prop
abbrev TM := SS → (Bool → Prop) → Xn → Prop
abbrev AM := SS → (List Dt → Prop) → Xn → Prop
abbrev OM := SS → (Option Int → Prop) → Xn → Prop
abbrev GM := Dt → SS → (SS → Prop) → Prop
abbrev GsM := List Dt → SS → (SS → Prop) → Prop
inductive Oc where
  | nx (s : SS) | bk (s : SS) | ct (s : SS) | rt (d : Dt) | ex (s : SS) (C : Nat) (l : List (Str × Dt))
abbrev SM := SS → (Oc → Prop) → Prop
abbrev D1 := Dt → (Dt → Prop) → Prop
abbrev D2 := Dt → Dt → (Dt → Prop) → Prop
abbrev DN := List Dt → (Dt → Prop) → Prop
abbrev PreX := List Dt → (Dt → Prop) → Xn → Prop

@[irreducible] def ifP (b : Bool) (A B : Prop) : Prop := if b = true then A else B
theorem ifP_t {A B : Prop} (h : ifP true A B) : A := by unfold ifP at h; rw [if_pos rfl] at h; exact h
theorem ifP_f {A B : Prop} (h : ifP false A B) : B := by unfold ifP at h; rw [if_neg Bool.false_ne_true] at h; exact h
theorem ifb {b : Bool} {A B : Prop} (h1 : b = true → A) (h2 : b = false → B) : ifP b A B := by
  unfold ifP
  cases b with
  | true => exact h1 rfl
  | false => exact h2 rfl
theorem ifT {b : Bool} {A B : Prop} (h : b = true) (hA : A) : ifP b A B := ifb (fun _ => hA) fun z => by rw [h] at z; cases z
theorem ifF {b : Bool} {A B : Prop} (h : b = false) (hB : B) : ifP b A B := ifb (fun z => by rw [h] at z; cases z) fun _ => hB
def rdS : Option Sd → (Dt → Prop) → Prop
  | some (.dt d), R => R d
  | _, _ => False
def boolD : Dt → (Bool → Prop) → Prop
  | .bl b, R => R b
  | _, _ => False
def intD : Dt → (Int → Prop) → Prop
  | .int b, R => R b
  | _, _ => False
def vW (i : Nat) : EM := fun ss R _ => rdS ss[i]? R
def cW (d : Dt) : EM := fun _ R _ => R d
def opW (o : D2) (a b : EM) : EM := fun ss R X => a ss (fun x => b ss (fun y => o x y R) X) X
def unW (o : D1) (a : EM) : EM := fun ss R X => a ss (fun x => o x R) X
def nilW : AM := fun _ R _ => R []
def consW (a : EM) (as : AM) : AM := fun ss R X => a ss (fun x => as ss (fun l => R (x :: l)) X) X
def itemsD : Dt → (List Dt → Prop) → Prop
  | .lst l, R => R l
  | .tup l, R => R l
  | _, _ => False
def starW (a : EM) (as : AM) : AM := fun ss R X => a ss (fun x => itemsD x fun l => as ss (fun m => R (l ++ m)) X) X
def cbW (o : DN) (as : AM) : EM := fun ss R X => as ss (fun l => o l R) X
def lstW (as : AM) : EM := fun ss R X => as ss (fun l => l.length ≤ 1000000 ∧ R (.lst l)) X
def tupW (as : AM) : EM := fun ss R X => as ss (fun l => l.length ≤ 1000000 ∧ R (.tup l)) X
def testW (a : EM) : TM := fun ss R X => a ss (fun d => boolD d R) X
def andW (a b : TM) : TM := fun ss R X => a ss (fun k => ifP k (b ss R X) (R false)) X
def orW (a b : TM) : TM := fun ss R X => a ss (fun k => ifP k (R true) (b ss R X)) X
def notW (a : TM) : TM := fun ss R X => a ss (fun k => R (!k)) X
def yesW : TM := fun _ R _ => R true
def avW (a b : EM) : EM := fun ss R X => a ss (fun d => boolD d fun k => ifP k (b ss R X) (R (.bl false))) X
def ovW (a b : EM) : EM := fun ss R X => a ss (fun d => boolD d fun k => ifP k (R (.bl true)) (b ss R X)) X
def nvW (a : EM) : EM := fun ss R X => a ss (fun d => boolD d fun k => R (.bl (!k))) X
def ifW (t : TM) (a b : EM) : EM := fun ss R X => t ss (fun k => ifP k (a ss R X) (b ss R X)) X
def chainW (o o' : D2) (a b d : EM) : EM := fun ss R X => a ss (fun x => b ss (fun y => o x y fun z => boolD z fun k => ifP k (d ss (fun u => o' y u R) X) (R (.bl false))) X) X
def noW : OM := fun _ R _ => R none
def soW (a : EM) : OM := fun ss R X => a ss (fun d => intD d fun i => R (some i)) X
abbrev DSl := Dt → Option Int → Option Int → (Dt → Prop) → Prop
def slW (o : DSl) (a : EM) (lo hi : OM) : EM := fun ss R X => a ss (fun d => lo ss (fun i => hi ss (fun j => o d i j R) X) X) X
abbrev DM := Dt → List Dt → (Dt → Prop) → Prop
def tyD : Dt → String
  | .str _ => "str"
  | .int _ => "int"
  | .lst _ => "list"
  | .sq _ => "list"
  | _ => ""
def bmW (T : String) (o : DM) (a : EM) (as : AM) : EM := fun ss R X => a ss (fun d => tyD d = T ∧ as ss (fun l => o d l R) X) X
def callW (P : PreX) (as : AM) : EM := fun ss R X => as ss (fun l => P l R X) X
def noxW (a : EM) : EM := fun ss R _ => a ss R xF
def noxT (a : TM) : TM := fun ss R _ => a ss R xF
/-! what is walked -/
def rangeD (lo : Int) (n : Nat) : List Dt := (List.range n).map fun i : Nat => .int (lo + (i : Int))
def signsD (z : Str) : List Dt := z.cps.toList.map fun c => .str ⟨#[c]⟩
def iLstD : Dt → (List Dt → Prop) → Prop
  | .lst l, R => R l
  | .sq l, R => R l
  | _, _ => False
def iTupD : Dt → (List Dt → Prop) → Prop
  | .tup l, R => R l
  | _, _ => False
def iStrD : Dt → (List Dt → Prop) → Prop
  | .str z, R => R (signsD z)
  | _, _ => False
def rng1D : List Dt → (List Dt → Prop) → Prop
  | [.int j], R => (-(2 ^ 62) ≤ j ∧ j < 2 ^ 62) ∧ R (rangeD 0 j.toNat)
  | _, _ => False
def rng2D : List Dt → (List Dt → Prop) → Prop
  | [.int i, .int j], R => (-(2 ^ 62) ≤ i ∧ i < 2 ^ 62 ∧ -(2 ^ 62) ≤ j ∧ j < 2 ^ 62) ∧ R (rangeD i (j - i).toNat)
  | _, _ => False
def itW (o : Dt → (List Dt → Prop) → Prop) (a : EM) : AM := fun ss R X => a ss (fun d => o d R) X
def itAW (o : List Dt → (List Dt → Prop) → Prop) (a : AM) : AM := fun ss R X => a ss (fun d => o d R) X
/-! targets -/
def gN (i : Nat) : GM := fun d ss R => R (ss.set i (.dt d))
def gNilW : GsM := fun l ss R => l = [] ∧ R ss
def gConsW (g : GM) (gs : GsM) : GsM := fun l ss R => match l with
  | [] => False
  | d :: r => g d ss fun s1 => gs r s1 R
def gT (gs : GsM) : GM := fun d ss R => iTupD d fun l => gs l ss R
def gL (gs : GsM) : GM := fun d ss R => match d with
  | .lst l => gs l ss R
  | _ => False
/-! comprehensions -/
def wipeS (ss : SS) : List Nat → SS
  | [] => ss
  | j :: r => (wipeS ss r).set j .no
def lcL (ss : SS) (g : GM) (t : TM) (e : EM) : List Dt → List Dt → (List Dt → Prop) → Prop
  | [], acc, R => R acc
  | d :: l, acc, R => g d ss fun s1 => t s1 (fun k => ifP k (e s1 (fun y => lcL ss g t e l (acc ++ [y]) R) xF) (lcL ss g t e l acc R)) xF
def lcW (it : AM) (vs : List Nat) (g : GM) (t : TM) (e : EM) : EM := fun ss R X => it ss (fun l => l.length < 1000000 ∧ lcL (wipeS ss vs) g t e l [] fun acc => R (.lst acc)) X
def lc2L (ss : SS) (g : GM) (t : TM) (inner : SS → List Dt → (List Dt → Prop) → Prop) : List Dt → List Dt → (List Dt → Prop) → Prop
  | [], acc, R => R acc
  | d :: l, acc, R => g d ss fun s1 => t s1 (fun k => ifP k (inner s1 acc (fun acc' => lc2L ss g t inner l acc' R)) (lc2L ss g t inner l acc R)) xF
/-! statements -/
def passW : SM := fun ss k => k (.nx ss)
def seqW (a b : SM) : SM := fun ss k => a ss fun o => match o with
  | .nx s => b s k
  | .bk s => k (.bk s)
  | .ct s => k (.ct s)
  | .rt d => k (.rt d)
  | .ex s C l => k (.ex s C l)
def retW (a : EM) : SM := fun ss k => a ss (fun d => k (.rt d)) fun C l => k (.ex ss C l)
def ret0W : SM := fun _ k => k (.rt .non)
def exprW (a : EM) : SM := fun ss k => a ss (fun _ => k (.nx ss)) fun C l => k (.ex ss C l)
def ifSW (t : TM) (a b : SM) : SM := fun ss k => t ss (fun v => ifP v (a ss k) (b ss k)) fun C l => k (.ex ss C l)
def asgW (a : EM) (g : GM) : SM := fun ss k => a ss (fun d => g d ss fun s => k (.nx s)) fun C l => k (.ex ss C l)
def brkW : SM := fun ss k => k (.bk ss)
def cntW : SM := fun ss k => k (.ct ss)
def neverW : SM := fun _ _ => False
def forL (g : GM) (b : SM) : List Dt → SS → (Oc → Prop) → Prop
  | [], ss, k => k (.nx ss)
  | d :: l, ss, k => g d ss fun s1 => b s1 fun o => match o with
    | .nx s => forL g b l s k
    | .ct s => forL g b l s k
    | .bk s => k (.nx s)
    | .rt d => k (.rt d)
    | .ex s C l => k (.ex s C l)
def forW (it : AM) (g : GM) (b : SM) : SM := fun ss k => it ss (fun l => forL g b l ss k) fun C l => k (.ex ss C l)
def whL (t : TM) (b : SM) : Nat → SS → (Oc → Prop) → Prop
  | 0, _, _ => False
  | n + 1, ss, k => t ss (fun v => ifP v (b ss fun o => match o with
    | .nx s => whL t b n s k
    | .ct s => whL t b n s k
    | .bk s => k (.nx s)
    | .rt d => k (.rt d)
    | .ex s C l => k (.ex s C l)) (k (.nx ss))) fun C l => k (.ex ss C l)
def whW (t : TM) (b : SM) : SM := fun ss k => ∃ n, whL t b n ss k
/-! defs -/
def startS (n : Nat) (ds : List Dt) : SS := ds.map .dt ++ List.replicate (n - ds.length) .no
def endO (R : Dt → Prop) (X : Xn) : Oc → Prop
  | .nx _ => R .non
  | .rt d => R d
  | .ex _ C l => X C l
  | _ => False
def defW (n m : Nat) (b : SM) : PreX := fun ds R X => ds.length = n ∧ b (startS m ds) (endO R X)

/-! ### that a reading keeps a mirror -/
abbrev wF : WX := fun _ _ _ _ => False
abbrev KX (c : Kc) (w : Option WX) (X : Xn) (σ : L2.St) (G H : Hp) : Prop := ∀ C l od G' H', Go c G H G' H' → XD c G' od l → X C l → (w.getD wF) (.ref (c.ca C)) od σ H'
def WalkD (c : Kc) (J : It) (l : List Dt) (G0 : Hp) : Prop := Walk J l.length (fun H => Ex G0 H) (fun i H x H' => ∀ G : Hp, Ex G0 G → In c G H → ∃ d G2, l[i]? = some d ∧ Go c G H G2 H' ∧ Dat c G2 d x)
section
variable (c : Kc) (x : Mx) (w : Option WX)
def RE (te : TE) (m : EM) : Prop := ∀ ss R X G σ H, m ss R X → In c G H → Sv c x G H σ ss → ∀ Q : VK, (∀ v d G' H', Go c G H G' H' → Dat c G' d v → R d → Q v H') → KX c w X σ G H → te σ H Q
def RT (tt : TT) (m : TM) : Prop := ∀ ss R X G σ H, m ss R X → In c G H → Sv c x G H σ ss → ∀ Q : Bool → Hp → Prop, (∀ b G' H', Go c G H G' H' → R b → Q b H') → KX c w X σ G H → tt σ H Q
def RA (ta : TA) (m : AM) : Prop := ∀ ss R X G σ H, m ss R X → In c G H → Sv c x G H σ ss → ∀ Q : List V → Hp → Prop, (∀ vs ds G' H', Go c G H G' H' → Dats c G' ds vs → R ds → Q vs H') → KX c w X σ G H → ta σ H Q
def RP (to : TO) (m : OM) : Prop := ∀ ss R X G σ H, m ss R X → In c G H → Sv c x G H σ ss → ∀ Q : Option Int → Hp → Prop, (∀ o G' H', Go c G H G' H' → R o → Q o H') → KX c w X σ G H → to σ H Q
def RI (wi : TI) (m : AM) : Prop := ∀ ss R X G σ H, m ss R X → In c G H → Sv c x G H σ ss → ∀ Q : It → Hp → Prop, (∀ J l G' H', Go c G H G' H' → WalkD c J l G' → R l → Q J H') → KX c w X σ G H → wi σ H Q
end
/-- operators, calls, methods by data -/
def RO2 (c : Kc) (r : R2) (o : D2) : Prop := ∀ d e R, o d e R → ∀ (G H : Hp) (v u : V), In c G H → Dat c G d v → Dat c G e u → ∀ Q : VK, (∀ z y G' H', Go c G H G' H' → Dat c G' y z → R y → Q z H') → r v u H Q
def RO1 (c : Kc) (r : V → Hp → VK → Prop) (o : D1) : Prop := ∀ d R, o d R → ∀ (G H : Hp) (v : V), In c G H → Dat c G d v → ∀ Q : VK, (∀ z y G' H', Go c G H G' H' → Dat c G' y z → R y → Q z H') → r v H Q
def RON (c : Kc) (r : List V → Hp → VK → Prop) (o : DN) : Prop := ∀ ds R, o ds R → ∀ (G H : Hp) (vs : List V), In c G H → Dats c G ds vs → ∀ Q : VK, (∀ z y G' H', Go c G H G' H' → Dat c G' y z → R y → Q z H') → r vs H Q
def ROS (c : Kc) (r : V → Option Int → Option Int → Hp → VK → Prop) (o : DSl) : Prop := ∀ d lo hi R, o d lo hi R → ∀ (G H : Hp) (v : V), In c G H → Dat c G d v → ∀ Q : VK, (∀ z y G' H', Go c G H G' H' → Dat c G' y z → R y → Q z H') → r v lo hi H Q
def ROM (c : Kc) (T : String) (r : V → List V → Hp → VK → Prop) (o : DM) : Prop := ∀ d ds R, o d ds R → ∀ (G H : Hp) (v : V) (vs : List V), In c G H → Dat c G d v → Dats c G ds vs → ∀ Q : VK, (∀ z y G' H', Go c G H G' H' → Dat c G' y z → R y → Q z H') → r v vs H Q
/-- a store that can be carried to a later heap -/
def SvT (c : Kc) (x : Mx) (G H : Hp) (σ : L2.St) (ss : SS) (σ' : L2.St) (ss' : SS) : Prop := Sv c x G H σ' ss' ∧ ∀ G2 H2, Ex G G2 → Sv c x G2 H2 σ ss → Sv c x G2 H2 σ' ss'
def RG (c : Kc) (x : Mx) (vs : List Nat) (g : TG) (m : GM) : Prop := ∀ d ss R, m d ss R → ∀ (G H : Hp) (σ : L2.St) (v : V), In c G H → Sv c x G H σ ss → Dat c G d v → ∀ Q : L2.St → Hp → Prop, (∀ σ' ss', SvT c x G H σ ss σ' ss' → wipe σ' vs = wipe σ vs → R ss' → Q σ' H) → g v σ H Q
def RGs (c : Kc) (x : Mx) (vs : List Nat) (g : TGs) (m : GsM) : Prop := ∀ ds ss R, m ds ss R → ∀ (G H : Hp) (σ : L2.St) (us : List V), In c G H → Sv c x G H σ ss → Dats c G ds us → ∀ Q : L2.St → Hp → Prop, (∀ σ' ss', SvT c x G H σ ss σ' ss' → wipe σ' vs = wipe σ vs → R ss' → Q σ' H) → g us σ H Q
def RL (c : Kc) (x : Mx) (g : TG) (m : GM) : Prop := ∀ d ss R, m d ss R → ∀ (H0 G H : Hp) (σ : L2.St) (v : V), In c G H → Sl c x H0 G H σ ss → Dat c G d v → ∀ Q : L2.St → Hp → Prop, (∀ σ' ss', Sl c x H0 G H σ' ss' → R ss' → Q σ' H) → g v σ H Q
def RLs (c : Kc) (x : Mx) (g : TGs) (m : GsM) : Prop := ∀ ds ss R, m ds ss R → ∀ (H0 G H : Hp) (σ : L2.St) (us : List V), In c G H → Sl c x H0 G H σ ss → Dats c G ds us → ∀ Q : L2.St → Hp → Prop, (∀ σ' ss', Sl c x H0 G H σ' ss' → R ss' → Q σ' H) → g us σ H Q
structure Kon (c : Kc) (x : Mx) (w : Option WX) (k : Oc → Prop) (G0 H0 : Hp) (D : Ends) : Prop where
  nx : ∀ σ ss G H, Go c G0 H0 G H → Sl c x H0 G H σ ss → k (.nx ss) → D.nx σ H
  bk : ∀ σ ss G H, Go c G0 H0 G H → Sl c x H0 G H σ ss → k (.bk ss) → D.bk σ H
  ct : ∀ σ ss G H, Go c G0 H0 G H → Sl c x H0 G H σ ss → k (.ct ss) → D.ct σ H
  rt : ∀ v d G H, Go c G0 H0 G H → Dat c G d v → k (.rt d) → D.rt v H
  ex : ∀ σ ss C l od G H, Go c G0 H0 G H → Sl c x H0 G H σ ss → XD c G od l → k (.ex ss C l) → (w.getD wF) (.ref (c.ca C)) od σ H
def RS (c : Kc) (x : Mx) (w : Option WX) (ts : TS) (m : SM) : Prop := ∀ ss k G0 H0 D σ G H, m ss k → Kon c x w k G0 H0 D → Go c G0 H0 G H → Sl c x H0 G H σ ss → ts D σ H

section
variable {c : Kc} {x : Mx} {w : Option WX} {X : Xn} {σ : L2.St} {G H G1 H1 : Hp}
theorem kx_go (z : KX c w X σ G H) (g : Go c G H G1 H1) : KX c w X σ G1 H1 := fun C l od G' H' g' hd hc => z C l od G' H' (g.trans g') hd hc
theorem sz_of {n : Nat} (h : n ≤ 1000000) : n ≤ sizeLine := Nat.le_trans h (by decide)
theorem sz_lt {n : Nat} (h : n < 1000000) : n < sizeLine := Nat.lt_of_lt_of_le h (by decide)
theorem dat_newL {p : Addr} {l : List Dt} {xs : List V} (d : Dats c G l xs) (h : G p = none) : Dat c (upd G p (.lst xs)) (.lst l) (.ref p) := ⟨p, xs, rfl, upd_same, d.up (Ex.new h)⟩
theorem dat_newT {p : Addr} {l : List Dt} {xs : List V} (d : Dats c G l xs) (h : G p = none) : Dat c (upd G p (.tup xs)) (.tup l) (.ref p) := ⟨p, xs, rfl, upd_same, d.up (Ex.new h)⟩
variable {ta tb tc te : TE} {a b d : EM} {tt tu : TT} {t u : TM} {tas : TA} {as : AM}
theorem re_var {i : Nat} : RE c x w (tVar i) (vW i) := fun ss R X G σ H m e s Q q z => by
  unfold vW at m
  cases h : ss[i]? with
  | none => rw [h] at m; exact m.elim
  | some y =>
    rw [h] at m
    cases y with
    | dt d =>
      obtain ⟨v, h1, h2⟩ := s.dat i d h
      exact ⟨v, h1, q v d G H (Go.refl e) h2 m⟩
    | _ => exact m.elim
theorem re_c {v : V} {d : Dt} (hd : ∀ G, Dat c G d v) : RE c x w (tC v) (cW d) := fun ss R X G σ H m e s Q q z => q v d G H (Go.refl e) (hd G) m
theorem re_op {r : R2} {o : D2} (hr : RO2 c r o) (ha : RE c x w ta a) (hb : RE c x w tb b) : RE c x w (tOp r ta tb) (opW o a b) := fun ss R X G σ H m e s Q q z =>
  ha ss _ X G σ H m e s _ (fun v d G1 H1 g1 d1 m1 => hb ss _ X G1 σ H1 m1 g1.ink (s.go g1) _ (fun u y G2 H2 g2 d2 m2 =>
    hr d y R m2 G2 H2 v u g2.ink (d1.up g2.kn) d2 Q fun z y G3 H3 g3 d3 hr => q z y G3 H3 (g1.trans (g2.trans g3)) d3 hr) (kx_go z g1)) z
theorem re_un {r : V → Hp → VK → Prop} {o : D1} (hr : RO1 c r o) (ha : RE c x w ta a) : RE c x w (tUn r ta) (unW o a) := fun ss R X G σ H m e s Q q z =>
  ha ss _ X G σ H m e s _ (fun v d G1 H1 g1 d1 m1 => hr d R m1 G1 H1 v g1.ink d1 Q fun z y G3 H3 g3 d3 hr => q z y G3 H3 (g1.trans g3) d3 hr) z
theorem ra_nil : RA c x w tNil nilW := fun ss R X G σ H m e s Q q z => q [] [] G H (Go.refl e) rfl m
theorem ra_cons (ha : RE c x w ta a) (hs : RA c x w tas as) : RA c x w (tCons ta tas) (consW a as) := fun ss R X G σ H m e s Q q z =>
  ha ss _ X G σ H m e s _ (fun v d G1 H1 g1 d1 m1 => hs ss _ X G1 σ H1 m1 g1.ink (s.go g1) _ (fun vs l G2 H2 g2 d2 m2 => q (v :: vs) (d :: l) G2 H2 (g1.trans g2) ⟨v, vs, rfl, d1.up g2.kn, d2⟩ m2) (kx_go z g1)) z
theorem re_cb {r : List V → Hp → VK → Prop} {o : DN} (hr : RON c r o) (hs : RA c x w tas as) : RE c x w (tCB r tas) (cbW o as) := fun ss R X G σ H m e s Q q z =>
  hs ss _ X G σ H m e s _ (fun vs l G1 H1 g1 d1 m1 => hr l R m1 G1 H1 vs g1.ink d1 Q fun z y G3 H3 g3 d3 hr => q z y G3 H3 (g1.trans g3) d3 hr) z
theorem re_lst (hs : RA c x w tas as) : RE c x w (tLst tas) (lstW as) := fun ss R X G σ H m e s Q q z =>
  hs ss _ X G σ H m e s _ (fun vs l G1 H1 g1 d1 m1 => ⟨by rw [d1.len]; exact sz_of m1.1, fun p hp => q (.ref p) (.lst l) _ _ (g1.trans (Go.new g1.ink hp)) (dat_newL d1 (g1.ink.free hp)) m1.2⟩) z
theorem re_tup (hs : RA c x w tas as) : RE c x w (tTup tas) (tupW as) := fun ss R X G σ H m e s Q q z =>
  hs ss _ X G σ H m e s _ (fun vs l G1 H1 g1 d1 m1 => ⟨by rw [d1.len]; exact sz_of m1.1, fun p hp => q (.ref p) (.tup l) _ _ (g1.trans (Go.new g1.ink hp)) (dat_newT d1 (g1.ink.free hp)) m1.2⟩) z
theorem of_boolD {d : Dt} {R : Bool → Prop} (h : boolD d R) : ∃ k, d = .bl k ∧ R k := by
  cases d with
  | bl k => exact ⟨k, rfl, h⟩
  | _ => exact h.elim
theorem of_intD {d : Dt} {R : Int → Prop} (h : intD d R) : ∃ k, d = .int k ∧ R k := by
  cases d with
  | int k => exact ⟨k, rfl, h⟩
  | _ => exact h.elim
theorem rt_test (ha : RE c x w ta a) : RT c x w (tTest ta) (testW a) := fun ss R X G σ H m e s Q q z =>
  ha ss _ X G σ H m e s _ (fun v d G1 H1 g1 d1 m1 => by
    obtain ⟨k, rfl, h⟩ := of_boolD m1
    exact ⟨k, d1, q k G1 H1 g1 h⟩) z
theorem rt_B (ha : RE c x w ta a) : RT c x w (tB ta) (testW a) := fun ss R X G σ H m e s Q q z =>
  ha ss _ X G σ H m e s _ (fun v d G1 H1 g1 d1 m1 => by
    obtain ⟨k, rfl, h⟩ := of_boolD m1
    exact ⟨k, d1, q k G1 H1 g1 h⟩) z
theorem rt_and (ha : RT c x w tt t) (hb : RT c x w tu u) : RT c x w (tAnd tt tu) (andW t u) := fun ss R X G σ H m e s Q q z =>
  ha ss _ X G σ H m e s _ (fun k G1 H1 g1 m1 => by
    cases k with
    | true => exact hb ss R X G1 σ H1 (ifP_t m1) g1.ink (s.go g1) Q (fun b G2 H2 g2 h3 => q b G2 H2 (g1.trans g2) h3) (kx_go z g1)
    | false => exact q false G1 H1 g1 (ifP_f m1)) z
theorem rt_or (ha : RT c x w tt t) (hb : RT c x w tu u) : RT c x w (tOr tt tu) (orW t u) := fun ss R X G σ H m e s Q q z =>
  ha ss _ X G σ H m e s _ (fun k G1 H1 g1 m1 => by
    cases k with
    | true => exact q true G1 H1 g1 (ifP_t m1)
    | false => exact hb ss R X G1 σ H1 (ifP_f m1) g1.ink (s.go g1) Q (fun b G2 H2 g2 h3 => q b G2 H2 (g1.trans g2) h3) (kx_go z g1)) z
theorem rt_not (ha : RT c x w tt t) : RT c x w (tNot tt) (notW t) := fun ss R X G σ H m e s Q q z =>
  ha ss _ X G σ H m e s _ (fun k G1 H1 g1 m1 => q (!k) G1 H1 g1 m1) z
theorem rt_yes : RT c x w tYes yesW := fun ss R X G σ H m e s Q q z => q true G H (Go.refl e) m
theorem re_and (ha : RE c x w ta a) (hb : RE c x w tb b) : RE c x w (tAndV ta tb) (avW a b) := fun ss R X G σ H m e s Q q z =>
  ha ss _ X G σ H m e s _ (fun v d G1 H1 g1 d1 m1 => by
    obtain ⟨k, rfl, h⟩ := of_boolD m1
    refine ⟨k, d1, ?_⟩
    cases k with
    | true => exact hb ss R X G1 σ H1 (ifP_t h) g1.ink (s.go g1) Q (fun v d G2 H2 g2 d2 h3 => q v d G2 H2 (g1.trans g2) d2 h3) (kx_go z g1)
    | false => exact q (.bl false) (.bl false) G1 H1 g1 rfl (ifP_f h)) z
theorem re_or (ha : RE c x w ta a) (hb : RE c x w tb b) : RE c x w (tOrV ta tb) (ovW a b) := fun ss R X G σ H m e s Q q z =>
  ha ss _ X G σ H m e s _ (fun v d G1 H1 g1 d1 m1 => by
    obtain ⟨k, rfl, h⟩ := of_boolD m1
    refine ⟨k, d1, ?_⟩
    cases k with
    | true => exact q (.bl true) (.bl true) G1 H1 g1 rfl (ifP_t h)
    | false => exact hb ss R X G1 σ H1 (ifP_f h) g1.ink (s.go g1) Q (fun v d G2 H2 g2 d2 h3 => q v d G2 H2 (g1.trans g2) d2 h3) (kx_go z g1)) z
theorem re_not (ha : RE c x w ta a) : RE c x w (tNotV ta) (nvW a) := fun ss R X G σ H m e s Q q z =>
  ha ss _ X G σ H m e s _ (fun v d G1 H1 g1 d1 m1 => by
    obtain ⟨k, rfl, h⟩ := of_boolD m1
    exact ⟨k, d1, q (.bl (!k)) (.bl (!k)) G1 H1 g1 rfl h⟩) z
theorem re_if (ht : RT c x w tt t) (ha : RE c x w ta a) (hb : RE c x w tb b) : RE c x w (tIf tt ta tb) (ifW t a b) := fun ss R X G σ H m e s Q q z =>
  ht ss _ X G σ H m e s _ (fun k G1 H1 g1 m1 => by
    cases k with
    | true => exact ha ss R X G1 σ H1 (ifP_t m1) g1.ink (s.go g1) Q (fun v d G2 H2 g2 d2 h3 => q v d G2 H2 (g1.trans g2) d2 h3) (kx_go z g1)
    | false => exact hb ss R X G1 σ H1 (ifP_f m1) g1.ink (s.go g1) Q (fun v d G2 H2 g2 d2 h3 => q v d G2 H2 (g1.trans g2) d2 h3) (kx_go z g1)) z
theorem re_chain {r r' : R2} {o o' : D2} (hr : RO2 c r o) (hr' : RO2 c r' o') (ha : RE c x w ta a) (hb : RE c x w tb b) (hd : RE c x w tc d) : RE c x w (tChain r r' ta tb tc) (chainW o o' a b d) := fun ss R X G σ H m e s Q q z =>
  ha ss _ X G σ H m e s _ (fun v d1 G1 H1 g1 e1 m1 => hb ss _ X G1 σ H1 m1 g1.ink (s.go g1) _ (fun u d2 G2 H2 g2 e2 m2 =>
    hr d1 d2 _ m2 G2 H2 v u g2.ink (e1.up g2.kn) e2 _ fun y d3 G3 H3 g3 e3 m3 => by
      obtain ⟨k, rfl, h⟩ := of_boolD m3
      refine ⟨k, e3, ?_⟩
      have g13 := g1.trans (g2.trans g3)
      cases k with
      | true => exact hd ss _ X G3 σ H3 (ifP_t h) g3.ink (s.go g13) _ (fun y d4 G4 H4 g4 e4 m4 => hr' d2 d4 R m4 G4 H4 u y g4.ink ((e2.up g3.kn).up g4.kn) e4 Q fun z y G5 H5 g5 e5 hr => q z y G5 H5 (g13.trans (g4.trans g5)) e5 hr) (kx_go z g13)
      | false => exact q (.bl false) (.bl false) G3 H3 g13 rfl (ifP_f h)) (kx_go z g1)) z
theorem rp_no : RP c x w tNoPart noW := fun ss R X G σ H m e s Q q z => q none G H (Go.refl e) m
theorem rp_so (ha : RE c x w ta a) : RP c x w (tPart ta) (soW a) := fun ss R X G σ H m e s Q q z =>
  ha ss _ X G σ H m e s _ (fun v d G1 H1 g1 d1 m1 => by
    obtain ⟨k, rfl, h⟩ := of_intD m1
    exact ⟨k, d1, q (some k) G1 H1 g1 h⟩) z
theorem re_sl {r : V → Option Int → Option Int → Hp → VK → Prop} {o : DSl} {tl th : TO} {lo hi : OM} (hr : ROS c r o) (ha : RE c x w ta a) (hl : RP c x w tl lo) (hh : RP c x w th hi) : RE c x w (tSl r ta tl th) (slW o a lo hi) := fun ss R X G σ H m e s Q q z =>
  ha ss _ X G σ H m e s _ (fun v d G1 H1 g1 d1 m1 => hl ss _ X G1 σ H1 m1 g1.ink (s.go g1) _ (fun i G2 H2 g2 m2 => hh ss _ X G2 σ H2 m2 g2.ink (s.go (g1.trans g2)) _ (fun j G3 H3 g3 m3 =>
    hr d i j R m3 G3 H3 v g3.ink ((d1.up g2.kn).up g3.kn) Q fun z y G4 H4 g4 d4 hr => q z y G4 H4 (g1.trans (g2.trans (g3.trans g4))) d4 hr) (kx_go z (g1.trans g2))) (kx_go z g1)) z
theorem tyD_ok {T : String} {d : Dt} {v : V} (h : tyD d = T) (hT : T ≠ "") (e : In c G H) (hd : Dat c G d v) : tyV c.K T v H := by
  subst h
  cases d with
  | str z => cases hd; rfl
  | int z => cases hd; rfl
  | lst l => obtain ⟨a, xs, rfl, h1, h2⟩ := hd; exact .inl ⟨rfl, xs, .inl (.inl (e _ _ h1))⟩
  | sq l => obtain ⟨a, xs, rfl, h1, h2⟩ := hd; exact .inl ⟨rfl, xs, e.seq h1⟩
  | _ => exact absurd rfl hT
theorem re_bm {T : String} {r : V → List V → Hp → VK → Prop} {o : DM} (hT : T ≠ "") (hr : ROM c T r o) (ha : RE c x w ta a) (hs : RA c x w tas as) : RE c x w (tBM c.K T r ta tas) (bmW T o a as) := fun ss R X G σ H m e s Q q z =>
  ha ss _ X G σ H m e s _ (fun v d G1 H1 g1 d1 m1 => ⟨tyD_ok m1.1 hT g1.ink d1, hs ss _ X G1 σ H1 m1.2 g1.ink (s.go g1) _ (fun vs l G2 H2 g2 d2 m2 =>
    hr d l R m2 G2 H2 v vs g2.ink (d1.up g2.kn) d2 Q fun z y G4 H4 g4 d4 hr => q z y G4 H4 (g1.trans (g2.trans g4)) d4 hr) (kx_go z g1)⟩) z
theorem re_bm0 {T : String} {r : V → List V → Hp → VK → Prop} {o : DM} (hT : T ≠ "") (hr : ROM c T r o) (ha : RE c x w ta a) : RE c x w (tBM0 c.K T r ta) (bmW T o a nilW) := fun ss R X G σ H m e s Q q z =>
  ha ss _ X G σ H m e s _ (fun v d G1 H1 g1 d1 m1 => ⟨tyD_ok m1.1 hT g1.ink d1, hr d [] R m1.2 G1 H1 v [] g1.ink d1 rfl Q fun z y G4 H4 g4 d4 hr => q z y G4 H4 (g1.trans g4) d4 hr⟩) z
theorem of_itemsD {d : Dt} {R : List Dt → Prop} (h : itemsD d R) : ∃ l, (d = .lst l ∨ d = .tup l) ∧ R l := by
  cases d with
  | lst l => exact ⟨l, .inl rfl, h⟩
  | tup l => exact ⟨l, .inr rfl, h⟩
  | _ => exact h.elim
theorem ra_star (ha : RE c x w ta a) (hs : RA c x w tas as) : RA c x w (StX.tStar c.K ta tas) (starW a as) := fun ss R X G σ H m e s Q q z =>
  ha ss _ X G σ H m e s _ (fun v d G1 H1 g1 d1 m1 => by
    obtain ⟨l, h, m2⟩ := of_itemsD m1
    have fin : ∀ xs, Dats c G1 l xs → tas σ H1 fun ys H2 => Q (xs ++ ys) H2 := fun xs hd => hs ss _ X G1 σ H1 m2 g1.ink (s.go g1) _ (fun ys m G2 H2 g2 d2 hr => q _ _ G2 H2 (g1.trans g2) ((hd.up g2.kn).app d2) hr) (kx_go z g1)
    rcases h with rfl | rfl
    · obtain ⟨a, xs, rfl, hs, hd⟩ := d1
      exact ⟨a, xs, rfl, .inr (.inl (.inl (g1.ink _ _ hs))), fin xs hd⟩
    · obtain ⟨a, xs, rfl, hs, hd⟩ := d1
      exact ⟨a, xs, rfl, .inl (Ex.tp g1.ink.ex hs), fin xs hd⟩) z
theorem re_nox (ha : RE c x none ta a) : RE c x w ta (noxW a) := fun ss R X G σ H m e s Q q z => ha ss R xF G σ H m e s Q q fun _ _ _ _ _ _ _ hc => hc.elim
theorem rt_nox (ha : RT c x none tt t) : RT c x w tt (noxT t) := fun ss R X G σ H m e s Q q z => ha ss R xF G σ H m e s Q q fun _ _ _ _ _ _ _ hc => hc.elim
end
end Mw

set_option Elab.async false
set_option linter.all false
set_option maxRecDepth 100000
set_option maxHeartbeats 4000000
namespace Mw
open PySem PySem.Spec PyProof.Rows L2
section
variable {c : Kc} {x : Mx} {w : Option WX} {X : Xn} {G H : Hp}
/-! ### what is walked -/
theorem wd_list {a : Addr} {l : List Dt} {xs : List V} (hs : SqL c.K G a xs) (d : Dats c G l xs) : WalkD c (Itl c.K a) l G := by
  have w := walk_list (K := c.K) (a := a) (xs := xs)
  rw [d.len] at w
  refine w.mono (fun H e => e.seq hs) fun i H x H' hi e y G2 e2 e3 => ?_
  obtain ⟨rfl, y⟩ := y
  obtain ⟨dd, h1, h2⟩ := d.getV y
  exact ⟨dd, G2, h1, Go.refl e3, h2.up e2⟩
theorem wd_tup {a : Addr} {l : List Dt} {xs : List V} (hs : SqT c.K G a xs) (d : Dats c G l xs) : WalkD c (Itt c.K a) l G := by
  have w := walk_tup (K := c.K) (a := a) (xs := xs)
  rw [d.len] at w
  refine w.mono (fun H e => Ex.tup e hs) fun i H x H' hi e y G2 e2 e3 => ?_
  obtain ⟨rfl, y⟩ := y
  obtain ⟨dd, h1, h2⟩ := d.getV y
  exact ⟨dd, G2, h1, Go.refl e3, h2.up e2⟩
theorem wd_range {lo : Int} {n : Nat} : WalkD c (Itr lo n) (rangeD lo n) G := by
  have w := walk_range (lo := lo) (n := n)
  have e : (rangeD lo n).length = n := by simp [rangeD]
  unfold WalkD
  rw [e]
  refine w.mono (fun H e => True.intro) fun i H x H' hi e y G2 e2 e3 => ?_
  obtain ⟨rfl, rfl⟩ := y
  exact ⟨.int (lo + (i : Int)), G2, by simp [rangeD, hi], Go.refl e3, rfl⟩
theorem wd_str {z : Str} : WalkD c (Its z) (signsD z) G := by
  have w := walk_str (z := z)
  have e : (signsD z).length = z.cps.size := by simp [signsD]
  unfold WalkD
  rw [e]
  refine w.mono (fun H e => True.intro) fun i H x H' hi e y G2 e2 e3 => ?_
  obtain ⟨rfl, k, h1, rfl⟩ := y
  have h2 : z.cps.toList[i]? = some k := by simpa using h1
  exact ⟨.str ⟨#[k]⟩, G2, by simp [signsD, h2], Go.refl e3, rfl⟩
variable {ta te : TE} {a e : EM} {tas : TA} {as : AM}
theorem ri_list (ha : RE c x w ta a) : RI c x w (iList c.K ta) (itW iLstD a) := fun ss R X G σ H m e s Q q z =>
  ha ss _ X G σ H m e s _ (fun v d G1 H1 g1 d1 m1 => by
    cases d with
    | lst l =>
      obtain ⟨a, xs, rfl, hs, hd⟩ := d1
      exact ⟨a, rfl, ⟨xs, .inl (.inl (g1.ink _ _ hs))⟩, q _ l G1 H1 g1 (wd_list (.inl (.inl hs)) hd) m1⟩
    | sq l =>
      obtain ⟨a, xs, rfl, hs, hd⟩ := d1
      exact ⟨a, rfl, ⟨xs, g1.ink.seq hs⟩, q _ l G1 H1 g1 (wd_list hs hd) m1⟩
    | _ => exact m1.elim) z
theorem ri_tup (ha : RE c x w ta a) : RI c x w (iTup c.K ta) (itW iTupD a) := fun ss R X G σ H m e s Q q z =>
  ha ss _ X G σ H m e s _ (fun v d G1 H1 g1 d1 m1 => by
    cases d with
    | tup l =>
      obtain ⟨a, xs, rfl, hs, hd⟩ := d1
      exact ⟨a, rfl, ⟨xs, Ex.tp g1.ink.ex hs⟩, q _ l G1 H1 g1 (wd_tup (.inl (.inl hs)) hd) m1⟩
    | _ => exact m1.elim) z
theorem ri_str (ha : RE c x w ta a) : RI c x w (iStr ta) (itW iStrD a) := fun ss R X G σ H m e s Q q z =>
  ha ss _ X G σ H m e s _ (fun v d G1 H1 g1 d1 m1 => by
    cases d with
    | str l =>
      cases d1
      exact ⟨l, rfl, q _ _ G1 H1 g1 wd_str m1⟩
    | _ => exact m1.elim) z
theorem ri_rng1 (ha : RA c x w tas as) : RI c x w (iRng1 tas) (itAW rng1D as) := fun ss R X G σ H m e s Q q z =>
  ha ss _ X G σ H m e s _ (fun vs l G1 H1 g1 d1 m1 => by
    match l, m1 with
    | [.int j], ⟨h3, h4⟩ =>
      obtain ⟨y, r, rfl, hx, hr⟩ := d1
      cases hx; cases hr
      exact ⟨j, rfl, h3.1, h3.2, q _ _ G1 H1 g1 wd_range h4⟩) z
theorem ri_rng2 (ha : RA c x w tas as) : RI c x w (iRng2 tas) (itAW rng2D as) := fun ss R X G σ H m e s Q q z =>
  ha ss _ X G σ H m e s _ (fun vs l G1 H1 g1 d1 m1 => by
    match l, m1 with
    | [.int i, .int j], ⟨h3, h4⟩ =>
      obtain ⟨y, r, rfl, hx, y2, r2, rfl, hx2, hr⟩ := d1
      cases hx; cases hx2; cases hr
      exact ⟨i, j, rfl, h3, q _ _ G1 H1 g1 wd_range h4⟩) z
/-! ### targets -/
theorem wipe_set {σ : L2.St} {i : Nat} {o : Option V} : ∀ {vs : List Nat}, i ∈ vs → wipe (σ.set i o) vs = wipe σ vs := by
  intro vs h
  apply List.ext_getElem?
  intro j
  have key : ∀ (τ : L2.St) (vs : List Nat) (j : Nat), (wipe τ vs)[j]? = if j ∈ vs then (τ[j]?).map fun _ => none else τ[j]? := by
    intro τ vs
    induction vs with
    | nil => intro j; simp [wipe]
    | cons v vs ih =>
      intro j
      unfold wipe
      by_cases e : v = j
      · subst e
        rw [List.getElem?_set_self']
        rw [ih]
        by_cases h2 : v ∈ vs
        · rw [if_pos h2, if_pos (List.mem_cons_self)]; cases τ[v]? <;> rfl
        · rw [if_neg h2, if_pos (List.mem_cons_self)]; cases τ[v]? <;> rfl
      · rw [List.getElem?_set_ne e, ih]
        by_cases h2 : j ∈ vs
        · rw [if_pos h2, if_pos (List.mem_cons_of_mem _ h2)]
        · rw [if_neg h2, if_neg (by simp [h2]; exact fun z => e z.symm)]
  rw [key, key]
  by_cases e : i = j
  · subst e
    rw [if_pos h, if_pos h, List.getElem?_set_self']
    cases σ[i]? <;> rfl
  · rw [List.getElem?_set_ne e]
theorem wipe_wipe {σ : L2.St} : ∀ {vs ws : List Nat}, (∀ i ∈ ws, i ∈ vs) → wipe (wipe σ ws) vs = wipe σ vs
  | vs, [], _ => rfl
  | vs, v :: ws, h => by
    show wipe ((wipe σ ws).set v none) vs = _
    rw [wipe_set (h v List.mem_cons_self), wipe_wipe fun i hi => h i (List.mem_cons_of_mem _ hi)]
theorem Sv.wipe {σ : L2.St} {ss : SS} (h : Sv c x G H σ ss) : ∀ vs : List Nat, Sv c x G H (L2.wipe σ vs) (wipeS ss vs)
  | [] => h
  | v :: vs => (Sv.wipe h vs).forget
theorem rg_name {vs : List Nat} {i : Nat} (hi : i ∈ vs) : RG c x vs (gName i) (gN i) := fun d ss R m G H σ v e s hd Q q => q _ _ ⟨s.set hd, fun _ _ e2 h => h.set (hd.up e2)⟩ (wipe_set hi) m
theorem rgs_nil {vs : List Nat} : RGs c x vs gNil gNilW := fun ds ss R m G H σ us e s hd Q q => by
  obtain ⟨rfl, m⟩ := m
  exact ⟨hd, q σ ss ⟨s, fun _ _ _ h => h⟩ rfl m⟩
theorem rgs_cons {vs : List Nat} {g : TG} {gs : TGs} {m : GM} {ms : GsM} (hg : RG c x vs g m) (hs : RGs c x vs gs ms) : RGs c x vs (gCons g gs) (gConsW m ms) := fun ds ss R mm G H σ us e s hd Q q => by
  match ds, mm with
  | d :: r, mm =>
    obtain ⟨v, us', rfl, d1, d2⟩ := hd
    exact ⟨v, us', rfl, hg d ss _ mm G H σ v e s d1 _ fun σ1 s1 sv1 w1 m1 => hs r s1 R m1 G H σ1 us' e sv1.1 d2 Q fun σ2 s2 sv2 w2 m2 => q σ2 s2 ⟨sv2.1, fun G2 H2 e2 h => sv2.2 G2 H2 e2 (sv1.2 G2 H2 e2 h)⟩ (w2.trans w1) m2⟩
theorem gs_len {c : Kc} {x : Mx} {gs : TGs} {ms : GsM} {n : Nat} (h : ∀ ds ss R, ms ds ss R → ds.length = n) {ds : List Dt} {xs : List V} {ss : SS} {R : SS → Prop} (m : ms ds ss R) (d : Dats c G ds xs) : xs.length = n := by rw [d.len]; exact h ds ss R m
theorem nil_len : ∀ ds ss R, gNilW ds ss R → ds.length = 0 := fun ds ss R h => by rw [h.1]; rfl
/-- it asks for just n -/
def GsLen (ms : GsM) (n : Nat) : Prop := ∀ ds ss R, ms ds ss R → ds.length = n ∨ ∀ ss', ¬ R ss'
theorem rg_tup {vs : List Nat} {gs : TGs} {ms : GsM} {n : Nat} (hs : RGs c x vs gs ms) : RG c x vs (gTup c.K n gs) (fun d ss R => iTupD d fun l => l.length = n ∧ ms l ss R) := fun d ss R mm G H σ v e s hd Q q => by
  cases d with
  | tup l =>
    obtain ⟨a, xs, rfl, h1, h2⟩ := hd
    exact ⟨a, xs, rfl, Ex.tp e.ex h1, by rw [h2.len]; exact mm.1, hs l ss R mm.2 G H σ xs e s h2 Q q⟩
  | _ => exact mm.elim
theorem rl_name {i : Nat} : RL c x (gName i) (gN i) := fun d ss R m H0 G H σ v e s hd Q q => q _ _ (s.set hd) m
theorem rls_nil : RLs c x gNil gNilW := fun ds ss R m H0 G H σ us e s hd Q q => by
  obtain ⟨rfl, m⟩ := m
  exact ⟨hd, q σ ss s m⟩
theorem rls_cons {g : TG} {gs : TGs} {m : GM} {ms : GsM} (hg : RL c x g m) (hs : RLs c x gs ms) : RLs c x (gCons g gs) (gConsW m ms) := fun ds ss R mm H0 G H σ us e s hd Q q => by
  match ds, mm with
  | d :: r, mm =>
    obtain ⟨v, us', rfl, d1, d2⟩ := hd
    exact ⟨v, us', rfl, hg d ss _ mm H0 G H σ v e s d1 _ fun σ1 s1 sv1 m1 => hs r s1 R m1 H0 G H σ1 us' e sv1 d2 Q q⟩
theorem rl_tup {gs : TGs} {ms : GsM} {n : Nat} (hs : RLs c x gs ms) : RL c x (gTup c.K n gs) (fun d ss R => iTupD d fun l => l.length = n ∧ ms l ss R) := fun d ss R mm H0 G H σ v e s hd Q q => by
  cases d with
  | tup l =>
    obtain ⟨a, xs, rfl, h1, h2⟩ := hd
    exact ⟨a, xs, rfl, Ex.tp e.ex h1, by rw [h2.len]; exact mm.1, hs l ss R mm.2 H0 G H σ xs e s h2 Q q⟩
  | _ => exact mm.elim
theorem rl_unl {gs : TGs} {ms : GsM} {n : Nat} (hs : RLs c x gs ms) : RL c x (gUnl c.K n gs) (fun d ss R => iLstD d fun l => l.length = n ∧ ms l ss R) := fun d ss R mm H0 G H σ v e s hd Q q => by
  cases d with
  | lst l =>
    obtain ⟨a, xs, rfl, h1, h2⟩ := hd
    exact ⟨a, xs, rfl, .inl (.inl (e _ _ h1)), by rw [h2.len]; exact mm.1, hs l ss R mm.2 H0 G H σ xs e s h2 Q q⟩
  | sq l =>
    obtain ⟨a, xs, rfl, h1, h2⟩ := hd
    exact ⟨a, xs, rfl, e.seq h1, by rw [h2.len]; exact mm.1, hs l ss R mm.2 H0 G H σ xs e s h2 Q q⟩
  | _ => exact mm.elim
/-! ### comprehensions -/
theorem drop_at {l : List Dt} {i : Nat} {d : Dt} (h : l[i]? = some d) : l.drop i = d :: l.drop (i + 1) := by
  obtain ⟨hi, rfl⟩ := List.getElem?_eq_some_iff.mp h
  exact List.drop_eq_getElem_cons hi
theorem re_lc {wi : TI} {it : AM} {g : TG} {gm : GM} {tt : TT} {t : TM} {vs : List Nat} (hi : RI c x w wi it) (hg : RG c x vs g gm) (ht : RT c x none tt t) (he : RE c x none te e) : RE c x w (tLc wi g tt te vs) (lcW it vs gm t e) := fun ss R X G σ H m ex s Q q z =>
  hi ss _ X G σ H m ex s _ (fun J l G1 H1 g1 wk ⟨hl, m1⟩ => by
    have s1 := s.go g1
    intro D nD
    have nG : G1 D = none := g1.ink.free nD
    refine lc_it wk (fun i H' => ∃ (G' : Hp) (acc : List Dt) (xs : List V), Go c G1 H1 G' H' ∧ G' D = none ∧ H' D = some (.lst xs) ∧ Dats c G' acc xs ∧ acc.length ≤ i ∧ lcL (wipeS ss vs) gm t e (l.drop i) acc fun acc => R (.lst acc)) ?_ ?_ ?_ ?_
    · exact ⟨G1, [], [], Go.put g1.ink nD, nG, upd_same, rfl, Nat.le_refl _, m1⟩
    · rintro i H' _ ⟨G', acc, xs, g2, _⟩
      exact g2.kn.trans g2.ink.ex
    · rintro i v H2 H3 hi ⟨G2, acc, xs, g2, n2, e2, d2, l2, m2⟩ y
      obtain ⟨d, G3, hd3, g3, dx⟩ := y G2 g2.kn g2.ink
      have e3 : H3 D = some (.lst xs) := g3.up.st D _ e2 (flat_lst (a := D)).1
      have n3 : G3 D = none := g3.nw D _ n2 e2 (fun _ z => by cases z)
      rw [drop_at hd3] at m2
      have s3 : Sv c x G3 H3 (wipe σ vs) (wipeS ss vs) := ((s1.go g2).go g3).wipe vs
      refine hg d _ _ m2 G3 H3 _ v g3.ink s3 dx _ fun σ4 s4 sv4 w4 m4 => ⟨by rw [w4]; exact wipe_wipe fun _ h => h, ?_⟩
      refine ht s4 _ xF G3 σ4 H3 m4 g3.ink sv4.1 _ (fun b G5 H5 g5 m5 => ?_) fun _ _ _ _ _ _ _ hc => hc.elim
      have e5 : H5 D = some (.lst xs) := g5.up.st D _ e3 (flat_lst (a := D)).1
      have n5 : G5 D = none := g5.nw D _ n3 e3 (fun _ z => by cases z)
      cases b with
      | false => exact ⟨G5, acc, xs, (g2.trans g3).trans g5, n5, e5, (d2.up g3.kn).up g5.kn, by omega, ifP_f m5⟩
      | true =>
        refine he s4 _ xF G5 σ4 H5 (ifP_t m5) g5.ink (sv4.1.go g5) _ (fun y dy G6 H6 g6 d6 m6 => ?_) fun _ _ _ _ _ _ _ hc => hc.elim
        have e6 : H6 D = some (.lst xs) := g6.up.st D _ e5 (flat_lst (a := D)).1
        have n6 : G6 D = none := g6.nw D _ n5 e5 (fun _ z => by cases z)
        have d7 : Dats c G6 (acc ++ [dy]) (xs ++ [y]) := Dats.snoc (((d2.up g3.kn).up g5.kn).up g6.kn) d6
        have g7 := ((g2.trans g3).trans g5).trans g6
        refine ⟨xs, e6, ?_, G6, acc ++ [dy], xs ++ [y], g7.turn n6 nD e6 flat_lst, n6, upd_same, d7, by simp; omega, m6⟩
        rw [d2.len]; exact sz_lt (by omega)
    · rintro H2 ⟨G2, acc, xs, g2, n2, e2, d2, l2, m2⟩
      rw [List.drop_length] at m2
      exact q (.ref D) (.lst acc) (upd G2 D (.lst xs)) H2 (g1.trans (g2.tell n2 nD e2)) (dat_newL d2 n2) m2) z
/-! ### statements -/
variable {ts tu : TS} {sm su : SM} {tt : TT} {t : TM}
theorem rs_next : RS c x w tNext passW := fun ss k G0 H0 D σ G H m K g s => K.nx σ ss G H g s m
theorem rs_seq (ha : RS c x w ts sm) (hb : RS c x w tu su) : RS c x w (tSeq ts tu) (seqW sm su) := fun ss k G0 H0 D σ G H m K g s =>
  ha ss _ G0 H0 { D with nx := tu D } σ G H m ⟨fun σ' s' G' H' g' l' m' => hb s' k G0 H0 D σ' G' H' m' K g' l', K.bk, K.ct, K.rt, K.ex⟩ g s
theorem kx_of {k : Oc → Prop} {G0 H0 : Hp} {D : Ends} {σ : L2.St} {ss : SS} (K : Kon c x w k G0 H0 D) (g : Go c G0 H0 G H) (s : Sl c x H0 G H σ ss) : KX c w (fun C l => k (.ex ss C l)) σ G H := fun C l od G' H' g' xd hk => K.ex σ ss C l od G' H' (g.trans g') (s.go g') xd hk
theorem rs_ret (ha : RE c x w ta a) : RS c x w (tRet ta) (retW a) := fun ss k G0 H0 D σ G H m K g s =>
  ha ss _ _ G σ H m g.ink s.sv _ (fun v d G1 H1 g1 d1 m1 => K.rt v d G1 H1 (g.trans g1) d1 m1) (kx_of K g s)
theorem rs_ret0 : RS c x w tRetN ret0W := fun ss k G0 H0 D σ G H m K g s => K.rt .non .non G H g rfl m
theorem rs_expr (ha : RE c x w ta a) : RS c x w (tDrop ta) (exprW a) := fun ss k G0 H0 D σ G H m K g s =>
  ha ss _ _ G σ H m g.ink s.sv _ (fun v d G1 H1 g1 d1 m1 => K.nx σ ss G1 H1 (g.trans g1) (s.go g1) m1) (kx_of K g s)
theorem rs_if (ht : RT c x w tt t) (ha : RS c x w ts sm) (hb : RS c x w tu su) : RS c x w (tIfS tt ts tu) (ifSW t sm su) := fun ss k G0 H0 D σ G H m K g s =>
  ht ss _ _ G σ H m g.ink s.sv _ (fun b G1 H1 g1 m1 => by
    cases b with
    | true => exact ha ss k G0 H0 D σ G1 H1 (ifP_t m1) K (g.trans g1) (s.go g1)
    | false => exact hb ss k G0 H0 D σ G1 H1 (ifP_f m1) K (g.trans g1) (s.go g1)) (kx_of K g s)
theorem rs_asg {g : TG} {gm : GM} (ha : RE c x w ta a) (hg : RL c x g gm) : RS c x w (tAsg ta g) (asgW a gm) := fun ss k G0 H0 D σ G H m K g s =>
  ha ss _ _ G σ H m g.ink s.sv _ (fun v d G1 H1 g1 d1 m1 => hg d ss _ m1 H0 G1 H1 σ v g1.ink (s.go g1) d1 _ fun σ' s' l' m' => K.nx σ' s' G1 H1 (g.trans g1) l' m') (kx_of K g s)
theorem rs_brk : RS c x w tBreak brkW := fun ss k G0 H0 D σ G H m K g s => K.bk σ ss G H g s m
theorem rs_cnt : RS c x w tCont cntW := fun ss k G0 H0 D σ G H m K g s => K.ct σ ss G H g s m
theorem rs_never : RS c x w tNever neverW := fun ss k G0 H0 D σ G H m K g s => m.elim
theorem rs_nox (ha : RS c x none ts sm) : RS c x w ts (fun ss k => sm ss fun o => match o with | .ex _ _ _ => False | .nx s => k (.nx s) | .bk s => k (.bk s) | .ct s => k (.ct s) | .rt d => k (.rt d)) := fun ss k G0 H0 D σ G H m K g s =>
  ha ss _ G0 H0 D σ G H m ⟨K.nx, K.bk, K.ct, K.rt, fun _ _ _ _ _ _ _ _ _ _ h => h.elim⟩ g s
theorem go_back {G0 H0 G1 H1 : Hp} (gg : Go c G0 H0 G1 H1) {G' H' : Hp} (z : Go c G1 H0 G' H') : Go c G0 H0 G' H' := ⟨gg.kn.trans z.kn, fun a o h1 h2 n => z.nw a o (gg.nw a o h1 h2 n) h2 n, z.ink, z.up⟩
theorem rs_for {wi : TI} {it : AM} {g : TG} {gm : GM} (hi : RI c x w wi it) (hg : RL c x g gm) (hb : RS c x w ts sm) : RS c x w (tFor wi g ts) (forW it gm sm) := fun ss k G0 H0 D σ G H m K g s =>
  hi ss _ _ G σ H m g.ink s.sv _ (fun J l G1 H1 g1 wk m1 => by
    have gg : Go c G0 H0 G1 H1 := g.trans g1
    refine for_it wk (fun i σ' H' => ∃ G' s', Go c G1 H0 G' H' ∧ Sl c x H0 G' H' σ' s' ∧ forL gm sm (l.drop i) s' k) ⟨G1, ss, ⟨Same.refl _, fun _ _ h _ _ => h, gg.ink, gg.up⟩, s.go g1, m1⟩ ?_ ?_ ?_
    · rintro i σ' H' _ ⟨G', s', g2, _⟩
      exact g2.kn.trans g2.ink.ex
    · rintro i v σ' H' H2 hi ⟨G', s', g2, l2, m2⟩ y
      obtain ⟨d, G3, hd3, g3, dx⟩ := y G' g2.kn g2.ink
      rw [drop_at hd3] at m2
      refine hg d s' _ m2 H0 G3 H2 σ' v g3.ink (l2.go g3) dx _ fun σ4 s4 l4 m4 => ?_
      refine hb s4 _ G1 H0 { D with nx := _, ct := _, bk := D.nx } σ4 G3 H2 m4 ⟨?_, ?_, ?_, ?_, ?_⟩ (g2.trans g3) l4
      · exact fun σ5 s5 G5 H5 g5 l5 m5 => ⟨G5, s5, g5, l5, m5⟩
      · exact fun σ5 s5 G5 H5 g5 l5 m5 => K.nx σ5 s5 G5 H5 (go_back gg g5) l5 m5
      · exact fun σ5 s5 G5 H5 g5 l5 m5 => ⟨G5, s5, g5, l5, m5⟩
      · exact fun v d G5 H5 g5 d5 m5 => K.rt v d G5 H5 (go_back gg g5) d5 m5
      · exact fun σ5 s5 C l od G5 H5 g5 l5 xd m5 => K.ex σ5 s5 C l od G5 H5 (go_back gg g5) l5 xd m5
    · rintro σ' H' ⟨G', s', g2, l2, m2⟩
      rw [List.drop_length] at m2
      exact K.nx σ' s' G' H' (go_back gg g2) l2 m2) (kx_of K g s)
theorem rs_while (ht : RT c x w tt t) (hb : RS c x w ts sm) : RS c x w (tWhile tt ts) (whW t sm) := fun ss k G0 H0 D σ G H m K g s => by
  obtain ⟨n, m⟩ := m
  refine ⟨fun n σ' H' => ∃ G' s', Go c G0 H0 G' H' ∧ Sl c x H0 G' H' σ' s' ∧ whL t sm n s' k, ⟨n, G, ss, g, s, m⟩, ?_⟩
  rintro n σ' H' ⟨G', s', g2, l2, m2⟩
  cases n with
  | zero => exact m2.elim
  | succ n =>
    refine ht s' _ _ G' σ' H' m2 g2.ink l2.sv _ (fun b G1 H1 g1 m1 => ?_) (kx_of K g2 l2)
    cases b with
    | false => exact K.nx σ' s' G1 H1 (g2.trans g1) (l2.go g1) (ifP_f m1)
    | true =>
      have m1 := ifP_t m1
      refine ⟨fun σ5 H5 => ∃ G5 s5, Go c G0 H0 G5 H5 ∧ Sl c x H0 G5 H5 σ5 s5 ∧ whL t sm n s5 k, fun σ5 H5 z => ⟨n, Nat.lt_succ_self n, z⟩, ?_⟩
      refine hb s' _ G0 H0 { D with nx := _, ct := _, bk := D.nx } σ' G1 H1 m1 ⟨?_, ?_, ?_, ?_, ?_⟩ (g2.trans g1) (l2.go g1)
      · exact fun σ5 s5 G5 H5 g5 l5 m5 => ⟨G5, s5, g5, l5, m5⟩
      · exact fun σ5 s5 G5 H5 g5 l5 m5 => K.nx σ5 s5 G5 H5 g5 l5 m5
      · exact fun σ5 s5 G5 H5 g5 l5 m5 => ⟨G5, s5, g5, l5, m5⟩
      · exact K.rt
      · exact K.ex
/-- a, b = x, y -/
def parW (i j : Nat) (as : AM) : SM := fun ss k => as ss (fun l => match l with | [d, e] => k (.nx ((ss.set i (.dt d)).set j (.dt e))) | _ => False) fun C l => k (.ex ss C l)
theorem rs_par {i j : Nat} (ha : RA c x w tas as) : RS c x w (tPar i j tas) (parW i j as) := fun ss k G0 H0 D σ G H m K g s =>
  ha ss _ _ G σ H m g.ink s.sv _ (fun vs l G1 H1 g1 d1 m1 => by
    match l, m1 with
    | [d, e], m1 =>
      obtain ⟨v, r1, rfl, e1, u, r2, rfl, e2, e3⟩ := d1
      cases e3
      exact ⟨v, u, rfl, K.nx _ _ G1 H1 (g.trans g1) (((s.go g1).set e1).set e2) m1⟩) (kx_of K g s)
end
end Mw

set_option Elab.async false
set_option linter.all false
set_option maxRecDepth 100000
set_option maxHeartbeats 4000000
namespace Mw
open PySem PySem.Spec PyProof.Rows L2
/-! ### defs -/
def spX (c : Kc) (Pre : PreX) : Sp := fun vs H Q E => ∃ (G : Hp) (ds : List Dt) (R : Dt → Prop) (X : Xn), In c G H ∧ Dats c G ds vs ∧ Pre ds R X ∧
  (∀ v d G' H', Go c G H G' H' → Dat c G' d v → R d → Q v H') ∧ ∀ C l od G' H', Go c G H G' H' → XD c G' od l → X C l → E (.ref (c.ca C)) od H'
/-- where nothing is raised -/
def spN (c : Kc) (Pre : PreX) : Sp := fun vs H Q _ => ∃ (G : Hp) (ds : List Dt) (R : Dt → Prop), In c G H ∧ Dats c G ds vs ∧ Pre ds R xF ∧ ∀ v d G' H', Go c G H G' H' → Dat c G' d v → R d → Q v H'
def calmP (Pre : PreX) : PreX := fun ds R _ => Pre ds R xF
/-- a def's object, and its name -/
def Df (K : PySem.W.Frag) (mg : Str → Option Value) (x : Str) (st : Stmt) (ps : List Str) : Prop :=
  ∃ f fd, Fun K x x st f fd ∧ Binds K fd ps [] ∧ mg x = some (.ref f)
def Dm (K : PySem.W.Frag) (x qual : Str) (st : Stmt) (ps : List Str) (f : Addr) : Prop := ∃ fd, Fun K x qual st f fd ∧ Binds K fd ps []
abbrev Gmx (P : Program) (c : Kc) (mg : Str → Option Value) (base : Heap) (k : Nat) (f : Addr) (Pre : PreX) : Prop := FnR P c.w c.K mg base (L2.CX P c.w) k f (spX c Pre)
def Gfx (P : Program) (c : Kc) (mg : Str → Option Value) (base : Heap) (x : Str) (k : Nat) (Pre : PreX) : Prop :=
  ∃ f, Gmx P c mg base k f Pre ∧ mg x = some (.ref f) ∧ PySem.W.keepIn c.K (.ref f) = true
/-- a def that keeps the promise wherever no repr is under way, and raises nothing -/
structure FnG (P : Program) (w : World) (K : PySem.W.Frag) (mg : Str → Option Value) (base : Heap) (k : Nat) (f : Addr) (fd : FuncData) (ps : List Str) (sp : Sp) : Prop where
  len : ∀ vs H Q E, sp vs H Q E → vs.length = ps.length
  run : ∀ (A : Around) (outer : List Env) (s : Shared) (H : Hp) (args : Args) (us : List Value) (vs : List V) (Q : VK) (E : XK), A.guards = some [] → Room k A → Env0 P w K mg base A outer s H → BindsTo s fd args (ps.zip us) → Vals vs us → sp vs H Q E →
    codeAny (model P w) A (.call (.ref f) args) (CR CX0 outer P w H s Q E) s
def Ggx (P : Program) (c : Kc) (mg : Str → Option Value) (base : Heap) (x : Str) (k : Nat) (ps : List Str) (Pre : PreX) : Prop :=
  ∃ f fd, FnG P c.w c.K mg base k f fd ps (spN c Pre) ∧ Binds c.K fd ps [] ∧ mg x = some (.ref f) ∧ PySem.W.keepIn c.K (.ref f) = true ∧ ∃ oc od osl, c.K.lookup f = some ⟨oc, od, .func fd, osl⟩
theorem get_start {N m : Nat} {ds : List Dt} {i : Nat} {y : Sd} (h : (startS N ds)[i]? = some y) : (∃ d, ds[i]? = some d ∧ y = .dt d) ∨ y = .no := by
  unfold startS at h
  by_cases b : i < ds.length
  · rw [List.getElem?_append_left (by simpa using b), List.getElem?_map] at h
    cases q : ds[i]? with
    | none => rw [q] at h; cases h
    | some d => rw [q] at h; cases h; exact .inl ⟨d, rfl, rfl⟩
  · rw [List.getElem?_append_right (by simpa using b), List.getElem?_replicate] at h
    split at h
    · cases h; exact .inr rfl
    · cases h
theorem sl_start {c : Kc} {x : Mx} {G H : Hp} {ds : List Dt} {vs : List V} {N : List Str} (e : In c G H) (d : Dats c G ds vs) : Sl c x H G H (L2.start N vs) (startS N.length ds) := by
  have hl := d.len
  have no : ∀ {i : Nat} {y : Sd}, (startS N.length ds)[i]? = some y → (∃ d, ds[i]? = some d ∧ y = .dt d) ∨ y = .no := fun h => get_start (m := 0) h
  have n1 : ∀ {i : Nat} {d : Dt}, (startS N.length ds)[i]? ≠ some (.own d) := fun h => by rcases no h with ⟨_, _, z⟩ | z <;> cases z
  have n2 : ∀ {i : Nat} {C : Nat} {l : List (Str × Dt)}, (startS N.length ds)[i]? ≠ some (.slf C l) := fun h => by rcases no h with ⟨_, _, z⟩ | z <;> cases z
  have n3 : ∀ {i : Nat} {C : Nat} {l : List (Str × Dt)}, (startS N.length ds)[i]? ≠ some (.exc C l) := fun h => by rcases no h with ⟨_, _, z⟩ | z <;> cases z
  refine ⟨⟨by simp [L2.start, startS, hl], fun i y z => ?_, fun i y z => absurd z n1, fun i C l z => absurd z n2, fun i C l z => absurd z n3⟩, fun i y a z => absurd z n1, fun i j y y' a z => absurd z n1, fun i C l z => absurd z n2, fun i j C l y z => absurd z n2, fun i j C D l m z => absurd z n2⟩
  rcases no z with ⟨y', h1, h2⟩ | h2
  · cases h2
    obtain ⟨v, q1, q2⟩ := d.get h1
    refine ⟨v, ?_, q2⟩
    have b : i < vs.length := (List.getElem?_eq_some_iff.mp q1).1
    unfold L2.start
    rw [List.getElem?_append_left (by simpa using b), List.getElem?_map, q1]; rfl
  · cases h2
/-- the exception's wish in a def's body -/
abbrev wE (E : XK) : Option WX := some fun c od _ H => E c od H
section
variable {P : Program} {c : Kc} {mg : Str → Option Value} {base : Heap}
theorem frx_of {f : Addr} {fd : FuncData} {ps : List Str} {k : Nat} {sp : Sp} {CX : CXT} (F : FnOk P c.w c.K mg base CX k f fd ps sp) (b : Binds c.K fd ps []) : FnR P c.w c.K mg base CX k f sp :=
  (F.raw b .nil).imp fun vs H Q E h => by rw [List.append_nil]; exact h
theorem body_end {N : List Str} {n : Nat} {b : SM} {x : Mx} {t : TS} {E : XK} {G H : Hp} {ds : List Dt} {vs : List V} {R : Dt → Prop} {X : Xn} {Q : VK} (ht : RS c x (wE E) t b) (e : In c G H) (d : Dats c G ds vs) (m : b (startS N.length ds) (endO R X))
    (q : ∀ v d G' H', Go c G H G' H' → Dat c G' d v → R d → Q v H') (qx : ∀ C l od G' H', Go c G H G' H' → XD c G' od l → X C l → E (.ref (c.ca C)) od H') : t { nx := fun _ H' => Q .non H', rt := Q } (L2.start N vs) H :=
  ht _ _ G H _ _ G H m ⟨fun σ' s' G' H' g' _ hn => q .non .non G' H' g' rfl hn, fun σ' s' G' H' g' _ hn => hn.elim, fun σ' s' G' H' g' _ hn => hn.elim, fun v d G' H' g' dd hr => q v d G' H' g' dd hr, fun σ' s' C l od G' H' g' _ xd hx => qx C l od G' H' g' xd hx⟩ (Go.refl e) (sl_start e d)
theorem body_endN {N : List Str} {b : SM} {x : Mx} {t : TS} {G H : Hp} {ds : List Dt} {vs : List V} {R : Dt → Prop} {Q : VK} (ht : RS c x none t b) (e : In c G H) (d : Dats c G ds vs) (m : b (startS N.length ds) (endO R xF))
    (q : ∀ v d G' H', Go c G H G' H' → Dat c G' d v → R d → Q v H') : t { nx := fun _ H' => Q .non H', rt := Q } (L2.start N vs) H :=
  ht _ _ G H _ _ G H m ⟨fun σ' s' G' H' g' _ hn => q .non .non G' H' g' rfl hn, fun σ' s' G' H' g' _ hn => hn.elim, fun σ' s' G' H' g' _ hn => hn.elim, fun v d G' H' g' dd hr => q v d G' H' g' dd hr, fun σ' s' C l od G' H' g' _ xd hx => hx.elim⟩ (Go.refl e) (sl_start e d)
theorem fokx_of {x qual : Str} {st : Stmt} {f : Addr} {fd : FuncData} {N ps : List Str} {k n m : Nat} {b : SM} (F : Fun c.K x qual st f fd) (S : FnScope N ps (defScope st)) (hn : n = ps.length) (hm : m = N.length)
    (hbody : ∀ (cdv : Value) (A : Around) (outer : List Env) (s : Shared) (H : Hp) (E : XK), Room k (A.deeper (envOfC qual (defScope st) s.heap.objs.size f cdv)) →
      ∃ t, PSs (cxOf (L2.CX P c.w) P c.w c.K mg base N qual (defScope st) f cdv A outer s H E) (defBody st) t ∧ RS c {} (wE E) t b) :
    FnOk P c.w c.K mg base (L2.CX P c.w) (k + 1) f fd ps (spX c (defW n m b)) := by
  subst hn hm
  refine F.okX S (fun vs H Q E h => ?_) (fun cdv A outer s H vs Q E hr h => ?_)
  · obtain ⟨G, ds, R, X, e, d, p, _⟩ := h
    rw [d.len]; exact p.1
  · obtain ⟨G, ds, R, X, e, d, p, q, qx⟩ := h
    obtain ⟨t, ht, hs⟩ := hbody cdv A outer s H E hr
    exact ⟨t, ht, body_end (n := 0) hs e d p.2 q qx⟩
theorem gfx_of {x : Str} {st : Stmt} {N ps : List Str} {k n m : Nat} {b : SM} (F : Df c.K mg x st ps) (S : FnScope N ps (defScope st)) (hn : n = ps.length) (hm : m = N.length)
    (hbody : ∀ (f : Addr) (cdv : Value) (A : Around) (outer : List Env) (s : Shared) (H : Hp) (E : XK), Room k (A.deeper (envOfC x (defScope st) s.heap.objs.size f cdv)) →
      ∃ t, PSs (cxOf (L2.CX P c.w) P c.w c.K mg base N x (defScope st) f cdv A outer s H E) (defBody st) t ∧ RS c {} (wE E) t b) :
    Gfx P c mg base x (k + 1) (defW n m b) := by
  obtain ⟨f, fd, F, b, m⟩ := F
  exact ⟨f, frx_of (fokx_of F S hn hm fun cdv A outer s H E hr => hbody f cdv A outer s H E hr) b, m, F.kp⟩
theorem gmx_of {x qual : Str} {st : Stmt} {f : Addr} {N ps : List Str} {k n m : Nat} {b : SM} (F : Dm c.K x qual st ps f) (S : FnScope N ps (defScope st)) (hn : n = ps.length) (hm : m = N.length)
    (hbody : ∀ (cdv : Value) (A : Around) (outer : List Env) (s : Shared) (H : Hp) (E : XK), Room k (A.deeper (envOfC qual (defScope st) s.heap.objs.size f cdv)) →
      ∃ t, PSs (cxOf (L2.CX P c.w) P c.w c.K mg base N qual (defScope st) f cdv A outer s H E) (defBody st) t ∧ RS c {} (wE E) t b) :
    Gmx P c mg base (k + 1) f (defW n m b) := by
  obtain ⟨fd, F, b⟩ := F
  exact frx_of (fokx_of F S hn hm hbody) b
theorem lk_of {K : PySem.W.Frag} {x q : Str} {st : Stmt} {f : Addr} {fd : FuncData} (F : Fun K x q st f fd) : ∃ oc od osl, K.lookup f = some ⟨oc, od, .func fd, osl⟩ := by
  obtain ⟨oc, od, kV, doc, pm, an, cdv, ct, osl, _, lk, _⟩ := F.ex
  exact ⟨oc, od, osl, lk⟩
theorem ggx_of {x : Str} {st : Stmt} {N ps : List Str} {k n m : Nat} {b : SM} (F : Df c.K mg x st ps) (S : FnScope N ps (defScope st)) (hn : n = ps.length) (hm : m = N.length)
    (hbody : ∀ (f : Addr) (cdv : Value) (A : Around) (outer : List Env) (s : Shared) (H : Hp) (E : XK), A.guards = some [] → Room k (A.deeper (envOfC x (defScope st) s.heap.objs.size f cdv)) →
      ∃ t, PSs (cxOf CX0 P c.w c.K mg base N x (defScope st) f cdv A outer s H E).nox (defBody st) t ∧ RS c {} none t b) :
    Ggx P c mg base x (k + 1) ps (defW n m b) := by
  subst hn hm
  obtain ⟨f, fd, F, bb, m⟩ := F
  refine ⟨f, fd, ⟨fun vs H Q E h => ?_, fun A outer s H args us vs Q E hg hr e0 hb hv h => ?_⟩, bb, m, F.kp, lk_of F⟩
  · obtain ⟨G, ds, R, e, d, p, _⟩ := h
    rw [d.len]; exact p.1
  · obtain ⟨oc, od, kV, doc, pm, an, cdv, ct, osl, rfl, lk, hcd⟩ := F.ex
    obtain ⟨G, ds, R, e, d, p, q⟩ := h
    have hl : vs.length = ps.length := by rw [d.len]; exact p.1
    refine StX.run_bnd (G := fun xs H2 => xs = vs ∧ H2 = H) lk hcd S hr e0 (fun A' Ex' Q' h' => hb _ A' Ex' Q' (h' s H vs us e0 Un.refl rfl (fun _ _ z => z) hv hl ⟨rfl, rfl⟩)) fun s2 H2 xs hx hr' => ?_
    obtain ⟨rfl, rfl⟩ := hx
    obtain ⟨t, ht, hs⟩ := hbody f cdv A outer s2 H2 E hg hr'
    exact ⟨t, ht.nox, body_endN hs e d p.2 q⟩
end
/-! ### calls -/
/-- what is raised is wished for at the caller's slots -/
def tCl (w : Option WX) (sp : Sp) (t : TA) : TE := fun σ H Q => t σ H fun vs H1 => sp vs H1 Q fun cls od H' => (w.getD wF) cls od σ H'
theorem run_fnRS {X : Cx} {CX : CXT} {k : Nat} {f : Addr} {sp : Sp} {E : XK} {pins : List (Addr × Obj)} {σ : L2.St} {H : Hp} {s : Shared} {Q : VK} {us : List Value} {vs : List V} (F : FnR X.prog X.w X.K X.mg X.base CX k f sp) (hr : Room k X.A) (hx : PassesAt CX X σ E) (I : Inv X pins σ H s) (r : Vals vs us) (h : sp vs H Q E) :
    wpAny (model X.prog X.w) X.A (call (.ref f) us) (EP X pins σ Q) X.xe s := by
  refine wpAny_call (codeAny_mono (F X.A X.stack s H us vs Q E hr I.env0 r h) fun r s' hq => ?_)
  cases r with
  | error e => exact hx pins H s e s' I hq
  | ok fl =>
    cases fl with
    | ret u => exact I.after hq
    | next => exact False.elim hq
    | brk => exact False.elim hq
    | cont => exact False.elim hq
/-- a context: what is wished for there -/
def Tk (X : Cx) (w : Option WX) : Prop := ∀ σ, PassesAt (L2.CX X.prog X.w) X σ fun cls od H' => (w.getD wF) cls od σ H'
theorem tk_some {X : Cx} {W : WX} (tk : Takes X W) : Tk X (some W) := fun σ => passAt tk σ
theorem takesF {X : Cx} : Takes X wF := takes0
theorem tk_none {X : Cx} : Tk X none := fun σ => passAt (takesF (X := X)) σ
section
variable {X : Cx} {P : Program} {c : Kc} {mg : Str → Option Value} {base : Heap} {w : Option WX}
/-- X is a context of the text -/
structure At (X : Cx) (P : Program) (c : Kc) (mg : Str → Option Value) (base : Heap) : Prop where
  p : X.prog = P
  w : X.w = c.w
  K : X.K = c.K
  mg : X.mg = mg
  b : X.base = base
theorem pe_gx {x : Str} {k : Nat} {Pre : PreX} {p pos : Pos} {e : Expr} {es : List Expr} {t : TA} (F : Gfx P c mg base x k Pre) (hX : At X P c mg base) (hr : Room k X.A) (hg : Gl X x) (tk : Tk X w) (ha : PA X (e :: es) t)
    (hdb : (x == ("__debug__" : Str)) = false := by decide) (he : starEach (e :: es) X.env = (false, eval e X.env) :: starEach es X.env := by rfl) (hpl : (backTo pos (starEach es X.env)).any (·.1) = false := by rfl) :
    PE X (.Call (.Name x p) (e :: es) [] pos) (tCl w (spX c Pre) t) := by
  obtain ⟨h1, h2, h3, h4, h5⟩ := hX
  obtain ⟨f, F, m, kp⟩ := F
  unfold Gmx at F
  rw [← h1, ← h2, ← h3, ← h4, ← h5] at F
  rw [← h4] at m
  rw [← h3] at kp
  refine ⟨fun pins s σ H Q I h => ?_⟩
  refine wpAny_Call_Name_kw (ld_glob I hg m ?_ hdb)
  refine PySem.W.callWith_K (h₀ := X.base) I.ok.mod.kin kp (thn (ha.run pos pins s σ H _ I h) fun us s1 ⟨vs, H1, I1, r, q⟩ => ⟨I1.kIn, ?_⟩) he hpl
  exact run_fnRS F hr (tk σ) I1 r q
theorem pe_gg {x : Str} {k : Nat} {ps : List Str} {Pre : PreX} {p pos : Pos} {e : Expr} {es : List Expr} {t : TA} (F : Ggx P c mg base x k ps Pre) (hX : At X P c mg base) (hA : X.A.guards = some []) (hr : Room k X.A) (hg : Gl X x) (ha : PA X (e :: es) t)
    (hdb : (x == ("__debug__" : Str)) = false := by decide) (he : starEach (e :: es) X.env = (false, eval e X.env) :: starEach es X.env := by rfl) (hpl : (backTo pos (starEach es X.env)).any (·.1) = false := by rfl) :
    PE X (.Call (.Name x p) (e :: es) [] pos) (tCl none (spN c Pre) t) := by
  obtain ⟨h1, h2, h3, h4, h5⟩ := hX
  obtain ⟨f, fd, F, b, m, kp, _⟩ := F
  rw [← h1, ← h2, ← h3, ← h4, ← h5] at F
  rw [← h3] at b kp
  rw [← h4] at m
  constructor
  intro pins s σ H Q I h
  refine wpAny_Call_Name_kw (ld_glob I hg m (PySem.W.callWith_K (h₀ := X.base) I.ok.mod.kin kp ?_ he hpl) hdb)
  refine thn (ha.run pos pins s σ H _ I h) fun us s1 ⟨vs, H1, I1, r, q⟩ => ⟨I1.kIn, wpAny_call ?_⟩
  have hl : us.length = ps.length := by rw [← r.length]; exact F.len _ _ _ _ q
  have hb := b s1 us I1.kIn (by rw [List.append_nil]; exact hl)
  rw [List.append_nil] at hb
  refine codeAny_mono (F.run X.A X.stack s1 H1 _ us vs Q _ hA hr I1.env0 hb r q) fun rr s2 hq => ?_
  cases rr with
  | error _ => exact hq.elim
  | ok fl => cases fl with
    | ret u => exact I1.after hq
    | _ => exact hq.elim
variable {x : Mx} {tas : TA} {as : AM}
theorem re_call {Pre : PreX} (ha : RA c x w tas as) : RE c x w (tCl w (spX c Pre) tas) (callW Pre as) := fun ss R X G σ H m e s Q q z =>
  ha ss _ X G σ H m e s _ (fun vs l G1 H1 g1 d1 m1 => ⟨G1, l, R, X, g1.ink, d1, m1, fun v d G' H' g hd hr => q v d G' H' (g1.trans g) hd hr, fun C l od G' H' g xd hx => z C l od G' H' (g1.trans g) xd hx⟩) z
theorem re_callN {w' : Option WX} {Pre : PreX} (ha : RA c x w tas as) : RE c x w (tCl w' (spN c Pre) tas) (callW (calmP Pre) as) := fun ss R X G σ H m e s Q q z =>
  ha ss _ X G σ H m e s _ (fun vs l G1 H1 g1 d1 m1 => ⟨G1, l, R, g1.ink, d1, m1, fun v d G' H' g hd hr => q v d G' H' (g1.trans g) hd hr⟩) z
end
end Mw

set_option Elab.async false
set_option linter.all false
set_option maxRecDepth 100000
set_option maxHeartbeats 4000000
namespace Mw
open PySem PySem.Spec PyProof.Rows L2
/-! ### operators by data -/
def addD : D2
  | .int i, .int j, R => R (.int (i + j))
  | .str a, .str b, R => a.length + b.length ≤ 1000000 ∧ R (.str (a ++ b))
  | .lst l, .lst m, R => l.length + m.length ≤ 1000000 ∧ R (.lst (l ++ m))
  | .tup l, .tup m, R => l.length + m.length ≤ 1000000 ∧ R (.tup (l ++ m))
  | _, _, _ => False
def subD : D2
  | .int i, .int j, R => R (.int (i - j))
  | _, _, _ => False
def mulD : D2
  | .int i, .int j, R => CMul i j ∧ R (.int (i * j))
  | .lst l, .int j, R => (0 ≤ j ∧ j ≤ 1000 ∧ l.length ≤ 1000) ∧ R (.lst (List.replicate j.toNat l).flatten)
  | .str z, .int j, R => PySem.MulOk z j ∧ R (.str (Txt.mul z j))
  | _, _, _ => False
def modD : D2
  | .int i, .int j, R => 0 < j ∧ R (.int (i % j))
  | _, _, _ => False
def fdivD : D2
  | .int i, .int j, R => CDivW i j ∧ R (.int (i / j))
  | _, _, _ => False
def CPowW (i j : Int) : Prop := 0 ≤ j ∧ (Builtin.Int.intBits i : Int) * j ≤ 2 ^ 27
def powD : D2
  | .int i, .int j, R => CPowW i j ∧ R (.int (i ^ j.toNat))
  | _, _, _ => False
def cmpD (p : Int → Int → Bool) : D2
  | .int i, .int j, R => R (.bl (p i j))
  | _, _, _ => False
abbrev ltD := cmpD fun i j => decide (i < j)
abbrev leD := cmpD fun i j => decide (i ≤ j)
abbrev gtD := cmpD fun i j => decide (j < i)
abbrev geD := cmpD fun i j => decide (j ≤ i)
/-! data of the library's own kind -/
mutual
def toPy : Dt → Option PyData
  | .non => some .none
  | .bl b => some (.bool b)
  | .int i => some (.int i)
  | .str x => some (.str x)
  | .lst l => (toPys l).map .list
  | .sq l => (toPys l).map .list
  | .tup l => (toPys l).map .tuple
  | _ => none
def toPys : List Dt → Option (List PyData)
  | [] => some []
  | d :: l => match toPy d, toPys l with
    | some p, some q => some (p :: q)
    | _, _ => none
end
def eqvD (x y : Dt) (R : Bool → Prop) : Prop := ∃ p q, toPy x = some p ∧ toPy y = some q ∧ SeqAt.shaped p = true ∧ SeqAt.shaped q = true ∧ R (PyData.eqv p q)
def eqD : D2
  | .int i, .int j, R => R (.bl (decide (i = j)))
  | .str a, .str b, R => R (.bl (decide (a = b)))
  | .bl a, .bl b, R => R (.bl (decide (a = b)))
  | x, y, R => eqvD x y fun b => R (.bl b)
def neD : D2
  | .int i, .int j, R => R (.bl (!decide (i = j)))
  | .str a, .str b, R => R (.bl (!decide (a = b)))
  | .bl a, .bl b, R => R (.bl (!decide (a = b)))
  | x, y, R => eqvD x y fun b => R (.bl (!b))
def isN : Dt → Bool
  | .non => true
  | _ => false
def isD : D2
  | x, .non, R => R (.bl (isN x))
  | .bl a, .bl b, R => R (.bl (decide (a = b)))
  | _, _, _ => False
def isntD : D2
  | x, .non, R => R (.bl (!isN x))
  | .bl a, .bl b, R => R (.bl (!decide (a = b)))
  | _, _, _ => False
/-- a value that is no object -/
def flD : Dt → Option V
  | .non => some .non
  | .bl b => some (.bl b)
  | .int i => some (.int i)
  | .str z => some (.str z)
  | _ => none
def flDs : List Dt → Option (List V)
  | [] => some []
  | d :: l => match flD d, flDs l with
    | some v, some r => some (v :: r)
    | _, _ => none
def inD (neg : Bool) : D2
  | .str a, .str b, R => ∃ k, a = ⟨#[k]⟩ ∧ R (.bl (if neg then !decide (k ∈ b.cps.toList) else decide (k ∈ b.cps.toList)))
  | x, .lst l, R => ∃ v vs, flD x = some v ∧ flDs l = some vs ∧ R (.bl (if neg then !inV v vs else inV v vs))
  | x, .tup l, R => ∃ v vs, flD x = some v ∧ flDs l = some vs ∧ R (.bl (if neg then !inV v vs else inV v vs))
  | _, _, _ => False
def negD : D1
  | .int i, R => R (.int (-i))
  | _, _ => False
def lenD : DN
  | [.str z], R => z.length ≤ 1000000 ∧ R (.int z.length)
  | [.lst l], R => R (.int l.length)
  | [.sq l], R => R (.int l.length)
  | [.tup l], R => R (.int l.length)
  | _, _ => False
def int1D : DN
  | [.int i], R => R (.int i)
  | [.bl b], R => R (.int (if b then 1 else 0))
  | _, _ => False
def absD : DN
  | [.int i], R => R (.int (if i < 0 then -i else i))
  | _, _ => False
def maxD : DN
  | [.int i, .int j], R => R (.int (if j > i then j else i))
  | _, _ => False
def minD : DN
  | [.int i, .int j], R => R (.int (if j < i then j else i))
  | _, _ => False
def blsD : List Dt → Option (List Bool)
  | [] => some []
  | .bl b :: l => (blsD l).map (b :: ·)
  | _ => none
def allD : DN
  | [.lst l], R => ∃ bs, blsD l = some bs ∧ R (.bl (bs.all id))
  | _, _ => False
def strD : DN
  | [.int i], R => i.natAbs.log2 < 1920 ∧ R (.str (toString i))
  | [.str z], R => R (.str z)
  | _, _ => False
def tupD : DN
  | [.lst l], R => R (.tup l)
  | [.tup l], R => R (.tup l)
  | _, _ => False
def listD : DN
  | [.lst l], R => R (.lst l)
  | [.tup l], R => R (.lst l)
  | _, _ => False
/-- what isinstance sees: locked dicts with tuple keys too -/
inductive TyY (K : PySem.W.Frag) (H : Hp) : V → Value → Prop where
  | of {x : V} {t : Value} (h : TyX K H x t) : TyY K H x t
  | dt {a : Addr} {o : Obj} {kvs : List (List Key × V)} (e : H a = some (.frz o (.dT kvs))) : TyY K H (.ref a) (.type "dict")
def rIsiY (K : PySem.W.Frag) : List V → Hp → VK → Prop := fun xs H Q => ∃ (x c : V) (t u : Value) (b : Bool), xs = [x, c] ∧ ClsV c u ∧ TyY K H x t ∧ PySem.W.kitOne K t u = some b ∧ Q (.bl b) H
theorem kit_ofY {X : Cx} {pins : List (Addr × Obj)} {σ : L2.St} {H : Hp} {s : Shared} {x : V} {u t : Value} (I : Inv X pins σ H s) (rx : RelV x u) (ty : TyY X.K H x t) : ∃ P : Heap → Prop, PySem.W.KitX X.K u t P ∧ P s.heap ∧ u ≠ .builtin "__main__.__loader__#opaque" := by
  cases ty with
  | of h => exact kit_of I rx h
  | @dt a ob kvs ea =>
    cases (show u = Value.ref a from rx)
    obtain ⟨_, _, _, xs, _, o, es, ep, h1, h2, _⟩ := (show ObjOk X.prog X.w H s.heap a (.frz ob (.dT kvs)) from I.hok a _ ea)
    exact ⟨_, PySem.W.kitx_dict, ⟨o, h1, h2.1⟩, fun z => nomatch z⟩
def tyN : Dt → Option String
  | .non => some "NoneType"
  | .bl _ => some "bool"
  | .int _ => some "int"
  | .str _ => some "str"
  | .lst _ => some "list"
  | .tup _ => some "tuple"
  | .dic _ => some "dict"
  | .dit _ => some "dict"
  | _ => none
def kinds7 : List String := ["NoneType", "bool", "int", "str", "tuple", "list", "dict"]
def isB (T n : String) : Bool := T == n || (T == "bool" && n == "int")
theorem kitB_is : ∀ T ∈ kinds7, ∀ n ∈ kinds7, kitB T n = some (isB T n) := by decide +kernel
theorem tyN_kinds {d : Dt} {T : String} (h : tyN d = some T) : T ∈ kinds7 := by
  cases d <;> first | (cases h; decide) | cases h
def isiD : DN
  | [d, .ty n], R => n ∈ kinds7 ∧ match d with
    | .ins _ _ => R (.bl false)
    | d => ∃ T, tyN d = some T ∧ R (.bl (isB T n))
  | [d, .cls C], R => match d with
    | .ins C' _ => R (.bl (decide (C' = C)))
    | d => ∃ T, tyN d = some T ∧ R (.bl false)
  | _, _ => False
def ixD : D2
  | .lst l, .int i, R => ∃ d, atI l i = some d ∧ R d
  | .sq l, .int i, R => ∃ d, atI l i = some d ∧ R d
  | .tup l, .int i, R => ∃ d, atI l i = some d ∧ R d
  | .str z, .int i, R => z.length ≤ 1000000 ∧ ∃ k, atI z.cps.toList i = some k ∧ R (.str ⟨#[k]⟩)
  | _, _, _ => False
def cutD (l : List Dt) (lo hi : Option Int) : List Dt := (l.drop (HT.sIx l.length 0 lo)).take (HT.sIx l.length l.length hi - HT.sIx l.length 0 lo)
def slLD : DSl
  | .lst l, lo, hi, R => R (.lst (cutD l lo hi))
  | _, _, _, _ => False
def slTD : DSl
  | .tup l, lo, hi, R => R (.tup (cutD l lo hi))
  | _, _, _, _ => False
def slSD : DSl
  | .str z, lo, hi, R => z.length ≤ 1000000 ∧ R (.str (cutS z lo hi))
  | _, _, _, _ => False
def strsD : List Dt → Option (List Str)
  | [] => some []
  | .str b :: l => (strsD l).map (b :: ·)
  | _ => none
def joinD : DM
  | .str a, [.lst l], R => ∃ ys, strsD l = some ys ∧ (ys.map (·.length)).sum + ys.length * a.length ≤ 16777216 ∧ R (.str (Txt.join a ys))
  | .str a, [.tup l], R => ∃ ys, strsD l = some ys ∧ (ys.map (·.length)).sum + ys.length * a.length ≤ 16777216 ∧ R (.str (Txt.join a ys))
  | _, _, _ => False
def splitD : DM
  | .str a, [.str b], R => ((b.length == 0) = false ∧ a.length ≤ 1000000) ∧ R (.lst ((Txt.split a b).map .str))
  | _, _, _ => False

/-! ### that the rules keep them -/
section
variable {X : Cx}
theorem op_powW : OpR X (binaryOp .Pow) (rI CPowW fun i j => .int (i ^ j.toNat)) := opI fun _ _ _ _ _ _ _ hc q => pow_int hc.1 hc.2 q
abbrev rAddS : R2 := fun x y H Q => ∃ i j, x = .str i ∧ y = .str j ∧ i.length + j.length ≤ sizeLine ∧ Q (.str (i ++ j)) H
def rAddA (K : PySem.W.Frag) : R2 := fun x y H Q => (rI0 fun i j => .int (i + j)) x y H Q ∨ (rAddS x y H Q ∨ (rCat x y H Q ∨ rCatA K x y H Q))
theorem opAdd {K : PySem.W.Frag} (hK : X.K = K) : OpR X (binaryOp .Add) (rAddA K) := by subst hK; exact op_add.or (op_add_str.or (op_cat.or op_catA))
def rMulS : R2 := fun x y H Q => ∃ z n, x = .str z ∧ y = .int n ∧ PySem.MulOk z n ∧ Q (.str (Txt.mul z n)) H
theorem op_mulS : OpR X (binaryOp .Mult) rMulS := by
  intro pins s σ H x y v u Q I rx ry h
  obtain ⟨z, n, rfl, rfl, ok, q⟩ := h
  obtain ⟨t, rfl⟩ := rx
  obtain ⟨t', rfl⟩ := ry
  exact PySem.SB.mul ok fun t' k => ⟨.str _, H, I.tok _, ⟨_, rfl⟩, q⟩
def rMulA (K : PySem.W.Frag) : R2 := fun x y H Q => (rI CMul fun i j => .int (i * j)) x y H Q ∨ (rRep x y H Q ∨ rMulS x y H Q)
theorem opMul {K : PySem.W.Frag} (hK : X.K = K) : OpR X (binaryOp .Mult) (rMulA K) := op_mul.or (op_rep.or op_mulS)
def rEqA (K : PySem.W.Frag) : R2 := fun x y H Q => rEq x y H Q ∨ rEqD K x y H Q
theorem opEq {K : PySem.W.Frag} (hK : X.K = K) (hu : X.A.units + 64 < cLine) : OpR X (compareOp .Eq) (rEqA K) := by subst hK; exact op_eq.or (op_eqD hu)
def rNeA (K : PySem.W.Frag) : R2 := fun x y H Q => rNe x y H Q ∨ rNeD K x y H Q
theorem opNe {K : PySem.W.Frag} (hK : X.K = K) (hu : X.A.units + 64 < cLine) : OpR X (compareOp .NotEq) (rNeA K) := by subst hK; exact op_ne.or (op_neD hu)
abbrev rIsNA : R2 := fun x y H Q => y = .non ∧ Q (.bl (decide (x = .non))) H
abbrev rIsBA : R2 := fun x y H Q => ∃ a b, x = .bl a ∧ y = .bl b ∧ Q (.bl (decide (a = b))) H
def rIsA : R2 := fun x y H Q => rIsNA x y H Q ∨ rIsBA x y H Q
theorem opIs : OpR X (compareOp .Is) rIsA := op_isN.or op_is_bl
abbrev rNotNA : R2 := fun x y H Q => y = .non ∧ Q (.bl (!decide (x = .non))) H
abbrev rNotBA : R2 := fun x y H Q => ∃ a b, x = .bl a ∧ y = .bl b ∧ Q (.bl (!decide (a = b))) H
def rNotA : R2 := fun x y H Q => rNotNA x y H Q ∨ rNotBA x y H Q
theorem opIsNot : OpR X (compareOp .IsNot) rNotA := op_notN.or op_isnot_bl
abbrev rInS : R2 := fun x y H Q => ∃ (c : Nat) (z : Str), x = .str ⟨#[c]⟩ ∧ y = .str z ∧ Q (.bl (decide (c ∈ z.cps.toList))) H
def rInA (K : PySem.W.Frag) : R2 := fun x y H Q => rInS x y H Q ∨ rIn K false x y H Q
theorem opIn {K : PySem.W.Frag} (hK : X.K = K) : OpR X (compareOp .In) (rInA K) := by subst hK; exact op_in_sign.or op_in_seq
abbrev rNiS : R2 := fun x y H Q => ∃ (c : Nat) (z : Str), x = .str ⟨#[c]⟩ ∧ y = .str z ∧ Q (.bl (!decide (c ∈ z.cps.toList))) H
def rNiA (K : PySem.W.Frag) : R2 := fun x y H Q => rNiS x y H Q ∨ rIn K true x y H Q
theorem opNotIn {K : PySem.W.Frag} (hK : X.K = K) : OpR X (compareOp .NotIn) (rNiA K) := by subst hK; exact op_notIn_sign.or op_notIn_seq
theorem pe_g {x : Str} {v : V} {pos : Pos} (hg : Gl X x) (h : ∃ u, X.mg x = some u ∧ RelV v u) (hd : (x == ("__debug__" : Str)) = false := by decide) : PE X (.Name x pos) (tC v) :=
  let ⟨_, h1, h2⟩ := h
  pe_glob hg h1 h2 hd
theorem pe_bty (n : String) {x : Str} {pos : Pos} (hg : Gl X x) (hm : X.mg x = none) (hv : bootBuiltins x = some (.type n)) (hn : x ≠ "__name__" := by decide) (hd : (x == ("__debug__" : Str)) = false := by decide) : PE X (.Name x pos) (tC (.ty n)) :=
  pe_bltn hg hm hv rfl hn hd
theorem pe_cl {x : Str} {C : Addr} {pos : Pos} (hg : Gl X x) (h : X.mg x = some (.ref C)) (hd : (x == ("__debug__" : Str)) = false := by decide) : PE X (.Name x pos) (tC (.ref C)) := pe_g hg ⟨_, h, rfl⟩ hd
abbrev rStrI : List V → Hp → VK → Prop := fun xs H Q => ∃ i, xs = [.int i] ∧ i.natAbs.log2 < 1920 ∧ Q (.str (toString i)) H
abbrev rStrS : List V → Hp → VK → Prop := fun xs H Q => ∃ a, xs = [.str a] ∧ Q (.str a) H
def rStrA : List V → Hp → VK → Prop := fun xs H Q => rStrI xs H Q ∨ rStrS xs H Q
theorem callStr : CallR X (.type "str") rStrA := call_str_int.or SkE.call_str_str
abbrev rLenV (K : PySem.W.Frag) : List V → Hp → VK → Prop := fun xs H Q => ∃ x n, xs = [x] ∧ LenV K x H n ∧ Q (.int n) H
theorem callLen {K : PySem.W.Frag} (hK : X.K = K) : CallR X (.builtin "len") (rLenV K) := by subst hK; exact call_len
theorem callAll {K : PySem.W.Frag} (hK : X.K = K) (hc : X.calm = true) : CallR X (.builtin "all") (rAll K) := by subst hK; exact cr_all hc
theorem callIsi {K : PySem.W.Frag} (hK : X.K = K) : CallR X (.builtin "isinstance") (rIsiY K) := by
  subst hK
  intro pins s σ H xs us Q I r h
  obtain ⟨x, c, t, u, b, rfl, k, ty, e, q⟩ := h
  obtain ⟨u1, u2, rfl, r1, r2⟩ := vals2 r
  have e2 := k.eq r2
  subst e2
  obtain ⟨P, Z, p, hx⟩ := kit_ofY I r1 ty
  exact PySem.W.kia_one Z I.kIn p e hx fun tk => ⟨.bl b, H, I.tok tk, rfl, q⟩
theorem ixA {K : PySem.W.Frag} (hK : X.K = K) : IxR X (rIx K) := by subst hK; exact ix_seq
theorem piList {K : PySem.W.Frag} (hK : X.K = K) {tg e : Expr} {te : TE} (he : PE X e te) : PI X tg e (iList K te) := by subst hK; exact pi_list he
theorem piTup {K : PySem.W.Frag} (hK : X.K = K) {tg e : Expr} {te : TE} (he : PE X e te) : PI X tg e (iTup K te) := by subst hK; exact pi_tup he
abbrev rJoin (K : PySem.W.Frag) : V → List V → Hp → VK → Prop := fun x xs H Q => ∃ a p, ∃ ys : List Str, x = .str a ∧ xs = [.ref p] ∧ (SqL K H p (ys.map V.str) ∨ SqT K H p (ys.map V.str)) ∧
    (ys.map (·.length)).sum + ys.length * a.length ≤ 16777216 ∧ Q (.str (Txt.join a ys)) H
theorem mtJoin {K : PySem.W.Frag} (hK : X.K = K) : MtR X "str.join" (rJoin K) := by
  subst hK
  exact mt_join
def rSplit : V → List V → Hp → VK → Prop := fun x xs H Q => ∃ a b, x = .str a ∧ xs = [.str b] ∧ (b.length == 0) = false ∧ a.length + 2 ≤ sizeLine ∧ rNewStrs (Txt.split a b) H Q
theorem mtSplit : MtR X "str.split" rSplit := mt_split
theorem peBm {K : PySem.W.Frag} (hK : X.K = K) {o e : Expr} {es : List Expr} {to : TE} {t : TA} {name : Str} {apos cpos : Pos} {T id : String} {r : V → List V → Hp → VK → Prop} (pa : PlainAttrs T) (slot : Slot T name id) (hty : typeOf (.builtin id) = pure (.type "method_descriptor")) (hm : MtR X id r) (ho : PE X o to) (ha : PA X (e :: es) t)
    (hbase : attributeBase o name X.env (eval o X.env) = eval o X.env := by rfl)
    (hfew : ((backTo cpos (starEach (e :: es) X.env)).all (fun x => !x.1) && (backToKw cpos (keywordEach [] X.env)).all (fun x => x.1.isSome) && decide ((e :: es).length + ([] : List Keyword).length + (if ([] : List Keyword).isEmpty then 0 else 1) < 30)) = true := by rfl)
    (hline : (apos.endLine == cpos.line) = true := by rfl) (hs : starEach (e :: es) X.env = (false, eval e X.env) :: starEach es X.env := by rfl) (hplain : (backTo cpos (starEach es X.env)).any (·.1) = false := by rfl) :
    PE X (.Call (.Attribute o name apos) (e :: es) [] cpos) (tBM K T r to t) := by
  subst hK
  exact pe_bm pa slot hty hm ho ha hbase hfew hline hs hplain
theorem paStar {K : PySem.W.Frag} (hK : X.K = K) {e : Expr} {es : List Expr} {te : TE} {t : TA} {p : Pos} (he : PE X e te) (hr : PA X es t) (hs : starEach (.Starred e p :: es) X.env = (true, eval e X.env) :: starEach es X.env := by rfl) : PA X (.Starred e p :: es) (StX.tStar K te t) := by
  subst hK; exact StX.pa_star he hr hs
theorem pgUnl {K : PySem.W.Frag} (hK : X.K = K) {es : List Expr} {k : Nat} {t : TGs} {n : Nat} {pos : Pos} (hc : X.calm = true) (h : PGs X es t)
    (hn : (assignEach es X.env).length = n := by rfl) (hst : (assignEach es X.env).findIdx? (·.1) = none := by rfl) : PG X (.Tuple es k pos) (gUnl K n t) := by
  subst hK; exact pg_unl hc h hn hst
theorem pgTup {K : PySem.W.Frag} (hK : X.K = K) {es : List Expr} {k : Nat} {t : TGs} {n : Nat} {pos : Pos} (hc : X.calm = true) (h : PGs X es t)
    (hn : (assignEach es X.env).length = n := by rfl) (hst : (assignEach es X.env).findIdx? (·.1) = none := by rfl) : PG X (.Tuple es k pos) (gTup K n t) := by
  subst hK; exact pg_tup hc h hn hst
def rToTup (K : PySem.W.Frag) : List V → Hp → VK → Prop := fun xs H Q => ∃ p ys, xs = [.ref p] ∧ ((SqL K H p ys ∧ ∀ l, H l = none → Q (.ref l) (upd H l (.tup ys))) ∨ (SqT K H p ys ∧ Q (.ref p) H))
theorem callTuple {K : PySem.W.Frag} (hK : X.K = K) : CallR X (.type "tuple") (rToTup K) := by subst hK; exact call_tuple_of
def rToLst (K : PySem.W.Frag) : List V → Hp → VK → Prop := fun xs H Q => ∃ p ys, xs = [.ref p] ∧ (SqL K H p ys ∨ SqT K H p ys) ∧ ∀ l, H l = none → Q (.ref l) (upd H l (.lst ys))
theorem callList {K : PySem.W.Frag} (hK : X.K = K) : CallR X (.type "list") (rToLst K) := by subst hK; exact call_list_of
theorem slList {K : PySem.W.Frag} (hK : X.K = K) : SlR X (rSlL K) := by subst hK; exact sl_list
abbrev rInt1 : List V → Hp → VK → Prop := fun xs H Q => (∃ i, xs = [.int i] ∧ Q (.int i) H) ∨ ∃ k, xs = [.bl k] ∧ Q (.int (if k then 1 else 0)) H
abbrev rAbs : List V → Hp → VK → Prop := fun xs H Q => ∃ i, xs = [.int i] ∧ Q (.int (if i < 0 then -i else i)) H
abbrev rMax2 : List V → Hp → VK → Prop := fun xs H Q => ∃ i j, xs = [.int i, .int j] ∧ Q (.int (if j > i then j else i)) H
abbrev rMin2 : List V → Hp → VK → Prop := fun xs H Q => ∃ i j, xs = [.int i, .int j] ∧ Q (.int (if j < i then j else i)) H
end
section
variable {c : Kc}
theorem ro_add : RO2 c (rAddA c.K) addD := fun d e R m G H v u ex d1 d2 Q q => by
  match d, e, m with
  | .int i, .int j, m => cases d1; cases d2; exact .inl ⟨i, j, rfl, rfl, q _ (.int (i + j)) G H (Go.refl ex) rfl m⟩
  | .str a, .str b, m => cases d1; cases d2; exact .inr (.inl ⟨a, b, rfl, rfl, sz_of m.1, q _ (.str (a ++ b)) G H (Go.refl ex) rfl m.2⟩)
  | .lst l, .lst k, m =>
    obtain ⟨a, xs, rfl, h1, h2⟩ := d1
    obtain ⟨b, ys, rfl, h3, h4⟩ := d2
    exact .inr (.inr (.inl ⟨a, b, xs, ys, rfl, rfl, ex _ _ h1, ex _ _ h3, by rw [h2.len, h4.len]; exact sz_of m.1, fun p hp => q _ (.lst (l ++ k)) _ _ (Go.new ex hp) (dat_newL (h2.app h4) (ex.free hp)) m.2⟩))
  | .tup l, .tup k, m =>
    obtain ⟨a, xs, rfl, h1, h2⟩ := d1
    obtain ⟨b, ys, rfl, h3, h4⟩ := d2
    obtain ⟨m1, m2⟩ := m
    have l1 := h2.len
    have l2 := h4.len
    refine .inr (.inr (.inr ⟨a, b, xs, ys, rfl, rfl, Ex.tp ex.ex h1, Ex.tp ex.ex h3, by rw [l1, l2]; exact sz_of m1, fun z => ?_, fun _ z => ?_, fun _ _ p hp => q _ (.tup (l ++ k)) _ _ (Go.new ex hp) (dat_newT (h2.app h4) (ex.free hp)) m2⟩))
    · subst z
      have z : l = [] := List.length_eq_zero_iff.mp (by rw [← l1]; rfl)
      subst z
      exact q _ (.tup k) G H (Go.refl ex) ⟨b, ys, rfl, h3, h4⟩ m2
    · subst z
      have z : k = [] := List.length_eq_zero_iff.mp (by rw [← l2]; rfl)
      subst z
      rw [List.append_nil] at m2
      exact q _ (.tup l) G H (Go.refl ex) ⟨a, xs, rfl, h1, h2⟩ m2
theorem ro_sub : RO2 c (rI0 fun i j => .int (i - j)) subD := fun d e R m G H v u ex d1 d2 Q q => by
  match d, e, m with
  | .int i, .int j, m => cases d1; cases d2; exact ⟨i, j, rfl, rfl, q _ (.int (i - j)) G H (Go.refl ex) rfl m⟩
theorem Dats.rep {G : Hp} {l : List Dt} {xs : List V} (d : Dats c G l xs) : ∀ n : Nat, Dats c G (List.replicate n l).flatten (List.replicate n xs).flatten
  | 0 => rfl
  | n + 1 => by
    rw [List.replicate_succ, List.replicate_succ, List.flatten_cons, List.flatten_cons]
    exact d.app (Dats.rep d n)
theorem ro_mul : RO2 c (rMulA c.K) mulD := fun d e R m G H v u ex d1 d2 Q q => by
  match d, e, m with
  | .int i, .int j, m => cases d1; cases d2; exact .inl ⟨i, j, rfl, rfl, m.1, q _ (.int (i * j)) G H (Go.refl ex) rfl m.2⟩
  | .lst l, .int j, ⟨⟨h0, hj, hl⟩, m⟩ =>
    obtain ⟨a, xs, rfl, h1, h2⟩ := d1
    cases d2
    have hz : l.length * j.toNat ≤ 1000 * 1000 := Nat.mul_le_mul hl (by omega)
    exact .inr (.inl ⟨a, j, xs, rfl, rfl, ex _ _ h1, by omega, by omega, by rw [h2.len]; exact sz_of hz, fun p hp => q _ (.lst _) _ _ (Go.new ex hp) (dat_newL (h2.rep j.toNat) (ex.free hp)) m⟩)
  | .str z, .int j, m => cases d1; cases d2; exact .inr (.inr ⟨z, j, rfl, rfl, m.1, q _ (.str _) G H (Go.refl ex) rfl m.2⟩)
theorem ro_mod : RO2 c (rI (fun _ j => 0 < j) fun i j => .int (i % j)) modD := fun d e R m G H v u ex d1 d2 Q q => by
  match d, e, m with
  | .int i, .int j, m => cases d1; cases d2; exact ⟨i, j, rfl, rfl, m.1, q _ (.int (i % j)) G H (Go.refl ex) rfl m.2⟩
theorem ro_fdiv : RO2 c (rI CDivW fun i j => .int (i / j)) fdivD := fun d e R m G H v u ex d1 d2 Q q => by
  match d, e, m with
  | .int i, .int j, m => cases d1; cases d2; exact ⟨i, j, rfl, rfl, m.1, q _ (.int (i / j)) G H (Go.refl ex) rfl m.2⟩
theorem ro_pow : RO2 c (rI CPowW fun i j => .int (i ^ j.toNat)) powD := fun d e R m G H v u ex d1 d2 Q q => by
  match d, e, m with
  | .int i, .int j, m => cases d1; cases d2; exact ⟨i, j, rfl, rfl, m.1, q _ (.int (i ^ j.toNat)) G H (Go.refl ex) rfl m.2⟩
theorem ro_cmp {p : Int → Int → Bool} : RO2 c (rI0 fun i j => .bl (p i j)) (cmpD p) := fun d e R m G H v u ex d1 d2 Q q => by
  match d, e, m with
  | .int i, .int j, m => cases d1; cases d2; exact ⟨i, j, rfl, rfl, q _ (.bl (p i j)) G H (Go.refl ex) rfl m⟩
mutual
theorem dp_of {G : Hp} : ∀ {d : Dt} {p : PyData} {v : V}, Dat c G d v → toPy d = some p → Dp c.K G v p
  | .non, _, _, h, e => by cases h; cases e; exact .non
  | .bl _, _, _, h, e => by cases h; cases e; exact .bl _
  | .int _, _, _, h, e => by cases h; cases e; exact .int _
  | .str _, _, _, h, e => by cases h; cases e; exact .str _
  | .lst l, _, _, ⟨a, xs, h1, h2, h3⟩, e => by
    subst h1
    unfold toPy at e
    cases q : toPys l with
    | none => rw [q] at e; cases e
    | some ps => rw [q] at e; cases e; exact .lst (.inl (.inl h2)) (dps_of h3 q)
  | .sq l, _, _, ⟨a, xs, h1, h2, h3⟩, e => by
    subst h1
    unfold toPy at e
    cases q : toPys l with
    | none => rw [q] at e; cases e
    | some ps => rw [q] at e; cases e; exact .lst h2 (dps_of h3 q)
  | .tup l, _, _, ⟨a, xs, h1, h2, h3⟩, e => by
    subst h1
    unfold toPy at e
    cases q : toPys l with
    | none => rw [q] at e; cases e
    | some ps => rw [q] at e; cases e; exact .tup (.inl (.inl h2)) (dps_of h3 q)
  | .ty _, _, _, _, e => by cases e
  | .dic _, _, _, _, e => by cases e
  | .dit _, _, _, _, e => by cases e
  | .set _, _, _, _, e => by cases e
  | .ins _ _, _, _, _, e => by cases e
  | .cls _, _, _, _, e => by cases e
  | .dice, _, _, _, e => by cases e
theorem dps_of {G : Hp} : ∀ {l : List Dt} {ps : List PyData} {xs : List V}, Dats c G l xs → toPys l = some ps → DpAll c.K G xs ps
  | [], _, _, h, e => by cases h; cases e; exact .nil
  | d :: l, _, _, ⟨x, r, h1, h2, h3⟩, e => by
    subst h1
    unfold toPys at e
    cases q1 : toPy d with
    | none => rw [q1] at e; cases e
    | some p =>
      cases q2 : toPys l with
      | none => rw [q1, q2] at e; cases e
      | some ps => rw [q1, q2] at e; cases e; exact .cons (dp_of h2 q1) (dps_of h3 q2)
end
theorem ro_eq : RO2 c (rEqA c.K) eqD := fun d e R m G H v u ex d1 d2 Q q => by
  have gen : eqvD d e (fun b => R (.bl b)) → rEqA c.K v u H Q := fun ⟨p, r, h1, h2, h3, h4, h5⟩ => .inr ⟨p, r, dp_of (d1.up ex.ex) h1, dp_of (d2.up ex.ex) h2, h3, h4, q _ (.bl _) G H (Go.refl ex) rfl h5⟩
  unfold eqD at m
  split at m
  · rename_i i j
    cases d1; cases d2
    have z : decide ((V.int i) = V.int j) = decide (i = j) := by simp
    exact .inl ⟨rfl, by rw [z]; exact q _ (.bl _) G H (Go.refl ex) rfl m⟩
  · rename_i i j
    cases d1; cases d2
    have z : decide ((V.str i) = V.str j) = decide (i = j) := by simp
    exact .inl ⟨rfl, by rw [z]; exact q _ (.bl _) G H (Go.refl ex) rfl m⟩
  · rename_i i j
    cases d1; cases d2
    have z : decide ((V.bl i) = V.bl j) = decide (i = j) := by rw [Bool.eq_iff_iff]; simp
    exact .inl ⟨rfl, by rw [z]; exact q _ (.bl _) G H (Go.refl ex) rfl m⟩
  · exact gen m
theorem ro_ne : RO2 c (rNeA c.K) neD := fun d e R m G H v u ex d1 d2 Q q => by
  have gen : eqvD d e (fun b => R (.bl (!b))) → rNeA c.K v u H Q := fun ⟨p, r, h1, h2, h3, h4, h5⟩ => .inr ⟨p, r, dp_of (d1.up ex.ex) h1, dp_of (d2.up ex.ex) h2, h3, h4, q _ (.bl _) G H (Go.refl ex) rfl h5⟩
  unfold neD at m
  split at m
  · rename_i i j
    cases d1; cases d2
    have z : decide ((V.int i) = V.int j) = decide (i = j) := by simp
    exact .inl ⟨rfl, by rw [z]; exact q _ (.bl _) G H (Go.refl ex) rfl m⟩
  · rename_i i j
    cases d1; cases d2
    have z : decide ((V.str i) = V.str j) = decide (i = j) := by simp
    exact .inl ⟨rfl, by rw [z]; exact q _ (.bl _) G H (Go.refl ex) rfl m⟩
  · rename_i i j
    cases d1; cases d2
    have z : decide ((V.bl i) = V.bl j) = decide (i = j) := by rw [Bool.eq_iff_iff]; simp
    exact .inl ⟨rfl, by rw [z]; exact q _ (.bl _) G H (Go.refl ex) rfl m⟩
  · exact gen m
theorem dat_non {G : Hp} {d : Dt} {v : V} (h : Dat c G d v) : decide (v = .non) = isN d := by
  cases d with
  | non => cases h; rfl
  | bl _ => cases h; rfl
  | int _ => cases h; rfl
  | str _ => cases h; rfl
  | ty _ => cases h; rfl
  | cls _ => obtain ⟨rfl, _⟩ := h; rfl
  | lst _ => obtain ⟨_, _, rfl, _⟩ := h; rfl
  | sq _ => obtain ⟨_, _, rfl, _⟩ := h; rfl
  | tup _ => obtain ⟨_, _, rfl, _⟩ := h; rfl
  | dic _ => obtain ⟨_, _, _, rfl, _⟩ := h; rfl
  | dit _ => obtain ⟨_, _, _, rfl, _⟩ := h; rfl
  | set _ => obtain ⟨_, _, _, rfl, _⟩ := h; rfl
  | ins _ _ => obtain ⟨_, _, _, rfl, _⟩ := h; rfl
  | dice => obtain ⟨_, rfl, _⟩ := h; rfl
  | adr _ => cases h; rfl
theorem ro_is : RO2 c rIsA isD := fun d e R m G H v u ex d1 d2 Q q => by
  unfold isD at m
  split at m
  · cases d2
    rw [← dat_non d1] at m
    exact .inl ⟨rfl, q _ (.bl _) G H (Go.refl ex) rfl m⟩
  · cases d1; cases d2; exact .inr ⟨_, _, rfl, rfl, q _ (.bl _) G H (Go.refl ex) rfl m⟩
  · exact m.elim
theorem ro_isnt : RO2 c rNotA isntD := fun d e R m G H v u ex d1 d2 Q q => by
  unfold isntD at m
  split at m
  · cases d2
    rw [← dat_non d1] at m
    exact .inl ⟨rfl, q _ (.bl _) G H (Go.refl ex) rfl m⟩
  · cases d1; cases d2; exact .inr ⟨_, _, rfl, rfl, q _ (.bl _) G H (Go.refl ex) rfl m⟩
  · exact m.elim
theorem fl_of {G : Hp} {d : Dt} {v u : V} (h : Dat c G d v) (e : flD d = some u) : v = u ∧ flatV v = true := by
  cases d <;> first | (cases h; cases e; exact ⟨rfl, rfl⟩) | cases e
theorem fls_of {G : Hp} : ∀ {l : List Dt} {xs us : List V}, Dats c G l xs → flDs l = some us → xs = us ∧ xs.all flatV = true
  | [], _, _, h, e => by cases h; cases e; exact ⟨rfl, rfl⟩
  | d :: l, _, _, ⟨x, r, h1, h2, h3⟩, e => by
    subst h1
    unfold flDs at e
    cases q1 : flD d with
    | none => rw [q1] at e; cases e
    | some p =>
      cases q2 : flDs l with
      | none => rw [q1, q2] at e; cases e
      | some ps =>
        rw [q1, q2] at e
        cases e
        obtain ⟨rfl, f1⟩ := fl_of h2 q1
        obtain ⟨rfl, f2⟩ := fls_of h3 q2
        exact ⟨rfl, by rw [List.all_cons, f1, f2]; rfl⟩
theorem ro_in : RO2 c (rInA c.K) (inD false) := fun d e R m G H v u ex d1 d2 Q q => by
  unfold inD at m
  split at m
  · obtain ⟨k, rfl, m⟩ := m
    cases d1; cases d2
    exact .inl ⟨k, _, rfl, rfl, q _ (.bl _) G H (Go.refl ex) rfl m⟩
  · obtain ⟨y, ys, h1, h2, m⟩ := m
    obtain ⟨a, xs, rfl, h3, h4⟩ := d2
    obtain ⟨rfl, f1⟩ := fl_of d1 h1
    obtain ⟨rfl, f2⟩ := fls_of h4 h2
    exact .inr ⟨a, _, rfl, .inl (.inl (.inl (ex _ _ h3))), f1, f2, q _ (.bl _) G H (Go.refl ex) rfl m⟩
  · obtain ⟨y, ys, h1, h2, m⟩ := m
    obtain ⟨a, xs, rfl, h3, h4⟩ := d2
    obtain ⟨rfl, f1⟩ := fl_of d1 h1
    obtain ⟨rfl, f2⟩ := fls_of h4 h2
    exact .inr ⟨a, _, rfl, .inr (Ex.tp ex.ex h3), f1, f2, q _ (.bl _) G H (Go.refl ex) rfl m⟩
  · exact m.elim
theorem ro_nin : RO2 c (rNiA c.K) (inD true) := fun d e R m G H v u ex d1 d2 Q q => by
  unfold inD at m
  split at m
  · obtain ⟨k, rfl, m⟩ := m
    cases d1; cases d2
    exact .inl ⟨k, _, rfl, rfl, q _ (.bl _) G H (Go.refl ex) rfl m⟩
  · obtain ⟨y, ys, h1, h2, m⟩ := m
    obtain ⟨a, xs, rfl, h3, h4⟩ := d2
    obtain ⟨rfl, f1⟩ := fl_of d1 h1
    obtain ⟨rfl, f2⟩ := fls_of h4 h2
    exact .inr ⟨a, _, rfl, .inl (.inl (.inl (ex _ _ h3))), f1, f2, q _ (.bl _) G H (Go.refl ex) rfl m⟩
  · obtain ⟨y, ys, h1, h2, m⟩ := m
    obtain ⟨a, xs, rfl, h3, h4⟩ := d2
    obtain ⟨rfl, f1⟩ := fl_of d1 h1
    obtain ⟨rfl, f2⟩ := fls_of h4 h2
    exact .inr ⟨a, _, rfl, .inr (Ex.tp ex.ex h3), f1, f2, q _ (.bl _) G H (Go.refl ex) rfl m⟩
  · exact m.elim
theorem ro_neg : RO1 c (rU fun i => .int (-i)) negD := fun d R m G H v ex d1 Q q => by
  match d, m with
  | .int i, m => cases d1; exact ⟨i, rfl, q _ (.int _) G H (Go.refl ex) rfl m⟩
theorem ro_len : RON c (rLenV c.K) lenD := fun ds R m G H vs ex d Q q => by
  match ds, m with
  | [.str z], m => obtain ⟨v, r, rfl, d1, d2⟩ := d; cases d1; cases d2; exact ⟨_, _, rfl, ⟨sz_of m.1, rfl⟩, q _ (.int _) G H (Go.refl ex) rfl m.2⟩
  | [.lst l], m =>
    obtain ⟨v, r, rfl, ⟨a, xs, rfl, h1, h2⟩, d2⟩ := d
    cases d2
    have m : R (.int l.length) := m
    rw [← h2.len] at m
    exact ⟨_, _, rfl, .inl ⟨xs, .inl (.inl (ex _ _ h1)), rfl⟩, q _ (.int _) G H (Go.refl ex) rfl m⟩
  | [.sq l], m =>
    obtain ⟨v, r, rfl, ⟨a, xs, rfl, h1, h2⟩, d2⟩ := d
    cases d2
    have m : R (.int l.length) := m
    rw [← h2.len] at m
    exact ⟨_, _, rfl, .inl ⟨xs, ex.seq h1, rfl⟩, q _ (.int _) G H (Go.refl ex) rfl m⟩
  | [.tup l], m =>
    obtain ⟨v, r, rfl, ⟨a, xs, rfl, h1, h2⟩, d2⟩ := d
    cases d2
    have m : R (.int l.length) := m
    rw [← h2.len] at m
    exact ⟨_, _, rfl, .inr ⟨xs, Ex.tp ex.ex h1, rfl⟩, q _ (.int _) G H (Go.refl ex) rfl m⟩
theorem ro_int1 : RON c rInt1 int1D := fun ds R m G H vs ex d Q q => by
  match ds, m with
  | [.int i], m => obtain ⟨v, r, rfl, d1, d2⟩ := d; cases d1; cases d2; exact .inl ⟨i, rfl, q _ (.int _) G H (Go.refl ex) rfl m⟩
  | [.bl i], m => obtain ⟨v, r, rfl, d1, d2⟩ := d; cases d1; cases d2; exact .inr ⟨i, rfl, q _ (.int _) G H (Go.refl ex) rfl m⟩
theorem ro_abs : RON c rAbs absD := fun ds R m G H vs ex d Q q => by
  match ds, m with
  | [.int i], m => obtain ⟨v, r, rfl, d1, d2⟩ := d; cases d1; cases d2; exact ⟨i, rfl, q _ (.int _) G H (Go.refl ex) rfl m⟩
theorem ro_max : RON c rMax2 maxD := fun ds R m G H vs ex d Q q => by
  match ds, m with
  | [.int i, .int j], m => obtain ⟨v, r, rfl, d1, v2, r2, rfl, d2, d3⟩ := d; cases d1; cases d2; cases d3; exact ⟨i, j, rfl, q _ (.int _) G H (Go.refl ex) rfl m⟩
theorem ro_min : RON c rMin2 minD := fun ds R m G H vs ex d Q q => by
  match ds, m with
  | [.int i, .int j], m => obtain ⟨v, r, rfl, d1, v2, r2, rfl, d2, d3⟩ := d; cases d1; cases d2; cases d3; exact ⟨i, j, rfl, q _ (.int _) G H (Go.refl ex) rfl m⟩
theorem bls_of {G : Hp} : ∀ {l : List Dt} {bs : List Bool} {xs : List V}, Dats c G l xs → blsD l = some bs → xs = bs.map V.bl
  | [], _, _, h, e => by cases h; cases e; rfl
  | d :: l, _, _, ⟨x, r, h1, h2, h3⟩, e => by
    cases d with
    | bl b =>
      unfold blsD at e
      obtain ⟨bs, e1, rfl⟩ := Option.map_eq_some_iff.mp e
      cases h2
      rw [h1, bls_of h3 e1]; rfl
    | _ => cases e
theorem strs_of {G : Hp} : ∀ {l : List Dt} {bs : List Str} {xs : List V}, Dats c G l xs → strsD l = some bs → xs = bs.map V.str
  | [], _, _, h, e => by cases h; cases e; rfl
  | d :: l, _, _, ⟨x, r, h1, h2, h3⟩, e => by
    cases d with
    | str b =>
      unfold strsD at e
      obtain ⟨bs, e1, rfl⟩ := Option.map_eq_some_iff.mp e
      cases h2
      rw [h1, strs_of h3 e1]; rfl
    | _ => cases e
theorem ro_all : RON c (rAll c.K) allD := fun ds R m G H vs ex d Q q => by
  match ds, m with
  | [.lst l], ⟨bs, e, m⟩ =>
    obtain ⟨v, r, rfl, ⟨a, xs, rfl, h1, h2⟩, d2⟩ := d
    cases d2
    rw [bls_of h2 e] at h1
    exact ⟨a, bs, rfl, .inl (.inl (ex _ _ h1)), q _ (.bl _) G H (Go.refl ex) rfl m⟩
theorem ro_str : RON c rStrA strD := fun ds R m G H vs ex d Q q => by
  match ds, m with
  | [.int i], m => obtain ⟨v, r, rfl, d1, d2⟩ := d; cases d1; cases d2; exact .inl ⟨i, rfl, m.1, q _ (.str _) G H (Go.refl ex) rfl m.2⟩
  | [.str i], m => obtain ⟨v, r, rfl, d1, d2⟩ := d; cases d1; cases d2; exact .inr ⟨i, rfl, q _ (.str _) G H (Go.refl ex) rfl m⟩
theorem ro_tup : RON c (rToTup c.K) tupD := fun ds R m G H vs ex d Q q => by
  match ds, m with
  | [.lst l], m =>
    obtain ⟨v, r, rfl, ⟨a, xs, rfl, h1, h2⟩, d3⟩ := d
    cases d3
    exact ⟨a, xs, rfl, .inl ⟨.inl (.inl (ex _ _ h1)), fun p hp => q _ (.tup l) _ _ (Go.new ex hp) (dat_newT h2 (ex.free hp)) m⟩⟩
  | [.tup l], m =>
    obtain ⟨v, r, rfl, ⟨a, xs, rfl, h1, h2⟩, d3⟩ := d
    cases d3
    exact ⟨a, xs, rfl, .inr ⟨Ex.tp ex.ex h1, q _ (.tup l) G H (Go.refl ex) ⟨a, xs, rfl, h1, h2⟩ m⟩⟩
theorem ro_list : RON c (rToLst c.K) listD := fun ds R m G H vs ex d Q q => by
  match ds, m with
  | [.lst l], m =>
    obtain ⟨v, r, rfl, ⟨a, xs, rfl, h1, h2⟩, d3⟩ := d
    cases d3
    exact ⟨a, xs, rfl, .inl (.inl (.inl (ex _ _ h1))), fun p hp => q _ (.lst l) _ _ (Go.new ex hp) (dat_newL h2 (ex.free hp)) m⟩
  | [.tup l], m =>
    obtain ⟨v, r, rfl, ⟨a, xs, rfl, h1, h2⟩, d3⟩ := d
    cases d3
    exact ⟨a, xs, rfl, .inr (Ex.tp ex.ex h1), fun p hp => q _ (.lst l) _ _ (Go.new ex hp) (dat_newL h2 (ex.free hp)) m⟩
theorem atI_map {α β : Type} {l : List α} {m : List β} (h : l.length = m.length) {i : Int} {b : β} (e : atI m i = some b) : ∃ (j : Nat) (a : α), atI l i = some a ∧ l[j]? = some a ∧ m[j]? = some b := by
  unfold atI at e ⊢
  rw [h]
  cases q : ixN m.length i with
  | none => rw [q] at e; cases e
  | some j =>
    rw [q] at e
    have e' : m[j]? = some b := e
    have hj : j < m.length := (List.getElem?_eq_some_iff.mp e').1
    exact ⟨j, l[j]'(by omega), by simp [h, hj], by simp [h, hj], e'⟩
theorem dats_at {G : Hp} {l : List Dt} {xs : List V} {i : Int} {d : Dt} (h2 : Dats c G l xs) (ha : atI l i = some d) : ∃ z, atI xs i = some z ∧ Dat c G d z := by
  obtain ⟨j, z, z1, z2, z3⟩ := atI_map h2.len ha
  obtain ⟨y, y1, y2⟩ := h2.get z3
  rw [z2] at y1; cases y1
  exact ⟨z, z1, y2⟩
theorem ro_ix : RO2 c (rIx c.K) ixD := fun d e R m G H v u ex d1 d2 Q q => by
  match d, e, m with
  | .lst l, .int i, ⟨y, ha, m⟩ =>
    obtain ⟨a, xs, rfl, h1, h2⟩ := d1
    cases d2
    obtain ⟨z, z1, z2⟩ := dats_at h2 ha
    exact .inl ⟨a, xs, i, z, rfl, rfl, .inl (.inl (ex _ _ h1)), z1, q z y G H (Go.refl ex) z2 m⟩
  | .sq l, .int i, ⟨y, ha, m⟩ =>
    obtain ⟨a, xs, rfl, h1, h2⟩ := d1
    cases d2
    obtain ⟨z, z1, z2⟩ := dats_at h2 ha
    exact .inl ⟨a, xs, i, z, rfl, rfl, ex.seq h1, z1, q z y G H (Go.refl ex) z2 m⟩
  | .tup l, .int i, ⟨y, ha, m⟩ =>
    obtain ⟨a, xs, rfl, h1, h2⟩ := d1
    cases d2
    obtain ⟨z, z1, z2⟩ := dats_at h2 ha
    exact .inr (.inl ⟨a, xs, i, z, rfl, rfl, Ex.tp ex.ex h1, z1, q z y G H (Go.refl ex) z2 m⟩)
  | .str z, .int i, ⟨hl, k, ha, m⟩ =>
    cases d1; cases d2
    exact .inr (.inr ⟨z, i, k, rfl, rfl, sz_of hl, ha, q _ (.str _) G H (Go.refl ex) rfl m⟩)
theorem Dats.cut {G : Hp} {l : List Dt} {xs : List V} (d : Dats c G l xs) (lo hi : Option Int) : Dats c G (cutD l lo hi) (cutV xs lo hi) := by
  unfold cutV cutD
  rw [d.len]
  exact (d.drop _).take _
theorem ro_slL : ROS c (rSlL c.K) slLD := fun d lo hi R m G H v ex d1 Q q => by
  match d, m with
  | .lst l, m =>
    obtain ⟨a, xs, rfl, h1, h2⟩ := d1
    exact ⟨a, xs, rfl, .inl (.inl (ex _ _ h1)), fun p hp => q _ (.lst _) _ _ (Go.new ex hp) (dat_newL (h2.cut lo hi) (ex.free hp)) m⟩
theorem ro_slS : ROS c rSlS slSD := fun d lo hi R m G H v ex d1 Q q => by
  match d, m with
  | .str z, m => cases d1; exact ⟨z, rfl, sz_of m.1, q _ (.str _) G H (Go.refl ex) rfl m.2⟩
theorem ro_join : ROM c "str" (rJoin c.K) joinD := fun d ds R m G H v vs ex d1 d2 Q q => by
  match d, ds, m with
  | .str z, [.lst l], ⟨ys, e, hz, m⟩ =>
    obtain ⟨v, r, rfl, ⟨a, xs, rfl, h1, h2⟩, d3⟩ := d2
    cases d1; cases d3
    rw [strs_of h2 e] at h1
    exact ⟨z, a, ys, rfl, rfl, .inl (.inl (.inl (ex _ _ h1))), hz, q _ (.str _) G H (Go.refl ex) rfl m⟩
  | .str z, [.tup l], ⟨ys, e, hz, m⟩ =>
    obtain ⟨v, r, rfl, ⟨a, xs, rfl, h1, h2⟩, d3⟩ := d2
    cases d1; cases d3
    rw [strs_of h2 e] at h1
    exact ⟨z, a, ys, rfl, rfl, .inr (Ex.tp ex.ex h1), hz, q _ (.str _) G H (Go.refl ex) rfl m⟩
theorem dats_map_str {G : Hp} : ∀ ys : List Str, Dats c G (ys.map .str) (ys.map V.str)
  | [] => rfl
  | y :: ys => ⟨_, _, rfl, rfl, dats_map_str ys⟩
theorem ro_split : ROM c "str" rSplit splitD := fun d ds R m G H v vs ex d1 d2 Q q => by
  match d, ds, m with
  | .str a, [.str b], ⟨⟨h1, h2⟩, m⟩ =>
    obtain ⟨w, r, rfl, d2, d3⟩ := d2
    cases d1; cases d2; cases d3
    exact ⟨a, b, rfl, rfl, h1, Nat.le_trans (Nat.add_le_add_right h2 2) (by decide), fun p hp => q _ (.lst _) _ _ (Go.new ex hp) (dat_newL (dats_map_str _) (ex.free hp)) m⟩
end
end Mw

set_option Elab.async false
set_option linter.all false
set_option maxRecDepth 100000
set_option maxHeartbeats 4000000
namespace Mw
open PySem PySem.Spec PyProof.Rows L2
/-! ### dice: a list of three ints, hidden: a roll leaves what is known of the heap as it was -/
/-- the def's own promise, with the list in sight -/
def spRoll0 : Sp := fun vs H Q _ => ∃ (d : Addr) (n x y z : Int), vs = [.ref d, .int n] ∧ H d = some (.lst [.int x, .int y, .int z]) ∧ 0 < n ∧ n < 2 ^ 64 ∧
  ∀ r x' y' z', 0 ≤ r → r < n → Q (.int r) (upd H d (.lst [.int x', .int y', .int z']))
def PreRoll : PreX := fun ds R _ => ∃ n, ds = [.dice, .int n] ∧ 0 < n ∧ n < 2 ^ 64 ∧ ∀ r, 0 ≤ r → r < n → R (.int r)
def spDice0 (c : Kc) : Sp := fun vs H Q _ => ∃ (a : Addr) (ns : List Int) (i : Nat), vs = [.ref a, .int i] ∧ SqL c.K H a (ns.map V.int) ∧ (∃ G, In c G H) ∧
  ∀ p x y z H', Up H H' → LamX.Tabs c.tb H' → H p = none → H' p = some (.lst [.int x, .int y, .int z]) → Q (.ref p) H'
/-- a heap without its tables -/
def noTb (H : Hp) : Hp := fun a => match H a with
  | some (.tbl _) => none
  | o => o
theorem noTb_up {c : Kc} {G H : Hp} (e : In c G H) : Ex G (noTb H) := fun a o h => by
  unfold noTb
  rw [e _ _ h]
  cases o with
  | tbl ps => exact absurd h (e.nt a ps)
  | _ => rfl
theorem noTb_in {c : Kc} {G H : Hp} (t : In c G H) : In c (noTb H) H := by
  refine ⟨fun a o h => ?_, fun a ps h => ?_, t.tb, t.fl.trans (noTb_up t)⟩
  · unfold noTb at h
    split at h
    · cases h
    · exact h
  · unfold noTb at h
    split at h
    · cases h
    · rename_i hn; exact hn ps h
theorem noTb_seq {c : Kc} {H : Hp} {a : Addr} {xs : List V} (h : SqL c.K H a xs) : SqL c.K (noTb H) a xs := by
  rcases h with (h | ⟨o, h⟩) | h
  · exact .inl (.inl (by unfold noTb; rw [h]))
  · exact .inl (.inr ⟨o, by unfold noTb; rw [h]⟩)
  · exact .inr h
def PreDice : PreX := fun ds R _ => ∃ (ns : List Int) (i : Nat), ds = [.sq (ns.map .int), .int i] ∧ R .dice
section
variable {P : Program} {c : Kc} {mg : Str → Option Value} {base : Heap}
theorem ok_ext {w : World} {H' : Hp} {h : Heap} {a : Addr} {x y z : Int} (ok : ObjOk P w H' h a (.lst [.int x, .int y, .int z])) : ∀ H : Hp, ObjOk P w H h a (.ext (DiceH a)) := fun H => by
  obtain ⟨_, its, n, r, e⟩ := ok
  exact ⟨⟨x, y, z, its, n, r, e⟩, ⟨_, e⟩, fun h1 h2 ⟨x, y, z, its, n, r, e⟩ k => ⟨x, y, z, its, n, r, k _ e⟩⟩
/-- other objects do not ask how a list or a hidden thing is told -/
theorem ok_turn {w : World} {H H' : Hp} {h : Heap} {a b : Addr} {u o : HO} (ok : ObjOk P w H h b u) (ha : H a = some o) (h1 : ∀ c, o ≠ .own c) (h2 : ∀ xs, o ≠ .tup xs) (hb : ∀ c, c ≠ a → H' c = H c) : ObjOk P w H' h b u := by
  refine ok.stay (fun _ _ _ q => q) (fun c q => ?_) fun c xs q => ?_
  · rw [hb c (fun z => by subst z; rw [ha] at q; exact h1 b (Option.some.inj q))]; exact q
  · rw [hb c (fun z => by subst z; rw [ha] at q; exact h2 xs (Option.some.inj q))]; exact q
theorem roll_hide {k : Nat} {f : Addr} {fd : FuncData} {ps : List Str} (F : FnOk P c.w c.K mg base CX0 k f fd ps spRoll0) : FnOk P c.w c.K mg base CX0 k f fd ps (spN c PreRoll) := by
  refine ⟨fun vs H Q E h => ?_, fun A outer s H args us vs Q E hr e0 hb hv h => ?_⟩
  · obtain ⟨G, ds, R, e, d, ⟨n, rfl, h0, h1, hR⟩, q⟩ := h
    obtain ⟨v, r, rfl, ⟨a, rfl, ha⟩, v2, r2, rfl, d2, d3⟩ := d
    cases d2; cases d3
    exact F.len _ (upd H a (.lst [.int 0, .int 0, .int 0])) (fun _ _ => True) E ⟨a, n, 0, 0, 0, rfl, upd_same, h0, h1, fun _ _ _ _ _ _ => trivial⟩
  · obtain ⟨G, ds, R, e, d, ⟨n, rfl, h0, h1, hR⟩, q⟩ := h
    obtain ⟨v, r, rfl, ⟨a, rfl, ha⟩, v2, r2, rfl, d2, d3⟩ := d
    cases d2; cases d3
    have hH : H a = some (.ext (DiceH a)) := e _ _ ha
    obtain ⟨⟨x, y, z, its, m, rv, eo⟩, _, _⟩ := e0.hok a _ hH
    have e1 : Env0 P c.w c.K mg base A outer s (upd H a (.lst [.int x, .int y, .int z])) := by
      refine ⟨e0.frames, e0.mod, fun b o hb => ⟨(e0.bs b o hb).1, ?_⟩, e0.bsz, e0.funs, fun b hb => ?_, fun b u hb => ?_, e0.bare⟩
      · rw [upd_ne (fun z => by subst z; rw [(e0.bs _ o hb).2] at hH; cases hH)]; exact (e0.bs b o hb).2
      · rw [upd_ne (fun z => by subst z; rw [e0.frf _ hb] at hH; cases hH)]; exact e0.frf b hb
      · by_cases c : b = a
        · subst c
          rw [upd_same] at hb
          cases hb
          exact ⟨by show 3 ≤ sizeLine; decide, its, m, rv, eo⟩
        · rw [upd_ne c] at hb
          exact ok_turn (e0.hok b u hb) hH (fun _ z => nomatch z) (fun _ z => nomatch z) fun c' hc => upd_ne hc
    refine codeAny_mono (F.run A outer s _ args us _ (fun v H' => ∃ r x' y' z', v = .int r ∧ 0 ≤ r ∧ r < n ∧ H' = upd H a (.lst [.int x', .int y', .int z'])) E hr e1 hb hv
      ⟨a, n, x, y, z, rfl, upd_same, h0, h1, fun r x' y' z' hr0 hr1 => ⟨r, x', y', z', rfl, hr0, hr1, upd_upd⟩⟩) fun r s' hq => ?_
    cases r with
    | error _ => exact hq
    | ok fl =>
      cases fl with
      | next => exact hq
      | brk => exact hq
      | cont => exact hq
      | ret u =>
        obtain ⟨v, H', os, bare, un, hok, rl, r, x', y', z', rfl, hr0, hr1, rfl⟩ := hq
        have ne : ∀ {b}, H b = none → b ≠ a := fun {b} q z => by rw [z, hH] at q; cases q
        refine ⟨.int r, H, os, bare, ⟨fun b o q n1 n2 n3 => un.keep b o q (by rw [upd_ne (ne n1)]; exact n1) n2 n3, fun b o q n1 n2 n3 => un.slot b o q (by rw [upd_ne (ne n1)]; exact n1) n2 n3,
          fun b o q n1 n2 => n1, un.there, fun b xs q => q, fun b o u q => q, fun b ps q => ⟨#[], by rw [q]; simp⟩⟩, fun b u hb => ?_, rl, q _ (.int r) G H (Go.refl e) rfl (hR r hr0 hr1)⟩
        by_cases c : b = a
        · subst c
          rw [hH] at hb
          cases hb
          exact ok_ext (hok b _ upd_same) H
        · exact ok_turn (hok b u (by rw [upd_ne c]; exact hb)) (a := a) upd_same (fun _ z => nomatch z) (fun _ z => nomatch z) fun c' hc => (upd_ne hc).symm
theorem dice_hide {k : Nat} {f : Addr} {fd : FuncData} {ps : List Str} (F : FnOk P c.w c.K mg base CX0 k f fd ps (spDice0 c)) : FnOk P c.w c.K mg base CX0 k f fd ps (spN c PreDice) := by
  have itsOf : ∀ {G : Hp} {ns : List Int} {xs : List V}, Dats c G (ns.map .int) xs → xs = ns.map V.int := fun {G} {ns} => by
    induction ns with
    | nil => intro xs h; exact h
    | cons n ns ih => rintro xs ⟨x, r, h1, h2, h3⟩; cases h2; rw [h1, ih h3]; rfl
  have pre : ∀ {vs H Q E}, spN c PreDice vs H Q E → spDice0 c vs H (fun v H' => ∃ p, v = .ref p ∧ Up H H' ∧ H p = none ∧ (∃ x y z, H' p = some (.lst [.int x, .int y, .int z])) ∧ Q (.ref p) (upd H' p (.ext (DiceH p)))) E := fun {vs H Q E} h => by
    obtain ⟨G, ds, R, e, d, ⟨ns, i, rfl, hR⟩, q⟩ := h
    obtain ⟨v, r, rfl, ⟨a, xs, rfl, ha, hd⟩, v2, r2, rfl, d2, d3⟩ := d
    cases d2; cases d3
    refine ⟨a, ns, i, rfl, by rw [← itsOf hd]; exact e.seq ha, ⟨G, e⟩, fun p x y z H' e' tb' hp hl => ⟨p, rfl, e', hp, ⟨x, y, z, hl⟩, q _ .dice (upd G p (.ext (DiceH p))) _ ⟨Ex.new (e.free hp), fun b o h1 h2 _ => ?_, ⟨?_, ?_, tabs_turn tb' hl flat_lst, e.fl.trans (Ex.new (e.free hp))⟩, ⟨fun b o z n => ?_, fun b ps z => ?_⟩⟩ ⟨p, rfl, upd_same⟩ hR⟩⟩
    · rw [upd_ne (ne_of_none h2 hp)]; exact h1
    · refine upd_mono (fun b o h => ?_) p _
      by_cases t : ∃ ps, o = .tbl ps
      · obtain ⟨ps, rfl⟩ := t; exact absurd h (e.nt b ps)
      · exact e'.st b o (e b o h) fun ps z => t ⟨ps, z⟩
    · intro b ps z
      by_cases q : b = p
      · subst q; rw [upd_same] at z; cases z
      · rw [upd_ne q] at z; exact e.nt b ps z
    · rw [upd_ne (ne_of_none z hp)]; exact e'.st b o z n
    · rw [upd_ne (ne_of_none z hp)]; exact e'.tb b ps z
  refine ⟨fun vs H Q E h => F.len _ _ _ _ (pre h), fun A outer s H args us vs Q E hr e0 hb hv h => ?_⟩
  refine codeAny_mono (F.run A outer s H args us vs _ E hr e0 hb hv (pre h)) fun r s' hq => ?_
  cases r with
  | error _ => exact hq
  | ok fl =>
    cases fl with
    | next => exact hq
    | brk => exact hq
    | cont => exact hq
    | ret u =>
      obtain ⟨v, H', os, bare, un, hok, rl, p, rfl, e', hp, ⟨x, y, z, hl⟩, q⟩ := hq
      have np : ∀ {b}, H' b = none → b ≠ p := fun {b} q z => by rw [z, hl] at q; cases q
      refine ⟨.ref p, _, os, bare, ⟨un.keep, un.slot, fun b o q1 n1 n2 => ?_, un.there, fun b xs q => ?_, fun b o u q => ?_, fun b ps q => ?_⟩, fun b u hb => ?_, rl, q⟩
      · have := un.free b o q1 n1 n2
        rw [upd_ne (np this)]; exact this
      · rw [upd_ne (ne_of_none q hp)]; exact un.tups b xs q
      · rw [upd_ne (ne_of_none q hp)]; exact un.frzs b o u q
      · rw [upd_ne (ne_of_none q hp)]; exact un.tbls b ps q
      · by_cases c : b = p
        · subst c
          rw [upd_same] at hb
          cases hb
          exact ok_ext (hok b _ hl) _
        · rw [upd_ne c] at hb
          exact ok_turn (hok b u hb) (a := p) hl (fun _ z => nomatch z) (fun _ z => nomatch z) fun c' hc => by rw [upd_ne hc]
end
/-- a def that raises nothing, as one that may -/
theorem gmx_calm {P : Program} {c : Kc} {mg : Str → Option Value} {base : Heap} {k : Nat} {f : Addr} {Pre : PreX} (hp : ∀ ds R X, Pre ds R X → Pre ds R xF) (F : FnR P c.w c.K mg base CX0 k f (spN c Pre)) : Gmx P c mg base k f Pre := by
  intro A outer s H us vs Q E hr e0 hv h
  obtain ⟨G, ds, R, X, e, d, p, q, _⟩ := h
  refine codeAny_mono (F A outer s H us vs Q E hr e0 hv ⟨G, ds, R, e, d, hp ds R X p, q⟩) fun r s' hq => ?_
  cases r with
  | error _ => exact hq.elim
  | ok fl => cases fl <;> exact hq
theorem gfx_calm {P : Program} {c : Kc} {mg : Str → Option Value} {base : Heap} {k : Nat} {x : Str} {st : Stmt} {f : Addr} {fd : FuncData} {ps : List Str} {Pre : PreX} (hp : ∀ ds R X, Pre ds R X → Pre ds R xF) (F : Fun c.K x x st f fd) (b : Binds c.K fd ps []) (m : mg x = some (.ref f))
    (ok : FnOk P c.w c.K mg base CX0 k f fd ps (spN c Pre)) : Gfx P c mg base x k Pre := ⟨f, gmx_calm hp (frx_of ok b), m, F.kp⟩
theorem roll_calm : ∀ ds R X, PreRoll ds R X → PreRoll ds R xF := fun _ _ _ h => h
theorem dice_calm : ∀ ds R X, PreDice ds R X → PreDice ds R xF := fun _ _ _ h => h
section
variable {c : Kc} {x : Mx}
theorem st_asg_raw {te : TE} {m : EM} {i : Nat} {ss : SS} {R : Dt → Prop} {D : Ends} {σ : L2.St} {G H : Hp} {u : TS} (h : RE c x none te m) (hm : m ss R xF) (e : In c G H) (sv : Sv c x G H σ ss)
    (k : ∀ v d G' H', Go c G H G' H' → Dat c G' d v → R d → u D (σ.set i (some v)) H') : tSeq (tAsg te (gName i)) u D σ H := h ss R xF G σ H hm e sv _ (fun v d G' H' g dv hr => k v d G' H' g dv hr) fun _ _ _ _ _ _ _ hc => hc.elim
theorem ret_new_raw {ta : TA} {m : AM} {ss : SS} {R : List Dt → Prop} {D : Ends} {σ : L2.St} {G H : Hp} (h : RA c x none ta m) (hm : m ss R xF) (e : In c G H) (sv : Sv c x G H σ ss)
    (k : ∀ vs ds G' H', Go c G H G' H' → Dats c G' ds vs → R ds → vs.length ≤ 1000 ∧ ∀ p, H' p = none → D.rt (.ref p) (upd H' p (.lst vs))) : tRet (tLst ta) D σ H := h ss R xF G σ H hm e sv _ (fun vs ds G' H' g dv hr => let ⟨k1, k2⟩ := k vs ds G' H' g dv hr; ⟨sz_of (by omega), k2⟩) fun _ _ _ _ _ _ _ hc => hc.elim
theorem ifbI {b : Bool} {A B : Prop} (h1 : b = true → A) (h2 : b = false → B) : if b = true then A else B := by
  cases b with
  | true => exact h1 rfl
  | false => exact h2 rfl
theorem modb {e m : Int} (h : 0 < m) (h2 : m < 2 ^ 64) : -(2 ^ 64) < e % m ∧ e % m < 2 ^ 64 := by
  have h3 := Int.emod_nonneg e (by omega : m ≠ 0)
  have h4 := Int.emod_lt_of_pos e h
  omega
theorem modm {e m j : Int} (h : 0 < m) (h2 : m < 2 ^ 64) : CMul (e % m) j := .inl (modb h h2)
theorem divw {i n : Int} (h0 : 0 < n) (h1 : n < 2 ^ 64) : CDivW i n := wide_div h0 (b := 64) (by omega) (by decide) (by decide)
/-! ### tuples' slices -/
theorem ro_slT : ROS c (rSlA c.K) slTD := fun d lo hi R m G H v ex d1 Q q => by
  match d, m with
  | .tup l, m =>
    obtain ⟨a, xs, rfl, h1, h2⟩ := d1
    refine ⟨a, xs, rfl, Ex.tp ex.ex h1, fun z => ?_, fun _ p hp => q _ (.tup _) _ _ (Go.new ex hp) (dat_newT (h2.cut lo hi) (ex.free hp)) m⟩
    have e : cutD l lo hi = l := by
      have hl := h2.len
      unfold cutD
      rw [hl] at z
      rw [z.1, z.2, List.drop_zero, Nat.sub_zero, List.take_length]
    have m : R (.tup (cutD l lo hi)) := m
    rw [e] at m
    exact q _ (.tup l) G H (Go.refl ex) ⟨a, xs, rfl, h1, h2⟩ m
theorem slTup {X : Cx} {K : PySem.W.Frag} (hK : X.K = K) : SlR X (rSlA K) := by subst hK; exact sl_tupA
end
/-! ### classes of the text -/
structure ClsI (K : PySem.W.Frag) (C : Addr) : Prop where
  cls : Cls K C
  si : SlX.SIsi K C
theorem kit_no {K : PySem.W.Frag} {C : Addr} {t : Value} (h0 : t ≠ .ref C) (h1 : PySem.W.isClsIn K C = true) (h2 : PySem.W.typeIn K (.ref C) = some (.type "type")) (h3 : PySem.W.subIn K t (.ref C) = some false) : PySem.W.kitOne K t (.ref C) = some false := by
  unfold PySem.W.kitOne
  rw [if_neg (by simpa using h0)]
  show (if ((PySem.W.clsIn K C).isSome && PySem.W.typeIn K (.ref C) == some (.type "type")) = true then PySem.W.subIn K t (.ref C) else none) = some false
  rw [if_pos (by rw [h2, show (PySem.W.clsIn K C).isSome = true from h1]; simp)]
  exact h3
theorem kit_self {K : PySem.W.Frag} {C : Addr} : PySem.W.kitOne K (.ref C) (.ref C) = some true := by
  unfold PySem.W.kitOne
  rw [if_pos (by simp)]
theorem kit_bt {K : PySem.W.Frag} {C : Addr} {n : String} (h : PySem.W.subIn K (.ref C) (.type n) = some false) (hm : PySem.W.kitOne K (.ref C) (.type n) = PySem.W.subIn K (.ref C) (.type n)) : PySem.W.kitOne K (.ref C) (.type n) = some false := by rw [hm, h]
/-- what is asked of all classes -/
structure Kls (c : Kc) (C : Nat) : Prop where
  ci : ClsI c.K (c.ca C)
  kC : ∀ T ∈ kinds7, PySem.W.kitOne c.K (.type T) (.ref (c.ca C)) = some false
  kT : ∀ T ∈ kinds7, PySem.W.kitOne c.K (.ref (c.ca C)) (.type T) = some false
  kD : ∀ D ∈ c.cl, D ≠ C → PySem.W.kitOne c.K (.ref (c.ca D)) (.ref (c.ca C)) = some false
def Klss (c : Kc) : Prop := ∀ C ∈ c.cl, Kls c C
section
variable {c : Kc}
def tyVal (c : Kc) : Dt → Option Value
  | .ins C _ => some (.ref (c.ca C))
  | d => (tyN d).map .type
theorem tyx_of {G : Hp} {d : Dt} {v : V} {T : String} (h : Dat c G d v) (e : tyN d = some T) : TyY c.K G v (.type T) := by
  cases d with
  | non => cases h; cases e; exact .of (.base .non)
  | bl _ => cases h; cases e; exact .of (.base (.bl _))
  | int _ => cases h; cases e; exact .of (.base (.int _))
  | str _ => cases h; cases e; exact .of (.base (.str _))
  | lst _ => obtain ⟨_, _, rfl, h, _⟩ := h; cases e; exact .of (.base (.lst h))
  | tup _ =>
    obtain ⟨_, _, rfl, h, _⟩ := h
    cases e
    exact .of (.base (.tup h))
  | dic _ =>
    obtain ⟨_, _, _, rfl, h, _⟩ := h
    cases e
    exact .of (.fDict h)
  | dit _ =>
    obtain ⟨_, _, _, rfl, h, _⟩ := h
    cases e
    exact .dt h
  | _ => cases e
theorem tyx_val (hk : Klss c) {G : Hp} {d : Dt} {v : V} {t : Value} (h : Dat c G d v) (e : tyVal c d = some t) : TyY c.K G v t := by
  cases d with
  | ins C l =>
    obtain ⟨a, dx, fs, rfl, ha, hc, _⟩ := h
    cases e
    have k := (hk C hc).ci
    exact .of (.base (.ins ha k.cls k.si.ca k.si.cn k.si.ct k.si.cm))
  | _ =>
    unfold tyVal at e
    obtain ⟨T, e1, rfl⟩ := Option.map_eq_some_iff.mp e
    exact tyx_of h e1
theorem ro_isi (hk : Klss c) : RON c (rIsiY c.K) isiD := fun ds R m G H vs ex d Q q => by
  unfold isiD at m
  split at m
  · rename_i d0 n
    obtain ⟨hn, m⟩ := m
    obtain ⟨v, r, rfl, d1, v2, r2, rfl, d2, d3⟩ := d
    cases d2; cases d3
    split at m
    · rename_i C l
      obtain ⟨a, dx, fs, rfl, ha, hc, hf⟩ := d1
      have k := hk C hc
      exact ⟨.ref a, .ty n, .ref (c.ca C), .type n, false, rfl, .ty n, .of (.base (.ins (ex _ _ ha) k.ci.cls k.ci.si.ca k.ci.si.cn k.ci.si.ct k.ci.si.cm)), k.kT n hn, q _ (.bl _) G H (Go.refl ex) rfl m⟩
    · obtain ⟨T, hT, m⟩ := m
      exact ⟨v, .ty n, .type T, .type n, isB T n, rfl, .ty n, tyx_of (d1.up ex.ex) hT, kit_ty (kitB_is T (tyN_kinds hT) n hn), q _ (.bl _) G H (Go.refl ex) rfl m⟩
  · rename_i d0 C
    obtain ⟨v, r, rfl, d1, v2, r2, rfl, ⟨rfl, hC⟩, d3⟩ := d
    cases d3
    split at m
    · rename_i C' l
      obtain ⟨a, dx, fs, rfl, ha, hc, hf⟩ := d1
      have k := hk C' hc
      refine ⟨.ref a, .ref (c.ca C), .ref (c.ca C'), .ref (c.ca C), decide (C' = C), rfl, .own _, .of (.base (.ins (ex _ _ ha) k.ci.cls k.ci.si.ca k.ci.si.cn k.ci.si.ct k.ci.si.cm)), ?_, q _ (.bl _) G H (Go.refl ex) rfl m⟩
      by_cases e : C' = C
      · subst e; rw [decide_eq_true rfl]; exact kit_self
      · rw [decide_eq_false e]; exact (hk C hC).kD C' hc e
    · obtain ⟨T, hT, m⟩ := m
      exact ⟨v, .ref (c.ca C), .type T, .ref (c.ca C), false, rfl, .own _, tyx_of (d1.up ex.ex) hT, (hk C hC).kC T (tyN_kinds hT), q _ (.bl _) G H (Go.refl ex) rfl m⟩
  · exact m.elim
end
/-! ### own lists -/
section
variable {c : Kc} {x : Mx} {w : Option WX} {G G' H H' H0 : Hp} {σ : L2.St} {ss : SS}
theorem set_self {α : Type} : ∀ {l : List α} {i : Nat} {x : α}, l[i]? = some x → l.set i x = l
  | [], _, _, h => by simp at h
  | _ :: _, 0, _, h => by simp at h; subst h; rfl
  | y :: l, i + 1, x, h => by
    have := set_self (l := l) (i := i) (x := x) (by simpa using h)
    simp [this]
/-- the slot j takes the object a, which no slot has as its own -/
theorem Sl.takeOwn (h : Sl c x H0 G H σ ss) {j : Nat} {d : Dt} {a : Addr} {o : HO} (hn : H a = none) (h0 : H0 a = none) (hg : G a = none) (ho : OwnD c G d o) : Sl c x H0 G (upd H a o) (σ.set j (some (.ref a))) (ss.set j (.own d)) := by
  have ne : ∀ {b : Addr} {u : HO}, H b = some u → b ≠ a := fun e => ne_of_none e hn
  refine ⟨⟨by simp [h.sv.len], fun i y z => ?_, fun i y z => ?_, fun i C l z => ?_, fun i C l z => ?_⟩, fun i y b z q => ?_, fun i k y y' b z1 z2 q1 q2 => ?_, fun i C l z => ?_, fun i k C l y z1 z2 q => ?_, fun i k C D l m z1 z2 => ?_⟩
  · rcases get_set' z with ⟨rfl, e1, b⟩ | ⟨z', e1⟩
    · cases e1
    · rw [List.getElem?_set_ne e1]; exact h.sv.dat i y z'
  · rcases get_set' z with ⟨rfl, e1, b⟩ | ⟨z', e1⟩
    · cases e1
      exact ⟨a, o, by rw [List.getElem?_set_self (by rw [h.sv.len]; exact b)], hg, upd_same, ho⟩
    · rw [List.getElem?_set_ne e1]
      obtain ⟨b, u, q1, q2, q3, q4⟩ := h.sv.own i y z'
      exact ⟨b, u, q1, q2, by rw [upd_ne (ne q3)]; exact q3, q4⟩
  · rcases get_set' z with ⟨rfl, e1, b⟩ | ⟨z', e1⟩
    · cases e1
    · rw [List.getElem?_set_ne e1]
      obtain ⟨q1, q2, dx, fs, q3, q5, q4⟩ := h.sv.slf i C l z'
      exact ⟨q1, q2, dx, fs, by rw [upd_ne (ne q3)]; exact q3, q5, q4⟩
  · rcases get_set' z with ⟨rfl, e1, b⟩ | ⟨z', e1⟩
    · cases e1
    · rw [List.getElem?_set_ne e1]; exact h.sv.exc i C l z'
  · rcases get_set' z with ⟨rfl, e1, bb⟩ | ⟨z', e1⟩
    · rw [List.getElem?_set_self (by rw [h.sv.len]; exact bb)] at q; cases q; exact h0
    · rw [List.getElem?_set_ne e1] at q; exact h.new i y b z' q
  · have own : ∀ {i : Nat} {y : Dt}, ss[i]? = some (.own y) → σ[i]? = some (some (.ref a)) → False := fun {i y} z q => by
      obtain ⟨b, u, r1, r2, r3, r4⟩ := h.sv.own i y z
      rw [q] at r1; cases r1
      rw [hn] at r3; cases r3
    rcases get_set' z1 with ⟨rfl, e1, bb⟩ | ⟨z1', e1⟩
    · rcases get_set' z2 with ⟨rfl, e2, bb2⟩ | ⟨z2', e2⟩
      · rfl
      · rw [List.getElem?_set_self (by rw [h.sv.len]; exact bb)] at q1; cases q1
        rw [List.getElem?_set_ne e2] at q2
        exact (own z2' q2).elim
    · rcases get_set' z2 with ⟨rfl, e2, bb2⟩ | ⟨z2', e2⟩
      · rw [List.getElem?_set_self (by rw [h.sv.len]; exact bb2)] at q2; cases q2
        rw [List.getElem?_set_ne e1] at q1
        exact (own z1' q1).elim
      · rw [List.getElem?_set_ne e1] at q1
        rw [List.getElem?_set_ne e2] at q2
        exact h.sep i k y y' b z1' z2' q1 q2
  · rcases get_set' z with ⟨rfl, e1, b⟩ | ⟨z', e1⟩
    · cases e1
    · exact h.me0 i C l z'
  · rcases get_set' z1 with ⟨rfl, e1, b⟩ | ⟨z1', e1⟩
    · cases e1
    · rcases get_set' z2 with ⟨rfl, e2, bb2⟩ | ⟨z2', e2⟩
      · rw [List.getElem?_set_self (by rw [h.sv.len]; exact bb2)] at q; cases q
        obtain ⟨_, _, dx, fs, q3, _⟩ := h.sv.slf i C l z1'
        rw [hn] at q3; cases q3
      · rw [List.getElem?_set_ne e2] at q
        exact h.mes i k C l y z1' z2' q
  · rcases get_set' z1 with ⟨rfl, e1, b⟩ | ⟨z1', e1⟩
    · cases e1
    · rcases get_set' z2 with ⟨rfl, e2, bb2⟩ | ⟨z2', e2⟩
      · cases e2
      · exact h.me1 i k C D l m z1' z2'
/-- the object of a slot is changed -/
theorem Sl.turnOwn (h : Sl c x H0 G H σ ss) {j : Nat} {d d' : Dt} {a : Addr} {o : HO} (hs : ss[j]? = some (.own d)) (ha : σ[j]? = some (some (.ref a))) (ho : OwnD c G d' o) : Sl c x H0 G (upd H a o) σ (ss.set j (.own d')) := by
  have hl : j < ss.length := by rcases List.getElem?_eq_some_iff.mp hs with ⟨x, _⟩; exact x
  obtain ⟨a', o', h1, h2, h3, h4⟩ := h.sv.own j d hs
  rw [ha] at h1; cases h1
  have bk : ∀ {i : Nat} {y : Dt}, (ss.set j (.own d'))[i]? = some (.own y) → ∃ y', ss[i]? = some (.own y') := fun {i y} z => by
    rcases get_set' z with ⟨rfl, e1, _⟩ | ⟨z', _⟩
    · exact ⟨_, hs⟩
    · exact ⟨_, z'⟩
  have bs : ∀ {i : Nat} {C : Nat} {l : List (Str × Dt)}, (ss.set j (.own d'))[i]? = some (.slf C l) → ss[i]? = some (.slf C l) := fun {i C l} z => by
    rcases get_set' z with ⟨rfl, e1, _⟩ | ⟨z', _⟩
    · cases e1
    · exact z'
  refine ⟨⟨by rw [h.sv.len]; simp, fun i y z => ?_, fun i y z => ?_, fun i C l z => ?_, fun i C l z => ?_⟩, fun i y b z q => ?_, fun i k y y' b z1 z2 q1 q2 => ?_, fun i C l z => h.me0 i C l (bs z), fun i k C l y z1 z2 q => ?_, fun i k C D l m z1 z2 => h.me1 i k C D l m (bs z1) (bs z2)⟩
  · rcases get_set' z with ⟨rfl, e1, b⟩ | ⟨z', e1⟩
    · cases e1
    · exact h.sv.dat i y z'
  · rcases get_set' z with ⟨rfl, e1, b⟩ | ⟨z', e1⟩
    · cases e1; exact ⟨a, o, ha, h2, upd_same, ho⟩
    · obtain ⟨b, u, q1, q2, q3, q4⟩ := h.sv.own i y z'
      have ne : b ≠ a := fun e => by subst e; exact e1 (h.sep j i d y b hs z' ha q1)
      exact ⟨b, u, q1, q2, by rw [upd_ne ne]; exact q3, q4⟩
  · have z := bs z
    obtain ⟨q1, q2, dx, fs, q3, q5, q4⟩ := h.sv.slf i C l z
    have ne : x.me ≠ a := fun e => h.mes i j C l d z hs (by rw [ha, e])
    exact ⟨q1, q2, dx, fs, by rw [upd_ne ne]; exact q3, q5, q4⟩
  · rcases get_set' z with ⟨rfl, e1, b⟩ | ⟨z', e1⟩
    · cases e1
    · exact h.sv.exc i C l z'
  · obtain ⟨y', z'⟩ := bk z
    exact h.new i y' b z' q
  · obtain ⟨y1, z1'⟩ := bk z1
    obtain ⟨y2, z2'⟩ := bk z2
    exact h.sep i k y1 y2 b z1' z2' q1 q2
  · obtain ⟨y', z'⟩ := bk z2
    exact h.mes i k C l y' (bs z1) z' q
/-- .. is told: data from here on -/
theorem Sl.tell (h : Sl c x H0 G H σ ss) {j : Nat} {d : Dt} {a : Addr} {o : HO} (hs : ss[j]? = some (.own d)) (ha : σ[j]? = some (some (.ref a))) (hG : G a = none) (hH : H a = some o) (hl : isLst d = true) (ho : OwnD c G d o) : Sl c x H0 (upd G a o) H σ (ss.set j (.dt d)) := by
  have e := Ex.new (o := o) hG
  have bo : ∀ {i : Nat} {y : Dt}, (ss.set j (.dt d))[i]? = some (.own y) → ss[i]? = some (.own y) ∧ j ≠ i := fun {i y} z => by
    rcases get_set' z with ⟨rfl, e1, _⟩ | z'
    · cases e1
    · exact z'
  have bs : ∀ {i : Nat} {C : Nat} {l : List (Str × Dt)}, (ss.set j (.dt d))[i]? = some (.slf C l) → ss[i]? = some (.slf C l) := fun {i C l} z => by
    rcases get_set' z with ⟨rfl, e1, _⟩ | ⟨z', _⟩
    · cases e1
    · exact z'
  refine ⟨⟨by rw [h.sv.len]; simp, fun i y z => ?_, fun i y z => ?_, fun i C l z => ?_, fun i C l z => ?_⟩, fun i y b z q => h.new i y b (bo z).1 q, fun i k y y' b z1 z2 q1 q2 => h.sep i k y y' b (bo z1).1 (bo z2).1 q1 q2, fun i C l z => h.me0 i C l (bs z), fun i k C l y z1 z2 q => h.mes i k C l y (bs z1) (bo z2).1 q, fun i k C D l m z1 z2 => h.me1 i k C D l m (bs z1) (bs z2)⟩
  · rcases get_set' z with ⟨rfl, e1, b⟩ | ⟨z', e1⟩
    · cases e1; exact ⟨.ref a, ha, OwnD.dat hG hl ho⟩
    · obtain ⟨v, q1, q2⟩ := h.sv.dat i y z'
      exact ⟨v, q1, q2.up e⟩
  · obtain ⟨z', e1⟩ := bo z
    obtain ⟨b, u, q1, q2, q3, q4⟩ := h.sv.own i y z'
    have ne : b ≠ a := fun e => by subst e; exact e1 (h.sep j i d y b hs z' ha q1)
    exact ⟨b, u, q1, by rw [upd_ne ne]; exact q2, q3, q4.up e⟩
  · have z := bs z
    obtain ⟨q1, q2, dx, fs, q3, q5, q4⟩ := h.sv.slf i C l z
    have ne : x.me ≠ a := fun e => h.mes i j C l d z hs (by rw [ha, e])
    exact ⟨q1, by rw [upd_ne ne]; exact q2, dx, fs, q3, q5, q4.up e⟩
  · rcases get_set' z with ⟨rfl, e1, b⟩ | ⟨z', e1⟩
    · cases e1
    · obtain ⟨q1, q2⟩ := h.sv.exc i C l z'
      exact ⟨q1, q2.up e⟩
/-- told, then the rest -/
def tellW (j : Nat) (a : SM) : SM := fun ss k => match ss[j]? with
  | some (.own (.lst l)) => a (ss.set j (.dt (.lst l))) k
  | _ => a ss k
theorem rs_tell {ts : TS} {sm : SM} {j : Nat} (h : RS c x w ts sm) : RS c x w ts (tellW j sm) := fun ss k G0 H0 D σ G H m K g s => by
  unfold tellW at m
  split at m
  · rename_i l hs
    obtain ⟨a, o, h1, h2, h3, h4⟩ := s.sv.own j _ hs
    exact h _ k G0 H0 D σ (upd G a o) H m K (g.tell h2 (s.new j _ a hs h1) h3 (OwnD.flat (a := a) h4).1) (s.tell hs h1 h2 h3 rfl h4)
  · exact h ss k G0 H0 D σ G H m K g s
variable {ta : TE} {a : EM} {tas : TA} {as : AM}
/-- x = [..], its own -/
def newLW (i : Nat) (as : AM) : SM := fun ss k => as ss (fun l => l.length ≤ 1000000 ∧ k (.nx (ss.set i (.own (.lst l))))) fun C l => k (.ex ss C l)
theorem rs_newL {i : Nat} (ha : RA c x w tas as) : RS c x w (tAsg (tLst tas) (gName i)) (newLW i as) := fun ss k G0 H0 D σ G H m K g s =>
  ha ss _ _ G σ H m g.ink s.sv _ (fun vs l G1 H1 g1 d1 m1 => ⟨by rw [d1.len]; exact sz_of m1.1, fun p hp => by
    have gg := g.trans g1
    have h0 : H0 p = none := gg.up.free hp
    have hG : G1 p = none := gg.ink.free hp
    exact K.nx _ _ G1 (upd H1 p (.lst vs)) (gg.trans (Go.put gg.ink hp)) ((s.go g1).takeOwn (d := .lst l) hp h0 hG ⟨vs, rfl, d1⟩) m1.2⟩) (kx_of K g s)
/-- xs.append(e) -/
def appW (i : Nat) (as : AM) : SM := fun ss k => match ss[i]? with
  | some (.own (.lst l)) => as ss (fun ds => match ds with
    | [y] => l.length < 1000000 ∧ k (.nx (ss.set i (.own (.lst (l ++ [y])))))
    | _ => False) fun C l => k (.ex ss C l)
  | _ => False
theorem rs_append {i : Nat} (ha : RA c x w tas as) : RS c x w (tDrop (tBM c.K "list" rAppend (tVar i) tas)) (appW i as) := fun ss k G0 H0 D σ G H m K g s => by
  unfold appW at m
  split at m
  · rename_i l hs
    obtain ⟨p, o, h1, h2, h3, xs, rfl, h6⟩ := s.sv.own i _ hs
    refine ⟨.ref p, h1, .inl ⟨rfl, xs, .inl (.inl h3)⟩, ha ss _ _ G σ H m g.ink s.sv _ (fun vs ds G1 H1 g1 d1 m1 => ?_) (kx_of K g s)⟩
    match ds, m1 with
    | [y], ⟨hl, m1⟩ =>
      obtain ⟨v, r1, rfl, e1, e2⟩ := d1
      cases e2
      have s1 := s.go g1
      obtain ⟨p', o, k1, k2, k3, xs, rfl, k6⟩ := s1.sv.own i _ hs
      rw [h1] at k1; cases k1
      exact ⟨p, xs, v, rfl, rfl, k3, by rw [k6.len]; exact sz_lt hl, K.nx σ _ G1 _ ((g.trans g1).turn k2 (s.new i _ p hs h1) k3 flat_lst) (s1.turnOwn (d' := .lst (l ++ [y])) hs h1 ⟨_, rfl, k6.snoc e1⟩) m1⟩
  · exact m.elim
end
end Mw

set_option Elab.async false
set_option linter.all false
set_option maxRecDepth 100000
set_option maxHeartbeats 4000000
namespace Mw
open PySem PySem.Spec PyProof.Rows L2
/-! ### raise -/
def tRaise0 (C : Addr) (W : WX) : TS := fun _ σ H => W (.ref C) none σ H
def raise0W (C : Nat) : SM := fun ss k => k (.ex ss C [])
/-- an exception class of the text without an __init__ of its own -/
structure XoC (K : PySem.W.Frag) (mg : Str → Option Value) (nm : Str) (C : Addr) (bmB : List Value) (newId : String) : Prop where
  m : mg nm = some (.ref C)
  xi : PySem.W.excIn K C bmB newId = true
  kp : PySem.W.keepIn K (.ref C) = true
  sb : PySem.W.subIn K (.ref C) (.type "BaseException") = some true
  ty : PySem.W.typeIn K (.ref C) = some (.type "type")
  hd : PySem.W.hasDictIn K C = true
section
variable {X : Cx} {C : Addr} {W : WX} {c : Kc} {x : Mx}
theorem ps_raise0 {bmB : List Value} {B newId initId : String} {x m : Str} {j : Nat} {p p2 pos pos' : Pos} (F : ExcBaseFacts B newId initId bmB) (q : PySem.W.excIn X.K C bmB newId = true) (gC : X.mg x = some (.ref C)) (kC : PySem.W.keepIn X.K (.ref C) = true) (r : Raises X (.ref C)) (hc : X.calm = true) (tk : Takes X W) (hg : Gl X x)
    (hdb : (x == ("__debug__" : Str)) = false := by decide) : PS X (.Raise (some (.Call (.Name x p) [.Constant (.str m) j p2] [] pos)) none pos') (tRaise0 C W) := ps_raise hc tk (pmk_own F q gC kC r hg hdb)
theorem rs_raise0 {D : Nat} : RS c x (some W) (tRaise0 (c.ca D) W) (raise0W D) := fun ss k G0 H0 E σ G H m K g s => K.ex σ ss D [] none G H g s (.inl ⟨rfl, rfl⟩) m
end
/-! ### try .. except C: -/
/-- the own classes above an exception class of the package -/
def exUp (n : Nat) : List Nat := if 1 ≤ n ∧ n ≤ 10 then [n, 0] else [n]
def tryW (xl : List Nat) (C : Nat) (body suite : SM) : SM := fun ss k => body ss fun o => match o with
  | .nx s => k (.nx s)
  | .bk s => k (.bk s)
  | .ct s => k (.ct s)
  | .rt d => k (.rt d)
  | .ex s D l => D ∈ xl ∧ ifP ((exUp D).contains C) (suite s (fun o => match o with
      | .nx s => k (.nx s)
      | .bk s => k (.bk s)
      | .ct s => k (.ct s)
      | .rt d => k (.rt d)
      | .ex _ _ _ => False)) (k (.ex s D l))
/-- how exceptions of the text are met by except C -/
def Meets (c : Kc) (xl : List Nat) (C : Nat) : Prop := ∀ D ∈ xl, PySem.W.exmOne c.K (.ref (c.ca D)) (.ref (c.ca C)) = some ((exUp D).contains C)
def tTry (K : PySem.W.Frag) (v : Value) (tb : WX → TS) (ts : Addr → Value → Option Addr → TS) (Wout : WX) : TS := fun D σ H => tb (wOnly K v ts Wout D) D σ H
section
variable {X : Cx} {K : PySem.W.Frag}
theorem psTry {n : Str} {v : Value} {body suite : List Stmt} {b₀ : Stmt} {np pos pos' : Pos} {tb : WX → TS} {ts : Addr → Value → Option Addr → TS} {w : Option WX} (hK : X.K = K) (hs : X.stack = X.env :: X.outer) (hf : X.env.frame = some X.env.locals) (hc : Names X n v) (tk : Takes X (w.getD wF))
    (hb : ∀ (W : WX) (pn : List (Addr × Obj)) (xe : Value → Shared → Prop), Takes (X.tr pn xe) W → PassesOwn (model X.prog X.w) X.A X.env xe → PSs (X.tr pn xe) body (tb W))
    (hsu : ∀ (a : Addr) (oe : Obj) (cls : Value) (d : Option Addr) (pn : List (Addr × Obj)), Zc cls d oe → (∃ vs, oe.data = .fields vs) → PSs (X.suite a ((a, oe) :: pn)) (b₀ :: suite) (ts a cls d)) :
    PS X (.Try body [.ExceptHandler (some (.Name n np)) none (b₀ :: suite) pos'] [] [] pos) (tTry K v tb ts (w.getD wF)) := by
  subst hK
  exact ps_try_only hs hf hc tk hb hsu
variable {c : Kc} {x : Mx} {w : Option WX}
theorem rs_try {xl : List Nat} {C : Nat} {tb : WX → TS} {ts : Addr → Value → Option Addr → TS} {body suite : SM} (hm : Meets c xl C) (hb : ∀ W, RS c x (some W) (tb W) body) (hs : ∀ a cls d, RS c x none (ts a cls d) suite) :
    RS c x w (tTry c.K (.ref (c.ca C)) tb ts (w.getD wF)) (tryW xl C body suite) := fun ss k G0 H0 D σ G H m K g s => by
  refine hb _ ss _ G0 H0 D σ G H m ⟨K.nx, K.bk, K.ct, K.rt, fun σ' s' E l od G' H' g' l' xd ⟨h1, h2⟩ => ?_⟩ g s
  refine ⟨_, hm E h1, fun hk a ha => ?_, fun hk => ?_⟩
  · rw [hk] at h2
    have h2 := ifP_t h2
    exact hs a _ od s' _ G0 H0 D σ' G' H' h2 ⟨K.nx, K.bk, K.ct, K.rt, fun _ _ _ _ _ _ _ _ _ _ z => z.elim⟩ g' l'
  · rw [hk] at h2
    have h2 := ifP_f h2
    exact K.ex σ' s' E l od G' H' g' l' xd h2
end
/-! ### C.m(..), m a staticmethod -/
structure SMet (K : PySem.W.Frag) (C : Addr) (m : Str) (p g : Addr) : Prop where
  at_ : PySem.W.findCls K (.ref C) (.type "type") m = some (.get (.builtin "staticmethod.__get__") (.ref p) .none (.ref C))
  rc : ∃ rest, PySem.W.recIn K p "staticmethod" = some (.ref g :: rest)
  hv : PySem.W.handedIn (.ref g) = true
  kp : PySem.W.keepIn K (.ref g) = true
section
variable {X : Cx} {P : Program} {c : Kc} {mg : Str → Option Value} {base : Heap} {w : Option WX}
theorem pe_smeth {C p g : Addr} {m nm : Str} {k : Nat} {Pre : PreX} {np apos pos : Pos} {pl : Sem Bool} {e : Expr} {es : List Expr} {t : TA} (F : Gmx P c mg base k g Pre) (hX : At X P c mg base) (hr : Room k X.A) (hg : Gl X nm) (tk : Tk X w) (hC : mg nm = some (.ref C)) (r : ClX.CRead c.K C (.type "type")) (s : SMet c.K C m p g) (ha : PA X (e :: es) t)
    (hdb : (nm == ("__debug__" : Str)) = false := by decide) (hst : starEach (e :: es) X.env = (false, eval e X.env) :: starEach es X.env := by rfl) (hpl : (backTo pos (starEach es X.env)).any (·.1) = false := by rfl)
    (ht : eval (.Call (.Attribute (.Name nm np) m apos) (e :: es) [] pos) X.env = (do
      let ov ← eval (.Name nm np) X.env
      standAt apos.atName
      let (f, first) ← holding [ov] (getMethod ov m pl)
      callWith pos f first (backTo pos (starEach (e :: es) X.env)) (backToKw pos (keywordEach [] X.env))) := by rfl) :
    PE X (.Call (.Attribute (.Name nm np) m apos) (e :: es) [] pos) (tCl w (spX c Pre) t) := by
  obtain ⟨h1, h2, h3, h4, h5⟩ := hX
  unfold Gmx at F
  rw [← h1, ← h2, ← h3, ← h4, ← h5] at F
  rw [← h4] at hC
  rw [← h3] at r s
  obtain ⟨rest, hp⟩ := s.rc
  refine ⟨fun pins s1 σ H Q I h => ?_⟩
  refine PySem.W.methodCall_KW (pl := pl) (thn ((pe_cl hg hC hdb).run pins s1 σ H (fun v H' => v = .ref C ∧ H' = H) I ⟨rfl, rfl⟩) fun u s2 ⟨y, H1, I1, ry, e1, e2⟩ => ?_) ht
  subst e1 e2
  obtain rfl : u = Value.ref C := ry
  refine PySem.W.method_cls I1.kIn r.ga (PySem.W.cls_bind I1.kIn r.rd s.at_ (wpAny_call (PySem.W.sm_get (s := { s2 with toks := s2.toks + 1 }) I1.kIn hp (PySem.W.handed_on s.hv ?_))))
  have I2 := I1.tok (s2.toks + 1)
  refine PySem.W.callWith_K (h₀ := X.base) I.ok.mod.kin s.kp (thn (ha.run pos pins _ σ H1 _ I2 h) fun us s3 ⟨vs, H2, I3, rv, q⟩ => ⟨I3.kIn, ?_⟩) hst hpl
  exact run_fnRS F hr (tk σ) I3 rv q
end
/-! ### repr -/
/-! how long what is shown is at most -/
mutual
def szD : PyData → Nat
  | .none => 4
  | .bool _ => 5
  | .int i => i.natAbs.log2 + 3
  | .str x => 10 * x.length + 2
  | .list xs => szAll xs + 2
  | .tuple xs => szAll xs + 3
  | .dict kvs => szKv kvs + 2
def szAll : List PyData → Nat
  | [] => 0
  | x :: xs => szD x + 2 + szAll xs
def szKv : List (PyData × PyData) → Nat
  | [] => 0
  | (k, v) :: r => szD k + szD v + 4 + szKv r
end
mutual
/-- ints and texts that are not too large -/
def fitD : PyData → Bool
  | .none => true
  | .bool _ => true
  | .int i => decide (i.natAbs.log2 < 1920)
  | .str x => x.cps.toList.all fun c => decide (c < 16 ^ 8)
  | .list xs => fitAll xs
  | .tuple xs => fitAll xs
  | .dict kvs => fitKv kvs
def fitAll : List PyData → Bool
  | [] => true
  | x :: xs => fitD x && fitAll xs
def fitKv : List (PyData × PyData) → Bool
  | [] => true
  | (k, v) :: r => fitD k && fitD v && fitKv r
end
theorem piled_sz : ∀ {ts : List Str} {n : Nat}, ts ≠ [] → PySem.piled ts ≤ n → (Str.join ", " ts).length ≤ n := fun {ts n} h hn => by
  have := join_length_add ts h
  omega
theorem lst_len : ∀ (ts : List Str) (k : Nat) (acc : Str), (textFrom k acc ts).length ≤ acc.length + (ts.map fun t => t.length + 2).sum
  | [], k, acc => by show acc.length ≤ _; simp
  | t :: r, k, acc => by
    have ih := lst_len r (k + 1) (acc ++ (if k > 0 then ", " else "" : String) ++ t)
    have e : (acc ++ (if k > 0 then ", " else "" : String) ++ t).length ≤ acc.length + 2 + t.length := by
      rw [strLen_append, strLen_append]
      by_cases c : k > 0
      · rw [if_pos c, show ((", " : String) : Str).length = 2 from rfl] <;> omega
      · rw [if_neg c, show (("" : String) : Str).length = 0 from rfl]; omega
    show (textFrom (k + 1) (acc ++ (if k > 0 then ", " else "" : String) ++ t) r).length ≤ _
    rw [List.map_cons, List.sum_cons]
    omega
theorem join_len : ∀ ts : List Str, (Str.join ", " ts).length ≤ (ts.map fun t => t.length + 2).sum
  | [] => by show 0 ≤ _; exact Nat.zero_le _
  | [x] => by show x.length ≤ _; simp
  | x :: y :: r => by
    have ih := join_len (y :: r)
    show (x ++ ", " ++ Str.join ", " (y :: r)).length ≤ _
    rw [strLen_append, strLen_append, List.map_cons, List.sum_cons, show ((", " : String) : Str).length = 2 from rfl]
    omega
mutual
theorem shown_le : ∀ {d : PyData}, fitD d = true → d.shown.length ≤ szD d
  | .none, _ => by decide
  | .bool b, _ => by cases b <;> decide
  | .int i, _ => by
    have := int_text_length_le (a := i) (k := i.natAbs.log2 + 1) (by omega) (by omega)
    show (Str.ofString (toString i)).length ≤ i.natAbs.log2 + 3
    rw [PySem.ofString_length]; omega
  | .str x, h => PySem.StrLaws.reprText_len x fun c hc => of_decide_eq_true (List.all_eq_true.mp h c hc)
  | .list xs, h => by
    have := shownAll_le (l := xs) h
    have e := lst_len (PyData.shownAll xs) 0 "["
    show (textFrom 0 "[" (PyData.shownAll xs) ++ "]").length ≤ szAll xs + 2
    rw [strLen_append, show (("]" : String) : Str).length = 1 from rfl]
    rw [show (("[" : String) : Str).length = 1 from rfl] at e
    omega
  | .tuple xs, h => by
    have := shownAll_le (l := xs) h
    have e := join_len (PyData.shownAll xs)
    show (("(" : Str) ++ Str.join ", " (PyData.shownAll xs) ++ (if (PyData.shownAll xs).length == 1 then ",)" else ")" : String)).length ≤ szAll xs + 3
    rw [strLen_append, strLen_append, show (("(" : String) : Str).length = 1 from rfl]
    cases (PyData.shownAll xs).length == 1 with
    | true => rw [if_pos rfl, show ((",)" : String) : Str).length = 2 from rfl]; omega
    | false => rw [if_neg Bool.false_ne_true, show ((")" : String) : Str).length = 1 from rfl]; omega
  | .dict kvs, h => by
    have := shownKv_le (l := kvs) h
    have e := join_len (PyData.shownKv kvs)
    show (("{" : Str) ++ Str.join ", " (PyData.shownKv kvs) ++ "}").length ≤ szKv kvs + 2
    rw [strLen_append, strLen_append, show (("{" : String) : Str).length = 1 from rfl, show (("}" : String) : Str).length = 1 from rfl]
    omega
theorem shownAll_le : ∀ {l : List PyData}, fitAll l = true → ((PyData.shownAll l).map fun t => t.length + 2).sum ≤ szAll l
  | [], _ => Nat.le_refl _
  | x :: l, h => by
    obtain ⟨h1, h2⟩ := Bool.and_eq_true_iff.mp (show (fitD x && fitAll l) = true from h)
    have a := shown_le h1
    have b := shownAll_le h2
    show (((x.shown :: PyData.shownAll l)).map fun t => t.length + 2).sum ≤ szD x + 2 + szAll l
    rw [List.map_cons, List.sum_cons]
    omega
theorem shownKv_le : ∀ {l : List (PyData × PyData)}, fitKv l = true → ((PyData.shownKv l).map fun t => t.length + 2).sum ≤ szKv l
  | [], _ => Nat.le_refl _
  | (k, v) :: l, h => by
    obtain ⟨h12, h3⟩ := Bool.and_eq_true_iff.mp (show ((fitD k && fitD v) && fitKv l) = true from h)
    obtain ⟨h1, h2⟩ := Bool.and_eq_true_iff.mp h12
    have a := shown_le h1
    have b := shown_le h2
    have c := shownKv_le h3
    show ((((k.shown ++ ": " ++ v.shown) :: PyData.shownKv l)).map fun t => t.length + 2).sum ≤ szD k + szD v + 4 + szKv l
    rw [List.map_cons, List.sum_cons, strLen_append, strLen_append, show ((": " : String) : Str).length = 2 from rfl]
    omega
end
mutual
theorem showable_of : ∀ {d : PyData}, fitD d = true → d.showable = true
  | .none, _ => rfl
  | .bool _, _ => rfl
  | .int _, h => h
  | .str _, _ => rfl
  | .list _, h => showables_of h
  | .tuple _, h => showables_of h
  | .dict _, h => showablek_of h
theorem showables_of : ∀ {l : List PyData}, fitAll l = true → PyData.showableAll l = true
  | [], _ => rfl
  | x :: l, h => by
    obtain ⟨h1, h2⟩ := Bool.and_eq_true_iff.mp (show (fitD x && fitAll l) = true from h)
    show (x.showable && PyData.showableAll l) = true
    rw [showable_of h1, showables_of h2]; rfl
theorem showablek_of : ∀ {l : List (PyData × PyData)}, fitKv l = true → PyData.showableKv l = true
  | [], _ => rfl
  | (k, v) :: l, h => by
    obtain ⟨h12, h3⟩ := Bool.and_eq_true_iff.mp (show ((fitD k && fitD v) && fitKv l) = true from h)
    obtain ⟨h1, h2⟩ := Bool.and_eq_true_iff.mp h12
    show ((k.showable && v.showable) && PyData.showableKv l) = true
    rw [showable_of h1, showable_of h2, showablek_of h3]; rfl
end
def rReprD (K : PySem.W.Frag) : List V → Hp → VK → Prop := fun xs H Q => ∃ x d, xs = [x] ∧ Dp K H x d ∧ fitD d = true ∧ d.hasDict = false ∧ d.depth ≤ 60 ∧ szD d ≤ 1000000 ∧ Q (.str d.shown) H
theorem callRepr {X : Cx} {K : PySem.W.Frag} (hK : X.K = K) (hA : X.A.guards = some []) (hu : X.A.units + 64 < cLine) : CallR X (.builtin "repr") (rReprD K) := by
  subst hK
  intro pins s σ H xs us Q I r h
  obtain ⟨x, d, rfl, hd, hf, hdd, hdp, hz, q⟩ := h
  have hs := showable_of hf
  have hz : d.shown.length ≤ sizeLine := Nat.le_trans (shown_le hf) (sz_of hz)
  obtain ⟨u, rfl, rx⟩ := vals1 r
  obtain ⟨as, rd⟩ := Dp.reads I d x u hd rx
  have fin : ∀ (h' : Heap) (t : Tok) (tk : Nat), (∀ b o, s.heap.get? b = some o → h'.get? b = some o) → EP X pins σ Q (.str d.shown t) { s with heap := h', toks := tk } := fun h' t tk k => ⟨.str d.shown, H, I.kept k, ⟨_, rfl⟩, q⟩
  cases hd with
  | non => cases rx; exact PySem.P.repr_of_none (fin _ _ _ fun _ _ z => z)
  | bl b => cases rx; exact PySem.P.repr_of_bool (fin _ _ _ fun _ _ z => z)
  | int i =>
    obtain ⟨t, rfl⟩ := rx
    exact PySem.P.repr_of_int (by simpa [PyData.showable] using hs) (fin _ _ _ fun _ _ z => z)
  | str y =>
    obtain ⟨t, rfl⟩ := rx
    exact PySem.P.repr_of_str (fin _ _ _ fun _ _ z => z) hz
  | lst h1 h2 => cases rx; exact repr_of_reads' rd hs (fun z => by rw [hdd] at z; cases z) hA (by omega) (fun _ _ z => z) (fun h' u tk k => fin h' u tk k) hz
  | tup h1 h2 => cases rx; exact repr_of_reads' rd hs (fun z => by rw [hdd] at z; cases z) hA (by omega) (fun _ _ z => z) (fun h' u tk k => fin h' u tk k) hz
def reprD : DN
  | [d], R => ∃ p, toPy d = some p ∧ fitD p = true ∧ p.hasDict = false ∧ p.depth ≤ 60 ∧ szD p ≤ 1000000 ∧ R (.str p.shown)
  | _, _ => False
theorem ro_repr {c : Kc} : RON c (rReprD c.K) reprD := fun ds R m G H vs ex d Q q => by
  match ds, m with
  | [d0], ⟨p, hp, hf, hdd, hdp, hz, m⟩ =>
    obtain ⟨v, r, rfl, d1, d2⟩ := d
    cases d2
    exact ⟨v, p, rfl, dp_of (d1.up ex.ex) hp, hf, hdd, hdp, hz, q _ (.str _) G H (Go.refl ex) rfl m⟩
end Mw

set_option Elab.async false
set_option linter.all false
set_option maxRecDepth 100000
set_option maxHeartbeats 4000000
namespace Mw
open PySem PySem.Spec PyProof.Rows L2
open PpSet (newSet_ok eval_SetComp compLoopS_any codeAny_compStart_set)
/-! ### sets of ints -/
section
variable {X : Cx}
def rSetI (K : PySem.W.Frag) (w : World) : List V → Hp → VK → Prop := fun xs H Q => ∃ (p : Addr) (ns : List Int), xs = [.ref p] ∧ SqT K H p (ns.map V.int) ∧ ns.length ≤ 1000 ∧
  ∀ a n, n ≤ ns.length → H a = none → Q (.ref a) (upd H a (SetO w a (fun j => decide (j ∈ ns)) n))
theorem callSet {K : PySem.W.Frag} {w : World} (hK : X.K = K) (hw : X.w = w) (hc : X.calm = true) : CallR X (.type "set") (rSetI K w) := by
  subst hK hw
  intro pins s σ H xs us Q I r h
  obtain ⟨p, ns, rfl, hq, hl, q⟩ := h
  rw [Vals.ref1 r]
  obtain ⟨its, rv, pt, hz⟩ := I.tuple hq
  refine call_set_tupI ns (I.ok.hd hc) (show s.heap.IsTuple p its.toArray from pt) (ints_of_vals rv) (by unfold scanBound; omega) fun h' tk n R hn k => ?_
  have fr : H s.heap.objs.size = none := I.hok.fresh (Nat.le_refl _)
  exact ⟨.ref _, _, I.laid (t' := tk) k (Nat.le_refl _) (setO_new R), rfl, q _ n hn fr⟩
theorem callSorted {w : World} (hw : X.w = w) (hc : X.calm = true) : CallR X (.builtin "sorted") (rSortedSet w) := by subst hw; exact cr_sortedSet hc
/-- {elt for target in iter if ..}, elt an int: D the new set -/
def tScI (w : World) (wi : TI) (g : TG) (tt : TT) (te : TE) (vs : List Nat) : TE := fun σ H Q => wi σ H fun J H1 => ∀ D, H1 D = none → ∃ W : Nat → Nat → Hp → Prop, (∃ m, W 0 m (upd H1 D (SetO w D (fun _ => false) 0))) ∧ ∀ i m H, W i m H →
  (J.stop i H ∧ Q (.ref D) H) ∨ (J.go i H ∧ ∃ Nx : Hp → Prop, (∀ H', Nx H' → ∃ m', m' < m ∧ W (i + 1) m' H') ∧ ∀ x H', J.yld i H x H' → g x (wipe σ vs) H' fun σ2 H2 => wipe σ2 vs = wipe σ vs ∧ tt σ2 H2 fun b H3 =>
    if b = true then te σ2 H3 fun y H4 => ∃ (k : Int) (S : Int → Bool) (n : Nat), y = .int k ∧ H4 D = some (SetO w D S n) ∧ n + 1 < scanBound ∧ Nx (upd H4 D (SetO w D (fun j => S j || decide (j = k)) (if S k = true then n else n + 1))) else Nx H3)
theorem addI_ok {pins : List (Addr × Obj)} {σ : L2.St} {H : Hp} {s : Shared} {E : Value → Shared → Prop} {D : Addr} {S : Int → Bool} {n : Nat} {y : Int} {ty : Tok} {Q : Value → Shared → Prop} (I : Inv X pins σ H s) (hD : H D = some (SetO X.w D S n)) (room : n + 1 < scanBound)
    (h : ∀ s', Inv X pins σ (upd H D (SetO X.w D (fun j => S j || decide (j = y)) (if S y = true then n else n + 1))) s' → Q .none s') : wpAny (model X.prog X.w) X.A (call (.builtin "set.add") [.ref D, .int y ty]) Q E s := by
  refine setR_add (setO_get I hD) room fun hp' same fresh => ?_
  obtain ⟨ob, r0, r1, r2, hob, _⟩ := id fresh
  exact h _ (I.write (e := D) (t' := s.toks + 1) (by rw [hD]; trivial) (.inl rfl) (fun b u nb hu => (same.2 b nb).trans hu) ⟨ob, hob⟩ (setO_new fresh))
theorem flat_set {w : World} {a : Addr} {S : Int → Bool} {n : Nat} : Flat a (SetO w a S n) := ⟨(fun _ z => by unfold SetO at z; cases z), (fun q z => by
  unfold LamX.CodeO SetO at z
  have z := HO.ext.inj z
  let o : Obj := { cls := .none, data := .fields #[.none, .str q default] }
  have e : (⟨Array.replicate (a + 1) o, {}⟩ : Heap).get? a = some o := by
    unfold Heap.get?
    show (match (Array.replicate (a + 1) o)[a]? with | some ⟨_, _, .freed, _⟩ => none | o => o) = some o
    rw [Array.getElem?_replicate, if_pos (Nat.lt_succ_self a)]
  have y : SetR w ⟨Array.replicate (a + 1) o, {}⟩ a S n := by
    have := congrFun z ⟨Array.replicate (a + 1) o, {}⟩
    rw [this]
    exact ⟨o, _, default, e, rfl, rfl⟩
  obtain ⟨o', es, ep, t, h1, _, h2, _⟩ := y
  rw [e] at h1
  cases h1
  cases h2)⟩
abbrev FrI (w : World) (D : Addr) : HO := SetO w D (fun _ => false) 0
theorem scI_core {pins : List (Addr × Obj)} {s : Shared} {σ : L2.St} {H : Hp} {Q : VK} {elt tg iter : Expr} {ifs : List Expr} {scope : Scope} {own : List (PySem.Str × Nat)} {pos pos' : Pos} {wi : TI} {g : TG} {tt : TT} {te : TE} {use : Option (Value → Sem Unit)} {Qf : Value → Shared → Prop}
    (calm : X.calm = true) (nod : X.N.Nodup) (I : Inv X pins σ H s) (walk : PI X tg iter wi) (blk : BlkOk X.N X.env.scope scope own)
    (pgs : ∀ (s : Shared) (H : Hp) (C : Addr) (cl : List (PySem.Str × Addr)) (fp : List Addr), PG (X.blk s H scope (compEnvC scope cl C X.env) fp) tg g)
    (pts : ∀ (s : Shared) (H : Hp) (C : Addr) (cl : List (PySem.Str × Addr)) (fp : List Addr), PTs (X.blk s H scope (compEnvC scope cl C X.env) fp) ifs tt)
    (pes : ∀ (s : Shared) (H : Hp) (C : Addr) (cl : List (PySem.Str × Addr)) (fp : List Addr), PE (X.blk s H scope (compEnvC scope cl C X.env) fp) elt te) (fold : ∀ x, foldedSetIterable iter X.env x = pure x)
    (rd : tScI X.w wi g tt te (own.map (·.2)) σ H Q)
    (back : ∀ D C s' m H', Inv X pins σ H' s' → Q (.ref D) H' → s'.heap.Ns C m → FpOk X pins H' C → compPost (model X.prog X.w) X.A X.xe use Qf (.ref D) C (.ok .next) s') :
    wpAny (model X.prog X.w) X.A (comprehension (.SetComp elt [⟨tg, iter, ifs, 0⟩] scope pos) scope X.env pos' (newSet (.type "set")) false (eval iter X.env) use) Qf X.xe s := by
  have frees : ∀ y ∈ scope.names, y.2 = .free → ∃ c, X.env.cells.lookup y.1 = some c := fun y hy e => (blk.free y hy e).elim (fun k => I.ok.has _ (.inl k)) fun k => I.ok.has _ (.inr k)
  refine wpAny_comprehension_free (use := use) rfl fold (closure_ok frees) blk.kind (fun y hy e => by rw [blk.uniq y hy, e]) (thn (walk.run pins s σ H _ I rd) fun xv s1 hx => thn hx fun itv s2 got => ?_)
  obtain ⟨it, fp, tn, J, Ha, e0, Ia, T, sta, fa, ask⟩ := got
  subst e0
  refine newSet_ok (newEnv_comp ?_)
  generalize eD : s2.heap.objs.size = D
  have freeD : Ha D = none := Ia.hok.fresh (Nat.le_of_eq eD)
  obtain ⟨W, ⟨m0, w0⟩, turn⟩ := ask D freeD
  generalize es : ({ s2 with heap := s2.heap.push { cls := .type "set", dict := none, data := .set #[] 0 (.fresh 0 0 (!X.w.params.followText "set-order")) } } : Shared) = sb
  have hb : sb.heap = s2.heap.push { cls := .type "set", dict := none, data := .set #[] 0 (.fresh 0 0 (!X.w.params.followText "set-order")) } := by rw [← es]
  have Ib : Inv X pins σ (upd Ha D (FrI X.w D)) sb := by
    rw [← es]
    refine Ia.laid (t' := s2.toks) (fun b o e => Heap.get?_push_of_some _ e) (Nat.le_of_eq eD) ?_
    rw [← eD]
    exact setO_new (setR_fresh X.w)
  have below : ∀ b ∈ fp, b < s2.heap.objs.size := fun b hb => let ⟨o, e, _⟩ := T.obj _ _ sta b hb; Heap.lt_size e
  have fb : ∀ b ∈ fp, FpOk X pins (upd Ha D (FrI X.w D)) b ∧ b < sb.heap.objs.size := fun b hm => by
    have lt := below b hm
    exact ⟨⟨by rw [upd_ne (by rw [← eD]; exact Nat.ne_of_lt lt)]; exact (fa b hm).1, (fa b hm).2⟩, by rw [hb, Heap.size_push]; exact Nat.lt_succ_of_lt lt⟩
  have stb : tn 0 sb.heap := T.keep _ _ _ sta fun b _ o e => by rw [hb]; exact Heap.get?_push_of_some _ e
  have Ic := block_start Ib blk nod fb
  have pg := pgs sb (upd Ha D (FrI X.w D)) sb.heap.objs.size (cellsFrom (sb.heap.objs.size + 1) scope.names (cloFrom X.env.cells scope.names [])) fp
  have pt := pts sb (upd Ha D (FrI X.w D)) sb.heap.objs.size (cellsFrom (sb.heap.objs.size + 1) scope.names (cloFrom X.env.cells scope.names [])) fp
  have pe := pes sb (upd Ha D (FrI X.w D)) sb.heap.objs.size (cellsFrom (sb.heap.objs.size + 1) scope.names (cloFrom X.env.cells scope.names [])) fp
  show codeAny _ _ (.compStart (.SetComp elt [⟨tg, iter, ifs, 0⟩] scope pos) 0 (.ref it) (.ref D) (compEnvC scope (cellsFrom (sb.heap.objs.size + 1) scope.names (cloFrom X.env.cells scope.names [])) sb.heap.objs.size X.env)) (compPost (model X.prog X.w) X.A X.xe use Qf (.ref D) sb.heap.objs.size) { sb with heap := pushCells (sb.heap.push { cls := .type "dict", data := .dict #[] }) scope.names }
  have nofp : ∀ b ∈ fp, (upd Ha D (FrI X.w D)) b = none := fun b hm => (fb b hm).1.1
  generalize ece : compEnvC scope (cellsFrom (sb.heap.objs.size + 1) scope.names (cloFrom X.env.cells scope.names [])) sb.heap.objs.size X.env = ce at Ic pg pt pe ⊢
  have loc : ce.locals = sb.heap.objs.size := by subst ece; rfl
  generalize eH : upd Ha D (FrI X.w D) = Hb at Ib Ic pg pt pe w0 nofp fb
  generalize esc : ({ sb with heap := pushCells (sb.heap.push { cls := .type "dict", data := .dict #[] }) scope.names } : Shared) = sc at Ic ⊢
  have stc : tn 0 sc.heap := T.keep _ _ _ stb fun b _ o e => by rw [← esc]; exact pushCells_keeps _ _ _ _ (Heap.get?_push_of_some _ e)
  have held : ∀ {σ' : L2.St} {H' : Hp} {s' : Shared}, Inv (X.blk sb Hb scope ce fp) [] σ' H' s' → (∀ b ∈ fp, H' b = none) → ∀ b ∈ fp, FpOk (X.blk sb Hb scope ce fp) [] H' b := fun {σ' H' s'} I' hn b hm =>
    ⟨hn b hm, (I'.ok.exf b hm).1, I'.ok.exfs b hm, .inl hm, fun x c e => (I'.ok.exf b hm).2 x c e, fun p hp => absurd (show p ∈ ([] : List (Addr × Obj)) ++ [] from hp) (by simp)⟩
  have loop : codeAny (model X.prog X.w) X.A (.compLoop (.SetComp elt [⟨tg, iter, ifs, 0⟩] scope pos) 0 (.ref it) (.ref D) ce) (compPost (model X.prog X.w) X.A X.xe use Qf (.ref D) sb.heap.objs.size) sc := by
    refine compLoopS_any (fun n s' => ∃ i H', Inv (X.blk sb Hb scope ce fp) [] (wipe σ (own.map (·.2))) H' s' ∧ tn i s'.heap ∧ (∀ b ∈ fp, H' b = none) ∧ W i n H') ?_ m0 ⟨0, Hb, Ic, stc, nofp, w0⟩
    rintro n sd ⟨i, Hd, Id, std, nd, wd⟩
    rcases turn i n Hd wd with ⟨stop, fin⟩ | ⟨go, Nx, more, step⟩
    · refine thnF (T.done (X.blk sb Hb scope ce fp) rfl rfl rfl calm i [] sd _ Hd (fun _ _ => False) Id (held Id nd) std stop) fun r se ⟨hr, Ie⟩ => ?_
      subst hr
      have If : Inv X pins σ Hd se := Ib.call' (ch := fp) Ie.os Ie.base Ie.hok Ie.bare fun b hm => let z := (fb b hm).1.2; ⟨z.2.2.1, z.1, z.2.2.2.1, z.2.2.2.2⟩
      have nC : Hd sb.heap.objs.size = none := by rw [← loc]; exact Ie.free
      obtain ⟨m, hn, _⟩ := Ie.loc
      have hn : se.heap.Ns sb.heap.objs.size m := by rw [← loc]; exact hn
      exact back D sb.heap.objs.size se m Hd If fin hn (Ib.fpOk (Nat.le_refl _) nC)
    · refine thnF (T.item (X.blk sb Hb scope ce fp) rfl rfl rfl calm i [] sd _ Hd (fun _ _ => False) Id (held Id nd) std go) fun r se ⟨u, hr, he⟩ => ?_
      subst hr
      refine thnF he fun _ sg ⟨x, Hg, Ig, rg, yg, stg, ng⟩ => ?_
      refine thnF (pg.run _ sg _ Hg x u _ (Ig.pinned (held Ig ng) (T.obj _ _ stg)) rg (step x Hg yg)) fun _ sh ⟨σh, Hh, Ih, wh, qh⟩ => ?_
      refine thnF (pt.run _ sh σh Hh _ Ih qh) fun b si ⟨Hi, Ii, qi⟩ => ?_
      have on : ∀ {s' : Shared} {H' : Hp}, Inv (X.blk sb Hb scope ce fp) ([] ++ pinsAt fp sg.heap) σh H' s' → Nx H' → ∃ m, m < n ∧ ∃ i H', Inv (X.blk sb Hb scope ce fp) [] (wipe σ (own.map (·.2))) H' s' ∧ tn i s'.heap ∧ (∀ b ∈ fp, H' b = none) ∧ W i m H' := fun {s' H'} I' nx => by
        obtain ⟨m', hm, w'⟩ := more H' nx
        have pinned : ∀ b ∈ fp, ∀ o, sg.heap.get? b = some o → s'.heap.get? b = some o ∧ H' b = none := fun b hb o e =>
          have z := I'.pin (b, o) (List.mem_append_right _ (List.mem_append_right _ (mem_pinsAt hb e)))
          ⟨z.1, z.2.1⟩
        refine ⟨m', hm, i + 1, H', (I'.unpinned (pins := [])).weak (by rw [← wh, wipe_length]) (fun j v e => (wipe_some (by rw [wh]; exact e)).1), T.keep _ _ _ stg fun b hb o e => (pinned b hb o e).1, fun b hb => ?_, w'⟩
        obtain ⟨o, e, _⟩ := T.obj _ _ stg b hb
        exact (pinned b hb o e).2
      cases b with
      | false =>
        rw [if_neg Bool.false_ne_true] at qi
        exact on Ii qi
      | true =>
        rw [if_pos rfl] at qi
        show wpAny _ _ _ _ _ _
        refine thnF (pe.run _ si σh Hi _ Ii qi) fun z sj ⟨yv, Hj, Ij, rj, kb, S0, n0, ey, hDj, hzj, nx⟩ => ?_
        subst ey
        obtain ⟨tk, rfl⟩ := (show ∃ t, z = Value.int kb t from rj)
        exact addI_ok (X := X.blk sb Hb scope ce fp) Ij hDj hzj fun sk Ik => on Ik nx
  exact PpSet.codeAny_compStart_set loop (T.self X.A 0 _ _ _ stc loop)
theorem pe_scI {elt tg iter : Expr} {ifs : List Expr} {scope : Scope} {own : List (PySem.Str × Nat)} {pos : Pos} {wi : TI} {g : TG} {tt : TT} {te : TE} {w : World} (hw : X.w = w) (calm : X.calm = true) (nod : X.N.Nodup) (walk : PI X tg iter wi) (blk : BlkOk X.N X.env.scope scope own)
    (pgs : ∀ (s : Shared) (H : Hp) (C : Addr) (cl : List (PySem.Str × Addr)) (fp : List Addr), PG (X.blk s H scope (compEnvC scope cl C X.env) fp) tg g)
    (pts : ∀ (s : Shared) (H : Hp) (C : Addr) (cl : List (PySem.Str × Addr)) (fp : List Addr), PTs (X.blk s H scope (compEnvC scope cl C X.env) fp) ifs tt)
    (pes : ∀ (s : Shared) (H : Hp) (C : Addr) (cl : List (PySem.Str × Addr)) (fp : List Addr), PE (X.blk s H scope (compEnvC scope cl C X.env) fp) elt te) (fold : ∀ x, foldedSetIterable iter X.env x = pure x := by intro _; rfl) :
    PE X (.SetComp elt [⟨tg, iter, ifs, 0⟩] scope pos) (tScI w wi g tt te (own.map (·.2))) := by
  subst hw
  refine ⟨fun pins s σ H Q I h => ?_⟩
  rw [eval_SetComp]
  refine scI_core calm nod I walk blk pgs pts pes fold h fun D C s' m H' I' q hn f => ⟨m, hn, fun h'' sb => ?_⟩
  obtain ⟨f0, f1, f2, f3, f4, f5⟩ := f
  exact ⟨.ref D, H', I'.turned (t' := s'.toks) (fun b o hb e => (sb.2 b hb).trans e) f0 f1 f3 f4 f5, rfl, q⟩
end
section
variable {X : Cx}
/-- y = {elt for ..} -/
theorem ps_setScI {i : Nat} {y : Str} {py : Pos} {elt tg iter : Expr} {ifs : List Expr} {scope : Scope} {own : List (Str × Nat)} {pos spos : Pos} {wi : TI} {g : TG} {tt : TT} {te : TE} {w : World} (hw : X.w = w) (calm : X.calm = true) (nod : X.N.Nodup) (at_ : X.N[i]? = some y) (lo : X.env.scope.names.lookup y = some .local)
    (sw : swapsWith (.SetComp elt [⟨tg, iter, ifs, 0⟩] scope pos) (some (.Name y py)) spos.line X.env = pure true) (walk : PI X tg iter wi) (blk : BlkOk X.N X.env.scope scope own)
    (pgs : ∀ (s : Shared) (H : Hp) (C : Addr) (cl : List (PySem.Str × Addr)) (fp : List Addr), PG (X.blk s H scope (compEnvC scope cl C X.env) fp) tg g)
    (pts : ∀ (s : Shared) (H : Hp) (C : Addr) (cl : List (PySem.Str × Addr)) (fp : List Addr), PTs (X.blk s H scope (compEnvC scope cl C X.env) fp) ifs tt)
    (pes : ∀ (s : Shared) (H : Hp) (C : Addr) (cl : List (PySem.Str × Addr)) (fp : List Addr), PE (X.blk s H scope (compEnvC scope cl C X.env) fp) elt te) (fold : ∀ x, foldedSetIterable iter X.env x = pure x := by intro _; rfl) :
    PS X (.Assign [.Name y py] (.SetComp elt [⟨tg, iter, ifs, 0⟩] scope pos) spos) (tAsg (tScI w wi g tt te (own.map (·.2))) (gName i)) := by
  subst hw
  refine ⟨fun pins s σ H D I h => ?_⟩
  rw [exec_Assign_Name_used _ _ _ _ sw]
  refine wpAny_bind (wpAny_standAt (wpAny_bind ?_))
  show wpAny _ X.A (do let _ ← comprehension (.SetComp elt [⟨tg, iter, ifs, 0⟩] scope pos) scope X.env (firstIterPos [⟨tg, iter, ifs, 0⟩] pos) (newSet (.type "set")) false (eval iter X.env) (some (assign (.Name y py) X.env))) _ _ s
  have rd : tScI X.w wi g tt te (own.map (·.2)) σ H (fun x H1 => gName i x σ H1 D.nx) := h
  refine wpAny_bind (thn (scI_core (Qf := fun _ s' => SP X pins D .next s') calm nod I walk blk pgs pts pes fold rd fun L C s' m H' I' qq ns f => ?_) fun _ s' hq => wpAny_pure (wpAny_pure hq))
  show wpAny _ _ (assign (.Name y py) X.env (.ref L)) _ _ _
  refine wpAny_assign_Name (store_ok2 (v := V.ref L) I' nod at_ (.inl lo) rfl (fun s2 I2 ⟨a, same, ha⟩ => ?_) (.inr lo))
  obtain ⟨f0, f1, f2, f3, f4, f5⟩ := f
  have ne : C ≠ a := ha.elim (fun z => by rw [z]; exact f1) fun z e => f4 y a z e.symm
  exact ⟨m, ns.sameBut same ne, fun h3 same3 => ⟨_, H', I2.turned (t' := s2.toks) (fun b o hb e => (same3.2 b hb).trans e) f0 f1 f3 f4 f5, qq⟩⟩
theorem sw_trueS {elt : Expr} {gs : List Comprehension} {scope : Scope} {pos py : Pos} {y : Str} {l : Nat} {env : Env} (hk : env.scope.kind = .function) (hy : env.scope.names.lookup y = some .local) (hl : (py.line == pos.line) = true)
    (ha : (scope.names.any fun (n, k) => n == y && (k == .local || k == .cell)) = false) : swapsWith (.SetComp elt gs scope pos) (some (.Name y py)) l env = pure true := by
  have kd : env.kindOf y = some .local := hy
  have fn : env.blockKind = .function := by unfold Env.blockKind; rw [hk]; rfl
  unfold swapsWith
  simp only [fn, kd, ha, Expr.pos, hl]
  rfl
end
/-! ### strictly ascending lists -/
def insU (k : Int) : List Int → List Int
  | [] => [k]
  | y :: r => if k < y then k :: y :: r else if k = y then y :: r else y :: insU k r
def sortU : List Int → List Int
  | [] => []
  | k :: r => insU k (sortU r)
theorem mem_insU {k j : Int} : ∀ {l : List Int}, j ∈ insU k l ↔ j = k ∨ j ∈ l
  | [] => by simp [insU]
  | y :: r => by
    unfold insU
    split
    · simp
    · split
      · rename_i h; subst h; simp
      · simp only [List.mem_cons, mem_insU (l := r)]
        constructor
        · rintro (h | h | h)
          · exact .inr (.inl h)
          · exact .inl h
          · exact .inr (.inr h)
        · rintro (h | h | h)
          · exact .inr (.inl h)
          · exact .inl h
          · exact .inr (.inr h)
theorem mem_sortU {j : Int} : ∀ {l : List Int}, j ∈ sortU l ↔ j ∈ l
  | [] => by simp [sortU]
  | k :: r => by unfold sortU; rw [mem_insU, mem_sortU (l := r), List.mem_cons]
theorem asc_insU {k : Int} : ∀ {l : List Int}, l.Pairwise (· < ·) → (insU k l).Pairwise (· < ·)
  | [], _ => by simp [insU]
  | y :: r, h => by
    unfold insU
    rw [List.pairwise_cons] at h
    split
    · rename_i hk
      rw [List.pairwise_cons, List.pairwise_cons]
      refine ⟨fun z hz => ?_, h⟩
      rcases List.mem_cons.mp hz with rfl | hz
      · exact hk
      · have := h.1 z hz; omega
    · split
      · rw [List.pairwise_cons]; exact h
      · rw [List.pairwise_cons]
        refine ⟨fun z hz => ?_, asc_insU h.2⟩
        rcases mem_insU.mp hz with rfl | hz
        · omega
        · exact h.1 z hz
theorem asc_sortU : ∀ l : List Int, (sortU l).Pairwise (· < ·)
  | [] => by simp [sortU]
  | k :: r => asc_insU (asc_sortU r)
theorem asc_eq : ∀ {l m : List Int}, l.Pairwise (· < ·) → m.Pairwise (· < ·) → (∀ j, j ∈ l ↔ j ∈ m) → l = m
  | [], [], _, _, _ => rfl
  | [], y :: m, _, _, h => by have := (h y).mpr (by simp); simp at this
  | x :: l, [], _, _, h => by have := (h x).mp (by simp); simp at this
  | x :: l, y :: m, h1, h2, h => by
    rw [List.pairwise_cons] at h1 h2
    have e : x = y := by
      rcases List.mem_cons.mp ((h x).mp (by simp)) with e | e
      · exact e
      · rcases List.mem_cons.mp ((h y).mpr (by simp)) with e2 | e2
        · exact e2.symm
        · have := h1.1 y e2; have := h2.1 x e; omega
    subst e
    rw [asc_eq h1.2 h2.2 fun j => ?_]
    have hj := h j
    simp only [List.mem_cons] at hj
    constructor
    · intro q
      rcases hj.mp (.inr q) with e | e
      · have := h1.1 j q; omega
      · exact e
    · intro q
      rcases hj.mpr (.inr q) with e | e
      · have := h2.1 j q; omega
      · exact e
theorem len_insU {k : Int} : ∀ {l : List Int}, (insU k l).length ≤ l.length + 1
  | [] => by simp [insU]
  | y :: r => by
    unfold insU
    split
    · simp
    · split
      · simp
      · have := len_insU (k := k) (l := r); simp; omega
/-! ### sets by data -/
def intsD : List Dt → Option (List Int)
  | [] => some []
  | .int b :: l => (intsD l).map (b :: ·)
  | _ => none
def setD : DN
  | [.tup l], R => ∃ ns, intsD l = some ns ∧ ns.length ≤ 1000 ∧ R (.set ns)
  | _, _ => False
def sortedD : DN
  | [.set l], R => l.length < 64 ∧ R (.lst ((sortU l).map .int))
  | _, _ => False
section
variable {c : Kc} {x : Mx} {w : Option WX}
theorem ints_ofD {G : Hp} : ∀ {l : List Dt} {bs : List Int} {xs : List V}, Dats c G l xs → intsD l = some bs → xs = bs.map V.int
  | [], _, _, h, e => by cases h; cases e; rfl
  | d :: l, _, _, ⟨x, r, h1, h2, h3⟩, e => by
    cases d with
    | int b =>
      unfold intsD at e
      obtain ⟨bs, e1, rfl⟩ := Option.map_eq_some_iff.mp e
      cases h2
      rw [h1, ints_ofD h3 e1]; rfl
    | _ => cases e
theorem dats_ints {G : Hp} : ∀ {ns : List Int}, Dats c G (ns.map .int) (ns.map V.int)
  | [] => rfl
  | n :: ns => ⟨.int n, _, rfl, rfl, dats_ints⟩
theorem ro_set : RON c (rSetI c.K c.w) setD := fun ds R m G H vs ex d Q q => by
  match ds, m with
  | [.tup l], ⟨ns, e, hl, m⟩ =>
    obtain ⟨v, r, rfl, ⟨a, xs, rfl, h1, h2⟩, d3⟩ := d
    cases d3
    rw [ints_ofD h2 e] at h1
    refine ⟨a, ns, rfl, Ex.tp ex.ex h1, hl, fun p n hn hp => q _ (.set ns) _ _ (Go.new ex hp) ⟨p, _, n, rfl, upd_same, hn, fun i => ?_⟩ m⟩
    rw [decide_eq_true_eq]
theorem ro_sorted : RON c (rSortedSet c.w) sortedD := fun ds R m G H vs ex d Q q => by
  match ds, m with
  | [.set l], ⟨hl, m⟩ =>
    obtain ⟨v, r, rfl, ⟨a, S, n, rfl, h1, hn, hS⟩, d3⟩ := d
    cases d3
    refine ⟨a, S, n, rfl, ex _ _ h1, by omega, fun ns p hp hm _ hn => ?_⟩
    have e : ns = sortU l := asc_eq hp (asc_sortU l) fun j => by rw [hm, hS, mem_sortU]
    subst e
    exact q _ (.lst _) _ _ (Go.new ex hn) (dat_newL dats_ints (ex.free hn)) m
/-- {e for ..}, ints -/
def scL (ss : SS) (g : GM) (t : TM) (e : EM) : List Dt → List Int → (List Int → Prop) → Prop
  | [], acc, R => R acc
  | d :: l, acc, R => g d ss fun s1 => t s1 (fun k => ifP k (e s1 (fun y => intD y fun i => scL ss g t e l (acc ++ [i]) R) xF) (scL ss g t e l acc R)) xF
def scW (it : AM) (vs : List Nat) (g : GM) (t : TM) (e : EM) : EM := fun ss R X => it ss (fun l => l.length ≤ 1000 ∧ scL (wipeS ss vs) g t e l [] fun acc => R (.set acc)) X
theorem re_sc {wi : TI} {it : AM} {g : TG} {gm : GM} {tt : TT} {t : TM} {te : TE} {e : EM} {vs : List Nat} (hi : RI c x w wi it) (hg : RG c x vs g gm) (ht : RT c x none tt t) (he : RE c x none te e) : RE c x w (tScI c.w wi g tt te vs) (scW it vs gm t e) := fun ss R X G σ H m ex s Q q z =>
  hi ss _ X G σ H m ex s _ (fun J l G1 H1 g1 wk ⟨hl, m1⟩ => by
    have s1 := s.go g1
    intro D nD
    have nG : G1 D = none := g1.ink.free nD
    refine ⟨fun i m H' => m = l.length - i ∧ i ≤ l.length ∧ ∃ (G' : Hp) (acc : List Int) (S : Int → Bool) (n : Nat), Go c G1 H1 G' H' ∧ G' D = none ∧ H' D = some (SetO c.w D S n) ∧ n ≤ acc.length ∧ acc.length ≤ i ∧ (∀ k, S k = true ↔ k ∈ acc) ∧ scL (wipeS ss vs) gm t e (l.drop i) acc fun acc => R (.set acc), ⟨l.length, by simp, Nat.zero_le _, G1, [], _, 0, Go.put g1.ink nD, nG, upd_same, Nat.le_refl _, Nat.le_refl _, fun k => by simp, m1⟩, ?_⟩
    rintro i m H2 ⟨rfl, hi, G2, acc, S, n, g2, n2, e2, hn, ha, hS, m2⟩
    by_cases hlt : i < l.length
    · refine .inr ⟨wk.goes i H2 hlt (g2.kn.trans g2.ink.ex), fun H' => ∃ (G' : Hp) (acc : List Int) (S : Int → Bool) (n : Nat), Go c G1 H1 G' H' ∧ G' D = none ∧ H' D = some (SetO c.w D S n) ∧ n ≤ acc.length ∧ acc.length ≤ i + 1 ∧ (∀ k, S k = true ↔ k ∈ acc) ∧ scL (wipeS ss vs) gm t e (l.drop (i + 1)) acc fun acc => R (.set acc), fun H' p' => ⟨l.length - (i + 1), by omega, rfl, hlt, p'⟩, fun v H3 y => ?_⟩
      obtain ⟨d, G3, hd3, g3, dx⟩ := wk.yields i H2 v H3 hlt (g2.kn.trans g2.ink.ex) y G2 g2.kn g2.ink
      have e3 : H3 D = some (SetO c.w D S n) := g3.up.st D _ e2 (fun _ z => by cases z)
      have n3 : G3 D = none := g3.nw D _ n2 e2 (fun _ z => by cases z)
      rw [drop_at hd3] at m2
      have s3 : Sv c x G3 H3 (wipe σ vs) (wipeS ss vs) := ((s1.go g2).go g3).wipe vs
      refine hg d _ _ m2 G3 H3 _ v g3.ink s3 dx _ fun σ4 s4 sv4 w4 m4 => ⟨by rw [w4]; exact wipe_wipe fun _ h => h, ?_⟩
      refine ht s4 _ xF G3 σ4 H3 m4 g3.ink sv4.1 _ (fun b G5 H5 g5 m5 => ?_) fun _ _ _ _ _ _ _ hc => hc.elim
      have e5 : H5 D = some (SetO c.w D S n) := g5.up.st D _ e3 (fun _ z => by cases z)
      have n5 : G5 D = none := g5.nw D _ n3 e3 (fun _ z => by cases z)
      cases b with
      | false => exact ⟨G5, acc, S, n, (g2.trans g3).trans g5, n5, e5, hn, by omega, hS, ifP_f m5⟩
      | true =>
        refine he s4 _ xF G5 σ4 H5 (ifP_t m5) g5.ink (sv4.1.go g5) _ (fun y dy G6 H6 g6 d6 m6 => ?_) fun _ _ _ _ _ _ _ hc => hc.elim
        obtain ⟨k, rfl, m7⟩ := of_intD m6
        cases d6
        have e6 : H6 D = some (SetO c.w D S n) := g6.up.st D _ e5 (fun _ z => by cases z)
        have n6 : G6 D = none := g6.nw D _ n5 e5 (fun _ z => by cases z)
        have g7 := ((g2.trans g3).trans g5).trans g6
        refine ⟨k, S, n, rfl, e6, by unfold scanBound; omega, G6, acc ++ [k], _, _, g7.turn n6 nD e6 flat_set, n6, upd_same, ?_, by simp; omega, fun j => ?_, m7⟩
        · split
          · simp; omega
          · simp; omega
        · simp [hS]
    · have e : i = l.length := by omega
      subst e
      rw [List.drop_length] at m2
      refine .inl ⟨wk.stops H2 (g2.kn.trans g2.ink.ex), q (.ref D) (.set acc) (upd G2 D (SetO c.w D S n)) H2 (g1.trans (g2.tell n2 nD e2)) ⟨D, S, n, rfl, upd_same, hn, hS⟩ m2⟩) z
end
end Mw

set_option Elab.async false
set_option linter.all false
set_option maxRecDepth 100000
set_option maxHeartbeats 4000000
namespace Mw
open PySem PySem.Spec PyProof.Rows L2
/-! ### defs with defaults -/
def dflP (Pre : PreX) (dd : List Dt) : PreX := fun ds R X => Pre (ds ++ dd) R X
def Dfd (K : PySem.W.Frag) (mg : Str → Option Value) (x : Str) (st : Stmt) (ps : List Str) (dvs : List V) (js : List Nat) : Prop :=
  ∃ f fd, FunD K x x (defArgs st) (defBody st) (defScope st) dvs [] f fd ∧ mg x = some (.ref f) ∧ ∀ j ∈ js, ∃ ds, Vals (dvs.drop j) ds ∧ Binds K fd ps ds
/-- the default values are such data -/
def DflD (c : Kc) (dvs : List V) (dd : List Dt) : Prop := ∀ G, Dats c G dd dvs
section
variable {P : Program} {c : Kc} {mg : Str → Option Value} {base : Heap}
theorem spX_dfl {Pre : PreX} {dd : List Dt} {dvs vs : List V} {H : Hp} {Q : VK} {E : XK} (hd : DflD c dvs dd) (h : spX c (dflP Pre dd) vs H Q E) : spX c Pre (vs ++ dvs) H Q E := by
  obtain ⟨G, ds, R, X, e, d, p, q⟩ := h
  exact ⟨G, ds ++ dd, R, X, e, d.app (hd G), p, q⟩
theorem gfxd_of {x : Str} {st : Stmt} {N ps : List Str} {k n m j : Nat} {js : List Nat} {dvs : List V} {dd : List Dt} {b : SM} (F : Dfd c.K mg x st ps dvs js) (hj : j ∈ js) (hd : DflD c (dvs.drop j) dd) (S : FnScope N ps (defScope st)) (hn : n = ps.length) (hm : m = N.length)
    (hbody : ∀ (f : Addr) (cdv : Value) (A : Around) (outer : List Env) (s : Shared) (H : Hp) (E : XK), Room k (A.deeper (envOfC x (defScope st) s.heap.objs.size f cdv)) →
      ∃ t, PSs (cxOf (L2.CX P c.w) P c.w c.K mg base N x (defScope st) f cdv A outer s H E) (defBody st) t ∧ RS c {} (wE E) t b) :
    Gfx P c mg base x (k + 1) (dflP (defW n m b) dd) := by
  subst hn hm
  obtain ⟨f, fd, F, mm, bb⟩ := F
  obtain ⟨ds, rv, bb⟩ := bb j hj
  have ok : FnOk P c.w c.K mg base (L2.CX P c.w) (k + 1) f fd ps (spX c (defW ps.length N.length b)) := by
    refine F.ok S (fun vs H Q E h => ?_) (fun cdv A outer s H vs Q E hr h => ?_)
    · obtain ⟨G, ds, R, X, e, d, p, _⟩ := h
      rw [d.len]; exact p.1
    · obtain ⟨G, ds, R, X, e, d, p, q, qx⟩ := h
      obtain ⟨t, ht, hs⟩ := hbody f cdv A outer s H E hr
      exact ⟨t, ht, body_end (n := 0) hs e d p.2 q qx⟩
  exact ⟨f, (ok.raw bb rv).imp fun vs H Q E h => spX_dfl hd h, mm, F.kp⟩
theorem dd_nil {dvs : List V} : DflD c (dvs.drop dvs.length) [] := fun G => by rw [List.drop_length]; rfl
theorem gfx_dfl0 {x : Str} {k : Nat} {Pre : PreX} (g : Gfx P c mg base x k (dflP Pre [])) : Gfx P c mg base x k Pre := by
  have e : dflP Pre [] = Pre := by
    funext ds R X
    unfold dflP
    rw [List.append_nil]
  rw [e] at g; exact g
end
end Mw

set_option Elab.async false
set_option linter.all false
set_option maxRecDepth 100000
set_option maxHeartbeats 4000000
namespace Mw
open PySem PySem.Spec PyProof.Rows L2
/-! ### readings of any kind -/
def iOr (v w : TI) : TI := fun σ H R => v σ H R ∨ w σ H R
theorem PI.or {X : Cx} {tg e : Expr} {v w : TI} (h1 : PI X tg e v) (h2 : PI X tg e w) : PI X tg e (iOr v w) := ⟨fun pins s σ H R I h => h.elim (h1.run pins s σ H R I) (h2.run pins s σ H R I)⟩
def iAnyD : Dt → (List Dt → Prop) → Prop
  | .lst l, R => R l
  | .sq l, R => R l
  | .tup l, R => R l
  | .str z, R => R (signsD z)
  | _, _ => False
def iAny (K : PySem.W.Frag) (te : TE) : TI := fun σ H R => te σ H fun v H1 => (∃ a, v = .ref a ∧ (∃ xs, SqL K H1 a xs) ∧ R (Itl K a) H1) ∨ ((∃ a, v = .ref a ∧ (∃ xs, SqT K H1 a xs) ∧ R (Itt K a) H1) ∨ ∃ z, v = .str z ∧ R (Its z) H1)
theorem piAny {X : Cx} {K : PySem.W.Frag} (hK : X.K = K) {tg e : Expr} {te : TE} (he : PE X e te) : PI X tg e (iAny K te) := by
  subst hK
  refine ⟨fun pins s σ H R I h => thn (he.run pins s σ H _ I h) fun u s1 ⟨v, H1, I1, rv, got⟩ => ?_⟩
  rcases got with ⟨a, rfl, ⟨xs, sq⟩, q⟩ | ⟨a, rfl, ⟨xs, sq⟩, q⟩ | ⟨z, rfl, q⟩
  · cases rv
    obtain ⟨its, _, p, _⟩ := I1.list sq
    exact wpAny_pyIter_list p.isList (pi_one (tk := s1.toks) I1 _ (turn_list a _) ⟨_, Heap.get?_push_size _ rfl, rfl, rfl⟩ q)
  · cases rv
    obtain ⟨its, _, p, _⟩ := I1.tuple sq
    exact wpAny_pyIter_tuple (show s1.heap.IsTuple a its.toArray from p) (pi_one (tk := s1.toks) I1 _ (turn_tuple a _) ⟨_, Heap.get?_push_size _ rfl, rfl, rfl⟩ q)
  · obtain ⟨t, rfl⟩ := rv
    cases asc : z.cps.all (· < 128)
    · exact wpAny_pyIter_wide asc (pi_one (tk := s1.toks) I1 _ (turn_str _ z t "str_iterator" (.inr rfl)) ⟨_, Heap.get?_push_size _ rfl, rfl, rfl⟩ q)
    · exact wpAny_pyIter_ascii asc (pi_one (tk := s1.toks) I1 _ (turn_str _ z t "str_ascii_iterator" (.inl rfl)) ⟨_, Heap.get?_push_size _ rfl, rfl, rfl⟩ q)
def rSlAny (K : PySem.W.Frag) : V → Option Int → Option Int → Hp → VK → Prop := fun x lo hi H Q => rSlL K x lo hi H Q ∨ (rSlA K x lo hi H Q ∨ rSlS x lo hi H Q)
theorem slAny {X : Cx} {K : PySem.W.Frag} (hK : X.K = K) : SlR X (rSlAny K) := by
  subst hK
  intro pins s σ H x v vl vu lo hi sl Q I rx hs pl pu h
  rcases h with h | h | h
  · exact sl_list pins s σ H x v vl vu lo hi sl Q I rx hs pl pu h
  · exact sl_tupA pins s σ H x v vl vu lo hi sl Q I rx hs pl pu h
  · exact sl_str pins s σ H x v vl vu lo hi sl Q I rx hs pl pu h
def slD : DSl
  | .lst l, lo, hi, R => R (.lst (cutD l lo hi))
  | .tup l, lo, hi, R => R (.tup (cutD l lo hi))
  | .str z, lo, hi, R => z.length ≤ 1000000 ∧ R (.str (cutS z lo hi))
  | _, _, _, _ => False
section
variable {c : Kc} {x : Mx} {w : Option WX} {ta : TE} {a : EM}
theorem ro_sl : ROS c (rSlAny c.K) slD := fun d lo hi R m G H v ex d1 Q q => by
  cases d with
  | lst l => exact .inl (ro_slL (.lst l) lo hi R m G H v ex d1 Q q)
  | tup l => exact .inr (.inl (ro_slT (.tup l) lo hi R m G H v ex d1 Q q))
  | str l => exact .inr (.inr (ro_slS (.str l) lo hi R m G H v ex d1 Q q))
  | _ => exact m.elim
theorem ri_any (ha : RE c x w ta a) : RI c x w (iAny c.K ta) (itW iAnyD a) := fun ss R X G σ H m e s Q q z =>
  ha ss _ X G σ H m e s _ (fun v d G1 H1 g1 d1 m1 => by
    cases d with
    | lst l =>
      obtain ⟨a, xs, rfl, hs, hd⟩ := d1
      exact .inl ⟨a, rfl, ⟨xs, .inl (.inl (g1.ink _ _ hs))⟩, q _ l G1 H1 g1 (wd_list (.inl (.inl hs)) hd) m1⟩
    | sq l =>
      obtain ⟨a, xs, rfl, hs, hd⟩ := d1
      exact .inl ⟨a, rfl, ⟨xs, g1.ink.seq hs⟩, q _ l G1 H1 g1 (wd_list hs hd) m1⟩
    | tup l =>
      obtain ⟨a, xs, rfl, hs, hd⟩ := d1
      exact .inr (.inl ⟨a, rfl, ⟨xs, Ex.tp g1.ink.ex hs⟩, q _ l G1 H1 g1 (wd_tup (.inl (.inl hs)) hd) m1⟩)
    | str l =>
      cases d1
      exact .inr (.inr ⟨l, rfl, q _ _ G1 H1 g1 wd_str m1⟩)
    | _ => exact m1.elim) z
theorem dat_newK {G : Hp} {p : Addr} {l : List (Key × Dt)} {xs : List (Key × V)} (d : Datk c G l xs) (h : G p = none) (o : Obj) : Dat c (upd G p (.frz o (.dK xs))) (.dic l) (.ref p) := ⟨p, o, xs, rfl, upd_same, d.up (Ex.new h)⟩
end
end Mw

set_option Elab.async false
set_option linter.all false
set_option maxRecDepth 100000
set_option maxHeartbeats 4000000
namespace Mw
open PySem PySem.Spec PyProof.Rows L2
/-! ### the law's call, where no repr is under way -/
section
variable {P : Program} {w : World} {K : PySem.W.Frag} {mg mb : Str → Option Value} {s : Shared} {a : Addr} {vs : List Value} {ns : List Int}
/-- what is tracked at the law's call: the script alone, or nothing -/
structure TopH (P : Program) (w : World) (K : PySem.W.Frag) (s : Shared) (a : Addr) (ns : List Int) (H : Hp) : Prop where
  sq : SqL K H a (ns.map V.int)
  ok : HOk P w H s.heap
  only : ∀ b u, H b = some u → b = a ∧ K.lookup a = none ∧ ∃ o xs, u = .frz o (.lst xs)
theorem top_H (KX : K.In s.heap) (ha : s.heap.get? a = some { cls := .type "list", data := .seq vs.toArray }) (hi : IntsAre vs ns) (hl : ns.length ≤ sizeLine) : ∃ H, TopH P w K s a ns H := by
  have rv := vals_ints hi
  cases hk : K.lookup a with
  | some o =>
    have e := KX a o hk
    rw [ha] at e
    cases e
    exact ⟨fun _ => none, .inr ⟨_, vs.toArray, _, hk, rfl, rfl, rfl, by rw [List.size_toArray, hi.length]; exact hl, by simpa using rv⟩, (fun b u z => nomatch (show (none : Option HO) = some u from z)), (fun b u z => nomatch (show (none : Option HO) = some u from z))⟩
  | none =>
    have at_ : ∀ {b : Addr} {u : HO}, (upd (fun _ => none) a (.frz { cls := .type "list", data := .seq vs.toArray } (.lst (ns.map V.int))) : Hp) b = some u → b = a ∧ u = .frz { cls := .type "list", data := .seq vs.toArray } (.lst (ns.map V.int)) := fun {b u} z => by
      by_cases c : b = a
      · subst c; rw [upd_same] at z; exact ⟨rfl, (Option.some.inj z).symm⟩
      · rw [upd_ne c] at z; cases z
    refine ⟨upd (fun _ => none) a (.frz { cls := .type "list", data := .seq vs.toArray } (.lst (ns.map V.int))), .inl (.inr ⟨_, upd_same⟩), fun b u z => ?_, fun b u z => ?_⟩
    · obtain ⟨rfl, rfl⟩ := at_ z
      exact ⟨ha, by rw [List.length_map]; exact hl, vs, _, rv, ha⟩
    · obtain ⟨rfl, rfl⟩ := at_ z
      exact ⟨rfl, hk, _, _, rfl⟩
theorem top_env {H : Hp} (KX : K.In s.heap) (hns : s.heap.Ns mainGlobals mg) (hb : s.heap.Ns builtinsNs mb) (hbb : ∀ x : Str, x ≠ "__name__" → mb x = bootBuiltins x) (hlim : s.heap.NoLimit) (hg : s.gens = #[])
    (ha : s.heap.get? a = some { cls := .type "list", data := .seq vs.toArray }) (T : TopH P w K s a ns H) : K.In (hidT s.heap H) ∧ (hidT s.heap H).Ns mainGlobals mg ∧ Env0 P w K mg (hidT s.heap H) callerA [] s H := by
  have free : ∀ {b : Addr} {o : Obj}, s.heap.get? b = some o → (∀ z, o ≠ { cls := .type "list", data := .seq vs.toArray } ∨ K.lookup a = some z) → (hidT s.heap H).get? b = some o := fun {b o} e q => hidT_get e (by
    cases c : H b with
    | none => rfl
    | some u =>
      obtain ⟨rfl, hk, _⟩ := T.only b u c
      rw [ha] at e
      rcases q o with q | q
      · exact absurd (Option.some.inj e).symm q
      · rw [hk] at q; cases q)
  have names : ∀ {b : Addr} {m : Str → Option Value}, s.heap.Ns b m → (hidT s.heap H).Ns b m := fun {b m} ⟨o, es, ep, e, d, r⟩ => ⟨o, es, ep, free e (fun z => .inl fun c => by subst c; cases d), d, r⟩
  have kin : K.In (hidT s.heap H) := fun b o e => hidT_get (KX b o e) (by
    cases c : H b with
    | none => rfl
    | some u => obtain ⟨rfl, hk, _⟩ := T.only b u c; rw [hk] at e; cases e)
  exact ⟨kin, names hns, rfl, ⟨kin, names hns, ⟨mb, names hb, hbb⟩, let ⟨mc, h1, h2⟩ := hlim; ⟨mc, names h1, h2⟩⟩, fun b o e => of_hidT e, Nat.le_of_eq (hidT_size _ _), trivial, (fun b hb => nomatch (show b ∈ ([] : List Addr) from hb)), T.ok, .of_eq hg⟩
theorem top_call {k : Nat} {fa : Addr} {fd : FuncData} {x : Str} {sp : Sp} (KX : K.In s.heap) (hns : s.heap.Ns mainGlobals mg) (hb : s.heap.Ns builtinsNs mb) (hbb : ∀ x : Str, x ≠ "__name__" → mb x = bootBuiltins x) (hlim : s.heap.NoLimit) (hg : s.gens = #[])
    (ha : s.heap.get? a = some { cls := .type "list", data := .seq vs.toArray }) (hi : IntsAre vs ns) (hl : ns.length ≤ sizeLine) (hr : Room k callerA)
    (F : ∀ base : Heap, FnG P w K mg base k fa fd [x] sp) (hbind : ∀ (s : Shared) (u : Value), BindsTo s fd ⟨[u], []⟩ [(x, u)])
    (hsp : ∀ H : Hp, SqL K H a (ns.map V.int) → sp [.ref a] H (fun v _ => v = .bl true) fun _ _ _ => False) :
    codeAny (model P w) callerA (.call (.ref fa) ⟨[.ref a], []⟩) (fun r s' => r = .ok (.ret (.bool true)) ∧ OldK s.heap s'.heap ∧ s'.os = s.os ∧ AllBare s'.gens) s := by
  obtain ⟨H, T⟩ := top_H (P := P) (w := w) KX ha hi hl
  obtain ⟨kin, hn', e0⟩ := top_env KX hns hb hbb hlim hg ha T
  refine codeAny_mono ((F _).run callerA [] s H ⟨[.ref a], []⟩ [.ref a] [.ref a] _ _ rfl hr e0 (hbind s (.ref a)) (.cons rfl .nil) (hsp H T.sq)) fun r s' h => ?_
  match r, h with
  | .error e, h => exact h.elim
  | .ok .next, h => exact False.elim h
  | .ok .brk, h => exact False.elim h
  | .ok .cont, h => exact False.elim h
  | .ok (.ret u), h =>
    obtain ⟨v, H', os, bare, un, hok', r', q⟩ := h
    cases (show v = .bl true from q)
    cases (show u = Value.bool true from r')
    refine ⟨rfl, OldK.of_keep fun b o e => ?_, os, bare⟩
    cases c : H b with
    | none => exact un.keep b o e c (fun z => nomatch (show b ∈ ([] : List Addr) from z)) (by simp)
    | some u =>
      obtain ⟨rfl, _, ob, xs, rfl⟩ := T.only b u c
      have e1 := (T.ok b _ c).1
      have e2 := (hok' b _ (un.frzs b ob _ c)).1
      rw [e] at e1
      cases e1
      exact e2
end
theorem walk_ofG {l : PySem.W.OpenLaw} {n k : Nat} {q : Program} {loose : List Str} {XP : (Str → Option Value) → Heap → Prop} {YP : World → Heap → Prop} {d : DefRec} {K : Params → PySem.W.Frag} {x : Str}
    (hn : l.most = some n) (hn2 : n ≤ sizeLine) (hdf : d.params.defaults = []) (hr : Room k callerA)
    (hY : ∀ (w : World) (h : Heap), YP w h → (K w.params).In h)
    (F : ∀ (w : World) (mg : Str → Option Value) (fa : Addr) (h : Heap), (K w.params).In h → h.Ns mainGlobals mg → mg d.name = some (.ref fa) →
      ∃ (sp : Sp) (fd : FuncData), (∀ (s : Shared) (u : Value), BindsTo s fd ⟨[u], []⟩ [(x, u)]) ∧ (∀ base : Heap, FnG l.prog w (K w.params) mg base k fa fd [x] sp) ∧
        ∀ (H : Hp) (a : Addr) (ns : List Int), ns.length ≤ n → SqL (K w.params) H a (ns.map V.int) → sp [.ref a] H (fun v _ => v = .bl true) fun _ _ _ => False) :
    PySem.W.WalkO q loose XP YP l.row.toRowW d [] (fun f vs => PySem.call f vs) := by
  refine Att.attach_call hn hdf fun w s₀ s₁ mg mb fa o pm cd doc a vs ns G Y ho hd hcd hmg hobj hints hlen hg => ?_
  obtain ⟨sp, fd, hb, hF, hsp⟩ := F w mg fa _ (hY w _ Y) G.T.g hmg
  exact top_call (hY w _ Y) G.T.g G.T.b G.T.builtins G.T.nolimit hg hobj hints (Nat.le_trans hlen hn2) hr hF hb fun H hS => hsp H a ns hlen hS
end Mw

set_option Elab.async false
set_option linter.all false
set_option maxRecDepth 100000
set_option maxHeartbeats 4000000
namespace Mw
open PySem PySem.Spec PyProof.Rows L2
/-! ### reckoning with mirrors -/
/-- one item of a comprehension -/
def lcS (ss : SS) (g : GM) (t : TM) (e : EM) (d : Dt) (Q : Option Dt → Prop) : Prop := g d ss fun s1 => t s1 (fun k => ifP k (e s1 (fun y => Q (some y)) xF) (Q none)) xF
theorem lc_fm {ss : SS} {g : GM} {t : TM} {e : EM} {F : Dt → Option Dt} : ∀ {l : List Dt} {acc : List Dt} {R : List Dt → Prop}, (∀ d ∈ l, ∀ Q : Option Dt → Prop, Q (F d) → lcS ss g t e d Q) → R (acc ++ l.filterMap F) → lcL ss g t e l acc R
  | [], acc, R, _, hr => by rw [List.filterMap_nil, List.append_nil] at hr; exact hr
  | d :: l, acc, R, h, hr => by
    have hl : ∀ d ∈ l, ∀ Q : Option Dt → Prop, Q (F d) → lcS ss g t e d Q := fun x hx => h x (List.mem_cons_of_mem _ hx)
    refine h d List.mem_cons_self (fun o => match o with | some y => lcL ss g t e l (acc ++ [y]) R | none => lcL ss g t e l acc R) ?_
    rw [List.filterMap_cons] at hr
    cases q : F d with
    | none => rw [q] at hr; exact lc_fm hl hr
    | some y => rw [q] at hr; exact lc_fm hl (by rw [List.append_assoc]; exact hr)
theorem lc_map {ss : SS} {g : GM} {e : EM} {f : Dt → Dt} {l : List Dt} {acc : List Dt} {R : List Dt → Prop} (h : ∀ d ∈ l, ∀ Q : Dt → Prop, Q (f d) → g d ss fun s1 => e s1 Q xF) (hr : R (acc ++ l.map f)) : lcL ss g yesW e l acc R := by
  refine lc_fm (F := fun d => some (f d)) (fun d hd Q hq => ?_) (by rw [List.filterMap_eq_map']; exact hr)
  have := h d hd (fun y => Q (some y)) hq
  unfold lcS yesW
  have e : (fun s1 => ifP true (e s1 (fun y => Q (some y)) xF) (Q none)) = fun s1 => e s1 (fun y => Q (some y)) xF := by
    funext s1
    unfold ifP
    rw [if_pos rfl]
  rw [e]
  exact this
theorem lc_any {ss : SS} {g : GM} {e : EM} {P : Dt → Prop} : ∀ {l : List Dt} {acc : List Dt} {R : List Dt → Prop}, (∀ d ∈ l, ∀ Q : Dt → Prop, (∀ y, P y → Q y) → g d ss fun s1 => e s1 Q xF) → (∀ ys : List Dt, ys.length = l.length → (∀ y ∈ ys, P y) → R (acc ++ ys)) → lcL ss g yesW e l acc R
  | [], acc, R, _, hr => by have := hr [] rfl (fun y h => nomatch h); rw [List.append_nil] at this; exact this
  | d :: l, acc, R, h, hr => by
    have e0 : (fun s1 => ifP true (e s1 (fun y => lcL ss g yesW e l (acc ++ [y]) R) xF) (lcL ss g yesW e l acc R)) = fun s1 => e s1 (fun y => lcL ss g yesW e l (acc ++ [y]) R) xF := by
      funext s1
      unfold ifP
      rw [if_pos rfl]
    show g d ss (fun s1 => ifP true (e s1 (fun y => lcL ss g yesW e l (acc ++ [y]) R) xF) (lcL ss g yesW e l acc R))
    rw [e0]
    refine h d List.mem_cons_self (fun y => lcL ss g yesW e l (acc ++ [y]) R) fun y hy => ?_
    refine lc_any (fun x hx => h x (List.mem_cons_of_mem _ hx)) fun ys hl hp => ?_
    rw [List.append_assoc]
    exact hr (y :: ys) (by simp [hl]) fun z hz => by
      rcases List.mem_cons.mp hz with rfl | hz
      · exact hy
      · exact hp z hz
def scS (ss : SS) (g : GM) (t : TM) (e : EM) (d : Dt) (Q : Option Int → Prop) : Prop := g d ss fun s1 => t s1 (fun k => ifP k (e s1 (fun y => intD y fun i => Q (some i)) xF) (Q none)) xF
theorem sc_fm {ss : SS} {g : GM} {t : TM} {e : EM} {F : Dt → Option Int} : ∀ {l : List Dt} {acc : List Int} {R : List Int → Prop}, (∀ d ∈ l, ∀ Q : Option Int → Prop, Q (F d) → scS ss g t e d Q) → R (acc ++ l.filterMap F) → scL ss g t e l acc R
  | [], acc, R, _, hr => by rw [List.filterMap_nil, List.append_nil] at hr; exact hr
  | d :: l, acc, R, h, hr => by
    have hl : ∀ d ∈ l, ∀ Q : Option Int → Prop, Q (F d) → scS ss g t e d Q := fun x hx => h x (List.mem_cons_of_mem _ hx)
    refine h d List.mem_cons_self (fun o => match o with | some y => scL ss g t e l (acc ++ [y]) R | none => scL ss g t e l acc R) ?_
    rw [List.filterMap_cons] at hr
    cases q : F d with
    | none => rw [q] at hr; exact sc_fm hl hr
    | some y => rw [q] at hr; exact sc_fm hl (by rw [List.append_assoc]; exact hr)
/-- how a loop's turn ends -/
def turnO (N : SS → Prop) (k : Oc → Prop) : Oc → Prop
  | .nx s => N s
  | .ct s => N s
  | .bk s => k (.nx s)
  | .rt d => k (.rt d)
  | .ex s C l => k (.ex s C l)
theorem for_inv {g : GM} {b : SM} {k : Oc → Prop} (I : Nat → SS → Prop) : ∀ {l : List Dt} {s : SS} (j : Nat), I j s → (∀ i d s (N : SS → Prop), l[i]? = some d → I (j + i) s → (∀ s', I (j + i + 1) s' → N s') → g d s fun s1 => b s1 (turnO N k)) → (∀ s, I (j + l.length) s → k (.nx s)) → forL g b l s k
  | [], s, j, h0, hs, hd => hd s h0
  | d :: l, s, j, h0, hs, hd => by
    have := hs 0 d s (fun s' => forL g b l s' k) rfl h0 fun s' h' => for_inv I (j + 1) h' (fun i d s N hi h hn => by
      have := hs (i + 1) d s N hi (by rw [show j + (i + 1) = j + 1 + i by omega]; exact h) fun s' h' => hn s' (by rw [show j + (i + 1) + 1 = j + 1 + i + 1 by omega] at h'; exact h')
      exact this) (fun s h => hd s (by rw [List.length_cons, show j + (l.length + 1) = j + 1 + l.length by omega]; exact h))
    have e : (fun s1 => b s1 (turnO (fun s' => forL g b l s' k) k)) = fun s1 => b s1 fun o => match o with
      | .nx s => forL g b l s k
      | .ct s => forL g b l s k
      | .bk s => k (.nx s)
      | .rt d => k (.rt d)
      | .ex s C l => k (.ex s C l) := by
      funext s1
      congr 1
    rw [e] at this
    exact this
theorem sIx_neg {n d k : Nat} (h : 0 < k) : HT.sIx n d (some (-(k : Int))) = n - k := by
  show (if (-(k : Int)) < 0 then (-(k : Int) + (n : Int)).toNat else _) = _
  rw [if_pos (by omega)]; omega
theorem range_len {lo : Int} {n : Nat} : (rangeD lo n).length = n := by simp [rangeD]
theorem range_at {lo : Int} {n i : Nat} {d : Dt} (h : (rangeD lo n)[i]? = some d) : i < n ∧ d = .int (lo + i) := by
  unfold rangeD at h
  rw [List.getElem?_map] at h
  by_cases hi : i < n
  · rw [List.getElem?_range hi] at h; cases h; exact ⟨hi, rfl⟩
  · rw [List.getElem?_eq_none (by simp; omega)] at h; cases h
theorem intsD_map : ∀ ns : List Int, intsD (ns.map .int) = some ns
  | [] => rfl
  | n :: ns => by show (intsD (ns.map .int)).map _ = _; rw [intsD_map ns]; rfl
theorem blsD_map : ∀ ns : List Bool, blsD (ns.map .bl) = some ns
  | [] => rfl
  | n :: ns => by show (blsD (ns.map .bl)).map _ = _; rw [blsD_map ns]; rfl
theorem strsD_map : ∀ ns : List Str, strsD (ns.map .str) = some ns
  | [] => rfl
  | n :: ns => by show (strsD (ns.map .str)).map _ = _; rw [strsD_map ns]; rfl
end Mw

set_option Elab.async false
set_option linter.all false
set_option maxRecDepth 100000
set_option maxHeartbeats 4000000
namespace Mw
open PySem PySem.Spec PyProof.Rows L2
/-! ### fields of instances -/
def fldD (cs : List Nat) (f : Str) : Dt → (Dt → Prop) → Prop
  | .ins C l, R => cs.contains C = true ∧ ∃ d, l.lookup f = some d ∧ R d
  | _, _ => False
def fldW (cs : List Nat) (f : Str) (a : EM) : EM := fun ss R X => a ss (fun d => fldD cs f d R) X
/-- no class of these has the attribute -/
def NoF (c : Kc) (cs : List Nat) (f : Str) : Prop := ∀ C ∈ cs, NoAttr c.K (c.ca C) f
theorem of_fldD {cs : List Nat} {f : Str} {d : Dt} {R : Dt → Prop} (h : fldD cs f d R) : ∃ C l y, d = .ins C l ∧ C ∈ cs ∧ l.lookup f = some y ∧ R y := by
  cases d with
  | ins C l => obtain ⟨h1, y, h2, h3⟩ := h; exact ⟨C, l, y, rfl, by simpa using h1, h2, h3⟩
  | _ => exact h.elim
section
variable {c : Kc} {x : Mx} {w : Option WX} {ta tv te : TE} {a av : EM} {tas : TA} {as : AM} {cs : List Nat} {f m : Str}
theorem re_fld (hk : Klss c) (hn : NoF c cs f) (ha : RE c x w ta a) : RE c x w (tFld c.K ta f) (fldW cs f a) := fun ss R X G σ H mm e s Q q z =>
  ha ss _ X G σ H mm e s _ (fun v d G1 H1 g1 d1 m1 => by
    obtain ⟨C, l, y, rfl, hC, h1, h2⟩ := of_fldD m1
    obtain ⟨p, dx, fs, rfl, hp, hc, hf⟩ := d1
    obtain ⟨u, h3, h4⟩ := hf.lookup h1
    exact ⟨p, c.ca C, dx, fs, u, rfl, g1.ink _ _ hp, (hk C hc).ci.cls, hn C hC, h3, q u y G1 H1 g1 h4 h2⟩) z
/-- self.f, where self is under way -/
def sfW (cs : List Nat) (f : Str) (i : Nat) : EM := fun ss R _ => match ss[i]? with
  | some (.slf C l) => cs.contains C = true ∧ ∃ d, l.lookup f = some d ∧ R d
  | _ => False
theorem re_sf {i : Nat} (hk : Klss c) (hn : NoF c cs f) : RE c x w (tFld c.K (tVar i) f) (sfW cs f i) := fun ss R X G σ H mm e s Q q z => by
  unfold sfW at mm
  split at mm
  · rename_i C l hs
    obtain ⟨hC, y, h1, h2⟩ := mm
    obtain ⟨q1, q2, dx, fs, q3, hc, hf⟩ := s.slf i C l hs
    obtain ⟨u, h3, h4⟩ := hf.lookup h1
    exact ⟨_, q1, x.me, c.ca C, dx, fs, u, rfl, q3, (hk C hc).ci.cls, hn C (by simpa using hC), h3, q u y G H (Go.refl e) h4 h2⟩
  · exact mm.elim
/-- self.f = e, where self is under way -/
def sfldW (cs : List Nat) (f : Str) (i : Nat) (a : EM) : SM := fun ss k => a ss (fun d => match ss[i]? with
  | some (.slf C l) => cs.contains C = true ∧ l.length < 1000 ∧ k (.nx (ss.set i (.slf C (putD f d l))))
  | _ => False) fun C l => k (.ex ss C l)
theorem Datf.put {G : Hp} {d : Dt} {v : V} (h : Dat c G d v) : ∀ {l : List (Str × Dt)} {fs : List (Str × V)}, Datf c G l fs → Datf c G (putD f d l) (putF f v fs)
  | [], _, h1 => by cases h1; exact ⟨v, [], rfl, h, rfl⟩
  | (k, y) :: l, _, ⟨u, r, h1, h2, h3⟩ => by
    subst h1
    unfold putD putF
    by_cases e : k = f
    · rw [if_pos e, if_pos e]; exact ⟨v, r, rfl, h, h3⟩
    · rw [if_neg e, if_neg e]; exact ⟨u, _, rfl, h2, Datf.put h h3⟩
theorem Sl.turnSlf {H0 G H : Hp} {σ : L2.St} {ss : SS} {C dx : Nat} {l l' : List (Str × Dt)} {fs' : List (Str × V)} {j : Nat} (h : Sl c x H0 G H σ ss) (hs : ss[j]? = some (.slf C l)) (hc : C ∈ c.cl) (ho : Datf c G l' fs') : Sl c x H0 G (upd H x.me (.ins (c.ca C) dx fs')) σ (ss.set j (.slf C l')) := by
  have hl : j < ss.length := by rcases List.getElem?_eq_some_iff.mp hs with ⟨x, _⟩; exact x
  obtain ⟨h1, h2, _⟩ := h.sv.slf j C l hs
  have bo : ∀ {i : Nat} {y : Dt}, (ss.set j (.slf C l'))[i]? = some (.own y) → ss[i]? = some (.own y) := fun {i y} z => by
    rcases get_set' z with ⟨rfl, e1, _⟩ | ⟨z', _⟩
    · cases e1
    · exact z'
  have bs : ∀ {i : Nat} {D : Nat} {m : List (Str × Dt)}, (ss.set j (.slf C l'))[i]? = some (.slf D m) → ∃ D' m', ss[i]? = some (.slf D' m') := fun {i D m} z => by
    rcases get_set' z with ⟨rfl, e1, _⟩ | ⟨z', _⟩
    · exact ⟨_, _, hs⟩
    · exact ⟨_, _, z'⟩
  refine ⟨⟨by rw [h.sv.len]; simp, fun i y z => ?_, fun i y z => ?_, fun i D m z => ?_, fun i D m z => ?_⟩, fun i y b z q => h.new i y b (bo z) q, fun i k y y' b z1 z2 q1 q2 => h.sep i k y y' b (bo z1) (bo z2) q1 q2, fun i D m z => h.me0 j C l hs, fun i k D m y z1 z2 q => ?_, fun i k D D' m m' z1 z2 => ?_⟩
  · rcases get_set' z with ⟨rfl, e1, b⟩ | ⟨z', e1⟩
    · cases e1
    · exact h.sv.dat i y z'
  · have z := bo z
    obtain ⟨b, u, q1, q2, q3, q4⟩ := h.sv.own i y z
    have ne : b ≠ x.me := fun e => by subst e; exact h.mes j i C l y hs z q1
    exact ⟨b, u, q1, q2, by rw [upd_ne ne]; exact q3, q4⟩
  · rcases get_set' z with ⟨rfl, e1, b⟩ | ⟨z', e1⟩
    · cases e1; exact ⟨h1, h2, dx, fs', upd_same, hc, ho⟩
    · exact absurd (h.me1 j i C D l m hs z') e1
  · rcases get_set' z with ⟨rfl, e1, b⟩ | ⟨z', e1⟩
    · cases e1
    · exact h.sv.exc i D m z'
  · obtain ⟨D', m', z1⟩ := bs z1
    exact h.mes i k D' m' y z1 (bo z2) q
  · obtain ⟨_, _, z1⟩ := bs z1
    obtain ⟨_, _, z2⟩ := bs z2
    exact h.me1 i k _ _ _ _ z1 z2
theorem rs_sfld {i : Nat} (hk : Klss c) (hn : NoF c cs f) (ha : RE c x w tv av) : RS c x w (sFld c.K (tVar i) tv f) (sfldW cs f i av) := fun ss k G0 H0 D σ G H mm K g s =>
  ha ss _ _ G σ H mm g.ink s.sv _ (fun v d G1 H1 g1 d1 m1 => by
    split at m1
    · rename_i C l hs
      obtain ⟨hC, hl, m1⟩ := m1
      have s1 := s.go g1
      obtain ⟨q1, q2, dx, fs, q3, hc, hf⟩ := s1.sv.slf i C l hs
      exact ⟨_, q1, x.me, c.ca C, dx, fs, rfl, q3, (hk C hc).ci.cls, hn C (by simpa using hC), by rw [hf.len]; exact hl,
        K.nx σ _ G1 _ ((g.trans g1).turn q2 (s.me0 i C l hs) q3 flat_ins) (s1.turnSlf hs hc (hf.put d1)) m1⟩
    · exact m1.elim) (kx_of K g s)
end
/-! ### makes -/
abbrev PreI := List Dt → (List (Str × Dt) → Prop) → Xn → Prop
def spI (c : Kc) (C : Nat) (Pre : PreI) : Sp := fun vs H Q E => ∃ (G0 H0 G : Hp) (p : Addr) (rest : List V) (ds : List Dt) (R : List (Str × Dt) → Prop) (X : Xn), vs = .ref p :: rest ∧ H0 p = none ∧ Go c G0 H0 G H ∧ G p = none ∧ (∃ dx, H p = some (.ins (c.ca C) dx [])) ∧ Dats c G ds rest ∧ Pre ds R X ∧
  (∀ fl G' H', Go c G0 H0 G' H' → Dat c G' (.ins C fl) (.ref p) → R fl → Q .non H') ∧ ∀ D l od G' H', Go c G0 H0 G' H' → XD c G' od l → X D l → E (.ref (c.ca D)) od H'
theorem spI_new {c : Kc} {C : Nat} {Pre : PreI} {G H : Hp} {vs : List V} {ds : List Dt} {R : List (Str × Dt) → Prop} {X : Xn} {Q : VK} {E : XK} {p dx : Addr} (e : In c G H) (hx : H p = none) (hdx : H dx = none) (hne : dx ≠ p) (d : Dats c G ds vs) (h : Pre ds R X)
    (q : ∀ fl G' H', Go c G H G' H' → Dat c G' (.ins C fl) (.ref p) → R fl → Q .non H') (qx : ∀ D l od G' H', Go c G H G' H' → XD c G' od l → X D l → E (.ref (c.ca D)) od H') : spI c C Pre (.ref p :: vs) (upd (upd H dx (.own p)) p (.ins (c.ca C) dx [])) Q E := by
  have h1 : (upd H dx (.own p)) p = none := by rw [upd_ne (Ne.symm hne)]; exact hx
  have g1 : Go c G H G (upd H dx (.own p)) := Go.put e hdx
  exact ⟨G, H, G, p, vs, ds, R, X, rfl, hx, g1.trans (Go.put g1.ink h1), e.free hx, ⟨dx, upd_same⟩, d, h, q, qx⟩
abbrev Gix (P : Program) (c : Kc) (mg : Str → Option Value) (base : Heap) (k : Nat) (C : Nat) (f : Addr) (Pre : PreI) : Prop := FnR P c.w c.K mg base (L2.CX P c.w) k f (spI c C Pre)
/-- a class that is made by its own __init__ -/
structure Mkx (c : Kc) (mg : Str → Option Value) (nm : Str) (C : Nat) (f : Addr) : Prop where
  mkr : Mk c.K (c.ca C) f
  mg : mg nm = some (.ref (c.ca C))
  cl : C ∈ c.cl
def makeW (C : Nat) (P : PreI) (as : AM) : EM := fun ss R X => as ss (fun l => P l (fun fl => R (.ins C fl)) X) X
/-- cls(..), cls a value -/
def mkcW (C : Nat) (P : PreI) (a : EM) (as : AM) : EM := fun ss R X => a ss (fun d => d = .cls C ∧ as ss (fun l => P l (fun fl => R (.ins C fl)) X) X) X
def tMk (c : Kc) (w : Option WX) (C : Nat) (P : PreI) (t : TA) : TE := fun σ H Q => t σ H fun vs H1 => ∀ p dx, H1 p = none → H1 dx = none → dx ≠ p →
  spI c C P (V.ref p :: vs) (upd (upd H1 dx (.own p)) p (.ins (c.ca C) dx [])) (fun v H2 => v = .non ∧ Q (.ref p) H2) fun cls od H' => (w.getD wF) cls od σ H'
def tMkc (c : Kc) (w : Option WX) (C : Nat) (P : PreI) (ta : TE) (t : TA) : TE := fun σ H Q => ta σ H fun y H0 => y = .ref (c.ca C) ∧ tMk c w C P t σ H0 Q
section
variable {X : Cx} {P : Program} {c : Kc} {mg : Str → Option Value} {base : Heap} {w : Option WX} {x : Mx} {C k : Nat} {f : Addr} {Pre : PreI} {tas : TA} {as : AM} {ta : TE} {a : EM}
theorem re_make (ha : RA c x w tas as) : RE c x w (tMk c w C Pre tas) (makeW C Pre as) := fun ss R X G σ H m e s Q q z =>
  ha ss _ X G σ H m e s _ (fun vs l G1 H1 g1 d1 m1 => fun p dx hp hdx hne => spI_new g1.ink hp hdx hne d1 m1 (fun fl G' H' g' d hr => ⟨rfl, q (.ref p) (.ins C fl) G' H' (g1.trans g') d hr⟩) fun D l od G' H' g xd hx => z D l od G' H' (g1.trans g) xd hx) z
theorem re_mkc (hf : RE c x w ta a) (ha : RA c x w tas as) : RE c x w (tMkc c w C Pre ta tas) (mkcW C Pre a as) := fun ss R X G σ H m e s Q q z =>
  hf ss _ X G σ H m e s _ (fun v d G1 H1 g1 d1 m1 => by
    obtain ⟨rfl, m1⟩ := m1
    exact ⟨d1.1, re_make ha ss R X G1 σ H1 m1 g1.ink (s.go g1) Q (fun v d G' H' g hd hr => q v d G' H' (g1.trans g) hd hr) (kx_go z g1)⟩) z
theorem run_mk {pins : List (Addr × Obj)} {σ : L2.St} {H : Hp} {s : Shared} {Q : VK} {us : List Value} {vs : List V} (M : Mk c.K (c.ca C) f) (F : Gix P c mg base k C f Pre) (hX : At X P c mg base) (hr : Room (k + 1) X.A) (tk : Tk X w) (I : Inv X pins σ H s) (r : Vals vs us)
    (h : ∀ p dx, H p = none → H dx = none → dx ≠ p → spI c C Pre (V.ref p :: vs) (upd (upd H dx (.own p)) p (.ins (c.ca C) dx [])) (fun v H2 => v = .non ∧ Q (.ref p) H2) fun cls od H' => (w.getD wF) cls od σ H') :
    wpAny (model X.prog X.w) X.A (call (.ref (c.ca C)) us) (EP X pins σ Q) X.xe s := by
  obtain ⟨h1, h2, h3, h4, h5⟩ := hX
  unfold Gix at F
  rw [← h1, ← h2, ← h3, ← h4, ← h5] at F
  rw [← h3] at M
  have hq := h (s.heap.objs.size + 1) s.heap.objs.size (I.hok.fresh (Nat.le_succ _)) (I.hok.fresh (Nat.le_refl _)) (Nat.ne_of_lt (Nat.lt_succ_self _))
  have I2 := Inv.made (C := c.ca C) I
  have r2 : Vals (V.ref (s.heap.objs.size + 1) :: vs) (Value.ref (s.heap.objs.size + 1) :: us) := .cons rfl r
  refine wpAny_call (make_map (f := f) I.kIn M.makes M.init (beq_iff_eq.mp M.fn) (codeAny_mono (F _ X.stack _ _ (Value.ref (s.heap.objs.size + 1) :: us) _ _ _ (hr.make (c.ca C) us []) (I2.env0.make (c.ca C) us []) r2 hq) fun r s' hq' => ?_))
  cases r with
  | error e => exact tk σ pins _ _ e s' I2 hq'
  | ok fl =>
    cases fl with
    | ret u =>
      obtain ⟨v, H', I3, rv, ev, q3⟩ := I2.after hq'
      subst ev
      exact ⟨rv, ⟨V.ref (s.heap.objs.size + 1), H', I3, rfl, q3⟩⟩
    | next => exact False.elim hq'
    | brk => exact False.elim hq'
    | cont => exact False.elim hq'
variable {nm : Str} {p pos spos : Pos} {e fe : Expr} {es : List Expr} {te tf : TE} {t : TA}
theorem pe_mk (M : Mkx c mg nm C f) (F : Gix P c mg base k C f Pre) (hX : At X P c mg base) (hr : Room (k + 1) X.A) (hg : Gl X nm) (tk : Tk X w) (ha : PA X (e :: es) t) (hdb : (nm == ("__debug__" : Str)) = false := by decide)
    (he : starEach (e :: es) X.env = (false, eval e X.env) :: starEach es X.env := by rfl) (hpl : (backTo pos (starEach es X.env)).any (·.1) = false := by rfl) : PE X (.Call (.Name nm p) (e :: es) [] pos) (tMk c w C Pre t) := by
  refine ⟨fun pins s σ H Q I h => ?_⟩
  refine wpAny_Call_Name_kw (ld_glob I hg (by rw [hX.mg]; exact M.mg) ?_ hdb)
  exact PySem.W.callWith_K (h₀ := X.base) I.ok.mod.kin (by rw [hX.K]; exact M.mkr.kp) (thn (ha.run pos pins s σ H _ I h) fun us s1 ⟨vs, H1, I1, r, q⟩ => ⟨I1.kIn, run_mk M.mkr F hX hr tk I1 r q⟩) he hpl
theorem pe_mk0 (M : Mkx c mg nm C f) (F : Gix P c mg base k C f Pre) (hX : At X P c mg base) (hr : Room (k + 1) X.A) (hg : Gl X nm) (tk : Tk X w) (hdb : (nm == ("__debug__" : Str)) = false := by decide) : PE X (.Call (.Name nm p) [] [] pos) (tMk c w C Pre tNil) := by
  refine ⟨fun pins s σ H Q I h => ?_⟩
  refine wpAny_Call_Name_kw (ld_glob I hg (by rw [hX.mg]; exact M.mg) ?_ hdb)
  exact PySem.W.callWith_K0 I.kIn (by rw [hX.K]; exact M.mkr.kp) (run_mk (us := []) (vs := []) M.mkr F hX hr tk I .nil h)
/-- cls( *e) -/
theorem pe_mkcS (M : Mkx c mg nm C f) (F : Gix P c mg base k C f Pre) (hX : At X P c mg base) (hr : Room (k + 1) X.A) (tk : Tk X w) (hf : PE X fe tf) (he : PE X e te)
    (hst : starEach [.Starred e spos] X.env = [(true, eval e X.env)] := by rfl)
    (ht : eval (.Call fe [.Starred e spos] [] pos) X.env = (do callWith pos (← eval fe X.env) [] (backTo pos (starEach [.Starred e spos] X.env)) (backToKw pos (keywordEach [] X.env))) := by rfl) :
    PE X (.Call fe [.Starred e spos] [] pos) (tMkc c w C Pre tf (StX.tStar c.K te tNil)) := by
  refine ⟨fun pins s σ H Q I h => ?_⟩
  refine Call_ (thn (hf.run pins s σ H _ I h) fun u s1 ⟨y, H1, I1, ry, ey, q⟩ => ?_) ht
  subst ey
  obtain rfl : u = Value.ref (c.ca C) := ry
  refine PySem.W.callWith_S (h₀ := X.base) I.ok.mod.kin (by rw [hX.K]; exact M.mkr.kp) (thn (he.run pins s1 σ H1 _ I1 q) fun v s2 ⟨z, H2, I2, rz, a, xs, ez, hxs, q2⟩ => ?_) hst
  subst ez
  obtain rfl : v = Value.ref a := rz
  refine StX.star_any I2 (by rw [hX.K]; exact hxs) fun us s3 I3 rv => ⟨I3.kIn, run_mk M.mkr F hX hr tk I3 rv ?_⟩
  have q3 : ∀ p dx, H2 p = none → H2 dx = none → dx ≠ p → spI c C Pre (V.ref p :: (xs ++ [])) (upd (upd H2 dx (.own p)) p (.ins (c.ca C) dx [])) (fun v H2 => v = .non ∧ Q (.ref p) H2) fun cls od H' => (w.getD wF) cls od σ H' := q2
  rw [List.append_nil] at q3
  exact q3
/-- C( *e) -/
theorem pe_mkS (M : Mkx c mg nm C f) (F : Gix P c mg base k C f Pre) (hX : At X P c mg base) (hr : Room (k + 1) X.A) (hg : Gl X nm) (tk : Tk X w) (he : PE X e te) (hdb : (nm == ("__debug__" : Str)) = false := by decide)
    (hst : starEach [.Starred e spos] X.env = [(true, eval e X.env)] := by rfl) : PE X (.Call (.Name nm p) [.Starred e spos] [] pos) (tMk c w C Pre (StX.tStar c.K te tNil)) := by
  refine ⟨fun pins s σ H Q I h => ?_⟩
  refine wpAny_Call_Name_kw (ld_glob I hg (by rw [hX.mg]; exact M.mg) ?_ hdb)
  refine PySem.W.callWith_S (h₀ := X.base) I.ok.mod.kin (by rw [hX.K]; exact M.mkr.kp) (thn (he.run pins s σ H _ I h) fun v s2 ⟨z, H2, I2, rz, a, xs, ez, hxs, q2⟩ => ?_) hst
  subst ez
  obtain rfl : v = Value.ref a := rz
  refine StX.star_any I2 (by rw [hX.K]; exact hxs) fun us s3 I3 rv => ⟨I3.kIn, run_mk M.mkr F hX hr tk I3 rv ?_⟩
  have q3 : ∀ p dx, H2 p = none → H2 dx = none → dx ≠ p → spI c C Pre (V.ref p :: (xs ++ [])) (upd (upd H2 dx (.own p)) p (.ins (c.ca C) dx [])) (fun v H2 => v = .non ∧ Q (.ref p) H2) fun cls od H' => (w.getD wF) cls od σ H' := q2
  rw [List.append_nil] at q3
  exact q3
end
/-! ### __init__ -/
def slfD (C : Nat) : Option Sd → (List (Str × Dt) → Prop) → Prop
  | some (.slf D l), R => D = C ∧ R l
  | _, _ => False
def endI (C : Nat) (R : List (Str × Dt) → Prop) (X : Xn) : Oc → Prop
  | .nx s => slfD C s[0]? R
  | .ex _ C l => X C l
  | _ => False
def startI (m C : Nat) (ds : List Dt) : SS := (startS m (.non :: ds)).set 0 (.slf C [])
/-- a mirror of an __init__(self, ..) of n parameters besides -/
def initW (n m C : Nat) (b : SM) : PreI := fun ds R X => ds.length = n ∧ b (startI m C ds) (endI C R X)
/-- .. of __init__(self, *xs) -/
def initSW (m C : Nat) (b : SM) : PreI := fun ds R X => ds.length ≤ 1000000 ∧ b (startI m C [.tup ds]) (endI C R X)
section
variable {P : Program} {c : Kc} {mg : Str → Option Value} {base : Heap} {C : Nat}
theorem sl_startI {H0 G H : Hp} {p dx : Addr} {ds : List Dt} {vs : List V} {N : List Str} (hc : C ∈ c.cl) (e : In c G H) (h0 : H0 p = none) (hG : G p = none) (hH : H p = some (.ins (c.ca C) dx [])) (d : Dats c G ds vs) : Sl c { me := p } H0 G H (L2.start N (.ref p :: vs)) (startI N.length C ds) := by
  have hl := d.len
  have no : ∀ {i : Nat} {y : Sd}, (startI N.length C ds)[i]? = some y → (i = 0 ∧ y = .slf C []) ∨ (i ≠ 0 ∧ ((∃ d, (Dt.non :: ds)[i]? = some d ∧ y = .dt d) ∨ y = .no)) := fun {i y} h => by
    rcases get_set' h with ⟨rfl, e1, _⟩ | ⟨z, e1⟩
    · exact .inl ⟨rfl, e1.symm⟩
    · exact .inr ⟨fun q => e1 q.symm, get_start (m := 0) z⟩
  have n1 : ∀ {i : Nat} {d : Dt}, (startI N.length C ds)[i]? ≠ some (.own d) := fun h => by rcases no h with ⟨_, z⟩ | ⟨_, ⟨_, _, z⟩ | z⟩ <;> cases z
  have n2 : ∀ {i D : Nat} {l : List (Str × Dt)}, (startI N.length C ds)[i]? = some (.slf D l) → i = 0 ∧ D = C ∧ l = [] := fun h => by
    rcases no h with ⟨h1, z⟩ | ⟨_, ⟨_, _, z⟩ | z⟩
    · cases z; exact ⟨h1, rfl, rfl⟩
    · cases z
    · cases z
  have n3 : ∀ {i D : Nat} {l : List (Str × Dt)}, (startI N.length C ds)[i]? ≠ some (.exc D l) := fun h => by rcases no h with ⟨_, z⟩ | ⟨_, ⟨_, _, z⟩ | z⟩ <;> cases z
  refine ⟨⟨by simp [L2.start, startI, startS, hl], fun i y z => ?_, fun i y z => absurd z n1, fun i D l z => ?_, fun i D l z => absurd z n3⟩, fun i y a z => absurd z n1, fun i j y y' a z => absurd z n1, fun i D l z => h0, fun i j D l y z1 z2 => absurd z2 n1, fun i j D D' l m z1 z2 => ?_⟩
  · rcases no z with ⟨_, h2⟩ | ⟨h0, ⟨y', h1, h2⟩ | h2⟩
    · cases h2
    · cases h2
      obtain ⟨j, rfl⟩ : ∃ j, i = j + 1 := ⟨i - 1, by omega⟩
      obtain ⟨v, q1, q2⟩ := d.get (i := j) (by simpa using h1)
      refine ⟨v, ?_, q2⟩
      have b : j < vs.length := (List.getElem?_eq_some_iff.mp q1).1
      unfold L2.start
      rw [List.getElem?_append_left (by simpa using b)]
      simpa using q1
    · cases h2
  · obtain ⟨rfl, rfl, rfl⟩ := n2 z
    exact ⟨by simp [L2.start], hG, dx, [], hH, hc, rfl⟩
  · rw [(n2 z1).1, (n2 z2).1]
theorem init_end {N : List Str} {t : TS} {b : SM} {vs : List V} {H : Hp} {Q : VK} {E : XK} {Pre : PreI} (hc : C ∈ c.cl) (hb : ∀ me, RS c { me := me } (wE E) t b) (hP : ∀ ds R X, Pre ds R X → b (startI N.length C ds) (endI C R X)) (h : spI c C Pre vs H Q E) :
    t { nx := fun _ H' => Q .non H', rt := Q } (L2.start N vs) H := by
  obtain ⟨G0, H0, G, p, rest, ds, R, X, rfl, h0, g, hG, ⟨dx, hH⟩, d, pr, q, qx⟩ := h
  refine hb p _ _ G0 H0 _ _ G H (hP ds R X pr) ⟨fun σ' s' G' H' g' sl hn => ?_, fun σ' s' G' H' g' _ hn => hn.elim, fun σ' s' G' H' g' _ hn => hn.elim, fun v d G' H' g' dd hr => hr.elim, fun σ' s' D l od G' H' g' _ xd hx => qx D l od G' H' g' xd hx⟩ g (sl_startI hc g.ink h0 hG hH d)
  cases hs : s'[0]? with
  | none =>
    have hn : slfD C s'[0]? R := hn
    rw [hs] at hn; exact hn.elim
  | some y =>
    have hn : slfD C s'[0]? R := hn
    rw [hs] at hn
    cases y with
    | slf D fl =>
      obtain ⟨eD, hR⟩ : D = C ∧ R fl := hn
      subst eD
      obtain ⟨k1, k2, dx', fs, k3, hD, k4⟩ := sl.sv.slf 0 D fl hs
      exact q fl _ H' (g'.tell k2 (sl.me0 0 D fl hs) k3) ⟨p, dx', fs, rfl, upd_same, hD, k4.up (Ex.new k2)⟩ hR
    | _ => exact hn.elim
theorem gix_of {x qual : Str} {st : Stmt} {f : Addr} {N ps : List Str} {k n m : Nat} {b : SM} (F : Dm c.K x qual st ps f) (S : FnScope N ps (defScope st)) (hc : C ∈ c.cl) (hn : n + 1 = ps.length) (hm : m = N.length)
    (hbody : ∀ (cdv : Value) (A : Around) (outer : List Env) (s : Shared) (H : Hp) (E : XK), Room k (A.deeper (envOfC qual (defScope st) s.heap.objs.size f cdv)) →
      ∃ t, PSs (cxOf (L2.CX P c.w) P c.w c.K mg base N qual (defScope st) f cdv A outer s H E) (defBody st) t ∧ ∀ me, RS c { me := me } (wE E) t b) :
    Gix P c mg base (k + 1) C f (initW n m C b) := by
  subst hm
  obtain ⟨fd, F, bb⟩ := F
  refine ((F.okX S (fun vs H Q E h => ?_) (fun cdv A outer s H vs Q E hr h => ?_) : FnOk P c.w c.K mg base (L2.CX P c.w) (k + 1) f fd ps (spI c C (initW n N.length C b))).raw bb .nil).imp fun vs H Q E h => by rw [List.append_nil]; exact h
  · obtain ⟨G0, H0, G, p, rest, ds, R, X, rfl, h0, g, hG, _, d, p, q⟩ := h
    rw [← hn, ← p.1, ← d.len]; rfl
  · obtain ⟨t, ht, hs⟩ := hbody cdv A outer s H E hr
    exact ⟨t, ht, init_end hc hs (fun ds R X p => p.2) h⟩
/-- __init__(self, *xs) -/
theorem gixS_of {x qual : Str} {st : Stmt} {f : Addr} {N : List Str} {p1 pv : Str} {k m : Nat} {b : SM} (F : ∃ fd, Fun c.K x qual st f fd) (S : FnScope N [p1, pv] (defScope st)) (hc : C ∈ c.cl) (hm : m = N.length)
    (hb : ∀ (kV doc pm : Value) (an : Option Addr) (cdv ct : Value) (us rest : List Value), us.length = [p1].length → bindArgs (PySem.W.fnOf x qual (defArgs st) (defBody st) (defScope st) .none kV doc pm an cdv ct) ⟨us ++ rest, []⟩ = (newTuple rest >>= fun t => pure ([p1].zip us ++ [(pv, t)])))
    (hbody : ∀ (cdv : Value) (A : Around) (outer : List Env) (s : Shared) (H : Hp) (E : XK), Room k (A.deeper (envOfC qual (defScope st) s.heap.objs.size f cdv)) →
      ∃ t, PSs (cxOf (L2.CX P c.w) P c.w c.K mg base N qual (defScope st) f cdv A outer s H E) (defBody st) t ∧ ∀ me, RS c { me := me } (wE E) t b) :
    Gix P c mg base (k + 1) C f (initSW m C b) := by
  subst hm
  obtain ⟨fd, F⟩ := F
  obtain ⟨oc, od, kV, doc, pm, an, cdv, ct, osl, rfl, lk, hcd⟩ := F.ex
  refine (StX.fn_star (ps := [p1]) (pv := pv) (sp := spI c C fun ds R X => ∃ ds', ds = [.tup ds'] ∧ initSW N.length C b ds' R X) lk hcd S StX.cxUp (hb kV doc pm an cdv ct) (fun A outer s H vs Q E hr h => ?_)).imp fun vs H Q E h => ?_
  · obtain ⟨t, ht, hs⟩ := hbody cdv A outer s H E hr
    exact ⟨t, ht, init_end hc hs (fun ds R X ⟨ds', e, h1⟩ => by subst e; exact h1.2) h⟩
  · obtain ⟨G0, H0, G, p, rest, ds, R, X, rfl, h0, g, hG, ⟨dx, hH⟩, d, pr, q, qx⟩ := h
    refine ⟨[.ref p], rest, rfl, rfl, by rw [d.len]; exact sz_of pr.1, fun p' hp => ?_⟩
    have hp0 : G p' = none := g.ink.free hp
    have hxp : p ≠ p' := fun c => by subst c; rw [hH] at hp; cases hp
    exact ⟨G0, H0, upd G p' (.tup rest), p, [.ref p'], [.tup ds], R, X, rfl, h0, g.trans (Go.new g.ink hp), by rw [upd_ne hxp]; exact hG, ⟨dx, by rw [upd_ne hxp]; exact hH⟩, ⟨_, _, rfl, dat_newT d hp0, rfl⟩, ⟨ds, rfl, pr⟩, q, qx⟩
end
end Mw

set_option Elab.async false
set_option linter.all false
set_option maxRecDepth 100000
set_option maxHeartbeats 4000000
namespace Mw
open PySem PySem.Spec PyProof.Rows L2
/-! ### methods: the receiver's class tells which -/
abbrev Ms := List (Nat × PreX)
def msD (ms : Ms) (m : Str) : Dt → (PreX → Prop) → Prop
  | .ins C l, K => l.lookup m = none ∧ ∃ P, ms.lookup C = some P ∧ K P
  | _, _ => False
theorem of_msD {ms : Ms} {m : Str} {d : Dt} {K : PreX → Prop} (h : msD ms m d K) : ∃ C l P, d = .ins C l ∧ l.lookup m = none ∧ ms.lookup C = some P ∧ K P := by
  cases d with
  | ins C l => obtain ⟨h1, P, h2, h3⟩ := h; exact ⟨C, l, P, rfl, h1, h2, h3⟩
  | _ => exact h.elim
def methW (ms : Ms) (m : Str) (a : EM) (as : AM) : EM := fun ss R X => a ss (fun d => msD ms m d fun P => as ss (fun l => P (d :: l) R X) X) X
abbrev Wx (w : Option WX) (σ : L2.St) : XK := fun cls od H' => (w.getD wF) cls od σ H'
def tMeth (c : Kc) (w : Option WX) (ms : Ms) (m : Str) (ta : TE) (t : TA) : TE := fun σ H Q => ta σ H fun y H1 => ∃ a dx fs C P, y = .ref a ∧ H1 a = some (.ins (c.ca C) dx fs) ∧ C ∈ c.cl ∧ ms.lookup C = some P ∧ fs.lookup m = none ∧ t σ H1 fun vs H2 => spX c P (y :: vs) H2 Q (Wx w σ)
def Mts (P : Program) (c : Kc) (mg : Str → Option Value) (base : Heap) (k : Nat) (m : Str) (ms : Ms) : Prop := ∀ C Pre, ms.lookup C = some Pre → ∃ f, Meth c.K (c.ca C) m f ∧ Gmx P c mg base k f Pre
theorem mts_nil {P : Program} {c : Kc} {mg : Str → Option Value} {base : Heap} {k : Nat} {m : Str} : Mts P c mg base k m [] := fun C Pre h => nomatch h
theorem mts_cons {P : Program} {c : Kc} {mg : Str → Option Value} {base : Heap} {k : Nat} {m : Str} {ms : Ms} {C : Nat} {f : Addr} {Pre : PreX} (hm : Meth c.K (c.ca C) m f) (F : Gmx P c mg base k f Pre) (h : Mts P c mg base k m ms) : Mts P c mg base k m ((C, Pre) :: ms) := fun D Q e => by
  rw [List.lookup_cons] at e
  cases q : D == C with
  | true => rw [q] at e; cases e; rw [beq_iff_eq.mp q]; exact ⟨f, hm, F⟩
  | false => rw [q] at e; exact h D Q e
/-- a promise at a level holds at higher levels -/
theorem gmx_lift {P : Program} {c : Kc} {mg : Str → Option Value} {base : Heap} {k k' : Nat} {f : Addr} {Pre : PreX} (h : k ≤ k') (F : Gmx P c mg base k f Pre) : Gmx P c mg base k' f Pre := fun A outer s H us vs Q E hr e0 r hs =>
  F A outer s H us vs Q E (by
    obtain ⟨h1, h2, h3⟩ := hr
    exact ⟨h1, by omega, by omega⟩) e0 r hs
section
variable {X : Cx} {P : Program} {c : Kc} {mg : Str → Option Value} {base : Heap} {w : Option WX} {x : Mx} {k : Nat} {ms : Ms} {m : Str} {tas t : TA} {as : AM} {ta : TE} {am : EM} {o e : Expr} {es : List Expr} {apos pos : Pos} {pl : Sem Bool}
theorem re_meth (ha : RE c x w ta am) (hs : RA c x w tas as) : RE c x w (tMeth c w ms m ta tas) (methW ms m am as) := fun ss R X G σ H mm e s Q q z =>
  ha ss _ X G σ H mm e s _ (fun v d G1 H1 g1 d1 m1 => by
    obtain ⟨C, l, Pre, rfl, h1, h2, h3⟩ := of_msD m1
    obtain ⟨a, dx, fs, rfl, hp, hc, hf⟩ := d1
    refine ⟨a, dx, fs, C, Pre, rfl, g1.ink _ _ hp, hc, h2, hf.lookup_none h1, hs ss _ X G1 σ H1 h3 g1.ink (s.go g1) _ (fun vs ds G2 H2 g2 d2 m2 => ?_) (kx_go z g1)⟩
    exact ⟨G2, .ins C l :: ds, R, X, g2.ink, ⟨_, _, rfl, ⟨a, dx, fs, rfl, g2.kn _ _ hp, hc, hf.up g2.kn⟩, d2⟩, m2, fun v d G' H' g hd hr => q v d G' H' ((g1.trans g2).trans g) hd hr, fun C l od G' H' g xd hx => z C l od G' H' ((g1.trans g2).trans g) xd hx⟩) z
theorem pe_meth (he : PE X o ta) (hk : Klss c) (F : Mts P c mg base k m ms) (hX : At X P c mg base) (hr : Room k X.A) (tk : Tk X w) (ha : PA X (e :: es) t)
    (hst : starEach (e :: es) X.env = (false, eval e X.env) :: starEach es X.env := by rfl) (hpl : (backTo pos (starEach es X.env)).any (·.1) = false := by rfl)
    (ht : eval (.Call (.Attribute o m apos) (e :: es) [] pos) X.env = (do
      let ov ← eval o X.env
      standAt apos.atName
      let (f, first) ← holding [ov] (getMethod ov m pl)
      callWith pos f first (backTo pos (starEach (e :: es) X.env)) (backToKw pos (keywordEach [] X.env))) := by rfl) :
    PE X (.Call (.Attribute o m apos) (e :: es) [] pos) (tMeth c w ms m ta t) := by
  obtain ⟨h1, h2, h3, h4, h5⟩ := hX
  refine ⟨fun pins s σ H Q I h => ?_⟩
  refine PySem.W.methodCall_KW (pl := pl) (thn (he.run pins s σ H _ I h) fun u s1 ⟨y, H1, I1, rx, a, dx, fs, C, Pre, ex, ea, hc, hl, l, q⟩ => ?_) ht
  subst ex
  obtain rfl : u = Value.ref a := rx
  obtain ⟨f, hm, G⟩ := F C Pre hl
  unfold Gmx at G
  have cl := (hk C hc).ci.cls
  rw [← h1, ← h2, ← h3, ← h4, ← h5] at G
  rw [← h3] at hm cl
  refine getmeth_ok I1 ea cl hm l ?_
  refine PySem.W.callWith_K (first := [.ref a]) (h₀ := X.base) I.ok.mod.kin hm.kp (thn (ha.run pos pins s1 σ H1 _ I1 q) fun us s2 ⟨vs, H2, I2, r, q2⟩ => ⟨I2.kIn, ?_⟩) hst hpl
  exact run_fnRS (us := .ref a :: us) (vs := .ref a :: vs) G hr (tk σ) I2 (.cons rfl r) q2
theorem pe_meth0 (he : PE X o ta) (hk : Klss c) (F : Mts P c mg base k m ms) (hX : At X P c mg base) (hr : Room k X.A) (tk : Tk X w)
    (ht : eval (.Call (.Attribute o m apos) [] [] pos) X.env = (do
      let ov ← eval o X.env
      standAt apos.atName
      let (f, first) ← holding [ov] (getMethod ov m pl)
      callWith pos f first (backTo pos (starEach [] X.env)) (backToKw pos (keywordEach [] X.env))) := by rfl) :
    PE X (.Call (.Attribute o m apos) [] [] pos) (tMeth c w ms m ta tNil) := by
  obtain ⟨h1, h2, h3, h4, h5⟩ := hX
  refine ⟨fun pins s σ H Q I h => ?_⟩
  refine PySem.W.methodCall_KW (pl := pl) (thn (he.run pins s σ H _ I h) fun u s1 ⟨y, H1, I1, rx, a, dx, fs, C, Pre, ex, ea, hc, hl, l, q⟩ => ?_) ht
  subst ex
  obtain rfl : u = Value.ref a := rx
  obtain ⟨f, hm, G⟩ := F C Pre hl
  unfold Gmx at G
  have cl := (hk C hc).ci.cls
  rw [← h1, ← h2, ← h3, ← h4, ← h5] at G
  rw [← h3] at hm cl
  refine getmeth_ok I1 ea cl hm l ?_
  exact PySem.W.callWith_K0 (first := [.ref a]) I1.kIn hm.kp (run_fnRS (us := [.ref a]) (vs := [.ref a]) G hr (tk σ) I1 (.cons rfl .nil) q)
end
/-! ### properties -/
def prD (ms : Ms) : Dt → (PreX → Prop) → Prop
  | .ins C l, K => ∃ P, ms.lookup C = some P ∧ K P
  | _, _ => False
theorem of_prD {ms : Ms} {d : Dt} {K : PreX → Prop} (h : prD ms d K) : ∃ C l P, d = .ins C l ∧ ms.lookup C = some P ∧ K P := by
  cases d with
  | ins C l => obtain ⟨P, h2, h3⟩ := h; exact ⟨C, l, P, rfl, h2, h3⟩
  | _ => exact h.elim
/-- a getter lets nothing out -/
def propW (ms : Ms) (a : EM) : EM := fun ss R X => a ss (fun d => prD ms d fun P => P [d] R xF) X
def tPr (c : Kc) (ms : Ms) (ta : TE) : TE := fun σ H Q => ta σ H fun y H1 => ∃ a dx fs C P, y = .ref a ∧ H1 a = some (.ins (c.ca C) dx fs) ∧ C ∈ c.cl ∧ ms.lookup C = some P ∧ spX c P [y] H1 Q fun _ _ _ => False
def Prs (P : Program) (c : Kc) (mg : Str → Option Value) (base : Heap) (k : Nat) (m : Str) (ms : Ms) : Prop := ∀ C Pre, ms.lookup C = some Pre → ∃ p f, PropOf c.K (c.ca C) m p f ∧ Gmx P c mg base k f Pre
theorem prs_nil {P : Program} {c : Kc} {mg : Str → Option Value} {base : Heap} {k : Nat} {m : Str} : Prs P c mg base k m [] := fun C Pre h => nomatch h
theorem prs_cons {P : Program} {c : Kc} {mg : Str → Option Value} {base : Heap} {k : Nat} {m : Str} {ms : Ms} {C : Nat} {p f : Addr} {Pre : PreX} (hm : PropOf c.K (c.ca C) m p f) (F : Gmx P c mg base k f Pre) (h : Prs P c mg base k m ms) : Prs P c mg base k m ((C, Pre) :: ms) := fun D Q e => by
  rw [List.lookup_cons] at e
  cases q : D == C with
  | true => rw [q] at e; cases e; rw [beq_iff_eq.mp q]; exact ⟨p, f, hm, F⟩
  | false => rw [q] at e; exact h D Q e
section
variable {X : Cx} {P : Program} {c : Kc} {mg : Str → Option Value} {base : Heap} {w : Option WX} {x : Mx} {k : Nat} {ms : Ms} {m : Str} {tas t : TA} {as : AM} {ta : TE} {am : EM} {o e : Expr} {es : List Expr} {apos pos : Pos} {pl : Sem Bool}
theorem re_prop (ha : RE c x w ta am) : RE c x w (tPr c ms ta) (propW ms am) := fun ss R X G σ H mm e s Q q z =>
  ha ss _ X G σ H mm e s _ (fun v d G1 H1 g1 d1 m1 => by
    obtain ⟨C, l, Pre, rfl, h2, h3⟩ := of_prD m1
    obtain ⟨a, dx, fs, rfl, hp, hc, hf⟩ := d1
    exact ⟨a, dx, fs, C, Pre, rfl, g1.ink _ _ hp, hc, h2, G1, [.ins C l], R, xF, g1.ink, ⟨_, _, rfl, ⟨a, dx, fs, rfl, hp, hc, hf⟩, rfl⟩, h3, fun v d G' H' g hd hr => q v d G' H' (g1.trans g) hd hr, fun C l od G' H' g xd hx => hx.elim⟩) z
theorem pe_prop (he : PE X o ta) (hk : Klss c) (F : Prs P c mg base k m ms) (hX : At X P c mg base) (hr : Room (k + 1) X.A)
    (hab : attributeBase o m X.env (eval o X.env) = eval o X.env := by rfl) : PE X (.Attribute o m pos) (tPr c ms ta) := by
  obtain ⟨h1, h2, h3, h4, h5⟩ := hX
  refine ⟨fun pins s σ H Q I h => ?_⟩
  refine attr_of hab (thn (he.run pins s σ H _ I h) fun u s1 ⟨y, H1, I1, rx, a, dx, fs, C, Pre, ex, ea, hc, hl, q⟩ => ?_)
  subst ex
  obtain rfl : u = Value.ref a := rx
  obtain ⟨p, f, hp, G⟩ := F C Pre hl
  unfold Gmx at G
  have cl := (hk C hc).ci.cls
  rw [← h1, ← h2, ← h3, ← h4, ← h5] at G
  rw [← h3] at hp cl
  obtain ⟨mA, O, _, _, _, _⟩ := ins_get I1.hok ea
  obtain ⟨od, J, _⟩ := O.look
  obtain ⟨rest, hrec⟩ := hp.rec_
  have I2 := I1.tok (s1.toks + 1)
  have hcs : (PySem.W.clsIn X.K (c.ca C)).isSome = true := by
    obtain ⟨cd, hc, _⟩ := PySem.W.any_some cl.hd
    rw [hc]
    rfl
  refine PySem.W.get_bind I1.kIn J (PySem.W.plainGet_of (cl.get m)).1 (PySem.W.findObj_data hcs hp.at_ hp.get hp.tak) (PySem.W.plainGet_of (cl.get m)).2 (wpAny_call (PySem.W.prop_get (s := { s1 with toks := s1.toks + 1 }) I1.kIn hrec ?_))
  refine codeAny_mono (G X.A.in1 X.stack { s1 with toks := s1.toks + 1 } H1 [.ref a] [.ref a] Q _ hr.in1 I2.env0.in1 (.cons rfl .nil) q) fun r s' hq => ?_
  cases r with
  | error er =>
    have hx : XE X wF er s' := XE.of_call I2 (fun _ _ _ h => h) hq
    obtain ⟨_, _, _, _, _, _, _, _, _, _, _, _, _, _, _, _, no⟩ := hx
    exact no.elim
  | ok fl =>
    cases fl with
    | ret u =>
      obtain ⟨v, H', I3, rv, q3⟩ := I2.after hq
      exact wpAny_of_eq (PySem.W.handedOut_of (handed_of rv)) ⟨v, H', I3, rv, q3⟩
    | next => exact False.elim hq
    | brk => exact False.elim hq
    | cont => exact False.elim hq
end
/-! ### classmethods -/
def cmethW (C : Nat) (P : PreX) (a : EM) (as : AM) : EM := fun ss R X => a ss (fun d => d = .cls C ∧ as ss (fun l => P (.cls C :: l) R X) X) X
def tCm (c : Kc) (w : Option WX) (C : Nat) (P : PreX) (ta : TE) (t : TA) : TE := fun σ H Q => ta σ H fun y H1 => y = .ref (c.ca C) ∧ t σ H1 fun vs H2 => spX c P (.ref (c.ca C) :: vs) H2 Q (Wx w σ)
section
variable {X : Cx} {P : Program} {c : Kc} {mg : Str → Option Value} {base : Heap} {w : Option WX} {x : Mx} {k C : Nat} {Pre : PreX} {m nm : Str} {tas t : TA} {as : AM} {ta : TE} {am : EM} {o e : Expr} {es : List Expr} {apos pos : Pos} {pl : Sem Bool} {p g : Addr}
/-- the class itself -/
theorem re_cls (hc : C ∈ c.cl) : RE c x w (tC (.ref (c.ca C))) (cW (.cls C)) := re_c fun G => ⟨rfl, hc⟩
theorem re_cm (ha : RE c x w ta am) (hs : RA c x w tas as) : RE c x w (tCm c w C Pre ta tas) (cmethW C Pre am as) := fun ss R X G σ H mm e s Q q z =>
  ha ss _ X G σ H mm e s _ (fun v d G1 H1 g1 d1 m1 => by
    obtain ⟨rfl, m1⟩ := m1
    refine ⟨d1.1, hs ss _ X G1 σ H1 m1 g1.ink (s.go g1) _ (fun vs ds G2 H2 g2 d2 m2 => ?_) (kx_go z g1)⟩
    exact ⟨G2, .cls C :: ds, R, X, g2.ink, ⟨_, _, rfl, ⟨rfl, d1.2⟩, d2⟩, m2, fun v d G' H' g hd hr => q v d G' H' ((g1.trans g2).trans g) hd hr, fun C l od G' H' g xd hx => z C l od G' H' ((g1.trans g2).trans g) xd hx⟩) z
theorem pe_cm (he : PE X o ta) (r : ClX.CRead c.K (c.ca C) (.type "type")) (cm : ClX.CMet c.K (c.ca C) (.type "type") m p g) (F : Gmx P c mg base k g Pre) (hX : At X P c mg base) (hr : Room k X.A) (tk : Tk X w) (ha : PA X (e :: es) t)
    (hst : starEach (e :: es) X.env = (false, eval e X.env) :: starEach es X.env := by rfl) (hpl : (backTo pos (starEach es X.env)).any (·.1) = false := by rfl)
    (ht : eval (.Call (.Attribute o m apos) (e :: es) [] pos) X.env = (do
      let ov ← eval o X.env
      standAt apos.atName
      let (f, first) ← holding [ov] (getMethod ov m pl)
      callWith pos f first (backTo pos (starEach (e :: es) X.env)) (backToKw pos (keywordEach [] X.env))) := by rfl) :
    PE X (.Call (.Attribute o m apos) (e :: es) [] pos) (tCm c w C Pre ta t) := by
  obtain ⟨h1, h2, h3, h4, h5⟩ := hX
  unfold Gmx at F
  rw [← h1, ← h2, ← h3, ← h4, ← h5] at F
  rw [← h3] at r cm
  refine ⟨fun pins s σ H Q I h => ?_⟩
  refine PySem.W.methodCall_KW (pl := pl) (thn (he.run pins s σ H _ I h) fun u s1 ⟨y, H1, I1, rx, ex, q⟩ => ?_) ht
  subst ex
  obtain rfl : u = Value.ref (c.ca C) := rx
  refine ClX.getmethcm_ok I1 r cm fun s2 I2 => ?_
  refine ClX.callwith_cm I2 (ClX.base_none I1 (Nat.le_refl _)) cm.fi (thn (ha.run pos _ s2 σ H1 _ I2 q) fun us s3 ⟨vs, H2, I3, rv, q2⟩ => ⟨⟨ClX.pin_at I3, I3.kIn⟩, ?_⟩) hst hpl
  have z : wpAny (model X.prog X.w) X.A (call (.ref s1.heap.objs.size) us) (EP X ((s1.heap.objs.size, PySem.W.methodObj (.ref g) (.ref (c.ca C))) :: pins) σ Q) X.xe s3 := by
    refine wpAny_call (PySem.W.method_call (ClX.pin_at I3) (codeAny_mono (F X.A X.stack s3 H2 (.ref (c.ca C) :: us) (.ref (c.ca C) :: vs) Q _ hr I3.env0 (.cons rfl rv) q2) fun r s' hq => ?_))
    cases r with
    | error e => exact tk σ _ H2 s3 e s' I3 hq
    | ok fl =>
      cases fl with
      | ret u => exact I3.after hq
      | next => exact False.elim hq
      | brk => exact False.elim hq
      | cont => exact False.elim hq
  exact thn z fun _ _ y => ClX.unpinE y
end
end Mw

set_option Elab.async false
set_option linter.all false
set_option maxRecDepth 100000
set_option maxHeartbeats 4000000
namespace Mw
open PySem PySem.Spec PyProof.Rows L2
/-! ### own __eq__: ==, and != by object.__ne__ -/
section
variable {prog : Program} {w : World} {A : Around} {E : Value → Shared → Prop} {s : Shared} {K : PySem.W.Frag} {x C f : Addr} {ox : Obj} {od : Option Obj} {b tb : Value}
theorem ifBound_B {M : Model} {name : Str} {id B : String} {args : List Value} {Q : Option Value → Shared → Prop} (S : PySem.Slot B name id) (X : K.In s.heap) (I : PySem.W.InstAt s.heap x ox C od) (hs : PySem.W.findIn K (.ref C) name = some (some (.builtin id)))
    (h : wpAny M A (call (.builtin id) (.ref x :: args)) (fun v => Q (some v)) E s) : wpAny M A (callSpecialIfBound? (.ref x) name args) Q E s := by
  simp only [callSpecialIfBound?, bindSpecialIfBound?]
  refine wpAny_holding (wpAny_bind (wpAny_bind (wpAny_bind (I.type.here ((PySem.W.looks_findIn X hs).here ?_)))))
  simp only [S.bind]
  refine wpAny_bind (wpAny_askSetting (wpAny_ite ?_))
  have fin : wpAny M A (call (.builtin id) ([.ref x] ++ args) >>= fun v => pure (some v)) Q E s := wpAny_bind (wpAny_mono h (fun v s' h' => wpAny_pure h') fun _ _ h' => h')
  split
  · exact wpAny_bind (wpAny_pure (wpAny_pure fin))
  · exact wpAny_tryCatch (wpAny_bind (wpAny_pure (wpAny_pure fin)))
theorem objNe_entryK (X : K.In s.heap) (I : PySem.W.InstAt s.heap x ox C od) (hs : PySem.W.findIn K (.ref C) "__eq__" = some (some (.ref f))) (hf : PySem.W.isFn K (.ref f) = true) (hu : A.units < cLine) {Q : Fin → Shared → Prop}
    (hcall : wpAny (model prog w) A (call (.ref f) [.ref x, b]) (fun v s' => ∃ r, v = .bool r ∧ Q (.done (.ret (.bool (!r)))) s') E s) :
    wpAny (model prog w) A (Builtin.«object.__ne__» ⟨[.ref x, b], []⟩) Q E s := by
  unfold Builtin.«object.__ne__»
  repeat (first
    | with_reducible refine wpAny_cRoomFor hu ?_
    | (refine wpAny_bind (m := callSpecialIfBound? (.ref x) (Str.ofString "__eq__") [b])
        (PySem.W.ifBound_K X I hs hf (wpAny_mono hcall (fun r s' hr => by
          obtain ⟨b, rfl, hq⟩ := hr
          repeat (first | exact hq | exact wpAny_pure hq | exact wpAny_truthy_bool hq | (refine wpAny_bind (m := truthy (.bool _)) (wpAny_truthy_bool ?_)) | wp_step)) fun _ _ e => e)))
    | wp_step)
theorem tryNe_K (X : K.In s.heap) (I : PySem.W.InstAt s.heap x ox C od) (hn : PySem.W.findIn K (.ref C) "__ne__" = some (some (.builtin "object.__ne__"))) (ho : PySem.W.subIn K (.ref C) (.type "object") = some true)
    (hs : PySem.W.findIn K (.ref C) "__eq__" = some (some (.ref f))) (hf : PySem.W.isFn K (.ref f) = true) (hu : A.units + 1 < cLine) {Q : Option Value → Shared → Prop}
    (hcall : wpAny (model prog w) A.in1 (call (.ref f) [.ref x, b]) (fun v s' => ∃ r, v = .bool r ∧ Q (some (.bool (!r))) s') E s) :
    wpAny (model prog w) A (tryCompare (.ref x) "__ne__" b) Q E s := by
  simp only [tryCompare]
  refine wpAny_bind (ifBound_B F.cmp_object.ne X I hn (wpAny_call (codeAny_call_builtin F.cmp_object.ne.plain F.cmpEntry_ne
    (PySem.W.check_slot F.cmpKind_ne F.cmpSplit_ne (I.type.andThen (PySem.W.looks_subIn X ho)) (F.cmpArgs_ne _ _)
      (objNe_entryK (A := A.in1) X I hs hf hu (wpAny_mono hcall (fun v s' hv => ?_) fun _ _ e => e))))))
  obtain ⟨r, rfl, hq⟩ := hv
  first | exact ⟨r, rfl, wpAny_pure hq⟩ | exact ⟨r, rfl, wpAny_pure (wpAny_pure hq)⟩ | exact ⟨r, rfl, hq⟩
theorem ne_K {Q : Value → Shared → Prop} (X : K.In s.heap) (I : PySem.W.InstAt s.heap x ox C od) (hb : PySem.W.Looks (model prog w) s.heap (typeOf b) tb) (hn : PySem.W.notFirst K C tb = true)
    (hne : PySem.W.findIn K (.ref C) "__ne__" = some (some (.builtin "object.__ne__"))) (ho : PySem.W.subIn K (.ref C) (.type "object") = some true)
    (hs : PySem.W.findIn K (.ref C) "__eq__" = some (some (.ref f))) (hf : PySem.W.isFn K (.ref f) = true) (hu : A.units + 1 < cLine)
    (hcall : wpAny (model prog w) A.in1 (call (.ref f) [.ref x, b]) (fun v s' => ∃ r, v = .bool r ∧ Q (.bool (!r)) s') E s) : wpAny (model prog w) A (richCompare .NotEq (.ref x) b) Q E s := by
  have one : wpAny (model prog w) A (tryCompare (.ref x) "__ne__" b) (fun r s' => ∃ v, r = some v ∧ Q v s') E s :=
    tryNe_K X I hne ho hs hf hu (wpAny_mono hcall (fun v s' ⟨r, h1, h2⟩ => ⟨r, h1, _, rfl, h2⟩) fun _ _ e => e)
  unfold richCompare
  simp only [oneThing_ref]
  refine wpAny_holding (wpAny_bind (wpAny_cRoomFor (Nat.lt_of_succ_lt hu) ?_))
  rw [cmpInfo_NotEq]
  dsimp only
  refine wpAny_bind (I.type.here (wpAny_bind (hb.here ?_)))
  split
  · rename_i q
    have e : PySem.W.subIn K tb (.ref C) = some false := by
      rcases Bool.or_eq_true_iff.mp hn with e | e
      · rw [beq_iff_eq.mp e] at q; simp at q
      · exact beq_iff_eq.mp e
    refine wpAny_bind ((PySem.W.looks_subIn X e).here ?_)
    simp only [Bool.false_eq_true, if_false]
    refine wpAny_bind (wpAny_mono one (fun r s' z => ?_) fun _ _ e => e)
    obtain ⟨v, rfl, hq⟩ := z
    exact wpAny_pure hq
  · refine wpAny_bind (wpAny_pure ?_)
    simp only [Bool.false_eq_true, if_false]
    refine wpAny_bind (wpAny_mono one (fun r s' z => ?_) fun _ _ e => e)
    obtain ⟨v, rfl, hq⟩ := z
    exact wpAny_pure hq
end
theorem len_K {prog : Program} {w : World} {A : Around} {E : Value → Shared → Prop} {s : Shared} {K : PySem.W.Frag} {x C f : Addr} {ox : Obj} {od : Option Obj} {Q : Value → Shared → Prop} (X : K.In s.heap) (I : PySem.W.InstAt s.heap x ox C od)
    (hs : PySem.W.findIn K (.ref C) "__len__" = some (some (.ref f))) (hf : PySem.W.isFn K (.ref f) = true)
    (hcall : wpAny (model prog w) A.in1 (call (.ref f) [.ref x]) (fun r s' => ∃ n u, r = .int n u ∧ 0 ≤ n ∧ n < 2 ^ 63 ∧ Q (.int n s'.toks) { s' with toks := s'.toks + 1 }) E s) :
    wpAny (model prog w) A (call (.builtin "len") [.ref x]) Q E s := by
  refine Calls.call_function_entry kind_len plain_len entry_len (args_len1 _) ?_
  unfold Builtin.«len»
  refine wpAny_bind (m := oneArg "len" _) (wpAny_pure ?_)
  refine wpAny_bind (m := callSpecial? (.ref x) (Str.ofString "__len__")) (PySem.W.special_fn X I hs (beq_iff_eq.mp hf) (wpAny_mono hcall (fun r s' hr => ?_) fun _ _ y => y))
  obtain ⟨n, u, rfl, h0, h1, hq⟩ := hr
  refine wpAny_bind (wpAny_holding (wpAny_pure ?_))
  refine wpAny_bind (wpAny_letGo ?_)
  show wpAny _ _ (if n < 0 then _ else _) _ _ _
  rw [if_neg (by omega)]
  show wpAny _ _ (if n ≥ 2 ^ 63 then _ else _) _ _ _
  rw [if_neg (by omega)]
  exact wpAny_bind (wpAny_mkInt (wpAny_pure ⟨_, rfl, hq⟩))

/-! ### operators by an instance's own methods -/
/-- a promise, where nothing is let out -/
theorem gmx_none {P : Program} {c : Kc} {mg : Str → Option Value} {base : Heap} {k : Nat} {f : Addr} {Pre : PreX} (F : Gmx P c mg base k f Pre) : FnR P c.w c.K mg base CX0 k f (spN c Pre) := fun A outer s H us vs Q E hr e0 r h => by
  obtain ⟨G, ds, R, e, d, p, q⟩ := h
  refine codeAny_mono (F A outer s H us vs Q (fun _ _ _ => False) hr e0 r ⟨G, ds, R, xF, e, d, p, q, fun _ _ _ _ _ _ _ z => z.elim⟩) fun rr s' hq => ?_
  cases rr with
  | error er =>
    obtain ⟨_, _, _, _, _, _, _, _, _, _, _, _, no⟩ := hq
    exact no.elim
  | ok fl =>
    cases fl with
    | ret u => exact hq
    | next => exact False.elim hq
    | brk => exact False.elim hq
    | cont => exact False.elim hq
def Dns (P : Program) (c : Kc) (mg : Str → Option Value) (base : Heap) (k : Nat) (m : Str) (ms : Ms) : Prop := ∀ C Pre, ms.lookup C = some Pre → ∃ f, PySem.W.findIn c.K (.ref (c.ca C)) m = some (some (.ref f)) ∧ PySem.W.isFn c.K (.ref f) = true ∧ Gmx P c mg base k f Pre
theorem dns_of {P : Program} {c : Kc} {mg : Str → Option Value} {base : Heap} {k : Nat} {m : Str} {ms : Ms} (h : Mts P c mg base k m ms) : Dns P c mg base k m ms := fun C Pre e => by
  obtain ⟨f, hm, F⟩ := h C Pre e
  exact ⟨f, hm.at_, hm.fn, F⟩
def tyKn : Dt → Bool
  | .ins _ _ => true
  | d => (tyN d).isSome
theorem tyKn_ok (c : Kc) {d : Dt} (h : tyKn d = true) : ∃ t, tyVal c d = some t := by
  cases d <;> first | exact ⟨_, rfl⟩ | cases h
theorem kit_sub {K : PySem.W.Frag} {C : Addr} {t : Value} (h : PySem.W.kitOne K t (.ref C) = some false) : PySem.W.subIn K t (.ref C) = some false := by
  unfold PySem.W.kitOne at h
  split at h
  · cases h
  · have h : (if ((PySem.W.clsIn K C).isSome && PySem.W.typeIn K (.ref C) == some (.type "type")) = true then PySem.W.subIn K t (.ref C) else none) = some false := h
    split at h
    · exact h
    · cases h
theorem notFirst_of {c : Kc} (hk : Klss c) {C : Nat} (hC : C ∈ c.cl) {G : Hp} {d : Dt} {v : V} {t : Value} (hd : Dat c G d v) (e : tyVal c d = some t) : PySem.W.notFirst c.K (c.ca C) t = true := by
  unfold PySem.W.notFirst
  rw [Bool.or_eq_true_iff]
  cases d with
  | ins D l =>
    obtain ⟨a, dx, fs, rfl, ha, hD, _⟩ := hd
    cases e
    by_cases q : D = C
    · subst q; exact .inl (by simp)
    · exact .inr (by rw [kit_sub ((hk C hC).kD D hD q)]; rfl)
  | _ =>
    unfold tyVal at e
    obtain ⟨T, e1, rfl⟩ := Option.map_eq_some_iff.mp e
    exact .inr (by rw [kit_sub ((hk C hC).kC T (tyN_kinds e1))]; rfl)
def rEqO (c : Kc) (ms : Ms) : R2 := fun x y H Q => ∃ a dx fs t C Pre, x = .ref a ∧ H a = some (.ins (c.ca C) dx fs) ∧ ms.lookup C = some Pre ∧ TyY c.K H y t ∧ PySem.W.notFirst c.K (c.ca C) t = true ∧ spN c Pre [x, y] H Q E0
def rNeO (c : Kc) (ms : Ms) : R2 := fun x y H Q => ∃ a dx fs t C Pre, x = .ref a ∧ H a = some (.ins (c.ca C) dx fs) ∧ ms.lookup C = some Pre ∧ TyY c.K H y t ∧ PySem.W.notFirst c.K (c.ca C) t = true ∧ spN c Pre [x, y] H (fun z H' => ∃ b, z = .bl b ∧ Q (.bl (!b)) H') E0
/-- what != asks besides -/
def Nes (c : Kc) (ms : Ms) : Prop := ∀ C Pre, ms.lookup C = some Pre → PySem.W.findIn c.K (.ref (c.ca C)) "__ne__" = some (some (.builtin "object.__ne__")) ∧ PySem.W.subIn c.K (.ref (c.ca C)) (.type "object") = some true
section
variable {X : Cx} {P : Program} {c : Kc} {mg : Str → Option Value} {base : Heap} {n : Nat} {ms : Ms}
theorem opEqO (D : Dns P c mg base n "__eq__" ms) (hX : At X P c mg base) (hr : Room n X.A) : OpR X (compareOp .Eq) (rEqO c ms) := by
  obtain ⟨h1, h2, h3, h4, h5⟩ := hX
  intro pins s σ H x y v u Q I rx ry h
  obtain ⟨a, dx, fs, t, C, Pre, rfl, ha, hl, ty, hn, q⟩ := h
  obtain ⟨g, hs, hf, F⟩ := D C Pre hl
  have F := gmx_none F
  rw [← h1, ← h2, ← h3, ← h4, ← h5] at F
  rw [← h3] at hs hf hn ty
  cases (show v = Value.ref a from rx)
  obtain ⟨mA, O, _⟩ := ins_get I.hok ha
  obtain ⟨od, J, _⟩ := O.look
  obtain ⟨P, Z, p, _⟩ := kit_ofY I ry ty
  obtain ⟨m, hF⟩ := I.fr
  show wpAny _ _ (richCompare .Eq _ _) _ _ _
  refine PySem.W.cmp_K (op := .Eq) (tb := t) hr.units0 hF I.ok.mod.kin J (Z.ty _ _ I.kIn p) hn hs hf ?_
  refine wpAny_mono (wpAny_call (run_fnR (us := [.ref a, u]) (vs := [.ref a, y]) F hr pass0 I (.cons rfl (.cons ry .nil)) q)) (fun w s' z => ?_) fun _ _ x => x
  obtain ⟨z', H', I', rz, qz⟩ := z
  exact SlX.cmpback rz ⟨z', H', I', rz, qz⟩
theorem opNeO (D : Dns P c mg base n "__eq__" ms) (hN : Nes c ms) (hX : At X P c mg base) (hr : Room (n + 1) X.A) : OpR X (compareOp .NotEq) (rNeO c ms) := by
  obtain ⟨h1, h2, h3, h4, h5⟩ := hX
  intro pins s σ H x y v u Q I rx ry h
  obtain ⟨a, dx, fs, t, C, Pre, rfl, ha, hl, ty, hn, q⟩ := h
  obtain ⟨g, hs, hf, F⟩ := D C Pre hl
  obtain ⟨hne, ho⟩ := hN C Pre hl
  have F := gmx_none F
  rw [← h1, ← h2, ← h3, ← h4, ← h5] at F
  rw [← h3] at hs hf hn ty hne ho
  cases (show v = Value.ref a from rx)
  obtain ⟨mA, O, _⟩ := ins_get I.hok ha
  obtain ⟨od, J, _⟩ := O.look
  obtain ⟨P, Z, p, _⟩ := kit_ofY I ry ty
  show wpAny _ _ (richCompare .NotEq _ _) _ _ _
  refine ne_K (tb := t) I.kIn J (Z.ty _ _ I.kIn p) hn hne ho hs hf (Nat.lt_of_le_of_lt (Nat.add_le_add_left (by decide) _) hr.units) ?_
  refine wpAny_mono (wpAny_call (SlX.run_at (us := [.ref a, u]) (ws := [.ref a, y]) F hr.in1 I.env0.in1 pass0 I (.cons rfl (.cons ry .nil)) q)) (fun w s' z => ?_) fun _ _ x => x
  obtain ⟨z', H', I', rz, b, rfl, qz⟩ := z
  cases (show w = Value.bool b from rz)
  exact ⟨b, rfl, .bl (!b), H', I', rfl, qz⟩
def rEqX (c : Kc) (ms : Ms) : R2 := fun x y H Q => rEqA c.K x y H Q ∨ rEqO c ms x y H Q
def rNeX (c : Kc) (ms : Ms) : R2 := fun x y H Q => rNeA c.K x y H Q ∨ rNeO c ms x y H Q
theorem opEqX (D : Dns P c mg base n "__eq__" ms) (hX : At X P c mg base) (hu : X.A.units + 64 < cLine) (hr : Room n X.A) : OpR X (compareOp .Eq) (rEqX c ms) := (opEq hX.K hu).or (opEqO D hX hr)
theorem opNeX (D : Dns P c mg base n "__eq__" ms) (hN : Nes c ms) (hX : At X P c mg base) (hu : X.A.units + 64 < cLine) (hr : Room (n + 1) X.A) : OpR X (compareOp .NotEq) (rNeX c ms) := (opNe hX.K hu).or (opNeO D hN hX hr)
end
def eqXD (ms : Ms) : D2
  | .ins C l, y, R => tyKn y = true ∧ ∃ P, ms.lookup C = some P ∧ P [.ins C l, y] R xF
  | x, y, R => eqD x y R
def neXD (ms : Ms) : D2
  | .ins C l, y, R => tyKn y = true ∧ ∃ P, ms.lookup C = some P ∧ P [.ins C l, y] (fun d => boolD d fun b => R (.bl (!b))) xF
  | x, y, R => neD x y R
theorem ro_eqX {c : Kc} {ms : Ms} (hk : Klss c) : RO2 c (rEqX c ms) (eqXD ms) := fun d e R m G H v u ex d1 d2 Q q => by
  unfold eqXD at m
  split at m
  · rename_i C l
    obtain ⟨ht, P, hl, m⟩ := m
    obtain ⟨t, ht⟩ := tyKn_ok c ht
    have d1' := d1
    obtain ⟨a, dx, fs, rfl, ha, hC, hf⟩ := d1'
    exact .inr ⟨a, dx, fs, t, C, P, rfl, ex _ _ ha, hl, tyx_val hk (d2.up ex.ex) ht, notFirst_of hk hC d2 ht, G, [.ins C l, e], R, ex, ⟨_, _, rfl, d1, _, _, rfl, d2, rfl⟩, m, q⟩
  · exact .inl (ro_eq _ _ R m G H v u ex d1 d2 Q q)
theorem ro_neX {c : Kc} {ms : Ms} (hk : Klss c) : RO2 c (rNeX c ms) (neXD ms) := fun d e R m G H v u ex d1 d2 Q q => by
  unfold neXD at m
  split at m
  · rename_i C l
    obtain ⟨ht, P, hl, m⟩ := m
    obtain ⟨t, ht⟩ := tyKn_ok c ht
    have d1' := d1
    obtain ⟨a, dx, fs, rfl, ha, hC, hf⟩ := d1'
    refine .inr ⟨a, dx, fs, t, C, P, rfl, ex _ _ ha, hl, tyx_val hk (d2.up ex.ex) ht, notFirst_of hk hC d2 ht, G, [.ins C l, e], _, ex, ⟨_, _, rfl, d1, _, _, rfl, d2, rfl⟩, m, fun z y G' H' g hd hr => ?_⟩
    obtain ⟨b, rfl, hr⟩ := of_boolD hr
    cases hd
    exact ⟨b, rfl, q _ (.bl _) G' H' g rfl hr⟩
  · exact .inl (ro_ne _ _ R m G H v u ex d1 d2 Q q)
/-! str(x), len(x) -/
def rStrO (c : Kc) (ms : Ms) : List V → Hp → VK → Prop := fun xs H Q => ∃ a dx fs C Pre, xs = [.ref a] ∧ H a = some (.ins (c.ca C) dx fs) ∧ ms.lookup C = some Pre ∧ spN c Pre xs H (fun z H' => ∃ y, z = .str y ∧ Q z H') E0
def rLenO (c : Kc) (ms : Ms) : List V → Hp → VK → Prop := fun xs H Q => ∃ a dx fs C Pre, xs = [.ref a] ∧ H a = some (.ins (c.ca C) dx fs) ∧ ms.lookup C = some Pre ∧ spN c Pre xs H (fun z H' => ∃ n : Int, z = .int n ∧ 0 ≤ n ∧ n < 2 ^ 62 ∧ Q z H') E0
section
variable {X : Cx} {P : Program} {c : Kc} {mg : Str → Option Value} {base : Heap} {n : Nat} {ms : Ms}
theorem callStrO (D : Dns P c mg base n "__str__" ms) (hX : At X P c mg base) (hr : Room (n + 2) X.A) : CallR X (.type "str") (rStrO c ms) := by
  obtain ⟨h1, h2, h3, h4, h5⟩ := hX
  intro pins s σ H xs us Q I r h
  obtain ⟨a, dx, fs, C, Pre, rfl, ha, hl, q⟩ := h
  obtain ⟨g, hs, hf, F⟩ := D C Pre hl
  have F := gmx_none F
  rw [← h1, ← h2, ← h3, ← h4, ← h5] at F
  rw [← h3] at hs hf
  obtain ⟨u, rfl, ru⟩ := r.one
  cases (show u = Value.ref a from ru)
  obtain ⟨mA, O, _⟩ := ins_get I.hok ha
  obtain ⟨od, J, _⟩ := O.look
  have hr2 : Room n X.A.in1.in1 := (show Room (n + 1) X.A.in1 from Room.in1 hr).in1
  refine PySem.W.kso_call hr2.units0 I.kIn J hs hf (wpAny_mono (wpAny_call (SlX.run_at (us := [.ref a]) (ws := [.ref a]) F hr2 I.env0.in1.in1 pass0 I (.cons rfl .nil) q)) (fun w s' z => ?_) fun _ _ x => x)
  obtain ⟨z', H', I', rz, y, rfl, qz⟩ := z
  obtain ⟨t, e⟩ := (show ∃ t, w = Value.str y t from rz)
  cases e
  exact ⟨.str y, H', I', ⟨t, rfl⟩, qz⟩
theorem callLenO (D : Dns P c mg base n "__len__" ms) (hX : At X P c mg base) (hr : Room (n + 1) X.A) : CallR X (.builtin "len") (rLenO c ms) := by
  obtain ⟨h1, h2, h3, h4, h5⟩ := hX
  intro pins s σ H xs us Q I r h
  obtain ⟨a, dx, fs, C, Pre, rfl, ha, hl, q⟩ := h
  obtain ⟨g, hs, hf, F⟩ := D C Pre hl
  have F := gmx_none F
  rw [← h1, ← h2, ← h3, ← h4, ← h5] at F
  rw [← h3] at hs hf
  obtain ⟨u, rfl, ru⟩ := r.one
  cases (show u = Value.ref a from ru)
  obtain ⟨mA, O, _⟩ := ins_get I.hok ha
  obtain ⟨od, J, _⟩ := O.look
  have hr2 : Room n X.A.in1 := Room.in1 hr
  refine len_K I.kIn J hs hf (wpAny_mono (wpAny_call (SlX.run_at (us := [.ref a]) (ws := [.ref a]) F hr2 I.env0.in1 pass0 I (.cons rfl .nil) q)) (fun w s' z => ?_) fun _ _ x => x)
  obtain ⟨z', H', I', rz, m, rfl, h0, h1, qz⟩ := z
  obtain ⟨t, e⟩ := (show ∃ t, w = Value.int m t from rz)
  cases e
  exact ⟨m, t, rfl, h0, by omega, .int m, H', I'.tok _, ⟨_, rfl⟩, qz⟩
end
def strOD (ms : Ms) : DN
  | [.ins C l], R => ∃ P, ms.lookup C = some P ∧ P [.ins C l] (fun d => ∃ y, d = .str y ∧ R d) xF
  | _, _ => False
def lenOD (ms : Ms) : DN
  | [.ins C l], R => ∃ P, ms.lookup C = some P ∧ P [.ins C l] (fun d => ∃ n : Int, d = .int n ∧ 0 ≤ n ∧ n < 2 ^ 62 ∧ R d) xF
  | _, _ => False
theorem ro_strO {c : Kc} {ms : Ms} : RON c (rStrO c ms) (strOD ms) := fun ds R m G H vs ex d Q q => by
  match ds, m with
  | [.ins C l], ⟨P, hl, m⟩ =>
    obtain ⟨v, r, rfl, d1, d3⟩ := d
    cases d3
    have d1' := d1
    obtain ⟨a, dx, fs, rfl, ha, hC, hf⟩ := d1'
    refine ⟨a, dx, fs, C, P, rfl, ex _ _ ha, hl, G, [.ins C l], _, ex, ⟨_, _, rfl, d1, rfl⟩, m, fun z y G' H' g hd hr => ?_⟩
    obtain ⟨y', rfl, hr⟩ := hr
    cases hd
    exact ⟨y', rfl, q _ (.str _) G' H' g rfl hr⟩
theorem ro_lenO {c : Kc} {ms : Ms} : RON c (rLenO c ms) (lenOD ms) := fun ds R m G H vs ex d Q q => by
  match ds, m with
  | [.ins C l], ⟨P, hl, m⟩ =>
    obtain ⟨v, r, rfl, d1, d3⟩ := d
    cases d3
    have d1' := d1
    obtain ⟨a, dx, fs, rfl, ha, hC, hf⟩ := d1'
    refine ⟨a, dx, fs, C, P, rfl, ex _ _ ha, hl, G, [.ins C l], _, ex, ⟨_, _, rfl, d1, rfl⟩, m, fun z y G' H' g hd hr => ?_⟩
    obtain ⟨y', rfl, h0, h1, hr⟩ := hr
    cases hd
    exact ⟨y', rfl, h0, h1, q _ (.int _) G' H' g rfl hr⟩
end Mw

set_option Elab.async false
set_option linter.all false
set_option maxRecDepth 100000
set_option maxHeartbeats 4000000
namespace Mw
open PySem PySem.Spec PyProof.Rows L2
/-! ### exceptions of the text's own whose __init__ says super().__init__(x) and keeps x: made -/
section
open PySem.W PySem.Calls Builtin Builtin.ObjectAttr
variable {P : Program} {w : World} {A : Around} {R : Result → Shared → Prop} {hp : Heap} {g : Array GenState} {d : Drawn} {t : Nat} {os : OsState}
/-- self.nm = v, the first field of an exception -/
theorem own_store {K : W.Frag} {nm : Str} {tk : Tok} {v : Value} {x C : Addr} {fv : Array Value} {cd : ClassData} (X : K.In hp) (hx : hp.get? x = some { cls := .ref C, data := .fields fv }) (hcd : W.clsIn K C = some cd)
    (hps : ∀ y, refuseLoop y "__setattr__" cd.mro = pure ()) (hob : cd.mro.contains (.type "object") = true) (hh : cd.hasDict = true) (ha : W.findIn K (.ref C) nm = some none)
    (hq : ∀ h' tk' dx, (∀ b o, b ≠ x → hp.get? b = some o → h'.get? b = some o) → hp.objs.size ≤ dx → dx ≠ x → h'.get? x = some { cls := .ref C, dict := some dx, data := .fields fv } →
      h'.Ns1 dx (fun y => if y = nm then some v else none) → R (.ok (.ret .none)) ⟨h', g, d, tk', os⟩) :
    codeAny (model P w) A (.call (.builtin "object.__setattr__") ⟨[.ref x, .str nm tk, v], []⟩) R ⟨hp, g, d, t, os⟩ := by
  have Ia : W.InstAt hp x { cls := .ref C, data := .fields fv } C none := ⟨hx, rfl, rfl, trivial⟩
  have SF := F.store_object
  have ne : cd.mro.isEmpty = false := by
    cases c : cd.mro with
    | nil => rw [c] at hob; cases hob
    | cons _ _ => rfl
  have hxs : x ≠ hp.objs.size := Nat.ne_of_lt (Heap.lt_size hx)
  have isob : W.Looks (model P w) hp (isInstance (.ref x) (.type "object")) true := Ia.type.andThen (W.looks_mroIn X (by unfold W.mroIn; rw [hcd, Option.bind_some, if_neg (by rw [ne]; exact Bool.false_ne_true), hob]))
  refine codeAny_call_builtin SF.slot.plain SF.entry (@W.check_slot (model P w) _ _ ⟨hp, g, d, t, os⟩ "object.__setattr__" "object" "__setattr__" (.ref x) [.str nm tk, v] [] _ SF.kind SF.split isob (SF.args (.ref x) (.str nm tk) v) ?_)
  have lm : W.Looks (model P w) hp (mroOf (.ref C)) cd.mro := (W.looks_clsIn X hcd).andThen .now
  have l3 : W.Looks (model P w) hp (storeTaker? none) none := .now
  have lc : W.Looks (model P w) hp (classData C) cd := W.looks_clsIn X hcd
  rw [W.osa_eq, refuse_eq]
  refine wpAny_bind (wpAny_bind (Ia.type.at (wpAny_bind (lm.at ?_))))
  rw [hps]
  refine wpAny_pure (wpAny_bind (Ia.type.at (wpAny_bind ((W.looks_findIn X ha).at (wpAny_bind (l3.at ?_))))))
  show wpAny _ _ (storeInOwnDict (.ref x) (.ref C) (.str nm tk) nm v false) _ _ _
  obtain ⟨nm', bs, mro, ns, qn, hd, sn, sb, ab, col, del⟩ := cd
  dsimp only at hh
  subst hh
  unfold storeInOwnDict ownDictForStores
  repeat (first | with_reducible refine HandSPX.store_in_new ?_ ?_ | with_reducible refine wpAny_loadPart_at hx ?_ | with_reducible refine lc.at ?_ | wp_step)
  · exact ⟨_, #[], _, (Heap.get?_update_ne _ _ _ _ hxs.symm).trans (Heap.get?_push_at rfl rfl), rfl, fun e he => absurd he (by simp), fun _ => rfl⟩
  · intro h' tk' hn' hs
    have hx1 : (hp.push { cls := .type "dict", data := .dict #[] }).get? x = some { cls := .ref C, data := .fields fv } := Heap.get?_push_of_some _ hx
    refine hq h' tk' hp.objs.size (fun b o hb ho => ?_) (Nat.le_refl _) hxs.symm ((hs.2 x hxs).trans (Heap.get?_update_self _ hx1 rfl)) hn'
    exact (hs.2 b (Nat.ne_of_lt (Heap.lt_size ho))).trans ((Heap.get?_update_ne _ _ _ _ hb).trans (Heap.get?_push_of_some _ ho))
end
/-! ### classes whose __new__ and __init__ come from two built-in classes (KeyError: __new__ of LookupError) -/
structure InitF (B initId : String) : Prop where
  init : Slot B (Str.ofString "__init__") initId
  initEntry : entryFor table initId = some Builtin.«BaseException.__init__»
  initKind : builtinKind initId = some Manifest.AttrKind.slot
  initRow : Manifest.signature? initId = some ⟨.positional, "*", B, .self, [⟨"args", .varPos, false⟩]⟩
  noStar : (B != "*") = true
theorem InitF.of {B newId initId : String} (F : ExcCallFacts B newId initId) : InitF B initId := ⟨F.init, F.initEntry, F.initKind, F.initRow, F.noStar⟩
theorem initF_KeyError : InitF "KeyError" "KeyError.__init__" where
  init := .of (owner := "KeyError") (n := "__init__") (by rw [typeLookup_type, builtinLookup_eq_fast]; kernel_rfl) (by decide +kernel) (by decide +kernel) (by decide +kernel)
    (by first | exact .inl (by decide +kernel) | exact .inr (by decide +kernel)) (by rw [isSubtype_type]; kernel_rfl)
  initEntry := entryFor_alias (id' := "BaseException.__init__") (by rw [fastTable_eq_tree]; kernel_rfl) (by first | rfl | decide +kernel) (by decide +kernel) (by rw [fastTable_eq_tree]; kernel_rfl)
  initKind := by kernel_rfl
  initRow := by kernel_rfl
  noStar := by decide +kernel
/-- newId is the __new__ of a built-in exception among bm -/
def NewF (bm : List Value) (newId : String) : Prop := ∃ (B initId : String) (bmB : List Value), ExcBaseFacts B newId initId bmB ∧ bm.contains (.type B) = true ∧ bm.contains (.type "AttributeError") = false ∧ bm.contains (.type "NameError") = false
section
variable {M : Model} {A : Around} {E : Value → Shared → Prop} {h : Heap} {g : Array GenState} {d : Drawn} {t : Nat} {os : OsState}
variable {nm q : Str} {C N : Addr} {bs bm bmB : List Value} {hdct : Bool} {sn : List Str} {sub : List Value} {ab : Bool} {col : Option Bool} {dd : Option Addr} {k0 k1 k2 k3 k5 : Option Value} {B newId initId : String}
theorem y_check_init (F : InitF B initId) {e : Addr} {oe : Obj} {rest : List Value} {Q : Unit → Shared → Prop} (hC : h.get? C = some (excClassObj nm q C N bs bm hdct sn sub ab col dd k0 k1 k2 k3 k5 newId)) (he : h.get? e = some oe) (hcls : oe.cls = .ref C) (hq : Q () ⟨h, g, d, t, os⟩) :
    wpAny M A (checkBoundCall initId ⟨.ref e :: rest, []⟩) Q E ⟨h, g, d, t, os⟩ := by
  have hshort := F.noStar
  simp only [checkBoundCall, F.initKind, F.initRow]
  repeat (first | (with_reducible refine wpAny_loadPart_at he ?_; rw [hcls]) | with_reducible refine wpAny_loadPart_at hC ?_ | wp_step)
  refine wpAny_onRaise ?_
  rw [show ∀ (a b : String) (n : Nat), Bind.check ⟨.positional, "*", B, .self, [⟨"args", .varPos, false⟩]⟩ a b n (List.map (fun x => x.fst) ({ pos := Value.ref e :: rest } : Args).kw) = pure () from fun a b n => check_star_args _ _ _ _ _ _]
  exact wpAny_pure hq
end
section
variable {prog : Program} {w : World} {A : Around} {E : Value → Shared → Prop} {R : Result → Shared → Prop} {h : Heap} {g : Array GenState} {d : Drawn} {t : Nat} {os : OsState}
variable {nm q : Str} {C N : Addr} {bs bm bmB : List Value} {hdct : Bool} {sn : List Str} {sub : List Value} {ab : Bool} {col : Option Bool} {dd : Option Addr} {k0 k1 k2 k3 k5 : Option Value} {newId : String}
theorem y_new {B initId : String} (F : ExcBaseFacts B newId initId bmB) {rest : List Value} (hC : h.get? C = some (excClassObj nm q C N bs bm hdct sn sub ab col dd k0 k1 k2 k3 k5 newId)) (hcB : (Value.ref C :: bm).contains (.type B) = true)
    (hcA : (Value.ref C :: bm).contains (.type "AttributeError") = false) (hcN : (Value.ref C :: bm).contains (.type "NameError") = false)
    (hq : R (.ok (.ret (.ref (h.objs.size + 1)))) ⟨(h.push { cls := .type "tuple", data := .seq rest.toArray }).push (HandSPX.excO C h.objs.size), g, d, t, os⟩) (hrest : rest.length ≤ sizeLine) :
    codeAny (model prog w) A (.builtin newId ⟨.ref C :: rest, []⟩) R ⟨h, g, d, t, os⟩ := by
  have hends := F.ends
  refine codeAny_builtinAt F.entry ?_
  unfold Builtin.«BaseException.__new__»
  refine PySem.wpAt_bind ?_
  show PySem.wpAt _ _ _ (stack >>= _) _ _ _
  refine PySem.wpAt_bind (PySem.wpAt_stack fun p below => PySem.wpAt_of_wpAny ?_)
  wp_walk
  refine PySem.wpAt_of_wpAny ?_
  rw [F.owner]
  repeat (first | with_reducible refine wpAny_madeHere_exc F.canon hC ?_ | with_reducible refine wpAny_loadPart_at hC ?_ | (with_reducible refine wpAny_isSubtype_exc hC ?_; first | rw [hcB] | rw [hcA] | rw [hcN]) | wp_step)
  show R _ _
  rw [Heap.size_push]
  exact hq
theorem y_call_own (F : NewF bm newId) {rest : List Value} {fI : Addr} (hC : h.get? C = some (excClassObj nm q C N bs bm hdct sn sub ab col dd k0 k1 k2 k3 k5 newId))
    (hi : PySem.W.Looks (model prog w) h (typeLookup (.ref C) "__init__") (some (.ref fI))) (hb : ∀ self, PySem.W.Looks (model prog w) h (bindSpecial (.ref fI) self) (.ref fI, [self])) (hrest : rest.length ≤ sizeLine)
    (hq : codeAny (model prog w) (A.under (.builtin "type.__call__" ⟨.ref C :: rest, []⟩)) (.call (.ref fI) ⟨.ref (h.objs.size + 1) :: rest, []⟩) (PySem.W.InitBack (h.objs.size + 1) R)
      ⟨(h.push (PySem.W.kdv_tup rest)).push (HandSPX.excO C h.objs.size), g, d, t, os⟩) :
    codeAny (model prog w) A (.call (.ref C) ⟨rest, []⟩) R ⟨h, g, d, t, os⟩ := by
  obtain ⟨B, initId, bmB, F, cB, cA, cN⟩ := F
  have f1 := tc_lookup
  have f2 := tc_bind (.ref C)
  have hTy : (⟨h, g, d, t, os⟩ : Shared).TypeIs (.ref C) "type" := ⟨_, hC, rfl⟩
  have hcB : (Value.ref C :: bm).contains (.type B) = true := by rw [List.contains_cons, cB, Bool.or_true]
  have hcA : (Value.ref C :: bm).contains (.type "AttributeError") = false := by rw [List.contains_cons, cA]; rfl
  have hcN : (Value.ref C :: bm).contains (.type "NameError") = false := by rw [List.contains_cons, cN]; rfl
  refine codeAny_of_tree ?_
  show wpAny _ _ (callAny (.ref C) _) _ _ _
  repeat (any_goals (first | assumption | with_reducible refine wpAny_loadPart_at hC ?_ | wp_step))
  refine ⟨rfl, ?_⟩
  refine codeAny_call_builtin_at (Code.quiet_builtin _ (by decide +kernel)) entry_typeCall (wpAny_check_type_call_sub hC ?_)
  repeat (first | with_reducible refine wpAny_loadPart_at hC ?_ | with_reducible refine wpAny_madeBy_exc hC ?_ | wp_step)
  have hstar := F.noStar
  refine codeAny_call_builtin_code (Code.quiet_builtin _ F.quiet) ?_
  simp only [checkBuiltinCall, F.newKind, F.newSplit, F.newRow]
  repeat (first | refine wpAny_loadPart_at hC ?_ | (refine wpAny_isSubtype_exc hC ?_; rw [hcB]) | refine wpAny_staticBase_exc hC ?_ | refine wpAny_madeBy_exc hC ?_ | simp only [bne_self_eq_false, Bool.false_eq_true, if_false] | wp_step)
  refine y_new F hC hcB hcA hcN ?_ hrest
  show wpAny _ _ _ _ _ _
  have k : ∀ b o, h.get? b = some o → ((h.push (PySem.W.kdv_tup rest)).push (HandSPX.excO C h.objs.size)).get? b = some o := fun b o e => Heap.get?_push_of_some _ (Heap.get?_push_of_some _ e)
  have hC₁ := k _ _ hC
  have hget : ((h.push (PySem.W.kdv_tup rest)).push (HandSPX.excO C h.objs.size)).get? (h.objs.size + 1) = some (HandSPX.excO C h.objs.size) := by heap_get
  have hcC : (Value.ref C :: bm).contains (.ref C) = true := by simp
  have i1 := hi.keeps k
  have b1 := (hb (.ref (h.objs.size + 1))).keeps k
  unfold isInstance
  repeat (first | with_reducible refine wpAny_loadPart_at hget ?_ | wp_step)
  show wpAny _ _ (isSubtype (.ref C) (.ref C)) _ _ _
  refine wpAny_isSubtype_exc hC₁ ?_
  rw [hcC]
  repeat (first | with_reducible refine wpAny_loadPart_at hget ?_ | wp_step)
  show wpAny _ _ (typeLookup (.ref C) _) _ _ _
  refine i1.at ?_
  refine wpAny_holding (wpAny_bind (b1.at ?_))
  refine wpAny_bind (wpAny_call (codeAny_mono hq fun r s' z => ?_))
  rcases r with e | (v | _ | _ | _) <;> first | exact z | exact z.elim | skip
  obtain ⟨rfl, z⟩ := z
  first
    | exact wpAny_pure (wpAny_pure z)
    | (wp_walk; exact z)
end
theorem passes_KeyError (y : Value) : refuseLoop y "__setattr__" [.type "KeyError", .type "LookupError", .type "Exception", .type "BaseException", .type "object"] = pure () := by kernel_rfl
theorem kxs_KeyError : PySem.W.KxsFacts "KeyError" "KeyError.__init__" := ⟨by show builtinType _ = _; rw [builtinType_eq_fast]; kernel_rfl, by first | kernel_rfl | rfl⟩
/-- what the text says of such a class: C its address, B its built-in base, fld the field, f its __init__, x its parameter -/
structure Xup (P : Program) (K : PySem.W.Frag) (mg : Str → Option Value) (C f : Addr) (B initId newId : String) (bmB : List Value) (px fld : Str) (st : Stmt) : Prop where
  kf : PySem.W.KxsFacts B initId
  fb : InitF B initId
  cls : ∃ nm q N bs bm sn sub ab col dd k0 k1 k2 k3 k5, K.lookup C = some (excClassObj nm q C N bs bm true sn sub ab col dd k0 k1 k2 k3 k5 newId) ∧ NewF bm newId ∧ (∀ y, refuseLoop y "__setattr__" (.ref C :: bm) = pure ()) ∧
    PySem.W.alongIn K "__init__" bm = some (some (.builtin initId)) ∧ bm.contains (.type "object") = true
  sa : PySem.W.findIn K (.ref C) "__setattr__" = some (some (.builtin "object.__setattr__"))
  nf : PySem.W.findIn K (.ref C) fld = some none
  ini : PySem.W.findIn K (.ref C) "__init__" = some (some (.ref f))
  tyf : PySem.W.typeIn K (.ref f) = some (.type "function")
  subB : PySem.W.subIn K (.ref C) (.type B) = some true
  subC : PySem.W.subIn K (.ref C) (.ref C) = some true
  op : PySem.W.nsIn K cStatics "thirdparty.any" = some none
  sup : mg "super" = none
  fn : ∃ (oc : Value) (od : Option Addr) (doc pm : Value) (an : Option Addr) (cda : Addr) (ct kV : Value) (osl : Array (Option Value)) (cc : Addr) (qual : Str) (cl : Value) (cld : Option Addr) (csl : Array (Option Value)) (ccl : Value) (cdd : Option Addr) (vs : Array Value) (ccs : Array (Option Value)) (file : Str) (tf : Tok),
    K.lookup f = some ⟨oc, od, .func (PySem.W.ksFn "__init__" qual (defArgs st) (defBody st) (defScope st) .none kV doc pm an (.ref cda) ct cc), osl⟩ ∧ PySem.W.codeIn K (.ref cda) qual = true ∧
    K.lookup cda = some ⟨ccl, cdd, .fields vs, ccs⟩ ∧ vs[2]? = some (.str file tf) ∧ ((P.main.file : Str) == file) = true ∧ K.lookup cc = some ⟨cl, cld, .cell (some (.ref C)), csl⟩
  top : (P.main.scope.names.lookup ("super" : Str)).isSome = false

/-- its text -/
structure XupSt (px fld : Str) (st : Stmt) : Prop where
  body : ∃ p0 p1 p2 p3 p4 p5 p6 p7 p8 p9 : Pos, defBody st = [.Expr (.Call (.Attribute (.Call (.Name "super" p0) [] [] p1) "__init__" p2) [.Name px p3] [] p4) p5, .Assign [.Attribute (.Name "self" p6) fld p7] (.Name px p8) p9] ∧
    ∀ (qual : Str) (L f : Addr) (cd : Value) (cc : Addr), interactive (PySem.W.ksEnv qual (defScope st) L f cd cc) = false ∧ swapsWith (.Call (.Attribute (.Call (.Name "super" p0) [] [] p1) "__init__" p2) [.Name px p3] [] p4) none p5.line (PySem.W.ksEnv qual (defScope st) L f cd cc) = pure false ∧
      (∃ pl : Sem Bool, eval (.Call (.Attribute (.Call (.Name "super" p0) [] [] p1) "__init__" p2) [.Name px p3] [] p4) (PySem.W.ksEnv qual (defScope st) L f cd cc) = (do
        let ov ← attributeBase (.Call (.Name "super" p0) [] [] p1) "__init__" (PySem.W.ksEnv qual (defScope st) L f cd cc) (eval (.Call (.Name "super" p0) [] [] p1) (PySem.W.ksEnv qual (defScope st) L f cd cc))
        standAt p2.atName
        let (f', first) ← holding [ov] (getMethod ov "__init__" pl)
        callWith p4 f' first (backTo p4 (starEach [.Name px p3] (PySem.W.ksEnv qual (defScope st) L f cd cc))) [])) ∧
      starEach [.Name px p3] (PySem.W.ksEnv qual (defScope st) L f cd cc) = [(false, eval (.Name px p3) (PySem.W.ksEnv qual (defScope st) L f cd cc))] ∧
      swapsWith (.Name px p8) (some (.Attribute (.Name "self" p6) fld p7)) p9.line (PySem.W.ksEnv qual (defScope st) L f cd cc) = pure false
  args : ∃ ar : Arg, ((defArgs st).posonlyargs ++ (defArgs st).args).head? = some ar ∧ ar.arg = "self"
  hks : (defScope st).names.lookup ("super" : Str) = some .globalImplicit
  hkc : (defScope st).names.lookup ("__class__" : Str) = some .free
  hka : (defScope st).names.lookup ("self" : Str) = some .local
  hkx : (defScope st).names.lookup px = some .local
  hk : (defScope st).kind = .function
  hcell : ∀ x ∈ (defScope st).names, x.2 ≠ .cell
  hco : (defScope st).isCoroutine = false
  hgen : (defScope st).isGenerator = false
  npx : px ≠ "self"
  ndb : (px == ("__debug__" : Str)) = false
  bnd : ∀ (s : Shared) (qual : Str) (kV doc pm : Value) (an : Option Addr) (cdv ct : Value) (cc : Addr) (u v : Value), BindsTo s (PySem.W.ksFn "__init__" qual (defArgs st) (defBody st) (defScope st) .none kV doc pm an cdv ct cc) ⟨[u, v], []⟩ [("self", u), (px, v)]
section
open PySem.W PySem.Calls
variable {P : Program} {w : World} {A : Around} {R : Result → Shared → Prop} {K : W.Frag} {mg mb : Str → Option Value} {C f : Addr} {B initId newId : String} {bmB : List Value} {px fld : Str} {st : Stmt}
theorem run_init (T : Xup P K mg C f B initId newId bmB px fld st) (S : XupSt px fld st) {s : Shared} (hroom : A.depth < recursionLimit) (KX : K.In s.heap) (G : s.heap.Ns mainGlobals mg) (Bn : s.heap.Ns builtinsNs mb) (hbb : ∀ x : Str, x ≠ "__name__" → mb x = bootBuiltins x) (hlim : s.heap.NoLimit)
    {e t0 : Addr} {v : Value} (he : s.heap.get? e = some (HandSPX.excO C t0)) (hKe : K.lookup e = none)
    (hq : ∀ h' tk t1 dx, (∀ b o, b ≠ e → s.heap.get? b = some o → h'.get? b = some o) → s.heap.objs.size ≤ dx → h'.get? e = some { cls := .ref C, dict := some dx, data := .fields #[.ref t1, .none, .none, .none, .bool false, .none] } → h'.Ns1 dx (fun y => if y = fld then some v else none) → R (.ok (.ret .none)) { s with heap := h', toks := tk }) :
    codeAny (model P w) A (.call (.ref f) ⟨[.ref e, v], []⟩) R s := by
  obtain ⟨oc, od, doc, pm, an, cda, ct, kV, osl, cc, qual, cl, cld, csl, ccl, cdd, vs, ccs, file, tf, lf, hcd, lcda, hvs, hfile, lcc⟩ := T.fn
  obtain ⟨nm, q, N, bs, bm, sn, sub, ab, col, dd, k0, k1, k2, k3, k5, lC, hT, hps, hal, hob⟩ := T.cls
  obtain ⟨p0, p1, p2, p3, p4, p5, p6, p7, p8, p9, hb, hen⟩ := S.body
  obtain ⟨ar, har, hself⟩ := S.args
  refine ks_codeAny_call_defAt (binds := [("self", .ref e), (px, v)]) hroom (KX _ _ lf) rfl hlim (codeRec_of KX hcd) rfl (S.bnd s qual kV doc pm an _ ct cc _ _) S.hcell ?_ (fun h0 hns hk => ?_) S.hco S.hgen S.hk
  · intro x hx
    simp only [List.mem_cons, List.not_mem_nil, or_false] at hx
    rcases hx with rfl | rfl
    · exact S.hka
    · exact S.hkx
  obtain ⟨hi, hsw, ⟨pl, hev⟩, hst, hsw2⟩ := hen qual s.heap.objs.size f (.ref cda) cc
  rw [hb]
  have eL : e ≠ s.heap.objs.size := Nat.ne_of_lt (Heap.lt_size he)
  have vself : ([(("self" : Str), Value.ref e), (px, v)]).reverse.lookup ("self" : Str) = some (Value.ref e) := by
    show List.lookup ("self" : Str) [(px, v), (("self" : Str), Value.ref e)] = _
    rw [List.lookup_cons, show (("self" : Str) == px) = false by simpa using fun z => S.npx z.symm]
    rfl
  have vpx : ([(("self" : Str), Value.ref e), (px, v)]).reverse.lookup px = some v := by
    show List.lookup px [(px, v), (("self" : Str), Value.ref e)] = _
    rw [List.lookup_cons, beq_self_eq_true]
  have hC0 := hk _ _ (KX _ _ lC)
  have he0 := hk _ _ he
  have K0 : K.In h0 := KX.keeps hk
  refine ks_wpAt_execs_cons (ks_wpAt_Expr_any (ks_wpAt_MethodCall (pl := pl) ?_ hev) hi hsw)
  refine ks_wpAt_super_base (ar := ar) S.hks S.hkc (by decide) rfl (hk _ _ (KX _ _ lf)) rfl har rfl (hk _ _ (KX _ _ lcda)) rfl hvs hfile T.top ?_
  refine ks_loadName_global S.hk S.hks (loadGlobal_builtin (G.keeps hk) T.sup (Bn.keeps hk) ((hbb _ (by decide +kernel)).trans (show bootBuiltins "super" = some (.type "super") by decide +kernel)) ⟨rfl, ?_⟩)
  refine wpAny_loadName_free S.hk S.hkc (c := cc) rfl ⟨_, hk _ _ (KX _ _ lcc), rfl⟩ ?_
  rw [hself]
  refine wpAny_loadName_local S.hk S.hka hns vself ?_
  refine ks_wpAny_isType_cls hC0 rfl ⟨rfl, ?_⟩
  refine ks_wpAny_call_super hC0 rfl he0 rfl (fun c z => nomatch z) (looks_subIn K0 T.subC) (fun h1 e1 k1 => ?_)
  have kC1 := k1 _ _ hC0
  have he1 := k1 _ _ he0
  have K1 : K.In h1 := K0.keeps k1
  have lmro : Looks (model P w) h1 (mroOf (.ref C)) (.ref C :: bm) := (looks_clsIn K1 (show clsIn K C = some _ by unfold clsIn; rw [lC] <;> rfl)).andThen .now
  have linst : Looks (model P w) h1 (isInstance (.ref e) (.type B)) true := (show InstAt h1 e (HandSPX.excO C t0) C none from ⟨he1, rfl, rfl, trivial⟩).type.andThen (looks_subIn K1 T.subB)
  have heC : e ≠ C := fun z => by
    rw [z] at he1
    rw [kC1] at he1
    cases he1
  refine kxs_getMethod T.kf e1 (looks_opaque K1 T.op) (l₀ := .ref C :: bm) lmro (l := bm) (by simp [List.dropWhile_cons]) K1 hal linst heC (by decide) ?_
  have kp : ∀ b o, h1.get? b = some o → (h1.push (kxs_mw initId e)).get? b = some o := fun b o z => Heap.get?_push_of_some _ z
  have hns2 : (h1.push (kxs_mw initId e)).Ns s.heap.objs.size (fun x => ([(("self" : Str), Value.ref e), (px, v)]).reverse.lookup x) := (hns.keeps k1).keeps kp
  show wpAny _ _ (callWith p4 (Value.ref h1.objs.size) [] (backTo p4 (starEach [.Name px p3] (ksEnv qual (defScope st) s.heap.objs.size f (.ref cda) cc))) []) _ _ _
  rw [hst]
  refine kxs_callWith (i := initId) (x := e) rfl (evalArgs_plain (Calls.spliced_cons (wpAny_Name (wpAny_loadName_local S.hk S.hkx hns2 vpx ?_) S.ndb)))
  refine Calls.spliced_nil ⟨Heap.get?_push_at rfl rfl, ?_⟩
  have he2 := kp _ _ he1
  have kC2 := kp _ _ kC1
  refine wpAny_call (codeAny_of_tree ?_)
  show wpAny _ _ (callAny (.ref h1.objs.size) ⟨[v], []⟩) _ _ _
  simp only [callAny]
  refine wpAny_bind (wpAny_load (Heap.get?_push_at rfl rfl) ?_)
  simp only [show (Value.type "method-wrapper" == Value.type "method" || Value.type "method-wrapper" == Value.type "builtin_function_or_method" || Value.type "method-wrapper" == Value.type "method-wrapper") = true by decide, if_true]
  refine KFB.if_so (by decide) ?_
  refine wpAny_bind (y_check_init T.fb kC2 he2 rfl ?_)
  refine wpAny_bind (wpAny_pure (wpAny_pure ?_))
  refine ⟨plainId_quiet T.fb.init.plain _, codeAny_builtin T.fb.initEntry ?_⟩
  refine exc_init_tree (cls := .ref C) (t0 := t0) (dv := none) (c2 := .none) (c3 := .none) (b4 := .bool false) he2 (by show 1 ≤ sizeLine; decide) fun h3 k3 e3 _ => ?_
  have eL3 : s.heap.objs.size ≠ e := Ne.symm eL
  have hns3 : h3.Ns s.heap.objs.size (fun x => ([(("self" : Str), Value.ref e), (px, v)]).reverse.lookup x) := by
    obtain ⟨o, es, ep, e5, r5⟩ := hns2
    exact ⟨o, es, ep, k3 _ _ eL3 e5, r5⟩
  have K3 : K.In h3 := fun b o z => k3 b o (fun y => by
    subst y
    rw [hKe] at z
    cases z) (kp _ _ (k1 _ _ (hk _ _ (KX _ _ z))))
  refine ks_wpAt_execs_cons (wpAt_of_wpAny (plainObj_wpAny_Assign_Attribute (wpAny_Name (wpAny_loadName_local S.hk S.hkx hns3 vpx ?_) S.ndb) hsw2))
  refine wpAny_Name (wpAny_loadName_local S.hk S.hka hns3 vself ?_) (by decide)
  refine set_plain K3 (ox := { cls := .ref C, dict := none, data := .fields #[.ref (h1.push (kxs_mw initId e)).objs.size, .none, .none, .none, .bool false, .none] }) (od := none) ⟨e3, rfl, rfl, trivial⟩ T.sa ?_
  refine own_store K3 e3 (show clsIn K C = some _ by unfold clsIn; rw [lC] <;> rfl) hps (by show (Value.ref C :: bm).contains (.type "object") = true; rw [List.contains_cons, hob, Bool.or_true]) rfl T.nf fun h4 tk4 dx k4 hdx dxe e4 n4 => ?_
  refine wpAt_of_wpAny (wpAny_execs_nil ?_)
  have sz : s.heap.objs.size ≤ dx := Nat.le_trans (Nat.le_of_lt hns3.lt) hdx
  exact hq h4 _ _ dx (fun b o hb z => k4 b o hb (k3 b o hb (kp _ _ (k1 _ _ (hk _ _ z))))) sz e4 n4
theorem run_make (T : Xup P K mg C f B initId newId bmB px fld st) (S : XupSt px fld st) {s : Shared} {v : Value} (hroom : (A.under (.builtin "type.__call__" ⟨.ref C :: [v], []⟩)).depth < recursionLimit) (KX : K.In s.heap) (G : s.heap.Ns mainGlobals mg) (Bn : s.heap.Ns builtinsNs mb) (hbb : ∀ x : Str, x ≠ "__name__" → mb x = bootBuiltins x) (hlim : s.heap.NoLimit)
    (hq : ∀ h' tk t1 dx, (∀ b o, s.heap.get? b = some o → h'.get? b = some o) → s.heap.objs.size ≤ dx → dx ≠ s.heap.objs.size + 1 → h'.get? (s.heap.objs.size + 1) = some { cls := .ref C, dict := some dx, data := .fields #[.ref t1, .none, .none, .none, .bool false, .none] } → h'.Ns1 dx (fun y => if y = fld then some v else none) →
      R (.ok (.ret (.ref (s.heap.objs.size + 1)))) { s with heap := h', toks := tk }) :
    codeAny (model P w) A (.call (.ref C) ⟨[v], []⟩) R s := by
  obtain ⟨nm, q, N, bs, bm, sn, sub, ab, col, dd, k0, k1, k2, k3, k5, lC, hT, hps, hal, hob⟩ := T.cls
  obtain ⟨hp, g, d, t, os⟩ := s
  have up : ∀ b o, hp.get? b = some o → ((hp.push (W.kdv_tup [v])).push (HandSPX.excO C hp.objs.size)).get? b = some o := fun b o z => Heap.get?_push_of_some _ (Heap.get?_push_of_some _ z)
  refine y_call_own hT (KX _ _ lC) (looks_findIn KX T.ini) (fun self => bind_fn KX self T.tyf) (by show 1 ≤ sizeLine; decide) ?_
  have eg : ((hp.push (W.kdv_tup [v])).push (HandSPX.excO C hp.objs.size)).get? (hp.objs.size + 1) = some (HandSPX.excO C hp.objs.size) := Heap.get?_push_at (by rw [Heap.size_push]) rfl
  have hKe : K.lookup (hp.objs.size + 1) = none := by
    cases c : K.lookup (hp.objs.size + 1) with
    | none => rfl
    | some o => exact absurd (show hp.objs.size + 1 < hp.objs.size from Heap.lt_size (KX _ _ c)) (by omega)
  refine run_init T S hroom (KX.keeps up) (G.keeps up) (Bn.keeps up) hbb (hlim.keeps up) eg hKe fun h' tk t1 dx k hdx e2 n2 => ?_
  have hz : hp.objs.size + 2 ≤ dx := by
    have : ((hp.push (W.kdv_tup [v])).push (HandSPX.excO C hp.objs.size)).objs.size = hp.objs.size + 2 := by rw [Heap.size_push, Heap.size_push]
    rw [this] at hdx; exact hdx
  refine ⟨rfl, hq h' tk t1 dx (fun b o z => k b o (Nat.ne_of_lt (Nat.lt_succ_of_lt (Heap.lt_size z))) (up b o z)) (by show hp.objs.size ≤ dx; omega) (by show dx ≠ hp.objs.size + 1; omega) e2 n2⟩
end
/-- C(e): an exception that keeps the value of e -/
def tMkS (C : Addr) (fld : Str) (ta : TA) : L2.St → Hp → XK → Prop := fun σ H Q => ta σ H fun vs H1 => ∃ v, vs = [v] ∧ ∀ dx, H1 dx = none → Q (.ref C) (some dx) (upd H1 dx (.xd [(fld, v)]))
theorem pmk_sup {X : Cx} {C f : Addr} {B initId newId : String} {bmB : List Value} {px fld x : Str} {st : Stmt} {e : Expr} {ta : TA} {p pos : Pos} (T : Xup X.prog X.K X.mg C f B initId newId bmB px fld st) (S : XupSt px fld st) (hr : Room 1 X.A) (hg : Gl X x) (hm : X.mg x = some (.ref C))
    (kp : PySem.W.keepIn X.K (.ref C) = true) (rs : Raises X (.ref C)) (ha : PA X [e] ta) (hdb : (x == ("__debug__" : Str)) = false := by decide)
    (he : starEach [e] X.env = (false, eval e X.env) :: starEach [] X.env := by rfl) (hpl : (backTo pos (starEach [] X.env)).any (·.1) = false := by rfl) :
    PMk X (.Call (.Name x p) [e] [] pos) (tMkS C fld ta) := by
  intro pins s σ H Q I h
  refine wpAny_Call_Name_kw (ld_glob I hg hm (PySem.W.callWith_K (h₀ := X.base) I.ok.mod.kin kp (thn (ha.run pos pins s σ H _ I h) fun us s1 ⟨vs, H1, I1, r, v, ev, q⟩ => ⟨I1.kIn, ?_⟩) he hpl) hdb)
  subst ev
  obtain ⟨u, rfl, ru⟩ := vals1 r
  obtain ⟨mb, Bn, hbb⟩ := I1.mod.blt
  refine wpAny_call (run_make T S (by have := hr.dp; show X.A.depth + 1 < recursionLimit; omega) I1.kIn (I1.mod.glob.keeps I1.bk) (Bn.keeps I1.bk) hbb I1.nolimit fun h' tk t1 dx k hdx dne he2 n2 => ?_)
  have hd1 : H1 dx = none := I1.hok.fresh hdx
  have he1 : H1 (s1.heap.objs.size + 1) = none := I1.hok.fresh (Nat.le_succ _)
  obtain ⟨G, g1, g2⟩ := restrict h' fun b => decide (b ≠ s1.heap.objs.size + 1)
  have gk : ∀ b, b ≠ s1.heap.objs.size + 1 → G.get? b = h'.get? b := fun b hb => g1 b (decide_eq_true hb)
  have ge : G.get? (s1.heap.objs.size + 1) = none := g2 _ (by simp)
  have old : ∀ b o, s1.heap.get? b = some o → G.get? b = some o := fun b o z => (gk b (Nat.ne_of_lt (Nat.lt_succ_of_lt (Heap.lt_size z)))).trans (k b o z)
  have nd : ∀ {b : Addr} {o : Obj}, s1.heap.get? b = some o → b ≠ dx := fun {b o} z => Nat.ne_of_lt (Nat.lt_of_lt_of_le (Heap.lt_size z) hdx)
  have U : Un X.fs [] H1 (upd H1 dx (.xd [(fld, v)])) s1.heap G := {
    keep := fun b o z _ _ _ => old b o z
    slot := fun b o z _ _ _ => ⟨o.slots, old b o z⟩
    free := fun b o z n _ => by rw [upd_ne (nd z)]; exact n
    there := fun b o z _ => ⟨o, old b o z⟩
    tups := fun b xs z => by rw [upd_ne (ne_of_none z hd1)]; exact z
    frzs := fun b o y z => by rw [upd_ne (ne_of_none z hd1)]; exact z
    tbls := fun b ps z => ⟨#[], by rw [upd_ne (ne_of_none z hd1), z]; simp⟩ }
  have J : Inv X pins σ (upd H1 dx (.xd [(fld, v)])) { s1 with heap := G, toks := tk } := I1.un U fun b o z => by
    by_cases hb : b = dx
    · subst hb
      rw [upd_same] at z
      cases z
      exact ⟨_, n2.at fun o y => (gk b dne).trans y, relO_put (fs := []) ru fun _ => True.intro⟩
    · rw [upd_ne hb] at z
      exact (I1.hok b o z).stay (fun c y _ q => old c y q) (fun c hc => by rw [upd_ne (ne_of_none hc hd1)]; exact hc) (fun c xs hc => by rw [upd_ne (ne_of_none hc hd1)]; exact hc)
  exact ⟨s1.heap.objs.size + 1, _, _, { s1 with heap := G, toks := tk }, upd H1 dx (.xd [(fld, v)]), .ref C, some dx, rfl, J, fun b o z => by
      by_cases hb : b = s1.heap.objs.size + 1
      · subst hb
        rw [show ({ s1 with heap := G, toks := tk } : Shared).heap = G from rfl, ge] at z
        cases z
      · rw [← gk b hb]; exact z, ge, he2, ⟨rfl, rfl⟩, rfl, rfl, by rw [upd_ne (Ne.symm dne)]; exact he1, rfl, I1.bare, rs, q dx hd1⟩
/-! raise C(e) -/
def tRaiseS (Cx : Addr) (fld : Str) (ta : TA) (W : WX) : TS := fun _ σ H => tMkS Cx fld ta σ H fun cls d H' => W cls d σ H'
def raiseSW (C : Nat) (fld : Str) (as : AM) : SM := fun ss k => as ss (fun l => match l with
  | [d] => k (.ex ss C [(fld, d)])
  | _ => False) fun C l => k (.ex ss C l)
theorem rs_raiseS {c : Kc} {x : Mx} {W : WX} {D : Nat} {fld : Str} {ta : TA} {as : AM} (ha : RA c x (some W) ta as) : RS c x (some W) (tRaiseS (c.ca D) fld ta W) (raiseSW D fld as) := fun ss k G0 H0 E σ G H m K g s =>
  ha ss _ _ G σ H m g.ink s.sv _ (fun vs l G1 H1 g1 d1 m1 => by
    match l, m1 with
    | [d], m1 =>
      obtain ⟨v, r1, rfl, hv, hr⟩ := d1
      cases hr
      refine ⟨v, rfl, fun dx hdx => ?_⟩
      have gn : Go c G1 H1 (upd G1 dx (.xd [(fld, v)])) (upd H1 dx (.xd [(fld, v)])) := Go.new g1.ink hdx
      exact K.ex σ ss D [(fld, d)] (some dx) _ _ ((g.trans g1).trans gn) ((s.go g1).go gn) (.inr ⟨dx, _, rfl, by simp, upd_same, ⟨_, _, rfl, hv.up gn.kn, rfl⟩⟩) m1) (kx_of K g s)
/-- an exception class whose __init__ says super().__init__(x); self.fld = x -/
structure XsC (P : Program) (K : PySem.W.Frag) (mg : Str → Option Value) (nm : Str) (C f : Addr) (B initId newId : String) (bmB : List Value) (px fld : Str) (st : Stmt) : Prop where
  m : mg nm = some (.ref C)
  kp : PySem.W.keepIn K (.ref C) = true
  sb : PySem.W.subIn K (.ref C) (.type "BaseException") = some true
  ty : PySem.W.typeIn K (.ref C) = some (.type "type")
  hd : PySem.W.hasDictIn K C = true
  up : Xup P K mg C f B initId newId bmB px fld st
  xf : XfC K C
section
variable {X : Cx} {P : Program} {c : Kc} {mg : Str → Option Value} {base : Heap} {C : Addr} {W : WX}
theorem ps_raiseS {f : Addr} {B initId newId : String} {bmB : List Value} {px fld x : Str} {st : Stmt} {e : Expr} {ta : TA} {p pos pos' : Pos} (T : XsC P c.K mg x C f B initId newId bmB px fld st) (S : XupSt px fld st) (hX : At X P c mg base) (hr : Room 1 X.A)
    (hc : X.calm = true) (tk : Takes X W) (hg : Gl X x) (ha : PA X [e] ta) (hdb : (x == ("__debug__" : Str)) = false := by decide)
    (he : starEach [e] X.env = (false, eval e X.env) :: starEach [] X.env := by rfl) (hpl : (backTo pos (starEach [] X.env)).any (·.1) = false := by rfl) :
    PS X (.Raise (some (.Call (.Name x p) [e] [] pos)) none pos') (tRaiseS C fld ta W) := by
  have hup := T.up
  have hsb := T.sb
  have hty := T.ty
  have hkp := T.kp
  have hm := T.m
  rw [← hX.p, ← hX.K, ← hX.mg] at hup
  rw [← hX.K] at hsb hty hkp
  rw [← hX.mg] at hm
  exact ps_raise hc tk (pmk_sup hup S hr hg hm hkp (raises_own hsb hty) ha hdb he hpl)
end
end Mw

set_option Elab.async false
set_option linter.all false
set_option maxRecDepth 100000
set_option maxHeartbeats 4000000
namespace Mw
open PySem PySem.Spec PyProof.Rows L2
/-! ### try: .. except C [as n]: .. except D [as m]: .. -/
abbrev Hdl := Value × Option Nat × (Addr → Value → Option Addr → TS)
def endsI (o : Option Nat) (D : Ends) : Ends := match o with
  | none => D
  | some i => { nx := fun σ' H' => D.nx (σ'.set i none) H', rt := D.rt, bk := fun σ' H' => D.bk (σ'.set i none) H', ct := fun σ' H' => D.ct (σ'.set i none) H' }
def slotI (o : Option Nat) (a : Addr) (σ : L2.St) : L2.St := match o with
  | none => σ
  | some i => σ.set i (some (.ref a))
def wAll (K : PySem.W.Frag) (Wout : WX) (D : Ends) : List Hdl → WX
  | [] => Wout
  | (c, o, ts) :: r => fun cls d σ H => ∃ b, PySem.W.exmOne K cls c = some b ∧ (b = true → ∀ a, H a = none → ts a cls d (endsI o D) (slotI o a σ) H) ∧ (b = false → wAll K Wout D r cls d σ H)
inductive HdsA (X : Cx) : List ExceptHandler → List Hdl → Prop
  | nil : HdsA X [] []
  | only {x : Str} {c : Value} {ts : Addr → Value → Option Addr → TS} {b₀ : Stmt} {suite : List Stmt} {np pos' : Pos} {hds : List ExceptHandler} {l : List Hdl} (hc : Names X x c)
      (hsu : ∀ (a : Addr) (oe : Obj) (cls : Value) (d : Option Addr) (pn : List (Addr × Obj)), Zc cls d oe → (∃ vs, oe.data = .fields vs) → PSs (X.suite a ((a, oe) :: pn)) (b₀ :: suite) (ts a cls d)) (r : HdsA X hds l) :
      HdsA X (.ExceptHandler (some (.Name x np)) none (b₀ :: suite) pos' :: hds) ((c, none, ts) :: l)
  | as {x n : Str} {i : Nat} {c : Value} {ts : Addr → Value → Option Addr → TS} {b₀ : Stmt} {suite : List Stmt} {np pos' : Pos} {hds : List ExceptHandler} {l : List Hdl} (hN : X.N.Nodup) (hi : X.N[i]? = some n) (hln : X.env.kindOf n = some .local) (hc : Names X x c)
      (hsu : ∀ (a : Addr) (oe : Obj) (cls : Value) (d : Option Addr) (pn : List (Addr × Obj)), Zc cls d oe → (∃ vs, oe.data = .fields vs) → PSs (X.suite a ((a, oe) :: pn)) (b₀ :: suite) (ts a cls d)) (r : HdsA X hds l) :
      HdsA X (.ExceptHandler (some (.Name x np)) (some n) (b₀ :: suite) pos' :: hds) ((c, some i, ts) :: l)
section
variable {X : Cx} {body : List Stmt} {h₀ : ExceptHandler} {hds : List ExceptHandler} {l : List Hdl} {pos : Pos} {tb : WX → TS} {Wout : WX}
def tTryA (K : PySem.W.Frag) (tb : WX → TS) (l : List Hdl) (Wout : WX) : TS := fun D σ H => tb (wAll K Wout D l) D σ H
theorem ps_try_all {K : PySem.W.Frag} (hK : X.K = K) (hs : X.stack = X.env :: X.outer) (hf : X.env.frame = some X.env.locals) (tk : Takes X Wout)
    (hb : ∀ (W : WX) (pn : List (Addr × Obj)) (xe : Value → Shared → Prop), Takes (X.tr pn xe) W → PassesOwn (model X.prog X.w) X.A X.env xe → PSs (X.tr pn xe) body (tb W))
    (hh : HdsA X (h₀ :: hds) l) : PS X (.Try body (h₀ :: hds) [] [] pos) (tTryA K tb l Wout) := by
  subst hK
  refine ⟨fun pins s σ H D I h => ?_⟩
  have ok := I.ok
  have hfr : X.A.frames = some (X.env :: X.outer) := by rw [ok.frames, hs]
  refine wpAny_Try_except ?_
  refine wpAny_mono ((hb (wAll X.K Wout D l) (X.pn ++ pins) (fun e s₁ => wpAny (model X.prog X.w) X.A (noteFrame e X.env) (fun _ s₂ => wpAny (model X.prog X.w) X.A (setFlight e none) (fun _ s₃ =>
    wpAny (model X.prog X.w) X.A (handleBy e X.env (h₀ :: hds)) (SP X pins D) X.xe s₃) X.xe s₂) X.xe s₁) (fun u s' xx => ?_) PassesOwn.looking).run [] s σ H D (I.toTry _) h) (fun f s1 hsp => ?_) (fun e s1 he => he)
  · obtain ⟨a, B, sI, pins', σ', H', cls, d, rfl, J', nb, up, sky, na, os, ag, w⟩ := xx
    have J : Inv X pins σ' H' sI := J'.ofTry ok
    have sky' : Sky B (X.env :: X.outer) a (Zc cls d) X.env.locals s'.heap := by rw [← hs]; exact sky
    show wpAny (model X.prog X.w) X.A (noteFrame (.ref a) X.env) _ _ _
    refine Sky.land Zc.steady hfr hf sky' fun h3 fl3 up3 => ?_
    have J3 : Inv X pins σ' H' { s' with heap := h3 } := J.landed nb fl3.1 (up.trans up3) os ag
    obtain ⟨oe3, vs3, he3, hz3, hd3⟩ := fl3.there
    have notFr : ∀ {h : Heap} {o : Obj} {vs : Array Value}, h.FunFrames B (X.env :: X.outer) → h.get? a = some o → o.data = .fields vs → a ∉ frs (X.env :: X.outer) := fun {h o vs} ff e dd hm => by
      obtain ⟨_, o', e', hnf⟩ := ff.mem hm
      rw [e] at e'; cases e'
      exact hnf _ dd
    have nfr := notFr fl3.2.2.1 he3 hd3
    have nL : a ≠ X.env.locals := fun z => nfr (List.mem_filterMap.mpr ⟨X.env, List.mem_cons_self, by rw [hf, z]⟩)
    have nF : a ∉ X.fs := fun hm => by
      obtain ⟨e, he, q⟩ := List.mem_filterMap.mp hm
      exact nfr (List.mem_filterMap.mpr ⟨e, List.mem_cons_of_mem _ he, q⟩)
    have S3 := J3.suite he3 hd3 na nL nF
    have LT : PySem.W.Looks (model X.prog X.w) h3 (typeOf (.ref a)) cls := fun A Q E s k q => wpAny_typeOf_ref (k _ _ he3) (by rw [hz3.1]; exact q)
    have test : ∀ {x : Str} {c : Value} {np : Pos}, Names X x c → ∀ {Q : Value → Shared → Prop} {E : Value → Shared → Prop}, Q c { s' with heap := h3 } → wpAny (model X.prog X.w) (X.A.mark (some (.ref a))) (eval (.Name x np) X.env) Q E { s' with heap := h3 } := fun {x c np} hc {Q E} q => by
      obtain ⟨hg, hdbg, hm | ⟨hm, hv, hnn⟩⟩ := hc
      · exact ld_glob (X := X.suite a ((a, oe3) :: (X.pn ++ pins))) S3 hg hm q hdbg
      · exact ld_blt (X := X.suite a ((a, oe3) :: (X.pn ++ pins))) S3 hg hm hv q hnn hdbg
    have go : ∀ {hds' : List ExceptHandler} {l' : List Hdl}, HdsA X hds' l' → wAll X.K Wout D l' cls d σ' H' →
        wpAny (model X.prog X.w) X.A (handleBy (.ref a) X.env hds') (SP X pins D) X.xe { s' with heap := h3 } := by
      intro hds' l' hk
      induction hk with
      | nil =>
        intro w
        refine wpAny_handleBy_nil ?_
        obtain ⟨k1, k2, k3, oe, vs, T, oT, ts', he, hz, hd, h1, hr⟩ := id fl3
        unfold PySem.passOn
        refine wpAny_bind (wpAny_field he hd h1 ?_)
        rw [if_neg (show ¬ ((Value.ref T == Value.none) = true) from by simp)]
        have fin : wpAny (model X.prog X.w) X.A (setFlight (.ref a) X.env.frame) (fun _ s4 => wpAny (model X.prog X.w) X.A (throw (.ref a) : Sem Flow) (SP X pins D) X.xe s4) X.xe { s' with heap := h3 } := by
          rw [hf]
          refine HandSPX.setFlight_upZ fl3 fun h4 hh4 up4 => wpAny_throw (tk _ _ ?_)
          exact ⟨a, B, sI, pins, σ', H', cls, d, rfl, J, nb, (up.trans up3).trans up4, .inr (.inr (by rw [hs]; exact hh4)), na, os, ag, w⟩
        first
          | exact wpAny_bind (wpAny_pure (wpAny_bind fin))
          | exact wpAny_bind fin
      | @only x c ts b₀ suite np pos' hds2 l2 hc hsu r ih =>
        intro w
        obtain ⟨b, hb1, hyes, hno⟩ := w
        refine wpAny_handleBy_cons (codeAny_handlers_test ?_) (by intro q; cases q)
        have LM := PySem.W.exm_one (M := model X.prog X.w) (J3.kIn) LT hb1
        refine test hc (LM.here ?_)
        cases b with
        | true =>
          refine codeAny_handlers_suite ?_
          refine HandSPX.lands_againZ fl3 fun h4 fl4 up4 => ?_
          have J4 : Inv X pins σ' H' { s' with heap := h4 } := J.landed nb fl4.1 ((up.trans up3).trans up4) os ag
          obtain ⟨oe4, vs4, he4, hz4, hd4⟩ := fl4.there
          have S4 := J4.suite he4 hd4 na nL nF
          refine wpAny_mono ((hsu a oe4 cls d (X.pn ++ pins) hz4 ⟨_, hd4⟩).run [] _ _ H' _ S4 (hyes rfl a na)) (fun f s6 hsp => ?_) (fun _ _ z => False.elim z)
          cases f with
          | next =>
            obtain ⟨σ6, H6, S6, q6⟩ := hsp
            exact ⟨_, _, S6.unsuite ok, q6⟩
          | brk =>
            obtain ⟨σ6, H6, S6, q6⟩ := hsp
            exact ⟨_, _, S6.unsuite ok, q6⟩
          | cont =>
            obtain ⟨σ6, H6, S6, q6⟩ := hsp
            exact ⟨_, _, S6.unsuite ok, q6⟩
          | ret u =>
            obtain ⟨v6, σ6, H6, S6, r6, q6⟩ := hsp
            exact ⟨_, _, _, S6.unsuite ok, r6, q6⟩
        | false =>
          show wpAny _ X.A (handleBy (.ref a) X.env hds2) _ _ _
          exact ih (hno rfl)
      | @as x n i c ts b₀ suite np pos' hds2 l2 hN hi hln hc hsu r ih =>
        intro w
        obtain ⟨b, hb1, hyes, hno⟩ := w
        refine wpAny_handleBy_cons (codeAny_handlers_test ?_) (by intro q; cases q)
        have LM := PySem.W.exm_one (M := model X.prog X.w) (J3.kIn) LT hb1
        refine test hc (LM.here ?_)
        cases b with
        | true =>
          refine codeAny_handlers_suite_as ?_
          refine HandSPX.lands_againZ fl3 fun h4 fl4 up4 => ?_
          have J4 : Inv X pins σ' H' { s' with heap := h4 } := J.landed nb fl4.1 ((up.trans up3).trans up4) os ag
          obtain ⟨oe4, vs4, he4, hz4, hd4⟩ := fl4.there
          have S4 := J4.suite he4 hd4 na nL nF
          refine store_ok (X := X.suite a ((a, oe4) :: (X.pn ++ pins))) (v := .ref a) S4 hN hi (.inl hln) rfl (fun s5 S5 => ?_) (.inr hln)
          refine wpAny_mono ((hsu a oe4 cls d (X.pn ++ pins) hz4 ⟨_, hd4⟩).run [] s5 _ H' _ S5 (hyes rfl a na)) (fun f s6 hsp => ?_) (fun _ _ z => False.elim z)
          have end_ : ∀ {σ6 : L2.St} {H6 : Hp} {Q : Shared → Prop}, Inv (X.suite a ((a, oe4) :: (X.pn ++ pins))) [] σ6 H6 s6 → (∀ s7, Inv X pins (σ6.set i none) H6 s7 → Q s7) →
              wpAny (model X.prog X.w) X.A (do bindName X.env n .none; unbindBehindTheSuite X.env n pos') (fun _ s7 => Q s7) X.xe s6 := fun {σ6 H6 Q} S6 hq => gone_ok (S6.unsuite ok) hN hi hln hq
          cases f with
          | next =>
            obtain ⟨σ6, H6, S6, q6⟩ := hsp
            exact end_ S6 fun s7 J7 => ⟨_, _, J7, q6⟩
          | brk =>
            obtain ⟨σ6, H6, S6, q6⟩ := hsp
            exact end_ S6 fun s7 J7 => ⟨_, _, J7, q6⟩
          | cont =>
            obtain ⟨σ6, H6, S6, q6⟩ := hsp
            exact end_ S6 fun s7 J7 => ⟨_, _, J7, q6⟩
          | ret u =>
            obtain ⟨v6, σ6, H6, S6, r6, q6⟩ := hsp
            exact end_ S6 fun s7 J7 => ⟨_, _, _, J7, r6, q6⟩
        | false =>
          show wpAny _ X.A (handleBy (.ref a) X.env hds2) _ _ _
          exact ih (hno rfl)
    exact go hh w
  · cases f with
    | next =>
      obtain ⟨σ', H', J', q⟩ := hsp
      exact wpAny_execs_nil ⟨σ', H', J'.ofTry ok, q⟩
    | brk =>
      obtain ⟨σ', H', J', q⟩ := hsp
      exact ⟨σ', H', J'.ofTry ok, q⟩
    | cont =>
      obtain ⟨σ', H', J', q⟩ := hsp
      exact ⟨σ', H', J'.ofTry ok, q⟩
    | ret u =>
      obtain ⟨v, σ', H', J', r, q⟩ := hsp
      exact ⟨v, σ', H', J'.ofTry ok, r, q⟩
end
end Mw

set_option Elab.async false
set_option linter.all false
set_option maxRecDepth 100000
set_option maxHeartbeats 4000000
namespace Mw
open PySem PySem.Spec PyProof.Rows L2
/-! ### try with several clauses, by data -/
inductive Xc where
  | own (C : Nat) | blt (n : String)
def xcV (c : Kc) : Xc → Value
  | .own C => .ref (c.ca C)
  | .blt n => .type n
def exTy (n : Nat) : List String :=
  (if n ≤ 10 then ["ValueError"] else if n = 11 then ["KeyError", "LookupError"] else if n = 12 then ["RuntimeError"] else if n = 13 then ["OverflowError", "ArithmeticError"] else if n = 14 then ["IndexError", "LookupError"] else if n = 15 then ["ArithmeticError"] else []) ++ ["Exception", "BaseException"]
def exIs (D : Nat) : Xc → Bool
  | .own C => (exUp D).contains C
  | .blt n => (exTy D).contains n
def dropX (ss : SS) : SS := ss.map fun y => match y with
  | .exc _ _ => .no
  | y => y
def exS (o : Option Nat) (ss : SS) (D : Nat) (l : List (Str × Dt)) : SS := match o with
  | none => ss
  | some i => (dropX ss).set i (.exc D l)
def noS (o : Option Nat) (ss : SS) : SS := match o with
  | none => ss
  | some i => (dropX ss).set i .no
def hdlW : List (Xc × Option Nat × SM) → (Oc → Prop) → SS → Nat → List (Str × Dt) → Prop
  | [], k, s, D, l => k (.ex s D l)
  | (h, o, suite) :: r, k, s, D, l => ifP (exIs D h) (suite (exS o s D l) (fun oc => match oc with
      | .nx s => k (.nx (noS o s))
      | .bk s => k (.bk (noS o s))
      | .ct s => k (.ct (noS o s))
      | .rt d => k (.rt d)
      | .ex _ _ _ => False)) (hdlW r k s D l)
def tryAW (xl : List Nat) (hs : List (Xc × Option Nat × SM)) (body : SM) : SM := fun ss k => body ss fun o => match o with
  | .nx s => k (.nx s)
  | .bk s => k (.bk s)
  | .ct s => k (.ct s)
  | .rt d => k (.rt d)
  | .ex s D l => xl.contains D = true ∧ hdlW hs k s D l
def MeetsX (c : Kc) (xl : List Nat) (h : Xc) : Prop := ∀ D ∈ xl, PySem.W.exmOne c.K (.ref (c.ca D)) (xcV c h) = some (exIs D h)
theorem meetsX_own {c : Kc} {xl : List Nat} {C : Nat} (h : Meets c xl C) : MeetsX c xl (.own C) := h
theorem dropX_get {ss : SS} {i : Nat} {y : Sd} (h : (dropX ss)[i]? = some y) : (ss[i]? = some y ∧ ∀ C l, y ≠ .exc C l) ∨ y = .no := by
  unfold dropX at h
  rw [List.getElem?_map] at h
  cases q : ss[i]? with
  | none => rw [q] at h; cases h
  | some z =>
    rw [q] at h
    cases z with
    | exc C l => cases h; exact .inr rfl
    | no => cases h; exact .inr rfl
    | dt d => cases h; exact .inl ⟨rfl, fun _ _ => Sd.noConfusion⟩
    | own d => cases h; exact .inl ⟨rfl, fun _ _ => Sd.noConfusion⟩
    | slf C l => cases h; exact .inl ⟨rfl, fun _ _ => Sd.noConfusion⟩
section
variable {c : Kc} {x y : Mx} {w : Option WX} {G H H0 : Hp} {σ : L2.St} {ss : SS}
theorem Sl.reX (h : Sl c x H0 G H σ ss) (hm : y.me = x.me) : Sl c y H0 G H σ (dropX ss) := by
  have go : ∀ {i : Nat} {d : Dt}, (dropX ss)[i]? = some (.own d) → ss[i]? = some (.own d) := fun {i d} z => by
    rcases dropX_get z with ⟨z, _⟩ | z
    · exact z
    · cases z
  have gs : ∀ {i C : Nat} {l : List (Str × Dt)}, (dropX ss)[i]? = some (.slf C l) → ss[i]? = some (.slf C l) := fun {i C l} z => by
    rcases dropX_get z with ⟨z, _⟩ | z
    · exact z
    · cases z
  refine ⟨⟨by rw [h.sv.len]; simp [dropX], fun i d z => ?_, fun i d z => h.sv.own i d (go z), fun i C l z => ?_, fun i C l z => ?_⟩, fun i d a z q => h.new i d a (go z) q, fun i j d e a z1 z2 q1 q2 => h.sep i j d e a (go z1) (go z2) q1 q2, fun i C l z => ?_, fun i j C l d z1 z2 => ?_, fun i j C D l m z1 z2 => h.me1 i j C D l m (gs z1) (gs z2)⟩
  · rcases dropX_get z with ⟨z, _⟩ | z
    · exact h.sv.dat i d z
    · cases z
  · rw [hm]; exact h.sv.slf i C l (gs z)
  · rcases dropX_get z with ⟨_, z⟩ | z
    · exact absurd rfl (z C l)
    · cases z
  · rw [hm]; exact h.me0 i C l (gs z)
  · rw [hm]; exact h.mes i j C l d (gs z1) (go z2)
theorem Sl.setX (h : Sl c x H0 G H σ ss) {j : Nat} {l : List (Str × Dt)} (q : XD c G x.xd l) : Sl c x H0 G H (σ.set j (some (.ref x.xa))) (ss.set j (.exc x.xc l)) := by
  refine h.other ⟨by simp [h.sv.len], fun i e z => ?_, fun i e z => ?_, fun i C l z => ?_, fun i C m z => ?_⟩ (fun _ => Sd.noConfusion) fun _ _ => Sd.noConfusion
  · rcases get_set' z with ⟨rfl, e1, b⟩ | ⟨z', e1⟩
    · cases e1
    · rw [List.getElem?_set_ne e1]; exact h.sv.dat i e z'
  · rcases get_set' z with ⟨rfl, e1, b⟩ | ⟨z', e1⟩
    · cases e1
    · rw [List.getElem?_set_ne e1]; exact h.sv.own i e z'
  · rcases get_set' z with ⟨rfl, e1, b⟩ | ⟨z', e1⟩
    · cases e1
    · rw [List.getElem?_set_ne e1]; exact h.sv.slf i C l z'
  · rcases get_set' z with ⟨rfl, e1, b⟩ | ⟨z', e1⟩
    · cases e1; exact ⟨⟨rfl, by rw [List.getElem?_set_self (by rw [h.sv.len]; exact b)]⟩, q⟩
    · rw [List.getElem?_set_ne e1]; exact h.sv.exc i C m z'
/-- the clauses keep their mirrors -/
inductive RHs (c : Kc) (x : Mx) (xl : List Nat) : List Hdl → List (Xc × Option Nat × SM) → Prop
  | nil : RHs c x xl [] []
  | only {h : Xc} {ts : Addr → Value → Option Addr → TS} {suite : SM} {l : List Hdl} {m : List (Xc × Option Nat × SM)} (hm : MeetsX c xl h) (hs : ∀ a cls d, RS c x none (ts a cls d) suite) (r : RHs c x xl l m) : RHs c x xl ((xcV c h, none, ts) :: l) ((h, none, suite) :: m)
  | as {h : Xc} {i : Nat} {ts : Addr → Value → Option Addr → TS} {suite : SM} {l : List Hdl} {m : List (Xc × Option Nat × SM)} (hm : MeetsX c xl h) (hs : ∀ a D d, RS c { x with xa := a, xd := d, xc := D } none (ts a (.ref (c.ca D)) d) suite) (r : RHs c x xl l m) : RHs c x xl ((xcV c h, some i, ts) :: l) ((h, some i, suite) :: m)
theorem hdl_ok {xl : List Nat} {l : List Hdl} {m : List (Xc × Option Nat × SM)} {k : Oc → Prop} {G0 H0 G' H' : Hp} {D : Ends} {σ' : L2.St} {s' : SS} {E : Nat} {fl : List (Str × Dt)} {od : Option Addr} (K : Kon c x w k G0 H0 D) (hE : E ∈ xl) (g' : Go c G0 H0 G' H') (l' : Sl c x H0 G' H' σ' s') (xd : XD c G' od fl) (hh : RHs c x xl l m) (h2 : hdlW m k s' E fl) :
    wAll c.K (w.getD wF) D l (.ref (c.ca E)) od σ' H' := by
  induction hh with
  | nil => exact K.ex σ' s' E fl od G' H' g' l' xd h2
  | @only h ts suite l m hm hs r ih =>
    refine ⟨_, hm E hE, fun hk a ha => ?_, fun hk => ?_⟩
    · have h2 : ifP (exIs E h) _ _ := h2
      rw [hk] at h2
      exact hs a _ od s' _ G0 H0 D σ' G' H' (ifP_t h2) ⟨K.nx, K.bk, K.ct, K.rt, fun _ _ _ _ _ _ _ _ _ _ z => z.elim⟩ g' l'
    · have h2 : ifP (exIs E h) _ _ := h2
      rw [hk] at h2
      exact ih (ifP_f h2)
  | @as h i ts suite l m hm hs r ih =>
    refine ⟨_, hm E hE, fun hk a ha => ?_, fun hk => ?_⟩
    · have h2 : ifP (exIs E h) _ _ := h2
      rw [hk] at h2
      have s1 : Sl c { x with xa := a, xd := od, xc := E } H0 G' H' σ' (dropX s') := l'.reX rfl
      have s2 := s1.setX (j := i) xd
      have bk : ∀ {σ4 : L2.St} {s4 : SS} {G4 H4 : Hp}, Sl c { x with xa := a, xd := od, xc := E } H0 G4 H4 σ4 s4 → Sl c x H0 G4 H4 (σ4.set i none) ((dropX s4).set i .no) := fun h4 => (Sl.reX (y := x) h4 rfl).forget
      refine hs a E od _ _ G0 H0 _ _ G' H' (ifP_t h2) ⟨fun σ4 s4 G4 H4 g4 l4 h4 => K.nx _ _ G4 H4 g4 (bk l4) h4, fun σ4 s4 G4 H4 g4 l4 h4 => K.bk _ _ G4 H4 g4 (bk l4) h4, fun σ4 s4 G4 H4 g4 l4 h4 => K.ct _ _ G4 H4 g4 (bk l4) h4, K.rt, fun _ _ _ _ _ _ _ _ _ _ z => z.elim⟩ g' s2
    · have h2 : ifP (exIs E h) _ _ := h2
      rw [hk] at h2
      exact ih (ifP_f h2)
theorem rs_tryA {xl : List Nat} {tb : WX → TS} {l : List Hdl} {m : List (Xc × Option Nat × SM)} {body : SM} (hb : ∀ W, RS c x (some W) (tb W) body) (hh : RHs c x xl l m) : RS c x w (tTryA c.K tb l (w.getD wF)) (tryAW xl m body) := fun ss k G0 H0 D σ G H mm K g s =>
  hb _ ss _ G0 H0 D σ G H mm ⟨K.nx, K.bk, K.ct, K.rt, fun σ' s' E fl od G' H' g' l' xd z => hdl_ok K (by simpa using z.1) g' l' xd hh z.2⟩ g s
/-! ### e.f, isinstance(e, C): e the exception that is handled -/
def xfW (C i : Nat) (f : Str) : EM := fun ss R _ => match ss[i]? with
  | some (.exc D l) => D = C ∧ ∃ d, l.lookup f = some d ∧ R d
  | _ => False
theorem re_xf {C i : Nat} {f : Str} : RE c x w (tXf x.xa (.ref (c.ca x.xc)) x.xd (c.ca C) f (tVar i)) (xfW C i f) := fun ss R X G σ H mm e s Q q z => by
  unfold xfW at mm
  split at mm
  · rename_i D l hs
    obtain ⟨rfl, d, h1, h2⟩ := mm
    obtain ⟨⟨rfl, h3⟩, h4⟩ := s.exc i D l hs
    rcases h4 with ⟨_, rfl⟩ | ⟨dx, fs, hx, _, hg, hf⟩
    · cases h1
    · obtain ⟨u, hu, du⟩ := hf.lookup h1
      exact ⟨_, h3, rfl, rfl, dx, fs, u, hx, e _ _ hg, hu, q u d G H (Go.refl e) du h2⟩
  · exact mm.elim
/-- which classes' instances may be asked -/
def Kits (c : Kc) (xl : List Nat) (h : Xc) : Prop := ∀ D ∈ xl, ExcC c.K (c.ca D) ∧ PySem.W.kitOne c.K (.ref (c.ca D)) (xcV c h) = some (exIs D h)
def xcW (c : Kc) : Xc → V
  | .own C => .ref (c.ca C)
  | .blt n => .ty n
theorem xcW_ok {h : Xc} {u : Value} (r : RelV (xcW c h) u) : u = xcV c h := by
  cases h with
  | own C => exact r
  | blt n => exact r
def rIsX (c : Kc) (a : Addr) (cls : Value) (d : Option Addr) : List V → Hp → VK → Prop := fun xs H Q => ∃ (D : Nat) (h : Xc), cls = .ref (c.ca D) ∧ d = none ∧ ExcC c.K (c.ca D) ∧ xs = [.ref a, xcW c h] ∧ PySem.W.kitOne c.K (.ref (c.ca D)) (xcV c h) = some (exIs D h) ∧ Q (.bl (exIs D h)) H
theorem call_isX {X : Cx} {a : Addr} {oe : Obj} {cls : Value} {d : Option Addr} {pn : List (Addr × Obj)} (hK : X.K = c.K) (hz : Zc cls d oe) (hf : ∃ vs, oe.data = .fields vs) : CallR (X.suite a ((a, oe) :: pn)) (.builtin "isinstance") (rIsX c a cls d) := by
  intro pins s σ H xs us Q I r h
  obtain ⟨D, h, rfl, rfl, hE, rfl, hk, q⟩ := h
  rw [← hK] at hE hk
  exact call_isE (X := X) (pn := pn) hE hz hf pins s σ H [.ref a, xcW c h] us Q I r ⟨xcW c h, xcV c h, exIs D h, rfl, fun u ru => xcW_ok ru, hk, q⟩
def isXW (xl : List Nat) (i : Nat) (h : Xc) : EM := fun ss R _ => match ss[i]? with
  | some (.exc D []) => xl.contains D = true ∧ R (.bl (exIs D h))
  | _ => False
theorem re_isX {xl : List Nat} {i : Nat} {h : Xc} {v : V} (hv : v = xcW c h) (hk : Kits c xl h) : RE c x w (tCB (rIsX c x.xa (.ref (c.ca x.xc)) x.xd) (tCons (tVar i) (tCons (tC v) tNil))) (isXW xl i h) := fun ss R X G σ H mm e s Q q z => by
  subst hv
  unfold isXW at mm
  split at mm
  · rename_i D hs
    obtain ⟨h1, h2⟩ := mm
    obtain ⟨⟨rfl, h3⟩, h4⟩ := s.exc i D [] hs
    obtain ⟨hE, hk⟩ := hk x.xc (by simpa using h1)
    rcases h4 with ⟨h5, _⟩ | ⟨_, _, _, n, _⟩
    · exact ⟨_, h3, x.xc, h, rfl, h5, hE, rfl, hk, q _ (.bl _) G H (Go.refl e) rfl h2⟩
    · exact absurd rfl n
  · exact mm.elim
theorem pe_xfX {X : Cx} {P : Program} {mg : Str → Option Value} {base : Heap} {C a : Addr} {oe : Obj} {cls : Value} {d : Option Addr} {pn : List (Addr × Obj)} {i : Nat} {e : Expr} {pos : Pos} {n : Str} (T : XfC c.K C) (hX : At X P c mg base) (hno : PySem.W.findIn c.K (.ref C) n = some none)
    (hz : Zc cls d oe) (hf : ∃ vs, oe.data = .fields vs) (he : PE (X.suite a ((a, oe) :: pn)) e (tVar i)) (hb : attributeBase e n X.env (eval e X.env) = eval e X.env := by rfl) :
    PE (X.suite a ((a, oe) :: pn)) (.Attribute e n pos) (tXf a cls d C n (tVar i)) := by
  rw [← hX.K] at T hno
  exact pe_xf T hno hz hf he hb
end
end Mw

set_option Elab.async false
set_option linter.all false
set_option maxRecDepth 100000
set_option maxHeartbeats 4000000
namespace Mw
open PySem PySem.Spec PyProof.Rows L2
/-! ### another floor -/
def Kc.at (c : Kc) (F : Hp) : Kc := { c with fl := F }
section
variable {c : Kc} {F G H G' H' : Hp}
mutual
theorem dat_fl : ∀ {d : Dt} {v : V}, Dat (c.at F) G d v → Dat c G d v
  | .non, _, h => h
  | .bl _, _, h => h
  | .int _, _, h => h
  | .str _, _, h => h
  | .ty _, _, h => h
  | .cls _, _, h => h
  | .adr _, _, h => h
  | .lst _, _, ⟨a, xs, h1, h2, h3⟩ => ⟨a, xs, h1, h2, dats_fl h3⟩
  | .sq _, _, ⟨a, xs, h1, h2, h3⟩ => ⟨a, xs, h1, h2, dats_fl h3⟩
  | .tup _, _, ⟨a, xs, h1, h2, h3⟩ => ⟨a, xs, h1, h2, dats_fl h3⟩
  | .dic _, _, ⟨a, o, xs, h1, h2, h3⟩ => ⟨a, o, xs, h1, h2, datk_fl h3⟩
  | .dit _, _, ⟨a, o, xs, h1, h2, h3⟩ => ⟨a, o, xs, h1, h2, datt_fl h3⟩
  | .set _, _, h => h
  | .ins _ _, _, ⟨a, dx, fs, h1, h2, h4, h3⟩ => ⟨a, dx, fs, h1, h2, h4, datf_fl h3⟩
  | .dice, _, h => h
theorem dats_fl : ∀ {l : List Dt} {xs : List V}, Dats (c.at F) G l xs → Dats c G l xs
  | [], _, h => h
  | _ :: _, _, ⟨x, r, h1, h2, h3⟩ => ⟨x, r, h1, dat_fl h2, dats_fl h3⟩
theorem datk_fl : ∀ {l : List (Key × Dt)} {xs : List (Key × V)}, Datk (c.at F) G l xs → Datk c G l xs
  | [], _, h => h
  | (_, _) :: _, _, ⟨x, r, h1, h2, h3⟩ => ⟨x, r, h1, dat_fl h2, datk_fl h3⟩
theorem datt_fl : ∀ {l : List (List Key × Dt)} {xs : List (List Key × V)}, Datt (c.at F) G l xs → Datt c G l xs
  | [], _, h => h
  | (_, _) :: _, _, ⟨x, r, h1, h2, h3⟩ => ⟨x, r, h1, dat_fl h2, datt_fl h3⟩
theorem datf_fl : ∀ {l : List (Str × Dt)} {xs : List (Str × V)}, Datf (c.at F) G l xs → Datf c G l xs
  | [], _, h => h
  | (_, _) :: _, _, ⟨x, r, h1, h2, h3⟩ => ⟨x, r, h1, dat_fl h2, datf_fl h3⟩
end
mutual
theorem fl_dat : ∀ {d : Dt} {v : V}, Dat c G d v → Dat (c.at F) G d v
  | .non, _, h => h
  | .bl _, _, h => h
  | .int _, _, h => h
  | .str _, _, h => h
  | .ty _, _, h => h
  | .cls _, _, h => h
  | .adr _, _, h => h
  | .lst _, _, ⟨a, xs, h1, h2, h3⟩ => ⟨a, xs, h1, h2, fl_dats h3⟩
  | .sq _, _, ⟨a, xs, h1, h2, h3⟩ => ⟨a, xs, h1, h2, fl_dats h3⟩
  | .tup _, _, ⟨a, xs, h1, h2, h3⟩ => ⟨a, xs, h1, h2, fl_dats h3⟩
  | .dic _, _, ⟨a, o, xs, h1, h2, h3⟩ => ⟨a, o, xs, h1, h2, fl_datk h3⟩
  | .dit _, _, ⟨a, o, xs, h1, h2, h3⟩ => ⟨a, o, xs, h1, h2, fl_datt h3⟩
  | .set _, _, h => h
  | .ins _ _, _, ⟨a, dx, fs, h1, h2, h4, h3⟩ => ⟨a, dx, fs, h1, h2, h4, fl_datf h3⟩
  | .dice, _, h => h
theorem fl_dats : ∀ {l : List Dt} {xs : List V}, Dats c G l xs → Dats (c.at F) G l xs
  | [], _, h => h
  | _ :: _, _, ⟨x, r, h1, h2, h3⟩ => ⟨x, r, h1, fl_dat h2, fl_dats h3⟩
theorem fl_datk : ∀ {l : List (Key × Dt)} {xs : List (Key × V)}, Datk c G l xs → Datk (c.at F) G l xs
  | [], _, h => h
  | (_, _) :: _, _, ⟨x, r, h1, h2, h3⟩ => ⟨x, r, h1, fl_dat h2, fl_datk h3⟩
theorem fl_datt : ∀ {l : List (List Key × Dt)} {xs : List (List Key × V)}, Datt c G l xs → Datt (c.at F) G l xs
  | [], _, h => h
  | (_, _) :: _, _, ⟨x, r, h1, h2, h3⟩ => ⟨x, r, h1, fl_dat h2, fl_datt h3⟩
theorem fl_datf : ∀ {l : List (Str × Dt)} {xs : List (Str × V)}, Datf c G l xs → Datf (c.at F) G l xs
  | [], _, h => h
  | (_, _) :: _, _, ⟨x, r, h1, h2, h3⟩ => ⟨x, r, h1, fl_dat h2, fl_datf h3⟩
end
theorem at_xd {od : Option Addr} {l : List (Str × Dt)} (h : XD c G od l) : XD (c.at F) G od l := by
  rcases h with h | ⟨dx, fs, h1, h0, h2, h3⟩
  · exact .inl h
  · exact .inr ⟨dx, fs, h1, h0, h2, fl_datf h3⟩
theorem at_in (e : In c G H) (h : Ex F G) : In (c.at F) G H := ⟨e.ex, e.nt, e.tb, h⟩
theorem in_at (e : In (c.at F) G H) (h : Ex c.fl F) : In c G H := ⟨e.ex, e.nt, e.tb, h.trans e.fl⟩
theorem at_go (g : Go c G H G' H') (h : Ex F G) : Go (c.at F) G H G' H' := ⟨g.kn, g.nw, at_in g.ink (h.trans g.kn), g.up⟩
end
/-! ### lambdas -/
abbrev LM := (Dt → Prop) → Xn → Prop
/-- a lambda's reading keeps its mirror wherever the floor stands -/
def LamOk (c : Kc) (tl : XK → Hp → VK → Prop) (m : LM) : Prop := ∀ (R : Dt → Prop) (X : Xn) (G H : Hp) (E : XK) (Q : VK), m R X → In c G H → (∀ v d G' H', Go c G H G' H' → Dat c G' d v → R d → Q v H') → (∀ C l od G' H', Go c G H G' H' → XD c G' od l → X C l → E (.ref (c.ca C)) od H') → tl E H Q
def actW (f : Addr) (m : LM) : EM := fun ss R X => ss[0]? = some (.dt (.adr f)) ∧ m R X
def tAct (f c' : Addr) (q : Str) (tl : XK → Hp → VK → Prop) (W : WX) : TE := fun σ H Q => σ[0]? = some (some (.ref f)) ∧ H c' = some (LamX.CodeO c' q) ∧ tl (WE W σ) H Q
theorem re_act {c : Kc} {x : Mx} {W : WX} {f c' : Addr} {q : Str} {tl : XK → Hp → VK → Prop} {m : LM} (hc : c.fl c' = some (LamX.CodeO c' q)) (hl : LamOk c tl m) : RE c x (some W) (tAct f c' q tl W) (actW f m) := fun ss R X G σ H mm e s Q k z => by
  obtain ⟨h1, h2⟩ := mm
  obtain ⟨v, h3, h4⟩ := s.dat 0 _ h1
  cases h4
  exact ⟨h3, e _ _ (e.fl _ _ hc), hl R X G H _ Q h2 e k fun C l od G' H' g xd hx => z C l od G' H' g xd hx⟩
/-- the slots that hold data -/
def calmS (ss : SS) : SS := ss.map fun y => match y with
  | .dt d => .dt d
  | _ => .no
theorem calmS_get {ss : SS} {i : Nat} {y : Sd} (h : (calmS ss)[i]? = some y) : (∃ d, y = .dt d ∧ ss[i]? = some (.dt d)) ∨ y = .no := by
  unfold calmS at h
  rw [List.getElem?_map] at h
  cases q : ss[i]? with
  | none => rw [q] at h; cases h
  | some z =>
    rw [q] at h
    cases z with
    | dt d => cases h; exact .inl ⟨d, rfl, rfl⟩
    | _ => cases h; exact .inr rfl
theorem Sv.calm {c : Kc} {x y : Mx} {G H G' H' : Hp} {σ : L2.St} {ss : SS} (h : Sv c x G H σ ss) (e : Ex G G') : Sv c y G' H' σ (calmS ss) := by
  refine ⟨by rw [h.len]; simp [calmS], fun i d z => ?_, fun i d z => ?_, fun i C l z => ?_, fun i C l z => ?_⟩
  · rcases calmS_get z with ⟨d', e1, z⟩ | z
    · cases e1
      obtain ⟨v, h1, h2⟩ := h.dat i d z
      exact ⟨v, h1, h2.up e⟩
    · cases z
  · rcases calmS_get z with ⟨d', e1, _⟩ | z
    · cases e1
    · cases z
  · rcases calmS_get z with ⟨d', e1, _⟩ | z
    · cases e1
    · cases z
  · rcases calmS_get z with ⟨d', e1, _⟩ | z
    · cases e1
    · cases z
/-- what the making of a lambda does: nothing to what is tracked, or its table grows by a new code object -/
def LExt (H H1 : Hp) : Prop := H1 = H ∨ ∃ (P c' : Addr) (ps more : Array Value) (q : Str), H P = some (.tbl ps) ∧ H c' = none ∧ H1 = upd (upd H P (.tbl (ps ++ more))) c' (LamX.CodeO c' q)
theorem LExt.up {H H1 : Hp} (h : LExt H H1) : Up H H1 := by
  rcases h with rfl | ⟨P, c', ps, more, q, h1, h2, rfl⟩
  · exact Up.refl _
  · refine ⟨fun a o z n => ?_, fun a qs z => ?_⟩
    · rw [upd_ne (ne_of_none z h2), upd_ne (fun e => by subst e; rw [h1] at z; exact n ps (Option.some.inj z).symm)]; exact z
    · rw [upd_ne (ne_of_none z h2)]
      by_cases e : a = P
      · subst e; exact ⟨_, upd_same⟩
      · rw [upd_ne e]; exact ⟨qs, z⟩
/-- the callee of a lambda, wished for at its own slots -/
def GivesX (X : Cx) (c : Kc) (Ng : List Str) (x : Str) (sg : Scope) (g : Addr) (cdg : Value) (bg : List Stmt) (a q : Str) (B : Addr → LM → SM) : Prop :=
  ∀ (f c' : Addr) (s : Shared) (H : Hp) (tl : XK → Hp → VK → Prop),
    (∀ (W : WX) (pn : List (Addr × Obj)) (xe : Value → Shared → Prop) (p1 p2 : Pos), Takes ((cxOf CX0 X.prog X.w X.K X.mg X.base Ng x sg g cdg X.A X.stack s H E0).tr pn xe) W →
      PE ((cxOf CX0 X.prog X.w X.K X.mg X.base Ng x sg g cdg X.A X.stack s H E0).tr pn xe) (.Call (.Name a p1) [] [] p2) (tAct f c' q tl W)) →
    ∃ t, PSs (cxOf CX0 X.prog X.w X.K X.mg X.base Ng x sg g cdg X.A X.stack s H E0).nox bg t ∧ ∀ (F : Hp) (m : LM), F c' = some (LamX.CodeO c' q) → LamOk (c.at F) tl m → RS (c.at F) {} none t (B f m)
/-- x(lambda: e) -/
def lamW (n : Nat) (B : Addr → LM → SM) (body : EM) : EM := fun ss R _ => ∀ f, B f (fun R' X' => body (calmS ss) R' X') (startS n [.adr f]) (endO (fun d => (flD d).isSome = true ∧ R d) xF)
def tLm (c : Kc) (n : Nat) (B : Addr → LM → SM) (t : XK → TE) : TE := fun σ H Q => LamX.Tabs c.tb H ∧ ∀ H1, LExt H H1 → LamX.Tabs c.tb H1 → ∃ (m : LM) (R : Dt → Prop), (∃ G, In c G H1) ∧ LamOk (c.at (noTb H1)) (fun E H' Q' => t E σ H' Q') m ∧ (∀ f, B f m (startS n [.adr f]) (endO R xF)) ∧
  ∀ v d G' H', Go (c.at (noTb H1)) (noTb H1) H1 G' H' → Dat (c.at (noTb H1)) G' d v → R d → Q v H'
theorem re_lam {c : Kc} {x : Mx} {w : Option WX} {n : Nat} {B : Addr → LM → SM} {t : XK → TE} {body : EM} (hb : ∀ E, RE c {} (wE E) (t E) body) : RE c x w (tLm c n B t) (lamW n B body) := fun ss R X G σ H mm e s Q q z => by
  refine ⟨e.tb, fun H1 lx T1 => ?_⟩
  have up := lx.up
  have ex1 : Ex G H1 := fun a o h => up.st a o (e _ _ h) fun ps z => by subst z; exact e.nt a ps h
  have e1 : In c G H1 := ⟨ex1, e.nt, T1, e.fl⟩
  have gF : Ex G (noTb H1) := noTb_up e1
  refine ⟨fun R' X' => body (calmS ss) R' X', fun d => (flD d).isSome = true ∧ R d, ⟨G, e1⟩, fun R' X' G1 H' E Q' hm e2 k kx => ?_, mm, fun v d G' H' g hd hr => ?_⟩
  · have e3 : In c G1 H' := in_at e2 (e.fl.trans gF)
    refine hb E (calmS ss) R' X' G1 σ H' hm e3 (s.calm (gF.trans e2.fl)) Q' (fun v d G2 H2 g2 d2 hr => k v d G2 H2 (at_go g2 e2.fl) (fl_dat d2) hr) fun C l od G2 H2 g2 xd hx => kx C l od G2 H2 (at_go g2 e2.fl) (at_xd xd) hx
  · obtain ⟨hf, hr⟩ := hr
    have hd' : Dat c G d v := by
      cases d with
      | non => exact hd
      | bl _ => exact hd
      | int _ => exact hd
      | str _ => exact hd
      | _ => cases hf
    refine q v d G H' ⟨Same.refl G, fun _ _ h _ _ => h, ⟨gF.trans (g.kn.trans g.ink.ex), e.nt, g.ink.tb, e.fl⟩, up.trans g.up⟩ hd' hr
end Mw

set_option Elab.async false
set_option linter.all false
set_option maxRecDepth 100000
set_option maxHeartbeats 4000000
namespace Mw
open PySem PySem.Spec PyProof.Rows L2 LamX
section
variable {X : Cx} {pins : List (Addr × Obj)} {σ : L2.St} {H : Hp} {s : Shared}
/-- the lambda is made: as lam_make2, told what becomes of what is tracked -/
theorem lam_makeX {T : List (Addr × Str)} {c P : Addr} {params : Arguments} {body : Expr} {scope : Scope} {pos : Pos} {E : Value → Shared → Prop} {Q : Value → Shared → Prop} (I : Inv X pins σ H s) (TB : TabB X.base X.mg c P) (hcode : X.env.code = .ref c)
    (hm : (P, X.env.qual ++ "<lambda>") ∈ T) (hu : ∀ p ∈ T, p.1 = P → p.2 = X.env.qual ++ "<lambda>") (hT : Tabs T H) (hdef : defaultsOf params X.env = ([], [])) (hfree : ∀ y ∈ scope.names, y.2 = .free → ∃ c, X.env.cells.lookup y.1 = some c)
    (h : ∀ (f c' : Addr) (pm ctv : Value) (H1 : Hp) (s' : Shared), Inv X pins σ H1 s' → LExt H H1 → Tabs T H1 →
      s'.heap.get? f = some (PySem.W.kla_obj "<lambda>" (X.env.qual ++ "<lambda>") params body scope (cloFrom X.env.cells scope.names []) pm c' ctv) → H1 f = none → f ∉ frs X.stack → H1 c' = some (CodeO c' (X.env.qual ++ "<lambda>")) → Q (.ref f) s') :
    wpAny (model X.prog X.w) X.A (eval (.Lambda params body scope pos) X.env) Q E s := by
  obtain ⟨ps, hP, ht, ha⟩ := hT _ hm
  refine PySem.W.kla_eval hdef ?_
  have bP : s.heap.BuiltinsAt X.mg P := TB.bm.keeps I.bk
  have hP' : s.heap.get? P = some { cls := .none, data := .fields ps } := I.hok P _ hP
  have nofr : ∀ f, s.heap.objs.size ≤ f → f ∉ frs X.stack := fun f hf z => by
    rcases List.mem_cons.mp (I.stkSub _ z) with e | e
    · have h1 := I.lt
      rw [← e] at h1
      exact Nat.lt_irrefl _ (Nat.lt_of_lt_of_le h1 hf)
    · exact I.nofs hf e
  cases hc : codeAmong pos ps.toList with
  | none =>
    refine PySem.W.kla_makeFunction (mg := X.mg) (c := c) (P := P) (ps := ps) (closure_ok hfree) I.ok.glob (I.mod.glob.keeps I.bk) hcode (TB.code.keeps I.bk) hP' ht hc TB.gP bP fun c' ctv h' tk hx hge hlt hrec htb => ?_
    obtain ⟨c2, oc, vs, t, e2, hoc, hd, hv⟩ := hrec
    cases e2
    have hsz : s.heap.objs.size ≤ h'.objs.size := Nat.le_trans hge (Nat.le_of_lt hlt)
    have nC : H c' = none := I.hok.fresh hge
    have I1 := inv_table (t' := tk) (more := #[rawInt pos.line, rawInt pos.col, .ref c']) (h' := h'.push (PySem.W.kla_obj "<lambda>" (X.env.qual ++ "<lambda>") params body scope (cloFrom X.env.cells scope.names []) ((X.mg "__name__").getD .none) c' ctv)) I hP
      (fun b o hb e => Heap.get?_push_of_some _ (hx b o hb e)) (Heap.get?_push_of_some _ htb) hge ⟨oc, vs, t, Heap.get?_push_of_some _ hoc, hd, hv⟩
    have lx : LExt H (upd (upd H P (.tbl (ps ++ #[rawInt pos.line, rawInt pos.col, .ref c']))) c' (CodeO c' (X.env.qual ++ "<lambda>"))) := .inr ⟨P, c', ps, _, _, hP, nC, rfl⟩
    have eL : (ps ++ #[rawInt pos.line, rawInt pos.col, .ref c']).toList = ps.toList ++ [rawInt pos.line, rawInt pos.col, .ref c'] := by simp
    refine h h'.objs.size c' ((X.mg "__name__").getD .none) ctv _ _ I1 lx (fun p hp => ?_) (Heap.get?_push_size _ rfl) ?_ (nofr _ hsz) upd_same
    · by_cases hb : p.1 = P
      · rw [hu p hp hb, hb]
        refine ⟨_, by rw [upd_ne (ne_of_none hP nC), upd_same], by rw [eL]; exact PySem.TriplesOk_snoc _ _ _ _ ht, fun p' cv hcv => ?_⟩
        rw [eL] at hcv
        rcases among_app _ ht hcv with z | z
        · obtain ⟨c0, e1, e2⟩ := ha p' cv z
          exact ⟨c0, e1, lx.up.st _ _ e2 codeO_ne⟩
        · exact ⟨c', z, upd_same⟩
      · obtain ⟨ps', a1, a2, a3⟩ := hT p hp
        refine ⟨ps', by rw [upd_ne (ne_of_none a1 nC), upd_ne hb]; exact a1, a2, fun p' cv hcv => ?_⟩
        obtain ⟨c0, e1, e2⟩ := a3 p' cv hcv
        exact ⟨c0, e1, lx.up.st _ _ e2 codeO_ne⟩
    · have n1 : h'.objs.size ≠ c' := Nat.ne_of_gt hlt
      have n2 : h'.objs.size ≠ P := Nat.ne_of_gt (Nat.lt_of_lt_of_le (Heap.lt_size hP') hsz)
      rw [upd_ne n1, upd_ne n2]
      exact I.hok.fresh hsz
  | some cv =>
    obtain ⟨c', e, hco⟩ := ha pos cv hc
    subst e
    refine PySem.W.kla_makeFunctionHit (mg := X.mg) (c := c) (P := P) (ps := ps) (closure_ok hfree) I.ok.glob (I.mod.glob.keeps I.bk) hcode (TB.code.keeps I.bk) hP' ht hc bP fun ctv h' tk hx hsz => ?_
    have I1 : Inv X pins σ H { s with heap := h'.push (PySem.W.kla_obj "<lambda>" (X.env.qual ++ "<lambda>") params body scope (cloFrom X.env.cells scope.names []) ((X.mg "__name__").getD .none) c' ctv), toks := tk } := I.kept fun b o e => Heap.get?_push_of_some _ (hx b o e)
    exact h h'.objs.size c' ((X.mg "__name__").getD .none) ctv H _ I1 (.inl rfl) hT (Heap.get?_push_size _ rfl) (I.hok.fresh hsz) (nofr _ hsz) hco
end
section
variable {X : Cx} {pins : List (Addr × Obj)} {σ : L2.St} {H : Hp} {s : Shared}
/-- a(), in the def that got the lambda: as pe_act, wished for at that def's slots -/
theorem pe_actX {CXg : CXT} {Eg : XK} {Ng : List Str} {qg : Str} {sg : Scope} {g f c' : Addr} {cdg pm ctv : Value} {params : Arguments} {body : Expr} {scope : Scope} {k : Nat} {a : Str} {pn : List (Addr × Obj)} {xe : Value → Shared → Prop} {W : WX} {t : XK → TE} {p1 p2 : Pos}
    (I : Inv X pins σ H s) (L : LamS X.env.scope scope) (hf : s.heap.get? f = some (PySem.W.kla_obj "<lambda>" (X.env.qual ++ "<lambda>") params body scope (cloFrom X.env.cells scope.names []) pm c' ctv)) (hfn : H f = none) (hfr : f ∉ frs X.stack)
    (hbind : bindArgs (PySem.W.kla_fn "<lambda>" (X.env.qual ++ "<lambda>") params body scope (cloFrom X.env.cells scope.names []) pm (.ref c') ctv) ⟨[], []⟩ = pure [])
    (tk : Takes ((cxOf CXg X.prog X.w X.K X.mg X.base Ng qg sg g cdg X.A X.stack s H Eg).tr pn xe) W) (hr : Room (k + 1) (X.A.deeper (envOfC qg sg s.heap.objs.size g cdg)))
    (hbody : ∀ (A : Around) (outer : List Env) (s : Shared) (H : Hp) (E : XK), Room k (A.deeper (lamEnv X scope s.heap.objs.size f c')) → PE (lamCx X A outer s H E scope f c') body (t E))
    (hN : Ng[0]? = some a) (hv : Vis sg a) (hd : (a == ("__debug__" : Str)) = false := by decide) (hcd : (a == ("__classdict__" : Str)) = false := by decide) :
    PE ((cxOf CXg X.prog X.w X.K X.mg X.base Ng qg sg g cdg X.A X.stack s H Eg).tr pn xe) (.Call (.Name a p1) [] [] p2) (tAct f c' (X.env.qual ++ "<lambda>") (fun E H' Q' => t E σ H' Q') W) := by
  refine ⟨fun pinsZ sZ σZ HZ Q IZ h => ?_⟩
  obtain ⟨hs, hc, ht⟩ := h
  refine wpAny_Call_Name_kw (thn ((pe_var (pos := p1) (i := 0) hN hv hd hcd).run pinsZ sZ σZ HZ (fun v H1 => v = .ref f ∧ H1 = HZ) IZ ⟨.ref f, hs, rfl, rfl⟩) fun u s1 ⟨v, H1, I1, r1, q1⟩ => ?_)
  obtain ⟨ev, eH⟩ := q1
  subst ev
  rw [eH] at I1
  obtain rfl : u = Value.ref f := r1
  have of1 : s1.heap.get? f = some (PySem.W.kla_obj "<lambda>" (X.env.qual ++ "<lambda>") params body scope (cloFrom X.env.cells scope.names []) pm c' ctv) := I1.base.keep f _ hf hfn hfr (fun z => nomatch (show f ∈ ([] : List Addr) from z))
  refine PySem.W.callWith_F0 ⟨_, _, _, _, of1⟩ ?_
  have un : Un (frs X.stack) [] H HZ s.heap s1.heap := I1.base
  obtain ⟨⟨oc, vs, tt, hoc, hdc, hvc⟩, _, _⟩ := I1.hok c' _ hc
  have rc : codeAny (model X.prog X.w) (X.A.deeper (envOfC qg sg s.heap.objs.size g cdg)) (.call (.ref f) ⟨[], []⟩) (CR (L2.CX X.prog X.w) (envOfC qg sg s.heap.objs.size g cdg :: X.stack) X.prog X.w HZ s1 Q (WE W σZ)) s1 := by
    refine PySem.W.kla_callFunE hr.depth of1 rfl L.co L.gen rfl ⟨c', oc, vs, tt, rfl, hoc, hdc, hvc⟩ ?_
    rw [hbind]
    refine wpAny_pure (wpAny_newFunctionEnv (fun y hy => (L.own y hy).2) (fun y hy => absurd hy (by simp)) (fun h₁ hns hsb => ⟨I1.nolimit.fresh _ hsb, ?_⟩) L.kind)
    show codeAny _ _ (.expr body (lamEnv X scope s1.heap.objs.size f c')) _ _
    have kp : ∀ b o, s1.heap.get? b = some o → h₁.get? b = some o := fun b o e => hsb.extBut b o (Nat.ne_of_lt (Heap.lt_size e)) (Heap.get?_push_of_some _ e)
    have J : Inv (lamCx X (X.A.deeper (envOfC qg sg s.heap.objs.size g cdg)) (envOfC qg sg s.heap.objs.size g cdg :: X.stack) s1 HZ (WE W σZ) scope f c') [] σ HZ { s1 with heap := h₁, toks := s1.toks + ([] : List (Str × Value)).length } :=
      lam_start2 I L I1.env0 hr.hd un hns kp
    refine PySem.W.kla_codeExpr (wpAny_mono ((hbody _ _ s1 HZ (WE W σZ) (hr.deeper _)).run [] _ _ HZ Q J ht) (fun v s' hq => ?_) fun e s' hq => hq)
    obtain ⟨w', H', J', rv, q⟩ := hq
    exact ⟨w', H', J'.os, J'.bare, J'.base, J'.hok, rv, q⟩
  refine wpAny_call (codeAny_mono rc fun r s' hq => ?_)
  cases r with
  | error e => exact passAt tk σZ pinsZ HZ s1 e s' I1 hq
  | ok fl =>
    cases fl with
    | ret u => exact I1.after hq
    | next => exact False.elim hq
    | brk => exact False.elim hq
    | cont => exact False.elim hq
end
end Mw

set_option Elab.async false
set_option linter.all false
set_option maxRecDepth 100000
set_option maxHeartbeats 4000000
namespace Mw
open PySem PySem.Spec PyProof.Rows L2 LamX
section
variable {X : Cx} {P : Program} {c : Kc} {mg : Str → Option Value} {base : Heap}
/-- x(lambda: body): x a def of the text of one parameter that calls it; B its mirror -/
theorem pe_lam {x a : Str} {st : Stmt} {cA tA : Addr} {k n : Nat} {B : Addr → LM → SM} {Ng : List Str} {params : Arguments} {body : Expr} {scope : Scope} {t : XK → TE} {p lpos pos : Pos} (hX : At X P c mg base) (hg : Gl X x) (F : Df c.K mg x st [a]) (Sg : FnScope Ng [a] (defScope st)) (hn : n = Ng.length) (hNg : Ng[0]? = some a) (hva : Vis (defScope st) a)
    (hG : ∀ (g : Addr) (cdv : Value), GivesX X c Ng x (defScope st) g cdv (defBody st) a (X.env.qual ++ "<lambda>") B)
    (TB : TabB base mg cA tA) (hcode : X.env.code = .ref cA) (hmT : (tA, X.env.qual ++ "<lambda>") ∈ c.tb) (hu : ∀ p ∈ c.tb, p.1 = tA → p.2 = X.env.qual ++ "<lambda>") (hr : Room (k + 2) X.A) (L : LamS X.env.scope scope) (hdef : defaultsOf params X.env = ([], []))
    (hbind : ∀ (q : Str) (cl : List (Str × Addr)) (pm cv ctv : Value), bindArgs (PySem.W.kla_fn "<lambda>" q params body scope cl pm cv ctv) ⟨[], []⟩ = pure [])
    (hbody : ∀ (A : Around) (outer : List Env) (s : Shared) (H : Hp) (E : XK) (f c' : Addr), Room k (A.deeper (lamEnv X scope s.heap.objs.size f c')) → PE (lamCx X A outer s H E scope f c') body (t E))
    (hdb : (x == ("__debug__" : Str)) = false := by decide) (hd : (a == ("__debug__" : Str)) = false := by decide) (hcd : (a == ("__classdict__" : Str)) = false := by decide) :
    PE X (.Call (.Name x p) [.Lambda params body scope lpos] [] pos) (tLm c n B t) := by
  subst hn
  obtain ⟨g, fd, Fn, hb, hm⟩ := F
  have hk := Fn.kp
  obtain ⟨oc, od, kV, doc, pm, an, cdv, ct, osl, rfl, lk, hcg⟩ := Fn.ex
  rw [← hX.K] at hb hk lk hcg
  rw [← hX.mg] at hm TB
  rw [← hX.b] at TB
  refine ⟨fun pins s σ H Q I h => ?_⟩
  obtain ⟨hT, h⟩ := h
  refine wpAny_Call_Name_kw (ld_glob I hg hm ?_ hdb)
  refine PySem.W.callWith_K (h₀ := X.base) I.ok.mod.kin hk ?_ (by rfl) (by rfl)
  show wpAny _ _ (spliced ((false, eval (.Lambda params body scope lpos) X.env) :: backTo pos (starEach [] X.env))) _ _ s
  refine Calls.spliced_cons (lam_makeX I TB hcode hmT hu hT hdef (L.has I.ok) fun f c' pm' ctv H1 s' I1 eN T1 hf hfn hfr hco => ?_)
  refine Calls.spliced_nil ⟨I1.kIn, ?_⟩
  have rc : codeAny (model X.prog X.w) X.A (.call (.ref g) ⟨[.ref f], []⟩) (CR CX0 X.stack X.prog X.w H1 s' Q E0) s' := by
    refine run_ofS (N := Ng) (ps := [a]) (us := [.ref f]) (vs := [.ref f]) lk hcg Sg hr I1.env0 (hb s' [.ref f] I1.kIn rfl) (.cons rfl .nil) rfl fun hr' => ?_
    obtain ⟨m, R, ⟨G, e1⟩, hl, hB, hq⟩ := h H1 eN T1
    obtain ⟨t', ht', hs'⟩ := hG g cdv f c' s' H1 (fun E H' Q' => t E σ H' Q') (fun W pn xe p1 p2 tk => pe_actX I1 L hf hfn hfr (hbind _ _ _ _ _) tk hr' (fun A outer s H E hr2 => hbody A outer s H E f c' hr2) hNg hva hd hcd)
    refine ⟨t', ht'.nox, ?_⟩
    have eF : In (c.at (noTb H1)) (noTb H1) H1 := at_in (noTb_in e1) (Same.refl _)
    have hF : noTb H1 c' = some (CodeO c' (X.env.qual ++ "<lambda>")) := by
      unfold noTb
      rw [hco]
      rfl
    have d : Dats (c.at (noTb H1)) (noTb H1) [.adr f] [.ref f] := ⟨_, _, rfl, rfl, rfl⟩
    exact body_endN (N := Ng) (hs' (noTb H1) m hF hl) eF d (hB f) hq
  refine wpAny_call (codeAny_mono rc fun r s2 hq => ?_)
  cases r with
  | error e => exact (show False from hq).elim
  | ok fl =>
    cases fl with
    | ret u => exact I1.after hq
    | next => exact False.elim hq
    | brk => exact False.elim hq
    | cont => exact False.elim hq
end
end Mw

set_option Elab.async false
set_option linter.all false
set_option maxRecDepth 100000
set_option maxHeartbeats 4000000
namespace Mw
open PySem PySem.Spec PyProof.Rows L2
/-! ### a >> b by an own method -/
section
open PySem.W
variable {P : Program} {w : World} {A : Around} {E : Value → Shared → Prop} {s : Shared} {K : W.Frag} {x C f : Addr} {ox : Obj} {od : Option Obj} {b tb : Value} {r : List Value}
/-- the class fills the operator's place -/
theorem fills_K {M : Model} {h : Heap} {nm : String} (X : K.In h) {cd : ClassData} (hc : clsIn K C = some cd) (hm : cd.mro = .ref C :: r) (hs : findIn K (.ref C) (dunder nm) = some (some (.ref f))) : Looks M h (fillsNumberSlot (.ref C) nm) true := by
  intro A Q E s k q
  have KX := X.keeps k
  have lm : Looks M s.heap (mroOf (.ref C)) (.ref C :: r) := by
    have := (looks_clsIn (M := M) KX hc)
    rw [← hm]
    exact this.andThen .now
  unfold fillsNumberSlot
  refine wpAny_bind (lm.here ?_)
  rw [List.anyM]
  refine wpAny_bind (wpAny_mono (Q := fun v s' => v = true ∧ s' = s) (E := E) ?_ (fun v s' hv => ?_) fun _ _ z => z)
  · show wpAny M A (List.anyM _ [PySem.dunder nm, PySem.dunderR nm]) _ E s
    rw [List.anyM]
    refine wpAny_bind (wpAny_bind ((looks_findIn KX hs).here ?_))
    exact wpAny_pure (wpAny_pure ⟨rfl, rfl⟩)
  · obtain ⟨rfl, rfl⟩ := hv
    exact wpAny_pure q
theorem binop_K {op : Operator} {sym nm : String} {Q : Value → Shared → Prop} (hop : op.info = (sym, nm)) (X : K.In s.heap) (I : InstAt s.heap x ox C od) {cd : ClassData} (hc : clsIn K C = some cd) (hm : cd.mro = .ref C :: r) (hs : findIn K (.ref C) (dunder nm) = some (some (.ref f))) (hf : isFn K (.ref f) = true)
    (hb : Looks (model P w) s.heap (typeOf b) tb) (hn : tb = .ref C ∨ Looks (model P w) s.heap (fillsNumberSlot tb nm) false)
    (hcall : wpAny (model P w) A (call (.ref f) [.ref x, b]) (fun v s' => v ≠ .notImplemented ∧ Q v s') E s) : wpAny (model P w) A (binaryOp op (.ref x) b) Q E s := by
  have one : wpAny (model P w) A (tryMethod (.ref x) (dunder nm) b) (fun r s' => ∃ v, r = some v ∧ Q v s') E s := by
    unfold tryMethod
    refine wpAny_bind (special_fn X I hs (beq_iff_eq.mp hf) (wpAny_mono hcall (fun v s' hv => ?_) fun _ _ z => z))
    obtain ⟨h1, h2⟩ := hv
    cases v <;> first | exact absurd rfl h1 | exact wpAny_pure ⟨_, rfl, h2⟩
  unfold binaryOp
  refine wpAny_holding ?_
  rw [hop]
  dsimp only
  refine wpAny_bind (wpAny_mono (Q := fun r s' => ∃ v, r = some v ∧ Q v s') ?_ (fun r s' hr => ?_) fun _ _ z => z)
  · have lf := fills_K (M := model P w) X hc hm hs
    have lt := I.type (M := model P w)
    cases c : (Value.ref C == tb) with
    | true =>
      unfold binaryOp1
      repeat (first
        | (with_reducible refine lt.at ?_) | (with_reducible refine hb.at ?_) | (with_reducible refine lf.at ?_)
        | (simp only [c, if_true, Bool.and_false, Bool.false_eq_true, if_false])
        | (refine wpAny_mono one (fun r s' hr => ?_) fun _ _ z => z)
        | wp_step)
      obtain ⟨v, rfl, hq⟩ := hr
      exact wpAny_pure ⟨v, rfl, hq⟩
    | false =>
      rcases hn with hn | hn
      · subst hn; simp at c
      · unfold binaryOp1
        repeat (first
          | (with_reducible refine lt.at ?_) | (with_reducible refine hb.at ?_) | (with_reducible refine lf.at ?_) | (with_reducible refine hn.at ?_)
          | (simp only [c, if_true, Bool.and_false, Bool.false_eq_true, if_false])
          | (refine wpAny_mono one (fun r s' hr => ?_) fun _ _ z => z)
          | wp_step)
        obtain ⟨v, rfl, hq⟩ := hr
        exact wpAny_pure ⟨v, rfl, hq⟩
  · obtain ⟨v, rfl, hq⟩ := hr
    exact wpAny_pure hq
theorem numSlot_K {M : Model} {h : Heap} {nm : String} (X : K.In h) (hs : findIn K (.ref C) (dunder nm) = some (some (.ref f))) (hr : findIn K (.ref C) (dunderR nm) = some none) : Looks M h (numberSlotInPython (.ref C) nm) true := by
  intro A Q E s k q
  have KX := X.keeps k
  unfold numberSlotInPython
  refine wpAny_bind ((looks_findIn KX hs).here ?_)
  refine wpAny_bind (wpAny_pure ?_)
  refine wpAny_bind ((looks_findIn KX hr).here ?_)
  refine wpAny_bind (wpAny_pure ?_)
  exact wpAny_pure q
theorem binop_K2 {op : Operator} {sym nm n : String} {o : Option Value} {Q : Value → Shared → Prop} (hop : op.info = (sym, nm)) (X : K.In s.heap) (I : InstAt s.heap x ox C od) {cd : ClassData} (hc : clsIn K C = some cd) (hm : cd.mro = .ref C :: r) (hs : findIn K (.ref C) (dunder nm) = some (some (.ref f))) (hrr : findIn K (.ref C) (dunderR nm) = some none) (hf : isFn K (.ref f) = true)
    (hb : Looks (model P w) s.heap (typeOf b) (.type n)) (hsub : subIn K (.type n) (.ref C) = some false) (hn : Looks (model P w) s.heap (fillsNumberSlot (.type n) nm) true) (ho : Looks (model P w) s.heap (typeLookup (.type n) (dunderR nm)) o)
    (hcall : wpAny (model P w) A (call (.ref f) [.ref x, b]) (fun v s' => v ≠ .notImplemented ∧ Q v s') E s) : wpAny (model P w) A (binaryOp op (.ref x) b) Q E s := by
  have one : wpAny (model P w) A (tryMethod (.ref x) (dunder nm) b) (fun r s' => ∃ v, r = some v ∧ Q v s') E s := by
    unfold tryMethod
    refine wpAny_bind (special_fn X I hs (beq_iff_eq.mp hf) (wpAny_mono hcall (fun v s' hv => ?_) fun _ _ z => z))
    obtain ⟨h1, h2⟩ := hv
    cases v <;> first | exact absurd rfl h1 | exact wpAny_pure ⟨_, rfl, h2⟩
  unfold binaryOp
  refine wpAny_holding ?_
  rw [hop]
  dsimp only
  refine wpAny_bind (wpAny_mono (Q := fun r s' => ∃ v, r = some v ∧ Q v s') ?_ (fun r s' hr => ?_) fun _ _ z => z)
  · have lf := fills_K (M := model P w) X hc hm hs
    have ln := numSlot_K (M := model P w) X hs hrr
    have ls := looks_subIn (M := model P w) X hsub
    have l2 : Looks (model P w) s.heap (numberSlotInPython (.type n) nm) false := Looks.of_pure (by unfold numberSlotInPython; rfl)
    have lt := I.type (M := model P w)
    have c : (Value.ref C == Value.type n) = false := by simp
    unfold binaryOp1
    repeat (first
      | (with_reducible refine lt.at ?_) | (with_reducible refine hb.at ?_) | (with_reducible refine lf.at ?_) | (with_reducible refine hn.at ?_) | (with_reducible refine ls.at ?_) | (with_reducible refine ln.at ?_) | (with_reducible refine l2.at ?_) | (with_reducible refine ho.at ?_)
      | (simp only [c, if_true, Bool.and_false, Bool.and_true, Bool.true_and, Bool.not_false, Bool.false_eq_true, if_false])
      | (refine wpAny_mono one (fun r s' hr => ?_) fun _ _ z => z)
      | wp_step)
    obtain ⟨v, rfl, hq⟩ := hr
    exact wpAny_pure ⟨v, rfl, hq⟩
  · obtain ⟨v, rfl, hq⟩ := hr
    exact wpAny_pure hq
end
theorem not_ni {v : V} {u : Value} (r : RelV v u) : u ≠ .notImplemented := by
  intro e
  subst e
  cases v <;> first | exact nomatch r | (obtain ⟨_, z⟩ := r; exact nomatch z)

/-- which kinds of the right-hand side leave the left one's method alone: the same class, or a kind that has no such method -/
def OpTys (K : PySem.W.Frag) (nm : String) (C : Addr) (t : Value) : Prop := (t = .ref C ∨ ∃ n, t = .type n ∧ ∀ (M : Model) (h : Heap), PySem.W.Looks M h (fillsNumberSlot (.type n) nm) false) ∨
  ∃ n o, t = .type n ∧ PySem.W.subIn K (.type n) (.ref C) = some false ∧ (∀ (M : Model) (h : Heap), PySem.W.Looks M h (fillsNumberSlot (.type n) nm) true) ∧ ∀ (M : Model) (h : Heap), PySem.W.Looks M h (typeLookup (.type n) (PySem.dunderR nm)) o
structure OpO (P : Program) (c : Kc) (mg : Str → Option Value) (base : Heap) (k : Nat) (nm : String) (C : Nat) (Pre : PreX) : Prop where
  cd : ∃ cd r, PySem.W.clsIn c.K (c.ca C) = some cd ∧ cd.mro = .ref (c.ca C) :: r
  rr : PySem.W.findIn c.K (.ref (c.ca C)) (PySem.dunderR nm) = some none
  fn : ∃ g, PySem.W.findIn c.K (.ref (c.ca C)) (PySem.dunder nm) = some (some (.ref g)) ∧ PySem.W.isFn c.K (.ref g) = true ∧ Gmx P c mg base k g Pre
def tOpO (c : Kc) (w : Option WX) (nm : String) (C : Nat) (Pre : PreX) (ta tb : TE) : TE := fun σ H Q => ta σ H fun x H1 => tb σ H1 fun y H2 => ∃ a dx fs t, x = .ref a ∧ H2 a = some (.ins (c.ca C) dx fs) ∧ TyY c.K H2 y t ∧ OpTys c.K nm (c.ca C) t ∧ spX c Pre [x, y] H2 Q (Wx w σ)
/-- kinds of data that may stand at the right -/
def opOk (C : Nat) (ks : List String) : Dt → Bool
  | .ins D _ => D == C
  | d => match tyN d with
    | some T => ks.contains T
    | none => false
def opOW (C : Nat) (ks : List String) (Pre : PreX) (a b : EM) : EM := fun ss R X => a ss (fun x => b ss (fun y => match x with
  | .ins D l => D = C ∧ opOk C ks y = true ∧ Pre [.ins D l, y] R X
  | _ => False) X) X
def OpKs (nm : String) (ks : List String) : Prop := ∀ T ∈ ks, (∀ (M : Model) (h : Heap), PySem.W.Looks M h (fillsNumberSlot (.type T) nm) false) ∨
  (T ∈ kinds7 ∧ (∀ (M : Model) (h : Heap), PySem.W.Looks M h (fillsNumberSlot (.type T) nm) true) ∧ ∃ o, ∀ (M : Model) (h : Heap), PySem.W.Looks M h (typeLookup (.type T) (PySem.dunderR nm)) o)
section
variable {X : Cx} {P : Program} {c : Kc} {mg : Str → Option Value} {base : Heap} {w : Option WX} {x : Mx} {k C : Nat} {nm : String} {Pre : PreX} {ta tb : TE} {am bm : EM} {ks : List String}
theorem opOk_ty (hk : Klss c) (hC : C ∈ c.cl) (hK : OpKs nm ks) {d : Dt} (h : opOk C ks d = true) : ∃ t, tyVal c d = some t ∧ OpTys c.K nm (c.ca C) t := by
  cases d with
  | ins D l =>
    have e : D = C := by simpa [opOk] using h
    subst e
    exact ⟨_, rfl, .inl (.inl rfl)⟩
  | _ =>
    first
    | (have h : ks.contains _ = true := h
       rcases hK _ (by simpa using h) with q | ⟨q1, q2, o, q3⟩
       · exact ⟨_, rfl, .inl (.inr ⟨_, rfl, q⟩)⟩
       · exact ⟨_, rfl, .inr ⟨_, o, rfl, kit_sub ((hk C hC).kC _ q1), q2, q3⟩⟩)
    | cases h
theorem re_opO (hk : Klss c) (hK : OpKs nm ks) (ha : RE c x w ta am) (hb : RE c x w tb bm) : RE c x w (tOpO c w nm C Pre ta tb) (opOW C ks Pre am bm) := fun ss R X G σ H mm e s Q q z =>
  ha ss _ X G σ H mm e s _ (fun v d1 G1 H1 g1 e1 m1 => hb ss _ X G1 σ H1 m1 g1.ink (s.go g1) _ (fun u d2 G2 H2 g2 e2 m2 => by
    split at m2
    · rename_i D l
      obtain ⟨rfl, ho, m2⟩ := m2
      have e1' := e1.up g2.kn
      have e1c := e1'
      obtain ⟨a, dx, fs, rfl, hp, hc, hf⟩ := e1c
      obtain ⟨t, ht, hty⟩ := opOk_ty hk hc hK ho
      exact ⟨a, dx, fs, t, rfl, g2.ink _ _ hp, tyx_val hk (e2.up g2.ink.ex) ht, hty, G2, [.ins D l, d2], R, X, g2.ink, ⟨_, _, rfl, e1', _, _, rfl, e2, rfl⟩, m2, fun v d G' H' g hd hr => q v d G' H' (g1.trans (g2.trans g)) hd hr, fun C l od G' H' g xd hx => z C l od G' H' (g1.trans (g2.trans g)) xd hx⟩
    · exact m2.elim) (kx_go z g1)) z
theorem pe_opO {op : Operator} {sym : String} {a b : Expr} {pos : Pos} (hop : op.info = (sym, nm)) (O : OpO P c mg base k nm C Pre) (hX : At X P c mg base) (hr : Room k X.A) (tk : Tk X w) (ha : PE X a ta) (hb : PE X b tb) : PE X (.BinOp a op b pos) (tOpO c w nm C Pre ta tb) := by
  obtain ⟨h1, h2, h3, h4, h5⟩ := hX
  obtain ⟨⟨cd, r, hc, hm⟩, hrr, g, hs, hf, F⟩ := O
  unfold Gmx at F
  rw [← h1, ← h2, ← h3, ← h4, ← h5] at F
  rw [← h3] at hc hs hf hrr
  refine ⟨fun pins s σ H Q I h => ?_⟩
  refine wpAny_BinOp (thn (ha.run pins s σ H _ I h) fun v s1 ⟨x, H1, I1, rx, q1⟩ => thn (hb.run pins s1 σ H1 _ I1 q1) fun u s2 ⟨y, H2, I2, ry, q2⟩ => ?_)
  obtain ⟨p, dx, fs, t, rfl, hp, ty, hn, q⟩ := q2
  rw [← h3] at ty hn
  cases (show v = Value.ref p from rx)
  obtain ⟨mA, O, _⟩ := ins_get I2.hok hp
  obtain ⟨od, J, _⟩ := O.look
  obtain ⟨P', Z, pp, _⟩ := kit_ofY I2 ry ty
  have fin : wpAny (model X.prog X.w) X.A (call (.ref g) [.ref p, u]) (fun v s' => v ≠ .notImplemented ∧ EP X pins σ Q v s') X.xe s2 := by
    refine wpAny_mono (run_fnRS (us := [.ref p, u]) (vs := [.ref p, y]) F hr (tk σ) I2 (.cons rfl (.cons ry .nil)) q) (fun w s' z => ?_) fun _ _ x => x
    obtain ⟨z', H', I', rz, qz⟩ := z
    exact ⟨not_ni rz, z', H', I', rz, qz⟩
  rcases hn with hn | ⟨n, o, rfl, hsub, h1, h2⟩
  · exact binop_K hop I2.kIn J hc hm hs hf (Z.ty _ _ I2.kIn pp) (hn.imp id fun ⟨k, e, z⟩ => by subst e; exact z _ _) fin
  · exact binop_K2 hop I2.kIn J hc hm hs hrr hf (Z.ty _ _ I2.kIn pp) hsub (h1 _ _) (h2 _ _) fin
end
/-! >> -/
theorem opKs_rshift : OpKs "rshift" ["NoneType", "bool", "int", "str", "tuple", "list", "dict"] := by
  intro T hT
  simp only [List.mem_cons, List.not_mem_nil, or_false] at hT
  have no : ∀ T : String, fillsNumberSlot (.type T) "rshift" = pure false → ∀ (M : Model) (h : Heap), PySem.W.Looks M h (fillsNumberSlot (.type T) "rshift") false := fun T e M h => PySem.W.Looks.of_pure e
  have yes : ∀ T : String, fillsNumberSlot (.type T) "rshift" = pure true → ∀ (M : Model) (h : Heap), PySem.W.Looks M h (fillsNumberSlot (.type T) "rshift") true := fun T e M h => PySem.W.Looks.of_pure e
  have lk : ∀ (T : String) (n : Str), (PySem.fastLookup T n).isSome = true → typeLookup (.type T) n = pure ((PySem.fastLookup T n).getD none) := fun T n e => by
    rw [typeLookup_type, builtinLookup_eq_fast]
    cases q : PySem.fastLookup T n with
    | none => rw [q] at e; cases e
    | some r => rfl
  have tl : ∀ T : String, (PySem.fastLookup T (PySem.dunderR "rshift")).isSome = true → ∃ o, ∀ (M : Model) (h : Heap), PySem.W.Looks M h (typeLookup (.type T) (PySem.dunderR "rshift")) o := fun T e => ⟨_, fun M h => PySem.W.Looks.of_pure (lk T _ e)⟩
  have ev : ∀ (T : String) (b : Bool), (PySem.fastLookup T (PySem.dunder "rshift")).isSome = true → (PySem.fastLookup T (PySem.dunderR "rshift")).isSome = true →
      ((((PySem.fastLookup T (PySem.dunder "rshift")).getD none).isSome && !isSeqSlot ((PySem.fastLookup T (PySem.dunder "rshift")).getD none)) || (((PySem.fastLookup T (PySem.dunderR "rshift")).getD none).isSome && !isSeqSlot ((PySem.fastLookup T (PySem.dunderR "rshift")).getD none))) = b → fillsNumberSlot (.type T) "rshift" = pure b := fun T b e1 e2 e => by
    unfold fillsNumberSlot
    dsimp only
    rw [lk T _ e1, lk T _ e2, ← e]
    rfl
  rcases hT with rfl | rfl | rfl | rfl | rfl | rfl | rfl
  · exact .inl (no _ (ev _ _ (by decide +kernel) (by decide +kernel) (by decide +kernel)))
  · exact .inr ⟨by simp [kinds7], yes _ (ev _ _ (by decide +kernel) (by decide +kernel) (by decide +kernel)), tl _ (by decide +kernel)⟩
  · exact .inr ⟨by simp [kinds7], yes _ (ev _ _ (by decide +kernel) (by decide +kernel) (by decide +kernel)), tl _ (by decide +kernel)⟩
  · exact .inl (no _ (ev _ _ (by decide +kernel) (by decide +kernel) (by decide +kernel)))
  · exact .inl (no _ (ev _ _ (by decide +kernel) (by decide +kernel) (by decide +kernel)))
  · exact .inl (no _ (ev _ _ (by decide +kernel) (by decide +kernel) (by decide +kernel)))
  · exact .inl (no _ (ev _ _ (by decide +kernel) (by decide +kernel) (by decide +kernel)))
end Mw

set_option Elab.async false
set_option linter.all false
set_option maxRecDepth 100000
set_option maxHeartbeats 4000000
namespace Mw
open PySem PySem.Spec PyProof.Rows L2
/-! ### x(e, ..), x an instance with an own __call__ -/
def Cos (P : Program) (c : Kc) (mg : Str → Option Value) (base : Heap) (k : Nat) (ms : Ms) : Prop := ∀ C Pre, ms.lookup C = some Pre → ∃ g, StX.CallO c.K (c.ca C) g ∧ Gmx P c mg base k g Pre
def tCo (c : Kc) (w : Option WX) (ms : Ms) (tf : TE) (t : TA) : TE := fun σ H Q => tf σ H fun y H1 => ∃ a dx fs C P, y = .ref a ∧ ms.lookup C = some P ∧ t σ H1 fun vs H2 => H2 a = some (.ins (c.ca C) dx fs) ∧ spX c P (.ref a :: vs) H2 Q (Wx w σ)
def coW (ms : Ms) (a : EM) (as : AM) : EM := fun ss R X => a ss (fun d => prD ms d fun P => as ss (fun l => P (d :: l) R X) X) X
section
variable {X : Cx} {P : Program} {c : Kc} {mg : Str → Option Value} {base : Heap} {w : Option WX} {x : Mx} {k : Nat} {ms : Ms} {tas t : TA} {as : AM} {ta tf : TE} {am : EM} {fe e : Expr} {es : List Expr} {pos : Pos}
theorem re_co (ha : RE c x w ta am) (hs : RA c x w tas as) : RE c x w (tCo c w ms ta tas) (coW ms am as) := fun ss R X G σ H mm e s Q q z =>
  ha ss _ X G σ H mm e s _ (fun v d G1 H1 g1 d1 m1 => by
    obtain ⟨C, l, Pre, rfl, h2, h3⟩ := of_prD m1
    obtain ⟨a, dx, fs, rfl, hp, hc, hf⟩ := d1
    refine ⟨a, dx, fs, C, Pre, rfl, h2, hs ss _ X G1 σ H1 h3 g1.ink (s.go g1) _ (fun vs ds G2 H2 g2 d2 m2 => ?_) (kx_go z g1)⟩
    exact ⟨g2.ink _ _ (g2.kn _ _ hp), G2, .ins C l :: ds, R, X, g2.ink, ⟨_, _, rfl, ⟨a, dx, fs, rfl, g2.kn _ _ hp, hc, hf.up g2.kn⟩, d2⟩, m2, fun v d G' H' g hd hr => q v d G' H' ((g1.trans g2).trans g) hd hr, fun C l od G' H' g xd hx => z C l od G' H' ((g1.trans g2).trans g) xd hx⟩) z
theorem pe_co (hf : PE X fe tf) (F : Cos P c mg base k ms) (hX : At X P c mg base) (hr : Room k X.A) (tk : Tk X w) (ha : PA X (e :: es) t)
    (ht : eval (.Call fe (e :: es) [] pos) X.env = (do callWith pos (← eval fe X.env) [] (backTo pos (starEach (e :: es) X.env)) (backToKw pos (keywordEach [] X.env))) := by rfl)
    (he : starEach (e :: es) X.env = (false, eval e X.env) :: starEach es X.env := by rfl) (hpl : (backTo pos (starEach es X.env)).any (·.1) = false := by rfl) : PE X (.Call fe (e :: es) [] pos) (tCo c w ms tf t) := by
  obtain ⟨h1, h2, h3, h4, h5⟩ := hX
  refine ⟨fun pins s σ H Q I h => ?_⟩
  refine Call_ (thn (hf.run pins s σ H _ I h) fun u s1 ⟨y, H1, I1, ry, a, dx, fs, C, Pre, ey, hl, q⟩ => ?_) ht
  subst ey
  obtain rfl : u = Value.ref a := ry
  obtain ⟨g, co, G⟩ := F C Pre hl
  unfold Gmx at G
  rw [← h1, ← h2, ← h3, ← h4, ← h5] at G
  rw [← h3] at co
  refine StX.callO_with (thn (ha.run pos pins s1 σ H1 _ I1 q) fun us s2 ⟨vs, H2, I2, r, hi, q2⟩ => ?_) he hpl
  obtain ⟨ox, od, J, hd⟩ := StX.insC_at (X := X) I2 (.inr ⟨dx, fs, hi⟩)
  refine ⟨⟨c.ca C, ox, od, J, hd⟩, wpAny_call (PySem.W.kco_code I2.kIn J hd co.at_ co.fn co.fi (codeAny_mono (G X.A X.stack s2 H2 (.ref a :: us) (.ref a :: vs) Q _ hr I2.env0 (.cons rfl r) q2) fun rr s' hq => ?_))⟩
  cases rr with
  | error e => exact tk σ pins H2 s2 e s' I2 hq
  | ok fl =>
    cases fl with
    | ret u => exact I2.after hq
    | next => exact False.elim hq
    | brk => exact False.elim hq
    | cont => exact False.elim hq
end
end Mw

set_option Elab.async false
set_option linter.all false
set_option maxRecDepth 100000
set_option maxHeartbeats 4000000
namespace Mw
open PySem PySem.Spec PyProof.Rows L2 LamX
/-! ### the law's call, with tables of code objects, where no repr is under way -/
section
variable {P : Program} {w : World} {K : PySem.W.Frag} {mg mb : Str → Option Value} {s : Shared} {a : Addr} {vs : List Value} {ns : List Int} {cs : List (Addr × Addr)}
structure TopT (P : Program) (w : World) (K : PySem.W.Frag) (s : Shared) (a : Addr) (ns : List Int) (cs : List (Addr × Addr)) (H : Hp) : Prop where
  sq : SqL K H a (ns.map V.int)
  ok : HOk P w H s.heap
  tb : ∀ p ∈ cs, H p.2 = some (.tbl #[])
  only : ∀ b u, H b = some u → (b ∈ cs.map (·.2) ∧ u = .tbl #[]) ∨ (b = a ∧ K.lookup a = none ∧ ∃ o xs, u = .frz o (.lst xs))
theorem top_HT (KX : K.In s.heap) (hT : ∀ p ∈ cs, s.heap.get? p.2 = some { cls := .none, data := .fields #[] }) (ha : s.heap.get? a = some { cls := .type "list", data := .seq vs.toArray }) (hi : IntsAre vs ns) (hl : ns.length ≤ sizeLine) : ∃ H, TopT P w K s a ns cs H := by
  have rv := vals_ints hi
  have isT : ∀ b : Addr, b ∈ cs.map (·.2) → s.heap.get? b = some { cls := .none, data := .fields #[] } := fun b hb => by
    obtain ⟨p, hp, e⟩ := List.mem_map.mp hb
    rw [← e]
    exact hT p hp
  have aT : a ∉ cs.map (·.2) := fun z => by
    have q := isT a z
    rw [ha] at q
    have z' : Data.seq vs.toArray _ = Data.fields #[] := congrArg Obj.data (Option.some.inj q)
    cases z'
  have memT : ∀ p ∈ cs, p.2 ∈ cs.map (·.2) := fun p hp => List.mem_map.mpr ⟨p, hp, rfl⟩
  cases hk : K.lookup a with
  | some o =>
    have e := KX a o hk
    rw [ha] at e
    cases e
    have at_ : ∀ {b : Addr} {u : HO}, (if b ∈ cs.map (·.2) then some (HO.tbl #[]) else none) = some u → b ∈ cs.map (·.2) ∧ u = .tbl #[] := fun {b u} z => by
      by_cases hb : b ∈ cs.map (·.2)
      · rw [if_pos hb] at z; exact ⟨hb, (Option.some.inj z).symm⟩
      · rw [if_neg hb] at z; cases z
    refine ⟨fun b => if b ∈ cs.map (·.2) then some (.tbl #[]) else none, .inr ⟨_, vs.toArray, _, hk, rfl, rfl, rfl, by rw [List.size_toArray, hi.length]; exact hl, by simpa using rv⟩, fun b u z => ?_, fun p hp => if_pos (memT p hp), fun b u z => .inl (at_ z)⟩
    obtain ⟨hb, rfl⟩ := at_ z
    exact isT b hb
  | none =>
    have at_ : ∀ {b : Addr} {u : HO}, (if b ∈ cs.map (·.2) then some (HO.tbl #[]) else if b = a then some (.frz { cls := .type "list", data := .seq vs.toArray } (.lst (ns.map V.int))) else none) = some u → (b ∈ cs.map (·.2) ∧ u = .tbl #[]) ∨ (b = a ∧ u = .frz { cls := .type "list", data := .seq vs.toArray } (.lst (ns.map V.int))) := fun {b u} z => by
      by_cases hb : b ∈ cs.map (·.2)
      · rw [if_pos hb] at z; exact .inl ⟨hb, (Option.some.inj z).symm⟩
      · rw [if_neg hb] at z
        by_cases c : b = a
        · rw [if_pos c] at z; exact .inr ⟨c, (Option.some.inj z).symm⟩
        · rw [if_neg c] at z; cases z
    refine ⟨fun b => if b ∈ cs.map (·.2) then some (.tbl #[]) else if b = a then some (.frz { cls := .type "list", data := .seq vs.toArray } (.lst (ns.map V.int))) else none, .inl (.inr ⟨_, (if_neg aT).trans (if_pos rfl)⟩), fun b u z => ?_, fun p hp => if_pos (memT p hp), fun b u z => ?_⟩
    · rcases at_ z with ⟨hb, rfl⟩ | ⟨rfl, rfl⟩
      · exact isT b hb
      · exact ⟨ha, by rw [List.length_map]; exact hl, vs, _, rv, ha⟩
    · rcases at_ z with ⟨hb, rfl⟩ | ⟨rfl, rfl⟩
      · exact .inl ⟨hb, rfl⟩
      · exact .inr ⟨rfl, hk, _, _, rfl⟩
theorem top_envT {H : Hp} (KX : K.In s.heap) (hns : s.heap.Ns mainGlobals mg) (hb : s.heap.Ns builtinsNs mb) (hbb : ∀ x : Str, x ≠ "__name__" → mb x = bootBuiltins x) (hlim : s.heap.NoLimit) (hg : s.gens = #[])
    (hT : ∀ p ∈ cs, s.heap.get? p.2 = some { cls := .none, data := .fields #[] }) (nT : ∀ p ∈ cs, K.lookup p.2 = none) (C : ∀ p ∈ cs, PySem.W.CodeHd s.heap p.1 p.2)
    (hbm : ∃ (bm : Addr) (ob : Obj), mg "__builtins__" = some (.ref bm) ∧ bm ≠ builtinsNs ∧ s.heap.get? bm = some ob ∧ ob.cls = .type "module" ∧ ob.dict = some builtinsNs ∧ ob.data = .plain)
    (ha : s.heap.get? a = some { cls := .type "list", data := .seq vs.toArray }) (T : TopT P w K s a ns cs H) : K.In (hidT s.heap H) ∧ (hidT s.heap H).Ns mainGlobals mg ∧ (∀ p ∈ cs, TabB (hidT s.heap H) mg p.1 p.2) ∧ Env0 P w K mg (hidT s.heap H) callerA [] s H := by
  have isT : ∀ b : Addr, b ∈ cs.map (·.2) → s.heap.get? b = some { cls := .none, data := .fields #[] } ∧ K.lookup b = none := fun b hb => by
    obtain ⟨p, hp, e⟩ := List.mem_map.mp hb
    rw [← e]
    exact ⟨hT p hp, nT p hp⟩
  have noD : ∀ {b : Addr} {o : Obj}, s.heap.get? b = some o → (∀ vs n, o.data ≠ .seq vs n) → o.data ≠ .fields #[] → H b = none := fun {b o} e h1 h2 => by
    cases q : H b with
    | none => rfl
    | some u =>
      rcases T.only b u q with ⟨hb, _⟩ | ⟨rfl, _, _⟩
      · rw [(isT b hb).1] at e; cases e; exact (h2 rfl).elim
      · rw [ha] at e; cases e; exact (h1 _ _ rfl).elim
  have names : ∀ {b : Addr} {m : Str → Option Value}, s.heap.Ns b m → (hidT s.heap H).Ns b m := fun {b m} ⟨o, es, ep, e, d, r⟩ => ⟨o, es, ep, hidT_get e (noD e (fun vs n z => by rw [d] at z; cases z) fun z => by rw [d] at z; cases z), d, r⟩
  have kin : K.In (hidT s.heap H) := fun b o e => hidT_get (KX b o e) (by
    cases q : H b with
    | none => rfl
    | some u =>
      rcases T.only b u q with ⟨hb, _⟩ | ⟨rfl, hk, _⟩
      · rw [(isT b hb).2] at e; cases e
      · rw [hk] at e; cases e)
  refine ⟨kin, names hns, fun p hp => ?_, rfl, ⟨kin, names hns, ⟨mb, names hb, hbb⟩, let ⟨mc, h1, h2⟩ := hlim; ⟨mc, names h1, h2⟩⟩, fun b o e => of_hidT e, Nat.le_of_eq (hidT_size _ _), trivial, (fun b hb => nomatch (show b ∈ ([] : List Addr) from hb)), T.ok, .of_eq hg⟩
  have hTp := hT p hp
  refine ⟨?_, ?_, fun z => ?_⟩
  · obtain ⟨o, us, file, tf, flags, tg, inF, text, tt, e1, r1, r2, r3, r4, r5, r6, r7, r8, hne⟩ := C p hp
    refine ⟨o, us, file, tf, flags, tg, inF, text, tt, hidT_get e1 (noD e1 (fun vs n z => ?_) fun z => ?_), r1, r2, r3, r4, r5, r6, r7, r8, hne⟩
    · rw [r2] at z; cases z
    · rw [r2] at z
      cases z
      simp at r3
  · obtain ⟨bm, ob, b1, b2, b3, b4, b5, b6⟩ := hbm
    have nG : bm ≠ mainGlobals := fun q => by
      obtain ⟨o, es, ep, e, hd, _⟩ := hns
      rw [q, e] at b3
      cases b3
      rw [hd] at b6
      cases b6
    have nP : bm ≠ p.2 := fun q => by
      rw [q, hTp] at b3
      cases b3
      cases b6
    refine ⟨bm, ob, b1, b2, nG, nP, hidT_get b3 (noD b3 (fun vs n z => ?_) fun z => ?_), b4, b5, b6⟩
    · rw [b6] at z; cases z
    · rw [b6] at z; cases z
  · obtain ⟨o, es, ep, e, hd, _⟩ := hns
    rw [z, hTp] at e
    cases e
    cases hd
theorem top_callT {k : Nat} {fa : Addr} {fd : FuncData} {x : Str} {sp : Sp} (KX : K.In s.heap) (hns : s.heap.Ns mainGlobals mg) (hb : s.heap.Ns builtinsNs mb) (hbb : ∀ x : Str, x ≠ "__name__" → mb x = bootBuiltins x) (hlim : s.heap.NoLimit) (hg : s.gens = #[])
    (hT : ∀ p ∈ cs, s.heap.get? p.2 = some { cls := .none, data := .fields #[] }) (nT : ∀ p ∈ cs, K.lookup p.2 = none) (C : ∀ p ∈ cs, PySem.W.CodeHd s.heap p.1 p.2)
    (hbm : ∃ (bm : Addr) (ob : Obj), mg "__builtins__" = some (.ref bm) ∧ bm ≠ builtinsNs ∧ s.heap.get? bm = some ob ∧ ob.cls = .type "module" ∧ ob.dict = some builtinsNs ∧ ob.data = .plain)
    (ha : s.heap.get? a = some { cls := .type "list", data := .seq vs.toArray }) (hi : IntsAre vs ns) (hl : ns.length ≤ sizeLine) (hr : Room k callerA)
    (F : ∀ base : Heap, (∀ p ∈ cs, TabB base mg p.1 p.2) → FnG P w K mg base k fa fd [x] sp) (hbind : ∀ (s : Shared) (u : Value), BindsTo s fd ⟨[u], []⟩ [(x, u)])
    (hsp : ∀ H : Hp, SqL K H a (ns.map V.int) → (∀ p ∈ cs, H p.2 = some (.tbl #[])) → (∀ b u, H b = some u → u = .tbl #[] ∨ ∃ o xs, u = .frz o (.lst xs)) → sp [.ref a] H (fun v _ => v = .bl true) fun _ _ _ => False) :
    codeAny (model P w) callerA (.call (.ref fa) ⟨[.ref a], []⟩) (fun r s' => r = .ok (.ret (.bool true)) ∧ OldK s.heap s'.heap ∧ s'.os = s.os ∧ AllBare s'.gens) s := by
  obtain ⟨H, T⟩ := top_HT (P := P) (w := w) KX hT ha hi hl
  obtain ⟨kin, hn', TB, e0⟩ := top_envT KX hns hb hbb hlim hg hT nT C hbm ha T
  refine codeAny_mono ((F _ TB).run callerA [] s H ⟨[.ref a], []⟩ [.ref a] [.ref a] _ _ rfl hr e0 (hbind s (.ref a)) (.cons rfl .nil) (hsp H T.sq T.tb fun b u z => (T.only b u z).imp (·.2) fun q => q.2.2)) fun r s' h => ?_
  match r, h with
  | .error e, h => exact h.elim
  | .ok .next, h => exact False.elim h
  | .ok .brk, h => exact False.elim h
  | .ok .cont, h => exact False.elim h
  | .ok (.ret u), h =>
    obtain ⟨v, H', os, bare, un, hok', r', q⟩ := h
    cases (show v = .bl true from q)
    cases (show u = Value.bool true from r')
    have key : ∀ b o, b ∉ cs.map (·.2) → s.heap.get? b = some o → s'.heap.get? b = some o := fun b o nb e => by
      cases c : H b with
      | none => exact un.keep b o e c (fun z => nomatch (show b ∈ ([] : List Addr) from z)) (by simp)
      | some u =>
        rcases T.only b u c with ⟨hb, _⟩ | ⟨rfl, _, ob, xs, rfl⟩
        · exact absurd hb nb
        · have e1 := (T.ok b _ c).1
          have e2 := (hok' b _ (un.frzs b ob _ c)).1
          rw [e] at e1
          cases e1
          exact e2
    have grown : ∀ p ∈ cs, ∃ more : Array Value, s'.heap.get? p.2 = some { cls := .none, data := .fields more } := fun p hp => by
      obtain ⟨more, z⟩ := un.tbls p.2 #[] (T.tb p hp)
      exact ⟨_, hok' p.2 _ z⟩
    refine ⟨rfl, ⟨fun b o e => ?_, fun b o e => ?_⟩, os, bare⟩
    · by_cases hb : b ∈ cs.map (·.2)
      · obtain ⟨p, hp, ep⟩ := List.mem_map.mp hb
        obtain ⟨more, hm⟩ := grown p hp
        rw [← ep] at e ⊢
        rw [hT p hp] at e
        cases e
        exact .inr (.inl ⟨((C p hp).tab (hT p hp)).isCodeTable, rfl, #[], more, rfl, by rw [Array.empty_append]; exact hm⟩)
      · exact .inl (key b o hb e)
    · by_cases hb : b ∈ cs.map (·.2)
      · obtain ⟨p, hp, ep⟩ := List.mem_map.mp hb
        obtain ⟨more, hm⟩ := grown p hp
        rw [← ep]
        exact ⟨_, hm⟩
      · exact ⟨o, key b o hb e⟩
end
end Mw

set_option Elab.async false
set_option linter.all false
set_option maxRecDepth 100000
set_option maxHeartbeats 4000000
namespace Mw
open PySem PySem.Spec PyProof.Rows L2
/-! ### things that are made anew: they may be one's own -/
def OwnK (k : Bool) (c : Kc) (G : Hp) (d : Dt) (o : HO) : Prop := isLst d = k ∧ OwnD c G d o
def RFb (k : Bool) (c : Kc) (x : Mx) (w : Option WX) (te : TE) (m : EM) : Prop := ∀ ss R X G σ H, m ss R X → In c G H → Sv c x G H σ ss → ∀ Q : VK, (∀ p d o G' H', Go c G H G' H' → H p = none → G' p = none → H' p = some o → OwnK k c G' d o → R d → Q (.ref p) H') → KX c w X σ G H → te σ H Q
abbrev RF := RFb true
section
variable {c : Kc} {x : Mx} {w : Option WX} {G G' H H' H0 : Hp} {σ : L2.St} {ss : SS}
theorem OwnD.ntbl {d : Dt} {o : HO} (h : OwnD c G d o) : ∀ ps, o ≠ .tbl ps := (OwnD.flat (a := 0) h).1
theorem re_fresh {te : TE} {m : EM} (h : RF c x w te m) : RE c x w te m := fun ss R X G σ H hm e s Q q z =>
  h ss R X G σ H hm e s Q (fun p d o G' H' g hp hG hH ho hr => q (.ref p) d _ H' (g.tell hG hp hH ho.2.ntbl) (ho.2.dat hG ho.1) hr) z
/-- a new dict is locked for good -/
def tFrz (te : TE) : TE := fun σ H Q => te σ H fun v H' => ∃ d u, v = .ref d ∧ H' d = some u ∧ Mut (some u) ∧ ∀ od, Q v (upd H' d (.frz od u))
theorem pe_frz {X : Cx} {e : Expr} {t : TE} (h : PE X e t) : PE X e (tFrz t) := by
  refine ⟨fun pins s σ H Q I hw => thn (h.run pins s σ H _ I hw) fun v s1 ⟨x, H1, I1, r, d, u, ex, hd, mu, q⟩ => ?_⟩
  obtain ⟨od, I2⟩ := I1.lock hd mu
  exact ⟨x, _, I2, r, q od⟩
theorem re_frz {te : TE} {m : EM} (h : RFb false c x w te m) : RE c x w (tFrz te) m := fun ss R X G σ H hm e s Q q z =>
  h ss R X G σ H hm e s _ (fun p d o G' H' g hp hG hH ho hr => ⟨p, o, rfl, hH, ho.2.mut, fun od =>
    q (.ref p) d _ _ ((g.turn hG hp hH (ho.2.flat (a := p)) (o := .frz od o)).tell hG hp upd_same) (ho.2.datF hG ho.1) hr⟩) z
/-- an own dict is told: locked for good -/
def tFrzS (i : Nat) (t : TS) : TS := fun D σ H => ∃ d u, σ[i]? = some (some (.ref d)) ∧ H d = some u ∧ Mut (some u) ∧ ∀ od, t D σ (upd H d (.frz od u))
theorem ps_frz {X : Cx} {st : Stmt} {t : TS} {i : Nat} (h : PS X st t) : PS X st (tFrzS i t) := by
  refine ⟨fun pins s σ H D I hw => ?_⟩
  obtain ⟨d, u, _, hd, mu, hw⟩ := hw
  obtain ⟨od, I1⟩ := I.lock hd mu
  exact h.run pins s σ _ D I1 (hw od)
theorem Sl.takeOwn' (h : Sl c x H0 G H σ ss) {j : Nat} {d : Dt} {a : Addr} {o : HO} (fa : ∀ (i : Nat) (y : Dt), ss[i]? = some (.own y) → σ[i]? ≠ some (some (.ref a))) (fm : ∀ (i C : Nat) (l : List (Str × Dt)), ss[i]? = some (.slf C l) → x.me ≠ a) (hH : H a = some o) (h0 : H0 a = none) (hg : G a = none) (ho : OwnD c G d o) : Sl c x H0 G H (σ.set j (some (.ref a))) (ss.set j (.own d)) := by
  refine ⟨⟨by simp [h.sv.len], fun i y z => ?_, fun i y z => ?_, fun i C l z => ?_, fun i C l z => ?_⟩, fun i y b z q => ?_, fun i k y y' b z1 z2 q1 q2 => ?_, fun i C l z => ?_, fun i k C l y z1 z2 q => ?_, fun i k C D l m z1 z2 => ?_⟩
  · rcases get_set' z with ⟨rfl, e1, b⟩ | ⟨z', e1⟩
    · cases e1
    · rw [List.getElem?_set_ne e1]; exact h.sv.dat i y z'
  · rcases get_set' z with ⟨rfl, e1, b⟩ | ⟨z', e1⟩
    · cases e1
      exact ⟨a, o, by rw [List.getElem?_set_self (by rw [h.sv.len]; exact b)], hg, hH, ho⟩
    · rw [List.getElem?_set_ne e1]; exact h.sv.own i y z'
  · rcases get_set' z with ⟨rfl, e1, b⟩ | ⟨z', e1⟩
    · cases e1
    · rw [List.getElem?_set_ne e1]; exact h.sv.slf i C l z'
  · rcases get_set' z with ⟨rfl, e1, b⟩ | ⟨z', e1⟩
    · cases e1
    · rw [List.getElem?_set_ne e1]; exact h.sv.exc i C l z'
  · rcases get_set' z with ⟨rfl, e1, bb⟩ | ⟨z', e1⟩
    · rw [List.getElem?_set_self (by rw [h.sv.len]; exact bb)] at q; cases q; exact h0
    · rw [List.getElem?_set_ne e1] at q; exact h.new i y b z' q
  · rcases get_set' z1 with ⟨rfl, e1, bb⟩ | ⟨z1', e1⟩
    · rcases get_set' z2 with ⟨rfl, e2, bb2⟩ | ⟨z2', e2⟩
      · rfl
      · rw [List.getElem?_set_self (by rw [h.sv.len]; exact bb)] at q1; cases q1
        rw [List.getElem?_set_ne e2] at q2
        exact (fa _ _ z2' q2).elim
    · rcases get_set' z2 with ⟨rfl, e2, bb2⟩ | ⟨z2', e2⟩
      · rw [List.getElem?_set_self (by rw [h.sv.len]; exact bb2)] at q2; cases q2
        rw [List.getElem?_set_ne e1] at q1
        exact (fa _ _ z1' q1).elim
      · rw [List.getElem?_set_ne e1] at q1
        rw [List.getElem?_set_ne e2] at q2
        exact h.sep i k y y' b z1' z2' q1 q2
  · rcases get_set' z with ⟨rfl, e1, b⟩ | ⟨z', e1⟩
    · cases e1
    · exact h.me0 i C l z'
  · rcases get_set' z1 with ⟨rfl, e1, b⟩ | ⟨z1', e1⟩
    · cases e1
    · rcases get_set' z2 with ⟨rfl, e2, bb2⟩ | ⟨z2', e2⟩
      · rw [List.getElem?_set_self (by rw [h.sv.len]; exact bb2)] at q
        exact fm _ _ _ z1' ((V.ref.inj (Option.some.inj (Option.some.inj q))).symm)
      · rw [List.getElem?_set_ne e2] at q
        exact h.mes i k C l y z1' z2' q
  · rcases get_set' z1 with ⟨rfl, e1, b⟩ | ⟨z1', e1⟩
    · cases e1
    · rcases get_set' z2 with ⟨rfl, e2, bb2⟩ | ⟨z2', e2⟩
      · cases e2
      · exact h.me1 i k C D l m z1' z2'
/-- x = e, where e makes something new -/
def newFW (i : Nat) (m : EM) : SM := fun ss k => m ss (fun d => k (.nx (ss.set i (.own d)))) fun C l => k (.ex ss C l)
theorem rs_newF {b : Bool} {i : Nat} {te : TE} {m : EM} (ha : RFb b c x w te m) : RS c x w (tAsg te (gName i)) (newFW i m) := fun ss k G0 H0 D σ G H m K g s =>
  ha ss _ _ G σ H m g.ink s.sv _ (fun p d o G1 H1 g1 hp hG hH ho m1 => by
    have h0 : H0 p = none := g.up.free hp
    refine K.nx _ _ G1 H1 (g.trans g1) ((s.go g1).takeOwn' (d := d) (fun i y hy e => ?_) (fun i C l hy e => ?_) hH h0 hG ho.2) m1
    · obtain ⟨b, u, r1, r2, r3, r4⟩ := s.sv.own i y hy
      rw [e] at r1; cases r1
      rw [hp] at r3; cases r3
    · obtain ⟨r1, r2, dx, fs, r3, _⟩ := s.sv.slf i C l hy
      rw [e, hp] at r3; cases r3) (kx_of K g s)
variable {tas : TA} {as : AM} {ta tb te : TE} {a b e : EM}
theorem go_own {p : Addr} {o : HO} (e : In c G H) (h : H p = none) : Go c G H G (upd H p o) := Go.put e h
theorem rf_lst (hs : RA c x w tas as) : RF c x w (tLst tas) (lstW as) := fun ss R X G σ H m e s Q q z =>
  hs ss _ X G σ H m e s _ (fun vs l G1 H1 g1 d1 m1 => ⟨by rw [d1.len]; exact sz_of m1.1, fun p hp => q p (.lst l) (.lst vs) G1 _ (g1.trans (Go.put g1.ink hp)) (g1.up.free hp) (g1.ink.free hp) upd_same ⟨rfl, vs, rfl, d1⟩ m1.2⟩) z
/-- operators and calls that make something new -/
def RO2F (c : Kc) (r : R2) (o : D2) : Prop := ∀ d e R, o d e R → ∀ (G H : Hp) (v u : V), In c G H → Dat c G d v → Dat c G e u → ∀ Q : VK, (∀ p y o G' H', Go c G H G' H' → H p = none → G' p = none → H' p = some o → OwnK true c G' y o → R y → Q (.ref p) H') → r v u H Q
def RONF (c : Kc) (r : List V → Hp → VK → Prop) (o : DN) : Prop := ∀ ds R, o ds R → ∀ (G H : Hp) (vs : List V), In c G H → Dats c G ds vs → ∀ Q : VK, (∀ p y o G' H', Go c G H G' H' → H p = none → G' p = none → H' p = some o → OwnK true c G' y o → R y → Q (.ref p) H') → r vs H Q
theorem rf_op {r : R2} {o : D2} (hr : RO2F c r o) (ha : RE c x w ta a) (hb : RE c x w tb b) : RF c x w (tOp r ta tb) (opW o a b) := fun ss R X G σ H m e s Q q z =>
  ha ss _ X G σ H m e s _ (fun v d G1 H1 g1 d1 m1 => hb ss _ X G1 σ H1 m1 g1.ink (s.go g1) _ (fun u y G2 H2 g2 d2 m2 =>
    hr d y R m2 G2 H2 v u g2.ink (d1.up g2.kn) d2 Q fun p y o G3 H3 g3 hp hG hH ho hr => q p y o G3 H3 (g1.trans (g2.trans g3)) ((g1.trans g2).up.free hp) hG hH ho hr) (kx_go z g1)) z
theorem rf_cb {r : List V → Hp → VK → Prop} {o : DN} (hr : RONF c r o) (hs : RA c x w tas as) : RF c x w (tCB r tas) (cbW o as) := fun ss R X G σ H m e s Q q z =>
  hs ss _ X G σ H m e s _ (fun vs l G1 H1 g1 d1 m1 => hr l R m1 G1 H1 vs g1.ink d1 Q fun p y o G3 H3 g3 hp hG hH ho hr => q p y o G3 H3 (g1.trans g3) (g1.up.free hp) hG hH ho hr) z
def addLD : D2
  | .lst l, .lst m, R => l.length + m.length ≤ 1000000 ∧ R (.lst (l ++ m))
  | _, _, _ => False
theorem ro_addF : RO2F c (rAddA c.K) addLD := fun d e R h G H v u ex d1 d2 Q q => by
  cases d with
  | lst l =>
    cases e with
    | lst m =>
      obtain ⟨p, xs, rfl, h1, h2⟩ := d1
      obtain ⟨p', ys, rfl, h1', h2'⟩ := d2
      refine .inr (.inr (.inl ?_))
      refine ⟨p, p', xs, ys, rfl, rfl, ex _ _ h1, ex _ _ h1', by rw [h2.len, h2'.len]; exact sz_of h.1, fun r hr => ?_⟩
      exact q r (.lst (l ++ m)) _ G _ (Go.put ex hr) hr (ex.free hr) upd_same ⟨rfl, _, rfl, h2.app h2'⟩ h.2
    | _ => exact h.elim
  | _ => exact h.elim
theorem ro_listF : RONF c (rToLst c.K) listD := fun ds R h G H vs ex d1 Q q => by
  match ds, h with
  | [.lst l], h =>
    obtain ⟨v, r, rfl, hx, hr⟩ := d1
    cases hr
    obtain ⟨p, xs, rfl, h1, h2⟩ := hx
    exact ⟨p, xs, rfl, .inl (.inl (.inl (ex _ _ h1))), fun r hr => q r (.lst l) _ G _ (Go.put ex hr) hr (ex.free hr) upd_same ⟨rfl, _, rfl, h2⟩ h⟩
  | [.tup l], h =>
    obtain ⟨v, r, rfl, hx, hr⟩ := d1
    cases hr
    obtain ⟨p, xs, rfl, h1, h2⟩ := hx
    exact ⟨p, xs, rfl, .inr (Ex.tp ex.ex h1), fun r hr => q r (.lst l) _ G _ (Go.put ex hr) hr (ex.free hr) upd_same ⟨rfl, _, rfl, h2⟩ h⟩
theorem rf_lc {wi : TI} {it : AM} {g : TG} {gm : GM} {tt : TT} {t : TM} {vs : List Nat} (hi : RI c x w wi it) (hg : RG c x vs g gm) (ht : RT c x none tt t) (he : RE c x none te e) : RF c x w (tLc wi g tt te vs) (lcW it vs gm t e) := fun ss R X G σ H m ex s Q q z =>
  hi ss _ X G σ H m ex s _ (fun J l G1 H1 g1 wk ⟨hl, m1⟩ => by
    have s1 := s.go g1
    intro D nD
    have nG : G1 D = none := g1.ink.free nD
    refine lc_it wk (fun i H' => ∃ (G' : Hp) (acc : List Dt) (xs : List V), Go c G1 H1 G' H' ∧ G' D = none ∧ H' D = some (.lst xs) ∧ Dats c G' acc xs ∧ acc.length ≤ i ∧ lcL (wipeS ss vs) gm t e (l.drop i) acc fun acc => R (.lst acc)) ?_ ?_ ?_ ?_
    · exact ⟨G1, [], [], Go.put g1.ink nD, nG, upd_same, rfl, Nat.le_refl _, m1⟩
    · rintro i H' _ ⟨G', acc, xs, g2, _⟩
      exact g2.kn.trans g2.ink.ex
    · rintro i v H2 H3 hi ⟨G2, acc, xs, g2, n2, e2, d2, l2, m2⟩ y
      obtain ⟨d, G3, hd3, g3, dx⟩ := y G2 g2.kn g2.ink
      have e3 : H3 D = some (.lst xs) := g3.up.st D _ e2 (flat_lst (a := D)).1
      have n3 : G3 D = none := g3.nw D _ n2 e2 (fun _ z => by cases z)
      rw [drop_at hd3] at m2
      have s3 : Sv c x G3 H3 (wipe σ vs) (wipeS ss vs) := ((s1.go g2).go g3).wipe vs
      refine hg d _ _ m2 G3 H3 _ v g3.ink s3 dx _ fun σ4 s4 sv4 w4 m4 => ⟨by rw [w4]; exact wipe_wipe fun _ h => h, ?_⟩
      refine ht s4 _ xF G3 σ4 H3 m4 g3.ink sv4.1 _ (fun b G5 H5 g5 m5 => ?_) fun _ _ _ _ _ _ _ hc => hc.elim
      have e5 : H5 D = some (.lst xs) := g5.up.st D _ e3 (flat_lst (a := D)).1
      have n5 : G5 D = none := g5.nw D _ n3 e3 (fun _ z => by cases z)
      cases b with
      | false => exact ⟨G5, acc, xs, (g2.trans g3).trans g5, n5, e5, (d2.up g3.kn).up g5.kn, by omega, ifP_f m5⟩
      | true =>
        refine he s4 _ xF G5 σ4 H5 (ifP_t m5) g5.ink (sv4.1.go g5) _ (fun y dy G6 H6 g6 d6 m6 => ?_) fun _ _ _ _ _ _ _ hc => hc.elim
        have e6 : H6 D = some (.lst xs) := g6.up.st D _ e5 (flat_lst (a := D)).1
        have n6 : G6 D = none := g6.nw D _ n5 e5 (fun _ z => by cases z)
        have d7 : Dats c G6 (acc ++ [dy]) (xs ++ [y]) := Dats.snoc (((d2.up g3.kn).up g5.kn).up g6.kn) d6
        have g7 := ((g2.trans g3).trans g5).trans g6
        refine ⟨xs, e6, ?_, G6, acc ++ [dy], xs ++ [y], g7.turn n6 nD e6 flat_lst, n6, upd_same, d7, by simp; omega, m6⟩
        rw [d2.len]; exact sz_lt (by omega)
    · rintro H2 ⟨G2, acc, xs, g2, n2, e2, d2, l2, m2⟩
      rw [List.drop_length] at m2
      exact q D (.lst acc) _ G2 H2 (g1.trans g2) (g1.up.free nD) n2 e2 ⟨rfl, xs, rfl, d2⟩ m2) z
/-! ### list(range(n)), tuple(range(n)) -/
def rgLW (a : EM) : EM := fun ss R X => a ss (fun d => intD d fun n => (0 ≤ n ∧ n ≤ 16777216) ∧ R (.lst (rangeD 0 n.toNat))) X
def rgTW (a : EM) : EM := fun ss R X => a ss (fun d => intD d fun n => (0 ≤ n ∧ n ≤ 16777216) ∧ R (.tup (rangeD 0 n.toNat))) X
def rgL2W (a b : EM) : EM := fun ss R X => a ss (fun d => intD d fun i => b ss (fun d => intD d fun n => (0 ≤ i ∧ i ≤ 16777216 ∧ 0 ≤ n ∧ n ≤ 16777216) ∧ R (.lst (rangeD i (n - i).toNat))) X) X
theorem dats_rg {i n : Int} : Dats c G (rangeD i (n - i).toNat) (rgV i n) := by
  unfold rangeD rgV
  generalize (n - i).toNat = k
  generalize List.range k = l
  induction l with
  | nil => rfl
  | cons j l ih => exact ⟨_, _, rfl, rfl, ih⟩
theorem dats_rg0 {n : Int} : Dats c G (rangeD 0 n.toNat) (rgV 0 n) := by
  have h := dats_rg (c := c) (G := G) (i := 0) (n := n)
  rwa [Int.sub_zero] at h
theorem rf_rgL (ha : RE c x w ta a) : RF c x w (tLstRg (tRg1 ta)) (rgLW a) := fun ss R X G σ H m e s Q q z =>
  ha ss _ X G σ H m e s _ (fun v d G1 H1 g1 d1 m1 => by
    obtain ⟨n, rfl, ⟨h0, h1⟩, hr⟩ := of_intD m1
    exact ⟨n, d1, RgOk.of_le (Int.le_refl 0) h1 (by decide) h0, fun p hp => q p (.lst _) _ G1 _ (g1.trans (Go.put g1.ink hp)) (g1.up.free hp) (g1.ink.free hp) upd_same ⟨rfl, _, rfl, dats_rg0⟩ hr⟩) z
theorem rf_rgL2 (ha : RE c x w ta a) (hb : RE c x w tb b) : RF c x w (tLstRg (tRg2 ta tb)) (rgL2W a b) := fun ss R X G σ H m e s Q q z =>
  ha ss _ X G σ H m e s _ (fun v d G1 H1 g1 d1 m1 => by
    obtain ⟨i, rfl, m1⟩ := of_intD m1
    refine hb ss _ X G1 σ H1 m1 g1.ink (s.go g1) _ (fun u y G2 H2 g2 d2 m2 => ?_) (kx_go z g1)
    obtain ⟨n, rfl, ⟨h0, h1, h2, h3⟩, hr⟩ := of_intD m2
    exact ⟨i, n, d1, d2, RgOk.of_le h0 h3 h1 h2, fun p hp => q p (.lst _) _ G2 _ ((g1.trans g2).trans (Go.put g2.ink hp)) ((g1.trans g2).up.free hp) (g2.ink.free hp) upd_same ⟨rfl, _, rfl, dats_rg⟩ hr⟩) z
theorem re_rgT (ha : RE c x w ta a) : RE c x w (tTupRg (tRg1 ta)) (rgTW a) := fun ss R X G σ H m e s Q q z =>
  ha ss _ X G σ H m e s _ (fun v d G1 H1 g1 d1 m1 => by
    obtain ⟨n, rfl, ⟨h0, h1⟩, hr⟩ := of_intD m1
    exact ⟨n, d1, RgOk.of_le (Int.le_refl 0) h1 (by decide) h0, fun p hp => q (.ref p) _ _ _ (g1.trans (Go.new g1.ink hp)) (dat_newT dats_rg0 (g1.ink.free hp)) hr⟩) z
/-! ### [e for .. for ..] -/
def innW (it : AM) (vs : List Nat) (g : GM) (t : TM) (e : EM) : SS → List Dt → (List Dt → Prop) → Prop := fun s acc K => it s (fun l => acc.length + l.length < 1000000 ∧ lcL (wipeS s vs) g t e l acc K) xF
def lc2W (it : AM) (vs : List Nat) (g : GM) (t : TM) (it1 : AM) (vs1 : List Nat) (g1 : GM) (t1 : TM) (e : EM) : EM := fun ss R X => it ss (fun l => lc2L (wipeS ss vs) g t (innW it1 vs1 g1 t1 e) l [] fun acc => R (.lst acc)) X
theorem rf_lc2 {wi wi1 : TI} {it it1 : AM} {g g1 : TG} {gm gm1 : GM} {tt tt1 : TT} {t t1 : TM} {vs vs1 : List Nat} (hv : ∀ i ∈ vs1, i ∈ vs) (hi : RI c x w wi it) (hg : RG c x vs g gm) (ht : RT c x none tt t) (hi1 : RI c x none wi1 it1) (hg1 : RG c x vs1 g1 gm1) (ht1 : RT c x none tt1 t1) (he : RE c x none te e) :
    RF c x w (tLc2 wi g tt wi1 g1 tt1 te vs vs1) (lc2W it vs gm t it1 vs1 gm1 t1 e) := fun ss R X G σ H m ex s Q q z =>
  hi ss _ X G σ H m ex s _ (fun J l G1 H1 g1' wk m1 => by
    have s1 := s.go g1'
    intro D nD
    have nG : G1 D = none := g1'.ink.free nD
    refine ⟨fun i m H' => m = l.length - i ∧ i ≤ l.length ∧ ∃ (G' : Hp) (acc : List Dt) (xs : List V), Go c G1 H1 G' H' ∧ G' D = none ∧ H' D = some (.lst xs) ∧ Dats c G' acc xs ∧ lc2L (wipeS ss vs) gm t (innW it1 vs1 gm1 t1 e) (l.drop i) acc fun acc => R (.lst acc),
      ⟨l.length, by simp, Nat.zero_le _, G1, [], [], Go.put g1'.ink nD, nG, upd_same, rfl, m1⟩, ?_⟩
    rintro i m H2 ⟨rfl, hi', G2, acc, xs, g2, n2, e2, d2, m2⟩
    by_cases hlt : i < l.length
    · refine .inr ⟨wk.goes i H2 hlt (g2.kn.trans g2.ink.ex), fun H' => ∃ (G' : Hp) (acc : List Dt) (xs : List V), Go c G1 H1 G' H' ∧ G' D = none ∧ H' D = some (.lst xs) ∧ Dats c G' acc xs ∧ lc2L (wipeS ss vs) gm t (innW it1 vs1 gm1 t1 e) (l.drop (i + 1)) acc fun acc => R (.lst acc), fun H' p' => ⟨l.length - (i + 1), by omega, rfl, hlt, p'⟩, fun v H3 y => ?_⟩
      obtain ⟨d, G3, hd3, g3, dx⟩ := wk.yields i H2 v H3 hlt (g2.kn.trans g2.ink.ex) y G2 g2.kn g2.ink
      have e3 : H3 D = some (.lst xs) := g3.up.st D _ e2 (flat_lst (a := D)).1
      have n3 : G3 D = none := g3.nw D _ n2 e2 (fun _ z => by cases z)
      rw [drop_at hd3] at m2
      have s3 : Sv c x G3 H3 (wipe σ vs) (wipeS ss vs) := ((s1.go g2).go g3).wipe vs
      refine hg d _ _ m2 G3 H3 _ v g3.ink s3 dx _ fun σ4 s4 sv4 w4 m4 => ⟨by rw [w4]; exact wipe_wipe fun _ h => h, ?_⟩
      refine ht s4 _ xF G3 σ4 H3 m4 g3.ink sv4.1 _ (fun b G5 H5 g5 m5 => ?_) fun _ _ _ _ _ _ _ hc => hc.elim
      have e5 : H5 D = some (.lst xs) := g5.up.st D _ e3 (flat_lst (a := D)).1
      have n5 : G5 D = none := g5.nw D _ n3 e3 (fun _ z => by cases z)
      have g15 := (g2.trans g3).trans g5
      have d5 := (d2.up g3.kn).up g5.kn
      cases b with
      | false => exact ⟨G5, acc, xs, g15, n5, e5, d5, ifP_f m5⟩
      | true =>
        refine hi1 s4 _ xF G5 σ4 H5 (ifP_t m5) g5.ink (sv4.1.go g5) _ (fun J1 l1 G6 H6 g6 w1 ⟨hl1, m6⟩ => ?_) fun _ _ _ _ _ _ _ hc => hc.elim
        have e6 : H6 D = some (.lst xs) := g6.up.st D _ e5 (flat_lst (a := D)).1
        have n6 : G6 D = none := g6.nw D _ n5 e5 (fun _ z => by cases z)
        have g16 := g15.trans g6
        have sv6 : ∀ G' H', Go c G1 H1 G' H' → Ex G6 G' → Sv c x G' H' σ4 s4 := fun G' H' g e6 => sv4.2 G' H' ((g5.kn.trans g6.kn).trans e6) ((s1.go g).wipe vs)
        refine ⟨fun j k H' => k = l1.length - j ∧ j ≤ l1.length ∧ ∃ (G' : Hp) (ac : List Dt) (xs : List V), Go c G1 H1 G' H' ∧ Ex G6 G' ∧ G' D = none ∧ H' D = some (.lst xs) ∧ Dats c G' ac xs ∧ ac.length ≤ acc.length + j ∧ lcL (wipeS s4 vs1) gm1 t1 e (l1.drop j) ac fun acc' => lc2L (wipeS ss vs) gm t (innW it1 vs1 gm1 t1 e) (l.drop (i + 1)) acc' fun acc => R (.lst acc),
          ⟨l1.length, by simp, Nat.zero_le _, G6, acc, xs, g16, Same.refl _, n6, e6, d5.up g6.kn, Nat.le_refl _, m6⟩, ?_⟩
        rintro j k H7 ⟨rfl, hj, G7, ac, xs7, g7, x7, n7, e7, d7, la, m7⟩
        by_cases hlt1 : j < l1.length
        · refine .inr ⟨w1.goes j H7 hlt1 (x7.trans g7.ink.ex), fun H' => ∃ (G' : Hp) (ac : List Dt) (xs : List V), Go c G1 H1 G' H' ∧ Ex G6 G' ∧ G' D = none ∧ H' D = some (.lst xs) ∧ Dats c G' ac xs ∧ ac.length ≤ acc.length + (j + 1) ∧ lcL (wipeS s4 vs1) gm1 t1 e (l1.drop (j + 1)) ac fun acc' => lc2L (wipeS ss vs) gm t (innW it1 vs1 gm1 t1 e) (l.drop (i + 1)) acc' fun acc => R (.lst acc), fun H' p' => ⟨l1.length - (j + 1), by omega, rfl, hlt1, p'⟩, fun v H8 y => ?_⟩
          obtain ⟨d', G8, hd8, g8, dx8⟩ := w1.yields j H7 v H8 hlt1 (x7.trans g7.ink.ex) y G7 x7 g7.ink
          have e8 : H8 D = some (.lst xs7) := g8.up.st D _ e7 (flat_lst (a := D)).1
          have n8 : G8 D = none := g8.nw D _ n7 e7 (fun _ z => by cases z)
          rw [drop_at hd8] at m7
          have s8 : Sv c x G8 H8 (wipe σ4 vs1) (wipeS s4 vs1) := (sv6 G8 H8 (g7.trans g8) (x7.trans g8.kn)).wipe vs1
          refine hg1 d' _ _ m7 G8 H8 _ v g8.ink s8 dx8 _ fun σ9 s9 sv9 w9 m9 => ⟨by rw [w9]; exact wipe_wipe fun _ h => h, ?_⟩
          refine ht1 s9 _ xF G8 σ9 H8 m9 g8.ink sv9.1 _ (fun b G10 H10 g10 m10 => ?_) fun _ _ _ _ _ _ _ hc => hc.elim
          have e10 : H10 D = some (.lst xs7) := g10.up.st D _ e8 (flat_lst (a := D)).1
          have n10 : G10 D = none := g10.nw D _ n8 e8 (fun _ z => by cases z)
          have d10 := (d7.up g8.kn).up g10.kn
          cases b with
          | false => exact ⟨G10, ac, xs7, (g7.trans g8).trans g10, (x7.trans g8.kn).trans g10.kn, n10, e10, d10, by omega, ifP_f m10⟩
          | true =>
            refine he s9 _ xF G10 σ9 H10 (ifP_t m10) g10.ink (sv9.1.go g10) _ (fun y dy G11 H11 g11 d11 m11 => ?_) fun _ _ _ _ _ _ _ hc => hc.elim
            have e11 : H11 D = some (.lst xs7) := g11.up.st D _ e10 (flat_lst (a := D)).1
            have n11 : G11 D = none := g11.nw D _ n10 e10 (fun _ z => by cases z)
            have gg := ((g7.trans g8).trans g10).trans g11
            exact ⟨xs7, e11, by rw [d7.len]; exact sz_lt (by omega), G11, ac ++ [dy], xs7 ++ [y], gg.turn n11 nD e11 flat_lst, ((x7.trans g8.kn).trans g10.kn).trans g11.kn, n11, upd_same, Dats.snoc (d10.up g11.kn) d11, by simp; omega, m11⟩
        · have e : j = l1.length := by omega
          subst e
          rw [List.drop_length] at m7
          exact .inl ⟨w1.stops H7 (x7.trans g7.ink.ex), G7, ac, xs7, g7, n7, e7, d7, m7⟩
    · have e : i = l.length := by omega
      subst e
      rw [List.drop_length] at m2
      exact .inl ⟨wk.stops H2 (g2.kn.trans g2.ink.ex), q D (.lst acc) _ G2 H2 (g1'.trans g2) (g1'.up.free nD) n2 e2 ⟨rfl, xs, rfl, d2⟩ m2⟩) z
end
section
variable {c : Kc} {x : Mx} {w : Option WX}
def dnewW : EM := fun _ R _ => R (.dic [])
theorem rf_dnew : RFb false c x w tDNewK dnewW := fun ss R X G σ H m e s Q q z p hp => q p (.dic []) _ G _ (Go.put e hp) hp (e.free hp) upd_same ⟨rfl, [], rfl, rfl⟩ m
theorem re_dnew : RE c x w (tFrz tDNewK) dnewW := re_frz rf_dnew
end
end Mw

set_option Elab.async false
set_option linter.all false
set_option maxRecDepth 100000
set_option maxHeartbeats 4000000
namespace Mw
open PySem PySem.Spec PyProof.Rows L2
/-! ### enumerate(text): pairs of a number and a sign -/
/-- n turns over the text z, each a new pair -/
def ItEs (z : Str) : It :=
  ⟨fun i _ => i < z.cps.size, fun i H v H' => ∃ T c, v = .ref T ∧ H T = none ∧ z.cps[i]? = some c ∧ H' = upd H T (.tup [.int (i : Nat), .str ⟨#[c]⟩]), fun i _ => z.cps.size = i⟩
theorem draws_str {prog : Program} {w : World} {A : Around} (hh : A.handled = none) (it : Addr) (x : Str) (t : Tok) :
    Draws prog w A it [it] x.cps.size (fun i v => ∃ c u, x.cps[i]? = some c ∧ v = .str ⟨#[c]⟩ u) (fun i h => h.IsStrIter it (strIterType x) x t i) := by
  unfold strIterType
  cases x.cps.all (· < 128)
  · exact Draws.strWide hh it x t
  · exact Draws.strAscii hh it x t
theorem turn_es {P : Program} {w : World} {K : PySem.W.Frag} {elts : List Expr} {kk : Nat} {tpos : Pos} (z : Str) (t : Tok) (e it : Addr) (hne : e ≠ it) :
    Turn P w K (.Tuple elts kk tpos) (ItEs z) [e, it] e (fun i h => (∃ old, IsEnum h e it ((i : Nat) : Int) old) ∧ h.IsStrIter it (strIterType z) z t i) := by
  have two : ∀ {b : Addr}, b ∈ [e, it] → b = e ∨ b = it := fun hb => by simpa using hb
  refine ⟨by simp, fun i h st b hb => ?_, fun i h h' st k => ?_, ?_, ?_, fun A i s Q E st h => let ⟨⟨_, he⟩, _⟩ := st; wpAny_pyIter_enum he h⟩
  · obtain ⟨⟨old, he⟩, o, ho, _, hd⟩ := st
    rcases two hb with rfl | rfl
    · exact ⟨_, he, fun v q => nomatch q⟩
    · exact ⟨o, ho, fun v q => by rw [hd] at q; cases q⟩
  · obtain ⟨⟨old, he⟩, o, ho, r⟩ := st
    exact ⟨⟨old, k e (by simp) _ he⟩, o, k it (by simp) o ho, r⟩
  · rintro X rfl rfl rfl hc i pins s σ H E I hf ⟨⟨old, he⟩, hst⟩ (hg : i < z.cps.size)
    have le : e < s.heap.objs.size := Heap.lt_size he
    have li : it < s.heap.objs.size := let ⟨_, q, _⟩ := hst; Heap.lt_size q
    have D := draws_str (prog := X.prog) (w := X.w) (A := X.A.in1) (I.ok.hd hc) it z t
    refine wpAny_pyNext_enum_itemD D he hst hg hne (by simpa using hne) fun u h1 tk pu ho hst' hT hsz hk => ?_
    obtain ⟨c, tu, hcz, rfl⟩ := pu
    refine ⟨_, rfl, wpAny_letOwnedTupleGo_enum (s := { s with heap := h1, toks := tk + 1 }) ho fun h2 he' sb => ?_⟩
    have hT2 := (sb.2 s.heap.objs.size (Nat.ne_of_gt le)).trans hT
    have fr : H s.heap.objs.size = none := I.hok.fresh (Nat.le_refl _)
    have I1 : Inv X pins σ (upd H s.heap.objs.size (.tup [.int (i : Nat), .str ⟨#[c]⟩])) { s with heap := h2, toks := tk + 1 } :=
      I.turnedNew (ch := [e, it]) (fun b ob hb q => (sb.2 b (fun y => hb (by simp [y]))).trans (hk b ob (fun y => hb (by simp [y])) (fun y => hb (by simp [y])) q)) hf (Nat.le_refl _)
        ⟨by show 2 ≤ sizeLine; decide, [Value.int i tk, Value.str ⟨#[c]⟩ tu], .cons ⟨_, rfl⟩ (.cons ⟨_, rfl⟩ .nil), ⟨_, hT2, rfl, _, rfl⟩⟩
    refine ⟨.ref s.heap.objs.size, _, I1, rfl, ⟨_, c, rfl, fr, hcz, rfl⟩, ⟨⟨Value.str ⟨#[c]⟩ tu, ?_⟩, ?_⟩, fun b hb => ?_⟩
    · have e1 : ((i + 1 : Nat) : Int) = (i : Int) + 1 := by omega
      rw [e1]; exact he'
    · obtain ⟨o, q, r⟩ := hst'
      exact ⟨o, (sb.2 it (Ne.symm hne)).trans q, r⟩
    · have lb : b < s.heap.objs.size := by rcases two hb with rfl | rfl <;> assumption
      rw [upd_ne (Nat.ne_of_lt lb)]
      exact (hf b hb).1
  · rintro X rfl rfl rfl hc i pins s σ H E I hf ⟨⟨old, he⟩, hst⟩ (hg : z.cps.size = i)
    subst hg
    obtain ⟨f0, f1, f2, f3, f4, f5⟩ := hf it (by simp)
    have D := draws_str (prog := X.prog) (w := X.w) (A := X.A.in1) (I.ok.hd hc) it z t
    exact wpAny_pyNext_enum_endD D he hst fun h' eb => ⟨rfl, I.turned (t' := s.toks) (fun b o hb q => eb b o hb q) f0 f1 f3 f4 f5⟩
def iEnumS (ta : TA) : TI := fun σ H R => ta σ H fun vs H1 => ∃ z, vs = [.str z] ∧ R (ItEs z) H1
theorem pi_enumS {X : Cx} {e : Expr} {ta : TA} {p pos tpos : Pos} {elts : List Expr} {kk : Nat} (hg : Gl X "enumerate") (hm : X.mg "enumerate" = none) (ha : PA X [e] ta) (hs : starEach [e] X.env = [(false, eval e X.env)] := by rfl) :
    PI X (.Tuple elts kk tpos) (.Call (.Name "enumerate" p) [e] [] pos) (iEnumS ta) := by
  constructor
  intro pins s σ H R I h
  refine Call_ (ld_blt I hg hm boot_enumerate (PyProof.Rows.callWith_type1 (thn (ha.run pos pins s σ H _ I h) fun us s1 ⟨vs, H1, I1, r1, z, ez, q⟩ => ?_) hs rfl))
  subst ez
  obtain ⟨u, rfl, t, rfl⟩ := vals1 r1
  refine call_enumerate_str fun h1 he hit hsz hk => wpAny_pyIter_enum he ?_
  refine ⟨_, [s1.heap.objs.size + 1, s1.heap.objs.size], _, _, H1, rfl, I1.kept (t' := s1.toks) hk, turn_es z t (s1.heap.objs.size + 1) s1.heap.objs.size (Nat.succ_ne_self _), ⟨⟨.none, he⟩, hit⟩, fun b hb => ?_, q⟩
  have lb : s1.heap.objs.size ≤ b := by
    have e2 : b = s1.heap.objs.size + 1 ∨ b = s1.heap.objs.size := by simpa using hb
    rcases e2 with rfl | rfl
    · exact Nat.le_succ _
    · exact Nat.le_refl _
  exact I1.fpOk lb (I1.hok.fresh lb)
section
variable {c : Kc} {x : Mx} {w : Option WX}
def enumD (z : Str) : List Dt := z.cps.toList.mapIdx fun i c => .tup [.int (i : Nat), .str ⟨#[c]⟩]
theorem wd_es {G : Hp} {z : Str} : WalkD c (ItEs z) (enumD z) G := by
  have e : (enumD z).length = z.cps.size := by simp [enumD]
  unfold WalkD
  rw [e]
  refine ⟨fun i H hi _ => hi, fun H _ => rfl, fun i H x H' hi _ y G2 e2 e3 => ?_⟩
  obtain ⟨T, ch, rfl, hT, hc, rfl⟩ := y
  have hc2 : z.cps.toList[i]? = some ch := by simpa using hc
  refine ⟨.tup [.int (i : Nat), .str ⟨#[ch]⟩], upd G2 T (.tup [.int (i : Nat), .str ⟨#[ch]⟩]), ?_, Go.new e3 hT, dat_newT (show Dats c G2 [.int (i : Nat), .str ⟨#[ch]⟩] _ from ⟨_, _, rfl, rfl, _, _, rfl, rfl, rfl⟩) (e3.free hT)⟩
  simp [enumD, List.getElem?_mapIdx, hc2]
def enumSD : List Dt → (List Dt → Prop) → Prop
  | [.str z], R => R (enumD z)
  | _, _ => False
theorem ri_enumS {ta : TA} {as : AM} (ha : RA c x w ta as) : RI c x w (iEnumS ta) (itAW enumSD as) := fun ss R X G σ H m e s Q q z =>
  ha ss _ X G σ H m e s _ (fun vs l G1 H1 g1 d1 m1 => by
    match l, m1 with
    | [.str y], m1 =>
      obtain ⟨v, r, rfl, hv, hr⟩ := d1
      cases hv; cases hr
      exact ⟨y, rfl, q _ _ G1 H1 g1 wd_es m1⟩) z
end
/-! ### repr of data with dicts in it -/
mutual
inductive Rq (h : Heap) : Value → PyData → Prop
  | non : Rq h .none .none
  | bl (b : Bool) : Rq h (.bool b) (.bool b)
  | num (i : Int) (t : Tok) : Rq h (.int i t) (.int i)
  | txt (x : Str) (t : Tok) : Rq h (.str x t) (.str x)
  | lst {a : Addr} {o : Obj} {vs : Array Value} {n : Nat} {xs : List PyData} (h1 : h.get? a = some o) (h2 : o.cls = .type "list") (h3 : o.data = .seq vs n) (h4 : Rqs h vs.toList xs) : Rq h (.ref a) (.list xs)
  | tup {a : Addr} {o : Obj} {vs : Array Value} {n : Nat} {xs : List PyData} (h1 : h.get? a = some o) (h2 : o.cls = .type "tuple") (h3 : o.data = .seq vs n) (h4 : Rqs h vs.toList xs) : Rq h (.ref a) (.tuple xs)
  | dic {a : Addr} {o : Obj} {es : Array DictEntry} {n : Nat} {kvs : List (PyData × PyData)} (h1 : h.get? a = some o) (h2 : o.cls = .type "dict") (h3 : o.data = .dict es n) (hy : (a == sysModules) = false)
      (h4 : Rqs h (es.toList.map (·.key)) (kvs.map (·.1))) (h5 : Rqs h (es.toList.map (·.val)) (kvs.map (·.2))) : Rq h (.ref a) (.dict kvs)
inductive Rqs (h : Heap) : List Value → List PyData → Prop
  | nil : Rqs h [] []
  | cons {v : Value} {vs : List Value} {d : PyData} {ds : List PyData} (h1 : Rq h v d) (h2 : Rqs h vs ds) : Rqs h (v :: vs) (d :: ds)
end
section
variable {h : Heap} {P : Program} {w : World}
mutual
theorem Rq.rds : ∀ {v : Value} {d : PyData}, Rq h v d → ∃ as, Reads h v d as
  | _, _, .non => ⟨_, .none⟩
  | _, _, .bl b => ⟨_, .bool b⟩
  | _, _, .num i t => ⟨_, .int i t⟩
  | _, _, .txt x t => ⟨_, .str x t⟩
  | _, _, .lst h1 h2 h3 h4 => let ⟨_, q⟩ := h4.rds; ⟨_, .list h1 h2 h3 q⟩
  | _, _, .tup h1 h2 h3 h4 => let ⟨_, q⟩ := h4.rds; ⟨_, .tuple h1 h2 h3 q⟩
  | _, _, .dic h1 h2 h3 _ h4 h5 => let ⟨_, q⟩ := h4.rds; let ⟨_, r⟩ := h5.rds; ⟨_, .dict h1 h2 h3 q r⟩
theorem Rqs.rds : ∀ {v : List Value} {d : List PyData}, Rqs h v d → ∃ as, ReadsAll h v d as
  | _, _, .nil => ⟨_, .nil⟩
  | _, _, .cons h1 h2 => let ⟨_, q⟩ := h1.rds; let ⟨_, r⟩ := h2.rds; ⟨_, .cons q r⟩
end
theorem Rqs.nilL {d : List PyData} (q : Rqs h [] d) : d = [] := by cases q; rfl
/-- what is shown of an entry's two sides -/
theorem ents {bs cs : List Addr} {kvs : List (PyData × PyData)} {es : List DictEntry} (k1 : ReprAllK P w bs h (PyData.depthAll (kvs.map (·.1))) (es.map (·.key)) (PyData.shownAll (kvs.map (·.1))))
    (k2 : ReprAllK P w cs h (PyData.depthAll (kvs.map (·.2))) (es.map (·.val)) (PyData.shownAll (kvs.map (·.2)))) : ReprEntriesK P w (bs ++ cs) h (PyData.depthKv kvs) es (PyData.shownKv kvs) := by
  rw [PyData.shownKv_eq]
  exact .of_two _ _ _ (k1.more_le (fun _ z => List.mem_append.mpr (.inl z)) (PyData.depthAll_keys_le kvs)) (k2.more_le (fun _ z => List.mem_append.mpr (.inr z)) (PyData.depthAll_vals_le kvs))
mutual
theorem Rq.sh : ∀ {v : Value} {d : PyData}, Rq h v d → d.showable = true → d.shown.length ≤ sizeLine → ∃ bs, ReadAtMost h d.depth bs ∧ ReprK P w bs h d.depth v d.shown
  | _, _, .non, _, _ => ⟨[], (fun _ z => nomatch z), .of_is ReprIs.none _ _ _⟩
  | _, _, .bl b, _, _ => ⟨[], (fun _ z => nomatch z), .of_is (ReprIs.bool b) _ _ _⟩
  | _, _, .num i t, hs, _ => ⟨[], (fun _ z => nomatch z), .of_is (ReprIs.int t (of_decide_eq_true hs)) _ _ _⟩
  | _, _, .txt x t, _, hz => ⟨[], (fun _ z => nomatch z), .of_is (ReprIs.str x t hz) _ _ _⟩
  | _, _, .lst (a := a) (vs := vs) (xs := xs) h1 h2 h3 h4, hs, hz => by
    have hz : (listText (PyData.shownAll xs)).length ≤ sizeLine := hz
    obtain ⟨bs, hb, hk⟩ := h4.sh hs fun t ht => Nat.le_trans (listText_mem_le ht) hz
    obtain ⟨_, r4⟩ := h4.rds
    have r : Reads h (.ref a) (.list xs) _ := .list h1 h2 h3 r4
    have hn := not_mem_of_deeper r (Nat.lt_succ_self (PyData.depthAll xs)) hb
    refine ⟨a :: bs, .cons r (Nat.le_succ (PyData.depthAll xs)) hb, ?_⟩
    obtain ⟨l⟩ := vs
    match l, h3, h4, hk with
    | [], h3, h4, _ =>
      cases h4.nilL
      exact ReprK.listEmpty h1 h2 h3
    | x :: l, h3, h4, hk => exact ReprK.list h1 h2 h3 hn (by simpa using hk.length_eq) fun i y e => hk.item i y (by simpa using e)
  | _, _, .tup (a := a) (xs := xs) h1 h2 h3 h4, hs, hz => by
    have hz : (tupleText (PyData.shownAll xs)).length ≤ sizeLine := hz
    obtain ⟨bs, hb, hk⟩ := h4.sh hs fun t ht => Nat.le_trans (tupleText_mem_le ht) hz
    obtain ⟨_, r4⟩ := h4.rds
    have r : Reads h (.ref a) (.tuple xs) _ := .tuple h1 h2 h3 r4
    exact ⟨a :: bs, .cons r (Nat.le_succ (PyData.depthAll xs)) hb, ReprK.tuple h1 h2 h3 (not_mem_of_deeper r (Nat.lt_succ_self (PyData.depthAll xs)) hb) hk⟩
  | _, _, .dic (a := a) (es := es) (kvs := kvs) h1 h2 h3 hy h4 h5, hs, hz => by
    have hz : (dictText (PyData.shownKv kvs)).length ≤ sizeLine := hz
    obtain ⟨s1, s2⟩ := PyData.showableKv_split kvs hs
    obtain ⟨b1, hb1, k1⟩ := h4.sh s1 fun t ht => let ⟨p, hp, hl⟩ := PyData.shownKv_key_le kvs t ht; Nat.le_trans hl (Nat.le_trans (dictText_mem_le hp) hz)
    obtain ⟨b2, hb2, k2⟩ := h5.sh s2 fun t ht => let ⟨p, hp, hl⟩ := PyData.shownKv_val_le kvs t ht; Nat.le_trans hl (Nat.le_trans (dictText_mem_le hp) hz)
    obtain ⟨_, r4⟩ := h4.rds
    obtain ⟨_, r5⟩ := h5.rds
    have r : Reads h (.ref a) (.dict kvs) _ := .dict h1 h2 h3 r4 r5
    have hb := (hb1.mono (PyData.depthAll_keys_le kvs)).append (hb2.mono (PyData.depthAll_vals_le kvs))
    exact ⟨a :: (b1 ++ b2), .cons r (Nat.le_succ (PyData.depthKv kvs)) hb, ReprK.dict h1 h2 h3 hy (not_mem_of_deeper r (Nat.lt_succ_self (PyData.depthKv kvs)) hb) (ents k1 k2)⟩
theorem Rqs.sh : ∀ {v : List Value} {d : List PyData}, Rqs h v d → PyData.showableAll d = true → (∀ t ∈ PyData.shownAll d, t.length ≤ sizeLine) → ∃ bs, ReadAtMost h (PyData.depthAll d) bs ∧ ReprAllK P w bs h (PyData.depthAll d) v (PyData.shownAll d)
  | _, _, .nil, _, _ => ⟨[], (fun _ z => nomatch z), .nil⟩
  | _, _, .cons (d := d) (ds := ds) h1 h2, hs, hz => by
    obtain ⟨s1, s2⟩ := Bool.and_eq_true_iff.mp (show (d.showable && PyData.showableAll ds) = true from hs)
    obtain ⟨b1, hb1, k1⟩ := h1.sh s1 (hz _ (List.mem_cons_self ..))
    obtain ⟨b2, hb2, k2⟩ := h2.sh s2 fun t ht => hz t (List.mem_cons_of_mem _ ht)
    exact ⟨b1 ++ b2, (hb1.mono (Nat.le_max_left _ _)).append (hb2.mono (Nat.le_max_right _ _)), .cons ((k1.more fun _ z => List.mem_append.mpr (.inl z)).level_le (Nat.le_max_left _ _)) (k2.more_le (fun _ z => List.mem_append.mpr (.inr z)) (Nat.le_max_right _ _))⟩
end
theorem Rq.repr {A : Around} {E : Value → Shared → Prop} {s : Shared} {Q : Value → Shared → Prop} {v : Value} {d : PyData} (r : Rq s.heap v d) (hs : d.showable = true) (hg : A.guards = some []) (hu : A.units + (d.depth + 1) < cLine) (hz : d.shown.length ≤ sizeLine)
    (hQ : ∀ h' u tk, (∀ b o, s.heap.get? b = some o → h'.get? b = some o) → Q (.str d.shown u) { s with heap := h', toks := tk }) : wpAny (model P w) A (call (.builtin "repr") [v]) Q E s := by
  have same : ∀ b o, s.heap.get? b = some o → s.heap.get? b = some o := fun _ _ e => e
  cases r with
  | non => exact PySem.P.repr_of_none (hQ _ _ _ same)
  | bl b => exact PySem.P.repr_of_bool (hQ _ _ _ same)
  | num i t => exact PySem.P.repr_of_int (of_decide_eq_true hs) (hQ _ _ _ same)
  | txt x t => exact PySem.P.repr_of_str (hQ _ _ _ same) hz
  | @lst a o vs n xs h1 h2 h3 h4 =>
    have hz : (listText (PyData.shownAll xs)).length ≤ sizeLine := hz
    have hu : A.units + (PyData.depthAll xs + 1 + 1) < cLine := hu
    obtain ⟨bs, hb, hk⟩ := h4.sh (P := P) (w := w) hs fun t ht => Nat.le_trans (listText_mem_le ht) hz
    obtain ⟨_, r4⟩ := h4.rds
    have hn := not_mem_of_deeper (Reads.list h1 h2 h3 r4) (Nat.lt_succ_self (PyData.depthAll xs)) hb
    refine call_repr_slot (by omega) ⟨o, h1, h2⟩ F.slot_list_repr.toG ?_
    obtain ⟨l⟩ := vs
    match l, h3, h4, hk with
    | [], h3, h4, _ =>
      cases h4.nilL
      exact call_list_repr_empty ⟨o, h1, h2⟩ h1 h3 ⟨_, _, rfl, hQ s.heap _ _ same⟩
    | x :: l, h3, h4, hk => exact call_list_reprK h1 h2 h3 hn (by simpa using hk.length_eq) (fun i y e => hk.item i y (by simpa using e)) hg (fun b _ => Clear.nil b) (by show A.units + 1 + _ < cLine; omega) same (fun h' u tk k => ⟨_, _, rfl, hQ h' u tk k⟩) hz
  | @tup a o vs n xs h1 h2 h3 h4 =>
    have hz : (tupleText (PyData.shownAll xs)).length ≤ sizeLine := hz
    have hu : A.units + (PyData.depthAll xs + 1 + 1) < cLine := hu
    obtain ⟨bs, hb, hk⟩ := h4.sh (P := P) (w := w) hs fun t ht => Nat.le_trans (tupleText_mem_le ht) hz
    obtain ⟨_, r4⟩ := h4.rds
    have hn := not_mem_of_deeper (Reads.tuple h1 h2 h3 r4) (Nat.lt_succ_self (PyData.depthAll xs)) hb
    exact call_repr_slot (by omega) ⟨o, h1, h2⟩ F.slot_tuple_repr (call_tuple_reprK h1 h2 h3 hn hk hg (fun b _ => Clear.nil b) (by show A.units + 1 + _ < cLine; omega) same (fun h' u tk k => ⟨_, _, rfl, hQ h' u tk k⟩) hz)
  | @dic a o es n kvs h1 h2 h3 hy h4 h5 =>
    have hz : (dictText (PyData.shownKv kvs)).length ≤ sizeLine := hz
    have hu : A.units + (PyData.depthKv kvs + 1 + 1) < cLine := hu
    obtain ⟨s1, s2⟩ := PyData.showableKv_split kvs hs
    obtain ⟨b1, hb1, k1⟩ := h4.sh (P := P) (w := w) s1 fun t ht => let ⟨p, hp, hl⟩ := PyData.shownKv_key_le kvs t ht; Nat.le_trans hl (Nat.le_trans (dictText_mem_le hp) hz)
    obtain ⟨b2, hb2, k2⟩ := h5.sh (P := P) (w := w) s2 fun t ht => let ⟨p, hp, hl⟩ := PyData.shownKv_val_le kvs t ht; Nat.le_trans hl (Nat.le_trans (dictText_mem_le hp) hz)
    obtain ⟨_, r4⟩ := h4.rds
    obtain ⟨_, r5⟩ := h5.rds
    have hb := (hb1.mono (PyData.depthAll_keys_le kvs)).append (hb2.mono (PyData.depthAll_vals_le kvs))
    have hn := not_mem_of_deeper (Reads.dict h1 h2 h3 r4 r5) (Nat.lt_succ_self (PyData.depthKv kvs)) hb
    exact call_repr_slot (by omega) ⟨o, h1, h2⟩ F.slot_dict_repr (call_dict_reprK h1 h2 h3 hy hn (ents k1 k2) hg (fun b _ => Clear.nil b) (by show A.units + 1 + _ < cLine; omega) same (fun h' u tk k => ⟨_, _, rfl, hQ h' u tk k⟩) hz)
end
/-! data of any kind, dicts too -/
def keyP : Key → PyData
  | .inl i => .int i
  | .inr x => .str x
mutual
def toPq : Dt → Option PyData
  | .non => some .none
  | .bl b => some (.bool b)
  | .int i => some (.int i)
  | .str x => some (.str x)
  | .lst l => (toPqs l).map .list
  | .sq l => (toPqs l).map .list
  | .tup l => (toPqs l).map .tuple
  | .dic l => (toPqk l).map .dict
  | _ => none
def toPqs : List Dt → Option (List PyData)
  | [] => some []
  | d :: l => match toPq d, toPqs l with
    | some p, some q => some (p :: q)
    | _, _ => none
def toPqk : List (Key × Dt) → Option (List (PyData × PyData))
  | [] => some []
  | (k, d) :: l => match toPq d, toPqk l with
    | some p, some q => some ((keyP k, p) :: q)
    | _, _ => none
end
theorem key_rq {h : Heap} {k : Key} {v : Value} (e : keyIs k v = true) : Rq h v (keyP k) := by
  rcases keyIs_shape e with ⟨i, t, rfl, rfl⟩ | ⟨x, t, rfl, rfl⟩
  · exact .num i t
  · exact .txt x t
section
variable {X : Cx} {c : Kc} {pins : List (Addr × Obj)} {σ : L2.St} {G H : Hp} {s : Shared}
mutual
theorem rq_of (hK : X.K = c.K) (I : Inv X pins σ H s) (ex : Ex G H) : ∀ {d : Dt} {p : PyData} {v : V} {u : Value}, Dat c G d v → toPq d = some p → RelV v u → Rq s.heap u p
  | .non, _, _, _, h, e, r => by cases h; cases e; cases r; exact .non
  | .bl _, _, _, _, h, e, r => by cases h; cases e; cases r; exact .bl _
  | .int _, _, _, _, h, e, r => by cases h; cases e; obtain ⟨t, rfl⟩ := r; exact .num _ _
  | .str _, _, _, _, h, e, r => by cases h; cases e; obtain ⟨t, rfl⟩ := r; exact .txt _ _
  | .lst l, _, _, _, ⟨a, xs, h1, h2, h3⟩, e, r => by
    subst h1
    cases r
    obtain ⟨ps, q, rfl⟩ := Option.map_eq_some_iff.mp (show (toPqs l).map PyData.list = some _ from e)
    obtain ⟨its, rv, ⟨o, n, ho, hc, _, hd⟩, _⟩ := I.list (.inl (.inl (ex _ _ h2)))
    exact .lst ho hc hd (rqs_of hK I ex h3 q rv)
  | .sq l, _, _, _, ⟨a, xs, h1, h2, h3⟩, e, r => by
    subst h1
    cases r
    obtain ⟨ps, q, rfl⟩ := Option.map_eq_some_iff.mp (show (toPqs l).map PyData.list = some _ from e)
    obtain ⟨its, rv, ⟨o, n, ho, hc, _, hd⟩, _⟩ := I.list (by rw [hK]; exact ex.seq h2)
    exact .lst ho hc hd (rqs_of hK I ex h3 q rv)
  | .tup l, _, _, _, ⟨a, xs, h1, h2, h3⟩, e, r => by
    subst h1
    cases r
    obtain ⟨ps, q, rfl⟩ := Option.map_eq_some_iff.mp (show (toPqs l).map PyData.tuple = some _ from e)
    obtain ⟨its, rv, ⟨o, ho, hc, n, hd⟩, _⟩ := I.tuple (by rw [hK]; exact Ex.tp ex h2)
    exact .tup ho hc hd (rqs_of hK I ex h3 q rv)
  | .dic l, _, _, _, ⟨a, ob, kvs, h1, h2, h3⟩, e, r => by
    subst h1
    cases r
    obtain ⟨ps, q, rfl⟩ := Option.map_eq_some_iff.mp (show (toPqk l).map PyData.dict = some _ from e)
    obtain ⟨_, hy, vs, rel, o, es, ep, ho, hx, hd, _, hp, _⟩ := dk_rd I.hok (.inr ⟨ob, ex _ _ h2⟩)
    obtain ⟨k1, k2⟩ := rqk_of hK I ex h3 q rel hp
    exact .dic ho hx.1 hd hy k1 k2
  | .ty _, _, _, _, _, e, _ => by cases e
  | .dit _, _, _, _, _, e, _ => by cases e
  | .set _, _, _, _, _, e, _ => by cases e
  | .ins _ _, _, _, _, _, e, _ => by cases e
  | .cls _, _, _, _, _, e, _ => by cases e
  | .dice, _, _, _, _, e, _ => by cases e
  | .adr _, _, _, _, _, e, _ => by cases e
theorem rqs_of (hK : X.K = c.K) (I : Inv X pins σ H s) (ex : Ex G H) : ∀ {l : List Dt} {ps : List PyData} {xs : List V} {us : List Value}, Dats c G l xs → toPqs l = some ps → Vals xs us → Rqs s.heap us ps
  | [], _, _, _, h, e, r => by cases h; cases e; cases r; exact .nil
  | d :: l, _, _, _, ⟨x, r, h1, h2, h3⟩, e, rv => by
    subst h1
    cases rv with
    | cons r1 r2 =>
      have e : (match toPq d, toPqs l with | some p, some q => some (p :: q) | _, _ => none) = some _ := e
      cases q1 : toPq d with
      | none => rw [q1] at e; cases e
      | some p =>
        cases q2 : toPqs l with
        | none => rw [q1, q2] at e; cases e
        | some ps => rw [q1, q2] at e; cases e; exact .cons (rq_of hK I ex h2 q1 r1) (rqs_of hK I ex h3 q2 r2)
theorem rqk_of (hK : X.K = c.K) (I : Inv X pins σ H s) (ex : Ex G H) : ∀ {l : List (Key × Dt)} {ps : List (PyData × PyData)} {xs : List (Key × V)} {us : List (Key × Value)} {es : List DictEntry}, Datk c G l xs → toPqk l = some ps → KV xs us → PySem.Pairs (mixKind X.prog X.w) es us →
    Rqs s.heap (es.map (·.key)) (ps.map (·.1)) ∧ Rqs s.heap (es.map (·.val)) (ps.map (·.2))
  | [], _, _, _, _, h, e, r, hp => by cases h; cases e; cases r; cases hp; exact ⟨.nil, .nil⟩
  | (k, d) :: l, _, _, _, _, ⟨x, r, h1, h2, h3⟩, e, rv, hp => by
    subst h1
    cases rv with
    | cons r1 r2 =>
      cases hp with
      | cons p1 p2 p3 =>
        have e : (match toPq d, toPqk l with | some p, some q => some ((keyP k, p) :: q) | _, _ => none) = some _ := e
        cases q1 : toPq d with
        | none => rw [q1] at e; cases e
        | some p =>
          cases q2 : toPqk l with
          | none => rw [q1, q2] at e; cases e
          | some ps =>
            rw [q1, q2] at e
            cases e
            obtain ⟨k1, k2⟩ := rqk_of hK I ex h3 q2 r2 p3
            have r1' := r1.1
            have r1'' := r1.2
            rw [← p2] at r1''
            exact ⟨.cons (key_rq (by rw [show k = _ from r1']; exact p1)) k1, .cons (rq_of hK I ex h2 q1 r1'') k2⟩
end
end
/-- repr of data, dicts too -/
def rReprQ (c : Kc) : List V → Hp → VK → Prop := fun xs H Q => ∃ x d G p, xs = [x] ∧ Ex G H ∧ Dat c G d x ∧ toPq d = some p ∧ fitD p = true ∧ p.depth ≤ 60 ∧ szD p ≤ 1000000 ∧ Q (.str p.shown) H
theorem callReprQ {X : Cx} {c : Kc} (hK : X.K = c.K) (hA : X.A.guards = some []) (hu : X.A.units + 64 < cLine) : CallR X (.builtin "repr") (rReprQ c) := by
  intro pins s σ H xs us Q I r h
  obtain ⟨x, d, G, p, rfl, ex, hd, hp, hf, hdp, hz, q⟩ := h
  have hs := showable_of hf
  have hz : p.shown.length ≤ sizeLine := Nat.le_trans (shown_le hf) (sz_of hz)
  obtain ⟨u, rfl, rx⟩ := vals1 r
  exact (rq_of hK I ex hd hp rx).repr hs hA (by omega) hz fun h' t tk k => ⟨.str p.shown, H, I.kept k, ⟨_, rfl⟩, q⟩
def reprQD : DN
  | [d], R => ∃ p, toPq d = some p ∧ fitD p = true ∧ p.depth ≤ 60 ∧ szD p ≤ 1000000 ∧ R (.str p.shown)
  | _, _ => False
theorem ro_reprQ {c : Kc} : RON c (rReprQ c) reprQD := fun ds R m G H vs ex d Q q => by
  match ds, m with
  | [d0], ⟨p, hp, hf, hdp, hz, m⟩ =>
    obtain ⟨v, r, rfl, d1, d2⟩ := d
    cases d2
    exact ⟨v, d0, G, p, rfl, ex.ex, d1, hp, hf, hdp, hz, q _ (.str _) G H (Go.refl ex) rfl m⟩
theorem ro_reprQF {c : Kc} {F : Hp} : RON (c.at F) (rReprQ c) reprQD := fun ds R m G H vs ex d Q q => by
  match ds, m with
  | [d0], ⟨p, hp, hf, hdp, hz, m⟩ =>
    obtain ⟨v, r, rfl, d1, d2⟩ := d
    cases d2
    exact ⟨v, d0, G, p, rfl, ex.ex, dat_fl d1, hp, hf, hdp, hz, q _ (.str _) G H (Go.refl ex) rfl m⟩
theorem peFld {X : Cx} {K : PySem.W.Frag} (hK : X.K = K) {e : Expr} {f : Str} {ta : TE} {pos : Pos} (he : PE X e ta) (hb : attributeBase e f X.env (eval e X.env) = eval e X.env := by rfl) : PE X (.Attribute e f pos) (tFld K ta f) := by
  subst hK; exact pe_fld he hb
theorem psFld {X : Cx} {K : PySem.W.Frag} (hK : X.K = K) {o value : Expr} {f : Str} {pos pos' : Pos} {ta tv : TE} (ha : PE X o ta) (hv : PE X value tv) (hs : swapsWith value (some (.Attribute o f pos')) pos.line X.env = pure false := by rfl) : PS X (.Assign [.Attribute o f pos'] value pos) (sFld K ta tv f) := by
  subst hK; exact ps_fld ha hv hs
/-! ### defs that make lambdas -/
def DfL (K : PySem.W.Frag) (mg : Str → Option Value) (x : Str) (st : Stmt) (ps : List Str) (cA : Addr) : Prop :=
  ∃ f fd, Fun K x x st f fd ∧ Binds K fd ps [] ∧ mg x = some (.ref f) ∧ fd.code = .ref cA
section
variable {P : Program} {c : Kc} {mg : Str → Option Value} {base : Heap}
theorem ggx_ofL {x : Str} {st : Stmt} {N ps : List Str} {k n m : Nat} {b : SM} {cA : Addr} (F : DfL c.K mg x st ps cA) (S : FnScope N ps (defScope st)) (hn : n = ps.length) (hm : m = N.length)
    (hbody : ∀ (f : Addr) (A : Around) (outer : List Env) (s : Shared) (H : Hp) (E : XK), A.guards = some [] → Room k (A.deeper (envOfC x (defScope st) s.heap.objs.size f (.ref cA))) →
      ∃ t, PSs (cxOf CX0 P c.w c.K mg base N x (defScope st) f (.ref cA) A outer s H E).nox (defBody st) t ∧ RS c {} none t b) :
    Ggx P c mg base x (k + 1) ps (defW n m b) := by
  subst hn hm
  obtain ⟨f, fd, F, bb, m, hcA⟩ := F
  refine ⟨f, fd, ⟨fun vs H Q E h => ?_, fun A outer s H args us vs Q E hg hr e0 hb hv h => ?_⟩, bb, m, F.kp, lk_of F⟩
  · obtain ⟨G, ds, R, e, d, p, _⟩ := h
    rw [d.len]; exact p.1
  · obtain ⟨oc, od, kV, doc, pm, an, cdv, ct, osl, rfl, lk, hcd⟩ := F.ex
    obtain rfl : cdv = .ref cA := hcA
    obtain ⟨G, ds, R, e, d, p, q⟩ := h
    have hl : vs.length = ps.length := by rw [d.len]; exact p.1
    refine StX.run_bnd (G := fun xs H2 => xs = vs ∧ H2 = H) lk hcd S hr e0 (fun A' Ex' Q' h' => hb _ A' Ex' Q' (h' s H vs us e0 Un.refl rfl (fun _ _ z => z) hv hl ⟨rfl, rfl⟩)) fun s2 H2 xs hx hr' => ?_
    obtain ⟨rfl, rfl⟩ := hx
    obtain ⟨t, ht, hs⟩ := hbody f A outer s2 H2 E hg hr'
    exact ⟨t, ht.nox, body_endN hs e d p.2 q⟩
/-- as GivesX, by the parts of the context -/
def GivesY (P : Program) (w : World) (K : PySem.W.Frag) (mg : Str → Option Value) (base : Heap) (A : Around) (stk : List Env) (c : Kc) (Ng : List Str) (x : Str) (sg : Scope) (g : Addr) (cdg : Value) (bg : List Stmt) (a q : Str) (B : Addr → LM → SM) : Prop :=
  ∀ (f c' : Addr) (s : Shared) (H : Hp) (tl : XK → Hp → VK → Prop),
    (∀ (W : WX) (pn : List (Addr × Obj)) (xe : Value → Shared → Prop) (p1 p2 : Pos), Takes ((cxOf CX0 P w K mg base Ng x sg g cdg A stk s H E0).tr pn xe) W →
      PE ((cxOf CX0 P w K mg base Ng x sg g cdg A stk s H E0).tr pn xe) (.Call (.Name a p1) [] [] p2) (tAct f c' q tl W)) →
    ∃ t, PSs (cxOf CX0 P w K mg base Ng x sg g cdg A stk s H E0).nox bg t ∧ ∀ (F : Hp) (m : LM), F c' = some (LamX.CodeO c' q) → LamOk (c.at F) tl m → RS (c.at F) {} none t (B f m)
theorem gives_of {X : Cx} {Ng : List Str} {x : Str} {sg : Scope} {g : Addr} {cdg : Value} {bg : List Stmt} {a q : Str} {B : Addr → LM → SM} (h : GivesY X.prog X.w X.K X.mg X.base X.A X.stack c Ng x sg g cdg bg a q B) : GivesX X c Ng x sg g cdg bg a q B := h
theorem klss_at {F : Hp} (h : Klss c) : Klss (c.at F) := fun C hC => let k := h C hC; ⟨k.ci, k.kC, k.kT, k.kD⟩
end
end Mw

set_option Elab.async false
set_option linter.all false
set_option maxRecDepth 100000
set_option maxHeartbeats 4000000
namespace Mw
open PySem PySem.Spec PyProof.Rows L2
/-! ### dicts that are written out -/
def keyOf : Dt → Option Key
  | .int i => some (.inl i)
  | .str x => some (.inr x)
  | _ => none
def keysD : List (Dt × Dt) → Option (List (Key × Dt))
  | [] => some []
  | (a, b) :: l => match keyOf a, keysD l with
    | some k, some r => some ((k, b) :: r)
    | _, _ => none
def putKD {κ : Type} [DecidableEq κ] (kvs : List (κ × Dt)) (k : κ) (v : Dt) : List (κ × Dt) :=
  if (kvs.any fun kv => decide (kv.1 = k)) = true then kvs.map (fun kv => if kv.1 = k then (kv.1, v) else kv) else kvs ++ [(k, v)]
def mergeD (kvs more : List (Key × Dt)) : List (Key × Dt) := more.foldl (fun acc kv => putKD acc kv.1 kv.2) kvs
def dispP : List (EM × EM) → SS → (List (Dt × Dt) → Prop) → Xn → Prop
  | [], _, K, _ => K []
  | (k, v) :: r, ss, K, X => k ss (fun a => v ss (fun b => dispP r ss (fun l => K ((a, b) :: l)) X) X) X
def dispW (ps : List (EM × EM)) : EM := fun ss R X => dispP ps ss (fun l => ∃ kvs, keysD l = some kvs ∧ kvs.length ≤ 15 ∧ R (.dic (mergeD [] kvs))) X
section
variable {c : Kc} {x : Mx} {w : Option WX} {G : Hp}
theorem keyOf_v {d : Dt} {k : Key} {v : V} (h : Dat c G d v) (e : keyOf d = some k) : v = kV k := by
  cases d with
  | int i => cases h; cases e; rfl
  | str i => cases h; cases e; rfl
  | _ => cases e
theorem Datk.any {k : Key} : ∀ {l : List (Key × Dt)} {xs : List (Key × V)}, Datk c G l xs → (xs.any fun kv => decide (kv.1 = k)) = (l.any fun kv => decide (kv.1 = k))
  | [], _, h => by cases h; rfl
  | (k', y) :: l, _, ⟨u, r, h1, h2, h3⟩ => by subst h1; rw [List.any_cons, List.any_cons, Datk.any h3]
theorem Datk.mapKD {d : Dt} {v : V} {k : Key} (q : Dat c G d v) : ∀ {l : List (Key × Dt)} {xs : List (Key × V)}, Datk c G l xs → Datk c G (l.map fun kv => if kv.1 = k then (kv.1, d) else kv) (xs.map fun kv => if kv.1 = k then (kv.1, v) else kv)
  | [], _, h => by cases h; rfl
  | (k', y) :: l, _, ⟨u, r, h1, h2, h3⟩ => by
    subst h1
    rw [List.map_cons, List.map_cons]
    dsimp only
    by_cases e : k' = k
    · rw [if_pos e, if_pos e]; exact ⟨v, _, rfl, q, Datk.mapKD q h3⟩
    · rw [if_neg e, if_neg e]; exact ⟨u, _, rfl, h2, Datk.mapKD q h3⟩
theorem Datk.appK : ∀ {l m : List (Key × Dt)} {xs ys : List (Key × V)}, Datk c G l xs → Datk c G m ys → Datk c G (l ++ m) (xs ++ ys)
  | [], _, _, _, h, q => by cases h; exact q
  | (k', y) :: l, _, _, _, ⟨u, r, h1, h2, h3⟩, q => by subst h1; exact ⟨u, _, rfl, h2, Datk.appK h3 q⟩
theorem Datk.putKD {d : Dt} {v : V} {k : Key} (q : Dat c G d v) {l : List (Key × Dt)} {xs : List (Key × V)} (h : Datk c G l xs) : Datk c G (putKD l k d) (putK xs k v) := by
  unfold Mw.putKD putK
  rw [h.any]
  split
  · exact h.mapKD q
  · exact h.appK ⟨v, [], rfl, q, rfl⟩
theorem Datk.mergeD : ∀ {more : List (Key × Dt)} {ms : List (Key × V)} {l : List (Key × Dt)} {xs : List (Key × V)}, Datk c G more ms → Datk c G l xs → Datk c G (mergeD l more) (mergeK xs ms)
  | [], _, _, _, h, q => by cases h; exact q
  | (k, d) :: more, _, l, xs, ⟨u, r, h1, h2, h3⟩, q => by
    subst h1
    exact Datk.mergeD (l := Mw.putKD l k d) (xs := putK xs k u) h3 (Datk.putKD h2 q)
def Dat2 (c : Kc) (G : Hp) : List (Dt × Dt) → List (V × V) → Prop
  | [], xs => xs = []
  | (a, b) :: l, xs => ∃ u v r, xs = (u, v) :: r ∧ Dat c G a u ∧ Dat c G b v ∧ Dat2 c G l r
theorem dat2_keys : ∀ {l : List (Dt × Dt)} {xs : List (V × V)} {kvs : List (Key × Dt)}, Dat2 c G l xs → keysD l = some kvs → ∃ ks : List (Key × V), xs = ks.map (fun kv => (kV kv.1, kv.2)) ∧ Datk c G kvs ks
  | [], _, _, h, e => by cases h; cases e; exact ⟨[], rfl, rfl⟩
  | (a, b) :: l, _, kvs, ⟨u, v, r, h1, h2, h3, h4⟩, e => by
    subst h1
    unfold keysD at e
    cases q1 : keyOf a with
    | none => rw [q1] at e; cases e
    | some k =>
      cases q2 : keysD l with
      | none => rw [q1, q2] at e; cases e
      | some m =>
        rw [q1, q2] at e
        cases e
        obtain ⟨ks, e1, e2⟩ := dat2_keys h4 q2
        exact ⟨(k, v) :: ks, by rw [keyOf_v h2 q1, e1]; rfl, v, ks, rfl, h3, e2⟩
inductive RDs (c : Kc) (x : Mx) (w : Option WX) : List (TE × TE) → List (EM × EM) → Prop
  | nil : RDs c x w [] []
  | cons {tk tv : TE} {k v : EM} {ts : List (TE × TE)} {ms : List (EM × EM)} (hk : RE c x w tk k) (hv : RE c x w tv v) (r : RDs c x w ts ms) : RDs c x w ((tk, tv) :: ts) ((k, v) :: ms)
theorem disp_ok {ts : List (TE × TE)} {ms : List (EM × EM)} (h : RDs c x w ts ms) : ∀ ss K X G σ H, dispP ms ss K X → In c G H → Sv c x G H σ ss → ∀ Q : List (V × V) → Hp → Prop, (∀ ps l G' H', Go c G H G' H' → Dat2 c G' l ps → K l → Q ps H') → KX c w X σ G H → tPairs ts σ H Q := by
  induction h with
  | nil => exact fun ss K X G σ H m e s Q q z => q [] [] G H (Go.refl e) rfl m
  | cons hk hv _ ih =>
    exact fun ss K X G σ H m e s Q q z => hk ss _ X G σ H m e s _ (fun u d G1 H1 g1 d1 m1 => hv ss _ X G1 σ H1 m1 g1.ink (s.go g1) _ (fun v b G2 H2 g2 d2 m2 =>
      ih ss _ X G2 σ H2 m2 g2.ink (s.go (g1.trans g2)) _ (fun ps l G3 H3 g3 d3 m3 => q _ _ G3 H3 (g1.trans (g2.trans g3)) (show Dat2 c G3 ((d, b) :: l) _ from ⟨u, v, ps, rfl, (d1.up g2.kn).up g3.kn, d2.up g3.kn, d3⟩) m3) (kx_go z (g1.trans g2))) (kx_go z g1)) z
theorem rf_disp {ts : List (TE × TE)} {ms : List (EM × EM)} (h : RDs c x w ts ms) : RFb false c x w (tDisp ts) (dispW ms) := fun ss R X G σ H m e s Q q z p hp => by
  have g0 : Go c G H G (upd H p (.dK [])) := Go.put e hp
  have nG : G p = none := e.free hp
  refine disp_ok h ss _ X G σ _ m g0.ink (s.go g0) _ (fun ps l G1 H1 g1 d1 m1 => ?_) (kx_go z g0)
  obtain ⟨kvs, e1, e2, m1⟩ := m1
  obtain ⟨ks, e3, d2⟩ := dat2_keys d1 e1
  have eH : H1 p = some (.dK []) := g1.up.st p _ upd_same (fun ps z => by cases z)
  have n2 : G1 p = none := g1.nw p _ nG upd_same (fun xs z => by cases z)
  have hlen : ks.length ≤ 15 := by rw [d2.len]; exact e2
  refine ⟨eH, ks, e3, hlen, ?_⟩
  have g01 := g0.trans g1
  exact q p (.dic (mergeD [] kvs)) _ G1 _ (g01.turn n2 hp eH flat_dK) hp n2 upd_same ⟨rfl, _, rfl, Datk.mergeD d2 (show Datk c G1 [] [] from rfl)⟩ m1
end
/-! ### x(lambda: e), the maker's name told apart -/
section
variable {X : Cx} {P : Program} {c : Kc} {mg : PySem.Str → Option Value} {base : Heap}
theorem pe_lamQ {q0 : Str} {sc : Scope} {x a : Str} {st : Stmt} {cA tA : Addr} {k n : Nat} {B : Addr → LM → SM} {Ng : List Str} {params : Arguments} {body : Expr} {scope : Scope} {t : XK → TE} {p lpos pos : Pos} (h0 : X.env.qual = q0) (hsc : X.env.scope = sc) (hX : At X P c mg base) (hg : Gl X x) (F : Df c.K mg x st [a]) (Sg : FnScope Ng [a] (defScope st)) (hn : n = Ng.length) (hNg : Ng[0]? = some a) (hva : Vis (defScope st) a)
    (hG : ∀ (g : Addr) (cdv : Value), GivesX X c Ng x (defScope st) g cdv (defBody st) a (q0 ++ "<lambda>") B)
    (TB : LamX.TabB base mg cA tA) (hcode : X.env.code = .ref cA) (hmT : (tA, q0 ++ "<lambda>") ∈ c.tb) (hu : ∀ p ∈ c.tb, p.1 = tA → p.2 = q0 ++ "<lambda>") (hr : Room (k + 2) X.A) (L : LamX.lamSB sc scope = true) (hdef : defaultsOf params X.env = ([], []))
    (hbind : ∀ (q : Str) (cl : List (Str × Addr)) (pm cv ctv : Value), bindArgs (PySem.W.kla_fn "<lambda>" q params body scope cl pm cv ctv) ⟨[], []⟩ = pure [])
    (hbody : ∀ (A : Around) (outer : List Env) (s : Shared) (H : Hp) (E : XK) (f c' : Addr), Room k (A.deeper (LamX.lamEnv X scope s.heap.objs.size f c')) → PE (LamX.lamCx X A outer s H E scope f c') body (t E))
    (hdb : (x == ("__debug__" : Str)) = false := by decide) (hd : (a == ("__debug__" : Str)) = false := by decide) (hcd : (a == ("__classdict__" : Str)) = false := by decide) :
    PE X (.Call (.Name x p) [.Lambda params body scope lpos] [] pos) (tLm c n B t) := by
  subst h0 hsc
  exact pe_lam hX hg F Sg hn hNg hva hG TB hcode hmT hu hr (LamX.lamS_by L) hdef hbind hbody hdb hd hcd
end
end Mw

set_option Elab.async false
set_option linter.all false
set_option maxRecDepth 100000
set_option maxHeartbeats 4000000
namespace Mw
open PySem PySem.Spec PyProof.Rows L2
/-! ### dicts are walked -/
def keyDt : Key → Dt
  | .inl i => .int i
  | .inr x => .str x
def keysDt (k : List Key) : Dt := .tup (k.map keyDt)
section
variable {c : Kc} {x : Mx} {w : Option WX} {G H : Hp} {d : Addr} {o : Obj}
theorem dat_keyDt {k : Key} : Dat c G (keyDt k) (kV k) := by cases k <;> rfl
theorem dats_keyDt : ∀ {k : List Key}, Dats c G (k.map keyDt) (k.map kV)
  | [] => rfl
  | a :: k => ⟨_, _, rfl, dat_keyDt, dats_keyDt⟩
theorem Datk.getV : ∀ {l : List (Key × Dt)} {xs : List (Key × V)} {i : Nat} {k : Key} {v : V}, Datk c G l xs → xs[i]? = some (k, v) → ∃ e, l[i]? = some (k, e) ∧ Dat c G e v
  | [], _, _, _, _, h, q => by cases h; simp at q
  | (k', e) :: _, _, 0, _, _, ⟨y, r, h1, h2, _⟩, h => by
    subst h1; simp at h; obtain ⟨rfl, rfl⟩ := h; exact ⟨e, rfl, h2⟩
  | _ :: _, _, i + 1, k, v, ⟨y, r, h1, _, h3⟩, h => by
    subst h1
    obtain ⟨e, q1, q2⟩ := Datk.getV (i := i) (k := k) (v := v) h3 (by simpa using h)
    exact ⟨e, by simpa using q1, q2⟩
theorem Datt.getV : ∀ {l : List (List Key × Dt)} {xs : List (List Key × V)} {i : Nat} {k : List Key} {v : V}, Datt c G l xs → xs[i]? = some (k, v) → ∃ e, l[i]? = some (k, e) ∧ Dat c G e v
  | [], _, _, _, _, h, q => by cases h; simp at q
  | (k', e) :: _, _, 0, _, _, ⟨y, r, h1, h2, _⟩, h => by
    subst h1; simp at h; obtain ⟨rfl, rfl⟩ := h; exact ⟨e, rfl, h2⟩
  | _ :: _, _, i + 1, k, v, ⟨y, r, h1, _, h3⟩, h => by
    subst h1
    obtain ⟨e, q1, q2⟩ := Datt.getV (i := i) (k := k) (v := v) h3 (by simpa using h)
    exact ⟨e, by simpa using q1, q2⟩
/-- a tuple that is there becomes known -/
theorem Go.know {q : Addr} {xs : List V} (e : In c G H) (h : H q = some (.tup xs)) : ∃ G2, Go c G H G2 H ∧ G2 q = some (.tup xs) := by
  cases g : G q with
  | some u => exact ⟨G, Go.refl e, by have := e _ _ g; rw [h] at this; rw [g, ← this]⟩
  | none =>
    refine ⟨upd G q (.tup xs), ⟨Ex.new g, fun b u h1 h2 n => ?_, ⟨fun b u z => ?_, fun b ps z => ?_, e.tb, e.fl.trans (Ex.new g)⟩, Up.refl H⟩, upd_same⟩
    · by_cases p : b = q
      · subst p; rw [h] at h2; exact absurd (Option.some.inj h2).symm (n xs)
      · rw [upd_ne p]; exact h1
    · by_cases p : b = q
      · subst p; rw [upd_same] at z; rw [h]; exact z
      · rw [upd_ne p] at z; exact e b u z
    · by_cases p : b = q
      · subst p; rw [upd_same] at z; cases z
      · rw [upd_ne p] at z; exact e.nt b ps z
theorem wd_keysK {l : List (Key × Dt)} {kvs : List (Key × V)} (h : G d = some (.frz o (.dK kvs))) (hd : Datk c G l kvs) : WalkD c (Itk d o kvs) (l.map fun p => keyDt p.1) G := by
  unfold WalkD
  rw [List.length_map, ← hd.len]
  refine ⟨fun i H hi e => ⟨e _ _ h, hi⟩, fun H e => ⟨e _ _ h, Nat.le_refl _⟩, fun i H x H' hi _ y G2 e2 e3 => ?_⟩
  obtain ⟨rfl, k, v, hk, rfl⟩ := y
  obtain ⟨e, q1, q2⟩ := hd.getV hk
  exact ⟨keyDt k, G2, by rw [List.getElem?_map, q1]; rfl, Go.refl e3, dat_keyDt⟩
theorem wd_keysT {l : List (List Key × Dt)} {kvs : List (List Key × V)} (h : G d = some (.frz o (.dT kvs))) (hd : Datt c G l kvs) : WalkD c (Itkt d o kvs) (l.map fun p => keysDt p.1) G := by
  unfold WalkD
  rw [List.length_map, ← hd.len]
  refine ⟨fun i H hi e => ⟨e _ _ h, hi⟩, fun H e => ⟨e _ _ h, Nat.le_refl _⟩, fun i H x H' hi _ y G2 e2 e3 => ?_⟩
  obtain ⟨rfl, k, v, q, hk, rfl, hq⟩ := y
  obtain ⟨e, q1, q2⟩ := hd.getV hk
  obtain ⟨G3, g3, h3⟩ := Go.know e3 hq
  exact ⟨keysDt k, G3, by rw [List.getElem?_map, q1]; rfl, g3, q, _, rfl, h3, dats_keyDt⟩
theorem wd_valsK {l : List (Key × Dt)} {kvs : List (Key × V)} (h : G d = some (.frz o (.dK kvs))) (hd : Datk c G l kvs) : WalkD c (Itd d o kvs) (l.map (·.2)) G := by
  unfold WalkD
  rw [List.length_map, ← hd.len]
  refine ⟨fun i H hi e => ⟨e _ _ h, hi⟩, fun H e => ⟨e _ _ h, Nat.le_refl _⟩, fun i H x H' hi _ y G2 e2 e3 => ?_⟩
  obtain ⟨rfl, k, hk⟩ := y
  obtain ⟨e, q1, q2⟩ := hd.getV hk
  exact ⟨e, G2, by rw [List.getElem?_map, q1]; rfl, Go.refl e3, q2.up e2⟩
theorem wd_itemsK {l : List (Key × Dt)} {kvs : List (Key × V)} (h : G d = some (.frz o (.dK kvs))) (hd : Datk c G l kvs) : WalkD c (Iti d o kvs) (l.map fun p => .tup [keyDt p.1, p.2]) G := by
  unfold WalkD
  rw [List.length_map, ← hd.len]
  refine ⟨fun i H hi e => ⟨e _ _ h, hi⟩, fun H e => ⟨e _ _ h, Nat.le_refl _⟩, fun i H x H' hi _ y G2 e2 e3 => ?_⟩
  obtain ⟨T, k, v, hk, rfl, hT, rfl⟩ := y
  obtain ⟨e, q1, q2⟩ := hd.getV hk
  exact ⟨.tup [keyDt k, e], _, by rw [List.getElem?_map, q1]; rfl, Go.new e3 hT, dat_newT (show Dats c G2 [keyDt k, e] _ from ⟨_, _, rfl, dat_keyDt, _, _, rfl, q2.up e2, rfl⟩) (e3.free hT)⟩
/-- the pairs of a dict with tuple keys -/
def ItiT (d : Addr) (o : Obj) (kvs : List (List Key × V)) : It :=
  ⟨fun i H => H d = some (.frz o (.dT kvs)) ∧ i < kvs.length, fun i H x H' => ∃ T k v q, kvs[i]? = some (k, v) ∧ x = .ref T ∧ H T = none ∧ H q = some (.tup (k.map kV)) ∧ H' = upd H T (.tup [.ref q, v]), fun i H => H d = some (.frz o (.dT kvs)) ∧ kvs.length ≤ i⟩
theorem wd_itemsT {l : List (List Key × Dt)} {kvs : List (List Key × V)} (h : G d = some (.frz o (.dT kvs))) (hd : Datt c G l kvs) : WalkD c (ItiT d o kvs) (l.map fun p => .tup [keysDt p.1, p.2]) G := by
  unfold WalkD
  rw [List.length_map, ← hd.len]
  refine ⟨fun i H hi e => ⟨e _ _ h, hi⟩, fun H e => ⟨e _ _ h, Nat.le_refl _⟩, fun i H x H' hi _ y G2 e2 e3 => ?_⟩
  obtain ⟨T, k, v, q, hk, rfl, hT, hq, rfl⟩ := y
  obtain ⟨e, q1, q2⟩ := hd.getV hk
  obtain ⟨G3, g3, h3⟩ := Go.know e3 hq
  exact ⟨.tup [keysDt k, e], _, by rw [List.getElem?_map, q1]; rfl, g3.trans (Go.new g3.ink hT), dat_newT (show Dats c G3 [keysDt k, e] _ from ⟨_, _, rfl, ⟨q, _, rfl, h3, dats_keyDt⟩, _, _, rfl, (q2.up e2).up g3.kn, rfl⟩) (g3.ink.free hT)⟩
end
section
variable {X : Cx} {pins : List (Addr × Obj)} {σ : L2.St} {H : Hp} {s : Shared} {d : Addr} {o : Obj}
theorem frzTv {kvs : List (List Key × V)} (I : Inv X pins σ H s) (h : H d = some (.frz o (.dT kvs))) :
    (d == sysModules) = false ∧ s.heap.get? d = some o ∧ o.ExactDict ∧ ∃ (es : Array DictEntry) (ep : Nat), o.data = .dict es ep ∧ es.size = kvs.length ∧
      ∀ (i : Nat) (k : List Key) (v : V), kvs[i]? = some (k, v) → ∃ (en : DictEntry) (q : Addr), es[i]? = some en ∧ en.key = .ref q ∧ H q = some (.tup (k.map kV)) ∧ RelV v en.val := by
  obtain ⟨hd, z, hs, xs, pr, o', es, ep, ho, hx, hdt, he, _⟩ := I.hok d _ h
  rw [hd] at ho
  cases ho
  refine ⟨hs, hd, hx, es, ep, hdt, ?_, fun i k v e => ?_⟩
  · have l1 : es.size = xs.length := size_of_entries he
    have l2 : kvs.length = xs.length := Paired.length pr
    omega
  · obtain ⟨b, hb, e1, e2, e3⟩ := paired_get pr e
    have q := entry_at he i
    rw [hb] at q
    exact ⟨_, b.2.1, q, rfl, e2, e3⟩
theorem turn_itemsT {P : Program} {w : World} {K : PySem.W.Frag} {es : Array DictEntry} {ep : Nat} {kvs : List (List Key × V)} {elts : List Expr} {kk : Nat} {tpos : Pos} (it : Addr) (hod : o.data = .dict es ep) :
    Turn P w K (.Tuple elts kk tpos) (ItiT d o kvs) [it] it (fun i h => ∃ ok ov, IsItemIter h it d i kvs.length ep ok ov) where
  mem := by simp
  obj := fun i h st b hb => by
    have e : b = it := by simpa using hb
    subst e
    obtain ⟨ok, ov, e⟩ := st
    exact ⟨_, e, fun v z => nomatch z⟩
  keep := fun i h h' st k => let ⟨ok, ov, e⟩ := st; ⟨ok, ov, k it (by simp) _ e⟩
  item := by
    intro X hP hw hK hc i pins s σ H E I hf st hg
    subst hP hw hK
    obtain ⟨hd, hi⟩ := hg
    obtain ⟨hs, hgd, hx, es', ep', hdt, hsz, ent⟩ := frzTv I hd
    obtain ⟨rfl, rfl⟩ := dict_ep hod hdt
    obtain ⟨⟨k, v⟩, hkv⟩ : ∃ p, kvs[i]? = some p := ⟨kvs[i], List.getElem?_eq_getElem hi⟩
    obtain ⟨en, q, hen, hkey, hq, rv⟩ := ent i k v hkv
    obtain ⟨ok, ov, he⟩ := st
    have he0 := he
    rw [← hsz] at he
    have hlt : it < s.heap.objs.size := Heap.lt_size he
    have hi2 : i < es'.size := by omega
    have hen2 : es'[i] = en := by
      have := Array.getElem?_eq_getElem hi2
      rw [this] at hen; exact Option.some.inj hen
    refine DT.nextI he ⟨o, hgd, hx, hdt⟩ hi2 fun h' ho hT hz hk => ?_
    rw [hen2] at hT ho
    refine ⟨_, rfl, wpAny_letOwnedTupleGo_items (s := { s with heap := h' }) ho fun h'' he' sb => ?_⟩
    have hT2 : h''.get? s.heap.objs.size = some { cls := .type "tuple", data := .seq #[en.key, en.val] } := (sb.2 _ (Nat.ne_of_gt hlt)).trans hT
    have new : ObjOk X.prog X.w (upd H s.heap.objs.size (.tup [.ref q, v])) h'' s.heap.objs.size (.tup [.ref q, v]) :=
      ⟨by show 2 ≤ sizeLine; decide, [en.key, en.val], .cons (by rw [hkey]; rfl) (.cons rv .nil), ⟨_, hT2, rfl, _, rfl⟩⟩
    have I1 : Inv X pins σ (upd H s.heap.objs.size (.tup [.ref q, v])) { s with heap := h'' } :=
      I.turnedNew (t' := s.toks) (ch := [it]) (fun b ob hb e => (sb.2 b (by simpa using hb)).trans (hk b ob (by simpa using hb) e)) hf (Nat.le_refl _) new
    refine ⟨.ref s.heap.objs.size, _, I1, rfl, ⟨_, k, v, q, hkv, rfl, I.hok.fresh (Nat.le_refl _), hq, rfl⟩, ⟨en.key, en.val, ?_⟩, fun b hb => ?_⟩
    · rw [← hsz]; exact he'
    · have e : b = it := by simpa using hb
      rw [e, upd_ne (Nat.ne_of_lt hlt)]
      exact (hf it (by simp)).1
  done := by
    intro X hP hw hK hc i pins s σ H E I hf st hg
    subst hP hw hK
    obtain ⟨hd, hi⟩ := hg
    obtain ⟨f0, f1, f2, f3, f4, f5⟩ := hf it (by simp)
    obtain ⟨hs, hgd, hx, es', ep', hdt, hsz, ent⟩ := frzTv I hd
    obtain ⟨rfl, rfl⟩ := dict_ep hod hdt
    obtain ⟨ok, ov, he⟩ := st
    rw [← hsz] at he
    exact DT.endI (I.ok.hd hc) he ⟨o, hgd, hx, hdt⟩ (by omega) fun h' eb => ⟨rfl, I.turned (t' := s.toks) (fun b ob hb e => eb b ob hb e) f0 f1 f3 f4 f5⟩
  self := fun A i s Q E st h => let ⟨_, _, e⟩ := st; PySem.W.kcp_self e h
end
section
variable {X : Cx} {tg e : Expr} {td : TE} {apos cpos : Pos}
def iItemsA (td : TE) : TI := fun σ H R => td σ H fun x H1 => (∃ d o kvs, x = .ref d ∧ H1 d = some (.frz o (.dK kvs)) ∧ R (Iti d o kvs) H1) ∨ ∃ d o kvs, x = .ref d ∧ H1 d = some (.frz o (.dT kvs)) ∧ R (ItiT d o kvs) H1
theorem pi_itemsA {elts : List Expr} {kk : Nat} {tpos : Pos} (he : PE X e td) (hbase : attributeBase e "items" X.env (eval e X.env) = eval e X.env := by rfl) (hline : (apos.endLine == cpos.line) = true := by rfl) :
    PI X (.Tuple elts kk tpos) (.Call (.Attribute e "items" apos) [] [] cpos) (iItemsA td) := by
  refine ⟨fun pins s σ H R I h => ?_⟩
  refine wpAny_Call_method (T := "dict") (id := "dict.items") hbase rfl hline PySem.F.plainAttrs_dict PySem.F.slot_dict_items PySem.F.type_dict_items (thn (he.run pins s σ H _ I h) fun u s1 ⟨x, H1, I1, rx, hor⟩ => ?_)
  rcases hor with ⟨d, o, kvs, ex, hd, q⟩ | ⟨d, o, kvs, ex, hd, q⟩
  · subst ex
    obtain rfl : u = Value.ref d := rx
    obtain ⟨hs, hgd, hx, es, ep, vs, hdt, hsz, kv, hm⟩ := I1.frzK hd
    have hl : kvs.length = vs.length := Paired.length kv
    refine ⟨hm.dictOf.typeIs, hm.dictOf.mapOf.noDict, ?_⟩
    have I2 : Inv X pins σ H1 { s1 with heap := s1.heap.push { cls := .type "dict_items", data := .fields #[.ref d] } } := I1.kept (t' := s1.toks) fun b ob q => Heap.get?_push_of_some _ q
    have fin : wpAny (model X.prog X.w) X.A (pyIter (.ref s1.heap.objs.size)) (PIE X pins σ (.Tuple elts kk tpos) R) X.xe { s1 with heap := s1.heap.push { cls := .type "dict_items", data := .fields #[.ref d] } } := by
      refine wpAny_pyIter_items (d := d) (knd := mixKind X.prog X.w) ⟨_, Heap.get?_push_size _ rfl, rfl, rfl⟩ (hm.push _) (pi_one (tk := s1.toks) I2 _ (turn_items _ hdt) ⟨.none, .none, ?_⟩ q)
      rw [hl]
      exact Heap.get?_push_size _ rfl
    show wpAny _ _ (callWith cpos (.builtin "dict.items") [.ref d] [] []) _ X.xe s1
    exact method_meetsIn PySem.F.slot_dict_items PySem.F.entry_dict_items rfl (PySem.evalArgs_none ⟨rfl, hm.dictOf.typeIs, PySem.F.args_dict_items_1 _, _, meets_dict_items (mixKind X.prog X.w) d hs, ⟨vs, hm.dictOf⟩, fin⟩)
  · subst ex
    obtain rfl : u = Value.ref d := rx
    obtain ⟨hs, hgd, hx, es, ep, hdt, hsz, ent⟩ := frzTv I1 hd
    have raw : DT.Raw s1.heap d es ep := ⟨o, hgd, hx, hdt⟩
    refine ⟨raw.typeIs, fun b hb => by cases hb; exact ⟨o, hgd, hx.2.1⟩, ?_⟩
    have I2 : Inv X pins σ H1 { s1 with heap := s1.heap.push { cls := .type "dict_items", data := .fields #[.ref d] } } := I1.kept (t' := s1.toks) fun b ob q => Heap.get?_push_of_some _ q
    have fin : wpAny (model X.prog X.w) X.A (pyIter (.ref s1.heap.objs.size)) (PIE X pins σ (.Tuple elts kk tpos) R) X.xe { s1 with heap := s1.heap.push { cls := .type "dict_items", data := .fields #[.ref d] } } := by
      refine DT.iterI (d := d) (es := es) (ep := ep) ⟨_, Heap.get?_push_size _ rfl, rfl, rfl⟩ (raw.push _) (pi_one (tk := s1.toks) I2 _ (turn_itemsT _ hdt) ⟨.none, .none, ?_⟩ q)
      rw [← hsz]
      exact Heap.get?_push_size _ rfl
    show wpAny _ _ (callWith cpos (.builtin "dict.items") [.ref d] [] []) _ X.xe s1
    exact method_meetsIn PySem.F.slot_dict_items PySem.F.entry_dict_items rfl (PySem.evalArgs_none ⟨rfl, raw.typeIs, PySem.F.args_dict_items_1 _, _, DT.meetsItems (es := es) (ep := ep) hs, ⟨raw, fin⟩⟩)
/-- lists, tuples, texts, and the keys of dicts -/
def iAll (K : PySem.W.Frag) (te : TE) : TI := fun σ H R => te σ H fun v H1 => (((∃ a, v = .ref a ∧ (∃ xs, SqL K H1 a xs) ∧ R (Itl K a) H1) ∨ ((∃ a, v = .ref a ∧ (∃ xs, SqT K H1 a xs) ∧ R (Itt K a) H1) ∨ ∃ z, v = .str z ∧ R (Its z) H1)) ∨
  (∃ d o kvs, v = .ref d ∧ H1 d = some (.frz o (.dK kvs)) ∧ R (Itk d o kvs) H1)) ∨ ∃ d o kvs, v = .ref d ∧ H1 d = some (.frz o (.dT kvs)) ∧ R (Itkt d o kvs) H1
theorem piAll {K : PySem.W.Frag} (hK : X.K = K) {te : TE} (he : PE X e te) : PI X tg e (iAll K te) := by
  subst hK
  refine ⟨fun pins s σ H R I h => thn (he.run pins s σ H _ I h) fun u s1 ⟨v, H1, I1, rv, got⟩ => ?_⟩
  rcases got with (got | ⟨d, o, kvs, ex, hd, q⟩) | ⟨d, o, kvs, ex, hd, q⟩
  · rcases got with ⟨a, rfl, ⟨xs, sq⟩, q⟩ | ⟨a, rfl, ⟨xs, sq⟩, q⟩ | ⟨z, rfl, q⟩
    · cases rv
      obtain ⟨its, _, p, _⟩ := I1.list sq
      exact wpAny_pyIter_list p.isList (pi_one (tk := s1.toks) I1 _ (turn_list a _) ⟨_, Heap.get?_push_size _ rfl, rfl, rfl⟩ q)
    · cases rv
      obtain ⟨its, _, p, _⟩ := I1.tuple sq
      exact wpAny_pyIter_tuple (show s1.heap.IsTuple a its.toArray from p) (pi_one (tk := s1.toks) I1 _ (turn_tuple a _) ⟨_, Heap.get?_push_size _ rfl, rfl, rfl⟩ q)
    · obtain ⟨t, rfl⟩ := rv
      cases asc : z.cps.all (· < 128)
      · exact wpAny_pyIter_wide asc (pi_one (tk := s1.toks) I1 _ (turn_str _ z t "str_iterator" (.inr rfl)) ⟨_, Heap.get?_push_size _ rfl, rfl, rfl⟩ q)
      · exact wpAny_pyIter_ascii asc (pi_one (tk := s1.toks) I1 _ (turn_str _ z t "str_ascii_iterator" (.inl rfl)) ⟨_, Heap.get?_push_size _ rfl, rfl, rfl⟩ q)
  · subst ex
    obtain rfl : u = Value.ref d := rv
    obtain ⟨hs, hgd, hx, es, ep, vs, hdt, hsz, kv, hm⟩ := I1.frzK hd
    refine iter_keys hs hgd hx hdt (pi_one (tk := s1.toks) I1 _ (turn_keys _ hdt) ⟨_, Heap.get?_push_size _ rfl, rfl, ?_⟩ q)
    rw [hsz] <;> rfl
  · subst ex
    obtain rfl : u = Value.ref d := rv
    obtain ⟨hs, hgd, hx, es, ep, hdt, hsz, ent⟩ := I1.frzT hd
    refine iter_keys hs hgd hx hdt (pi_one (tk := s1.toks) I1 _ (turn_keysT _ hdt) ⟨_, Heap.get?_push_size _ rfl, rfl, ?_⟩ q)
    rw [hsz] <;> rfl
end
/-! what is walked, by data -/
def itemsOfD : Dt → (List Dt → Prop) → Prop
  | .dic l, R => R (l.map fun p => .tup [keyDt p.1, p.2])
  | .dit l, R => R (l.map fun p => .tup [keysDt p.1, p.2])
  | _, _ => False
def valsOfD : Dt → (List Dt → Prop) → Prop
  | .dic l, R => R (l.map (·.2))
  | _, _ => False
def iAllD : Dt → (List Dt → Prop) → Prop
  | .lst l, R => R l
  | .sq l, R => R l
  | .tup l, R => R l
  | .str z, R => R (signsD z)
  | .dic l, R => R (l.map fun p => keyDt p.1)
  | .dit l, R => R (l.map fun p => keysDt p.1)
  | _, _ => False
section
variable {c : Kc} {x : Mx} {w : Option WX} {ta : TE} {a : EM}
theorem ri_items (ha : RE c x w ta a) : RI c x w (iItemsA ta) (itW itemsOfD a) := fun ss R X G σ H m e s Q q z =>
  ha ss _ X G σ H m e s _ (fun v d G1 H1 g1 d1 m1 => by
    cases d with
    | dic l =>
      obtain ⟨a, o, kvs, rfl, hs, hd⟩ := d1
      exact .inl ⟨a, o, kvs, rfl, g1.ink _ _ hs, q _ _ G1 H1 g1 (wd_itemsK hs hd) m1⟩
    | dit l =>
      obtain ⟨a, o, kvs, rfl, hs, hd⟩ := d1
      exact .inr ⟨a, o, kvs, rfl, g1.ink _ _ hs, q _ _ G1 H1 g1 (wd_itemsT hs hd) m1⟩
    | _ => exact m1.elim) z
theorem ri_vals (ha : RE c x w ta a) : RI c x w (iVals ta) (itW valsOfD a) := fun ss R X G σ H m e s Q q z =>
  ha ss _ X G σ H m e s _ (fun v d G1 H1 g1 d1 m1 => by
    cases d with
    | dic l =>
      obtain ⟨a, o, kvs, rfl, hs, hd⟩ := d1
      exact ⟨a, o, kvs, rfl, g1.ink _ _ hs, q _ _ G1 H1 g1 (wd_valsK hs hd) m1⟩
    | _ => exact m1.elim) z
theorem ri_all (ha : RE c x w ta a) : RI c x w (iAll c.K ta) (itW iAllD a) := fun ss R X G σ H m e s Q q z =>
  ha ss _ X G σ H m e s _ (fun v d G1 H1 g1 d1 m1 => by
    cases d with
    | lst l =>
      obtain ⟨a, xs, rfl, hs, hd⟩ := d1
      exact .inl (.inl (.inl ⟨a, rfl, ⟨xs, .inl (.inl (g1.ink _ _ hs))⟩, q _ l G1 H1 g1 (wd_list (.inl (.inl hs)) hd) m1⟩))
    | sq l =>
      obtain ⟨a, xs, rfl, hs, hd⟩ := d1
      exact .inl (.inl (.inl ⟨a, rfl, ⟨xs, g1.ink.seq hs⟩, q _ l G1 H1 g1 (wd_list hs hd) m1⟩))
    | tup l =>
      obtain ⟨a, xs, rfl, hs, hd⟩ := d1
      exact .inl (.inl (.inr (.inl ⟨a, rfl, ⟨xs, Ex.tp g1.ink.ex hs⟩, q _ l G1 H1 g1 (wd_tup (.inl (.inl hs)) hd) m1⟩)))
    | str l =>
      cases d1
      exact .inl (.inl (.inr (.inr ⟨l, rfl, q _ _ G1 H1 g1 wd_str m1⟩)))
    | dic l =>
      obtain ⟨a, o, kvs, rfl, hs, hd⟩ := d1
      exact .inl (.inr ⟨a, o, kvs, rfl, g1.ink _ _ hs, q _ _ G1 H1 g1 (wd_keysK hs hd) m1⟩)
    | dit l =>
      obtain ⟨a, o, kvs, rfl, hs, hd⟩ := d1
      exact .inr ⟨a, o, kvs, rfl, g1.ink _ _ hs, q _ _ G1 H1 g1 (wd_keysT hs hd) m1⟩
    | _ => exact m1.elim) z
/-! ### d[k], d.get(k), d.get(k, x) -/
def valD {κ : Type} [DecidableEq κ] (l : List (κ × Dt)) (k : κ) : Option Dt := (l.find? fun p => decide (p.1 = k)).map (·.2)
def keyOfT : List Dt → Option (List Key)
  | [] => some []
  | d :: l => match keyOf d, keyOfT l with
    | some k, some r => some (k :: r)
    | _, _ => none
/-- the entry at a key, if there is one; an empty dict may be asked with a key of any kind -/
def lookD : Dt → Dt → (Option Dt → Prop) → Prop
  | .dic l, .tup t, R => l = [] ∧ False
  | .dic l, k, R => ∃ q, keyOf k = some q ∧ R (valD l q)
  | .dit l, .tup t, R => ∃ q, keyOfT t = some q ∧ R (valD l q)
  | _, _, _ => False
variable {G H : Hp}
theorem Datk.val {k : Key} : ∀ {l : List (Key × Dt)} {xs : List (Key × V)}, Datk c G l xs → (valD l k = none ∧ valV xs k = none) ∨ ∃ e v, valD l k = some e ∧ valV xs k = some v ∧ Dat c G e v
  | [], _, h => by cases h; exact .inl ⟨rfl, rfl⟩
  | (k', e) :: l, _, ⟨y, r, h1, h2, h3⟩ => by
    subst h1
    by_cases q : k' = k
    · refine .inr ⟨e, y, ?_, valV_pos (p := (k', y)) q, h2⟩
      unfold valD; rw [List.find?_cons, decide_eq_true q]; rfl
    · have e1 : valD ((k', e) :: l) k = valD l k := by unfold valD; rw [List.find?_cons, decide_eq_false q]
      rw [e1, valV_neg (p := (k', y)) q]
      exact Datk.val h3
theorem Datt.val {k : List Key} : ∀ {l : List (List Key × Dt)} {xs : List (List Key × V)}, Datt c G l xs → (valD l k = none ∧ valV xs k = none) ∨ ∃ e v, valD l k = some e ∧ valV xs k = some v ∧ Dat c G e v
  | [], _, h => by cases h; exact .inl ⟨rfl, rfl⟩
  | (k', e) :: l, _, ⟨y, r, h1, h2, h3⟩ => by
    subst h1
    by_cases q : k' = k
    · refine .inr ⟨e, y, ?_, valV_pos (p := (k', y)) q, h2⟩
      unfold valD; rw [List.find?_cons, decide_eq_true q]; rfl
    · have e1 : valD ((k', e) :: l) k = valD l k := by unfold valD; rw [List.find?_cons, decide_eq_false q]
      rw [e1, valV_neg (p := (k', y)) q]
      exact Datt.val h3
theorem keyOfT_v : ∀ {t : List Dt} {q : List Key} {xs : List V}, Dats c G t xs → keyOfT t = some q → xs = q.map kV
  | [], _, _, h, e => by cases h; cases e; rfl
  | d :: l, q, _, ⟨x, r, h1, h2, h3⟩, e => by
    subst h1
    unfold keyOfT at e
    cases q1 : keyOf d with
    | none => rw [q1] at e; cases e
    | some k =>
      cases q2 : keyOfT l with
      | none => rw [q1, q2] at e; cases e
      | some m => rw [q1, q2] at e; cases e; rw [keyOf_v h2 q1, keyOfT_v h3 q2]; rfl
theorem look_ok {d k : Dt} {R : Option Dt → Prop} {v u : V} (e : In c G H) (m : lookD d k R) (h1 : Dat c G d v) (h2 : Dat c G k u) : ∃ a, v = .ref a ∧ IsD H a ∧ ∃ o, DGet H a u o ∧ ((o = none ∧ R none) ∨ ∃ y z, o = some z ∧ Dat c G y z ∧ R (some y)) := by
  have gen : ∀ l : List (Key × Dt), d = .dic l → (∃ q, keyOf k = some q ∧ R (valD l q)) → ∃ a, v = .ref a ∧ IsD H a ∧ ∃ o, DGet H a u o ∧ ((o = none ∧ R none) ∨ ∃ y z, o = some z ∧ Dat c G y z ∧ R (some y)) := fun l el ⟨q, e1, mq⟩ => by
    subst el
    obtain ⟨a, o, kvs, rfl, hs, hd⟩ := h1
    have rd : Rd H a (.dK kvs) := .inr ⟨o, e _ _ hs⟩
    refine ⟨a, rfl, .inl ⟨kvs, rd⟩, valV kvs q, .inl ⟨kvs, q, rd, keyOf_v h2 e1, rfl⟩, ?_⟩
    rcases hd.val (k := q) with ⟨r1, r2⟩ | ⟨y, z, r1, r2, r3⟩
    · exact .inl ⟨r2, by rw [← r1]; exact mq⟩
    · exact .inr ⟨y, z, r2, r3, by rw [← r1]; exact mq⟩
  cases d with
  | dic l =>
    cases k with
    | tup t => exact m.2.elim
    | _ => exact gen l rfl m
  | dit l =>
    cases k with
    | tup t =>
      obtain ⟨q, e1, m⟩ := m
      obtain ⟨a, o, kvs, rfl, hs, hd⟩ := h1
      obtain ⟨b, xs, rfl, hb, hx⟩ := h2
      have ek := keyOfT_v hx e1
      subst ek
      have rd : Rd H a (.dT kvs) := .inr ⟨o, e _ _ hs⟩
      refine ⟨a, rfl, .inr ⟨kvs, rd⟩, valV kvs q, .inr ⟨kvs, q, b, rd, rfl, e _ _ hb, rfl⟩, ?_⟩
      rcases hd.val (k := q) with ⟨r1, r2⟩ | ⟨y, z, r1, r2, r3⟩
      · exact .inl ⟨r2, by rw [← r1]; exact m⟩
      · exact .inr ⟨y, z, r2, r3, by rw [← r1]; exact m⟩
    | _ => exact m.elim
  | _ => exact m.elim
variable {td ty tx : TE} {dm km xm : EM}
def someR (R : Dt → Prop) : Option Dt → Prop
  | some d => R d
  | none => False
def dgetW (d k : EM) : EM := fun ss R X => d ss (fun a => k ss (fun b => lookD a b (someR R)) X) X
theorem re_dget (hd : RE c x w td dm) (hk : RE c x w ty km) : RE c x w (tDGet td ty) (dgetW dm km) := fun ss R X G σ H m e s Q q z =>
  hd ss _ X G σ H m e s _ (fun v d G1 H1 g1 d1 m1 => hk ss _ X G1 σ H1 m1 g1.ink (s.go g1) _ (fun u k G2 H2 g2 d2 m2 => by
    obtain ⟨a, rfl, _, o, hg, h | ⟨y, z', rfl, hy, hr⟩⟩ := look_ok g2.ink m2 (d1.up g2.kn) d2
    · exact h.2.elim
    · exact ⟨a, z', rfl, hg, q _ y G2 H2 (g1.trans g2) hy hr⟩) (kx_go z g1)) z
def isDict : Dt → Bool
  | .dic _ => true
  | .dit _ => true
  | _ => false
theorem isD_of {d : Dt} {v : V} (e : In c G H) (h : Dat c G d v) (hd : isDict d = true) : ∃ a, v = .ref a ∧ IsD H a := by
  cases d with
  | dic l => obtain ⟨a, o, kvs, rfl, hs, _⟩ := h; exact ⟨a, rfl, .inl ⟨kvs, .inr ⟨o, e _ _ hs⟩⟩⟩
  | dit l => obtain ⟨a, o, kvs, rfl, hs, _⟩ := h; exact ⟨a, rfl, .inr ⟨kvs, .inr ⟨o, e _ _ hs⟩⟩⟩
  | _ => cases hd
def dget1W (d k : EM) : EM := fun ss R X => d ss (fun a => isDict a = true ∧ k ss (fun b => lookD a b fun o => R (o.getD .non)) X) X
theorem re_dget1 (hd : RE c x w td dm) (hk : RE c x w ty km) : RE c x w (tDGet1 td ty) (dget1W dm km) := fun ss R X G σ H m e s Q q z =>
  hd ss _ X G σ H m e s _ (fun v d G1 H1 g1 d1 m1 => by
    obtain ⟨a0, e0, hD⟩ := isD_of g1.ink d1 m1.1
    refine ⟨a0, e0, hD, hk ss _ X G1 σ H1 m1.2 g1.ink (s.go g1) _ (fun u k G2 H2 g2 d2 m2 => ?_) (kx_go z g1)⟩
    obtain ⟨a, ea, _, o, hg, h⟩ := look_ok g2.ink m2 (d1.up g2.kn) d2
    rw [e0] at ea
    cases ea
    rcases h with ⟨rfl, hr⟩ | ⟨y, z', rfl, hy, hr⟩
    · exact ⟨none, hg, q _ .non G2 H2 (g1.trans g2) rfl hr⟩
    · exact ⟨some z', hg, q _ y G2 H2 (g1.trans g2) hy hr⟩) z
def dget2W (d k y : EM) : EM := fun ss R X => d ss (fun a => isDict a = true ∧ k ss (fun b => y ss (fun f => lookD a b fun o => R (o.getD f)) X) X) X
theorem re_dget2 (hd : RE c x w td dm) (hk : RE c x w ty km) (hx : RE c x w tx xm) : RE c x w (tDGet2 td ty tx) (dget2W dm km xm) := fun ss R X G σ H m e s Q q z =>
  hd ss _ X G σ H m e s _ (fun v d G1 H1 g1 d1 m1 => by
    obtain ⟨a0, e0, hD⟩ := isD_of g1.ink d1 m1.1
    refine ⟨a0, e0, hD, hk ss _ X G1 σ H1 m1.2 g1.ink (s.go g1) _ (fun u k G2 H2 g2 d2 m2 => hx ss _ X G2 σ H2 m2 g2.ink (s.go (g1.trans g2)) _ (fun f0 f G3 H3 g3 d3 m3 => ?_) (kx_go z (g1.trans g2))) (kx_go z g1)⟩
    obtain ⟨a, ea, _, o, hg, h⟩ := look_ok g3.ink m3 ((d1.up g2.kn).up g3.kn) (d2.up g3.kn)
    rw [e0] at ea
    cases ea
    rcases h with ⟨rfl, hr⟩ | ⟨y, z', rfl, hy, hr⟩
    · exact ⟨none, hg, q _ f G3 H3 (g1.trans (g2.trans g3)) d3 hr⟩
    · exact ⟨some z', hg, q _ y G3 H3 (g1.trans (g2.trans g3)) hy hr⟩) z
end
end Mw

set_option Elab.async false
set_option linter.all false
set_option maxRecDepth 100000
set_option maxHeartbeats 4000000
namespace Mw
open PySem PySem.Spec PyProof.Rows L2
/-! ### {k: v for ..}, keys ints and texts, or tuples of these -/
def emptyD (tup : Bool) : HO := match tup with
  | true => .dT []
  | false => .dK []
theorem emptyD_ok {P : Program} {w : World} {H : Hp} {tup : Bool} (h : Heap) (hb : sysModules < h.objs.size) : ObjOk P w H (h.push { cls := .type "dict", data := .dict #[] }) h.objs.size (emptyD tup) := by
  cases tup with
  | true => exact dt_empty h hb
  | false => exact dk_empty h hb
def tDcA (tup : Bool) (wi : TI) (g : TG) (tt : TT) (tk tv : TE) (vs : List Nat) : TE := fun σ H Q => wi σ H fun J H1 => ∀ D, H1 D = none → ∃ W : Nat → Nat → Hp → Prop, (∃ m, W 0 m (upd H1 D (emptyD tup))) ∧ ∀ i m H, W i m H →
  (J.stop i H ∧ Q (.ref D) H) ∨ (J.go i H ∧ ∃ Nx : Hp → Prop, (∀ H', Nx H' → ∃ m', m' < m ∧ W (i + 1) m' H') ∧ ∀ x H', J.yld i H x H' → g x (wipe σ vs) H' fun σ2 H2 => wipe σ2 vs = wipe σ vs ∧ tt σ2 H2 fun b H3 =>
    if b = true then tk σ2 H3 fun y H4 => tv σ2 H4 fun z H5 => ∃ H6, DPut H5 D y z H6 ∧ Nx H6 else Nx H3)
section
variable {X : Cx}
theorem dictSet_put {pins : List (Addr × Obj)} {σ : L2.St} {H H' : Hp} {s : Shared} {E : Value → Shared → Prop} {D : Addr} {y v : V} {u r : Value} {Q : Unit → Shared → Prop} (I : Inv X pins σ H s) (hu : X.A.units + 64 < cLine) (p : DPut H D y v H')
    (ry : RelV y u) (rv : RelV v r) (h : ∀ s', Inv X pins σ H' s' → Q () s') : wpAny (model X.prog X.w) X.A (dictSet D u r) Q E s := by
  rcases p with ⟨kvs, k, e, rfl, hz, rfl⟩ | ⟨kvs, k, b, e, rfl, eb, hz, rfl⟩
  · exact d_dictSet I e hz ry rv h
  · cases (show u = Value.ref b from ry)
    obtain ⟨z, hd, xs, rel, dd⟩ := dt_of I.hok e
    have hx : xs.length ≤ sizeLine := by rw [← Paired.length rel]; exact z
    have hl : (putK kvs k v).length ≤ sizeLine := by have := length_putK kvs k v; omega
    refine wpAny_dictSet_heap (hsz := hx) (show (tupleKind (mixKind X.prog X.w)).room X.A from ?_) (key_of I.hok eb) dd fun h' dd' hs => h _ ?_
    · show _ < _; omega
    obtain ⟨q, es, ep, hq, h2, h3, h4, _, h5⟩ := dd'
    refine d_write I (by rw [e]; exact True.intro) hs ⟨q, hq⟩ ⟨hl, hd, _, (rel.put k eb rv).keeps fun c ys ec => ?_, q, es, ep, hq, h2, h3, h4, h5⟩
    rw [upd_ne (ne_of ec e (fun z => nomatch z))]
    exact ec
theorem dcA_core {pins : List (Addr × Obj)} {s : Shared} {σ : L2.St} {H : Hp} {Q : VK} {kx vx tg iter : Expr} {tup : Bool} {ifs : List Expr} {scope : Scope} {own : List (PySem.Str × Nat)} {pos pos' : Pos} {wi : TI} {g : TG} {tt : TT} {tk tv : TE} {use : Option (Value → Sem Unit)} {Qf : Value → Shared → Prop}
    (hu : X.A.units + 64 < cLine) (calm : X.calm = true) (nod : X.N.Nodup) (I : Inv X pins σ H s) (walk : PI X tg iter wi) (blk : BlkOk X.N X.env.scope scope own)
    (pgs : ∀ (s : Shared) (H : Hp) (C : Addr) (cl : List (PySem.Str × Addr)) (fp : List Addr), PG (X.blk s H scope (compEnvC scope cl C X.env) fp) tg g)
    (pts : ∀ (s : Shared) (H : Hp) (C : Addr) (cl : List (PySem.Str × Addr)) (fp : List Addr), PTs (X.blk s H scope (compEnvC scope cl C X.env) fp) ifs tt)
    (pks : ∀ (s : Shared) (H : Hp) (C : Addr) (cl : List (PySem.Str × Addr)) (fp : List Addr), PE (X.blk s H scope (compEnvC scope cl C X.env) fp) kx tk)
    (pes : ∀ (s : Shared) (H : Hp) (C : Addr) (cl : List (PySem.Str × Addr)) (fp : List Addr), PE (X.blk s H scope (compEnvC scope cl C X.env) fp) vx tv) (fold : ∀ x, foldedSetIterable iter X.env x = pure x)
    (rd : tDcA tup wi g tt tk tv (own.map (·.2)) σ H Q)
    (back : ∀ D C s' m H', Inv X pins σ H' s' → Q (.ref D) H' → s'.heap.Ns C m → FpOk X pins H' C → compPost (model X.prog X.w) X.A X.xe use Qf (.ref D) C (.ok .next) s') :
    wpAny (model X.prog X.w) X.A (comprehension (.DictComp kx vx [⟨tg, iter, ifs, 0⟩] scope pos) scope X.env pos' newDict false (eval iter X.env) use) Qf X.xe s := by
  have frees : ∀ y ∈ scope.names, y.2 = .free → ∃ c, X.env.cells.lookup y.1 = some c := fun y hy e => (blk.free y hy e).elim (fun k => I.ok.has _ (.inl k)) fun k => I.ok.has _ (.inr k)
  refine wpAny_comprehension_free (use := use) rfl fold (closure_ok frees) blk.kind (fun y hy e => by rw [blk.uniq y hy, e]) (thn (walk.run pins s σ H _ I rd) fun xv s1 hx => thn hx fun itv s2 got => ?_)
  obtain ⟨it, fp, tn, J, Ha, e0, Ia, T, sta, fa, ask⟩ := got
  subst e0
  refine wpAny_newObj_type (newEnv_comp ?_)
  generalize eD : s2.heap.objs.size = D
  have freeD : Ha D = none := Ia.hok.fresh (Nat.le_of_eq eD)
  obtain ⟨W, ⟨m0, w0⟩, turn⟩ := ask D freeD
  generalize es : ({ s2 with heap := s2.heap.push { cls := .type "dict", data := .dict #[] } } : Shared) = sb
  have hb : sb.heap = s2.heap.push { cls := .type "dict", data := .dict #[] } := by rw [← es]
  have Ib : Inv X pins σ (upd Ha D (emptyD tup)) sb := by
    rw [← es]
    refine Ia.laid (t' := s2.toks) (fun b o e => Heap.get?_push_of_some _ e) (Nat.le_of_eq eD) ?_
    rw [← eD]
    exact emptyD_ok s2.heap Ia.big
  have below : ∀ b ∈ fp, b < s2.heap.objs.size := fun b hb => let ⟨o, e, _⟩ := T.obj _ _ sta b hb; Heap.lt_size e
  have fb : ∀ b ∈ fp, FpOk X pins (upd Ha D (emptyD tup)) b ∧ b < sb.heap.objs.size := fun b hm => by
    have lt := below b hm
    exact ⟨⟨by rw [upd_ne (by rw [← eD]; exact Nat.ne_of_lt lt)]; exact (fa b hm).1, (fa b hm).2⟩, by rw [hb, Heap.size_push]; exact Nat.lt_succ_of_lt lt⟩
  have stb : tn 0 sb.heap := T.keep _ _ _ sta fun b _ o e => by rw [hb]; exact Heap.get?_push_of_some _ e
  have Ic := block_start Ib blk nod fb
  have pg := pgs sb (upd Ha D (emptyD tup)) sb.heap.objs.size (cellsFrom (sb.heap.objs.size + 1) scope.names (cloFrom X.env.cells scope.names [])) fp
  have pt := pts sb (upd Ha D (emptyD tup)) sb.heap.objs.size (cellsFrom (sb.heap.objs.size + 1) scope.names (cloFrom X.env.cells scope.names [])) fp
  have pk := pks sb (upd Ha D (emptyD tup)) sb.heap.objs.size (cellsFrom (sb.heap.objs.size + 1) scope.names (cloFrom X.env.cells scope.names [])) fp
  have pe := pes sb (upd Ha D (emptyD tup)) sb.heap.objs.size (cellsFrom (sb.heap.objs.size + 1) scope.names (cloFrom X.env.cells scope.names [])) fp
  show codeAny _ _ (.compStart (.DictComp kx vx [⟨tg, iter, ifs, 0⟩] scope pos) 0 (.ref it) (.ref D) (compEnvC scope (cellsFrom (sb.heap.objs.size + 1) scope.names (cloFrom X.env.cells scope.names [])) sb.heap.objs.size X.env)) (compPost (model X.prog X.w) X.A X.xe use Qf (.ref D) sb.heap.objs.size) { sb with heap := pushCells (sb.heap.push { cls := .type "dict", data := .dict #[] }) scope.names }
  have nofp : ∀ b ∈ fp, (upd Ha D (emptyD tup)) b = none := fun b hm => (fb b hm).1.1
  generalize ece : compEnvC scope (cellsFrom (sb.heap.objs.size + 1) scope.names (cloFrom X.env.cells scope.names [])) sb.heap.objs.size X.env = ce at Ic pg pt pk pe ⊢
  have loc : ce.locals = sb.heap.objs.size := by subst ece; rfl
  generalize eH : upd Ha D (emptyD tup) = Hb at Ib Ic pg pt pk pe w0 nofp fb
  generalize esc : ({ sb with heap := pushCells (sb.heap.push { cls := .type "dict", data := .dict #[] }) scope.names } : Shared) = sc at Ic ⊢
  have stc : tn 0 sc.heap := T.keep _ _ _ stb fun b _ o e => by rw [← esc]; exact pushCells_keeps _ _ _ _ (Heap.get?_push_of_some _ e)
  have held : ∀ {σ' : L2.St} {H' : Hp} {s' : Shared}, Inv (X.blk sb Hb scope ce fp) [] σ' H' s' → (∀ b ∈ fp, H' b = none) → ∀ b ∈ fp, FpOk (X.blk sb Hb scope ce fp) [] H' b := fun {σ' H' s'} I' hn b hm =>
    ⟨hn b hm, (I'.ok.exf b hm).1, I'.ok.exfs b hm, .inl hm, fun x c e => (I'.ok.exf b hm).2 x c e, fun p hp => absurd (show p ∈ ([] : List (Addr × Obj)) ++ [] from hp) (by simp)⟩
  have loop : codeAny (model X.prog X.w) X.A (.compLoop (.DictComp kx vx [⟨tg, iter, ifs, 0⟩] scope pos) 0 (.ref it) (.ref D) ce) (compPost (model X.prog X.w) X.A X.xe use Qf (.ref D) sb.heap.objs.size) sc := by
    refine compLoop_anyD (fun n s' => ∃ i H', Inv (X.blk sb Hb scope ce fp) [] (wipe σ (own.map (·.2))) H' s' ∧ tn i s'.heap ∧ (∀ b ∈ fp, H' b = none) ∧ W i n H') ?_ m0 ⟨0, Hb, Ic, stc, nofp, w0⟩
    rintro n sd ⟨i, Hd, Id, std, nd, wd⟩
    rcases turn i n Hd wd with ⟨stop, fin⟩ | ⟨go, Nx, more, step⟩
    · refine thnF (T.done (X.blk sb Hb scope ce fp) rfl rfl rfl calm i [] sd _ Hd (fun _ _ => False) Id (held Id nd) std stop) fun r se ⟨hr, Ie⟩ => ?_
      subst hr
      have If : Inv X pins σ Hd se := Ib.call' (ch := fp) Ie.os Ie.base Ie.hok Ie.bare fun b hm => let z := (fb b hm).1.2; ⟨z.2.2.1, z.1, z.2.2.2.1, z.2.2.2.2⟩
      have nC : Hd sb.heap.objs.size = none := by rw [← loc]; exact Ie.free
      obtain ⟨m, hn, _⟩ := Ie.loc
      have hn : se.heap.Ns sb.heap.objs.size m := by rw [← loc]; exact hn
      exact back D sb.heap.objs.size se m Hd If fin hn (Ib.fpOk (Nat.le_refl _) nC)
    · refine thnF (T.item (X.blk sb Hb scope ce fp) rfl rfl rfl calm i [] sd _ Hd (fun _ _ => False) Id (held Id nd) std go) fun r se ⟨u, hr, he⟩ => ?_
      subst hr
      refine thnF he fun _ sg ⟨x, Hg, Ig, rg, yg, stg, ng⟩ => ?_
      refine thnF (pg.run _ sg _ Hg x u _ (Ig.pinned (held Ig ng) (T.obj _ _ stg)) rg (step x Hg yg)) fun _ sh ⟨σh, Hh, Ih, wh, qh⟩ => ?_
      refine thnF (pt.run _ sh σh Hh _ Ih qh) fun b si ⟨Hi, Ii, qi⟩ => ?_
      have on : ∀ {s' : Shared} {H' : Hp}, Inv (X.blk sb Hb scope ce fp) ([] ++ pinsAt fp sg.heap) σh H' s' → Nx H' → ∃ m, m < n ∧ ∃ i H', Inv (X.blk sb Hb scope ce fp) [] (wipe σ (own.map (·.2))) H' s' ∧ tn i s'.heap ∧ (∀ b ∈ fp, H' b = none) ∧ W i m H' := fun {s' H'} I' nx => by
        obtain ⟨m', hm, w'⟩ := more H' nx
        have pinned : ∀ b ∈ fp, ∀ o, sg.heap.get? b = some o → s'.heap.get? b = some o ∧ H' b = none := fun b hb o e =>
          have z := I'.pin (b, o) (List.mem_append_right _ (List.mem_append_right _ (mem_pinsAt hb e)))
          ⟨z.1, z.2.1⟩
        refine ⟨m', hm, i + 1, H', (I'.unpinned (pins := [])).weak (by rw [← wh, wipe_length]) (fun j v e => (wipe_some (by rw [wh]; exact e)).1), T.keep _ _ _ stg fun b hb o e => (pinned b hb o e).1, fun b hb => ?_, w'⟩
        obtain ⟨o, e, _⟩ := T.obj _ _ stg b hb
        exact (pinned b hb o e).2
      cases b with
      | false =>
        simp only [Bool.false_eq_true, if_false] at qi ⊢
        exact on Ii qi
      | true =>
        simp only [if_true] at qi ⊢
        refine thnF (pk.run _ si σh Hi _ Ii qi) fun zk sj ⟨yk, Hj, Ij, rj, qj⟩ => ?_
        refine thnF (pe.run _ sj σh Hj _ Ij qj) fun zv sl ⟨yv, Hl, Il, rl, H6, put, nx⟩ => ?_
        exact dictSet_put (X := X.blk sb Hb scope ce fp) Il hu put rj rl fun sk Ik => on Ik nx
  exact codeAny_compStart_dict loop (T.self X.A 0 _ _ _ stc loop)
theorem pe_dcA {kx vx tg iter : Expr} {tup : Bool} {ifs : List Expr} {scope : Scope} {own : List (PySem.Str × Nat)} {pos : Pos} {wi : TI} {g : TG} {tt : TT} {tk tv : TE} (hu : X.A.units + 64 < cLine) (calm : X.calm = true) (nod : X.N.Nodup) (walk : PI X tg iter wi) (blk : BlkOk X.N X.env.scope scope own)
    (pgs : ∀ (s : Shared) (H : Hp) (C : Addr) (cl : List (PySem.Str × Addr)) (fp : List Addr), PG (X.blk s H scope (compEnvC scope cl C X.env) fp) tg g)
    (pts : ∀ (s : Shared) (H : Hp) (C : Addr) (cl : List (PySem.Str × Addr)) (fp : List Addr), PTs (X.blk s H scope (compEnvC scope cl C X.env) fp) ifs tt)
    (pks : ∀ (s : Shared) (H : Hp) (C : Addr) (cl : List (PySem.Str × Addr)) (fp : List Addr), PE (X.blk s H scope (compEnvC scope cl C X.env) fp) kx tk)
    (pes : ∀ (s : Shared) (H : Hp) (C : Addr) (cl : List (PySem.Str × Addr)) (fp : List Addr), PE (X.blk s H scope (compEnvC scope cl C X.env) fp) vx tv) (fold : ∀ x, foldedSetIterable iter X.env x = pure x := by intro _; rfl) :
    PE X (.DictComp kx vx [⟨tg, iter, ifs, 0⟩] scope pos) (tDcA tup wi g tt tk tv (own.map (·.2))) := by
  refine ⟨fun pins s σ H Q I h => ?_⟩
  rw [arm_eval_DictComp]
  refine dcA_core hu calm nod I walk blk pgs pts pks pes fold h fun D C s' m H' I' q hn f => ⟨m, hn, fun h'' sb => ?_⟩
  obtain ⟨f0, f1, f2, f3, f4, f5⟩ := f
  exact ⟨.ref D, H', I'.turned (t' := s'.toks) (fun b o hb e => (sb.2 b hb).trans e) f0 f1 f3 f4 f5, rfl, q⟩
end
/-! by data -/
def dcL {κ : Type} [DecidableEq κ] (ko : Dt → Option κ) (ss : SS) (g : GM) (t : TM) (k v : EM) : List Dt → List (κ × Dt) → (List (κ × Dt) → Prop) → Prop
  | [], acc, R => R acc
  | d :: l, acc, R => g d ss fun s1 => t s1 (fun b => ifP b (k s1 (fun y => v s1 (fun z => ∃ q, ko y = some q ∧ dcL ko ss g t k v l (putKD acc q z) R) xF) xF) (dcL ko ss g t k v l acc R)) xF
def keyOfU : Dt → Option (List Key)
  | .tup t => keyOfT t
  | _ => none
def dcW (it : AM) (vs : List Nat) (g : GM) (t : TM) (k v : EM) : EM := fun ss R X => it ss (fun l => l.length < 1000000 ∧ dcL keyOf (wipeS ss vs) g t k v l [] fun acc => R (.dic acc)) X
def dcTW (it : AM) (vs : List Nat) (g : GM) (t : TM) (k v : EM) : EM := fun ss R X => it ss (fun l => l.length < 1000000 ∧ dcL keyOfU (wipeS ss vs) g t k v l [] fun acc => R (.dit acc)) X
section
variable {c : Kc} {x : Mx} {w : Option WX} {G : Hp}
theorem Datt.any {k : List Key} : ∀ {l : List (List Key × Dt)} {xs : List (List Key × V)}, Datt c G l xs → (xs.any fun kv => decide (kv.1 = k)) = (l.any fun kv => decide (kv.1 = k))
  | [], _, h => by cases h; rfl
  | (k', y) :: l, _, ⟨u, r, h1, h2, h3⟩ => by subst h1; rw [List.any_cons, List.any_cons, Datt.any h3]
theorem Datt.mapKD {d : Dt} {v : V} {k : List Key} (q : Dat c G d v) : ∀ {l : List (List Key × Dt)} {xs : List (List Key × V)}, Datt c G l xs → Datt c G (l.map fun kv => if kv.1 = k then (kv.1, d) else kv) (xs.map fun kv => if kv.1 = k then (kv.1, v) else kv)
  | [], _, h => by cases h; rfl
  | (k', y) :: l, _, ⟨u, r, h1, h2, h3⟩ => by
    subst h1
    rw [List.map_cons, List.map_cons]
    dsimp only
    by_cases e : k' = k
    · rw [if_pos e, if_pos e]; exact ⟨v, _, rfl, q, Datt.mapKD q h3⟩
    · rw [if_neg e, if_neg e]; exact ⟨u, _, rfl, h2, Datt.mapKD q h3⟩
theorem Datt.appK : ∀ {l m : List (List Key × Dt)} {xs ys : List (List Key × V)}, Datt c G l xs → Datt c G m ys → Datt c G (l ++ m) (xs ++ ys)
  | [], _, _, _, h, q => by cases h; exact q
  | (k', y) :: l, _, _, _, ⟨u, r, h1, h2, h3⟩, q => by subst h1; exact ⟨u, _, rfl, h2, Datt.appK h3 q⟩
theorem Datt.putKD {d : Dt} {v : V} {k : List Key} (q : Dat c G d v) {l : List (List Key × Dt)} {xs : List (List Key × V)} (h : Datt c G l xs) : Datt c G (putKD l k d) (putK xs k v) := by
  unfold Mw.putKD putK
  rw [h.any]
  split
  · exact h.mapKD q
  · exact h.appK ⟨v, [], rfl, q, rfl⟩
theorem len_putKD {κ : Type} [DecidableEq κ] (l : List (κ × Dt)) (k : κ) (d : Dt) : (putKD l k d).length ≤ l.length + 1 := by
  unfold putKD
  split
  · simp
  · simp
theorem rf_dc {wi : TI} {it : AM} {g : TG} {gm : GM} {tt : TT} {t : TM} {tk tv : TE} {km vm : EM} {vs : List Nat} (hi : RI c x w wi it) (hg : RG c x vs g gm) (ht : RT c x none tt t) (hk : RE c x none tk km) (he : RE c x none tv vm) : RFb false c x w (tDcA false wi g tt tk tv vs) (dcW it vs gm t km vm) := fun ss R X G σ H m ex s Q q z =>
  hi ss _ X G σ H m ex s _ (fun J l G1 H1 g1 wk ⟨hl, m1⟩ => by
    have s1 := s.go g1
    intro D nD
    have nG : G1 D = none := g1.ink.free nD
    refine ⟨fun i m H' => m = l.length - i ∧ i ≤ l.length ∧ ∃ (G' : Hp) (acc : List (Key × Dt)) (xs : List (Key × V)), Go c G1 H1 G' H' ∧ G' D = none ∧ H' D = some (.dK xs) ∧ Datk c G' acc xs ∧ acc.length ≤ i ∧ dcL keyOf (wipeS ss vs) gm t km vm (l.drop i) acc fun acc => R (.dic acc), ⟨l.length, by simp, Nat.zero_le _, G1, [], [], Go.put g1.ink nD, nG, upd_same, rfl, Nat.le_refl _, m1⟩, ?_⟩
    rintro i n H2 ⟨rfl, hi, G2, acc, xs, g2, n2, e2, d2, l2, m2⟩
    by_cases hlt : i < l.length
    · refine .inr ⟨wk.goes i H2 hlt (g2.kn.trans g2.ink.ex), fun H' => ∃ (G' : Hp) (acc : List (Key × Dt)) (xs : List (Key × V)), Go c G1 H1 G' H' ∧ G' D = none ∧ H' D = some (.dK xs) ∧ Datk c G' acc xs ∧ acc.length ≤ i + 1 ∧ dcL keyOf (wipeS ss vs) gm t km vm (l.drop (i + 1)) acc fun acc => R (.dic acc), fun H' p => ⟨l.length - (i + 1), by omega, rfl, hlt, p⟩, fun v H3 y => ?_⟩
      obtain ⟨d, G3, hd3, g3, dx⟩ := wk.yields i H2 v H3 hlt (g2.kn.trans g2.ink.ex) y G2 g2.kn g2.ink
      have e3 : H3 D = some (.dK xs) := g3.up.st D _ e2 (flat_dK (a := D)).1
      have n3 : G3 D = none := g3.nw D _ n2 e2 (fun _ z => by cases z)
      rw [drop_at hd3] at m2
      have s3 : Sv c x G3 H3 (wipe σ vs) (wipeS ss vs) := ((s1.go g2).go g3).wipe vs
      refine hg d _ _ m2 G3 H3 _ v g3.ink s3 dx _ fun σ4 s4 sv4 w4 m4 => ⟨by rw [w4]; exact wipe_wipe fun _ h => h, ?_⟩
      refine ht s4 _ xF G3 σ4 H3 m4 g3.ink sv4.1 _ (fun b G5 H5 g5 m5 => ?_) fun _ _ _ _ _ _ _ hc => hc.elim
      have e5 : H5 D = some (.dK xs) := g5.up.st D _ e3 (flat_dK (a := D)).1
      have n5 : G5 D = none := g5.nw D _ n3 e3 (fun _ z => by cases z)
      cases b with
      | false =>
        rw [if_neg Bool.false_ne_true]
        exact ⟨G5, acc, xs, (g2.trans g3).trans g5, n5, e5, (d2.up g3.kn).up g5.kn, by omega, ifP_f m5⟩
      | true =>
        rw [if_pos rfl]
        refine hk s4 _ xF G5 σ4 H5 (ifP_t m5) g5.ink (sv4.1.go g5) _ (fun yk dk G6 H6 g6 d6 m6 => ?_) fun _ _ _ _ _ _ _ hc => hc.elim
        refine he s4 _ xF G6 σ4 H6 m6 g6.ink ((sv4.1.go g5).go g6) _ (fun yv dv G7 H7 g7 d7 m7 => ?_) fun _ _ _ _ _ _ _ hc => hc.elim
        obtain ⟨k, ek, m7⟩ := m7
        have e7 : H7 D = some (.dK xs) := g7.up.st D _ (g6.up.st D _ e5 (flat_dK (a := D)).1) (flat_dK (a := D)).1
        have n6 : G6 D = none := g6.nw D _ n5 e5 (fun _ z => by cases z)
        have n7 : G7 D = none := g7.nw D _ n6 (g6.up.st D _ e5 (flat_dK (a := D)).1) (fun _ z => by cases z)
        have d8 := ((((d2.up g3.kn).up g5.kn).up g6.kn).up g7.kn)
        have g8 := (((g2.trans g3).trans g5).trans g6).trans g7
        have hz : xs.length < sizeLine := by rw [d2.len]; exact sz_lt (by omega)
        have hl' := len_putKD acc k dv
        refine ⟨_, .inl ⟨xs, k, e7, keyOf_v (d6.up g7.kn) ek, hz, rfl⟩, G7, putKD acc k dv, _, g8.turn n7 nD e7 flat_dK, n7, upd_same, d8.putKD d7, by omega, m7⟩
    · have e : i = l.length := by omega
      subst e
      rw [List.drop_length] at m2
      exact .inl ⟨wk.stops H2 (g2.kn.trans g2.ink.ex), q D (.dic acc) _ G2 H2 (g1.trans g2) (g1.up.free nD) n2 e2 ⟨rfl, xs, rfl, d2⟩ m2⟩) z
theorem rf_dcT {wi : TI} {it : AM} {g : TG} {gm : GM} {tt : TT} {t : TM} {tk tv : TE} {km vm : EM} {vs : List Nat} (hi : RI c x w wi it) (hg : RG c x vs g gm) (ht : RT c x none tt t) (hk : RE c x none tk km) (he : RE c x none tv vm) : RFb false c x w (tDcA true wi g tt tk tv vs) (dcTW it vs gm t km vm) := fun ss R X G σ H m ex s Q q z =>
  hi ss _ X G σ H m ex s _ (fun J l G1 H1 g1 wk ⟨hl, m1⟩ => by
    have s1 := s.go g1
    intro D nD
    have nG : G1 D = none := g1.ink.free nD
    refine ⟨fun i m H' => m = l.length - i ∧ i ≤ l.length ∧ ∃ (G' : Hp) (acc : List (List Key × Dt)) (xs : List (List Key × V)), Go c G1 H1 G' H' ∧ G' D = none ∧ H' D = some (.dT xs) ∧ Datt c G' acc xs ∧ acc.length ≤ i ∧ dcL keyOfU (wipeS ss vs) gm t km vm (l.drop i) acc fun acc => R (.dit acc), ⟨l.length, by simp, Nat.zero_le _, G1, [], [], Go.put g1.ink nD, nG, upd_same, rfl, Nat.le_refl _, m1⟩, ?_⟩
    rintro i n H2 ⟨rfl, hi, G2, acc, xs, g2, n2, e2, d2, l2, m2⟩
    by_cases hlt : i < l.length
    · refine .inr ⟨wk.goes i H2 hlt (g2.kn.trans g2.ink.ex), fun H' => ∃ (G' : Hp) (acc : List (List Key × Dt)) (xs : List (List Key × V)), Go c G1 H1 G' H' ∧ G' D = none ∧ H' D = some (.dT xs) ∧ Datt c G' acc xs ∧ acc.length ≤ i + 1 ∧ dcL keyOfU (wipeS ss vs) gm t km vm (l.drop (i + 1)) acc fun acc => R (.dit acc), fun H' p => ⟨l.length - (i + 1), by omega, rfl, hlt, p⟩, fun v H3 y => ?_⟩
      obtain ⟨d, G3, hd3, g3, dx⟩ := wk.yields i H2 v H3 hlt (g2.kn.trans g2.ink.ex) y G2 g2.kn g2.ink
      have e3 : H3 D = some (.dT xs) := g3.up.st D _ e2 (flat_dT (a := D)).1
      have n3 : G3 D = none := g3.nw D _ n2 e2 (fun _ z => by cases z)
      rw [drop_at hd3] at m2
      have s3 : Sv c x G3 H3 (wipe σ vs) (wipeS ss vs) := ((s1.go g2).go g3).wipe vs
      refine hg d _ _ m2 G3 H3 _ v g3.ink s3 dx _ fun σ4 s4 sv4 w4 m4 => ⟨by rw [w4]; exact wipe_wipe fun _ h => h, ?_⟩
      refine ht s4 _ xF G3 σ4 H3 m4 g3.ink sv4.1 _ (fun b G5 H5 g5 m5 => ?_) fun _ _ _ _ _ _ _ hc => hc.elim
      have e5 : H5 D = some (.dT xs) := g5.up.st D _ e3 (flat_dT (a := D)).1
      have n5 : G5 D = none := g5.nw D _ n3 e3 (fun _ z => by cases z)
      cases b with
      | false =>
        rw [if_neg Bool.false_ne_true]
        exact ⟨G5, acc, xs, (g2.trans g3).trans g5, n5, e5, (d2.up g3.kn).up g5.kn, by omega, ifP_f m5⟩
      | true =>
        rw [if_pos rfl]
        refine hk s4 _ xF G5 σ4 H5 (ifP_t m5) g5.ink (sv4.1.go g5) _ (fun yk dk G6 H6 g6 d6 m6 => ?_) fun _ _ _ _ _ _ _ hc => hc.elim
        refine he s4 _ xF G6 σ4 H6 m6 g6.ink ((sv4.1.go g5).go g6) _ (fun yv dv G7 H7 g7 d7 m7 => ?_) fun _ _ _ _ _ _ _ hc => hc.elim
        obtain ⟨k, ek, m7⟩ := m7
        have e7 : H7 D = some (.dT xs) := g7.up.st D _ (g6.up.st D _ e5 (flat_dT (a := D)).1) (flat_dT (a := D)).1
        have n6 : G6 D = none := g6.nw D _ n5 e5 (fun _ z => by cases z)
        have n7 : G7 D = none := g7.nw D _ n6 (g6.up.st D _ e5 (flat_dT (a := D)).1) (fun _ z => by cases z)
        have d8 := ((((d2.up g3.kn).up g5.kn).up g6.kn).up g7.kn)
        have g8 := (((g2.trans g3).trans g5).trans g6).trans g7
        have hz : xs.length < sizeLine := by rw [d2.len]; exact sz_lt (by omega)
        have hl' := len_putKD acc k dv
        cases dk with
        | tup tl =>
          obtain ⟨b, ys, rfl, hb, hy⟩ := d6.up g7.kn
          have ek := keyOfT_v hy ek
          subst ek
          refine ⟨_, .inr ⟨xs, k, b, e7, rfl, g7.ink _ _ hb, hz, rfl⟩, G7, putKD acc k dv, _, g8.turn n7 nD e7 flat_dT, n7, upd_same, d8.putKD d7, by omega, m7⟩
        | _ => cases ek
    · have e : i = l.length := by omega
      subst e
      rw [List.drop_length] at m2
      exact .inl ⟨wk.stops H2 (g2.kn.trans g2.ink.ex), q D (.dit acc) _ G2 H2 (g1.trans g2) (g1.up.free nD) n2 e2 ⟨rfl, xs, rfl, d2⟩ m2⟩) z
end
end Mw

set_option Elab.async false
set_option linter.all false
set_option maxRecDepth 100000
set_option maxHeartbeats 4000000
namespace Mw
open PySem PySem.Spec PyProof.Rows L2
/-! ### list(x), of dicts too; sorted(x) of texts and of tuples of texts -/
def rToLstA (K : PySem.W.Frag) : List V → Hp → VK → Prop := fun xs H Q => (rToLst K xs H Q ∨ ∃ d kvs o, xs = [V.ref d] ∧ H d = some (.frz o (.dK kvs)) ∧ ∀ p, H p = none → Q (.ref p) (upd H p (.lst (kvs.map fun kv => kV kv.1)))) ∨
  ∃ d kvs o, xs = [V.ref d] ∧ H d = some (.frz o (.dT kvs)) ∧ ∀ p bs, H p = none → IsKeys H kvs bs → Q (.ref p) (upd H p (.lst (bs.map V.ref)))
abbrev ltT (a b : List Str) : Bool := lexLt itemOrd (a.map fun z => Sum.inr z.cps.toList) (b.map fun z => Sum.inr z.cps.toList)
/-- sorted(tuples of texts) -/
def rSortT (K : PySem.W.Frag) : List V → Hp → VK → Prop := fun vs H Q => ∃ (a : Addr) (ps : List (List Str × Addr)), vs = [V.ref a] ∧ SqL K H a (ps.map fun p => V.ref p.2) ∧ ps.length < 64 ∧ (∀ p ∈ ps, p.1 ≠ [] ∧ H p.2 = some (.tup (p.1.map V.str))) ∧
  ∀ (qs : List (List Str × Addr)) (p : Addr), qs.Perm ps → qs.Pairwise (fun x y => ltT y.1 x.1 = false) → H p = none → Q (.ref p) (upd H p (.lst (qs.map fun p => V.ref p.2)))
theorem perm_of_map {α β : Type} {f : α → β} : ∀ {l : List β} {ps : List α}, l.Perm (ps.map f) → ∃ qs : List α, qs.Perm ps ∧ qs.map f = l
  | [], ps, h => by
    have : ps = [] := by
      have := h.length_eq
      simp at this
      exact List.length_eq_zero_iff.mp this.symm
    subst this
    exact ⟨[], .nil, rfl⟩
  | x :: l, ps, h => by
    have hx : x ∈ ps.map f := h.mem_iff.mp (by simp)
    obtain ⟨p, hp, rfl⟩ := List.mem_map.mp hx
    obtain ⟨s, t, rfl⟩ := List.append_of_mem hp
    have h2 : (f p :: l).Perm (f p :: (s ++ t).map f) := by
      refine h.trans ?_
      rw [List.map_append, List.map_append, List.map_cons]
      exact List.perm_middle
    obtain ⟨qs, q1, q2⟩ := perm_of_map (List.Perm.cons_inv h2)
    exact ⟨p :: qs, (q1.cons p).trans List.perm_middle.symm, by rw [List.map_cons, q2]⟩
theorem zip_self {α : Type} : ∀ l : List α, l.zip l = l.map fun a => (a, a)
  | [] => rfl
  | a :: l => by rw [List.zip_cons_cons, zip_self l]; rfl
theorem tupItems_strs : ∀ {ks : List Str} {its : List Value} {i : Nat}, Vals (ks.map V.str) its → tupItems (fun _ => true) i its = some (ks.map fun z => Sum.inr z.cps.toList)
  | [], _, _, h => by cases h; rfl
  | k :: ks, _, i, h => by
    cases h with
    | cons h1 h2 =>
      obtain ⟨t, rfl⟩ := h1
      show (tupItems (fun _ => true) (i + 1) _).map _ = _
      rw [tupItems_strs h2]
      rfl
section
variable {X : Cx}
theorem callListA {K : PySem.W.Frag} (hK : X.K = K) (hc : X.calm = true) : CallR X (.type "list") (rToLstA K) := by
  intro pins s σ H vs us Q I r h
  rcases h with (h | ⟨d, kvs, o, rfl, hd, q⟩) | ⟨d, kvs, o, rfl, hd, q⟩
  · exact callList hK pins s σ H vs us Q I r h
  · exact call_listD hc pins s σ H _ us Q I r ⟨d, kvs, rfl, .inr ⟨o, hd⟩, q⟩
  · exact call_list_dT hc pins s σ H _ us Q I r ⟨d, kvs, rfl, .inr ⟨o, hd⟩, q⟩
theorem vals_refsP {f : List Str × Addr → V} : ∀ {ps : List (List Str × Addr)} {its : List Value}, Vals (ps.map fun p => V.ref p.2) its → its = ps.map fun p => Value.ref p.2
  | [], _, h => by cases h; rfl
  | p :: ps, _, h => by
    cases h with
    | cons h1 h2 =>
      cases (show _ = Value.ref p.2 from h1)
      rw [vals_refsP (f := f) h2]
      rfl
theorem cr_sortT {K : PySem.W.Frag} (hK : X.K = K) : CallR X (.builtin "sorted") (rSortT K) := by
  subst hK
  intro pins s σ H vs us Q I r h
  obtain ⟨a, ps, rfl, hs, h64, hps, q⟩ := h
  obtain ⟨its, rv, hl, _⟩ := I.list hs
  rw [Vals.ref1 r]
  have ei := vals_refsP (f := fun _ => .non) rv
  subst ei
  have tupAt : ∀ p ∈ ps, ∃ o xs n, s.heap.get? p.2 = some o ∧ o.cls = .type "tuple" ∧ o.data = .seq xs n ∧ Vals (p.1.map V.str) xs.toList := fun p hp => by
    obtain ⟨z, its, rv, ho⟩ := (show ObjOk X.prog X.w H s.heap p.2 (.tup (p.1.map V.str)) from I.hok _ _ (hps p hp).2)
    obtain ⟨o, h1, h2, n, h3⟩ := ho
    exact ⟨o, its.toArray, n, h1, h2, h3, by simpa using rv⟩
  have ht : ∀ ps' : List (List Str × Addr), (∀ p ∈ ps', p ∈ ps) → ∃ fs, TupsOf s.heap (fun _ => true) (ps'.map fun p => Value.ref p.2) fs := by
    intro ps'
    induction ps' with
    | nil => exact fun _ => ⟨[], .nil⟩
    | cons p r ih =>
      intro hm
      obtain ⟨fs, hf⟩ := ih fun p' hp' => hm p' (List.mem_cons_of_mem _ hp')
      obtain ⟨o, xs, n, h1, h2, h3, h4⟩ := tupAt p (hm p List.mem_cons_self)
      have ne := (hps p (hm p List.mem_cons_self)).1
      cases e : p.1 with
      | nil => exact absurd e ne
      | cons k ks =>
        rw [e] at h4
        obtain ⟨xl, rfl⟩ : ∃ xl : List Value, xs = xl.toArray := ⟨xs.toList, by simp⟩
        simp only [List.map_cons] at h4
        cases h4 with
        | @cons _ u _ us h5 h6 =>
          obtain ⟨t, rfl⟩ := h5
          exact ⟨.str k t :: fs, .cons ⟨p.2, o, _, n, rfl, h1, h2, h3, by simp, fun z => absurd z (by simp), fun _ => ⟨k, t, rfl⟩⟩ hf⟩
  have keyAt : ∀ p ∈ ps, G.tupKeyC s.heap (fun _ => true) (.ref p.2) = some (p.1.map fun z => Sum.inr z.cps.toList) := fun p hp => by
    obtain ⟨o, xs, n, h1, h2, h3, h4⟩ := tupAt p hp
    unfold G.tupKeyC
    rw [if_pos (by simp [G.isTupObj, h1, h2])]
    simp only [tupKey, h1, h3]
    exact tupItems_strs h4
  obtain ⟨fs, hf⟩ := ht ps fun _ h => h
  refine G.sorted_tups (shape := fun _ => true) hl.isList hf (fun v hv => ?_) (by rw [List.length_map, sizeLine_eq]; omega) fun st' hp hso _ => ?_
  · obtain ⟨p, hp, rfl⟩ := List.mem_map.mp hv
    exact ⟨_, keyAt p hp⟩
  · have hp2 := Array.perm_iff_toList_perm.mp hp
    rw [pairsOf_toList, zip_self, List.map_map] at hp2
    obtain ⟨qs, q1, q2⟩ := perm_of_map hp2
    have earr : arrOf st' = (qs.map ((fun a => (a, a)) ∘ fun p : List Str × Addr => Value.ref p.2)).toArray := Array.toList_inj.mp (by rw [← q2])
    have hlen : qs.length = ps.length := q1.length_eq
    have pw : qs.Pairwise (fun x y => ltT y.1 x.1 = false) := by
      rw [List.pairwise_iff_getElem]
      intro i j hi hj hij
      have hk : ∀ (i : Nat) (hi : i < qs.length), KK (G.tupKindC s.heap fun _ => true) (arrOf st') i = qs[i].1.map fun z => Sum.inr z.cps.toList := fun i hi => by
        unfold KK
        have : (arrOf st')[i]? = some (Value.ref qs[i].2, Value.ref qs[i].2) := by
          rw [earr]
          simp [hi]
        rw [this]
        show (G.tupKeyC s.heap (fun _ => true) (.ref qs[i].2)).getD [] = _
        rw [keyAt _ (q1.mem_iff.mp (List.getElem_mem hi))]
        rfl
      have := hso i j (by omega) (by rw [pairsOf_size, List.length_map]; omega)
      rw [hk i hi, hk j hj] at this
      exact this
    have eo : (arrOf st').map (·.2) = (qs.map fun p => Value.ref p.2).toArray := by
      rw [earr]
      simp
    obtain ⟨ep, he'⟩ := PyProof.Rows.sortedAll_at s.heap (ps.map fun p => Value.ref p.2) ((arrOf st').map (·.2))
    have hz : (qs.map fun p => V.ref p.2).length ≤ sizeLine := by rw [List.length_map, hlen, sizeLine_eq]; omega
    have rv2 : ∀ l : List (List Str × Addr), Vals (l.map fun p => V.ref p.2) (l.map fun p => Value.ref p.2) := fun l => by
      induction l with
      | nil => exact .nil
      | cons a l ih => exact .cons rfl ih
    exact ⟨.ref _, upd H (s.heap.objs.size + 1) (.lst (qs.map fun p => V.ref p.2)), I.laid (t' := s.toks) (fun _ _ => PyProof.Rows.sortedAll_old) (Nat.le_succ _) ⟨hz, _, ep, rv2 qs, by rw [he', eo]⟩, rfl, q qs _ q1 pw (I.hok.fresh (Nat.le_succ _))⟩
def rSortA (K : PySem.W.Frag) (w : World) : List V → Hp → VK → Prop := fun vs H Q => (rSortedSet w vs H Q ∨ rSortedS K vs H Q) ∨ rSortT K vs H Q
theorem callSortA {K : PySem.W.Frag} {w : World} (hK : X.K = K) (hw : X.w = w) (hc : X.calm = true) : CallR X (.builtin "sorted") (rSortA K w) := by
  intro pins s σ H vs us Q I r h
  rcases h with (h | h) | h
  · exact callSorted hw hc pins s σ H vs us Q I r h
  · subst hK; exact cr_sortedS pins s σ H vs us Q I r h
  · exact cr_sortT hK pins s σ H vs us Q I r h
end
/-! by data -/
def txtsD : List Dt → Option (List Str)
  | [] => some []
  | .str z :: l => (txtsD l).map (z :: ·)
  | _ => none
def tupsD : List Dt → Option (List (List Str))
  | [] => some []
  | .tup t :: l => match txtsD t, tupsD l with
    | some (k :: ks), some r => some ((k :: ks) :: r)
    | _, _ => none
  | _ => none
def listAD : DN
  | [.lst l], R => R (.lst l)
  | [.tup l], R => R (.lst l)
  | [.dic l], R => R (.lst (l.map fun p => keyDt p.1))
  | [.dit l], R => R (.lst (l.map fun p => keysDt p.1))
  | _, _ => False
def tupStrs (k : List Str) : Dt := .tup (k.map .str)
def sortAD : DN
  | [.set l], R => l.length < 64 ∧ R (.lst ((sortU l).map .int))
  | [.lst l], R => l.length < 64 ∧ ((∃ ks, txtsD l = some ks ∧ ∀ ys, ys.Perm ks → sortedS ys = true → R (.lst (ys.map .str))) ∨
      ∃ ks, tupsD l = some ks ∧ ∀ ys : List (List Str), ys.Perm ks → ys.Pairwise (fun x y => ltT y x = false) → R (.lst (ys.map tupStrs)))
  | _, _ => False
section
variable {c : Kc} {G H : Hp}
theorem txtsD_v : ∀ {l : List Dt} {ks : List Str} {xs : List V}, Dats c G l xs → txtsD l = some ks → xs = ks.map V.str
  | [], _, _, h, e => by cases h; cases e; rfl
  | d :: l, _, _, ⟨x, r, h1, h2, h3⟩, e => by
    cases d with
    | str b =>
      unfold txtsD at e
      obtain ⟨bs, e1, rfl⟩ := Option.map_eq_some_iff.mp e
      cases h2
      rw [h1, txtsD_v h3 e1]; rfl
    | _ => cases e
theorem txtsD_d : ∀ {l : List Dt} {ks : List Str}, txtsD l = some ks → l = ks.map .str
  | [], _, e => by cases e; rfl
  | d :: l, _, e => by
    cases d with
    | str b =>
      unfold txtsD at e
      obtain ⟨bs, e1, rfl⟩ := Option.map_eq_some_iff.mp e
      rw [txtsD_d e1]; rfl
    | _ => cases e
theorem dats_strs : ∀ {ks : List Str}, Dats c G (ks.map .str) (ks.map V.str)
  | [] => rfl
  | _ :: _ => ⟨_, _, rfl, rfl, dats_strs⟩
theorem tupsD_v : ∀ {l : List Dt} {ks : List (List Str)} {xs : List V}, Dats c G l xs → tupsD l = some ks → ∃ ps : List (List Str × Addr), ps.map (·.1) = ks ∧ xs = ps.map (fun p => V.ref p.2) ∧ ∀ p ∈ ps, p.1 ≠ [] ∧ G p.2 = some (.tup (p.1.map V.str))
  | [], _, _, h, e => by cases h; cases e; exact ⟨[], rfl, rfl, fun _ h => nomatch h⟩
  | d :: l, _, _, ⟨x, r, h1, h2, h3⟩, e => by
    cases d with
    | tup t =>
      unfold tupsD at e
      cases e1 : txtsD t with
      | none => rw [e1] at e; cases e
      | some k =>
        cases k with
        | nil => rw [e1] at e; cases e
        | cons k ks =>
          cases e2 : tupsD l with
          | none => rw [e1, e2] at e; cases e
          | some m =>
            rw [e1, e2] at e
            cases e
            obtain ⟨b, ys, rfl, hb, hy⟩ := h2
            have := txtsD_v hy e1
            subst this
            obtain ⟨ps, rfl, rfl, hp⟩ := tupsD_v h3 e2
            refine ⟨(k :: ks, b) :: ps, rfl, h1, fun p hp' => ?_⟩
            rcases List.mem_cons.mp hp' with rfl | hp'
            · exact ⟨by simp, hb⟩
            · exact hp p hp'
    | _ => cases e
theorem datsP : ∀ {ps : List (List Str × Addr)}, (∀ p ∈ ps, G p.2 = some (.tup (p.1.map V.str))) → Dats c G (ps.map fun p => tupStrs p.1) (ps.map fun p => V.ref p.2)
  | [], _ => rfl
  | p :: ps, h => ⟨_, _, rfl, ⟨p.2, _, rfl, h p List.mem_cons_self, dats_strs⟩, datsP fun q hq => h q (List.mem_cons_of_mem _ hq)⟩
theorem Go.keys : ∀ {G H : Hp} {kvs : List (List Key × V)} {bs : List Addr}, In c G H → IsKeys H kvs bs → ∃ G2, Go c G H G2 H ∧ Dats c G2 (kvs.map fun p => keysDt p.1) (bs.map V.ref)
  | G, H, [], _, e, h => by cases h; exact ⟨G, Go.refl e, rfl⟩
  | G, H, p :: kvs, _, e, h => by
    cases h with
    | cons h1 h2 =>
      obtain ⟨G1, g1, k1⟩ := Go.know e h1
      obtain ⟨G2, g2, k2⟩ := Go.keys g1.ink h2
      exact ⟨G2, g1.trans g2, _, _, rfl, ⟨_, _, rfl, g2.kn _ _ k1, dats_keyDt⟩, k2⟩
theorem datk_keys : ∀ {l : List (Key × Dt)} {xs : List (Key × V)}, Datk c G l xs → l.map (·.1) = xs.map (·.1)
  | [], _, h => by cases h; rfl
  | (k, e) :: l, _, ⟨y, r, h1, h2, h3⟩ => by subst h1; simp [datk_keys h3]
theorem datt_keys : ∀ {l : List (List Key × Dt)} {xs : List (List Key × V)}, Datt c G l xs → l.map (·.1) = xs.map (·.1)
  | [], _, h => by cases h; rfl
  | (k, e) :: l, _, ⟨y, r, h1, h2, h3⟩ => by subst h1; simp [datt_keys h3]
theorem ro_listA : RON c (rToLstA c.K) listAD := fun ds R m G H vs ex d Q q => by
  match ds, m with
  | [.lst l], m => exact .inl (.inl (ro_list [.lst l] R m G H vs ex d Q q))
  | [.tup l], m => exact .inl (.inl (ro_list [.tup l] R m G H vs ex d Q q))
  | [.dic l], m =>
    obtain ⟨v, r, rfl, ⟨a, o, xs, rfl, h1, h2⟩, d3⟩ := d
    cases d3
    refine .inl (.inr ⟨a, xs, o, rfl, ex _ _ h1, fun p hp => q _ (.lst (l.map fun p => keyDt p.1)) _ _ (Go.new ex hp) ?_ (show R (.lst (l.map fun p => keyDt p.1)) from m)⟩)
    have e1 : (xs.map fun kv => kV kv.1) = (l.map (·.1)).map kV := by rw [datk_keys h2, List.map_map]; rfl
    have e2 : (l.map fun p => keyDt p.1) = (l.map (·.1)).map keyDt := by rw [List.map_map]; rfl
    rw [e1, e2]
    exact dat_newL dats_keyDt (ex.free hp)
  | [.dit l], m =>
    obtain ⟨v, r, rfl, ⟨a, o, xs, rfl, h1, h2⟩, d3⟩ := d
    cases d3
    refine .inr ⟨a, xs, o, rfl, ex _ _ h1, fun p bs hp hk => ?_⟩
    obtain ⟨G2, g2, k2⟩ := Go.keys ex hk
    have e2 : (l.map fun p => keysDt p.1) = xs.map fun p => keysDt p.1 := by
      have := congrArg (List.map keysDt) (datt_keys h2)
      rw [List.map_map, List.map_map] at this
      exact this
    refine q _ (.lst (l.map fun p => keysDt p.1)) _ _ (g2.trans (Go.new g2.ink hp)) ?_ (show R (.lst (l.map fun p => keysDt p.1)) from m)
    rw [e2]
    exact dat_newL k2 (g2.ink.free hp)
theorem ro_sortA : RON c (rSortA c.K c.w) sortAD := fun ds R m G H vs ex d Q q => by
  match ds, m with
  | [.set l], m => exact .inl (.inl (ro_sorted [.set l] R m G H vs ex d Q q))
  | [.lst l], ⟨hl, m⟩ =>
    obtain ⟨v, r, rfl, ⟨a, xs, rfl, h1, h2⟩, d3⟩ := d
    cases d3
    have hlen := h2.len
    rcases m with ⟨ks, e, m⟩ | ⟨ks, e, m⟩
    · have := txtsD_v h2 e
      subst this
      rw [List.length_map] at hlen
      exact .inl (.inr ⟨a, ks, rfl, .inl (.inl (ex _ _ h1)), by omega, fun ys p hp hs hn => q _ (.lst (ys.map .str)) _ _ (Go.new ex hn) (dat_newL dats_strs (ex.free hn)) (m ys hp hs)⟩)
    · obtain ⟨ps, rfl, rfl, hp⟩ := tupsD_v h2 e
      rw [List.length_map] at hlen
      refine .inr ⟨a, ps, rfl, .inl (.inl (ex _ _ h1)), by omega, fun p h => ⟨(hp p h).1, ex _ _ (hp p h).2⟩, fun qs p hq pw hn => ?_⟩
      refine q _ (.lst ((qs.map (·.1)).map tupStrs)) _ _ (Go.new ex hn) ?_ (m _ (hq.map _) (List.pairwise_map.mpr pw))
      rw [List.map_map]
      exact dat_newL (datsP fun p h => (hp p (hq.mem_iff.mp h)).2) (ex.free hn)
end
end Mw

set_option Elab.async false
set_option linter.all false
set_option maxRecDepth 100000
set_option maxHeartbeats 4000000
namespace Mw
open PySem PySem.Spec PyProof.Rows L2
/-! ### {k: v, ..}, keys tuples -/
inductive DPs (D : Addr) : Hp → List (V × V) → Hp → Prop
  | nil {H : Hp} : DPs D H [] H
  | cons {H H1 H2 : Hp} {y v : V} {ps : List (V × V)} (h : DPut H D y v H1) (r : DPs D H1 ps H2) : DPs D H ((y, v) :: ps) H2
def tDispT (trs : List (TE × TE)) : TE := fun σ H Q => ∀ p, H p = none → tPairs trs σ (upd H p (.dT [])) fun ps H2 => ∃ H3, DPs p H2 ps H3 ∧ Q (.ref p) H3
section
variable {X : Cx}
theorem storeAll_put {pins : List (Addr × Obj)} {σ : L2.St} {E : Value → Shared → Prop} {D : Addr} (hu : X.A.units + 64 < cLine) {H H' : Hp} {ps : List (V × V)} (d : DPs D H ps H') : ∀ {ws : List (Value × Value)} {s : Shared} {Q : PUnit → Shared → Prop}, Inv X pins σ H s → VV ps ws →
    (∀ s', Inv X pins σ H' s' → Q PUnit.unit s') → wpAny (model X.prog X.w) X.A (storeAll D ws) Q E s := by
  induction d with
  | nil =>
    intro ws s Q I r h
    cases r
    unfold storeAll
    rw [List.forIn_nil]
    exact wpAny_pure (h s I)
  | cons p _ ih =>
    intro ws s Q I r h
    cases r with
    | @cons _ b _ bs h1 h2 =>
      obtain ⟨b1, b2⟩ := b
      unfold storeAll
      rw [List.forIn_cons]
      refine wpAny_bind (wpAny_bind (dictSet_put I hu p h1.1 h1.2 fun s' I' => wpAny_pure ?_))
      exact ih I' h2 h
theorem pe_dispT {pos : Pos} {keys : List (Option Expr)} {values : List Expr} {trs : List (TE × TE)} (hu : X.A.units + 64 < cLine) (h : PPs X pos keys values trs) (hall : keys.all (·.isSome) = true) (hl : keys.length = values.length) (h0 : keys ≠ [])
    (h15 : keys.length ≤ 15) : PE X (.Dict keys values pos) (tDispT trs) := by
  refine ⟨fun pins s σ H Q I q => ?_⟩
  have hn := I.hok.fresh (Nat.le_refl s.heap.objs.size)
  have I1 := I.laid (a := s.heap.objs.size) (o := .dT []) (h' := s.heap.push { cls := .type "dict", data := .dict #[] }) (t' := s.toks) (fun _ _ q => Heap.get?_push_of_some _ q) (Nat.le_refl _) (dt_empty s.heap I.big)
  refine wpAny_Dict_any hall hl h0 h15 (thn (h.run pins _ σ _ _ I1 (q _ hn)) fun ws s2 ⟨ps, H2, I2, rel, H3, d, q2⟩ => ?_)
  exact storeAll_put hu d I2 rel fun s' I' => ⟨.ref s.heap.objs.size, H3, I', rfl, q2⟩
end
/-! by data -/
def dispTP : List (Dt × Dt) → List (List Key × Dt) → (List (List Key × Dt) → Prop) → Prop
  | [], acc, R => R acc
  | (a, b) :: l, acc, R => ∃ k, keyOfU a = some k ∧ dispTP l (putKD acc k b) R
def dispTW (ps : List (EM × EM)) : EM := fun ss R X => dispP ps ss (fun l => l.length ≤ 15 ∧ dispTP l [] fun acc => R (.dit acc)) X
section
variable {c : Kc} {x : Mx} {w : Option WX}
theorem keyOfU_v {G H : Hp} {d : Dt} {v : V} {k : List Key} (ex : In c G H) (h : Dat c G d v) (e : keyOfU d = some k) : ∃ b, v = .ref b ∧ G b = some (.tup (k.map kV)) := by
  cases d with
  | tup t =>
    obtain ⟨b, ys, rfl, hb, hy⟩ := h
    have ek := keyOfT_v hy e
    subst ek
    exact ⟨b, rfl, hb⟩
  | _ => cases e
theorem dps_ok {p : Addr} {G0 H0 : Hp} (n : H0 p = none) : ∀ {l : List (Dt × Dt)} {acc : List (List Key × Dt)} {ps : List (V × V)} {xs : List (List Key × V)} {R : List (List Key × Dt) → Prop} {G H : Hp}, Go c G0 H0 G H → G p = none → H p = some (.dT xs) → Datt c G acc xs → xs.length + l.length ≤ 16777216 → Dat2 c G l ps → dispTP l acc R →
    ∃ H3 acc' xs', DPs p H ps H3 ∧ Datt c G acc' xs' ∧ R acc' ∧ Go c G0 H0 G H3 ∧ H3 p = some (.dT xs')
  | [], acc, _, xs, R, G, H, g, nG, hp, d, hl, h2, m => by
    cases h2
    exact ⟨H, acc, xs, .nil, d, m, g, hp⟩
  | (a, b) :: l, acc, _, xs, R, G, H, g, nG, hp, d, hl, ⟨u, v, r, h1, h2, h3, h4⟩, ⟨k, ek, m⟩ => by
    subst h1
    obtain ⟨q, rfl, hq⟩ := keyOfU_v g.ink h2 ek
    have hz : xs.length < sizeLine := by rw [sizeLine_eq]; simp at hl; omega
    have g2 : Go c G0 H0 G (upd H p (.dT (putK xs k v))) := g.turn nG n hp flat_dT
    have hl' := length_putK xs k v
    obtain ⟨H3, acc', xs', r1, r2, r3, r4, r5⟩ := dps_ok n g2 nG upd_same (d.putKD h3) (by simp at hl; omega) h4 m
    exact ⟨H3, acc', xs', .cons (.inr ⟨xs, k, q, hp, rfl, g.ink _ _ hq, hz, rfl⟩) r1, r2, r3, r4, r5⟩
theorem rf_dispT {ts : List (TE × TE)} {ms : List (EM × EM)} (h : RDs c x w ts ms) : RFb false c x w (tDispT ts) (dispTW ms) := fun ss R X G σ H m e s Q q z p hp => by
  have g0 : Go c G H G (upd H p (.dT [])) := Go.put e hp
  have nG : G p = none := e.free hp
  refine disp_ok h ss _ X G σ _ m g0.ink (s.go g0) _ (fun ps l G1 H1 g1 d1 m1 => ?_) (kx_go z g0)
  obtain ⟨e2, m1⟩ := m1
  have eH : H1 p = some (.dT []) := g1.up.st p _ upd_same (fun ps z => by cases z)
  have n2 : G1 p = none := g1.nw p _ nG upd_same (fun xs z => by cases z)
  have g01 := g0.trans g1
  obtain ⟨H3, acc', xs', r1, r2, r3, r4, r5⟩ := dps_ok hp g01 n2 eH (show Datt c G1 [] [] from rfl) (by simp; omega) d1 m1
  exact ⟨H3, r1, q p (.dit acc') _ G1 H3 r4 hp n2 r5 ⟨rfl, _, rfl, r2⟩ r3⟩
end
end Mw

set_option Elab.async false
set_option linter.all false
set_option maxRecDepth 100000
set_option maxHeartbeats 4000000
namespace Mw
open PySem PySem.Spec PyProof.Rows L2
/-! ### zip(a, b); texts by < -/
def rLtA : R2 := fun x y H Q => rI0 (fun i j => .bl (decide (i < j))) x y H Q ∨ ∃ i j, x = .str i ∧ y = .str j ∧ Q (.bl (decide (i.cps.toList < j.cps.toList))) H
def ltAD : D2
  | .int i, .int j, R => R (.bl (decide (i < j)))
  | .str a, .str b, R => R (.bl (decide (a.cps.toList < b.cps.toList)))
  | _, _, _ => False
def zipD : List Dt → (List Dt → Prop) → Prop
  | [.tup l, .tup m], R => R ((l.zip m).map fun p => .tup [p.1, p.2])
  | [.lst l, .lst m], R => R ((l.zip m).map fun p => .tup [p.1, p.2])
  | _, _ => False
section
variable {X : Cx}
theorem opLtA : OpR X (compareOp .Lt) rLtA := by
  intro pins s σ H x y v u Q I rx ry h
  rcases h with h | h
  · exact op_lt pins s σ H x y v u Q I rx ry h
  · exact op_lt_str pins s σ H x y v u Q I rx ry h
theorem piZip {K : PySem.W.Frag} (hK : X.K = K) {e e2 : Expr} {ta : TA} {p pos tpos : Pos} {elts : List Expr} {kk : Nat} (hg : Gl X "zip") (hm : X.mg "zip" = none) (ha : PA X [e, e2] ta)
    (hs : starEach [e, e2] X.env = (false, eval e X.env) :: starEach [e2] X.env := by rfl) (hpl : (backTo pos (starEach [e2] X.env)).any (·.1) = false := by rfl) :
    PI X (.Tuple elts kk tpos) (.Call (.Name "zip" p) [e, e2] [] pos) (RZ.iZipA K ta) := by
  subst hK
  exact RZ.pi_zipA hg hm ha hs hpl
end
section
variable {c : Kc} {x : Mx} {w : Option WX} {G : Hp}
theorem ro_ltA : RO2 c rLtA ltAD := fun d e R m G H v u ex d1 d2 Q q => by
  match d, e, m with
  | .int i, .int j, m => cases d1; cases d2; exact .inl ⟨i, j, rfl, rfl, q _ (.bl (decide (i < j))) G H (Go.refl ex) rfl m⟩
  | .str i, .str j, m => cases d1; cases d2; exact .inr ⟨i, j, rfl, rfl, q _ (.bl _) G H (Go.refl ex) rfl m⟩
theorem wd_zipT {a b : Addr} {l m : List Dt} {xs ys : List V} (ha : G a = some (.tup xs)) (hb : G b = some (.tup ys)) (d : Dats c G l xs) (e : Dats c G m ys) : WalkD c (RZ.ItzT c.K a b) ((l.zip m).map fun p => .tup [p.1, p.2]) G := by
  unfold WalkD
  rw [List.length_map, List.length_zip, ← d.len, ← e.len]
  refine ⟨fun i H hi ex => ?_, fun H ex => ⟨xs, ys, Ex.tp ex ha, Ex.tp ex hb, by omega⟩, fun i H v H' hi ex y G2 e2 e3 => ?_⟩
  · have h1 : i < xs.length := by omega
    have h2 : i < ys.length := by omega
    exact ⟨xs, ys, _, _, Ex.tp ex ha, Ex.tp ex hb, List.getElem?_eq_getElem h1, List.getElem?_eq_getElem h2⟩
  · obtain ⟨T, p, q, rfl, hT, rfl, f1, f2⟩ := y
    obtain ⟨dp, h1, h2⟩ := d.getV (f1 xs (Ex.tp ex ha))
    obtain ⟨dq, h3, h4⟩ := e.getV (f2 ys (Ex.tp ex hb))
    refine ⟨.tup [dp, dq], _, ?_, Go.new e3 hT, dat_newT (show Dats c G2 [dp, dq] _ from ⟨_, _, rfl, h2.up e2, _, _, rfl, h4.up e2, rfl⟩) (e3.free hT)⟩
    rw [List.getElem?_map, (List.getElem?_zip_eq_some (z := (dp, dq))).mpr ⟨h1, h3⟩]
    rfl
theorem wd_zipL {a b : Addr} {l m : List Dt} {xs ys : List V} (ha : G a = some (.lst xs)) (hb : G b = some (.lst ys)) (d : Dats c G l xs) (e : Dats c G m ys) : WalkD c (Itz c.K a b) ((l.zip m).map fun p => .tup [p.1, p.2]) G := by
  have sq : ∀ {H : Hp} {a : Addr} {xs : List V}, Ex G H → G a = some (.lst xs) → SqL c.K H a xs := fun e h => .inl (.inl (e _ _ h))
  unfold WalkD
  rw [List.length_map, List.length_zip, ← d.len, ← e.len]
  refine ⟨fun i H hi ex => ?_, fun H ex => ⟨xs, ys, sq ex ha, sq ex hb, by omega⟩, fun i H v H' hi ex y G2 e2 e3 => ?_⟩
  · have h1 : i < xs.length := by omega
    have h2 : i < ys.length := by omega
    exact ⟨xs, ys, _, _, sq ex ha, sq ex hb, List.getElem?_eq_getElem h1, List.getElem?_eq_getElem h2⟩
  · obtain ⟨T, p, q, rfl, hT, rfl, f1, f2⟩ := y
    obtain ⟨dp, h1, h2⟩ := d.getV (f1 xs (sq ex ha))
    obtain ⟨dq, h3, h4⟩ := e.getV (f2 ys (sq ex hb))
    refine ⟨.tup [dp, dq], _, ?_, Go.new e3 hT, dat_newT (show Dats c G2 [dp, dq] _ from ⟨_, _, rfl, h2.up e2, _, _, rfl, h4.up e2, rfl⟩) (e3.free hT)⟩
    rw [List.getElem?_map, (List.getElem?_zip_eq_some (z := (dp, dq))).mpr ⟨h1, h3⟩]
    rfl
theorem ri_zip {ta : TA} {am : AM} (ha : RA c x w ta am) : RI c x w (RZ.iZipA c.K ta) (itAW zipD am) := fun ss R X G σ H m e s Q q z =>
  ha ss _ X G σ H m e s _ (fun vs ds G1 H1 g1 d1 m1 => by
    match ds, m1 with
    | [.tup l, .tup m], m1 =>
      obtain ⟨v, r, rfl, ⟨a, xs, rfl, h1, h2⟩, v', r', rfl, ⟨b, ys, rfl, h3, h4⟩, hr⟩ := d1
      cases hr
      exact ⟨a, b, xs, ys, rfl, .inr ⟨Ex.tp g1.ink.ex h1, Ex.tp g1.ink.ex h3, q _ _ G1 H1 g1 (wd_zipT h1 h3 h2 h4) m1⟩⟩
    | [.lst l, .lst m], m1 =>
      obtain ⟨v, r, rfl, ⟨a, xs, rfl, h1, h2⟩, v', r', rfl, ⟨b, ys, rfl, h3, h4⟩, hr⟩ := d1
      cases hr
      exact ⟨a, b, xs, ys, rfl, .inl ⟨.inl (.inl (g1.ink _ _ h1)), .inl (.inl (g1.ink _ _ h3)), q _ _ G1 H1 g1 (wd_zipL h1 h3 h2 h4) m1⟩⟩) z
end
end Mw

set_option Elab.async false
set_option linter.all false
set_option maxRecDepth 100000
set_option maxHeartbeats 4000000
namespace Mw
open PySem PySem.Spec PyProof.Rows L2
/-! ### keyword-only parameters -/
/-- the keyword-only parameters in the parameters' order: (true, i): the i-th keyword that is written; (false, i): the i-th that lacks -/
def kwO {α : Type} (sel : List (Bool × Nat)) (mz zs : List α) : List α := sel.filterMap fun s => match s.1 with
  | true => zs[s.2]?
  | false => mz[s.2]?
theorem vals_get {xs : List V} {us : List Value} (r : Vals xs us) (i : Nat) : (xs[i]? = none ∧ us[i]? = none) ∨ ∃ x u, xs[i]? = some x ∧ us[i]? = some u ∧ RelV x u := by
  have l := r.length
  by_cases h : i < xs.length
  · obtain ⟨u, h1, h2⟩ := r.get (List.getElem?_eq_getElem h)
    exact .inr ⟨_, u, List.getElem?_eq_getElem h, h1, h2⟩
  · exact .inl ⟨List.getElem?_eq_none (by omega), List.getElem?_eq_none (by omega)⟩
theorem vals_kwO {mz zs : List V} {mv ws : List Value} (r1 : Vals mz mv) (r2 : Vals zs ws) : ∀ sel : List (Bool × Nat), Vals (kwO sel mz zs) (kwO sel mv ws)
  | [] => .nil
  | (b, i) :: sel => by
    have ih := vals_kwO r1 r2 sel
    unfold kwO at ih ⊢
    rw [List.filterMap_cons, List.filterMap_cons]
    cases b with
    | true =>
      rcases vals_get r2 i with ⟨h1, h2⟩ | ⟨x, u, h1, h2, h3⟩
      · simp only [h1, h2]; exact ih
      · simp only [h1, h2]; exact .cons h3 ih
    | false =>
      rcases vals_get r1 i with ⟨h1, h2⟩ | ⟨x, u, h1, h2, h3⟩
      · simp only [h1, h2]; exact ih
      · simp only [h1, h2]; exact .cons h3 ih
section
variable {c : Kc} {G : Hp}
theorem dats_get {l : List Dt} {xs : List V} (d : Dats c G l xs) (i : Nat) : (l[i]? = none ∧ xs[i]? = none) ∨ ∃ e x, l[i]? = some e ∧ xs[i]? = some x ∧ Dat c G e x := by
  have q := d.len
  by_cases h : i < l.length
  · obtain ⟨x, h1, h2⟩ := d.get (List.getElem?_eq_getElem h)
    exact .inr ⟨_, x, List.getElem?_eq_getElem h, h1, h2⟩
  · exact .inl ⟨List.getElem?_eq_none (by omega), List.getElem?_eq_none (by omega)⟩
theorem dats_kwO {dm dz : List Dt} {mz zs : List V} (r1 : Dats c G dm mz) (r2 : Dats c G dz zs) : ∀ sel : List (Bool × Nat), Dats c G (kwO sel dm dz) (kwO sel mz zs)
  | [] => rfl
  | (b, i) :: sel => by
    have ih := dats_kwO r1 r2 sel
    unfold kwO at ih ⊢
    rw [List.filterMap_cons, List.filterMap_cons]
    cases b with
    | true =>
      rcases dats_get r2 i with ⟨h1, h2⟩ | ⟨x, u, h1, h2, h3⟩
      · simp only [h1, h2]; exact ih
      · simp only [h1, h2]; exact ⟨_, _, rfl, h3, ih⟩
    | false =>
      rcases dats_get r1 i with ⟨h1, h2⟩ | ⟨x, u, h1, h2, h3⟩
      · simp only [h1, h2]; exact ih
      · simp only [h1, h2]; exact ⟨_, _, rfl, h3, ih⟩
end
/-- one way of calling: how many positional values (self among them), the keywords, their places, the values of those that lack -/
structure Ksg where
  n : Nat
  ks : List Str
  sel : List (Bool × Nat)
  ms : List V
def Dk (K : PySem.W.Frag) (x qual : Str) (st : Stmt) (ps : List Str) (kws : List (Str × V)) (sg : List Ksg) (f : Addr) : Prop :=
  ∃ fd, FunD K x qual (defArgs st) (defBody st) (defScope st) [] kws f fd ∧ ∀ s ∈ sg, ∃ g, KBn K fd ps s.n s.ks g (fun vs zs => vs ++ kwO s.sel s.ms zs)
theorem kb_of {K : PySem.W.Frag} {x qual : Str} {params : Arguments} {body : List Stmt} {scope : Scope} {kws : List (Str × V)} {f : Addr} {fd : FuncData} {ps : List Str} (F : FunD K x qual params body scope [] kws f fd) (n : Nat) (ks : List Str) (sel : List (Bool × Nat)) (ms : List (Str × V)) (hk : kws ≠ []) (hms : ∀ q ∈ ms, q ∈ kws)
    (h : ∀ (D : Addr) (doc pm : Value) (an : Option Addr) (cdv ct : Value) (us mv ws : List Value), us.length = n → mv.length = ms.length → ws.length = ks.length →
      KwChain D ((ms.map (·.1)).zip mv) (bindArgs (PySem.W.fnOf x qual params body scope .none (.ref D) doc pm an cdv ct) ⟨us, ks.zip ws⟩) (ps.zip (us ++ kwO sel mv ws))) : ∃ g, KBn K fd ps n ks g (fun vs zs => vs ++ kwO sel (ms.map (·.2)) zs) := by
  obtain ⟨mv, hb⟩ := F.kbinds0 n ks ms (fun {α} vs mz zs => vs ++ kwO sel mz zs) hk hms (fun r1 r2 r3 => r1.append (vals_kwO r2 r3 sel)) h
  exact ⟨_, hb⟩
def FnKw (P : Program) (w : World) (K : PySem.W.Frag) (mg : Str → Option Value) (base : Heap) (CX : CXT) (k : Nat) (f : Addr) (n : Nat) (ks : List Str) (sp : Sp) : Prop :=
  ∀ (A : Around) (outer : List Env) (s : Shared) (H : Hp) (us ws : List Value) (vs zs : List V) (Q : VK) (E : XK), Room k A → Env0 P w K mg base A outer s H → vs.length = n → zs.length = ks.length → Vals vs us → Vals zs ws → sp (vs ++ zs) H Q E →
    codeAny (model P w) A (.call (.ref f) ⟨us, ks.zip ws⟩) (CR CX outer P w H s Q E) s
theorem FnKw.mono {P : Program} {w : World} {K : PySem.W.Frag} {mg : Str → Option Value} {base : Heap} {CX : CXT} {j k : Nat} {f : Addr} {n : Nat} {ks : List Str} {sp : Sp} (F : FnKw P w K mg base CX j f n ks sp) (h : j ≤ k) : FnKw P w K mg base CX k f n ks sp :=
  fun A outer s H us ws vs zs Q E hr => F A outer s H us ws vs zs Q E (hr.mono h)
theorem fnKw_of {P : Program} {w : World} {K : PySem.W.Frag} {mg : Str → Option Value} {base : Heap} {CX : CXT} {k : Nat} {f : Addr} {fd : FuncData} {ps : List Str} {n : Nat} {ks : List Str} {g : List Value → List Value → List Value} {gV : List V → List V → List V} {sp sp' : Sp} (F : FnOk P w K mg base CX k f fd ps sp') (hb : KBn K fd ps n ks g gV)
    (h : ∀ vs zs H Q E, vs.length = n → zs.length = ks.length → sp (vs ++ zs) H Q E → sp' (gV vs zs) H Q E) : FnKw P w K mg base CX k f n ks sp := fun A outer s H us ws vs zs Q E hr e0 l1 l2 r1 r2 hs =>
  F.run A outer s H ⟨us, ks.zip ws⟩ (g us ws) (gV vs zs) Q E hr e0 (hb.to s us ws (e0.mod.kin.keeps fun b o e => (e0.bs b o e).1) (by rw [← r1.length]; exact l1) (by rw [← r2.length]; exact l2)) (hb.rel r1 r2) (h _ _ _ _ _ l1 l2 hs)
/-- the mirror of an __init__ that is called with n positional values (without self) and m keywords -/
def kwI (n m : Nat) (sel : List (Bool × Nat)) (dd : List Dt) (Pre : PreI) : PreI := fun ds R X => ds.length = n + m ∧ Pre (ds.take n ++ kwO sel dd (ds.drop n)) R X
abbrev Gkx (P : Program) (c : Kc) (mg : Str → Option Value) (base : Heap) (k : Nat) (C : Nat) (f : Addr) (n : Nat) (ks : List Str) (Pre : PreI) : Prop := FnKw P c.w c.K mg base (L2.CX P c.w) k f (n + 1) ks (spI c C Pre)
def Goi (P : Program) (c : Kc) (mg : Str → Option Value) (base : Heap) (k : Nat) (C : Nat) (f : Addr) (x qual : Str) (st : Stmt) (ps : List Str) (kws : List (Str × V)) (Pre : PreI) : Prop :=
  ∀ fd, FunD c.K x qual (defArgs st) (defBody st) (defScope st) [] kws f fd → FnOk P c.w c.K mg base (L2.CX P c.w) k f fd ps (spI c C Pre)
section
variable {P : Program} {c : Kc} {mg : Str → Option Value} {base : Heap} {C : Nat}
theorem goi_of {x qual : Str} {st : Stmt} {f : Addr} {N ps : List Str} {kws : List (Str × V)} {k n m : Nat} {b : SM} (S : FnScope N ps (defScope st)) (hc : C ∈ c.cl) (hn : n + 1 = ps.length) (hm : m = N.length)
    (hbody : ∀ (cdv : Value) (A : Around) (outer : List Env) (s : Shared) (H : Hp) (E : XK), Room k (A.deeper (envOfC qual (defScope st) s.heap.objs.size f cdv)) →
      ∃ t, PSs (cxOf (L2.CX P c.w) P c.w c.K mg base N qual (defScope st) f cdv A outer s H E) (defBody st) t ∧ ∀ me, RS c { me := me } (wE E) t b) :
    Goi P c mg base (k + 1) C f x qual st ps kws (initW n m C b) := by
  subst hm
  intro fd F
  refine F.ok S (fun vs H Q E h => ?_) (fun cdv A outer s H vs Q E hr h => ?_)
  · obtain ⟨G0, H0, G, p, rest, ds, R, X, rfl, h0, g, hG, _, d, p, q⟩ := h
    rw [← hn, ← p.1, ← d.len]; rfl
  · obtain ⟨t, ht, hs⟩ := hbody cdv A outer s H E hr
    exact ⟨t, ht, init_end hc hs (fun ds R X p => p.2) h⟩
theorem spI_kw {n m : Nat} {sel : List (Bool × Nat)} {ms : List V} {dd : List Dt} {Pre : PreI} {vs zs : List V} {H : Hp} {Q : VK} {E : XK} (hd : ∀ G, Dats c G dd ms) (l1 : vs.length = n + 1) (h : spI c C (kwI n m sel dd Pre) (vs ++ zs) H Q E) : spI c C Pre (vs ++ kwO sel ms zs) H Q E := by
  obtain ⟨G0, H0, G, p, rest, ds, R, X, e, h0, g, hG, hH, d, ⟨hl, pr⟩, q, qx⟩ := h
  cases vs with
  | nil => simp at l1
  | cons v vs =>
    rw [List.cons_append] at e
    injection e with e1 e2
    subst e1 e2
    have l1 : vs.length = n := by simpa using l1
    have d1 := d.take n
    have d2 := d.drop n
    rw [← l1, List.take_left] at d1
    rw [← l1, List.drop_left] at d2
    rw [l1] at d1 d2
    exact ⟨G0, H0, G, p, vs ++ kwO sel ms zs, _, R, X, rfl, h0, g, hG, hH, d1.app (dats_kwO (hd G) d2 sel), pr, q, qx⟩
theorem gkx_of {x qual : Str} {st : Stmt} {f : Addr} {ps : List Str} {kws : List (Str × V)} {sg : List Ksg} {k n m : Nat} {ks : List Str} {sel : List (Bool × Nat)} {ms : List V} {dd : List Dt} {Pre : PreI} (D : Dk c.K x qual st ps kws sg f) (hs : ⟨n + 1, ks, sel, ms⟩ ∈ sg) (hd : ∀ G, Dats c G dd ms) (F : Goi P c mg base k C f x qual st ps kws Pre) :
    Gkx P c mg base k C f n ks (kwI n m sel dd Pre) := by
  obtain ⟨fd, F0, hb⟩ := D
  obtain ⟨g, hb⟩ := hb _ hs
  exact fnKw_of (F fd F0) hb fun vs zs H Q E l1 l2 h => spI_kw hd l1 h
/-- no keyword is written -/
theorem gix0_of {x qual : Str} {st : Stmt} {f : Addr} {ps : List Str} {kws : List (Str × V)} {sg : List Ksg} {k n : Nat} {sel : List (Bool × Nat)} {ms : List V} {dd : List Dt} {Pre : PreI} (D : Dk c.K x qual st ps kws sg f) (hs : ⟨n + 1, [], sel, ms⟩ ∈ sg) (hd : ∀ G, Dats c G dd ms) (F : Goi P c mg base k C f x qual st ps kws Pre) :
    Gix P c mg base k C f (kwI n 0 sel dd Pre) := by
  have F := gkx_of (m := 0) D hs hd F
  intro A outer s H us vs Q E hr e0 r h
  have h2 := h
  obtain ⟨G0, H0, G, p, rest, ds, R, X, rfl, h0, g, hG, hH, d, ⟨hl, pr⟩, q, qx⟩ := h
  exact F A outer s H us [] (V.ref p :: rest) [] Q E hr e0 (by rw [List.length_cons, d.len, hl]) rfl r .nil (by rw [List.append_nil]; exact h2)
end
/-! C(e, .., k = v, ..) -/
def makeKW (C n m : Nat) (P : PreI) (as ks : AM) : EM := fun ss R X => as ss (fun l => ks ss (fun l2 => l.length = n ∧ l2.length = m ∧ P (l ++ l2) (fun fl => R (.ins C fl)) X) X) X
def tMkK (c : Kc) (w : Option WX) (C n m : Nat) (P : PreI) (t tk : TA) : TE := fun σ H Q => t σ H fun vs H1 => tk σ H1 fun zs H2 => vs.length = n ∧ zs.length = m ∧ ∀ p dx, H2 p = none → H2 dx = none → dx ≠ p →
  spI c C P (V.ref p :: (vs ++ zs)) (upd (upd H2 dx (.own p)) p (.ins (c.ca C) dx [])) (fun v H2 => v = .non ∧ Q (.ref p) H2) fun cls od H' => (w.getD wF) cls od σ H'
section
variable {X : Cx} {P : Program} {c : Kc} {mg : Str → Option Value} {base : Heap} {w : Option WX} {x : Mx} {C k n : Nat} {f : Addr} {Pre : PreI} {tas tks : TA} {as km : AM} {ks : List Str}
theorem re_makeK {m : Nat} (ha : RA c x w tas as) (hk : RA c x w tks km) : RE c x w (tMkK c w C n m Pre tas tks) (makeKW C n m Pre as km) := fun ss R X G σ H mm e s Q q z =>
  ha ss _ X G σ H mm e s _ (fun vs l G1 H1 g1 d1 m1 => hk ss _ X G1 σ H1 m1 g1.ink (s.go g1) _ (fun zs l2 G2 H2 g2 d2 ⟨l1, l2', m2⟩ =>
    ⟨by rw [d1.len]; exact l1, by rw [d2.len]; exact l2', fun p dx hp hdx hne => spI_new g2.ink hp hdx hne ((d1.up g2.kn).app d2) m2 (fun fl G' H' g' d hr => ⟨rfl, q (.ref p) (.ins C fl) G' H' ((g1.trans g2).trans g') d hr⟩) fun D l od G' H' g xd hx => z D l od G' H' ((g1.trans g2).trans g) xd hx⟩) (kx_go z g1)) z
theorem run_mkK {pins : List (Addr × Obj)} {σ : L2.St} {H : Hp} {s : Shared} {Q : VK} {us ws : List Value} {vs zs : List V} (M : Mk c.K (c.ca C) f) (F : Gkx P c mg base k C f n ks Pre) (hX : At X P c mg base) (hr : Room (k + 1) X.A) (tk : Tk X w) (I : Inv X pins σ H s) (r : Vals vs us) (rz : Vals zs ws) (l1 : vs.length = n) (l2 : zs.length = ks.length)
    (h : ∀ p dx, H p = none → H dx = none → dx ≠ p → spI c C Pre (V.ref p :: (vs ++ zs)) (upd (upd H dx (.own p)) p (.ins (c.ca C) dx [])) (fun v H2 => v = .non ∧ Q (.ref p) H2) fun cls od H' => (w.getD wF) cls od σ H') :
    wpAny (model X.prog X.w) X.A (call (.ref (c.ca C)) us (ks.zip ws)) (EP X pins σ Q) X.xe s := by
  obtain ⟨h1, h2, h3, h4, h5⟩ := hX
  unfold Gkx at F
  rw [← h1, ← h2, ← h3, ← h4, ← h5] at F
  rw [← h3] at M
  have hq := h (s.heap.objs.size + 1) s.heap.objs.size (I.hok.fresh (Nat.le_succ _)) (I.hok.fresh (Nat.le_refl _)) (Nat.ne_of_lt (Nat.lt_succ_self _))
  have I2 := Inv.made (C := c.ca C) I
  have r2 : Vals (V.ref (s.heap.objs.size + 1) :: vs) (Value.ref (s.heap.objs.size + 1) :: us) := .cons rfl r
  refine wpAny_call (make_map (f := f) I.kIn M.makes M.init (beq_iff_eq.mp M.fn) (codeAny_mono (F _ X.stack _ _ (Value.ref (s.heap.objs.size + 1) :: us) ws _ zs _ _ (hr.make (c.ca C) us (ks.zip ws)) (I2.env0.make (c.ca C) us (ks.zip ws)) (by rw [List.length_cons, l1]) l2 r2 rz hq) fun r s' hq' => ?_))
  cases r with
  | error e => exact tk σ pins _ _ e s' I2 hq'
  | ok fl =>
    cases fl with
    | ret u =>
      obtain ⟨v, H', I3, rv, ev, q3⟩ := I2.after hq'
      subst ev
      exact ⟨rv, ⟨V.ref (s.heap.objs.size + 1), H', I3, rfl, q3⟩⟩
    | next => exact False.elim hq'
    | brk => exact False.elim hq'
    | cont => exact False.elim hq'
variable {nm : Str} {p pos : Pos} {e : Expr} {es : List Expr} {kws : List Keyword} {t tk0 : TA}
theorem pe_mkK (M : Mkx c mg nm C f) (F : Gkx P c mg base k C f n ks Pre) (hX : At X P c mg base) (hr : Room (k + 1) X.A) (hg : Gl X nm) (tk : Tk X w) (ha : PA X (e :: es) t) (hkw : PK X kws tk0) (hdb : (nm == ("__debug__" : Str)) = false := by decide)
    (hall : (backToKw pos (keywordEach kws X.env)).all (·.1.isSome) = true := by rfl) (hks : (backToKw pos (keywordEach kws X.env)).filterMap (·.1) = ks := by rfl)
    (he : starEach (e :: es) X.env = (false, eval e X.env) :: starEach es X.env := by rfl) (hpl : ((backTo pos (starEach (e :: es) X.env)).any (·.1) || (backToKw pos (keywordEach kws X.env)).any (·.1.isNone)) = false := by rfl) :
    PE X (.Call (.Name nm p) (e :: es) kws pos) (tMkK c w C n ks.length Pre t tk0) := by
  refine ⟨fun pins s σ H Q I h => ?_⟩
  refine wpAny_Call_Name_kw (ld_glob I hg (by rw [hX.mg]; exact M.mg) ?_ hdb)
  refine PySem.W.callWith_KW (h₀ := X.base) I.ok.mod.kin (by rw [hX.K]; exact M.mkr.kp) hall (thn (ha.run pos pins s σ H _ I h) fun us s1 ⟨vs, H1, I1, r, q⟩ => ?_) hpl he
  refine thn (hkw.run pos pins s1 σ H1 _ I1 q) fun ws s2 ⟨zs, H2, I2, rz, l1, l2, q2⟩ => ⟨I2.kIn, ?_⟩
  rw [hks]
  exact run_mkK M.mkr F hX hr tk I2 r rz l1 l2 q2
end
/-! ### __init__(self, a, .., *xs) -/
def initSnW (n m C : Nat) (b : SM) : PreI := fun ds R X => n ≤ ds.length ∧ ds.length ≤ 1000000 ∧ b (startI m C (ds.take n ++ [.tup (ds.drop n)])) (endI C R X)
section
variable {P : Program} {c : Kc} {mg : Str → Option Value} {base : Heap} {C : Nat}
theorem gixSn_of {x qual : Str} {st : Stmt} {f : Addr} {N : List Str} {ps : List Str} {pv : Str} {k n m : Nat} {b : SM} (F : ∃ fd, Fun c.K x qual st f fd) (S : FnScope N (ps ++ [pv]) (defScope st)) (hc : C ∈ c.cl) (hn : n + 1 = ps.length) (hm : m = N.length)
    (hb : ∀ (kV doc pm : Value) (an : Option Addr) (cdv ct : Value) (us rest : List Value), us.length = ps.length → bindArgs (PySem.W.fnOf x qual (defArgs st) (defBody st) (defScope st) .none kV doc pm an cdv ct) ⟨us ++ rest, []⟩ = (newTuple rest >>= fun t => pure (ps.zip us ++ [(pv, t)])))
    (hbody : ∀ (cdv : Value) (A : Around) (outer : List Env) (s : Shared) (H : Hp) (E : XK), Room k (A.deeper (envOfC qual (defScope st) s.heap.objs.size f cdv)) →
      ∃ t, PSs (cxOf (L2.CX P c.w) P c.w c.K mg base N qual (defScope st) f cdv A outer s H E) (defBody st) t ∧ ∀ me, RS c { me := me } (wE E) t b) :
    Gix P c mg base (k + 1) C f (initSnW n m C b) := by
  subst hm
  obtain ⟨fd, F⟩ := F
  obtain ⟨oc, od, kV, doc, pm, an, cdv, ct, osl, rfl, lk, hcd⟩ := F.ex
  refine (StX.fn_star (ps := ps) (pv := pv) (sp := spI c C fun ds R X => b (startI N.length C ds) (endI C R X)) lk hcd S StX.cxUp (hb kV doc pm an cdv ct) (fun A outer s H vs Q E hr h => ?_)).imp fun vs H Q E h => ?_
  · obtain ⟨t, ht, hs⟩ := hbody cdv A outer s H E hr
    exact ⟨t, ht, init_end hc hs (fun ds R X h1 => h1) h⟩
  · obtain ⟨G0, H0, G, p, rest, ds, R, X, rfl, h0, g, hG, ⟨dx, hH⟩, d, ⟨p1, p2, p3⟩, q, qx⟩ := h
    have hl := d.len
    refine ⟨.ref p :: rest.take n, rest.drop n, by rw [List.cons_append, List.take_append_drop], by rw [List.length_cons, List.length_take]; omega, by rw [List.length_drop]; have := sz_of p2; omega, fun p' hp => ?_⟩
    have hp0 : G p' = none := g.ink.free hp
    have hxp : p ≠ p' := fun c => by subst c; rw [hH] at hp; cases hp
    exact ⟨G0, H0, upd G p' (.tup (rest.drop n)), p, rest.take n ++ [.ref p'], ds.take n ++ [.tup (ds.drop n)], R, X, rfl, h0, g.trans (Go.new g.ink hp), by rw [upd_ne hxp]; exact hG, ⟨dx, by rw [upd_ne hxp]; exact hH⟩, ((d.take n).up (Ex.new hp0)).app ⟨_, _, rfl, dat_newT (d.drop n) hp0, rfl⟩, p3, q, qx⟩
end
end Mw

set_option Elab.async false
set_option linter.all false
set_option maxRecDepth 100000
set_option maxHeartbeats 4000000
namespace Mw
open PySem PySem.Spec PyProof.Rows L2
/-! ### self.a, self.b = .. -/
def gFld (K : PySem.W.Frag) (ta : TE) (f : Str) : TG := fun v σ H Q => ta σ H fun x H2 => ∃ a C dx fs, x = .ref a ∧ H2 a = some (.ins C dx fs) ∧ Cls K C ∧ NoAttr K C f ∧ fs.length < 1000 ∧ Q σ (upd H2 a (.ins C dx (putF f v fs)))
def gFlds (K : PySem.W.Frag) (i : Nat) : List Str → TGs
  | [] => gNil
  | f :: fs => gCons (gFld K (tVar i) f) (gFlds K i fs)
section
variable {X : Cx} {K : PySem.W.Frag} {o : Expr} {f : Str} {pos : Pos} {ta : TE}
theorem pgFld (hK : X.K = K) (ha : PE X o ta) : PG X (.Attribute o f pos) (gFld K ta f) := by
  subst hK
  refine ⟨fun pins s σ H v u Q I r h => ?_⟩
  refine PySem.W.kas_attr (thn (ha.run pins s σ H _ I h) fun ov s2 ⟨x, H2, I2, rx, a, C, dx, fs, ex, ea, c, n, l, q2⟩ => ?_)
  subst ex
  obtain rfl : ov = Value.ref a := rx
  exact setattr_ok I2 ea c n l r fun s3 I3 => ⟨σ, _, I3, q2⟩
end
/-! by data -/
def putDs : List Str → List Dt → List (Str × Dt) → List (Str × Dt)
  | f :: fs, d :: ds, l => putDs fs ds (putD f d l)
  | _, _, l => l
def sfldsW (cs : List Nat) (fs : List Str) (i : Nat) (a : EM) : SM := fun ss k => a ss (fun d => match d with
  | .lst ds => (match ss[i]? with
    | some (.slf C l) => cs.contains C = true ∧ l.length + fs.length < 1000 ∧ ds.length = fs.length ∧ k (.nx (ss.set i (.slf C (putDs fs ds l))))
    | _ => False)
  | _ => False) fun C l => k (.ex ss C l)
theorem putD_len (f : Str) (d : Dt) : ∀ l : List (Str × Dt), (putD f d l).length ≤ l.length + 1
  | [] => by simp [putD]
  | (k, y) :: l => by
    unfold putD
    split
    · simp
    · have := putD_len f d l; simp; omega
theorem set_id {α : Type} {l : List α} {i : Nat} {y : α} (h : l[i]? = some y) : l.set i y = l := by
  apply List.ext_getElem?
  intro j
  rw [List.getElem?_set]
  split
  · rename_i e
    subst e
    have := (List.getElem?_eq_some_iff.mp h).1
    rw [if_pos this, h]
  · rfl
section
variable {c : Kc} {x : Mx} {w : Option WX} {ta : TE} {av : EM} {cs : List Nat}
theorem gflds_ok {i : Nat} {σ : L2.St} {G0 H0 G : Hp} (hk : Klss c) : ∀ {fs : List Str} {ds : List Dt} {vs : List V} {ss : SS} {C : Nat} {l : List (Str × Dt)} {H : Hp} {Q : L2.St → Hp → Prop}, (∀ f ∈ fs, NoF c cs f) → Go c G0 H0 G H → Sl c x H0 G H σ ss → ss[i]? = some (.slf C l) → cs.contains C = true → l.length + fs.length < 1000 → ds.length = fs.length → Dats c G ds vs →
    (∀ H', Go c G0 H0 G H' → Sl c x H0 G H' σ (ss.set i (.slf C (putDs fs ds l))) → Q σ H') → gFlds c.K i fs vs σ H Q
  | [], ds, vs, ss, C, l, H, Q, hn, g, sl, hs, hC, hl, hd, d, q => by
    cases List.length_eq_zero_iff.mp hd
    cases d
    refine ⟨rfl, q H g ?_⟩
    show Sl c x H0 G H σ (ss.set i (.slf C l))
    rw [set_id hs]
    exact sl
  | f :: fs, [], vs, ss, C, l, H, Q, hn, g, sl, hs, hC, hl, hd, d, q => by cases hd
  | f :: fs, d0 :: ds, vs, ss, C, l, H, Q, hn, g, sl, hs, hC, hl, hd, ⟨v, r, e, h1, h2⟩, q => by
    subst e
    obtain ⟨q1, q2, dx, fl, q3, hc, hf⟩ := sl.sv.slf i C l hs
    have hi : i < ss.length := (List.getElem?_eq_some_iff.mp hs).1
    have pl := putD_len f d0 l
    refine ⟨v, r, rfl, _, q1, x.me, c.ca C, dx, fl, rfl, q3, (hk C hc).ci.cls, hn f List.mem_cons_self C (by simpa using hC), by rw [hf.len]; simp at hl; omega, ?_⟩
    refine gflds_ok hk (fun f' hf' => hn f' (List.mem_cons_of_mem _ hf')) (g.turn q2 (sl.me0 i C l hs) q3 flat_ins) (sl.turnSlf hs hc (hf.put h1)) (l := putD f d0 l) (by rw [List.getElem?_set_self hi]) hC (by simp at hl; omega) (by simpa using hd) h2 fun H' g' s' => ?_
    rw [List.set_set] at s'
    exact q H' g' s'
theorem rs_sflds {i : Nat} {fs : List Str} {n : Nat} (hk : Klss c) (hn : ∀ f ∈ fs, NoF c cs f) (hl : n = fs.length) (ha : RE c x w ta av) : RS c x w (tAsg ta (gUnl c.K n (gFlds c.K i fs))) (sfldsW cs fs i av) := fun ss k G0 H0 D σ G H mm K g s =>
  ha ss _ _ G σ H mm g.ink s.sv _ (fun v d G1 H1 g1 d1 m1 => by
    subst hl
    cases d with
    | lst ds =>
      obtain ⟨a, xs, rfl, h1, h2⟩ := d1
      have m1 : (match ss[i]? with
        | some (.slf C l) => cs.contains C = true ∧ l.length + fs.length < 1000 ∧ ds.length = fs.length ∧ k (.nx (ss.set i (.slf C (putDs fs ds l))))
        | _ => False) := m1
      split at m1
      · rename_i C l hs
        obtain ⟨hC, hl, hd, m1⟩ := m1
        have s1 := s.go g1
        exact ⟨a, xs, rfl, .inl (.inl (g1.ink _ _ h1)), by rw [h2.len]; exact hd, gflds_ok hk hn (g.trans g1) s1 hs hC hl hd h2 fun H' g' s' => K.nx σ _ G1 H' g' s' m1⟩
      · exact m1.elim
    | _ => exact m1.elim) (kx_of K g s)
end
end Mw

set_option Elab.async false
set_option linter.all false
set_option maxRecDepth 100000
set_option maxHeartbeats 4000000
namespace Mw
open PySem PySem.Spec PyProof.Rows L2
/-! ### xs[i] of an own list -/
def ixOW (i : Nat) (b : EM) : EM := fun ss R X => match ss[i]? with
  | some (.own (.lst l)) => b ss (fun d => match d with
    | .int k => ∃ y, atI l k = some y ∧ R y
    | _ => False) X
  | _ => False
section
variable {c : Kc} {x : Mx} {w : Option WX} {tb te : TE} {b e : EM}
theorem re_ixO {i : Nat} (hb : RE c x w tb b) : RE c x w (tOp (rIx c.K) (tVar i) tb) (ixOW i b) := fun ss R X G σ H m ex s Q q z => by
  unfold ixOW at m
  split at m
  · rename_i l hs
    obtain ⟨a, o, h1, h2, h3, h4⟩ := s.own i _ hs
    refine ⟨_, h1, hb ss _ X G σ H m ex s _ (fun v d G1 H1 g1 d1 m1 => ?_) z⟩
    cases d with
    | int k =>
      obtain ⟨y, hy, m1⟩ := m1
      cases d1
      obtain ⟨a', o', k1, k2, k3, k4⟩ := (s.go g1).own i _ hs
      rw [h1] at k1
      cases k1
      obtain ⟨xs, rfl, hd⟩ := k4
      obtain ⟨u, u1, u2⟩ := dats_at hd hy
      exact .inl ⟨_, xs, k, u, rfl, rfl, .inl (.inl k3), u1, q u y G1 H1 g1 u2 m1⟩
    | _ => exact m1.elim
  · exact m.elim
/-! ### f-strings -/
def fmtW (e : EM) : EM := fun ss R X => e ss (fun d => match d with
  | .str y => y.length ≤ 1000000 ∧ R (.str y)
  | .int i => i.natAbs.log2 < 1920 ∧ R (.str (toString i))
  | _ => False) X
theorem re_fmt (h : RE c x w te e) : RE c x w (tFmt te) (fmtW e) := fun ss R X G σ H m ex s Q q z =>
  h ss _ X G σ H m ex s _ (fun v d G1 H1 g1 d1 m1 => by
    cases d with
    | str y => cases d1; exact .inl ⟨y, rfl, sz_of m1.1, q _ (.str y) G1 H1 g1 rfl m1.2⟩
    | int i => cases d1; exact .inr ⟨i, rfl, m1.1, q _ (.str _) G1 H1 g1 rfl m1.2⟩
    | _ => exact m1.elim) z
def jsL : List EM → Str → SS → (Dt → Prop) → Xn → Prop
  | [], acc, _, R, _ => R (.str acc)
  | e :: es, acc, ss, R, X => e ss (fun d => match d with
    | .str y => (acc ++ y).length ≤ 1000000 ∧ jsL es (acc ++ y) ss R X
    | _ => False) X
def jsW (es : List EM) : EM := fun ss R X => jsL es Str.empty ss R X
inductive RJ (c : Kc) (x : Mx) (w : Option WX) : List TE → List EM → Prop
  | nil : RJ c x w [] []
  | cons {t : TE} {e : EM} {ts : List TE} {es : List EM} (h : RE c x w t e) (r : RJ c x w ts es) : RJ c x w (t :: ts) (e :: es)
theorem rj_ok {ts : List TE} {es : List EM} (h : RJ c x w ts es) : ∀ acc ss R X G σ H, jsL es acc ss R X → In c G H → Sv c x G H σ ss → ∀ Q : Str → Hp → Prop, (∀ y G' H', Go c G H G' H' → R (.str y) → Q y H') → KX c w X σ G H → tJs ts acc σ H Q := by
  induction h with
  | nil => exact fun acc ss R X G σ H m e s Q q z => q acc G H (Go.refl e) m
  | cons h _ ih =>
    exact fun acc ss R X G σ H m e s Q q z => h ss _ X G σ H m e s _ (fun v d G1 H1 g1 d1 m1 => by
      cases d with
      | str y =>
        cases d1
        exact ⟨y, rfl, sz_of m1.1, ih _ ss R X G1 σ H1 m1.2 g1.ink (s.go g1) _ (fun y' G' H' g' hr => q y' G' H' (g1.trans g') hr) (kx_go z g1)⟩
      | _ => exact m1.elim) z
theorem re_js {ts : List TE} {es : List EM} (h : RJ c x w ts es) : RE c x w (fun σ H Q => tJs ts Str.empty σ H fun out H1 => Q (.str out) H1) (jsW es) := fun ss R X G σ H m e s Q q z =>
  rj_ok h Str.empty ss R X G σ H m e s _ (fun y G' H' g hr => q _ (.str y) G' H' g rfl hr) z
end
/-! {x}, an instance with its own __str__ -/
def Fms (c : Kc) (ms : Ms) : Prop := ∀ C Pre, ms.lookup C = some Pre → PySem.W.findIn c.K (.ref (c.ca C)) "__format__" = some (some (.builtin "object.__format__")) ∧ PySem.W.mroIn c.K (c.ca C) (.type "object") = some true
def tFmtO (c : Kc) (ms : Ms) (te : TE) : TE := fun σ H Q => te σ H fun x H1 => ∃ a dx fs C Pre, x = .ref a ∧ H1 a = some (.ins (c.ca C) dx fs) ∧ ms.lookup C = some Pre ∧ spN c Pre [x] H1 (fun z H' => ∃ y, z = .str y ∧ Q z H') E0
def fmtOW (ms : Ms) (e : EM) : EM := fun ss R X => e ss (fun d => match d with
  | .ins C l => ∃ P, ms.lookup C = some P ∧ P [.ins C l] (fun d => ∃ y, d = .str y ∧ R d) xF
  | _ => False) X
theorem re_fmtO {c : Kc} {x : Mx} {w : Option WX} {te : TE} {e : EM} {ms : Ms} (h : RE c x w te e) : RE c x w (tFmtO c ms te) (fmtOW ms e) := fun ss R X G σ H m ex s Q q z =>
  h ss _ X G σ H m ex s _ (fun v d G1 H1 g1 d1 m1 => by
    cases d with
    | ins C l =>
      obtain ⟨P, hl, m1⟩ := m1
      have d1' := d1
      obtain ⟨a, dx, fs, rfl, ha, hC, hf⟩ := d1'
      refine ⟨a, dx, fs, C, P, rfl, g1.ink _ _ ha, hl, G1, [.ins C l], _, g1.ink, ⟨_, _, rfl, d1, rfl⟩, m1, fun z y G' H' g hd hr => ?_⟩
      obtain ⟨y', rfl, hr⟩ := hr
      cases hd
      exact ⟨y', rfl, q _ (.str _) G' H' (g1.trans g) rfl hr⟩
    | _ => exact m1.elim) z
section
variable {X : Cx} {P : Program} {c : Kc} {mg : Str → Option Value} {base : Heap} {n : Nat} {ms : Ms} {e : Expr} {te : TE} {pos : Pos}
theorem pe_fmtO (he : PE X e te) (D : Dns P c mg base n "__str__" ms) (hF : Fms c ms) (hX : At X P c mg base) (hr : Room (n + 1) X.A) : PE X (.FormattedValue e (-1) none pos) (tFmtO c ms te) := by
  obtain ⟨h1, h2, h3, h4, h5⟩ := hX
  refine ⟨fun pins s σ H Q I h => ?_⟩
  refine wpAny_FormattedValue_plain (thn (he.run pins s σ H _ I h) fun v s1 ⟨x, H1, I1, r1, a, dx, fs, C, Pre, ex, ha, hl, q⟩ => ?_)
  subst ex
  obtain rfl : v = Value.ref a := r1
  obtain ⟨g, hs, hf, F⟩ := D C Pre hl
  obtain ⟨hfm, hmr⟩ := hF C Pre hl
  have F := gmx_none F
  rw [← h1, ← h2, ← h3, ← h4, ← h5] at F
  rw [← h3] at hs hf hfm hmr
  obtain ⟨mA, O, _⟩ := ins_get I1.hok ha
  obtain ⟨od, J, _⟩ := O.look
  have hr2 : Room n X.A.in1 := Room.in1 hr
  have I2 := I1.tok (s1.toks + 1)
  refine PySem.W.kfo_fieldS hr2.units0 I1.kIn J hfm hmr hs hf ?_
  refine wpAny_mono (wpAny_call (SlX.run_at (us := [.ref a]) (ws := [.ref a]) F hr2 I2.env0.in1 pass0 I2 (.cons rfl .nil) q)) (fun w s' z => ?_) fun _ _ x => x
  obtain ⟨z', H', I', rz, y, rfl, qz⟩ := z
  obtain ⟨t, e⟩ := (show ∃ t, w = Value.str y t from rz)
  cases e
  exact ⟨.str y, H', I', ⟨t, rfl⟩, qz⟩
end
end Mw

set_option Elab.async false
set_option linter.all false
set_option maxRecDepth 100000
set_option maxHeartbeats 4000000
namespace Mw
open PySem PySem.Spec PyProof.Rows L2
/-! ### isinstance(e, C), e an exception with fields -/
section
open PySem.W PySem.Calls
variable {prog : Program} {w : World} {A : Around} {E : Value → Shared → Prop} {s : Shared} {K : W.Frag} {x D : Addr} {ox : Obj} {od : Option Obj}
theorem findObj_dataD {C : Addr} {name : Str} {a g : Value} (hc : (clsIn K C).isSome = true) (ha : findIn K (.ref C) name = some (some a)) (hg : specialIn K a "__get__" = some (some g)) (ht : takesIn K a = some true) : findObj K C od name = some (.bind g a) := by
  obtain ⟨cd, hc⟩ := Option.isSome_iff_exists.mp hc
  unfold findObj
  rw [hc, Option.bind_some, ha, Option.bind_some]
  simp [hg, ht]
theorem kin_classD {Q : Option Value → Shared → Prop} (hga : findIn K (.ref D) "__getattribute__" = some (some (.builtin "BaseException.__getattribute__"))) (hgt : findIn K (.ref D) "__getattr__" = some none) (hsub : subIn K (.ref D) (.type "BaseException") = some true)
    (hdct : hasDictIn K D = true) (ha : findIn K (.ref D) "__class__" = some (some (.builtin "object.__class__")))
    (hn : specialIn K (.builtin "object.__class__") "__get__" = some (some (.builtin "getset_descriptor.__get__"))) (htk : takesIn K (.builtin "object.__class__") = some true) (hm : mroIn K D (.type "object") = some true)
    (X : K.In s.heap) (I : InstAt s.heap x ox D od) (h : Q (some (.ref D)) { s with toks := s.toks + 1 }) : wpAny (model prog w) A (getAttr? (.ref x) "__class__") Q E s := by
  have hf : findObj K D od "__class__" = some (.bind (.builtin "getset_descriptor.__get__") (.builtin "object.__class__")) := findObj_dataD (by obtain ⟨cd, hc, _⟩ := any_some hdct; rw [hc]; rfl) ha hn htk
  obtain ⟨hp, g, d, t, os⟩ := s
  have L0 := I.type (M := model prog w)
  have L1 := looks_findIn (M := model prog w) X hga
  have L2 := looks_findIn (M := model prog w) X hgt
  have L3 := looks_find (M := model prog w) X I hf
  have sub : Looks (model prog w) hp (isInstance (.ref x) (.type "BaseException")) true := L0.andThen (looks_subIn X hsub)
  have hx0 : (false && onTheHeap (Value.builtin "BaseException.__getattribute__")) = false := rfl
  have hx2 : (Value.builtin "BaseException.__getattribute__" == Value.builtin "object.__getattribute__") = false := by decide +kernel
  have hx1 : (onTheHeap (Value.ref D) && Value.builtin "BaseException.__getattribute__" == Value.builtin "object.__getattribute__") = false := by rw [hx2]; rfl
  unfold getAttr? getAttrBy? getAttrBy
  refine wpAny_bind (wpAny_mkText (wpAny_bind (wpAny_attempt (wpAny_holding (wpAny_bind (L0.at (wpAny_bind (L1.at ?_))))))))
  show wpAny _ _ (if (onTheHeap (Value.ref D) && Value.builtin "BaseException.__getattribute__" == Value.builtin "object.__getattribute__") = true then _ else _) _ _ _
  rw [hx1, if_neg Bool.false_ne_true]
  unfold getAttrByItsOwn hookBefore
  refine wpAny_bind ?_
  rw [if_pos (show onTheHeap (Value.ref D) = true from rfl)]
  refine L2.at ?_
  refine wpAny_bind (wpAny_attempt (wpAny_holding ?_))
  unfold callGetattribute
  rw [hx0, if_neg Bool.false_ne_true]
  unfold boundAndCalled
  rw [PySem.F.excAttr_ValueError.ga.bind (.ref x)]
  refine wpAny_bind (wpAny_pure ?_)
  show wpAny _ _ (call (.builtin "BaseException.__getattribute__") [.ref x, .str "__class__" t]) _ _ _
  refine wpAny_call (codeAny_call_builtin PySem.F.excAttr_ValueError.ga.plain PySem.F.entry_bexc_ga ?_)
  refine @check_slot (model prog w) _ _ ⟨hp, g, d, t + 1, os⟩ "BaseException.__getattribute__" "BaseException" "__getattribute__" (.ref x) [.str "__class__" t] [] _ (by decide +kernel) (by decide +kernel) sub (PySem.F.args_bexc_ga (.ref x) (.str "__class__" t)) ?_
  unfold Builtin.«object.__getattribute__»
  refine wpAny_bind (wpAny_of_eq (a := ((Value.ref x : Value), [Value.str "__class__" t])) (by first | rfl | (simp only [slotArgs]; rfl)) ?_)
  refine wpAny_bind (wpAny_pure (wpAny_bind (L0.at (wpAny_bind (L3.at ?_)))))
  show wpAny _ _ (holding [Value.builtin "object.__class__"] (call (.builtin "getset_descriptor.__get__") [.builtin "object.__class__", .ref x, .ref D]) >>= ret) _ _ _
  refine wpAny_bind (wpAny_holding (wpAny_call (class_get (s := ⟨hp, g, d, t + 1, os⟩) (ox := ox) (od := od) X I hm ?_)))
  refine wpAny_pure ?_
  show wpAny _ _ (handedOut (.ref D)) _ _ _
  rw [handedOut_of (v := .ref D) rfl]
  first
    | exact wpAny_pure (wpAny_pure h)
    | exact wpAny_pure h
    | exact wpAny_pure (wpAny_bind (wpAny_pure (wpAny_pure h)))
theorem kitx_exd (C : ExcC K D) : KitX K (.ref x) (.ref D) (fun h => InstAt h x ox D od) where
  ty := fun _ _ _ I => I.type
  it := fun _ _ X _ => by
    obtain ⟨cdD, hcD, _⟩ := any_some C.hd
    unfold clsIn at hcD
    split at hcD
    · rename_i c' d' cd' sl' ho
      intro A' Q' E' s' k q
      unfold isType loadHead
      exact wpAny_bind (wpAny_loadPart (k _ _ (X _ _ ho)) (wpAny_pure q))
    · cases hcD
  ne := fun h tp dd its n sl X htp => by
    obtain ⟨cdD, hcD, _⟩ := any_some C.hd
    refine Bool.eq_false_iff.mpr fun q => ?_
    have e : D = tp := Value.ref.inj (beq_iff_eq.mp q)
    subst e
    unfold clsIn at hcD
    split at hcD
    · rename_i c' d' cd' sl' ho
      have z := (X _ _ ho).symm.trans htp
      cases z
    · cases hcD
  ca := fun X I k => kin_classD C.hg C.hk C.hs C.hd C.ha C.hn C.ht C.hm X I k
end
section
variable {c : Kc} {x : Mx} {w : Option WX}
def rIsXD (c : Kc) (a : Addr) (cls : Value) (d : Option Addr) : List V → Hp → VK → Prop := fun xs H Q => ∃ (D : Nat) (h : Xc) (dx : Addr) (fs : List (Str × V)), cls = .ref (c.ca D) ∧ d = some dx ∧ H dx = some (.xd fs) ∧ ExcC c.K (c.ca D) ∧ xs = [.ref a, xcW c h] ∧ PySem.W.kitOne c.K (.ref (c.ca D)) (xcV c h) = some (exIs D h) ∧ Q (.bl (exIs D h)) H
theorem call_isXD {X : Cx} {a : Addr} {oe : Obj} {cls : Value} {d : Option Addr} {pn : List (Addr × Obj)} (hK : X.K = c.K) (hz : Zc cls d oe) (hf : ∃ vs, oe.data = .fields vs) : CallR (X.suite a ((a, oe) :: pn)) (.builtin "isinstance") (rIsXD c a cls d) := by
  intro pins s σ H xs us Q I r h
  obtain ⟨D, h, dx, fs, rfl, rfl, hdx, hE, rfl, hk, q⟩ := h
  rw [← hK] at hE hk
  cases r with
  | cons rx rr =>
    cases rr with
    | cons rt rr =>
      cases rr
      cases rx
      have ec := xcW_ok rt
      subst ec
      obtain ⟨hget, _⟩ := I.pin (a, oe) (List.mem_append.mpr (.inl List.mem_cons_self))
      obtain ⟨vs, hv⟩ := hf
      obtain ⟨mA, ⟨o, es, ep, ho, _⟩, _⟩ := (show ObjOk X.prog X.w H s.heap dx (.xd fs) from I.hok dx _ hdx)
      have J : PySem.W.InstAt s.heap a oe (c.ca D) (some o) := by
        obtain ⟨oc, od, oda, osl⟩ := oe
        obtain ⟨h1, h2⟩ := hz
        dsimp only at h1 h2 hv
        subst h1 h2 hv
        exact ⟨hget, rfl, rfl, ho⟩
      exact PySem.W.kia_one (kitx_exd hE) I.kIn J hk (fun z => nomatch z) fun tk => ⟨.bl (exIs D h), H, I.kept (t' := tk) fun _ _ z => z, rfl, q⟩
def isXDW (xl : List Nat) (i : Nat) (h : Xc) : EM := fun ss R _ => match ss[i]? with
  | some (.exc D (f :: l)) => xl.contains D = true ∧ R (.bl (exIs D h))
  | _ => False
theorem re_isXD {xl : List Nat} {i : Nat} {h : Xc} {v : V} (hv : v = xcW c h) (hk : Kits c xl h) : RE c x w (tCB (rIsXD c x.xa (.ref (c.ca x.xc)) x.xd) (tCons (tVar i) (tCons (tC v) tNil))) (isXDW xl i h) := fun ss R X G σ H mm e s Q q z => by
  subst hv
  unfold isXDW at mm
  split at mm
  · rename_i D f l hs
    obtain ⟨h1, h2⟩ := mm
    obtain ⟨⟨rfl, h3⟩, h4⟩ := s.exc i D (f :: l) hs
    obtain ⟨hE, hk⟩ := hk x.xc (by simpa using h1)
    rcases h4 with ⟨_, h5⟩ | ⟨dx, fs, h5, n, h6, h7⟩
    · cases h5
    · exact ⟨_, h3, x.xc, h, dx, fs, rfl, h5, e _ _ h6, hE, rfl, hk, q _ (.bl _) G H (Go.refl e) rfl h2⟩
  · exact mm.elim
end
end Mw

set_option Elab.async false
set_option linter.all false
set_option maxRecDepth 100000
set_option maxHeartbeats 4000000
namespace PySem
open AutoSeq1 (wpAny_loadPart')
theorem meets_enumerate_newT (l : Addr) (items : Array Value) :
    Meets (Builtin.«enumerate.__new__» ⟨[.type "enumerate", .ref l], []⟩) (fun _ R s => s.heap.IsTuple l items ∧
      R (.ok (.ret (.ref (s.heap.push { cls := .type "tuple_iterator", data := .fields #[.ref l, .int 0 0] }).objs.size)))
        { s with heap := (s.heap.push { cls := .type "tuple_iterator", data := .fields #[.ref l, .int 0 0] }).push { cls := .type "enumerate", data := .fields #[.none, .bool false, .ref s.heap.objs.size, rawInt 0, .none, .none] } }) :=
  .of_wp fun prog w A R s h => by
    obtain ⟨hp, g, d, tk, os⟩ := s; obtain ⟨hl, h⟩ := h
    have hsub := sub_enumerate
    have hL : Heap.IsTuple (Shared.heap ⟨hp, g, d, tk, os⟩) l items := hl
    wp_walk
    refine wpAny_stack_any fun st => wpAny_pure ?_
    split
    · rename_i c _ _ _ _ _
      cases (c == Value.type "enumerate")
      · wp_walk using wpAny_pyIter_tuple hL
        exact ⟨_, rfl, h⟩
      · wp_walk using wpAny_pyIter_tuple hL
        exact ⟨_, rfl, h⟩
    · wp_walk using wpAny_pyIter_tuple hL
      exact ⟨_, rfl, h⟩
section
variable {prog : Program} {w : World} {A : Around} {E : Value → Shared → Prop} {s : Shared}
theorem call_enumerate_tup {l : Addr} {items : Array Value} {Q : Value → Shared → Prop} (hL : s.heap.IsTuple l items)
    (h : ∀ h', IsEnum h' (s.heap.objs.size + 1) s.heap.objs.size 0 .none → h'.IsTupleIter s.heap.objs.size l 0 → h'.objs.size = s.heap.objs.size + 2 →
      (∀ b o, s.heap.get? b = some o → h'.get? b = some o) → Q (.ref (s.heap.objs.size + 1)) { s with heap := h' }) :
    wpAny (model prog w) A (call (.type "enumerate") [.ref l]) Q E s := by
  refine callType_new F.called_enumerate (by decide) (F.typeCall_enumerate_1 _) (F.newCall_enumerate_1 _) (fun obj => F.args_object_init_2 obj _) F.entry_enumerate_new
    (meets_enumerate_newT l items) ⟨hL, ?_⟩
  have hz : (s.heap.push { cls := .type "tuple_iterator", data := .fields #[.ref l, .int 0 0] }).objs.size = s.heap.objs.size + 1 := Heap.size_push ..
  show _ ∧ _
  rw [hz]
  have he : IsEnum ((s.heap.push { cls := .type "tuple_iterator", data := .fields #[.ref l, .int 0 0] }).push
      { cls := .type "enumerate", data := .fields #[.none, .bool false, .ref s.heap.objs.size, rawInt 0, .none, .none] }) (s.heap.objs.size + 1) s.heap.objs.size 0 .none := by
    have := Heap.get?_push_size (s.heap.push { cls := .type "tuple_iterator", data := .fields #[.ref l, .int 0 0] })
      (o := { cls := .type "enumerate", data := .fields #[.none, .bool false, .ref s.heap.objs.size, rawInt 0, .none, .none] }) rfl
    rw [hz] at this; exact this
  refine ⟨⟨_, he, rfl⟩, h _ he ⟨_, Heap.get?_push_of_some _ (Heap.get?_push_size _ rfl), rfl, rfl⟩ (by rw [Heap.size_push, hz]) fun b o x => Heap.get?_push_of_some _ (Heap.get?_push_of_some _ x)⟩
end
end PySem
namespace Mw
open PySem PySem.Spec PyProof.Rows L2
/-! ### enumerate(tuple) -/
def ItEt (K : PySem.W.Frag) (a : Addr) : It :=
  ⟨fun i H => ∃ (xs : List V) (x : V), SqT K H a xs ∧ xs[i]? = some x, fun i H v H' => ∃ T x, v = .ref T ∧ H T = none ∧ H' = upd H T (.tup [.int (i : Nat), x]) ∧ ∀ xs, SqT K H a xs → xs[i]? = some x, fun i H => ∃ xs : List V, SqT K H a xs ∧ xs.length = i⟩
theorem turn_et {P : Program} {w : World} {K : PySem.W.Frag} {elts : List Expr} {kk : Nat} {tpos : Pos} (a e it : Addr) (hne : e ≠ it) (hea : e ≠ a) (hai : a ≠ it) :
    Turn P w K (.Tuple elts kk tpos) (ItEt K a) [e, it] e (fun i h => (∃ old, IsEnum h e it ((i : Nat) : Int) old) ∧ h.IsTupleIter it a i) := by
  have two : ∀ {b : Addr}, b ∈ [e, it] → b = e ∨ b = it := fun hb => by simpa using hb
  refine ⟨by simp, fun i h st b hb => ?_, fun i h h' st k => ?_, ?_, ?_, fun A i s Q E st h => let ⟨⟨_, he⟩, _⟩ := st; wpAny_pyIter_enum he h⟩
  · obtain ⟨⟨old, he⟩, o, ho, _, hd⟩ := st
    rcases two hb with rfl | rfl
    · exact ⟨_, he, fun v q => nomatch q⟩
    · exact ⟨o, ho, fun v q => by rw [hd] at q; cases q⟩
  · obtain ⟨⟨old, he⟩, hit⟩ := st
    exact ⟨⟨old, k e (by simp) _ he⟩, hit.at fun o q => k it (by simp) o q⟩
  · rintro X rfl rfl rfl hc i pins s σ H E I hf ⟨⟨old, he⟩, hst⟩ ⟨xs, x, hq, hx⟩
    obtain ⟨its, rv, p, hz⟩ := I.tuple hq
    obtain ⟨u, hu, ru⟩ := rv.get hx
    have le : e < s.heap.objs.size := Heap.lt_size he
    have li : it < s.heap.objs.size := let ⟨_, q, _⟩ := hst; Heap.lt_size q
    have D := PySem.Draws.tuple (prog := X.prog) (w := X.w) (A := X.A.in1) (I.ok.hd hc) it a hai its.toArray
    have hlt : i < its.toArray.size := by rcases List.getElem?_eq_some_iff.mp hu with ⟨z, _⟩; simpa using z
    refine wpAny_pyNext_enum_itemD D he ⟨hst, p⟩ hlt hne (by simp [hne, hea]) fun u' h1 tk pu ho hst' hT hsz hk => ?_
    have eu : u' = u := by
      have pu' : its[i]? = some u' := by simpa using pu
      rw [hu] at pu'; exact (Option.some.inj pu').symm
    subst eu
    refine ⟨_, rfl, wpAny_letOwnedTupleGo_enum (s := { s with heap := h1, toks := tk + 1 }) ho fun h2 he' sb => ?_⟩
    have hT2 := (sb.2 s.heap.objs.size (Nat.ne_of_gt le)).trans hT
    have fr : H s.heap.objs.size = none := I.hok.fresh (Nat.le_refl _)
    have I1 : Inv X pins σ (upd H s.heap.objs.size (.tup [.int (i : Nat), x])) { s with heap := h2, toks := tk + 1 } :=
      I.turnedNew (ch := [e, it]) (fun b ob hb q => (sb.2 b (fun y => hb (by simp [y]))).trans (hk b ob (fun y => hb (by simp [y])) (fun y => hb (by simp [y])) q)) hf (Nat.le_refl _)
        ⟨by show 2 ≤ sizeLine; decide, [Value.int i tk, u'], .cons ⟨_, rfl⟩ (.cons ru .nil), ⟨_, hT2, rfl, _, rfl⟩⟩
    refine ⟨.ref s.heap.objs.size, _, I1, rfl, ⟨_, x, rfl, fr, rfl, fun ys hy => by rw [I.tuple_inj hy hq]; exact hx⟩, ⟨⟨u', ?_⟩, hst'.1.at fun o q => (sb.2 it (Ne.symm hne)).trans q⟩, fun b hb => ?_⟩
    · have e1 : ((i + 1 : Nat) : Int) = (i : Int) + 1 := by omega
      rw [e1]; exact he'
    · have lb : b < s.heap.objs.size := by rcases two hb with rfl | rfl <;> assumption
      rw [upd_ne (Nat.ne_of_lt lb)]
      exact (hf b hb).1
  · rintro X rfl rfl rfl hc i pins s σ H E I hf ⟨⟨old, he⟩, hst⟩ ⟨xs, hq, hx⟩
    obtain ⟨its, rv, p, hz⟩ := I.tuple hq
    obtain ⟨f0, f1, f2, f3, f4, f5⟩ := hf it (by simp)
    have D := PySem.Draws.tuple (prog := X.prog) (w := X.w) (A := X.A.in1) (I.ok.hd hc) it a hai its.toArray
    have hl := rv.length
    have e1 : i = its.toArray.size := by rw [← hx, hl]; simp
    subst e1
    exact wpAny_pyNext_enum_endD D he ⟨hst, p⟩ fun h' eb => ⟨rfl, I.turned (t' := s.toks) (fun b o hb q => eb b o hb q) f0 f1 f3 f4 f5⟩
def iEnumT (K : PySem.W.Frag) (ta : TA) : TI := fun σ H R => ta σ H fun vs H1 => ∃ a xs, vs = [.ref a] ∧ SqT K H1 a xs ∧ R (ItEt K a) H1
theorem pi_enumT {X : Cx} {K : PySem.W.Frag} (hK : X.K = K) {e : Expr} {ta : TA} {p pos tpos : Pos} {elts : List Expr} {kk : Nat} (hg : Gl X "enumerate") (hm : X.mg "enumerate" = none) (ha : PA X [e] ta) (hs : starEach [e] X.env = [(false, eval e X.env)] := by rfl) :
    PI X (.Tuple elts kk tpos) (.Call (.Name "enumerate" p) [e] [] pos) (iEnumT K ta) := by
  subst hK
  constructor
  intro pins s σ H R I h
  refine Call_ (ld_blt I hg hm boot_enumerate (PyProof.Rows.callWith_type1 (thn (ha.run pos pins s σ H _ I h) fun us s1 ⟨vs, H1, I1, r1, a, xs, ez, hq, q⟩ => ?_) hs rfl))
  subst ez
  obtain ⟨u, rfl, ru⟩ := vals1 r1
  cases ru
  obtain ⟨its, rv, p', hz⟩ := I1.tuple hq
  have la : a < s1.heap.objs.size := let ⟨_, q, _⟩ := id p'; Heap.lt_size q
  refine call_enumerate_tup p' fun h1 he hit hsz hk => wpAny_pyIter_enum he ?_
  refine ⟨_, [s1.heap.objs.size + 1, s1.heap.objs.size], _, _, H1, rfl, I1.kept (t' := s1.toks) hk, turn_et a (s1.heap.objs.size + 1) s1.heap.objs.size (Nat.succ_ne_self _) (Nat.ne_of_gt (Nat.lt_succ_of_lt la)) (Nat.ne_of_lt la), ⟨⟨.none, he⟩, hit⟩, fun b hb => ?_, q⟩
  have lb : s1.heap.objs.size ≤ b := by
    have e2 : b = s1.heap.objs.size + 1 ∨ b = s1.heap.objs.size := by simpa using hb
    rcases e2 with rfl | rfl
    · exact Nat.le_succ _
    · exact Nat.le_refl _
  exact I1.fpOk lb (I1.hok.fresh lb)
section
variable {c : Kc} {x : Mx} {w : Option WX}
def enumLD (l : List Dt) : List Dt := l.mapIdx fun i d => .tup [.int (i : Nat), d]
def enumTD : List Dt → (List Dt → Prop) → Prop
  | [.tup l], R => R (enumLD l)
  | _, _ => False
theorem wd_et {G : Hp} {a : Addr} {l : List Dt} {xs : List V} (ha : G a = some (.tup xs)) (d : Dats c G l xs) : WalkD c (ItEt c.K a) (enumLD l) G := by
  unfold WalkD
  rw [show (enumLD l).length = xs.length by simp [enumLD, d.len]]
  refine ⟨fun i H hi ex => ⟨xs, _, Ex.tp ex ha, List.getElem?_eq_getElem hi⟩, fun H ex => ⟨xs, Ex.tp ex ha, rfl⟩, fun i H v H' hi ex y G2 e2 e3 => ?_⟩
  obtain ⟨T, p, rfl, hT, rfl, f1⟩ := y
  obtain ⟨dp, h1, h2⟩ := d.getV (f1 xs (Ex.tp ex ha))
  refine ⟨.tup [.int (i : Nat), dp], _, ?_, Go.new e3 hT, dat_newT (show Dats c G2 [.int (i : Nat), dp] _ from ⟨_, _, rfl, rfl, _, _, rfl, h2.up e2, rfl⟩) (e3.free hT)⟩
  simp [enumLD, List.getElem?_mapIdx, h1]
theorem ri_enumT {ta : TA} {as : AM} (ha : RA c x w ta as) : RI c x w (iEnumT c.K ta) (itAW enumTD as) := fun ss R X G σ H m e s Q q z =>
  ha ss _ X G σ H m e s _ (fun vs l G1 H1 g1 d1 m1 => by
    match l, m1 with
    | [.tup l], m1 =>
      obtain ⟨v, r, rfl, ⟨a, xs, rfl, h1, h2⟩, hr⟩ := d1
      cases hr
      exact ⟨a, xs, rfl, Ex.tp g1.ink.ex h1, q _ _ G1 H1 g1 (wd_et h1 h2) m1⟩) z
end
end Mw

set_option Elab.async false
set_option linter.all false
set_option maxRecDepth 100000
set_option maxHeartbeats 4000000
namespace PySem.W
open PySem PySem.Calls PyProof.Rows
theorem method_fld {prog : Program} {w : World} {A : Around} {E : Value → Shared → Prop} {s : Shared} {K : Frag} {x C : Addr} {ox : Obj} {od : Option Obj} {name : Str} {pl : Sem Bool} {Q : Value × List Value → Shared → Prop} (X : K.In s.heap) (I : InstAt s.heap x ox C od)
    (hga : findIn K (.ref C) "__getattribute__" = some (some (.builtin "object.__getattribute__"))) (hk : findIn K (.ref C) "__getattr__" = some none) (hf : findIn K (.ref C) name = some none)
    (h : wpAny (model prog w) A (getAttr (.ref x) name) (fun v => Q (v, [])) E s) : wpAny (model prog w) A (getMethod (.ref x) name pl) Q E s := by
  have hcan := PySem.F.canon_object_ga
  unfold getMethod specialOf
  refine wpAny_bind (wpAny_bind (I.type.here ((looks_findIn X hga).here ?_)))
  dsimp only
  rw [hcan, if_neg (by decide)]
  refine wpAny_bind (wpAny_bind (I.type.here ((looks_findIn X hk).here ?_)))
  refine wpAny_bind (wpAny_bind (I.type.here ((looks_findIn X hf).here ?_)))
  dsimp only
  exact wpAny_bind (wpAny_mono h (fun v s' hv => wpAny_pure hv) fun _ _ z => z)
end PySem.W
namespace Mw
open PySem PySem.Spec PyProof.Rows L2
/-! ### o.f(e, ..), the field an instance with an own __call__ -/
section
variable {X : Cx} {P : Program} {c : Kc} {mg : Str → Option Value} {base : Heap} {w : Option WX} {k : Nat} {ms : Ms} {t : TA} {ta : TE} {o e : Expr} {es : List Expr} {apos pos : Pos} {f : Str} {pl : Sem Bool}
theorem pe_coF (ho : PE X o ta) (F : Cos P c mg base k ms) (hX : At X P c mg base) (hr : Room k X.A) (tk : Tk X w) (ha : PA X (e :: es) t)
    (he : starEach (e :: es) X.env = (false, eval e X.env) :: starEach es X.env := by rfl) (hpl : (backTo pos (starEach es X.env)).any (·.1) = false := by rfl)
    (ht : eval (.Call (.Attribute o f apos) (e :: es) [] pos) X.env = (do
      let ov ← eval o X.env
      standAt apos.atName
      let (f, first) ← holding [ov] (getMethod ov f pl)
      callWith pos f first (backTo pos (starEach (e :: es) X.env)) (backToKw pos (keywordEach [] X.env))) := by rfl) : PE X (.Call (.Attribute o f apos) (e :: es) [] pos) (tCo c w ms (tFld c.K ta f) t) := by
  obtain ⟨h1, h2, h3, h4, h5⟩ := hX
  refine ⟨fun pins s σ H Q I h => ?_⟩
  refine PySem.W.methodCall_KW (pl := pl) (thn (ho.run pins s σ H _ I h) fun u s1 ⟨x0, H1, I1, rx, a0, C0, dx0, fs0, v0, ex, ea, hc, hn, hl0, a, dx, fs, C, Pre, ey, hl, q⟩ => ?_) ht
  subst ex ey
  obtain rfl : u = Value.ref a0 := rx
  rw [← h3] at hc hn
  obtain ⟨mA, O, _⟩ := ins_get I1.hok ea
  obtain ⟨od, J, _⟩ := O.look
  refine PySem.W.method_fld I1.kIn J (PySem.W.plainGet_of (hc.get f)).1 (PySem.W.plainGet_of (hc.get f)).2 hn ?_
  refine getattr_ok I1 ea hc hn hl0 fun u2 s2 I2 ru => ?_
  obtain rfl : u2 = Value.ref a := ru
  obtain ⟨g, co, G⟩ := F C Pre hl
  unfold Gmx at G
  rw [← h1, ← h2, ← h3, ← h4, ← h5] at G
  rw [← h3] at co
  show wpAny _ _ (callWith pos (.ref a) [] (backTo pos (starEach (e :: es) X.env)) []) _ _ _
  refine StX.callO_with (thn (ha.run pos pins s2 σ H1 _ I2 q) fun us s3 ⟨vs, H3, I3, r, hi, q2⟩ => ?_) he hpl
  obtain ⟨ox, od, J, hd⟩ := StX.insC_at (X := X) I3 (.inr ⟨dx, fs, hi⟩)
  refine ⟨⟨c.ca C, ox, od, J, hd⟩, wpAny_call (PySem.W.kco_code I3.kIn J hd co.at_ co.fn co.fi (codeAny_mono (G X.A X.stack s3 H3 (.ref a :: us) (.ref a :: vs) Q _ hr I3.env0 (.cons rfl r) q2) fun rr s' hq => ?_))⟩
  cases rr with
  | error e => exact tk σ pins H3 s3 e s' I3 hq
  | ok fl =>
    cases fl with
    | ret u => exact I3.after hq
    | next => exact False.elim hq
    | brk => exact False.elim hq
    | cont => exact False.elim hq
end
end Mw

set_option Elab.async false
set_option linter.all false
set_option maxRecDepth 100000
set_option maxHeartbeats 4000000
namespace Mw
open PySem PySem.Spec PyProof.Rows L2
/-! ### what the head looks at: the module's names, and what some of them reach -/
def rootG (g : Addr → Option Obj) (x : Str) : Addr := He.ga (He.frG g [mainGlobals]) x
def cloG (g : Addr → Option Obj) : Nat → List Addr → List Addr
  | 0, as => as
  | n + 1, as => cloG g n (He.growD g as)
/-- a def: where it stands, its name, qualified name, text, defaults -/
structure Dd where
  ad : PySem.W.Frag → Addr
  name : Str
  qual : Str
  st : Stmt
  dfl : List He.Dv := []
  kwd : List (Str × He.Dv) := []
  sup : Bool := false
/-- what is read of the heap: n steps from the roots, and one from each def -/
def asA (g : Addr → Option Obj) (n : Nat) (xs : List Str) : List Addr := mainGlobals :: cStatics :: cloG g n (xs.map (rootG g))
def asR (g : Addr → Option Obj) (n : Nat) (xs : List Str) (fn : List Dd) : List Addr := asA g n xs ++ cloG g 1 (fn.map fun d => d.ad (He.frT g (asA g n xs)))
abbrev FnU : Type := Option (Str × Str × Arguments × FuncBody × Scope × Addr × List Str × Addr)
def Dd.dvs (K : PySem.W.Frag) (d : Dd) : List V := d.dfl.map (He.Dv.v K)
def Dd.kws (K : PySem.W.Frag) (d : Dd) : List (Str × V) := d.kwd.map fun q => (q.1, q.2.v K)
def fnU (K : PySem.W.Frag) (a : Addr) : FnU := match K.lookup a with
  | some ⟨_, _, .func fd, _⟩ => some (fd.name, fd.qualname, fd.params, fd.body, fd.scope, fd.globals, fd.closure.map (·.1), fd.builtins)
  | _ => none
def Dd.cls (d : Dd) : List Str := if d.sup = true then ["__class__"] else []
def Dd.val (d : Dd) : FnU := some (d.name, d.qual, defArgs d.st, .stmts (defBody d.st), defScope d.st, mainGlobals, d.cls, builtinsNs)
def Dd.ok (K : PySem.W.Frag) (d : Dd) : Bool := PySem.W.keepIn K (.ref (d.ad K)) && (match K.lookup (d.ad K) with
  | some ⟨_, _, .func fd, _⟩ => PySem.W.codeIn K fd.code d.qual && (He.dflB K fd.defaults (d.dvs K) && He.kwdB K fd.kwdefaults (d.kws K))
  | _ => false)
theorem Dd.funD {K : PySem.W.Frag} {d : Dd} (e : fnU K (d.ad K) = d.val) (c : d.ok K = true) (hs : d.sup = false) : ∃ fd, FunD K d.name d.qual (defArgs d.st) (defBody d.st) (defScope d.st) (d.dvs K) (d.kws K) (d.ad K) fd := by
  obtain ⟨kp, c2⟩ := He.ba c
  unfold fnU at e
  have hcl : d.cls = [] := by unfold Dd.cls; rw [hs]; rfl
  generalize d.ad K = a at *
  match q : K.lookup a with
  | none => rw [q] at c2; cases c2
  | some ⟨oc, od, dt, osl⟩ =>
    rw [q] at c2 e
    cases dt with
    | func fd =>
      obtain ⟨n1, n2, n3, n4, n5, n6, n7, n8, n9, n10, n11, n12, n13, n14, n15⟩ := fd
      have e2 : (some (n1, n2, n3, n4, n5, n6, n7.map (·.1), n15) : FnU) = some (d.name, d.qual, defArgs d.st, .stmts (defBody d.st), defScope d.st, mainGlobals, d.cls, builtinsNs) := e
      rw [hcl] at e2
      simp only [Option.some.injEq, Prod.mk.injEq, List.map_eq_nil_iff] at e2
      obtain ⟨h1, h2, h3, h4, h5, h6, h7, h8⟩ := e2
      subst h1 h2 h3 h4 h5 h6 h7 h8
      obtain ⟨k1, k2⟩ := He.ba (show (PySem.W.codeIn K n13 d.qual && (He.dflB K n8 (d.dvs K) && He.kwdB K n9 (d.kws K))) = true from c2)
      obtain ⟨k3, k4⟩ := He.ba k2
      exact ⟨_, ⟨oc, od, n8, n9, n10, n11, n12, n13, n14, osl, rfl, q, k1, He.dflB_ok k3, He.kwdB_ok k4⟩, kp⟩
    | _ => cases c2
theorem fun_ofD {K : PySem.W.Frag} {x qual : Str} {st : Stmt} {kws : List (Str × V)} {f : Addr} {fd : FuncData} (F : FunD K x qual (defArgs st) (defBody st) (defScope st) [] kws f fd) : L2.Fun K x qual st f fd := by
  obtain ⟨oc, od, dV, kV, doc, pm, an, cdv, ct, osl, rfl, lk, hcd, hD, hK⟩ := F.ex
  rcases hD with ⟨_, rfl⟩ | ⟨e, _⟩
  · exact ⟨⟨oc, od, kV, doc, pm, an, cdv, ct, osl, rfl, lk, hcd⟩, F.kp⟩
  · exact absurd rfl e
/-! ### facts -/
abbrev Ft : Type := PySem.W.Frag → Bool
def fFree (x : Str) : Ft := fun K => He.eqO (PySem.W.nsIn K mainGlobals x) (some none)
def fGlo (x : Str) : Ft := fun K => He.eqO (PySem.W.nsIn K mainGlobals x) (some (some (.ref (He.ga K x))))
def fVal (x : Str) (v : V) : Ft := fun K => match PySem.W.nsIn K mainGlobals x with
  | some (some u) => He.relB v u
  | _ => false
def fReads (x : Str) : Ft := fun K => PySem.W.readsIn K (He.ga K x) (.type "type")
def fSpec (x m : Str) (b : String) : Ft := fun K => He.eqO (PySem.W.specialIn K (.ref (He.ga K x)) m) (some (some (.builtin b)))
def fKeep (x : Str) : Ft := fun K => PySem.W.keepIn K (.ref (He.ga K x))
def fSubT (x : Str) (T : String) : Ft := fun K => decide (PySem.W.subIn K (.ref (He.ga K x)) (.type T) = some true)
def fSub (x y : Str) (b : Bool) : Ft := fun K => decide (PySem.W.subIn K (.ref (He.ga K x)) (.ref (He.ga K y)) = some b)
def fTy (x : Str) : Ft := fun K => decide (PySem.W.typeIn K (.ref (He.ga K x)) = some (.type "type"))
def fHd (x : Str) : Ft := fun K => PySem.W.hasDictIn K (He.ga K x)
def fExc (x : Str) (bm : List Value) (n : String) : Ft := fun K => PySem.W.excIn K (He.ga K x) bm n
/-- a staticmethod: its object, its function -/
def stP (K : PySem.W.Frag) (C m : Str) : Addr := match PySem.W.findCls K (.ref (He.ga K C)) (.type "type") m with
  | some (.get _ (.ref p) _ _) => p
  | _ => 0
def stF (C m : Str) (K : PySem.W.Frag) : Addr := match PySem.W.recIn K (stP K C m) "staticmethod" with
  | some (.ref f :: _) => f
  | _ => 0
def fStat (C m : Str) : Ft := fun K => (match PySem.W.findCls K (.ref (He.ga K C)) (.type "type") m with
  | some (.get (.builtin b) (.ref p) .none (.ref a)) => decide (b = "staticmethod.__get__") && (decide (p = stP K C m) && decide (a = He.ga K C))
  | _ => false) && (match PySem.W.recIn K (stP K C m) "staticmethod" with
  | some (.ref f :: _) => decide (f = stF C m K)
  | _ => false)
section
variable {K : PySem.W.Frag}
theorem fFree_ok {x : Str} (h : fFree x K = true) : PySem.W.nsIn K mainGlobals x = some none := He.eqO_ok h
theorem fGlo_ok {x : Str} (h : fGlo x K = true) : PySem.W.nsIn K mainGlobals x = some (some (.ref (He.ga K x))) := He.eqO_ok h
theorem fVal_ok {x : Str} {v : V} (h : fVal x v K = true) : ∃ u, PySem.W.nsIn K mainGlobals x = some (some u) ∧ RelV v u := by
  unfold fVal at h
  split at h
  · rename_i u e; exact ⟨u, e, He.relB_ok h⟩
  · cases h
theorem fSpec_ok {x m : Str} {b : String} (h : fSpec x m b K = true) : PySem.W.specialIn K (.ref (He.ga K x)) m = some (some (.builtin b)) := He.eqO_ok h
theorem fSubT_ok {x : Str} {T : String} (h : fSubT x T K = true) : PySem.W.subIn K (.ref (He.ga K x)) (.type T) = some true := of_decide_eq_true h
theorem fSub_ok {x y : Str} {b : Bool} (h : fSub x y b K = true) : PySem.W.subIn K (.ref (He.ga K x)) (.ref (He.ga K y)) = some b := of_decide_eq_true h
theorem fTy_ok {x : Str} (h : fTy x K = true) : PySem.W.typeIn K (.ref (He.ga K x)) = some (.type "type") := of_decide_eq_true h
theorem fStat_ok {C m : Str} (h : fStat C m K = true) : PySem.W.findCls K (.ref (He.ga K C)) (.type "type") m = some (.get (.builtin "staticmethod.__get__") (.ref (stP K C m)) .none (.ref (He.ga K C))) ∧ ∃ r, PySem.W.recIn K (stP K C m) "staticmethod" = some (.ref (stF C m K) :: r) := by
  obtain ⟨h1, h2⟩ := He.ba h
  constructor
  · split at h1
    · rename_i b p a e
      obtain ⟨e1, h1⟩ := He.ba h1
      obtain ⟨e2, e3⟩ := He.ba h1
      rw [e, of_decide_eq_true e1, ← of_decide_eq_true e2, ← of_decide_eq_true e3]
    · cases h1
  · split at h2
    · rename_i f r e
      rw [e, ← of_decide_eq_true h2]
      exact ⟨r, rfl⟩
    · cases h2
end
/-! ### the Hook -/
abbrev AlM : Type := Bool × List FnU
def obsM (fs : List Ft) (fn : List Dd) (K : PySem.W.Frag) : AlM := ((fs.all fun f => f K) && fn.all fun d => d.ok K, fn.map fun d => fnU K (d.ad K))
def valM (fn : List Dd) : AlM := (true, fn.map Dd.val)
def SaysM (fs : List Ft) (fn : List Dd) (K : PySem.W.Frag) : Prop := obsM fs fn K = valM fn
/-- a def's code object and its table -/
def codeA (K : PySem.W.Frag) (f : Addr) : Addr := match K.lookup f with
  | some ⟨_, _, .func fd, _⟩ => (match fd.code with
    | .ref c => c
    | _ => 0)
  | _ => 0
def cTA (K : PySem.W.Frag) (p : PySem.W.Frag → Addr) : Addr × Addr := (codeA K (p K), He.tabOf K (codeA K (p K)))
def tabsM (g : Addr → Option Obj) (tf : List (PySem.W.Frag → Addr)) (K : PySem.W.Frag) : Bool := tf.all fun p => PySem.W.codeHdIn K (cTA K p).1 (cTA K p).2 && (match g (cTA K p).2 with
  | some o => He.emptyTab o
  | none => false)
structure SaysT (fs : List Ft) (fn : List Dd) (tf : List (PySem.W.Frag → Addr)) (h : Heap) (K : PySem.W.Frag) : Prop where
  s : SaysM fs fn K
  hd : ∀ p ∈ tf, PySem.W.codeHdIn K (cTA K p).1 (cTA K p).2 = true
  out : ∀ p ∈ tf, K.lookup (cTA K p).2 = none
  empty : ∀ p ∈ tf, h.get? (cTA K p).2 = some { cls := .none, data := .fields #[] }
abbrev AlT : Type := AlM × Bool
def obsMG (n : Nat) (xs : List Str) (fs : List Ft) (fn : List Dd) (tf : List (PySem.W.Frag → Addr)) (g : Addr → Option Obj) : AlT := (obsM fs fn (He.frT g (asR g n xs fn)), tabsM g tf (He.frT g (asR g n xs fn)))
theorem saysT_of {n : Nat} {xs : List Str} {fs : List Ft} {fn : List Dd} {tf : List (PySem.W.Frag → Addr)} {h : Heap} (e : obsMG n xs fs fn tf h.get? = (valM fn, true)) : SaysT fs fn tf h (He.frT h.get? (asR h.get? n xs fn)) := by
  have e1 : obsM fs fn (He.frT h.get? (asR h.get? n xs fn)) = valM fn := congrArg (fun z : AlT => z.1) e
  have e2 : tabsM h.get? tf (He.frT h.get? (asR h.get? n xs fn)) = true := congrArg (fun z : AlT => z.2) e
  have key : ∀ p ∈ tf, PySem.W.codeHdIn (He.frT h.get? (asR h.get? n xs fn)) (cTA (He.frT h.get? (asR h.get? n xs fn)) p).1 (cTA (He.frT h.get? (asR h.get? n xs fn)) p).2 = true ∧ ∃ o, h.get? (cTA (He.frT h.get? (asR h.get? n xs fn)) p).2 = some o ∧ He.emptyTab o = true := fun p hp => by
    obtain ⟨h3, h4⟩ := He.ba (List.all_eq_true.mp e2 p hp)
    refine ⟨h3, ?_⟩
    split at h4
    · rename_i o q; exact ⟨o, q, h4⟩
    · cases h4
  exact ⟨e1, fun p hp => (key p hp).1, fun p hp => let ⟨_, o, q, z⟩ := key p hp; He.frT_none q z, fun p hp => let ⟨_, o, q, z⟩ := key p hp; by rw [q, He.emptyTab_eq z]⟩
def hookM (n : Nat) (xs : List Str) (fs : List Ft) (fn : List Dd) (tf : List (PySem.W.Frag → Addr)) : PySem.W.Hook where
  α := AlT
  obs := fun s => obsMG n xs fs fn tf s.heap.get?
  val := fun _ => (valM fn, true)
  says := fun _ h => ∃ K : PySem.W.Frag, K.In h ∧ SaysT fs fn tf h K
  of := fun _ _ e => ⟨_, He.frT_in, saysT_of e⟩
  keeps := fun _ _ _ ⟨K, hK, c⟩ k => ⟨K, PySem.W.Frag.In.keeps hK k, ⟨c.s, c.hd, c.out, fun p hp => k _ _ (c.empty p hp)⟩⟩
theorem obsMG_eq {n : Nat} {xs : List Str} {fs : List Ft} {fn : List Dd} {tf : List (PySem.W.Frag → Addr)} {g : Addr → Option Obj} {s : Shared} (h : ∀ a, g a = s.heap.get? a) : obsMG n xs fs fn tf g = (hookM n xs fs fn tf).obs s := by
  have e : g = s.heap.get? := funext h
  rw [e] <;> rfl
section
variable {fs : List Ft} {fn : List Dd} {K : PySem.W.Frag}
theorem SaysM.fact (c : SaysM fs fn K) (i : Nat) {f : Ft} (h : fs[i]? = some f := by rfl) : f K = true := by
  have c1 := (He.ba (show ((fs.all fun f => f K) && fn.all fun d => d.ok K) = true from congrArg (fun z : AlM => z.1) c)).1
  exact List.all_eq_true.mp c1 f (List.mem_of_getElem? h)
theorem SaysM.def_ (c : SaysM fs fn K) (i : Nat) {d : Dd} (h : fn[i]? = some d := by rfl) (hs : d.sup = false := by rfl) : ∃ fd, FunD K d.name d.qual (defArgs d.st) (defBody d.st) (defScope d.st) (d.dvs K) (d.kws K) (d.ad K) fd := by
  have c2 := (He.ba (show ((fs.all fun f => f K) && fn.all fun d => d.ok K) = true from congrArg (fun z : AlM => z.1) c)).2
  have e : fn.map (fun d => fnU K (d.ad K)) = fn.map Dd.val := congrArg (fun z : AlM => z.2) c
  have e2 : (fn.map fun d => fnU K (d.ad K))[i]? = (fn.map Dd.val)[i]? := by rw [e]
  rw [List.getElem?_map, List.getElem?_map, h] at e2
  exact Dd.funD (Option.some.inj e2) (List.all_eq_true.mp c2 d (List.mem_of_getElem? h)) hs
theorem SaysM.raw (c : SaysM fs fn K) (i : Nat) {d : Dd} (h : fn[i]? = some d := by rfl) : fnU K (d.ad K) = d.val ∧ d.ok K = true := by
  have c2 := (He.ba (show ((fs.all fun f => f K) && fn.all fun d => d.ok K) = true from congrArg (fun z : AlM => z.1) c)).2
  have e : fn.map (fun d => fnU K (d.ad K)) = fn.map Dd.val := congrArg (fun z : AlM => z.2) c
  have e2 : (fn.map fun d => fnU K (d.ad K))[i]? = (fn.map Dd.val)[i]? := by rw [e]
  rw [List.getElem?_map, List.getElem?_map, h] at e2
  exact ⟨Option.some.inj e2, List.all_eq_true.mp c2 d (List.mem_of_getElem? h)⟩
end
/-- the end over such a Hook -/
theorem walk_ofM {l : PySem.W.OpenLaw} {n k : Nat} {q : Program} {loose : List Str} {XP : (Str → Option Value) → Heap → Prop} {YP : World → Heap → Prop} {d : DefRec} {x : Str}
    (hn : l.most = some n) (hn2 : n ≤ sizeLine) (hdf : d.params.defaults = []) (hr : Room k callerA)
    (F : ∀ (w : World) (mg : Str → Option Value) (fa : Addr) (h : Heap), YP w h → h.Ns mainGlobals mg → mg d.name = some (.ref fa) →
      ∃ (K : PySem.W.Frag) (sp : Sp) (fd : FuncData), K.In h ∧ (∀ (s : Shared) (u : Value), BindsTo s fd ⟨[u], []⟩ [(x, u)]) ∧ (∀ base : Heap, FnG l.prog w K mg base k fa fd [x] sp) ∧
        ∀ (H : Hp) (a : Addr) (ns : List Int), ns.length ≤ n → SqL K H a (ns.map V.int) → sp [.ref a] H (fun v _ => v = .bl true) fun _ _ _ => False) :
    PySem.W.WalkO q loose XP YP l.row.toRowW d [] (fun f vs => PySem.call f vs) := by
  refine Att.attach_call hn hdf fun w s₀ s₁ mg mb fa o pm cd doc a vs ns G Y ho hd hcd hmg hobj hints hlen hg => ?_
  obtain ⟨K, sp, fd, KX, hb, hF, hsp⟩ := F w mg fa _ Y G.T.g hmg
  exact top_call KX G.T.g G.T.b G.T.builtins G.T.nolimit hg hobj hints (Nat.le_trans hlen hn2) hr hF hb fun H hS => hsp H a ns hlen hS
/-- the end over a Hook with tables -/
theorem walk_ofT {l : PySem.W.OpenLaw} {n k : Nat} {q : Program} {loose : List Str} {XP : (Str → Option Value) → Heap → Prop} {YP : World → Heap → Prop} {d : DefRec} {x : Str}
    (hn : l.most = some n) (hn2 : n ≤ sizeLine) (hdf : d.params.defaults = []) (hr : Room k callerA)
    (F : ∀ (w : World) (mg : Str → Option Value) (fa : Addr) (h : Heap), YP w h → h.Ns mainGlobals mg → mg d.name = some (.ref fa) →
      ∃ (K : PySem.W.Frag) (sp : Sp) (fd : FuncData) (cs : List (Addr × Addr)), K.In h ∧ (∀ p ∈ cs, h.get? p.2 = some { cls := .none, data := .fields #[] }) ∧ (∀ p ∈ cs, K.lookup p.2 = none) ∧ (∀ p ∈ cs, PySem.W.codeHdIn K p.1 p.2 = true) ∧
        (∀ (s : Shared) (u : Value), BindsTo s fd ⟨[u], []⟩ [(x, u)]) ∧ (∀ base : Heap, (∀ p ∈ cs, LamX.TabB base mg p.1 p.2) → FnG l.prog w K mg base k fa fd [x] sp) ∧
        ∀ (H : Hp) (a : Addr) (ns : List Int), ns.length ≤ n → SqL K H a (ns.map V.int) → (∀ p ∈ cs, H p.2 = some (.tbl #[])) → (∀ b u, H b = some u → u = .tbl #[] ∨ ∃ o xs, u = .frz o (.lst xs)) → sp [.ref a] H (fun v _ => v = .bl true) fun _ _ _ => False) :
    PySem.W.WalkO q loose XP YP l.row.toRowW d [] (fun f vs => PySem.call f vs) := by
  refine Att.attach_call hn hdf fun w s₀ s₁ mg mb fa o pm cd doc a vs ns G Y ho hd hcd hmg hobj hints hlen hg => ?_
  obtain ⟨K, sp, fd, cs, KX, hT, nT, C, hb, hF, hsp⟩ := F w mg fa _ Y G.T.g hmg
  exact top_callT KX G.T.g G.T.b G.T.builtins G.T.nolimit hg hT nT (fun p hp => PySem.W.codeHd_of_K KX (C p hp)) G.T.bmain hobj hints (Nat.le_trans hlen hn2) hr hF hb fun H hS h1 h2 => hsp H a ns hlen hS h1 h2
/-- the law's call by data: c's tables are the empty ones of cs -/
theorem start_T {c : Kc} {Pre : PreX} {H : Hp} {a : Addr} {ns : List Int} {cs : List (Addr × Addr)} (hfl : c.fl = fun _ => none) (hc : ∀ p ∈ c.tb, ∃ q ∈ cs, q.2 = p.1) (hS : SqL c.K H a (ns.map V.int)) (h1 : ∀ p ∈ cs, H p.2 = some (.tbl #[])) (hP : Pre [.sq (ns.map .int)] (fun d => d = .bl true) xF) :
    spN c Pre [.ref a] H (fun v _ => v = .bl true) fun _ _ _ => False := by
  have tb : LamX.Tabs c.tb H := fun p hp => by
    obtain ⟨q, hq, e⟩ := hc p hp
    rw [← e]
    exact .nil (h1 q hq)
  have e0 : In c (fun _ => none) H := ⟨(fun b u z => by cases z), (fun b u z => by cases z), tb, (by rw [hfl]; exact fun _ _ z => z)⟩
  exact ⟨noTb H, [.sq (ns.map .int)], fun d => d = .bl true, noTb_in e0, ⟨.ref a, [], rfl, ⟨a, _, rfl, noTb_seq hS, dats_ints⟩, rfl⟩, hP, fun v d G' H' _ hd hr => by subst hr; exact hd⟩
end Mw

set_option Elab.async false
set_option linter.all false
set_option maxRecDepth 100000
set_option maxHeartbeats 4000000
namespace Mw
open PySem PySem.Spec PyProof.Rows L2
/-! ### facts of plain classes -/
structure ClsA (K : PySem.W.Frag) (C : Addr) : Prop where
  ci : ClsI K C
  kp : PySem.W.keepIn K (.ref C) = true
  cr : ClX.CRead K C (.type "type")
  ne : PySem.W.findIn K (.ref C) "__ne__" = some (some (.builtin "object.__ne__"))
  ob : PySem.W.subIn K (.ref C) (.type "object") = some true
  kC : ∀ T ∈ kinds7, PySem.W.kitOne K (.type T) (.ref C) = some false
  kT : ∀ T ∈ kinds7, PySem.W.kitOne K (.ref C) (.type T) = some false
  mro : ∃ cd r, PySem.W.clsIn K C = some cd ∧ cd.mro = .ref C :: r
def findB (K : PySem.W.Frag) (C : Addr) (m : Str) (v : Option Value) : Bool := decide (PySem.W.findIn K (.ref C) m = some v)
def mroB (K : PySem.W.Frag) (C : Addr) : Bool := match PySem.W.clsIn K C with
  | some cd => (match cd.mro with
    | a :: _ => decide (a = .ref C)
    | _ => false)
  | _ => false
def clsB (K : PySem.W.Frag) (C : Addr) : Bool :=
  PySem.W.plainGet K C Str.empty && (PySem.W.hasDictIn K C && (PySem.W.plainOver K C && (findB K C "__setattr__" (some (.builtin "object.__setattr__")) && (findB K C "__class__" (some (.builtin "object.__class__")) &&
  (decide (PySem.W.specialIn K (.builtin "object.__class__") "__get__" = some (some (.builtin "getset_descriptor.__get__"))) && (decide (PySem.W.takesIn K (.builtin "object.__class__") = some true) && (decide (PySem.W.mroIn K C (.type "object") = some true) &&
  (PySem.W.keepIn K (.ref C) && (PySem.W.readsIn K C (.type "type") && (decide (PySem.W.specialIn K (.ref C) "__getattribute__" = some (some (.builtin "type.__getattribute__"))) && (findB K C "__ne__" (some (.builtin "object.__ne__")) &&
  (decide (PySem.W.subIn K (.ref C) (.type "object") = some true) && ((kinds7.all fun T => decide (PySem.W.kitOne K (.type T) (.ref C) = some false)) && ((kinds7.all fun T => decide (PySem.W.kitOne K (.ref C) (.type T) = some false)) && mroB K C))))))))))))))
theorem findB_ok {K : PySem.W.Frag} {C : Addr} {m : Str} {v : Option Value} (h : findB K C m v = true) : PySem.W.findIn K (.ref C) m = some v := of_decide_eq_true h
theorem clsB_ok {K : PySem.W.Frag} {C : Addr} (h : clsB K C = true) : ClsA K C := by
  unfold clsB at h
  simp only [Bool.and_eq_true] at h
  obtain ⟨h1, h2, h3, h4, h5, h6, h7, h8, h9, h10, h11, h12, h13, h14, h15, h16⟩ := h
  refine ⟨⟨⟨h1, h2, h3, findB_ok h4⟩, ⟨findB_ok h5, of_decide_eq_true h6, of_decide_eq_true h7, of_decide_eq_true h8⟩⟩, h9, ⟨h10, of_decide_eq_true h11⟩, findB_ok h12, of_decide_eq_true h13, fun T hT => of_decide_eq_true (List.all_eq_true.mp h14 T hT), fun T hT => of_decide_eq_true (List.all_eq_true.mp h15 T hT), ?_⟩
  unfold mroB at h16
  split at h16
  · rename_i cd e
    split at h16
    · rename_i a r e2
      exact ⟨cd, r, e, by rw [e2, of_decide_eq_true h16]⟩
    · cases h16
  · cases h16
def fCls (x : Str) : Ft := fun K => clsB K (He.ga K x)
def fKit (x y : Str) : Ft := fun K => decide (PySem.W.kitOne K (.ref (He.ga K x)) (.ref (He.ga K y)) = some false)
def fNo (x f : Str) : Ft := fun K => findB K (He.ga K x) f none
/-- a plain def of a class -/
def meA (C m : Str) (K : PySem.W.Frag) : Addr := He.ma K (He.ga K C) m
def fMe (C m : Str) : Ft := fun K => findB K (He.ga K C) m (some (.ref (meA C m K))) && PySem.W.isFn K (.ref (meA C m K))
def fMk (C : Str) : Ft := fun K => PySem.W.makesIn K (He.ga K C) && PySem.W.keepIn K (.ref (He.ga K C))
def fFnIn (C m : Str) : Ft := fun K => PySem.W.fnIn K (meA C m K)
/-- a property's getter -/
def prA (C m : Str) (K : PySem.W.Frag) : Addr := match PySem.W.recIn K (meA C m K) "property" with
  | some (.ref f :: _) => f
  | _ => 0
def fPr (C m : Str) : Ft := fun K => findB K (He.ga K C) m (some (.ref (meA C m K))) && (decide (PySem.W.specialIn K (.ref (meA C m K)) "__get__" = some (some (.builtin "property.__get__"))) && (decide (PySem.W.takesIn K (.ref (meA C m K)) = some true) &&
  (match PySem.W.recIn K (meA C m K) "property" with
  | some (.ref f :: _) => decide (f = prA C m K)
  | _ => false)))
/-- a classmethod: its object, its function -/
def cmA (C m : Str) (K : PySem.W.Frag) : Addr := match PySem.W.recIn K (stP K C m) "classmethod" with
  | some (.ref f :: _) => f
  | _ => 0
def fCm (C m : Str) : Ft := fun K => (match PySem.W.findCls K (.ref (He.ga K C)) (.type "type") m with
  | some (.get (.builtin b) (.ref p) .none (.ref a)) => decide (b = "classmethod.__get__") && (decide (p = stP K C m) && decide (a = He.ga K C))
  | _ => false) && ((match PySem.W.recIn K (stP K C m) "classmethod" with
  | some (.ref f :: _) => decide (f = cmA C m K)
  | _ => false) && PySem.W.fnIn K (cmA C m K))
section
variable {K : PySem.W.Frag} {C m x y f : Str}
theorem fKit_ok (h : fKit x y K = true) : PySem.W.kitOne K (.ref (He.ga K x)) (.ref (He.ga K y)) = some false := of_decide_eq_true h
theorem fMe_ok (h : fMe C m K = true) : PySem.W.findIn K (.ref (He.ga K C)) m = some (some (.ref (meA C m K))) ∧ PySem.W.isFn K (.ref (meA C m K)) = true := by
  obtain ⟨h1, h2⟩ := He.ba h
  exact ⟨findB_ok h1, h2⟩
theorem fMe_meth (h : fMe C m K = true) (k : PySem.W.keepIn K (.ref (meA C m K)) = true) : Meth K (He.ga K C) m (meA C m K) := ⟨(fMe_ok h).1, (fMe_ok h).2, k⟩
theorem fMk_ok (h : fMk C K = true) (h2 : fMe C "__init__" K = true) : Mk K (He.ga K C) (meA C "__init__" K) := by
  obtain ⟨a, b⟩ := He.ba h
  exact ⟨a, (fMe_ok h2).1, (fMe_ok h2).2, b⟩
theorem fPr_ok (h : fPr C m K = true) : PropOf K (He.ga K C) m (meA C m K) (prA C m K) := by
  obtain ⟨h1, h⟩ := He.ba h
  obtain ⟨h2, h⟩ := He.ba h
  obtain ⟨h3, h4⟩ := He.ba h
  refine ⟨findB_ok h1, of_decide_eq_true h2, of_decide_eq_true h3, ?_⟩
  split at h4
  · rename_i g r e
    rw [e, ← of_decide_eq_true h4]; exact ⟨r, rfl⟩
  · cases h4
theorem fCm_ok (h : fCm C m K = true) : ClX.CMet K (He.ga K C) (.type "type") m (stP K C m) (cmA C m K) := by
  obtain ⟨h1, h⟩ := He.ba h
  obtain ⟨h2, h3⟩ := He.ba h
  refine ⟨?_, ?_, h3⟩
  · split at h1
    · rename_i b p a e
      obtain ⟨e1, h1⟩ := He.ba h1
      obtain ⟨e2, e3⟩ := He.ba h1
      rw [e, of_decide_eq_true e1, ← of_decide_eq_true e2, ← of_decide_eq_true e3]
    · cases h1
  · split at h2
    · rename_i f r e
      rw [e, ← of_decide_eq_true h2]; exact ⟨r, rfl⟩
    · cases h2
end
/-- a class of the text, in Tx -/
structure KC (c : Kc) (mg : Str → Option Value) (nm : Str) (C : Nat) : Prop where
  m : mg nm = some (.ref (c.ca C))
  cl : C ∈ c.cl
  a : ClsA c.K (c.ca C)
theorem kls_of {c : Kc} {C : Nat} (a : ClsA c.K (c.ca C)) (kD : ∀ D ∈ c.cl, D ≠ C → PySem.W.kitOne c.K (.ref (c.ca D)) (.ref (c.ca C)) = some false) : Kls c C := ⟨a.ci, a.kC, a.kT, kD⟩
theorem nes_nil {c : Kc} : Nes c [] := fun C Pre h => nomatch h
theorem nes_cons {c : Kc} {ms : Ms} {C : Nat} {Pre : PreX} (a : ClsA c.K (c.ca C)) (h : Nes c ms) : Nes c ((C, Pre) :: ms) := fun D Q e => by
  rw [List.lookup_cons] at e
  cases q : D == C with
  | true => rw [beq_iff_eq.mp q]; exact ⟨a.ne, a.ob⟩
  | false => rw [q] at e; exact h D Q e
theorem cos_nil {P : Program} {c : Kc} {mg : Str → Option Value} {base : Heap} {k : Nat} : Cos P c mg base k [] := fun C Pre h => nomatch h
theorem cos_cons {P : Program} {c : Kc} {mg : Str → Option Value} {base : Heap} {k : Nat} {ms : Ms} {C : Nat} {f : Addr} {Pre : PreX} (hm : StX.CallO c.K (c.ca C) f) (F : Gmx P c mg base k f Pre) (h : Cos P c mg base k ms) : Cos P c mg base k ((C, Pre) :: ms) := fun D Q e => by
  rw [List.lookup_cons] at e
  cases q : D == C with
  | true => rw [q] at e; cases e; rw [beq_iff_eq.mp q]; exact ⟨f, hm, F⟩
  | false => rw [q] at e; exact h D Q e
theorem nof_nil {c : Kc} {f : Str} : NoF c [] f := fun C h => nomatch h
theorem nof_cons {c : Kc} {C : Nat} {cs : List Nat} {f : Str} (h : NoAttr c.K (c.ca C) f) (r : NoF c cs f) : NoF c (C :: cs) f := fun D hD => by
  rcases List.mem_cons.mp hD with e | hD
  · rw [e]; exact h
  · exact r D hD
/-! ### exceptions -/
def fExcC (x : Str) : Ft := fun K => findB K (He.ga K x) "__getattribute__" (some (.builtin "BaseException.__getattribute__")) && (findB K (He.ga K x) "__getattr__" none && (decide (PySem.W.subIn K (.ref (He.ga K x)) (.type "BaseException") = some true) && (PySem.W.hasDictIn K (He.ga K x) &&
  (findB K (He.ga K x) "__class__" (some (.builtin "object.__class__")) && (decide (PySem.W.specialIn K (.builtin "object.__class__") "__get__" = some (some (.builtin "getset_descriptor.__get__"))) && (decide (PySem.W.takesIn K (.builtin "object.__class__") = some true) && decide (PySem.W.mroIn K (He.ga K x) (.type "object") = some true)))))))
def fKitO (x y : Str) (b : Bool) : Ft := fun K => decide (PySem.W.kitOne K (.ref (He.ga K x)) (.ref (He.ga K y)) = some b)
def fKitB (x : Str) (T : String) (b : Bool) : Ft := fun K => decide (PySem.W.kitOne K (.ref (He.ga K x)) (.type T) = some b)
theorem fExcC_ok {K : PySem.W.Frag} {x : Str} (h : fExcC x K = true) : ExcC K (He.ga K x) := by
  unfold fExcC at h
  simp only [Bool.and_eq_true] at h
  obtain ⟨h1, h2, h3, h4, h5, h6, h7, h8⟩ := h
  exact ⟨findB_ok h1, findB_ok h2, of_decide_eq_true h3, h4, findB_ok h5, of_decide_eq_true h6, of_decide_eq_true h7, of_decide_eq_true h8⟩
theorem fKitO_ok {K : PySem.W.Frag} {x y : Str} {b : Bool} (h : fKitO x y b K = true) : PySem.W.kitOne K (.ref (He.ga K x)) (.ref (He.ga K y)) = some b := of_decide_eq_true h
theorem fKitB_ok {K : PySem.W.Frag} {x : Str} {T : String} {b : Bool} (h : fKitB x T b K = true) : PySem.W.kitOne K (.ref (He.ga K x)) (.type T) = some b := of_decide_eq_true h
theorem kits_nil {c : Kc} {h : Xc} : Kits c [] h := fun D hD => nomatch hD
theorem kits_cons {c : Kc} {h : Xc} {D : Nat} {xl : List Nat} (a : ExcC c.K (c.ca D)) (k : PySem.W.kitOne c.K (.ref (c.ca D)) (xcV c h) = some (exIs D h)) (r : Kits c xl h) : Kits c (D :: xl) h := fun E hE => by
  rcases List.mem_cons.mp hE with e | hE
  · rw [e]; exact ⟨a, k⟩
  · exact r E hE
/-! exceptions whose __init__ says super().__init__(x); self.f = x -/
def fSupC (x : Str) (bmB : List Value) (newId : String) : Ft := fun K => match K.lookup (He.ga K x) with
  | some ⟨oc, _, .cls cd, sl⟩ => decide (oc = .type "type") && (decide (cd.mro = .ref (He.ga K x) :: bmB) && (!cd.hasDel && (cd.hasDict && (match sl.toList with
    | [_, _, _, _, some (.builtin n), _] => decide (n = newId)
    | _ => false))))
  | _ => false
def cellB (K : PySem.W.Frag) (cl : List (PySem.Str × Addr)) (C : Addr) : Bool := match cl with
  | [(_, cc)] => (match K.lookup cc with
    | some ⟨_, _, .cell (some v), _⟩ => decide (v = .ref C)
    | _ => false)
  | _ => false
theorem cellB_ok {K : PySem.W.Frag} {cl : List (PySem.Str × Addr)} {C : Addr} (h : cellB K cl C = true) : ∃ y cc a d sl, cl = [(y, cc)] ∧ K.lookup cc = some ⟨a, d, .cell (some (.ref C)), sl⟩ := by
  unfold cellB at h
  split at h
  · rename_i y cc
    split at h
    · rename_i cl cld v csl ecc
      rw [of_decide_eq_true h] at ecc
      exact ⟨y, cc, _, _, _, rfl, ecc⟩
    · cases h
  · cases h
def fileB (K : PySem.W.Frag) (cd : Value) (fl : PySem.Str) : Bool := match cd with
  | .ref cda => (match K.lookup cda with
    | some ⟨_, _, .fields vs, _⟩ => (match (vs[2]? : Option Value) with
      | some (.str file _) => decide (file = fl)
      | _ => false)
    | _ => false)
  | _ => false
theorem fileB_ok {K : PySem.W.Frag} {cd : Value} {fl : PySem.Str} (h : fileB K cd fl = true) : ∃ cda a d vs sl t, cd = .ref cda ∧ K.lookup cda = some ⟨a, d, .fields vs, sl⟩ ∧ vs[2]? = some (.str fl t) := by
  unfold fileB at h
  split at h
  · rename_i cda
    split at h
    · rename_i a d vs sl e
      split at h
      · rename_i file t ev
        rw [of_decide_eq_true h] at ev
        exact ⟨cda, _, _, vs, _, t, rfl, e, ev⟩
      · cases h
    · cases h
  · cases h
def fSupF (x : PySem.Str) (fl : PySem.Str) : Ft := fun K => match K.lookup (meA x "__init__" K) with
  | some ⟨_, _, .func fd, _⟩ => cellB K fd.closure (He.ga K x) && fileB K fd.code fl
  | _ => false
def fSupX (x fld : Str) (B initId : String) (bmB : List Value) : Ft := fun K =>
  findB K (He.ga K x) "__setattr__" (some (.builtin "object.__setattr__")) && (findB K (He.ga K x) fld none && (findB K (He.ga K x) "__init__" (some (.ref (meA x "__init__" K))) &&
  (decide (PySem.W.typeIn K (.ref (meA x "__init__" K)) = some (.type "function")) && (decide (PySem.W.subIn K (.ref (He.ga K x)) (.type B) = some true) && (decide (PySem.W.subIn K (.ref (He.ga K x)) (.ref (He.ga K x)) = some true) &&
  (decide (PySem.W.nsIn K cStatics "thirdparty.any" = some none) && (decide (PySem.W.alongIn K "__init__" bmB = some (some (.builtin initId))) && (PySem.W.keepIn K (.ref (He.ga K x)) && (decide (PySem.W.subIn K (.ref (He.ga K x)) (.type "BaseException") = some true) &&
  (decide (PySem.W.typeIn K (.ref (He.ga K x)) = some (.type "type")) && (PySem.W.hasDictIn K (He.ga K x) && (findB K (He.ga K x) "__getattribute__" (some (.builtin "BaseException.__getattribute__")) && findB K (He.ga K x) "__getattr__" none))))))))))))
theorem fSupC_ok {K : PySem.W.Frag} {x : Str} {bmB : List Value} {newId : String} (h : fSupC x bmB newId K = true) : ∃ nm q N bs sn sub ab col dd k0 k1 k2 k3 k5, K.lookup (He.ga K x) = some (excClassObj nm q (He.ga K x) N bs bmB true sn sub ab col dd k0 k1 k2 k3 k5 newId) := by
  unfold fSupC at h
  split at h
  · rename_i oc dd cd sl e
    obtain ⟨h1, h⟩ := He.ba h
    obtain ⟨h2, h⟩ := He.ba h
    obtain ⟨h3, h⟩ := He.ba h
    obtain ⟨h4, h5⟩ := He.ba h
    obtain ⟨nm, bs, mro, ns, qn, hd, sn, sub, ab, col, del⟩ := cd
    have h1 := of_decide_eq_true h1
    have h2 := of_decide_eq_true h2
    dsimp only at h2 h3 h4
    subst h1 h2 h4
    obtain rfl : del = false := by simpa using h3
    obtain ⟨sl⟩ := sl
    dsimp only at h5
    split at h5
    · rename_i k0 k1 k2 k3 n k5
      rw [of_decide_eq_true h5] at e
      exact ⟨_, _, _, _, _, _, _, _, _, _, _, _, _, _, e⟩
    · cases h5
  · cases h
theorem xs_of {P : Program} {K : PySem.W.Frag} {h : Heap} {mg : Str → Option Value} (X : K.In h) (G : h.Ns mainGlobals mg) {fss : List Ft} {fns : List Dd} (S : SaysM fss fns K) {nm px fld fl qual : Str} {B initId newId : String} {bmB : List Value} {st : Stmt}
    (kf : PySem.W.KxsFacts B initId) (fi : InitF B initId) (nw : NewF bmB newId) (rf : ∀ y C, refuseLoop y "__setattr__" (.ref C :: bmB) = pure ()) (ob : bmB.contains (.type "object") = true)
    (hg : fGlo nm K = true) (hC : fSupC nm bmB newId K = true) (hF : fSupF nm fl K = true) (hX : fSupX nm fld B initId bmB K = true) (hs : fFree "super" K = true)
    (i : Nat) {d : Dd} (hi : fns[i]? = some d) (hn : d.name = "__init__") (hq : d.qual = qual) (hst : d.st = st) (ha : d.ad K = meA nm "__init__" K) (hdf : d.dfl = []) (hsup : d.sup = true)
    (hfile : ((P.main.file : Str) == fl) = true) (top : (P.main.scope.names.lookup ("super" : Str)).isSome = false) :
    XsC P K mg nm (He.ga K nm) (meA nm "__init__" K) B initId newId bmB px fld st := by
  obtain ⟨nm', q, N, bs, sn, sub, ab, col, dd, k0, k1, k2, k3, k5, lk⟩ := fSupC_ok hC
  unfold fSupX at hX
  simp only [Bool.and_eq_true] at hX
  obtain ⟨x1, x2, x3, x4, x5, x6, x7, x8, x9, x10, x11, x12, x13, x14⟩ := hX
  obtain ⟨eU, eO⟩ := S.raw i hi
  rw [ha] at eU
  unfold Dd.ok at eO
  rw [ha] at eO
  obtain ⟨kp, c2⟩ := He.ba eO
  subst hst hq
  refine ⟨PySem.W.mg_of X G (fGlo_ok hg), x9, of_decide_eq_true x10, of_decide_eq_true x11, x12, ⟨kf, fi, ⟨nm', q, N, bs, bmB, sn, sub, ab, col, dd, k0, k1, k2, k3, k5, lk, nw, fun y => rf y _, of_decide_eq_true x8, ob⟩, findB_ok x1, findB_ok x2, findB_ok x3, of_decide_eq_true x4, of_decide_eq_true x5, of_decide_eq_true x6, of_decide_eq_true x7,
    PySem.W.mg_none_of X G (fFree_ok hs), ?_, top⟩, ⟨findB_ok x13, findB_ok x14, of_decide_eq_true x10, x12⟩⟩
  unfold fSupF at hF
  unfold fnU at eU
  generalize meA nm "__init__" K = f at *
  match q2 : K.lookup f with
  | none => rw [q2] at c2; cases c2
  | some ⟨oc, od, dt, osl⟩ =>
    rw [q2] at c2 eU hF
    cases dt with
    | func fd =>
      obtain ⟨n1, n2, n3, n4, n5, n6, n7, n8, n9, n10, n11, n12, n13, n14, n15⟩ := fd
      have e2 : (some (n1, n2, n3, n4, n5, n6, n7.map (·.1), n15) : FnU) = some (d.name, d.qual, defArgs d.st, .stmts (defBody d.st), defScope d.st, mainGlobals, d.cls, builtinsNs) := eU
      have hcl : d.cls = (["__class__"] : List PySem.Str) := by unfold Dd.cls; rw [hsup]; rfl
      rw [hcl, hn] at e2
      simp only [Option.some.injEq, Prod.mk.injEq] at e2
      obtain ⟨h1, h2, h3, h4, h5, h6, h7, h8⟩ := e2
      subst h1 h2 h3 h4 h5 h6 h8
      obtain ⟨k1, k2⟩ := He.ba (show (PySem.W.codeIn K n13 d.qual && (He.dflB K n8 (d.dvs K) && He.kwdB K n9 (d.kws K))) = true from c2)
      obtain ⟨k3, k4⟩ := He.ba k2
      have hdv : d.dvs K = [] := by unfold Dd.dvs; rw [hdf]; rfl
      rw [hdv] at k3
      have h8n : n8 = .none := by
        rcases He.dflB_ok k3 with ⟨_, e⟩ | ⟨e, _⟩
        · exact e
        · exact absurd rfl e
      subst h8n
      obtain ⟨f1, f2⟩ := He.ba (show (cellB K n7 (He.ga K nm) && fileB K n13 fl) = true from hF)
      obtain ⟨y, cc, _, _, _, rfl, ecc⟩ := cellB_ok f1
      obtain ⟨cda, _, _, vs, _, tf, rfl, ecd, ev⟩ := fileB_ok f2
      obtain rfl : y = "__class__" := by simpa using h7
      exact ⟨_, _, _, _, _, cda, _, _, _, cc, _, _, _, _, _, _, _, _, fl, tf, rfl, k1, ecd, ev, hfile, ecc⟩
    | _ => cases c2
/-! ### makers of lambdas -/
theorem code_of {K : PySem.W.Frag} {x qual : PySem.Str} {params : Arguments} {body : List Stmt} {scope : Scope} {dvs : List V} {kws : List (PySem.Str × V)} {f : Addr} {fd : FuncData} (F : FunD K x qual params body scope dvs kws f fd) : fd.code = .ref (codeA K f) := by
  obtain ⟨oc, od, dV, kV, doc, pm, an, cdv, ct, osl, rfl, lk, hcd, _⟩ := F.ex
  obtain ⟨c, rfl⟩ := He.codeIn_ref hcd
  unfold codeA
  have lk : K.lookup f = some _ := lk
  rw [lk]
def fNeA (p q : PySem.W.Frag → Addr) : Ft := fun K => decide (p K ≠ q K)
theorem fNeA_ok {K : PySem.W.Frag} {p q : PySem.W.Frag → Addr} (h : fNeA p q K = true) : p K ≠ q K := of_decide_eq_true h
def fAny (p : PySem.W.Frag → Bool) : Ft := p
theorem xm_ok {K : PySem.W.Frag} {h : Heap} {mg : PySem.Str → Option Value} (X : K.In h) (G : h.Ns mainGlobals mg) {x : PySem.Str} (c : fGlo x K = true) : mg x = some (.ref (He.ga K x)) := PySem.W.mg_of X G (fGlo_ok c)
/-! f-strings of own instances -/
def fFmt (x : PySem.Str) : Ft := fun K => findB K (He.ga K x) "__format__" (some (.builtin "object.__format__")) && decide (PySem.W.mroIn K (He.ga K x) (.type "object") = some true)
theorem fFmt_ok {K : PySem.W.Frag} {x : PySem.Str} (h : fFmt x K = true) : PySem.W.findIn K (.ref (He.ga K x)) "__format__" = some (some (.builtin "object.__format__")) ∧ PySem.W.mroIn K (He.ga K x) (.type "object") = some true := by
  unfold fFmt at h
  obtain ⟨h1, h2⟩ := He.ba h
  exact ⟨findB_ok h1, of_decide_eq_true h2⟩
theorem fms_nil {c : Kc} : Fms c [] := fun C Pre h => nomatch h
theorem fms_cons {c : Kc} {ms : Ms} {C : Nat} {Pre : PreX} (a : PySem.W.findIn c.K (.ref (c.ca C)) "__format__" = some (some (.builtin "object.__format__")) ∧ PySem.W.mroIn c.K (c.ca C) (.type "object") = some true) (h : Fms c ms) : Fms c ((C, Pre) :: ms) := fun D Q e => by
  rw [List.lookup_cons] at e
  split at e
  · rename_i q
    rw [beq_iff_eq.mp q]
    exact a
  · exact h D Q e
end Mw

set_option Elab.async false
set_option linter.all false
set_option maxRecDepth 100000
set_option maxHeartbeats 4000000
namespace Mw
open PySem PySem.Spec PyProof.Rows L2

def B_part_places : SM := (seqW (ifSW (testW (opW eqD (vW 0) (cW (.str "all")))) (retW (rgLW (vW 1))) passW) (seqW (asgW (bmW "str" splitD (vW 0) (consW (cW (.str "..")) nilW)) (fun d ss R => iLstD d fun l => l.length = 2 ∧ (gConsW (gN 4) (gConsW (gN 5) gNilW)) l ss R)) (seqW (asgW (lcW (itAW enumSD (consW (vW 4) nilW)) [7, 8] (fun d ss R => iTupD d fun l => l.length = 2 ∧ (gConsW (gN 7) (gConsW (gN 8) gNilW)) l ss R) (testW (opW eqD (vW 8) (cW (.str "+")))) (vW 7)) (gN 2)) (seqW (asgW (lstW (starW (vW 2) (starW (lcW (itAW enumSD (consW (vW 5) nilW)) [7, 8] (fun d ss R => iTupD d fun l => l.length = 2 ∧ (gConsW (gN 7) (gConsW (gN 8) gNilW)) l ss R) (testW (opW eqD (vW 8) (cW (.str "+")))) (opW addD (opW subD (vW 1) (cbW lenD (consW (vW 5) nilW))) (vW 7))) nilW))) (gN 3)) (retW (lcW (itAW rng1D (consW (vW 1) nilW)) [6] (gN 6) (testW (opW (inD false) (vW 6) (vW 3))) (vW 6)))))))
@[irreducible] def W_part_places : PreX := defW 2 9 B_part_places
theorem W_part_places_eq : W_part_places = defW 2 9 B_part_places := by unfold W_part_places; rfl
def B_chain_places : SM := (seqW (asgW (rgLW (vW 1)) (gN 2)) (seqW (forW (itW iAnyD (vW 0)) (gN 3) (asgW (lcW (itW iAnyD (callW W_part_places (consW (vW 3) (consW (cbW lenD (consW (vW 2) nilW)) nilW)))) [4] (gN 4) yesW (opW ixD (vW 2) (vW 4))) (gN 2))) (retW (cbW tupD (consW (vW 2) nilW)))))
@[irreducible] def W_chain_places : PreX := defW 2 5 B_chain_places
theorem W_chain_places_eq : W_chain_places = defW 2 5 B_chain_places := by unfold W_chain_places; rfl
def B_are_signs : SM := (retW (avW (opW leD (cbW lenD (consW (vW 0) nilW)) (vW 1)) (cbW allD (consW (lcW (itW iAnyD (vW 0)) [2] (gN 2) yesW (opW (inD false) (vW 2) (cW (.str "+-")))) nilW))))
@[irreducible] def W_are_signs : PreX := defW 2 3 B_are_signs
theorem W_are_signs_eq : W_are_signs = defW 2 3 B_are_signs := by unfold W_are_signs; rfl
def B_is_part : SM := (seqW (ifSW (notW (testW (cbW isiD (consW (vW 0) (consW (cW (.ty "str")) nilW))))) (retW (cW (.bl false))) passW) (seqW (asgW (bmW "str" splitD (vW 0) (consW (cW (.str "..")) nilW)) (gN 1)) (retW (ovW (opW eqD (vW 0) (cW (.str "all"))) (avW (opW eqD (cbW lenD (consW (vW 1) nilW)) (cW (.int 2))) (avW (callW W_are_signs (consW (opW ixD (vW 1) (cW (.int 0))) (consW (cW (.int 2)) nilW))) (callW W_are_signs (consW (opW ixD (vW 1) (cW (.int 1))) (consW (cW (.int 3)) nilW)))))))))
@[irreducible] def W_is_part : PreX := defW 1 2 B_is_part
theorem W_is_part_eq : W_is_part = defW 1 2 B_is_part := by unfold W_is_part; rfl
def B_Cutter___init__ : SM := (seqW (asgW (avW (opW eqD (cbW lenD (consW (vW 1) nilW)) (cW (.int 1))) (cbW isiD (consW (opW ixD (vW 1) (cW (.int 0))) (consW (cW (.cls 20)) nilW)))) (gN 2)) (seqW (asgW (ifW (testW (vW 2)) (fldW [20, 21] "own_parts" (opW ixD (vW 1) (cW (.int 0)))) (vW 1)) (gN 3)) (seqW (ifSW (andW (notW (testW (vW 2))) (orW (notW (testW (cbW allD (consW (lcW (itW iAnyD (vW 3)) [5] (gN 5) yesW (callW W_is_part (consW (vW 5) nilW))) nilW)))) (testW (opW gtD (cbW lenD (consW (vW 3) nilW)) (cW (.int 4)))))) (raise0W 1) passW) (seqW (sfldW [20, 21] "own_parts" 0 (vW 3)) (seqW (sfldW [21] "own_tables" 0 (cbW tupD (consW (lcW (itAW rng1D (consW (opW addD (cW (.int 5)) (cW (.int 1))) nilW)) [4] (gN 4) yesW (callW W_chain_places (consW (vW 3) (consW (vW 4) nilW)))) nilW))) (sfldW [21] "own_is_whole" 0 (cbW allD (consW (lcW (itW iAnyD (vW 3)) [5] (gN 5) yesW (opW eqD (vW 5) (cW (.str "all")))) nilW))))))))
@[irreducible] def W_Cutter___init__ : PreI := initSW 6 21 B_Cutter___init__
theorem W_Cutter___init___eq : W_Cutter___init__ = initSW 6 21 B_Cutter___init__ := by unfold W_Cutter___init__; rfl
def B_Cutter_of : SM := (seqW (ifSW (notW (testW (cbW isiD (consW (vW 1) (consW (cW (.ty "tuple")) nilW))))) (raise0W 1) passW) (retW (mkcW 21 W_Cutter___init__ (vW 0) (starW (vW 1) nilW))))
@[irreducible] def W_Cutter_of : PreX := defW 2 2 B_Cutter_of
theorem W_Cutter_of_eq : W_Cutter_of = defW 2 2 B_Cutter_of := by unfold W_Cutter_of; rfl
def B_is_ascending : SM := (retW (cbW allD (consW (lcW (itAW zipD (consW (vW 0) (consW (slW slD (vW 0) (soW (cW (.int 1))) noW) nilW))) [1, 2] (fun d ss R => iTupD d fun l => l.length = 2 ∧ (gConsW (gN 1) (gConsW (gN 2) gNilW)) l ss R) yesW (opW ltAD (vW 1) (vW 2))) nilW)))
@[irreducible] def W_is_ascending : PreX := defW 1 3 B_is_ascending
theorem W_is_ascending_eq : W_is_ascending = defW 1 3 B_is_ascending := by unfold W_is_ascending; rfl
def B_is_name : SM := (retW (avW (cbW isiD (consW (vW 0) (consW (cW (.ty "str")) nilW))) (avW (chainW leD leD (cW (.int 1)) (cbW lenD (consW (vW 0) nilW)) (cW (.int 8))) (cbW allD (consW (lcW (itW iAnyD (vW 0)) [1] (gN 1) yesW (opW (inD false) (vW 1) (cW (.str "abcdefghijklmnopqrstuvwxyz")))) nilW)))))
@[irreducible] def W_is_name : PreX := defW 1 2 B_is_name
theorem W_is_name_eq : W_is_name = defW 1 2 B_is_name := by unfold W_is_name; rfl
def B_are_people : SM := (seqW (ifSW (orW (notW (testW (cbW isiD (consW (vW 0) (consW (cW (.ty "tuple")) nilW))))) (notW (testW (chainW leD leD (cW (.int 1)) (cbW lenD (consW (vW 0) nilW)) (cW (.int 4)))))) (retW (cW (.bl false))) passW) (retW (avW (cbW allD (consW (lcW (itW iAnyD (vW 0)) [1] (gN 1) yesW (callW W_is_name (consW (vW 1) nilW))) nilW)) (callW W_is_ascending (consW (vW 0) nilW)))))
@[irreducible] def W_are_people : PreX := defW 1 2 B_are_people
theorem W_are_people_eq : W_are_people = defW 1 2 B_are_people := by unfold W_are_people; rfl
def B_are_copies : SM := (seqW (ifSW (orW (notW (testW (cbW isiD (consW (vW 0) (consW (cW (.ty "dict")) nilW))))) (notW (testW (cbW allD (consW (lcW (itW valsOfD (vW 0)) [3] (gN 3) yesW (cbW isiD (consW (vW 3) (consW (cW (.cls 21)) nilW)))) nilW))))) (retW (cW (.bl false))) passW) (retW (cbW allD (consW (lcW (itW iAllD (vW 0)) [2] (gN 2) yesW (avW (cbW isiD (consW (vW 2) (consW (cW (.ty "str")) nilW))) (opW (inD false) (vW 2) (vW 1)))) nilW))))
@[irreducible] def W_are_copies : PreX := defW 2 4 B_are_copies
theorem W_are_copies_eq : W_are_copies = defW 2 4 B_are_copies := by unfold W_are_copies; rfl
def B_in_order : SM := (retW (dcTW (itW iAnyD (cbW sortAD (consW (cbW listAD (consW (vW 0) nilW)) nilW))) [1] (gN 1) yesW (vW 1) (dgetW (vW 0) (vW 1))))
@[irreducible] def W_in_order : PreX := defW 1 2 B_in_order
theorem W_in_order_eq : W_in_order = defW 1 2 B_in_order := by unfold W_in_order; rfl
def B_are_some : SM := (seqW (ifSW (orW (notW (testW (cbW isiD (consW (vW 0) (consW (cW (.ty "tuple")) nilW))))) (notW (testW (cbW allD (consW (lcW (itW iAnyD (vW 0)) [2] (gN 2) yesW (avW (cbW isiD (consW (vW 2) (consW (cW (.ty "str")) nilW))) (opW (inD false) (vW 2) (vW 1)))) nilW))))) (retW (cW (.bl false))) passW) (retW (callW W_is_ascending (consW (vW 0) nilW))))
@[irreducible] def W_are_some : PreX := defW 2 3 B_are_some
theorem W_are_some_eq : W_are_some = defW 2 3 B_are_some := by unfold W_are_some; rfl
def B_is_pair : SM := (seqW (ifSW (orW (notW (testW (cbW isiD (consW (vW 0) (consW (cW (.ty "tuple")) nilW))))) (testW (opW neD (cbW lenD (consW (vW 0) nilW)) (cW (.int 2))))) (retW (cW (.bl false))) passW) (retW (cbW allD (consW (lcW (itW iAnyD (vW 0)) [2] (gN 2) yesW (avW (cbW isiD (consW (vW 2) (consW (cW (.ty "str")) nilW))) (opW (inD false) (vW 2) (vW 1)))) nilW))))
@[irreducible] def W_is_pair : PreX := defW 2 3 B_is_pair
theorem W_is_pair_eq : W_is_pair = defW 2 3 B_is_pair := by unfold W_is_pair; rfl
def B_is_turn : SM := (seqW (ifSW (orW (notW (testW (cbW isiD (consW (vW 0) (consW (cW (.ty "tuple")) nilW))))) (testW (opW neD (cbW lenD (consW (vW 0) nilW)) (cW (.int 3))))) (retW (cW (.bl false))) passW) (seqW (asgW (vW 0) (fun d ss R => iTupD d fun l => l.length = 3 ∧ (gConsW (gN 1) (gConsW (gN 2) (gConsW (gN 3) gNilW))) l ss R)) (retW (avW (cbW isiD (consW (vW 1) (consW (cW (.cls 21)) nilW))) (avW (cbW isiD (consW (vW 2) (consW (cW (.ty "bool")) nilW))) (cbW isiD (consW (vW 3) (consW (cW (.cls 21)) nilW))))))))
@[irreducible] def W_is_turn : PreX := defW 1 4 B_is_turn
theorem W_is_turn_eq : W_is_turn = defW 1 4 B_is_turn := by unfold W_is_turn; rfl
def B_are_turns : SM := (seqW (ifSW (notW (testW (cbW isiD (consW (vW 0) (consW (cW (.ty "dict")) nilW))))) (retW (cW (.bl false))) passW) (retW (cbW allD (consW (lcW (itW itemsOfD (vW 0)) [2, 3] (fun d ss R => iTupD d fun l => l.length = 2 ∧ (gConsW (gN 2) (gConsW (gN 3) gNilW)) l ss R) yesW (avW (callW W_is_pair (consW (vW 2) (consW (vW 1) nilW))) (callW W_is_turn (consW (vW 3) nilW)))) nilW))))
@[irreducible] def W_are_turns : PreX := defW 2 4 B_are_turns
theorem W_are_turns_eq : W_are_turns = defW 2 4 B_are_turns := by unfold W_are_turns; rfl
def B_Company___init__ : SM := (seqW (ifSW (notW (testW (callW W_are_people (consW (vW 1) nilW)))) (raise0W 2) passW) (seqW (asgW (lstW (consW (vW 2) (consW (ifW (testW (opW isD (vW 3) (cW (.non)))) dnewW (vW 3)) nilW))) (gN 6)) (seqW (ifSW (notW (testW (cbW allD (consW (lcW (itW iAnyD (vW 6)) [8] (gN 8) yesW (callW W_are_turns (consW (vW 8) (consW (vW 1) nilW)))) nilW)))) (raise0W 2) passW) (seqW (ifSW (andW (testW (opW isntD (vW 4) (cW (.non)))) (notW (testW (callW W_are_some (consW (vW 4) (consW (vW 1) nilW)))))) (raise0W 2) passW) (seqW (asgW (ifW (testW (opW isD (vW 5) (cW (.non)))) dnewW (vW 5)) (gN 7)) (seqW (ifSW (notW (testW (callW W_are_copies (consW (vW 7) (consW (vW 1) nilW))))) (raise0W 2) passW) (seqW (sfldW [22] "own_people" 0 (vW 1)) (seqW (sfldsW [22] ["own_answers", "own_takings"] 0 (lcW (itW iAnyD (vW 6)) [8] (gN 8) yesW (callW W_in_order (consW (vW 8) nilW)))) (seqW (sfldW [22] "own_starts" 0 (ifW (testW (opW isD (vW 4) (cW (.non)))) (vW 1) (vW 4))) (sfldW [22] "own_copies" 0 (dcW (itW iAnyD (vW 1)) [9] (gN 9) yesW (vW 9) (dget2W (vW 7) (vW 9) (makeW 21 W_Cutter___init__ nilW)))))))))))))
@[irreducible] def W_Company___init__ : PreI := initW 5 10 22 B_Company___init__
theorem W_Company___init___eq : W_Company___init__ = initW 5 10 22 B_Company___init__ := by unfold W_Company___init__; rfl
def B_require_company : SM := (ifSW (notW (testW (cbW isiD (consW (vW 0) (consW (cW (.cls 22)) nilW))))) (raise0W 2) passW)
@[irreducible] def W_require_company : PreX := defW 1 1 B_require_company
theorem W_require_company_eq : W_require_company = defW 1 1 B_require_company := by unfold W_require_company; rfl
def B_turn_behind : SM := (seqW (asgW (vW 2) (fun d ss R => iTupD d fun l => l.length = 3 ∧ (gConsW (gN 4) (gConsW (gN 5) (gConsW (gN 6) gNilW))) l ss R)) (seqW (asgW (ifW (testW (vW 6)) (fldW [22] "own_takings" (vW 0)) (fldW [22] "own_answers" (vW 0))) (gN 3)) (retW (dget1W (vW 3) (tupW (consW (opW ixD (opW ixD (vW 1) (vW 5)) (cW (.int 0))) (consW (vW 4) nilW)))))))
@[irreducible] def W_turn_behind : PreX := defW 3 7 B_turn_behind
theorem W_turn_behind_eq : W_turn_behind = defW 3 7 B_turn_behind := by unfold W_turn_behind; rfl
def B_kept_places : SM := (seqW (ifSW (testW (opW leD (vW 1) (cW (.int 5)))) (retW (opW ixD (fldW [21] "own_tables" (vW 0)) (vW 1))) passW) (seqW (ifSW (testW (fldW [21] "own_is_whole" (vW 0))) (retW (rgTW (vW 1))) passW) (retW (cbW tupD (consW (lcW (itW iAnyD (opW ixD (fldW [21] "own_tables" (vW 0)) (cW (.int 5)))) [2] (gN 2) yesW (ifW (testW (opW ltD (vW 2) (cW (.int 2)))) (vW 2) (opW addD (opW subD (vW 1) (cW (.int 5))) (vW 2)))) nilW)))))
@[irreducible] def W_kept_places : PreX := defW 2 3 B_kept_places
theorem W_kept_places_eq : W_kept_places = defW 2 3 B_kept_places := by unfold W_kept_places; rfl
def B_cut : SM := (retW (cbW tupD (consW (lcW (itW iAnyD (callW W_kept_places (consW (vW 0) (consW (cbW lenD (consW (vW 1) nilW)) nilW)))) [2] (gN 2) yesW (opW ixD (vW 1) (vW 2))) nilW)))
@[irreducible] def W_cut : PreX := defW 2 3 B_cut
theorem W_cut_eq : W_cut = defW 2 3 B_cut := by unfold W_cut; rfl
def B_lists_in : SM := (seqW (newLW 2 nilW) (seqW (forW (itW iAnyD (vW 1)) (gN 3) (seqW (ifSW (testW (opW isD (opW ixD (vW 3) (cW (.int 1))) (cW (.non)))) (seqW (appW 2 (consW (tupW nilW) nilW)) cntW) passW) (seqW (asgW (callW W_turn_behind (consW (vW 0) (consW (vW 1) (consW (vW 3) nilW)))) (fun d ss R => iTupD d fun l => l.length = 3 ∧ (gConsW (gN 5) (gConsW (gN 6) (gConsW (gN 7) gNilW))) l ss R)) (seqW (asgW (callW W_cut (consW (vW 5) (consW (ixOW 2 (opW ixD (vW 3) (cW (.int 1)))) nilW))) (gN 4)) (appW 2 (consW (callW W_cut (consW (vW 7) (consW (ifW (testW (vW 6)) (tupW (starW (vW 4) (consW (opW ixD (vW 3) (cW (.int 1))) nilW))) (vW 4)) nilW))) nilW)))))) (tellW 2 (retW (cbW tupD (consW (vW 2) nilW))))))
@[irreducible] def W_lists_in : PreX := defW 2 8 B_lists_in
theorem W_lists_in_eq : W_lists_in = defW 2 8 B_lists_in := by unfold W_lists_in; rfl
def B_talks_in : SM := (seqW (newLW 1 nilW) (seqW (forW (itAW enumTD (consW (vW 0) nilW)) (fun d ss R => iTupD d fun l => l.length = 2 ∧ (gConsW (gN 2) (gConsW (fun d ss R => iTupD d fun l => l.length = 3 ∧ (gConsW (gN 3) (gConsW (gN 4) (gConsW (gN 5) gNilW))) l ss R) gNilW)) l ss R) (appW 1 (consW (ifW (testW (vW 5)) (vW 2) (ixOW 1 (vW 4))) nilW))) (tellW 1 (retW (cbW tupD (consW (vW 1) nilW))))))
@[irreducible] def W_talks_in : PreX := defW 1 6 B_talks_in
theorem W_talks_in_eq : W_talks_in = defW 1 6 B_talks_in := by unfold W_talks_in; rfl
def B_is_integer : SM := (retW (avW (cbW isiD (consW (vW 0) (consW (cW (.ty "int")) nilW))) (nvW (cbW isiD (consW (vW 0) (consW (cW (.ty "bool")) nilW))))))
@[irreducible] def W_is_integer : PreX := defW 1 1 B_is_integer
theorem W_is_integer_eq : W_is_integer = defW 1 1 B_is_integer := by unfold W_is_integer; rfl
def B_is_letter : SM := (seqW (ifSW (orW (notW (testW (cbW isiD (consW (vW 2) (consW (cW (.ty "tuple")) nilW))))) (testW (opW neD (cbW lenD (consW (vW 2) nilW)) (cW (.int 3))))) (retW (cW (.bl false))) passW) (seqW (asgW (vW 2) (fun d ss R => iTupD d fun l => l.length = 3 ∧ (gConsW (gN 3) (gConsW (gN 4) (gConsW (gN 5) gNilW))) l ss R)) (seqW (ifSW (orW (notW (testW (cbW isiD (consW (vW 3) (consW (cW (.ty "str")) nilW))))) (orW (testW (opW (inD true) (vW 3) (fldW [22] "own_people" (vW 0)))) (notW (testW (cbW isiD (consW (vW 5) (consW (cW (.ty "bool")) nilW))))))) (retW (cW (.bl false))) passW) (seqW (ifSW (testW (opW isD (vW 4) (cW (.non)))) (retW (avW (vW 5) (opW (inD false) (vW 3) (fldW [22] "own_starts" (vW 0))))) passW) (seqW (ifSW (orW (notW (testW (callW W_is_integer (consW (vW 4) nilW)))) (notW (testW (chainW leD ltD (cW (.int 0)) (vW 4) (cbW lenD (consW (vW 1) nilW)))))) (retW (cW (.bl false))) passW) (retW (opW isntD (callW W_turn_behind (consW (vW 0) (consW (vW 1) (consW (vW 2) nilW)))) (cW (.non)))))))))
@[irreducible] def W_is_letter : PreX := defW 3 6 B_is_letter
theorem W_is_letter_eq : W_is_letter = defW 3 6 B_is_letter := by unfold W_is_letter; rfl
def B_are_letters : SM := (seqW (forW (itAW enumTD (consW (vW 1) nilW)) (fun d ss R => iTupD d fun l => l.length = 2 ∧ (gConsW (gN 2) (gConsW (gN 3) gNilW)) l ss R) (ifSW (notW (testW (callW W_is_letter (consW (vW 0) (consW (slW slD (vW 1) noW (soW (vW 2))) (consW (vW 3) nilW)))))) (retW (cW (.bl false))) passW)) (retW (cW (.bl true))))
@[irreducible] def W_are_letters : PreX := defW 2 4 B_are_letters
theorem W_are_letters_eq : W_are_letters = defW 2 4 B_are_letters := by unfold W_are_letters; rfl
def B_checked : SM := (seqW (ifSW (orW (testW (opW gtD (cbW lenD (consW (vW 1) nilW)) (cW (.int 40)))) (notW (testW (callW W_are_letters (consW (vW 0) (consW (vW 1) nilW)))))) (raise0W 3) passW) (retW (vW 1)))
@[irreducible] def W_checked : PreX := defW 2 2 B_checked
theorem W_checked_eq : W_checked = defW 2 2 B_checked := by unfold W_checked; rfl
def B_Bundle___init__ : SM := (seqW (exprW (callW W_require_company (consW (vW 1) nilW))) (seqW (asgW (avW (opW eqD (cbW lenD (consW (vW 2) nilW)) (cW (.int 1))) (cbW isiD (consW (opW ixD (vW 2) (cW (.int 0))) (consW (cW (.cls 23)) nilW)))) (gN 3)) (seqW (sfldW [24] "own_company" 0 (vW 1)) (seqW (sfldW [23, 24] "own_letters" 0 (ifW (testW (vW 3)) (fldW [23, 24] "own_letters" (opW ixD (vW 2) (cW (.int 0)))) (callW W_checked (consW (vW 1) (consW (vW 2) nilW))))) (seqW (sfldW [24] "own_lists" 0 (callW W_lists_in (consW (vW 1) (consW (sfW [23, 24] "own_letters" 0) nilW)))) (sfldW [24] "own_talks" 0 (callW W_talks_in (consW (sfW [23, 24] "own_letters" 0) nilW))))))))
@[irreducible] def W_Bundle___init__ : PreI := initSnW 1 4 24 B_Bundle___init__
theorem W_Bundle___init___eq : W_Bundle___init__ = initSnW 1 4 24 B_Bundle___init__ := by unfold W_Bundle___init__; rfl
def B_require_cutter : SM := (ifSW (notW (testW (cbW isiD (consW (vW 0) (consW (cW (.cls 21)) nilW))))) (raise0W 1) passW)
@[irreducible] def W_require_cutter : PreX := defW 1 1 B_require_cutter
theorem W_require_cutter_eq : W_require_cutter = defW 1 1 B_require_cutter := by unfold W_require_cutter; rfl
def B_Rule___init__ : SM := (seqW (exprW (callW W_require_cutter (consW (vW 1) nilW))) (seqW (ifSW (notW (testW (cbW isiD (consW (vW 2) (consW (cW (.ty "bool")) nilW))))) (raise0W 4) passW) (seqW (sfldW [25] "own_cutter" 0 (vW 1)) (sfldW [25] "own_sees" 0 (vW 2)))))
@[irreducible] def W_Rule___init__ : PreI := initW 2 3 25 B_Rule___init__
theorem W_Rule___init___eq : W_Rule___init__ = initW 2 3 25 B_Rule___init__ := by unfold W_Rule___init__; rfl
def B_Cutter___str__ : SM := (seqW (ifSW (testW (opW eqD (fldW [20, 21] "own_parts" (vW 0)) (tupW nilW))) (retW (cW (.str "all"))) passW) (retW (bmW "str" joinD (cW (.str " > ")) (consW (fldW [20, 21] "own_parts" (vW 0)) nilW))))
@[irreducible] def W_Cutter___str__ : PreX := defW 1 1 B_Cutter___str__
theorem W_Cutter___str___eq : W_Cutter___str__ = defW 1 1 B_Cutter___str__ := by unfold W_Cutter___str__; rfl
def B_Rule___str__ : SM := (seqW (ifSW (testW (fldW [25] "own_sees" (vW 0))) (retW (jsW [(cW (.str "seeing rule ")), (fmtOW [(21, W_Cutter___str__)] (fldW [25] "own_cutter" (vW 0)))])) passW) (retW (jsW [(cW (.str "rule ")), (fmtOW [(21, W_Cutter___str__)] (fldW [25] "own_cutter" (vW 0)))])))
@[irreducible] def W_Rule___str__ : PreX := defW 1 1 B_Rule___str__
theorem W_Rule___str___eq : W_Rule___str__ = defW 1 1 B_Rule___str__ := by unfold W_Rule___str__; rfl
def B_Cutter_parts : SM := (retW (fldW [20, 21] "own_parts" (vW 0)))
@[irreducible] def W_Cutter_parts : PreX := defW 1 1 B_Cutter_parts
theorem W_Cutter_parts_eq : W_Cutter_parts = defW 1 1 B_Cutter_parts := by unfold W_Cutter_parts; rfl
def B_require_bundle : SM := (ifSW (notW (testW (cbW isiD (consW (vW 0) (consW (cW (.cls 24)) nilW))))) (raise0W 3) passW)
@[irreducible] def W_require_bundle : PreX := defW 1 1 B_require_bundle
theorem W_require_bundle_eq : W_require_bundle = defW 1 1 B_require_bundle := by unfold W_require_bundle; rfl
def B_is_mark_of : SM := (retW (avW (callW W_is_integer (consW (vW 1) nilW)) (chainW leD ltD (cW (.int 0)) (vW 1) (cbW lenD (consW (fldW [23, 24] "own_letters" (vW 0)) nilW)))))
@[irreducible] def W_is_mark_of : PreX := defW 2 2 B_is_mark_of
theorem W_is_mark_of_eq : W_is_mark_of = defW 2 2 B_is_mark_of := by unfold W_is_mark_of; rfl
def B_require_mark : SM := (ifSW (notW (testW (callW W_is_mark_of (consW (vW 0) (consW (vW 1) nilW))))) (raiseSW 11 "name" (consW (vW 1) nilW)) passW)
@[irreducible] def W_require_mark : PreX := defW 2 2 B_require_mark
theorem W_require_mark_eq : W_require_mark = defW 2 2 B_require_mark := by unfold W_require_mark; rfl
def B_bound_row : SM := (retW (callW W_cut (consW (fldW [25] "own_cutter" (vW 0)) (consW (callW W_cut (consW (dgetW (fldW [22] "own_copies" (vW 1)) (vW 2)) (consW (vW 3) nilW))) nilW))))
@[irreducible] def W_bound_row : PreX := defW 4 4 B_bound_row
theorem W_bound_row_eq : W_bound_row = defW 4 4 B_bound_row := by unfold W_bound_row; rfl
def B_Rule_bound : SM := (seqW (exprW (callW W_require_bundle (consW (vW 1) nilW))) (seqW (exprW (callW W_require_mark (consW (vW 1) (consW (vW 2) nilW)))) (retW (callW W_bound_row (consW (vW 0) (consW (fldW [24] "own_company" (vW 1)) (consW (opW ixD (opW ixD (fldW [23, 24] "own_letters" (vW 1)) (vW 2)) (cW (.int 0))) (consW (opW ixD (fldW [24] "own_lists" (vW 1)) (vW 2)) nilW))))))))
@[irreducible] def W_Rule_bound : PreX := defW 3 3 B_Rule_bound
theorem W_Rule_bound_eq : W_Rule_bound = defW 3 3 B_Rule_bound := by unfold W_Rule_bound; rfl
def B_Rule_cutter : SM := (retW (fldW [25] "own_cutter" (vW 0)))
@[irreducible] def W_Rule_cutter : PreX := defW 1 1 B_Rule_cutter
theorem W_Rule_cutter_eq : W_Rule_cutter = defW 1 1 B_Rule_cutter := by unfold W_Rule_cutter; rfl
def B_Bundle_letters : SM := (retW (fldW [23, 24] "own_letters" (vW 0)))
@[irreducible] def W_Bundle_letters : PreX := defW 1 1 B_Bundle_letters
theorem W_Bundle_letters_eq : W_Bundle_letters = defW 1 1 B_Bundle_letters := by unfold W_Bundle_letters; rfl
def B_Bundle___len__ : SM := (retW (cbW lenD (consW (fldW [23, 24] "own_letters" (vW 0)) nilW)))
@[irreducible] def W_Bundle___len__ : PreX := defW 1 1 B_Bundle___len__
theorem W_Bundle___len___eq : W_Bundle___len__ = defW 1 1 B_Bundle___len__ := by unfold W_Bundle___len__; rfl
def B_Company_people : SM := (retW (fldW [22] "own_people" (vW 0)))
@[irreducible] def W_Company_people : PreX := defW 1 1 B_Company_people
theorem W_Company_people_eq : W_Company_people = defW 1 1 B_Company_people := by unfold W_Company_people; rfl
def B_Cutter_is_within : SM := (seqW (exprW (callW W_require_cutter (consW (vW 1) nilW))) (retW (cbW allD (consW (lc2W (itAW rng1D (consW (opW addD (cW (.int 5)) (cW (.int 2))) nilW)) [2, 3] (gN 2) yesW (itW iAnyD (callW W_kept_places (consW (vW 0) (consW (vW 2) nilW)))) [3] (gN 3) yesW (opW (inD false) (vW 3) (callW W_kept_places (consW (vW 1) (consW (vW 2) nilW))))) nilW))))
@[irreducible] def W_Cutter_is_within : PreX := defW 2 4 B_Cutter_is_within
theorem W_Cutter_is_within_eq : W_Cutter_is_within = defW 2 4 B_Cutter_is_within := by unfold W_Cutter_is_within; rfl
def B_require_rule : SM := (ifSW (notW (testW (cbW isiD (consW (vW 0) (consW (cW (.cls 25)) nilW))))) (raise0W 4) passW)
@[irreducible] def W_require_rule : PreX := defW 1 1 B_require_rule
theorem W_require_rule_eq : W_require_rule = defW 1 1 B_require_rule := by unfold W_require_rule; rfl
def B_Rule_is_within : SM := (seqW (exprW (callW W_require_rule (consW (vW 1) nilW))) (retW (avW (methW [(21, W_Cutter_is_within)] "is_within" (fldW [25] "own_cutter" (vW 0)) (consW (fldW [25] "own_cutter" (vW 1)) nilW)) (ovW (fldW [25] "own_sees" (vW 1)) (nvW (fldW [25] "own_sees" (vW 0)))))))
@[irreducible] def W_Rule_is_within : PreX := defW 2 2 B_Rule_is_within
theorem W_Rule_is_within_eq : W_Rule_is_within = defW 2 2 B_Rule_is_within := by unfold W_Rule_is_within; rfl
def B_require_person : SM := (ifSW (orW (notW (testW (cbW isiD (consW (vW 1) (consW (cW (.ty "str")) nilW))))) (testW (opW (inD true) (vW 1) (fldW [22] "own_people" (vW 0))))) (raiseSW 11 "name" (consW (vW 1) nilW)) passW)
@[irreducible] def W_require_person : PreX := defW 2 2 B_require_person
theorem W_require_person_eq : W_require_person = defW 2 2 B_require_person := by unfold W_require_person; rfl
def B_Known_cutters___init__ : SM := (sfldW [20, 21] "own_parts" 0 (vW 1))
@[irreducible] def W_Known_cutters___init__ : PreI := initW 1 2 20 B_Known_cutters___init__
theorem W_Known_cutters___init___eq : W_Known_cutters___init__ = initW 1 2 20 B_Known_cutters___init__ := by unfold W_Known_cutters___init__; rfl
def B_chained : SM := (retW (makeW 21 W_Cutter___init__ (consW (makeW 20 W_Known_cutters___init__ (consW (tupW (starW (fldW [20, 21] "own_parts" (vW 0)) (starW (fldW [20, 21] "own_parts" (vW 1)) nilW))) nilW)) nilW)))
@[irreducible] def W_chained : PreX := defW 2 2 B_chained
theorem W_chained_eq : W_chained = defW 2 2 B_chained := by unfold W_chained; rfl
def B_through_in : SM := (retW (callW W_chained (consW (dgetW (fldW [22] "own_copies" (vW 1)) (vW 2)) (consW (fldW [25] "own_cutter" (vW 0)) nilW))))
@[irreducible] def W_through_in : PreX := defW 3 3 B_through_in
theorem W_through_in_eq : W_through_in = defW 3 3 B_through_in := by unfold W_through_in; rfl
def B_Rule_through : SM := (seqW (exprW (callW W_require_company (consW (vW 1) nilW))) (seqW (exprW (callW W_require_person (consW (vW 1) (consW (vW 2) nilW)))) (retW (callW W_through_in (consW (vW 0) (consW (vW 1) (consW (vW 2) nilW)))))))
@[irreducible] def W_Rule_through : PreX := defW 3 3 B_Rule_through
theorem W_Rule_through_eq : W_Rule_through = defW 3 3 B_Rule_through := by unfold W_Rule_through; rfl
def B_Cutter___call__ : SM := (seqW (ifSW (orW (notW (testW (cbW isiD (consW (vW 1) (consW (cW (.ty "tuple")) nilW))))) (testW (opW gtD (cbW lenD (consW (vW 1) nilW)) (cW (.int 1000))))) (raise0W 9) passW) (retW (callW W_cut (consW (vW 0) (consW (vW 1) nilW)))))
@[irreducible] def W_Cutter___call__ : PreX := defW 2 2 B_Cutter___call__
theorem W_Cutter___call___eq : W_Cutter___call__ = defW 2 2 B_Cutter___call__ := by unfold W_Cutter___call__; rfl
def B_Rule___call__ : SM := (retW (coW [(21, W_Cutter___call__)] (fldW [25] "own_cutter" (vW 0)) (consW (vW 1) nilW)))
@[irreducible] def W_Rule___call__ : PreX := defW 2 2 B_Rule___call__
theorem W_Rule___call___eq : W_Rule___call__ = defW 2 2 B_Rule___call__ := by unfold W_Rule___call__; rfl
end Mw

set_option Elab.async false
set_option linter.all false
set_option maxRecDepth 100000
set_option maxHeartbeats 4000000
namespace Mw
open PySem PySem.Spec PyProof.Rows L2

def B__law_one_of : SM := (retW (opW ixD (vW 1) (callW PreRoll (consW (vW 0) (consW (cbW lenD (consW (vW 1) nilW)) nilW)))))
@[irreducible] def W__law_one_of : PreX := defW 2 2 B__law_one_of
theorem W__law_one_of_eq : W__law_one_of = defW 2 2 B__law_one_of := by unfold W__law_one_of; rfl
def B__law_signs : SM := (retW (bmW "str" joinD (cW (.str "")) (consW (lcW (itAW rng1D (consW (callW PreRoll (consW (vW 0) (consW (opW addD (vW 1) (cW (.int 1))) nilW))) nilW)) [2] (gN 2) yesW (callW W__law_one_of (consW (vW 0) (consW (lstW (consW (cW (.str "+")) (consW (cW (.str "+")) (consW (cW (.str "-")) nilW)))) nilW)))) nilW)))
@[irreducible] def W__law_signs : PreX := defW 2 3 B__law_signs
theorem W__law_signs_eq : W__law_signs = defW 2 3 B__law_signs := by unfold W__law_signs; rfl
def B__law_part : SM := (seqW (asgW (lstW (consW (cW (.str "all")) (consW (cW (.str "all")) (consW (cW (.str "..+")) (consW (cW (.str "..++")) (consW (cW (.str "+..")) (consW (cW (.str "+..+")) (consW (cW (.str "..+++")) (consW (cW (.str "..")) (consW (cW (.str "+..++")) (consW (cW (.str "..-+")) nilW))))))))))) (gN 1)) (seqW (ifSW (testW (opW gtD (callW PreRoll (consW (vW 0) (consW (cW (.int 3)) nilW))) (cW (.int 0)))) (retW (callW W__law_one_of (consW (vW 0) (consW (vW 1) nilW)))) passW) (retW (opW addD (opW addD (callW W__law_signs (consW (vW 0) (consW (cW (.int 2)) nilW))) (cW (.str ".."))) (callW W__law_signs (consW (vW 0) (consW (cW (.int 3)) nilW)))))))
@[irreducible] def W__law_part : PreX := defW 1 2 B__law_part
theorem W__law_part_eq : W__law_part = defW 1 2 B__law_part := by unfold W__law_part; rfl
def B__law_parts : SM := (retW (lcW (itAW rng1D (consW (callW W__law_one_of (consW (vW 0) (consW (lstW (consW (cW (.int 0)) (consW (cW (.int 1)) (consW (cW (.int 1)) (consW (cW (.int 1)) (consW (cbW minD (consW (cW (.int 2)) (consW (vW 1) nilW))) (consW (vW 1) nilW))))))) nilW))) nilW)) [2] (gN 2) yesW (callW W__law_part (consW (vW 0) nilW))))
@[irreducible] def W__law_parts : PreX := defW 2 3 B__law_parts
theorem W__law_parts_eq : W__law_parts = defW 2 3 B__law_parts := by unfold W__law_parts; rfl
def BL__law_met (f : Addr) (m : LM) : SM := (seqW (tryAW [1, 2, 3, 4, 11, 9] [(.own 1, none, (retW (cW (.str "cutter")))), (.own 4, some 1, (retW (ifW (testW (isXW [4] 1 (.blt "ValueError"))) (cW (.str "rule")) (cW (.str "wrong"))))), (.own 3, none, (retW (cW (.str "bundle")))), (.own 2, none, (retW (cW (.str "company")))), (.own 9, none, (retW (cW (.str "operation")))), (.own 11, some 1, (retW (ifW (testW (isXDW [11] 1 (.blt "KeyError"))) (opW addD (cW (.str "name ")) (cbW reprQD (consW (xfW 11 1 "name") nilW))) (cW (.str "wrong")))))] (exprW (actW f m))) (retW (cW (.str "fine"))))
def B__law_made_right : SM := (seqW (asgW (callW W__law_one_of (consW (vW 0) (consW (lstW (consW (cW (.non)) (consW (cW (.int 0)) (consW (cW (.str "all")) (consW (tupW (consW (cW (.str "all")) nilW)) (consW (lstW (consW (vW 1) nilW)) (consW dnewW (consW (cW (.bl true)) (consW (makeW 25 (kwI 1 0 [(false, 0)] [.bl false] W_Rule___init__) (consW (vW 1) nilW)) (consW (propW [(21, W_Cutter_parts)] (vW 1)) nilW)))))))))) nilW))) (gN 2)) (seqW (asgW (callW W__law_one_of (consW (vW 0) (consW (lstW (consW (cW (.non)) (consW (cW (.int 0)) (consW (cW (.int 1)) (consW (cW (.str "yes")) (consW (tupW nilW) (consW (lstW nilW) (consW dnewW (consW (vW 1) nilW))))))))) nilW))) (gN 3)) (seqW (newLW 4 (consW (lamW 2 BL__law_met (makeW 25 (kwI 1 0 [(false, 0)] [.bl false] W_Rule___init__) (consW (vW 2) nilW))) nilW)) (seqW (appW 4 (consW (lamW 2 BL__law_met (makeKW 25 1 1 (kwI 1 1 [(true, 0)] [] W_Rule___init__) (consW (vW 2) nilW) (consW (vW 3) nilW))) nilW)) (seqW (appW 4 (consW (lamW 2 BL__law_met (makeKW 25 1 1 (kwI 1 1 [(true, 0)] [] W_Rule___init__) (consW (vW 1) nilW) (consW (vW 3) nilW))) nilW)) (tellW 4 (retW (avW (opW eqD (vW 4) (lstW (consW (cW (.str "cutter")) (consW (cW (.str "cutter")) (consW (cW (.str "rule")) nilW))))) (opW eqD (lamW 2 BL__law_met (makeKW 25 1 1 (kwI 1 1 [(true, 0)] [] W_Rule___init__) (consW (vW 1) nilW) (consW (cW (.bl false)) nilW))) (cW (.str "fine")))))))))))
@[irreducible] def W__law_made_right : PreX := defW 2 5 B__law_made_right
theorem W__law_made_right_eq : W__law_made_right = defW 2 5 B__law_made_right := by unfold W__law_made_right; rfl
def B__law_asked_right : SM := (seqW (asgW (callW W__law_one_of (consW (vW 0) (consW (lstW (consW (cW (.non)) (consW (cW (.int 0)) (consW (cW (.str "rule")) (consW (tupW nilW) (consW dnewW (consW (propW [(25, W_Rule_cutter)] (vW 1)) (consW (vW 3) (consW (lstW (consW (vW 1) nilW)) nilW))))))))) nilW))) (gN 4)) (seqW (asgW (callW W__law_one_of (consW (vW 0) (consW (lstW (consW (cW (.non)) (consW (cW (.int 0)) (consW (cW (.str "bundle")) (consW (tupW nilW) (consW (vW 2) (consW (vW 1) (consW (propW [(24, W_Bundle_letters)] (vW 3)) (consW (lstW (consW (vW 3) nilW)) (consW dnewW nilW)))))))))) nilW))) (gN 5)) (seqW (asgW (callW W__law_one_of (consW (vW 0) (consW (lstW (consW (cW (.non)) (consW (unW negD (cW (.int 1))) (consW (cbW (lenOD [(24, W_Bundle___len__)]) (consW (vW 3) nilW)) (consW (cW (.bl true)) (consW (cW (.bl false)) (consW (cW (.str "0")) (consW (tupW (consW (cW (.int 0)) nilW)) (consW (lstW (consW (cW (.int 0)) nilW)) (consW dnewW (consW (opW powD (cW (.int 10)) (cW (.int 39))) (consW (unW negD (opW powD (cW (.int 10)) (cW (.int 11)))) nilW)))))))))))) nilW))) (gN 6)) (seqW (asgW (callW W__law_one_of (consW (vW 0) (consW (lstW (consW (cW (.non)) (consW (cW (.int 0)) (consW (cW (.str "company")) (consW (vW 3) (consW (vW 1) (consW (tupW nilW) (consW dnewW (consW (propW [(22, W_Company_people)] (vW 2)) nilW))))))))) nilW))) (gN 7)) (seqW (asgW (callW W__law_one_of (consW (vW 0) (consW (lstW (consW (cW (.non)) (consW (cW (.int 0)) (consW (cW (.str "eve")) (consW (cW (.str "")) (consW (cW (.str "Ann")) (consW (tupW (consW (cW (.str "ann")) nilW)) (consW (lstW (consW (cW (.str "ann")) nilW)) (consW dnewW (consW (cW (.bl true)) (consW (cW (.str "annn")) nilW))))))))))) nilW))) (gN 8)) (seqW (asgW (callW W__law_one_of (consW (vW 0) (consW (lstW (consW (cW (.non)) (consW (lstW nilW) (consW (cW (.str "abc")) (consW dnewW (consW (cW (.int 7)) (consW (rgTW (cW (.int 1001))) (consW (lstW (consW (cW (.int 1)) nilW)) nilW)))))))) nilW))) (gN 9)) (seqW (newLW 10 (consW (lamW 2 BL__law_met (methW [(25, W_Rule_is_within)] "is_within" (vW 1) (consW (vW 4) nilW))) nilW)) (seqW (appW 10 (consW (lamW 2 BL__law_met (methW [(25, W_Rule_bound)] "bound" (vW 1) (consW (vW 5) (consW (vW 6) nilW)))) nilW)) (seqW (appW 10 (consW (lamW 2 BL__law_met (methW [(25, W_Rule_bound)] "bound" (vW 1) (consW (vW 3) (consW (vW 6) nilW)))) nilW)) (seqW (appW 10 (consW (lamW 2 BL__law_met (methW [(25, W_Rule_through)] "through" (vW 1) (consW (vW 7) (consW (vW 8) nilW)))) nilW)) (seqW (appW 10 (consW (lamW 2 BL__law_met (methW [(25, W_Rule_through)] "through" (vW 1) (consW (vW 2) (consW (vW 8) nilW)))) nilW)) (seqW (appW 10 (consW (lamW 2 BL__law_met (coW [(25, W_Rule___call__)] (vW 1) (consW (vW 9) nilW))) nilW)) (seqW (asgW (lstW (consW (cW (.str "rule")) (consW (cW (.str "bundle")) (consW (opW addD (cW (.str "name ")) (cbW reprQD (consW (vW 6) nilW))) (consW (cW (.str "company")) (consW (opW addD (cW (.str "name ")) (cbW reprQD (consW (vW 8) nilW))) (consW (cW (.str "operation")) nilW))))))) (gN 11)) (tellW 10 (retW (opW eqD (vW 10) (vW 11)))))))))))))))))
@[irreducible] def W__law_asked_right : PreX := defW 4 12 B__law_asked_right
theorem W__law_asked_right_eq : W__law_asked_right = defW 4 12 B__law_asked_right := by unfold W__law_asked_right; rfl
def B__law_right : SM := (seqW (asgW (cmethW 21 W_Cutter_of (cW (.cls 21)) (consW (cbW tupD (consW (callW W__law_parts (consW (vW 0) (consW (cW (.int 4)) nilW))) nilW)) nilW)) (gN 1)) (seqW (asgW (makeKW 22 2 1 (kwI 2 1 [(false, 0), (false, 1), (true, 0)] [.non, .non] W_Company___init__) (consW (tupW (consW (cW (.str "ann")) (consW (cW (.str "bob")) nilW))) (consW (dispTW [((tupW (consW (cW (.str "ann")) (consW (cW (.str "bob")) nilW))), (tupW (consW (makeW 21 W_Cutter___init__ nilW) (consW (cW (.bl true)) (consW (vW 1) nilW)))))]) nilW)) (consW (dispW [((cW (.str "bob")), (makeW 21 W_Cutter___init__ (consW (cW (.str "..+")) nilW)))]) nilW)) (gN 2)) (seqW (asgW (makeW 24 W_Bundle___init__ (consW (vW 2) (consW (tupW (consW (cW (.str "ann")) (consW (cW (.non)) (consW (cW (.bl true)) nilW)))) (consW (tupW (consW (cW (.str "bob")) (consW (cW (.int 0)) (consW (cW (.bl false)) nilW)))) (consW (tupW (consW (cW (.str "bob")) (consW (cW (.non)) (consW (cW (.bl true)) nilW)))) nilW))))) (gN 3)) (seqW (asgW (makeKW 25 1 1 (kwI 1 1 [(true, 0)] [] W_Rule___init__) (consW (vW 1) nilW) (consW (opW eqD (callW PreRoll (consW (vW 0) (consW (cW (.int 2)) nilW))) (cW (.int 0))) nilW)) (gN 4)) (seqW (asgW (lstW (consW (cbW (strOD [(25, W_Rule___str__)]) (consW (vW 4) nilW)) (consW (propW [(21, W_Cutter_parts)] (propW [(25, W_Rule_cutter)] (vW 4))) (consW (methW [(25, W_Rule_bound)] "bound" (vW 4) (consW (vW 3) (consW (cW (.int 1)) nilW))) nilW)))) (gN 5)) (seqW (forW (itAW rng1D (consW (cW (.int 3)) nilW)) (gN 6) (ifSW (orW (notW (testW (callW (calmP W__law_made_right) (consW (vW 0) (consW (vW 1) nilW))))) (notW (testW (callW (calmP W__law_asked_right) (consW (vW 0) (consW (vW 4) (consW (vW 2) (consW (vW 3) nilW)))))))) (retW (cW (.bl false))) passW)) (retW (avW (opW eqD (lstW (consW (cbW (strOD [(25, W_Rule___str__)]) (consW (vW 4) nilW)) (consW (propW [(21, W_Cutter_parts)] (propW [(25, W_Rule_cutter)] (vW 4))) (consW (methW [(25, W_Rule_bound)] "bound" (vW 4) (consW (vW 3) (consW (cW (.int 1)) nilW))) nilW)))) (vW 5)) (opW eqD (methW [(25, W_Rule_bound)] "bound" (vW 4) (consW (vW 3) (consW (cW (.int 2)) nilW))) (tupW nilW))))))))))
@[irreducible] def W__law_right : PreX := defW 1 7 B__law_right
theorem W__law_right_eq : W__law_right = defW 1 7 B__law_right := by unfold W__law_right; rfl
def B_law : SM := (seqW (forW (itAW rng1D (consW (cbW maxD (consW (cW (.int 1)) (consW (cbW minD (consW (cW (.int 6)) (consW (cbW lenD (consW (vW 0) nilW)) nilW))) nilW))) nilW)) (gN 1) (ifSW (notW (testW (callW (calmP W__law_right) (consW (callW PreDice (consW (vW 0) (consW (vW 1) nilW))) nilW)))) (retW (cW (.bl false))) passW)) (retW (cW (.bl true))))
@[irreducible] def W_law : PreX := defW 1 2 B_law
theorem W_law_eq : W_law = defW 1 2 B_law := by unfold W_law; rfl
end Mw

set_option Elab.async false
set_option linter.all false
set_option maxRecDepth 100000
set_option maxHeartbeats 4000000
namespace Mw
open PySem PySem.Spec PyProof.Rows L2

def top (i : Nat) : Stmt := PySem.Challenge.pw_namedabove_k17_errors_of_rules.main.body.getD i (.Pass ⟨0, 0, 0, 0⟩)
abbrev s_part_places : Stmt := top 29
theorem sc_part_places : FnScope ["part", "many", "ahead", "kept", "front", "back", "place", "at", "sign"] ["part", "many"] (defScope s_part_places) := ⟨rfl, rfl, rfl, by decide +kernel, rfl, by decide +kernel, by decide +kernel⟩
abbrev s_chain_places : Stmt := top 30
theorem sc_chain_places : FnScope ["parts", "many", "places", "part", "at"] ["parts", "many"] (defScope s_chain_places) := ⟨rfl, rfl, rfl, by decide +kernel, rfl, by decide +kernel, by decide +kernel⟩
abbrev s_are_signs : Stmt := top 27
theorem sc_are_signs : FnScope ["text", "most", "sign"] ["text", "most"] (defScope s_are_signs) := ⟨rfl, rfl, rfl, by decide +kernel, rfl, by decide +kernel, by decide +kernel⟩
abbrev s_is_part : Stmt := top 28
theorem sc_is_part : FnScope ["value", "sides"] ["value"] (defScope s_is_part) := ⟨rfl, rfl, rfl, by decide +kernel, rfl, by decide +kernel, by decide +kernel⟩
abbrev s_Cutter___init__ : Stmt := inClass (top 33) 0
theorem sc_Cutter___init__ : FnScope ["self", "parts", "is_known", "told", "many", "part"] ["self", "parts"] (defScope s_Cutter___init__) := ⟨rfl, rfl, rfl, by decide +kernel, rfl, by decide +kernel, by decide +kernel⟩
abbrev s_Cutter_of : Stmt := inClass (top 33) 1
theorem sc_Cutter_of : FnScope ["cls", "parts"] ["cls", "parts"] (defScope s_Cutter_of) := ⟨rfl, rfl, rfl, by decide +kernel, rfl, by decide +kernel, by decide +kernel⟩
abbrev s_is_ascending : Stmt := top 16
theorem sc_is_ascending : FnScope ["row", "one", "other"] ["row"] (defScope s_is_ascending) := ⟨rfl, rfl, rfl, by decide +kernel, rfl, by decide +kernel, by decide +kernel⟩
abbrev s_is_name : Stmt := top 14
theorem sc_is_name : FnScope ["value", "sign"] ["value"] (defScope s_is_name) := ⟨rfl, rfl, rfl, by decide +kernel, rfl, by decide +kernel, by decide +kernel⟩
abbrev s_are_people : Stmt := top 41
theorem sc_are_people : FnScope ["value", "name"] ["value"] (defScope s_are_people) := ⟨rfl, rfl, rfl, by decide +kernel, rfl, by decide +kernel, by decide +kernel⟩
abbrev s_are_copies : Stmt := top 45
theorem sc_are_copies : FnScope ["value", "people", "name", "cutter"] ["value", "people"] (defScope s_are_copies) := ⟨rfl, rfl, rfl, by decide +kernel, rfl, by decide +kernel, by decide +kernel⟩
abbrev s_in_order : Stmt := top 46
theorem sc_in_order : FnScope ["table", "key"] ["table"] (defScope s_in_order) := ⟨rfl, rfl, rfl, by decide +kernel, rfl, by decide +kernel, by decide +kernel⟩
abbrev s_are_some : Stmt := top 42
theorem sc_are_some : FnScope ["value", "people", "name"] ["value", "people"] (defScope s_are_some) := ⟨rfl, rfl, rfl, by decide +kernel, rfl, by decide +kernel, by decide +kernel⟩
abbrev s_is_pair : Stmt := top 43
theorem sc_is_pair : FnScope ["value", "people", "name"] ["value", "people"] (defScope s_is_pair) := ⟨rfl, rfl, rfl, by decide +kernel, rfl, by decide +kernel, by decide +kernel⟩
abbrev s_is_turn : Stmt := top 40
theorem sc_is_turn : FnScope ["value", "road", "adds", "cutter"] ["value"] (defScope s_is_turn) := ⟨rfl, rfl, rfl, by decide +kernel, rfl, by decide +kernel, by decide +kernel⟩
abbrev s_are_turns : Stmt := top 44
theorem sc_are_turns : FnScope ["value", "people", "pair", "turn"] ["value", "people"] (defScope s_are_turns) := ⟨rfl, rfl, rfl, by decide +kernel, rfl, by decide +kernel, by decide +kernel⟩
abbrev s_Company___init__ : Stmt := inClass (top 47) 0
theorem sc_Company___init__ : FnScope ["self", "people", "answers", "takings", "starts", "copies", "turns", "cuts", "table", "name"] ["self", "people", "answers", "takings", "starts", "copies"] (defScope s_Company___init__) := ⟨rfl, rfl, rfl, by decide +kernel, rfl, by decide +kernel, by decide +kernel⟩
abbrev s_require_company : Stmt := top 48
theorem sc_require_company : FnScope ["value"] ["value"] (defScope s_require_company) := ⟨rfl, rfl, rfl, by decide +kernel, rfl, by decide +kernel, by decide +kernel⟩
abbrev s_turn_behind : Stmt := top 54
theorem sc_turn_behind : FnScope ["company", "letters", "letter", "turns", "writer", "upon", "begins"] ["company", "letters", "letter"] (defScope s_turn_behind) := ⟨rfl, rfl, rfl, by decide +kernel, rfl, by decide +kernel, by decide +kernel⟩
abbrev s_kept_places : Stmt := top 34
theorem sc_kept_places : FnScope ["cutter", "many", "place"] ["cutter", "many"] (defScope s_kept_places) := ⟨rfl, rfl, rfl, by decide +kernel, rfl, by decide +kernel, by decide +kernel⟩
abbrev s_cut : Stmt := top 35
theorem sc_cut : FnScope ["cutter", "row", "place"] ["cutter", "row"] (defScope s_cut) := ⟨rfl, rfl, rfl, by decide +kernel, rfl, by decide +kernel, by decide +kernel⟩
abbrev s_lists_in : Stmt := top 57
theorem sc_lists_in : FnScope ["company", "letters", "found", "letter", "row", "road", "adds", "cutter"] ["company", "letters"] (defScope s_lists_in) := ⟨rfl, rfl, rfl, by decide +kernel, rfl, by decide +kernel, by decide +kernel⟩
abbrev s_talks_in : Stmt := top 58
theorem sc_talks_in : FnScope ["letters", "found", "mark", "writer", "upon", "begins"] ["letters"] (defScope s_talks_in) := ⟨rfl, rfl, rfl, by decide +kernel, rfl, by decide +kernel, by decide +kernel⟩
abbrev s_is_integer : Stmt := top 15
theorem sc_is_integer : FnScope ["value"] ["value"] (defScope s_is_integer) := ⟨rfl, rfl, rfl, by decide +kernel, rfl, by decide +kernel, by decide +kernel⟩
abbrev s_is_letter : Stmt := top 55
theorem sc_is_letter : FnScope ["company", "letters", "value", "writer", "upon", "begins"] ["company", "letters", "value"] (defScope s_is_letter) := ⟨rfl, rfl, rfl, by decide +kernel, rfl, by decide +kernel, by decide +kernel⟩
abbrev s_are_letters : Stmt := top 56
theorem sc_are_letters : FnScope ["company", "values", "at", "value"] ["company", "values"] (defScope s_are_letters) := ⟨rfl, rfl, rfl, by decide +kernel, rfl, by decide +kernel, by decide +kernel⟩
abbrev s_checked : Stmt := top 59
theorem sc_checked : FnScope ["company", "letters"] ["company", "letters"] (defScope s_checked) := ⟨rfl, rfl, rfl, by decide +kernel, rfl, by decide +kernel, by decide +kernel⟩
abbrev s_Bundle___init__ : Stmt := inClass (top 62) 0
theorem sc_Bundle___init__ : FnScope ["self", "company", "letters", "is_known"] ["self", "company", "letters"] (defScope s_Bundle___init__) := ⟨rfl, rfl, rfl, by decide +kernel, rfl, by decide +kernel, by decide +kernel⟩
abbrev s_require_cutter : Stmt := top 37
theorem sc_require_cutter : FnScope ["value"] ["value"] (defScope s_require_cutter) := ⟨rfl, rfl, rfl, by decide +kernel, rfl, by decide +kernel, by decide +kernel⟩
abbrev s_Rule___init__ : Stmt := inClass (top 68) 0
theorem sc_Rule___init__ : FnScope ["self", "cutter", "sees_lost"] ["self", "cutter", "sees_lost"] (defScope s_Rule___init__) := ⟨rfl, rfl, rfl, by decide +kernel, rfl, by decide +kernel, by decide +kernel⟩
abbrev s_Cutter___str__ : Stmt := inClass (top 33) 11
theorem sc_Cutter___str__ : FnScope ["self"] ["self"] (defScope s_Cutter___str__) := ⟨rfl, rfl, rfl, by decide +kernel, rfl, by decide +kernel, by decide +kernel⟩
abbrev s_Rule___str__ : Stmt := inClass (top 68) 10
theorem sc_Rule___str__ : FnScope ["self"] ["self"] (defScope s_Rule___str__) := ⟨rfl, rfl, rfl, by decide +kernel, rfl, by decide +kernel, by decide +kernel⟩
abbrev s_Cutter_parts : Stmt := inClass (top 33) 2
theorem sc_Cutter_parts : FnScope ["self"] ["self"] (defScope s_Cutter_parts) := ⟨rfl, rfl, rfl, by decide +kernel, rfl, by decide +kernel, by decide +kernel⟩
abbrev s_require_bundle : Stmt := top 63
theorem sc_require_bundle : FnScope ["value"] ["value"] (defScope s_require_bundle) := ⟨rfl, rfl, rfl, by decide +kernel, rfl, by decide +kernel, by decide +kernel⟩
abbrev s_is_mark_of : Stmt := top 64
theorem sc_is_mark_of : FnScope ["bundle", "value"] ["bundle", "value"] (defScope s_is_mark_of) := ⟨rfl, rfl, rfl, by decide +kernel, rfl, by decide +kernel, by decide +kernel⟩
abbrev s_require_mark : Stmt := top 65
theorem sc_require_mark : FnScope ["bundle", "mark"] ["bundle", "mark"] (defScope s_require_mark) := ⟨rfl, rfl, rfl, by decide +kernel, rfl, by decide +kernel, by decide +kernel⟩
abbrev s_bound_row : Stmt := top 70
theorem sc_bound_row : FnScope ["rule", "company", "person", "row"] ["rule", "company", "person", "row"] (defScope s_bound_row) := ⟨rfl, rfl, rfl, by decide +kernel, rfl, by decide +kernel, by decide +kernel⟩
abbrev s_Rule_bound : Stmt := inClass (top 68) 3
theorem sc_Rule_bound : FnScope ["self", "bundle", "mark"] ["self", "bundle", "mark"] (defScope s_Rule_bound) := ⟨rfl, rfl, rfl, by decide +kernel, rfl, by decide +kernel, by decide +kernel⟩
abbrev s_Rule_cutter : Stmt := inClass (top 68) 1
theorem sc_Rule_cutter : FnScope ["self"] ["self"] (defScope s_Rule_cutter) := ⟨rfl, rfl, rfl, by decide +kernel, rfl, by decide +kernel, by decide +kernel⟩
abbrev s__law_roll : Stmt := top 74
theorem sc__law_roll : FnScope ["_law_dice_here", "_law_total", "_law_one", "_law_two", "_law_found"] ["_law_dice_here", "_law_total"] (defScope s__law_roll) := ⟨rfl, rfl, rfl, by decide +kernel, rfl, by decide +kernel, by decide +kernel⟩
abbrev s__law_one_of : Stmt := top 75
theorem sc__law_one_of : FnScope ["_law_dice_here", "_law_items"] ["_law_dice_here", "_law_items"] (defScope s__law_one_of) := ⟨rfl, rfl, rfl, by decide +kernel, rfl, by decide +kernel, by decide +kernel⟩
abbrev s__law_signs : Stmt := top 76
theorem sc__law_signs : FnScope ["_law_dice_here", "_law_much", "_law_turn"] ["_law_dice_here", "_law_much"] (defScope s__law_signs) := ⟨rfl, rfl, rfl, by decide +kernel, rfl, by decide +kernel, by decide +kernel⟩
abbrev s__law_part : Stmt := top 77
theorem sc__law_part : FnScope ["_law_dice_here", "_law_common"] ["_law_dice_here"] (defScope s__law_part) := ⟨rfl, rfl, rfl, by decide +kernel, rfl, by decide +kernel, by decide +kernel⟩
abbrev s__law_parts : Stmt := top 78
theorem sc__law_parts : FnScope ["_law_dice_here", "_law_much", "_law_turn"] ["_law_dice_here", "_law_much"] (defScope s__law_parts) := ⟨rfl, rfl, rfl, by decide +kernel, rfl, by decide +kernel, by decide +kernel⟩
abbrev s__law_met : Stmt := top 79
theorem sc__law_met : FnScope ["_law_call", "e"] ["_law_call"] (defScope s__law_met) := ⟨rfl, rfl, rfl, by decide +kernel, rfl, by decide +kernel, by decide +kernel⟩
abbrev s__law_made_right : Stmt := top 80
theorem sc__law_made_right : FnScope ["_law_dice_here", "_law_cutter", "_law_odd", "_law_flag", "_law_told"] ["_law_dice_here", "_law_cutter"] (defScope s__law_made_right) := ⟨rfl, rfl, rfl, by decide +kernel, rfl, by decide +kernel, by decide +kernel⟩
abbrev s_Bundle_letters : Stmt := inClass (top 62) 3
theorem sc_Bundle_letters : FnScope ["self"] ["self"] (defScope s_Bundle_letters) := ⟨rfl, rfl, rfl, by decide +kernel, rfl, by decide +kernel, by decide +kernel⟩
abbrev s_Bundle___len__ : Stmt := inClass (top 62) 16
theorem sc_Bundle___len__ : FnScope ["self"] ["self"] (defScope s_Bundle___len__) := ⟨rfl, rfl, rfl, by decide +kernel, rfl, by decide +kernel, by decide +kernel⟩
abbrev s_Company_people : Stmt := inClass (top 47) 1
theorem sc_Company_people : FnScope ["self"] ["self"] (defScope s_Company_people) := ⟨rfl, rfl, rfl, by decide +kernel, rfl, by decide +kernel, by decide +kernel⟩
abbrev s_Cutter_is_within : Stmt := inClass (top 33) 5
theorem sc_Cutter_is_within : FnScope ["self", "other", "many", "place"] ["self", "other"] (defScope s_Cutter_is_within) := ⟨rfl, rfl, rfl, by decide +kernel, rfl, by decide +kernel, by decide +kernel⟩
abbrev s_require_rule : Stmt := top 71
theorem sc_require_rule : FnScope ["value"] ["value"] (defScope s_require_rule) := ⟨rfl, rfl, rfl, by decide +kernel, rfl, by decide +kernel, by decide +kernel⟩
abbrev s_Rule_is_within : Stmt := inClass (top 68) 7
theorem sc_Rule_is_within : FnScope ["self", "other"] ["self", "other"] (defScope s_Rule_is_within) := ⟨rfl, rfl, rfl, by decide +kernel, rfl, by decide +kernel, by decide +kernel⟩
abbrev s_require_person : Stmt := top 49
theorem sc_require_person : FnScope ["company", "name"] ["company", "name"] (defScope s_require_person) := ⟨rfl, rfl, rfl, by decide +kernel, rfl, by decide +kernel, by decide +kernel⟩
abbrev s_Known_cutters___init__ : Stmt := inClass (top 31) 0
theorem sc_Known_cutters___init__ : FnScope ["self", "parts"] ["self", "parts"] (defScope s_Known_cutters___init__) := ⟨rfl, rfl, rfl, by decide +kernel, rfl, by decide +kernel, by decide +kernel⟩
abbrev s_chained : Stmt := top 36
theorem sc_chained : FnScope ["one", "other"] ["one", "other"] (defScope s_chained) := ⟨rfl, rfl, rfl, by decide +kernel, rfl, by decide +kernel, by decide +kernel⟩
abbrev s_through_in : Stmt := top 69
theorem sc_through_in : FnScope ["rule", "company", "person"] ["rule", "company", "person"] (defScope s_through_in) := ⟨rfl, rfl, rfl, by decide +kernel, rfl, by decide +kernel, by decide +kernel⟩
abbrev s_Rule_through : Stmt := inClass (top 68) 4
theorem sc_Rule_through : FnScope ["self", "company", "person"] ["self", "company", "person"] (defScope s_Rule_through) := ⟨rfl, rfl, rfl, by decide +kernel, rfl, by decide +kernel, by decide +kernel⟩
abbrev s_Cutter___call__ : Stmt := inClass (top 33) 7
theorem sc_Cutter___call__ : FnScope ["self", "row"] ["self", "row"] (defScope s_Cutter___call__) := ⟨rfl, rfl, rfl, by decide +kernel, rfl, by decide +kernel, by decide +kernel⟩
abbrev s_Rule___call__ : Stmt := inClass (top 68) 8
theorem sc_Rule___call__ : FnScope ["self", "row"] ["self", "row"] (defScope s_Rule___call__) := ⟨rfl, rfl, rfl, by decide +kernel, rfl, by decide +kernel, by decide +kernel⟩
abbrev s__law_asked_right : Stmt := top 81
theorem sc__law_asked_right : FnScope ["_law_dice_here", "_law_rule", "_law_company", "_law_bundle", "_law_none", "_law_bad", "_law_mark", "_law_strange", "_law_person", "_law_row", "_law_told", "_law_due"] ["_law_dice_here", "_law_rule", "_law_company", "_law_bundle"] (defScope s__law_asked_right) := ⟨rfl, rfl, rfl, by decide +kernel, rfl, by decide +kernel, by decide +kernel⟩
abbrev s__law_right : Stmt := top 82
theorem sc__law_right : FnScope ["_law_dice_here", "_law_cutter", "_law_company", "_law_bundle", "_law_rule", "_law_before", "_law_turn"] ["_law_dice_here"] (defScope s__law_right) := ⟨rfl, rfl, rfl, by decide +kernel, rfl, by decide +kernel, by decide +kernel⟩
abbrev s__law_dice : Stmt := top 73
theorem sc__law_dice : FnScope ["_law_script", "_law_at", "_law_cell", "_law_great", "_law_mixed"] ["_law_script", "_law_at"] (defScope s__law_dice) := ⟨rfl, rfl, rfl, by decide +kernel, rfl, by decide +kernel, by decide +kernel⟩
abbrev s_law : Stmt := top 83
theorem sc_law : FnScope ["_law_script", "_law_at"] ["_law_script"] (defScope s_law) := ⟨rfl, rfl, rfl, by decide +kernel, rfl, by decide +kernel, by decide +kernel⟩
abbrev s_UnknownName___init__ : Stmt := inClass (top 8) 0
theorem xst_UnknownName : XupSt "name" "name" s_UnknownName___init__ := ⟨⟨_, _, _, _, _, _, _, _, _, _, rfl, fun _ _ _ _ _ => ⟨rfl, rfl, ⟨_, rfl⟩, rfl, rfl⟩⟩, ⟨_, rfl, rfl⟩, rfl, rfl, rfl, rfl, rfl, by decide +kernel, rfl, rfl, by decide, by decide, fun _ _ _ _ _ _ _ _ _ _ _ => .of_eq rfl⟩
structure EA where
  (f_Cutter___init__ f_Cutter_of p_Cutter_of f_Company___init__ f_Bundle___init__ f_Rule___init__ f_Cutter___str__ f_Rule___str__ f_Cutter_parts p_Cutter_parts f_Rule_bound f_Rule_cutter p_Rule_cutter f_Bundle_letters p_Bundle_letters f_Bundle___len__ f_Company_people p_Company_people f_Cutter_is_within f_Rule_is_within f_Known_cutters___init__ f_Rule_through f_Cutter___call__ f_Rule___call__ f_UnknownName___init__ t__law_made_right a__law_made_right t__law_asked_right a__law_asked_right : Addr)
structure Tx (P : Program) (c : Kc) (mg : Str → Option Value) (ea : EA) : Prop where
  m_range : mg "range" = none
  m_max : mg "max" = none
  m_min : mg "min" = none
  m_len : mg "len" = none
  m_tuple : mg "tuple" = none
  m_str : mg "str" = none
  m_isinstance : mg "isinstance" = none
  m_all : mg "all" = none
  m_list : mg "list" = none
  m_enumerate : mg "enumerate" = none
  m_zip : mg "zip" = none
  m_dict : mg "dict" = none
  m_sorted : mg "sorted" = none
  m_bool : mg "bool" = none
  m_int : mg "int" = none
  m_ValueError : mg "ValueError" = none
  m_KeyError : mg "KeyError" = none
  m_repr : mg "repr" = none
  m_abs : mg "abs" = none
  g_MAX_PARTS : ∃ u, mg "MAX_PARTS" = some u ∧ RelV (.int 4) u
  g_WHOLE : ∃ u, mg "WHOLE" = some u ∧ RelV (.str "all") u
  g_FEW : ∃ u, mg "FEW" = some u ∧ RelV (.int 5) u
  g_GAP : ∃ u, mg "GAP" = some u ∧ RelV (.str "..") u
  g_MOST_FRONT : ∃ u, mg "MOST_FRONT" = some u ∧ RelV (.int 2) u
  g_MOST_BACK : ∃ u, mg "MOST_BACK" = some u ∧ RelV (.int 3) u
  g_MAX_PEOPLE : ∃ u, mg "MAX_PEOPLE" = some u ∧ RelV (.int 4) u
  g_LONGEST : ∃ u, mg "LONGEST" = some u ∧ RelV (.int 8) u
  g_LETTERS : ∃ u, mg "LETTERS" = some u ∧ RelV (.str "abcdefghijklmnopqrstuvwxyz") u
  g_MAX_LETTERS : ∃ u, mg "MAX_LETTERS" = some u ∧ RelV (.int 40) u
  g_MAX_ROW : ∃ u, mg "MAX_ROW" = some u ∧ RelV (.int 1000) u
  k_Known_cutters : KC c mg "Known_cutters" 20
  k_Cutter : KC c mg "Cutter" 21
  k_Company : KC c mg "Company" 22
  k_Known_bundles : KC c mg "Known_bundles" 23
  k_Bundle : KC c mg "Bundle" 24
  k_Rule : KC c mg "Rule" 25
  D_part_places : Df c.K mg "part_places" s_part_places ["part", "many"]
  D_chain_places : Df c.K mg "chain_places" s_chain_places ["parts", "many"]
  D_are_signs : Df c.K mg "are_signs" s_are_signs ["text", "most"]
  D_is_part : Df c.K mg "is_part" s_is_part ["value"]
  q_Cutter___init__ : Meth c.K (c.ca 21) "__init__" ea.f_Cutter___init__
  mk_Cutter : Mkx c mg "Cutter" 21 ea.f_Cutter___init__
  D_Cutter___init__ : (∃ fd, Fun c.K "__init__" "Cutter.__init__" s_Cutter___init__ ea.f_Cutter___init__ fd) ∧ ∀ (kV doc pm : Value) (an : Option Addr) (cdv ct : Value) (us rest : List Value), us.length = (["self"] : List PySem.Str).length → bindArgs (PySem.W.fnOf "__init__" "Cutter.__init__" (defArgs s_Cutter___init__) (defBody s_Cutter___init__) (defScope s_Cutter___init__) .none kV doc pm an cdv ct) ⟨us ++ rest, []⟩ = (newTuple rest >>= fun t => pure ((["self"] : List PySem.Str).zip us ++ [(("parts" : PySem.Str), t)]))
  cm_Cutter_of : ClX.CMet c.K (c.ca 21) (.type "type") "of" ea.p_Cutter_of ea.f_Cutter_of
  D_Cutter_of : Dm c.K "of" "Cutter.of" s_Cutter_of ["cls", "parts"] ea.f_Cutter_of
  D_is_ascending : Df c.K mg "is_ascending" s_is_ascending ["row"]
  D_is_name : Df c.K mg "is_name" s_is_name ["value"]
  D_are_people : Df c.K mg "are_people" s_are_people ["value"]
  D_are_copies : Df c.K mg "are_copies" s_are_copies ["value", "people"]
  D_in_order : Df c.K mg "in_order" s_in_order ["table"]
  D_are_some : Df c.K mg "are_some" s_are_some ["value", "people"]
  D_is_pair : Df c.K mg "is_pair" s_is_pair ["value", "people"]
  D_is_turn : Df c.K mg "is_turn" s_is_turn ["value"]
  D_are_turns : Df c.K mg "are_turns" s_are_turns ["value", "people"]
  q_Company___init__ : Meth c.K (c.ca 22) "__init__" ea.f_Company___init__
  mk_Company : Mkx c mg "Company" 22 ea.f_Company___init__
  D_Company___init__ : Dk c.K "__init__" "Company.__init__" s_Company___init__ ["self", "people", "answers", "takings", "starts", "copies"] [("takings", .non), ("starts", .non), ("copies", .non)] [⟨3, ["copies"], [(false, 0), (false, 1), (true, 0)], [.non, .non]⟩] ea.f_Company___init__
  D_require_company : Df c.K mg "require_company" s_require_company ["value"]
  D_turn_behind : Df c.K mg "turn_behind" s_turn_behind ["company", "letters", "letter"]
  D_kept_places : Df c.K mg "kept_places" s_kept_places ["cutter", "many"]
  D_cut : Df c.K mg "cut" s_cut ["cutter", "row"]
  D_lists_in : Df c.K mg "lists_in" s_lists_in ["company", "letters"]
  D_talks_in : Df c.K mg "talks_in" s_talks_in ["letters"]
  D_is_integer : Df c.K mg "is_integer" s_is_integer ["value"]
  D_is_letter : Df c.K mg "is_letter" s_is_letter ["company", "letters", "value"]
  D_are_letters : Df c.K mg "are_letters" s_are_letters ["company", "values"]
  D_checked : Df c.K mg "checked" s_checked ["company", "letters"]
  q_Bundle___init__ : Meth c.K (c.ca 24) "__init__" ea.f_Bundle___init__
  mk_Bundle : Mkx c mg "Bundle" 24 ea.f_Bundle___init__
  D_Bundle___init__ : (∃ fd, Fun c.K "__init__" "Bundle.__init__" s_Bundle___init__ ea.f_Bundle___init__ fd) ∧ ∀ (kV doc pm : Value) (an : Option Addr) (cdv ct : Value) (us rest : List Value), us.length = (["self", "company"] : List PySem.Str).length → bindArgs (PySem.W.fnOf "__init__" "Bundle.__init__" (defArgs s_Bundle___init__) (defBody s_Bundle___init__) (defScope s_Bundle___init__) .none kV doc pm an cdv ct) ⟨us ++ rest, []⟩ = (newTuple rest >>= fun t => pure ((["self", "company"] : List PySem.Str).zip us ++ [(("letters" : PySem.Str), t)]))
  D_require_cutter : Df c.K mg "require_cutter" s_require_cutter ["value"]
  q_Rule___init__ : Meth c.K (c.ca 25) "__init__" ea.f_Rule___init__
  mk_Rule : Mkx c mg "Rule" 25 ea.f_Rule___init__
  D_Rule___init__ : Dk c.K "__init__" "Rule.__init__" s_Rule___init__ ["self", "cutter", "sees_lost"] [("sees_lost", .bl false)] [⟨2, [], [(false, 0)], [.bl false]⟩, ⟨2, ["sees_lost"], [(true, 0)], []⟩] ea.f_Rule___init__
  q_Cutter___str__ : Meth c.K (c.ca 21) "__str__" ea.f_Cutter___str__
  D_Cutter___str__ : Dm c.K "__str__" "Cutter.__str__" s_Cutter___str__ ["self"] ea.f_Cutter___str__
  q_Rule___str__ : Meth c.K (c.ca 25) "__str__" ea.f_Rule___str__
  D_Rule___str__ : Dm c.K "__str__" "Rule.__str__" s_Rule___str__ ["self"] ea.f_Rule___str__
  p_Cutter_parts : PropOf c.K (c.ca 21) "parts" ea.p_Cutter_parts ea.f_Cutter_parts
  D_Cutter_parts : Dm c.K "parts" "Cutter.parts" s_Cutter_parts ["self"] ea.f_Cutter_parts
  D_require_bundle : Df c.K mg "require_bundle" s_require_bundle ["value"]
  D_is_mark_of : Df c.K mg "is_mark_of" s_is_mark_of ["bundle", "value"]
  D_require_mark : Df c.K mg "require_mark" s_require_mark ["bundle", "mark"]
  D_bound_row : Df c.K mg "bound_row" s_bound_row ["rule", "company", "person", "row"]
  q_Rule_bound : Meth c.K (c.ca 25) "bound" ea.f_Rule_bound
  D_Rule_bound : Dm c.K "bound" "Rule.bound" s_Rule_bound ["self", "bundle", "mark"] ea.f_Rule_bound
  p_Rule_cutter : PropOf c.K (c.ca 25) "cutter" ea.p_Rule_cutter ea.f_Rule_cutter
  D_Rule_cutter : Dm c.K "cutter" "Rule.cutter" s_Rule_cutter ["self"] ea.f_Rule_cutter
  D__law_roll : Df c.K mg "_law_roll" s__law_roll ["_law_dice_here", "_law_total"]
  D__law_one_of : Df c.K mg "_law_one_of" s__law_one_of ["_law_dice_here", "_law_items"]
  D__law_signs : Df c.K mg "_law_signs" s__law_signs ["_law_dice_here", "_law_much"]
  D__law_part : Df c.K mg "_law_part" s__law_part ["_law_dice_here"]
  D__law_parts : Df c.K mg "_law_parts" s__law_parts ["_law_dice_here", "_law_much"]
  D__law_met : Df c.K mg "_law_met" s__law_met ["_law_call"]
  D__law_made_right : DfL c.K mg "_law_made_right" s__law_made_right ["_law_dice_here", "_law_cutter"] ea.a__law_made_right
  p_Bundle_letters : PropOf c.K (c.ca 24) "letters" ea.p_Bundle_letters ea.f_Bundle_letters
  D_Bundle_letters : Dm c.K "letters" "Bundle.letters" s_Bundle_letters ["self"] ea.f_Bundle_letters
  q_Bundle___len__ : Meth c.K (c.ca 24) "__len__" ea.f_Bundle___len__
  D_Bundle___len__ : Dm c.K "__len__" "Bundle.__len__" s_Bundle___len__ ["self"] ea.f_Bundle___len__
  p_Company_people : PropOf c.K (c.ca 22) "people" ea.p_Company_people ea.f_Company_people
  D_Company_people : Dm c.K "people" "Company.people" s_Company_people ["self"] ea.f_Company_people
  q_Cutter_is_within : Meth c.K (c.ca 21) "is_within" ea.f_Cutter_is_within
  D_Cutter_is_within : Dm c.K "is_within" "Cutter.is_within" s_Cutter_is_within ["self", "other"] ea.f_Cutter_is_within
  D_require_rule : Df c.K mg "require_rule" s_require_rule ["value"]
  q_Rule_is_within : Meth c.K (c.ca 25) "is_within" ea.f_Rule_is_within
  D_Rule_is_within : Dm c.K "is_within" "Rule.is_within" s_Rule_is_within ["self", "other"] ea.f_Rule_is_within
  D_require_person : Df c.K mg "require_person" s_require_person ["company", "name"]
  q_Known_cutters___init__ : Meth c.K (c.ca 20) "__init__" ea.f_Known_cutters___init__
  mk_Known_cutters : Mkx c mg "Known_cutters" 20 ea.f_Known_cutters___init__
  D_Known_cutters___init__ : Dm c.K "__init__" "Known.__init__" s_Known_cutters___init__ ["self", "parts"] ea.f_Known_cutters___init__
  D_chained : Df c.K mg "chained" s_chained ["one", "other"]
  D_through_in : Df c.K mg "through_in" s_through_in ["rule", "company", "person"]
  q_Rule_through : Meth c.K (c.ca 25) "through" ea.f_Rule_through
  D_Rule_through : Dm c.K "through" "Rule.through" s_Rule_through ["self", "company", "person"] ea.f_Rule_through
  q_Cutter___call__ : Meth c.K (c.ca 21) "__call__" ea.f_Cutter___call__
  co_Cutter : StX.CallO c.K (c.ca 21) ea.f_Cutter___call__
  D_Cutter___call__ : Dm c.K "__call__" "Cutter.__call__" s_Cutter___call__ ["self", "row"] ea.f_Cutter___call__
  q_Rule___call__ : Meth c.K (c.ca 25) "__call__" ea.f_Rule___call__
  co_Rule : StX.CallO c.K (c.ca 25) ea.f_Rule___call__
  D_Rule___call__ : Dm c.K "__call__" "Rule.__call__" s_Rule___call__ ["self", "row"] ea.f_Rule___call__
  D__law_asked_right : DfL c.K mg "_law_asked_right" s__law_asked_right ["_law_dice_here", "_law_rule", "_law_company", "_law_bundle"] ea.a__law_asked_right
  D__law_right : Df c.K mg "_law_right" s__law_right ["_law_dice_here"]
  D__law_dice : Df c.K mg "_law_dice" s__law_dice ["_law_script", "_law_at"]
  D_law : Df c.K mg "law" s_law ["_law_script"]
  n_Cutter_own_parts : NoAttr c.K (c.ca 21) "own_parts"
  n_Cutter_own_tables : NoAttr c.K (c.ca 21) "own_tables"
  n_Cutter_own_is_whole : NoAttr c.K (c.ca 21) "own_is_whole"
  n_Known_cutters_own_parts : NoAttr c.K (c.ca 20) "own_parts"
  n_Company_own_people : NoAttr c.K (c.ca 22) "own_people"
  n_Company_own_starts : NoAttr c.K (c.ca 22) "own_starts"
  n_Company_own_copies : NoAttr c.K (c.ca 22) "own_copies"
  n_Company_own_answers : NoAttr c.K (c.ca 22) "own_answers"
  n_Company_own_takings : NoAttr c.K (c.ca 22) "own_takings"
  n_Bundle_own_company : NoAttr c.K (c.ca 24) "own_company"
  n_Bundle_own_letters : NoAttr c.K (c.ca 24) "own_letters"
  n_Bundle_own_lists : NoAttr c.K (c.ca 24) "own_lists"
  n_Bundle_own_talks : NoAttr c.K (c.ca 24) "own_talks"
  n_Known_bundles_own_letters : NoAttr c.K (c.ca 23) "own_letters"
  n_Rule_own_cutter : NoAttr c.K (c.ca 25) "own_cutter"
  n_Rule_own_sees : NoAttr c.K (c.ca 25) "own_sees"
  fm_Cutter : PySem.W.findIn c.K (.ref (c.ca 21)) "__format__" = some (some (.builtin "object.__format__")) ∧ PySem.W.mroIn c.K (c.ca 21) (.type "object") = some true
  x_InvalidCutter : XoC c.K mg "InvalidCutter" (c.ca 1) [.type "ValueError", .type "Exception", .type "BaseException", .type "object"] "ValueError.__new__"
  xm_InvalidCutter : mg "InvalidCutter" = some (.ref (c.ca 1))
  x_InvalidCompany : XoC c.K mg "InvalidCompany" (c.ca 2) [.type "ValueError", .type "Exception", .type "BaseException", .type "object"] "ValueError.__new__"
  xm_InvalidCompany : mg "InvalidCompany" = some (.ref (c.ca 2))
  x_InvalidBundle : XoC c.K mg "InvalidBundle" (c.ca 3) [.type "ValueError", .type "Exception", .type "BaseException", .type "object"] "ValueError.__new__"
  xm_InvalidBundle : mg "InvalidBundle" = some (.ref (c.ca 3))
  x_InvalidRule : XoC c.K mg "InvalidRule" (c.ca 4) [.type "ValueError", .type "Exception", .type "BaseException", .type "object"] "ValueError.__new__"
  xm_InvalidRule : mg "InvalidRule" = some (.ref (c.ca 4))
  x_UnknownName : XsC P c.K mg "UnknownName" (c.ca 11) ea.f_UnknownName___init__ "KeyError" "KeyError.__init__" "LookupError.__new__" [.type "KeyError", .type "LookupError", .type "Exception", .type "BaseException", .type "object"] "name" "name" s_UnknownName___init__
  xm_UnknownName : mg "UnknownName" = some (.ref (c.ca 11))
  x_InvalidOperation : XoC c.K mg "InvalidOperation" (c.ca 9) [.type "ValueError", .type "Exception", .type "BaseException", .type "object"] "ValueError.__new__"
  xm_InvalidOperation : mg "InvalidOperation" = some (.ref (c.ca 9))
  meet_InvalidCutter : Meets c [1, 2, 3, 4, 11, 9] 1
  meet_InvalidRule : Meets c [1, 2, 3, 4, 11, 9] 4
  meet_InvalidBundle : Meets c [1, 2, 3, 4, 11, 9] 3
  meet_InvalidCompany : Meets c [1, 2, 3, 4, 11, 9] 2
  meet_InvalidOperation : Meets c [1, 2, 3, 4, 11, 9] 9
  meet_UnknownName : Meets c [1, 2, 3, 4, 11, 9] 11
  ki_InvalidRule_ValueError : Kits c [4] (.blt "ValueError")
  ki_UnknownName_KeyError : Kits c [11] (.blt "KeyError")
  kls : Klss c
  tm__law_made_right : (ea.t__law_made_right, (("_law_made_right" : PySem.Str) ++ ".<locals>.") ++ "<lambda>") ∈ c.tb
  tu__law_made_right : ∀ p ∈ c.tb, p.1 = ea.t__law_made_right → p.2 = (("_law_made_right" : PySem.Str) ++ ".<locals>.") ++ "<lambda>"
  tm__law_asked_right : (ea.t__law_asked_right, (("_law_asked_right" : PySem.Str) ++ ".<locals>.") ++ "<lambda>") ∈ c.tb
  tu__law_asked_right : ∀ p ∈ c.tb, p.1 = ea.t__law_asked_right → p.2 = (("_law_asked_right" : PySem.Str) ++ ".<locals>.") ++ "<lambda>"
end Mw

set_option Elab.async false
set_option linter.all false
set_option maxRecDepth 100000
set_option maxHeartbeats 0
namespace Mw
open PySem PySem.Spec PyProof.Rows L2
def nm0 : List PySem.Str := ["_wall", "__name__", "LetterError", "InvalidCutter", "InvalidCompany", "InvalidBundle", "InvalidRule", "InvalidOperation", "UnknownName", "InvalidNumber", "TooMany", "LETTERS", "LONGEST", "is_name", "is_integer", "is_ascending", "require_flag", "require_number", "MAX_PARTS", "MAX_ROW", "MOST_FRONT", "MOST_BACK", "FEW", "WHOLE", "GAP", "are_signs", "is_part", "part_places", "chain_places", "Known"]
def nm1 : List PySem.Str := ["Known_cutters", "Cutter", "kept_places", "cut", "chained", "require_cutter", "MAX_PEOPLE", "is_turn", "are_people", "are_some", "is_pair", "are_turns", "are_copies", "in_order", "Company", "require_company", "require_person", "require_some", "company_in", "MAX_LETTERS", "turn_behind", "is_letter", "are_letters", "lists_in", "talks_in", "checked", "Known_bundles", "Bundle", "require_bundle", "is_mark_of"]
def nm2 : List PySem.Str := ["require_mark", "bundle_in", "Rule", "through_in", "bound_row", "require_rule", "_law_dice", "_law_roll", "_law_one_of", "_law_signs", "_law_part", "_law_parts", "_law_met", "_law_made_right", "_law_asked_right", "_law_right"]
def names : List PySem.Str := nm0 ++ nm1 ++ nm2
def flS : PySem.Str := (PySem.Challenge.rw_namedabove_k17_errors_of_rules).prog.main.file
def dd_part_places : Dd := { ad := (fun K => He.ga K "part_places"), name := "part_places", qual := "part_places", st := s_part_places }
def dd_chain_places : Dd := { ad := (fun K => He.ga K "chain_places"), name := "chain_places", qual := "chain_places", st := s_chain_places }
def dd_are_signs : Dd := { ad := (fun K => He.ga K "are_signs"), name := "are_signs", qual := "are_signs", st := s_are_signs }
def dd_is_part : Dd := { ad := (fun K => He.ga K "is_part"), name := "is_part", qual := "is_part", st := s_is_part }
def dd_Cutter___init__ : Dd := { ad := meA "Cutter" "__init__", name := "__init__", qual := "Cutter.__init__", st := s_Cutter___init__ }
def dd_Cutter_of : Dd := { ad := cmA "Cutter" "of", name := "of", qual := "Cutter.of", st := s_Cutter_of }
def dd_is_ascending : Dd := { ad := (fun K => He.ga K "is_ascending"), name := "is_ascending", qual := "is_ascending", st := s_is_ascending }
def dd_is_name : Dd := { ad := (fun K => He.ga K "is_name"), name := "is_name", qual := "is_name", st := s_is_name }
def dd_are_people : Dd := { ad := (fun K => He.ga K "are_people"), name := "are_people", qual := "are_people", st := s_are_people }
def dd_are_copies : Dd := { ad := (fun K => He.ga K "are_copies"), name := "are_copies", qual := "are_copies", st := s_are_copies }
def dd_in_order : Dd := { ad := (fun K => He.ga K "in_order"), name := "in_order", qual := "in_order", st := s_in_order }
def dd_are_some : Dd := { ad := (fun K => He.ga K "are_some"), name := "are_some", qual := "are_some", st := s_are_some }
def dd_is_pair : Dd := { ad := (fun K => He.ga K "is_pair"), name := "is_pair", qual := "is_pair", st := s_is_pair }
def dd_is_turn : Dd := { ad := (fun K => He.ga K "is_turn"), name := "is_turn", qual := "is_turn", st := s_is_turn }
def dd_are_turns : Dd := { ad := (fun K => He.ga K "are_turns"), name := "are_turns", qual := "are_turns", st := s_are_turns }
def dd_Company___init__ : Dd := { ad := meA "Company" "__init__", name := "__init__", qual := "Company.__init__", st := s_Company___init__, kwd := [("takings", .non), ("starts", .non), ("copies", .non)] }
def dd_require_company : Dd := { ad := (fun K => He.ga K "require_company"), name := "require_company", qual := "require_company", st := s_require_company }
def dd_turn_behind : Dd := { ad := (fun K => He.ga K "turn_behind"), name := "turn_behind", qual := "turn_behind", st := s_turn_behind }
def dd_kept_places : Dd := { ad := (fun K => He.ga K "kept_places"), name := "kept_places", qual := "kept_places", st := s_kept_places }
def dd_cut : Dd := { ad := (fun K => He.ga K "cut"), name := "cut", qual := "cut", st := s_cut }
def dd_lists_in : Dd := { ad := (fun K => He.ga K "lists_in"), name := "lists_in", qual := "lists_in", st := s_lists_in }
def dd_talks_in : Dd := { ad := (fun K => He.ga K "talks_in"), name := "talks_in", qual := "talks_in", st := s_talks_in }
def dd_is_integer : Dd := { ad := (fun K => He.ga K "is_integer"), name := "is_integer", qual := "is_integer", st := s_is_integer }
def dd_is_letter : Dd := { ad := (fun K => He.ga K "is_letter"), name := "is_letter", qual := "is_letter", st := s_is_letter }
def dd_are_letters : Dd := { ad := (fun K => He.ga K "are_letters"), name := "are_letters", qual := "are_letters", st := s_are_letters }
def dd_checked : Dd := { ad := (fun K => He.ga K "checked"), name := "checked", qual := "checked", st := s_checked }
def dd_Bundle___init__ : Dd := { ad := meA "Bundle" "__init__", name := "__init__", qual := "Bundle.__init__", st := s_Bundle___init__ }
def dd_require_cutter : Dd := { ad := (fun K => He.ga K "require_cutter"), name := "require_cutter", qual := "require_cutter", st := s_require_cutter }
def dd_Rule___init__ : Dd := { ad := meA "Rule" "__init__", name := "__init__", qual := "Rule.__init__", st := s_Rule___init__, kwd := [("sees_lost", .bl false)] }
def dd_Cutter___str__ : Dd := { ad := meA "Cutter" "__str__", name := "__str__", qual := "Cutter.__str__", st := s_Cutter___str__ }
def dd_Rule___str__ : Dd := { ad := meA "Rule" "__str__", name := "__str__", qual := "Rule.__str__", st := s_Rule___str__ }
def dd_Cutter_parts : Dd := { ad := prA "Cutter" "parts", name := "parts", qual := "Cutter.parts", st := s_Cutter_parts }
def dd_require_bundle : Dd := { ad := (fun K => He.ga K "require_bundle"), name := "require_bundle", qual := "require_bundle", st := s_require_bundle }
def dd_is_mark_of : Dd := { ad := (fun K => He.ga K "is_mark_of"), name := "is_mark_of", qual := "is_mark_of", st := s_is_mark_of }
def dd_require_mark : Dd := { ad := (fun K => He.ga K "require_mark"), name := "require_mark", qual := "require_mark", st := s_require_mark }
def dd_bound_row : Dd := { ad := (fun K => He.ga K "bound_row"), name := "bound_row", qual := "bound_row", st := s_bound_row }
def dd_Rule_bound : Dd := { ad := meA "Rule" "bound", name := "bound", qual := "Rule.bound", st := s_Rule_bound }
def dd_Rule_cutter : Dd := { ad := prA "Rule" "cutter", name := "cutter", qual := "Rule.cutter", st := s_Rule_cutter }
def dd__law_roll : Dd := { ad := (fun K => He.ga K "_law_roll"), name := "_law_roll", qual := "_law_roll", st := s__law_roll }
def dd__law_one_of : Dd := { ad := (fun K => He.ga K "_law_one_of"), name := "_law_one_of", qual := "_law_one_of", st := s__law_one_of }
def dd__law_signs : Dd := { ad := (fun K => He.ga K "_law_signs"), name := "_law_signs", qual := "_law_signs", st := s__law_signs }
def dd__law_part : Dd := { ad := (fun K => He.ga K "_law_part"), name := "_law_part", qual := "_law_part", st := s__law_part }
def dd__law_parts : Dd := { ad := (fun K => He.ga K "_law_parts"), name := "_law_parts", qual := "_law_parts", st := s__law_parts }
def dd__law_met : Dd := { ad := (fun K => He.ga K "_law_met"), name := "_law_met", qual := "_law_met", st := s__law_met }
def dd__law_made_right : Dd := { ad := (fun K => He.ga K "_law_made_right"), name := "_law_made_right", qual := "_law_made_right", st := s__law_made_right }
def dd_Bundle_letters : Dd := { ad := prA "Bundle" "letters", name := "letters", qual := "Bundle.letters", st := s_Bundle_letters }
def dd_Bundle___len__ : Dd := { ad := meA "Bundle" "__len__", name := "__len__", qual := "Bundle.__len__", st := s_Bundle___len__ }
def dd_Company_people : Dd := { ad := prA "Company" "people", name := "people", qual := "Company.people", st := s_Company_people }
def dd_Cutter_is_within : Dd := { ad := meA "Cutter" "is_within", name := "is_within", qual := "Cutter.is_within", st := s_Cutter_is_within }
def dd_require_rule : Dd := { ad := (fun K => He.ga K "require_rule"), name := "require_rule", qual := "require_rule", st := s_require_rule }
def dd_Rule_is_within : Dd := { ad := meA "Rule" "is_within", name := "is_within", qual := "Rule.is_within", st := s_Rule_is_within }
def dd_require_person : Dd := { ad := (fun K => He.ga K "require_person"), name := "require_person", qual := "require_person", st := s_require_person }
def dd_Known_cutters___init__ : Dd := { ad := meA "Known_cutters" "__init__", name := "__init__", qual := "Known.__init__", st := s_Known_cutters___init__ }
def dd_chained : Dd := { ad := (fun K => He.ga K "chained"), name := "chained", qual := "chained", st := s_chained }
def dd_through_in : Dd := { ad := (fun K => He.ga K "through_in"), name := "through_in", qual := "through_in", st := s_through_in }
def dd_Rule_through : Dd := { ad := meA "Rule" "through", name := "through", qual := "Rule.through", st := s_Rule_through }
def dd_Cutter___call__ : Dd := { ad := meA "Cutter" "__call__", name := "__call__", qual := "Cutter.__call__", st := s_Cutter___call__ }
def dd_Rule___call__ : Dd := { ad := meA "Rule" "__call__", name := "__call__", qual := "Rule.__call__", st := s_Rule___call__ }
def dd__law_asked_right : Dd := { ad := (fun K => He.ga K "_law_asked_right"), name := "_law_asked_right", qual := "_law_asked_right", st := s__law_asked_right }
def dd__law_right : Dd := { ad := (fun K => He.ga K "_law_right"), name := "_law_right", qual := "_law_right", st := s__law_right }
def dd__law_dice : Dd := { ad := (fun K => He.ga K "_law_dice"), name := "_law_dice", qual := "_law_dice", st := s__law_dice }
def dd_law : Dd := { ad := (fun K => He.ga K "law"), name := "law", qual := "law", st := s_law }
def dd_UnknownName___init__ : Dd := { ad := meA "UnknownName" "__init__", name := "__init__", qual := "UnknownName.__init__", st := s_UnknownName___init__, sup := true }
def fns : List Dd := [dd_part_places, dd_chain_places, dd_are_signs, dd_is_part, dd_Cutter___init__, dd_Cutter_of, dd_is_ascending, dd_is_name, dd_are_people, dd_are_copies, dd_in_order, dd_are_some, dd_is_pair, dd_is_turn, dd_are_turns, dd_Company___init__, dd_require_company, dd_turn_behind, dd_kept_places, dd_cut, dd_lists_in, dd_talks_in, dd_is_integer, dd_is_letter, dd_are_letters, dd_checked, dd_Bundle___init__, dd_require_cutter, dd_Rule___init__, dd_Cutter___str__, dd_Rule___str__, dd_Cutter_parts, dd_require_bundle, dd_is_mark_of, dd_require_mark, dd_bound_row, dd_Rule_bound, dd_Rule_cutter, dd__law_roll, dd__law_one_of, dd__law_signs, dd__law_part, dd__law_parts, dd__law_met, dd__law_made_right, dd_Bundle_letters, dd_Bundle___len__, dd_Company_people, dd_Cutter_is_within, dd_require_rule, dd_Rule_is_within, dd_require_person, dd_Known_cutters___init__, dd_chained, dd_through_in, dd_Rule_through, dd_Cutter___call__, dd_Rule___call__, dd__law_asked_right, dd__law_right, dd__law_dice, dd_law, dd_UnknownName___init__]
def fs0 : List Ft := [fFree "range", fFree "max", fFree "min", fFree "len", fFree "tuple", fFree "str", fFree "isinstance", fFree "all", fFree "list", fFree "enumerate", fFree "zip", fFree "dict", fFree "sorted", fFree "bool", fFree "int", fFree "ValueError", fFree "KeyError", fFree "repr", fFree "abs", fVal "MAX_PARTS" (.int 4), fVal "WHOLE" (.str "all"), fVal "FEW" (.int 5), fVal "GAP" (.str ".."), fVal "MOST_FRONT" (.int 2), fVal "MOST_BACK" (.int 3), fVal "MAX_PEOPLE" (.int 4), fVal "LONGEST" (.int 8), fVal "LETTERS" (.str "abcdefghijklmnopqrstuvwxyz"), fVal "MAX_LETTERS" (.int 40), fVal "MAX_ROW" (.int 1000)]
def fs1 : List Ft := [fGlo "Known_cutters", fCls "Known_cutters", fGlo "Cutter", fCls "Cutter", fGlo "Company", fCls "Company", fGlo "Known_bundles", fCls "Known_bundles", fGlo "Bundle", fCls "Bundle", fGlo "Rule", fCls "Rule", fGlo "part_places", fGlo "chain_places", fGlo "are_signs", fGlo "is_part", fMe "Cutter" "__init__", fMk "Cutter", fCm "Cutter" "of", fGlo "is_ascending", fGlo "is_name", fGlo "are_people", fGlo "are_copies", fGlo "in_order", fGlo "are_some", fGlo "is_pair", fGlo "is_turn", fGlo "are_turns", fMe "Company" "__init__", fMk "Company"]
def fs2 : List Ft := [fGlo "require_company", fGlo "turn_behind", fGlo "kept_places", fGlo "cut", fGlo "lists_in", fGlo "talks_in", fGlo "is_integer", fGlo "is_letter", fGlo "are_letters", fGlo "checked", fMe "Bundle" "__init__", fMk "Bundle", fGlo "require_cutter", fMe "Rule" "__init__", fMk "Rule", fMe "Cutter" "__str__", fMe "Rule" "__str__", fPr "Cutter" "parts", fGlo "require_bundle", fGlo "is_mark_of", fGlo "require_mark", fGlo "bound_row", fMe "Rule" "bound", fPr "Rule" "cutter", fGlo "_law_roll", fGlo "_law_one_of", fGlo "_law_signs", fGlo "_law_part", fGlo "_law_parts", fGlo "_law_met"]
def fs3 : List Ft := [fGlo "_law_made_right", fPr "Bundle" "letters", fMe "Bundle" "__len__", fPr "Company" "people", fMe "Cutter" "is_within", fGlo "require_rule", fMe "Rule" "is_within", fGlo "require_person", fMe "Known_cutters" "__init__", fMk "Known_cutters", fGlo "chained", fGlo "through_in", fMe "Rule" "through", fMe "Cutter" "__call__", fFnIn "Cutter" "__call__", fMe "Rule" "__call__", fFnIn "Rule" "__call__", fGlo "_law_asked_right", fGlo "_law_right", fGlo "_law_dice", fGlo "law", fNo "Cutter" "own_parts", fNo "Cutter" "own_tables", fNo "Cutter" "own_is_whole", fNo "Known_cutters" "own_parts", fNo "Company" "own_people", fNo "Company" "own_starts", fNo "Company" "own_copies", fNo "Company" "own_answers", fNo "Company" "own_takings"]
def fs4 : List Ft := [fNo "Bundle" "own_company", fNo "Bundle" "own_letters", fNo "Bundle" "own_lists", fNo "Bundle" "own_talks", fNo "Known_bundles" "own_letters", fNo "Rule" "own_cutter", fNo "Rule" "own_sees", fFmt "Cutter", fGlo "InvalidCutter", fExc "InvalidCutter" [.type "ValueError", .type "Exception", .type "BaseException", .type "object"] "ValueError.__new__", fKeep "InvalidCutter", fSubT "InvalidCutter" "BaseException", fTy "InvalidCutter", fHd "InvalidCutter", fGlo "InvalidCompany", fExc "InvalidCompany" [.type "ValueError", .type "Exception", .type "BaseException", .type "object"] "ValueError.__new__", fKeep "InvalidCompany", fSubT "InvalidCompany" "BaseException", fTy "InvalidCompany", fHd "InvalidCompany", fGlo "InvalidBundle", fExc "InvalidBundle" [.type "ValueError", .type "Exception", .type "BaseException", .type "object"] "ValueError.__new__", fKeep "InvalidBundle", fSubT "InvalidBundle" "BaseException", fTy "InvalidBundle", fHd "InvalidBundle", fGlo "InvalidRule", fExc "InvalidRule" [.type "ValueError", .type "Exception", .type "BaseException", .type "object"] "ValueError.__new__", fKeep "InvalidRule", fSubT "InvalidRule" "BaseException"]
def fs5 : List Ft := [fTy "InvalidRule", fHd "InvalidRule", fGlo "UnknownName", fSupC "UnknownName" [.type "KeyError", .type "LookupError", .type "Exception", .type "BaseException", .type "object"] "LookupError.__new__", fSupF "UnknownName" flS, fSupX "UnknownName" "name" "KeyError" "KeyError.__init__" [.type "KeyError", .type "LookupError", .type "Exception", .type "BaseException", .type "object"], fFree "super", fGlo "InvalidOperation", fExc "InvalidOperation" [.type "ValueError", .type "Exception", .type "BaseException", .type "object"] "ValueError.__new__", fKeep "InvalidOperation", fSubT "InvalidOperation" "BaseException", fTy "InvalidOperation", fHd "InvalidOperation", fSub "InvalidCutter" "InvalidCutter" true, fSub "InvalidCompany" "InvalidCutter" false, fSub "InvalidBundle" "InvalidCutter" false, fSub "InvalidRule" "InvalidCutter" false, fSub "UnknownName" "InvalidCutter" false, fSub "InvalidOperation" "InvalidCutter" false, fSub "InvalidCutter" "InvalidRule" false, fSub "InvalidCompany" "InvalidRule" false, fSub "InvalidBundle" "InvalidRule" false, fSub "InvalidRule" "InvalidRule" true, fSub "UnknownName" "InvalidRule" false, fSub "InvalidOperation" "InvalidRule" false, fSub "InvalidCutter" "InvalidBundle" false, fSub "InvalidCompany" "InvalidBundle" false, fSub "InvalidBundle" "InvalidBundle" true, fSub "InvalidRule" "InvalidBundle" false, fSub "UnknownName" "InvalidBundle" false]
def fs6 : List Ft := [fSub "InvalidOperation" "InvalidBundle" false, fSub "InvalidCutter" "InvalidCompany" false, fSub "InvalidCompany" "InvalidCompany" true, fSub "InvalidBundle" "InvalidCompany" false, fSub "InvalidRule" "InvalidCompany" false, fSub "UnknownName" "InvalidCompany" false, fSub "InvalidOperation" "InvalidCompany" false, fSub "InvalidCutter" "InvalidOperation" false, fSub "InvalidCompany" "InvalidOperation" false, fSub "InvalidBundle" "InvalidOperation" false, fSub "InvalidRule" "InvalidOperation" false, fSub "UnknownName" "InvalidOperation" false, fSub "InvalidOperation" "InvalidOperation" true, fSubT "UnknownName" "BaseException", fHd "UnknownName", fTy "UnknownName", fSub "InvalidCutter" "UnknownName" false, fSub "InvalidCompany" "UnknownName" false, fSub "InvalidBundle" "UnknownName" false, fSub "InvalidRule" "UnknownName" false, fSub "UnknownName" "UnknownName" true, fSub "InvalidOperation" "UnknownName" false, fKitB "InvalidRule" "ValueError" true, fExcC "InvalidRule", fKitB "UnknownName" "KeyError" true, fExcC "UnknownName", fKit "Cutter" "Known_cutters", fKit "Company" "Known_cutters", fKit "Known_bundles" "Known_cutters", fKit "Bundle" "Known_cutters"]
def fs7 : List Ft := [fKit "Rule" "Known_cutters", fKit "Known_cutters" "Cutter", fKit "Company" "Cutter", fKit "Known_bundles" "Cutter", fKit "Bundle" "Cutter", fKit "Rule" "Cutter", fKit "Known_cutters" "Company", fKit "Cutter" "Company", fKit "Known_bundles" "Company", fKit "Bundle" "Company", fKit "Rule" "Company", fKit "Known_cutters" "Known_bundles", fKit "Cutter" "Known_bundles", fKit "Company" "Known_bundles", fKit "Bundle" "Known_bundles", fKit "Rule" "Known_bundles", fKit "Known_cutters" "Bundle", fKit "Cutter" "Bundle", fKit "Company" "Bundle", fKit "Known_bundles" "Bundle", fKit "Rule" "Bundle", fKit "Known_cutters" "Rule", fKit "Cutter" "Rule", fKit "Company" "Rule", fKit "Known_bundles" "Rule", fKit "Bundle" "Rule", fNeA (fun K => He.tabOf K (codeA K (He.ga K "_law_asked_right"))) (fun K => He.tabOf K (codeA K (He.ga K "_law_made_right"))), fNeA (fun K => He.tabOf K (codeA K (He.ga K "_law_made_right"))) (fun K => He.tabOf K (codeA K (He.ga K "_law_asked_right")))]
def fss : List Ft := fs0 ++ fs1 ++ fs2 ++ fs3 ++ fs4 ++ fs5 ++ fs6 ++ fs7
def rts : List PySem.Str := (["Known_cutters", "Cutter", "Company", "Known_bundles", "Bundle", "Rule", "part_places", "chain_places", "are_signs", "is_part", "is_ascending", "is_name", "are_people", "are_copies", "in_order", "are_some", "is_pair", "is_turn", "are_turns", "require_company", "turn_behind", "kept_places", "cut", "lists_in", "talks_in", "is_integer", "is_letter", "are_letters", "checked", "require_cutter"] : List PySem.Str) ++ (["require_bundle", "is_mark_of", "require_mark", "bound_row", "_law_roll", "_law_one_of", "_law_signs", "_law_part", "_law_parts", "_law_met", "_law_made_right", "require_rule", "require_person", "chained", "through_in", "_law_asked_right", "_law_right", "_law_dice", "law", "InvalidCutter", "InvalidCompany", "InvalidBundle", "InvalidRule", "UnknownName", "InvalidOperation"] : List PySem.Str)
abbrev R : PySem.W.OpenRow := PySem.W.OpenLaw.row PySem.Challenge.rw_namedabove_k17_errors_of_rules
def tfs : List (PySem.W.Frag → Addr) := [fun K => He.ga K "_law_made_right", fun K => He.ga K "_law_asked_right"]
abbrev hk : PySem.W.Hook := hookM 2 rts fss fns tfs
def ob (s : PySem.W.SharedT) : AlT := obsMG 2 rts fss fns tfs (HandSHeadRun.getT s)
theorem ob_eq (s : PySem.W.SharedT) : ob s = hk.obs s.abs := obsMG_eq (HandSHeadRun.getT_eq s)
theorem run (w : World) : HandSHeadRun.RunEq R (PySem.W.view R.prog [83]) hk ob 20000 names w := by
  intro os
  kernel_rfl
end Mw

set_option Elab.async false
set_option linter.all false
set_option maxRecDepth 100000
set_option maxHeartbeats 4000000
/-! CutM: what a cutter keeps, in plain lists. -/
namespace Mw
open PySem PySem.Spec PyProof.Rows L2
open SX (S)
inductive Part where
  | all | pat (f b : List Bool)
def sg (b : Bool) : Nat := if b then 43 else 45
def Part.txt : Part → List Nat
  | .all => [97, 108, 108]
  | .pat f b => f.map sg ++ [46, 46] ++ b.map sg
def Part.ok : Part → Prop
  | .all => True
  | .pat f b => f.length ≤ 2 ∧ b.length ≤ 3
def Part.isAll : Part → Bool
  | .all => true
  | .pat _ _ => false
abbrev Part.s (p : Part) : Str := S p.txt
abbrev Part.d (p : Part) : Dt := .str p.s
theorem txt_len {p : Part} (h : p.ok) : p.txt.length ≤ 7 := by
  cases p with
  | all => decide
  | pat f b => have := h.1; have := h.2; simp [Part.txt]; omega
/-- ways to look through the few patterns that there are -/
theorem pat_cases {P : List Bool → List Bool → Prop} (h : ∀ f ∈ [[], [true], [false], [true, true], [true, false], [false, true], [false, false]], ∀ b ∈ [[], [true], [false], [true, true], [true, false], [false, true], [false, false], [true, true, true], [true, true, false], [true, false, true], [true, false, false], [false, true, true], [false, true, false], [false, false, true], [false, false, false]], P f b)
    {f b : List Bool} (hf : f.length ≤ 2) (hb : b.length ≤ 3) : P f b := by
  refine h f ?_ b ?_
  · match f, hf with
    | [], _ => simp
    | [x], _ => cases x <;> simp
    | [x, y], _ => cases x <;> cases y <;> simp
  · match b, hb with
    | [], _ => simp
    | [x], _ => cases x <;> simp
    | [x, y], _ => cases x <;> cases y <;> simp
    | [x, y, z], _ => cases x <;> cases y <;> cases z <;> simp
theorem split_pat {f b : List Bool} (hf : f.length ≤ 2) (hb : b.length ≤ 3) : Txt.split (S (Part.pat f b).txt) (S [46, 46]) = [S (f.map sg), S (b.map sg)] := by
  rw [SX.split_S (by decide) (by decide)]
  have : TL.spl [46, 46] 0 [] (Part.pat f b).txt = [f.map sg, b.map sg] :=
    pat_cases (P := fun f b => TL.spl [46, 46] 0 [] (Part.pat f b).txt = [f.map sg, b.map sg]) (by decide) hf hb
  rw [this]; rfl
theorem pat_ne_all {f b : List Bool} (hf : f.length ≤ 2) (hb : b.length ≤ 3) : (Part.pat f b).txt ≠ [97, 108, 108] :=
  pat_cases (P := fun f b => (Part.pat f b).txt ≠ [97, 108, 108]) (by decide) hf hb
theorem S_inj {a b : List Nat} (h : S a = S b) : a = b := by
  have := congrArg (fun x : Str => x.cps.toList) h
  simpa [SX.S] using this
theorem part_all {p : Part} (h : p.ok) : decide (p.s = "all") = p.isAll := by
  have e : ("all" : Str) = S [97, 108, 108] := rfl
  rw [e]
  cases p with
  | all => exact decide_eq_true rfl
  | pat f b => exact decide_eq_false fun q => pat_ne_all h.1 h.2 (S_inj q)
/-! ### places -/
def keepB (f b : List Bool) (n p : Nat) : Bool := f.getD p false || (decide (n ≤ p + b.length) && b.getD (p + b.length - n) false)
def Part.pl : Part → Nat → List Nat
  | .all, n => List.range n
  | .pat f b, n => (List.range n).filter (keepB f b n)
def cutRow {α : Type} (p : Part) (row : List α) : List α := (p.pl row.length).filterMap (row[·]?)
def kept {α : Type} : List Part → List α → List α
  | [], row => row
  | p :: ps, row => kept ps (cutRow p row)
def chain (ps : List Part) (n : Nat) : List Nat := kept ps (List.range n)
theorem range_all {α : Type} : ∀ (row : List α), (List.range row.length).filterMap (row[·]?) = row
  | [] => rfl
  | x :: row => by
    have ih := range_all row
    rw [List.length_cons, List.range_succ_eq_map, List.filterMap_cons]
    simp only [List.getElem?_cons_zero]
    rw [List.filterMap_map]
    have : ((fun i => (x :: row)[i]?) ∘ Nat.succ) = fun i => row[i]? := by funext i; simp
    rw [this, ih]
theorem cut_all {α : Type} (row : List α) : cutRow .all row = row := range_all row
theorem cut_map {α β : Type} (g : α → β) (p : Part) (row : List α) : cutRow p (row.map g) = (cutRow p row).map g := by
  unfold cutRow
  rw [List.length_map, List.map_filterMap]
  congr 1
  funext i
  simp
theorem kept_map {α β : Type} (g : α → β) : ∀ (ps : List Part) (row : List α), kept ps (row.map g) = (kept ps row).map g
  | [], _ => rfl
  | p :: ps, row => by
    show kept ps (cutRow p (row.map g)) = (kept ps (cutRow p row)).map g
    rw [cut_map, kept_map g ps]
theorem cut_sub {α : Type} (p : Part) (row : List α) : (cutRow p row).Sublist row := by
  cases p with
  | all => rw [cut_all]; exact List.Sublist.refl _
  | pat f b =>
    have h := (List.filter_sublist (p := keepB f b row.length) (l := List.range row.length)).filterMap (row[·]?)
    rw [range_all] at h
    exact h
theorem kept_sub {α : Type} : ∀ (ps : List Part) (row : List α), (kept ps row).Sublist row
  | [], row => List.Sublist.refl _
  | p :: ps, row => (kept_sub ps (cutRow p row)).trans (cut_sub p row)
/-- strictly ascending lists with the same members are the same -/
theorem ascN_eq : ∀ {l m : List Nat}, l.Pairwise (· < ·) → m.Pairwise (· < ·) → (∀ x, x ∈ l ↔ x ∈ m) → l = m
  | [], [], _, _, _ => rfl
  | [], y :: m, _, _, h => absurd ((h y).mpr (by simp)) (by simp)
  | x :: l, [], _, _, h => absurd ((h x).mp (by simp)) (by simp)
  | x :: l, y :: m, h1, h2, h => by
    have a := List.pairwise_cons.mp h1
    have b := List.pairwise_cons.mp h2
    have e : x = y := by
      have hx := (h x).mp (by simp)
      have hy := (h y).mpr (by simp)
      rcases List.mem_cons.mp hx with c | c
      · exact c
      · rcases List.mem_cons.mp hy with d | d
        · exact d.symm
        · have := a.1 y d; have := b.1 x c; omega
    subst e
    rw [ascN_eq a.2 b.2 fun z => ?_]
    have hz := h z
    simp only [List.mem_cons] at hz
    refine ⟨fun c => ?_, fun c => ?_⟩
    · rcases hz.mp (.inr c) with d | d
      · have := a.1 z c; omega
      · exact d
    · rcases hz.mpr (.inr c) with d | d
      · have := b.1 z c; omega
      · exact d
theorem chain_asc (ps : List Part) (n : Nat) : (chain ps n).Pairwise (· < ·) := List.Pairwise.sublist (kept_sub ps _) List.pairwise_lt_range
theorem chain_lt {ps : List Part} {n x : Nat} (h : x ∈ chain ps n) : x < n := List.mem_range.mp ((kept_sub ps _).subset h)
theorem chain_len (ps : List Part) (n : Nat) : (chain ps n).length ≤ n := by
  have := (kept_sub ps (List.range n)).length_le
  rwa [List.length_range] at this
/-! ### from five places to any number -/
def far (n p : Nat) : Nat := if p < 2 then p else n - 5 + p
theorem cut_range (p : Part) (n : Nat) : cutRow p (List.range n) = p.pl n := by
  unfold cutRow
  rw [List.length_range]
  have h : ∀ l : List Nat, (∀ x ∈ l, x < n) → l.filterMap ((List.range n)[·]?) = l := fun l hl => by
    induction l with
    | nil => rfl
    | cons x l ih =>
      have hx : x < n := hl x (by simp)
      rw [List.filterMap_cons]
      have e : (List.range n)[x]? = some x := by simp [hx]
      rw [e]
      simp only
      rw [ih fun y hy => hl y (by simp [hy])]
  refine h _ fun x hx => ?_
  cases p with
  | all => exact List.mem_range.mp hx
  | pat f b => exact List.mem_range.mp (List.mem_filter.mp hx).1
theorem range_far (m : Nat) : List.range (m + 5) = [0, 1] ++ (List.range m).map (· + 2) ++ [m + 2, m + 3, m + 4] := by
  rw [show m + 5 = 2 + (m + 3) by omega, List.range_add, List.range_add]
  simp only [List.map_append, List.map_map]
  have e1 : List.range 2 = [0, 1] := by decide
  have e2 : List.range 3 = [0, 1, 2] := by decide
  rw [e1, e2, List.append_assoc]
  congr 1
  congr 1
  · refine List.map_congr_left fun x _ => ?_; omega
  · simp; omega
theorem pl_far {f b : List Bool} (hf : f.length ≤ 2) (hb : b.length ≤ 3) (m : Nat) : (Part.pat f b).pl (m + 5) = ((Part.pat f b).pl 5).map (far (m + 5)) := by
  show (List.range (m + 5)).filter (keepB f b (m + 5)) = ((List.range 5).filter (keepB f b 5)).map (far (m + 5))
  have k0 : ∀ p, 2 ≤ p → f.getD p false = false := fun p hp => by
    rw [List.getD_eq_getElem?_getD, List.getElem?_eq_none (by omega)]; rfl
  have mid : ((List.range m).map (· + 2)).filter (keepB f b (m + 5)) = [] := by
    rw [List.filter_eq_nil_iff]
    intro x hx
    obtain ⟨y, hy, rfl⟩ := List.mem_map.mp hx
    have hy := List.mem_range.mp hy
    unfold keepB
    rw [k0 _ (by omega), decide_eq_false (by omega), Bool.false_and]
    decide
  have front : ∀ p, p < 2 → keepB f b (m + 5) p = keepB f b 5 p := fun p hp => by
    unfold keepB
    rw [decide_eq_false (by omega), decide_eq_false (by omega), Bool.false_and, Bool.false_and]
  have back : ∀ p, p < 3 → keepB f b (m + 5) (m + 2 + p) = keepB f b 5 (2 + p) := fun p hp => by
    unfold keepB
    rw [k0 _ (by omega), k0 _ (by omega)]
    have e1 : m + 2 + p + b.length - (m + 5) = 2 + p + b.length - 5 := by omega
    have e2 : decide (m + 5 ≤ m + 2 + p + b.length) = decide (5 ≤ 2 + p + b.length) := by rw [decide_eq_decide]; omega
    rw [e1, e2]
  have e5 : List.range 5 = [0, 1] ++ [2, 3, 4] := by decide
  rw [range_far, e5, List.filter_append, List.filter_append, mid, List.append_nil, List.filter_append, List.map_append]
  congr 1
  · have h0 := front 0 (by omega)
    have h1 := front 1 (by omega)
    cases c0 : keepB f b 5 0 <;> cases c1 : keepB f b 5 1 <;> rw [c0] at h0 <;> rw [c1] at h1 <;> simp [List.filter_cons, h0, h1, c0, c1, far]
  · have h0 := back 0 (by omega)
    have h1 := back 1 (by omega)
    have h2 := back 2 (by omega)
    simp only [Nat.add_zero, Nat.reduceAdd] at h0 h1 h2
    rw [show m + 2 + 1 = m + 3 by omega] at h1
    rw [show m + 2 + 2 = m + 4 by omega] at h2
    have f2 : far (m + 5) 2 = m + 2 := by unfold far; rw [if_neg (by omega)]; omega
    have f3 : far (m + 5) 3 = m + 3 := by unfold far; rw [if_neg (by omega)]; omega
    have f4 : far (m + 5) 4 = m + 4 := by unfold far; rw [if_neg (by omega)]; omega
    cases c0 : keepB f b 5 2 <;> cases c1 : keepB f b 5 3 <;> cases c2 : keepB f b 5 4 <;> rw [c0] at h0 <;> rw [c1] at h1 <;> rw [c2] at h2 <;> simp [List.filter_cons, h0, h1, h2, c0, c1, c2, f2, f3, f4]
theorem kept_far : ∀ {ps : List Part} (m : Nat), (∀ p ∈ ps, p.ok) → kept ps (List.range (m + 5)) = if ps.all Part.isAll = true then List.range (m + 5) else (kept ps (List.range 5)).map (far (m + 5))
  | [], m, _ => rfl
  | .all :: ps, m, h => by
    show kept ps (cutRow .all (List.range (m + 5))) = if (true && ps.all Part.isAll) = true then _ else (kept ps (cutRow .all (List.range 5))).map _
    rw [cut_all, cut_all, Bool.true_and]
    exact kept_far m fun p hp => h p (by simp [hp])
  | .pat f b :: ps, m, h => by
    have hp : (Part.pat f b).ok := h _ (by simp)
    show kept ps (cutRow (.pat f b) (List.range (m + 5))) = if (false && ps.all Part.isAll) = true then _ else (kept ps (cutRow (.pat f b) (List.range 5))).map _
    rw [cut_range, cut_range, Bool.false_and, if_neg Bool.false_ne_true, pl_far hp.1 hp.2, kept_map]
theorem chain_far {ps : List Part} {n : Nat} (hn : 5 ≤ n) (h : ∀ p ∈ ps, p.ok) : chain ps n = if ps.all Part.isAll = true then List.range n else (chain ps 5).map (far n) := by
  obtain ⟨m, rfl⟩ : ∃ m, n = m + 5 := ⟨n - 5, by omega⟩
  exact kept_far m h
/-- alike by tables and wholeness: just if they keep the same of up to six places -/
theorem same_iff {ps qs : List Part} (hp : ∀ p ∈ ps, p.ok) (hq : ∀ p ∈ qs, p.ok) : ((∀ n, n < 6 → chain ps n = chain qs n) ∧ ps.all Part.isAll = qs.all Part.isAll) ↔ ∀ n, n < 7 → chain ps n = chain qs n := by
  constructor
  · rintro ⟨h1, h2⟩ n hn
    by_cases c : n < 6
    · exact h1 n c
    · rw [chain_far (by omega) hp, chain_far (by omega) hq, h2, h1 5 (by omega)]
  · intro h
    refine ⟨fun n hn => h n (by omega), ?_⟩
    have h6 := congrArg List.length (h 6 (by omega))
    rw [chain_far (by omega) hp, chain_far (by omega) hq] at h6
    have l1 := chain_len ps 5
    have l2 := chain_len qs 5
    cases c1 : ps.all Part.isAll <;> cases c2 : qs.all Part.isAll <;> simp [c1, c2] at h6 <;> first | rfl | omega
end Mw

set_option Elab.async false
set_option linter.all false
set_option maxRecDepth 100000
set_option maxHeartbeats 4000000
namespace Mw
open PySem PySem.Spec PyProof.Rows L2
open SX (S)
theorem str_S (x : Str) : x = S x.cps.toList := (SX.S_tl x).symm
theorem cut_to {l : List Nat} {n : Nat} : cutS (S l) none (some (n : Int)) = S (l.take n) := by
  unfold cutS
  rw [HT.sIx_none, HT.sIx_nat, SX.S_len]
  simp
theorem cut_from {l : List Nat} {n : Nat} : cutS (S l) (some (n : Int)) none = S (l.drop n) := by
  unfold cutS
  rw [HT.sIx_none, HT.sIx_nat, SX.S_len]
  simp
  show List.take (l.length - min n l.length) (List.drop (min n l.length) l) = List.drop n l
  by_cases h : n ≤ l.length
  · rw [Nat.min_eq_left h, List.take_of_length_le (by simp)]
  · rw [Nat.min_eq_right (by omega), List.drop_length, List.drop_of_length_le (by omega)]; simp
theorem joinE : ∀ ys : List (List Nat), TL.joinL [] ys = ys.flatten
  | [] => rfl
  | [p] => by simp [TL.joinL]
  | p :: q :: r => by
    show p ++ ([] ++ TL.joinL [] (q :: r)) = _
    rw [joinE (q :: r)]; simp
theorem joinOnes (cs : List Nat) : TL.joinL [] (cs.map fun c => [c]) = cs := by
  rw [joinE]
  induction cs with
  | nil => rfl
  | cons c cs ih => simpa using ih
abbrev natsD (l : List Nat) : List Dt := (l.map Int.ofNat).map .int
theorem natsD_get {l : List Nat} {i x : Nat} (h : l[i]? = some x) : (natsD l)[i]? = some (.int x) := by simp [natsD, h]
def isPlus : Dt → Bool
  | .tup [_, .str z] => decide (z = "+")
  | _ => false
def fstI : Dt → Int
  | .tup [.int i, _] => i
  | _ => 0
def ups (f : List Bool) : List Nat := (List.range f.length).filter (f.getD · false)
theorem ups_eq {f : List Bool} (h : f.length ≤ 3) : ((enumD (S (f.map sg))).filter isPlus).map (fun d => Dt.int (fstI d)) = natsD (ups f) := by
  match f, h with
  | [], _ => rfl
  | [x], _ => cases x <;> rfl
  | [x, y], _ => cases x <;> cases y <;> rfl
  | [x, y, z], _ => cases x <;> cases y <;> cases z <;> rfl
theorem ups_far {f : List Bool} (h : f.length ≤ 3) (n : Int) : ((enumD (S (f.map sg))).filter isPlus).map (fun d => Dt.int (n - f.length + fstI d)) = ((ups f).map fun (i : Nat) => n - f.length + (i : Int)).map Dt.int := by
  match f, h with
  | [], _ => rfl
  | [x], _ => cases x <;> rfl
  | [x, y], _ => cases x <;> cases y <;> rfl
  | [x, y, z], _ => cases x <;> cases y <;> cases z <;> rfl
theorem mem_ups {f : List Bool} {i : Nat} : i ∈ ups f ↔ f.getD i false = true := by
  unfold ups
  rw [List.mem_filter, List.mem_range]
  refine ⟨fun h => h.2, fun h => ⟨?_, h⟩⟩
  by_cases c : i < f.length
  · exact c
  · rw [List.getD_eq_getElem?_getD, List.getElem?_eq_none (by omega)] at h
    cases h
theorem keep_mem {f b : List Bool} {n p : Nat} (hp : p < n) : decide ((p : Int) ∈ (ups f).map Int.ofNat ++ (ups b).map fun (i : Nat) => (n : Int) - b.length + (i : Int)) = keepB f b n p := by
  rw [Bool.eq_iff_iff, decide_eq_true_iff]
  unfold keepB
  rw [Bool.or_eq_true, Bool.and_eq_true, decide_eq_true_iff, List.mem_append, List.mem_map, List.mem_map]
  refine or_congr ⟨fun ⟨i, h1, h2⟩ => ?_, fun h => ⟨p, mem_ups.mpr h, rfl⟩⟩ ⟨fun ⟨i, h1, h2⟩ => ?_, fun ⟨h1, h2⟩ => ⟨p + b.length - n, mem_ups.mpr h2, by omega⟩⟩
  · have : i = p := by have h2 : (i : Int) = p := h2; omega
    subst this; exact mem_ups.mp h1
  · have hi := mem_ups.mp h1
    have hi' : i < b.length := by
      by_cases c : i < b.length
      · exact c
      · rw [List.getD_eq_getElem?_getD, List.getElem?_eq_none (by omega)] at hi; cases hi
    have e : p + b.length - n = i := by omega
    rw [e]
    exact ⟨by omega, hi⟩
theorem nat_of {d : Dt} {n : Nat} (h : d ∈ rangeD 0 n) : ∃ p : Nat, p < n ∧ d = .int p := by
  obtain ⟨p, hp, rfl⟩ := List.mem_map.mp h
  exact ⟨p, List.mem_range.mp hp, by simp⟩
def atN : Dt → Nat
  | .int i => i.toNat
  | _ => 0
theorem rangeD_nats (n : Nat) : rangeD 0 n = natsD (List.range n) := by
  unfold rangeD natsD
  rw [List.map_map]
  refine List.map_congr_left fun x _ => ?_
  show Dt.int (0 + (x : Int)) = Dt.int (x : Int)
  rw [Int.zero_add]
theorem filt_nats (q : Nat → Bool) : ∀ l : List Nat, ((natsD l).filter fun d => q (atN d)).map id = natsD (l.filter q)
  | [] => rfl
  | x :: l => by
    have ih := filt_nats q l
    rw [List.map_id] at ih ⊢
    show (Dt.int (x : Int) :: natsD l).filter _ = _
    rw [List.filter_cons, List.filter_cons]
    have e : q (atN (.int (x : Int))) = q x := by show q (x : Int).toNat = _; rw [Int.toNat_natCast]
    rw [e]
    cases q x with
    | true => rw [if_pos rfl, if_pos rfl, ih]; rfl
    | false => rw [if_neg Bool.false_ne_true, if_neg Bool.false_ne_true, ih]
theorem kept_snoc {α : Type} (p : Part) : ∀ (ps : List Part) (row : List α), kept (ps ++ [p]) row = cutRow p (kept ps row)
  | [], _ => rfl
  | q :: ps, row => kept_snoc p ps (cutRow q row)
theorem pl_lt {p : Part} {n x : Nat} (h : x ∈ p.pl n) : x < n := by
  cases p with
  | all => exact List.mem_range.mp h
  | pat f b => exact List.mem_range.mp (List.mem_filter.mp h).1
def pick (row : List Nat) : Dt → Dt
  | .int i => .int (Int.ofNat (row.getD i.toNat 0))
  | d => d
theorem cut_pick (row : List Nat) : ∀ l : List Nat, (∀ x ∈ l, x < row.length) → (natsD l).map (pick row) = natsD (l.filterMap (row[·]?))
  | [], _ => rfl
  | x :: l, h => by
    have hx : x < row.length := h x (by simp)
    have ih := cut_pick row l fun y hy => h y (by simp [hy])
    have e : row[x]? = some row[x] := List.getElem?_eq_getElem hx
    rw [List.filterMap_cons, e]
    show pick row (.int (x : Int)) :: (natsD l).map (pick row) = Dt.int (Int.ofNat row[x]) :: natsD (l.filterMap (row[·]?))
    rw [ih]
    congr 1
    show Dt.int (Int.ofNat (row.getD (x : Int).toNat 0)) = _
    rw [Int.toNat_natCast, List.getD_eq_getElem?_getD, e]; rfl
def cutF (ps : List Part) : List (Str × Dt) := [("own_parts", .tup (ps.map Part.d)), ("own_tables", .tup ((List.range 6).map fun n => .tup (natsD (chain ps n)))), ("own_is_whole", .bl (ps.all Part.isAll))]
def Oks (ps : List Part) : Prop := (∀ p ∈ ps, p.ok) ∧ ps.length ≤ 4
def strOf (ps : List Part) : Str := if ps.isEmpty = true then "all" else Txt.join " > " (ps.map Part.s)
theorem kept_get {α : Type} (d : α) (ps : List Part) (row : List α) : kept ps row = (chain ps row.length).map fun i => row.getD i d := by
  have e : row = (List.range row.length).map fun i => row.getD i d := by
    refine List.ext_getElem? fun i => ?_
    rw [List.getElem?_map]
    by_cases c : i < row.length
    · rw [List.getElem?_range c, List.getElem?_eq_getElem c]
      show some row[i] = some (row.getD i d)
      rw [List.getD_eq_getElem?_getD, List.getElem?_eq_getElem c]; rfl
    · rw [List.getElem?_eq_none (by omega), List.getElem?_eq_none (by simp; omega)]; rfl
  rw (config := { occs := .pos [1] }) [e]
  rw [kept_map]; rfl
theorem nats_get {row : List Dt} (l : List Nat) : (natsD l).map (fun d => row.getD (atN d) .non) = l.map fun i => row.getD i .non := by
  simp only [natsD, List.map_map]
  refine List.map_congr_left fun k _ => ?_
  show row.getD (k : Int).toNat .non = _
  rw [Int.toNat_natCast]
theorem bl_map {α : Type} (l : List α) (q : α → Bool) : l.map (fun x => Dt.bl (q x)) = (l.map q).map Dt.bl := by rw [List.map_map]; rfl
theorem all_true {α : Type} (l : List α) : (l.map fun _ => true).all id = true := by rw [List.all_map, List.all_eq_true]; exact fun _ _ => rfl
theorem mem_nats {l : List Nat} {d : Dt} (h : d ∈ natsD l) : ∃ k : Nat, k ∈ l ∧ d = .int (k : Int) := by
  obtain ⟨i, hi, rfl⟩ := List.mem_map.mp h
  obtain ⟨k, hk, rfl⟩ := List.mem_map.mp hi
  exact ⟨k, hk, rfl⟩
abbrev intsP (l : List Nat) : List PyData := (l.map Int.ofNat).map .int
theorem toPys_nats : ∀ l : List Nat, toPys (natsD l) = some (intsP l)
  | [] => rfl
  | x :: l => by
    show (match toPy (.int (Int.ofNat x)), toPys (natsD l) with | some p, some q => some (p :: q) | _, _ => none) = _
    rw [toPys_nats l]; rfl
theorem toPy_nats (l : List Nat) : toPy (.tup (natsD l)) = some (.tuple (intsP l)) := by
  show (toPys (natsD l)).map PyData.tuple = _
  rw [toPys_nats]; rfl
theorem eqv_nats : ∀ l m : List Nat, PyData.eqvAll (intsP l) (intsP m) = decide (l = m)
  | [], [] => rfl
  | [], _ :: _ => rfl
  | _ :: _, [] => rfl
  | x :: l, y :: m => by
    have ih := eqv_nats l m
    show (Int.ofNat x == Int.ofNat y && PyData.eqvAll (intsP l) (intsP m)) = _
    rw [ih, Bool.eq_iff_iff]
    simp
    intro _; omega
theorem lay_nats : ∀ l : List Nat, PyData.canLayAll0 (intsP l) = true ∧ PyData.depthAll (intsP l) = 0
  | [] => ⟨rfl, rfl⟩
  | x :: l => by
    obtain ⟨h1, h2⟩ := lay_nats l
    exact ⟨by show (true && PyData.canLayAll0 (intsP l)) = true; rw [h1]; rfl, by show max 0 (PyData.depthAll (intsP l)) = 0; rw [h2]; rfl⟩
def tabsP (ks : List (List Nat)) : List PyData := ks.map fun l => .tuple (intsP l)
def tabsD (ks : List (List Nat)) : List Dt := ks.map fun l => .tup (natsD l)
theorem toPys_tabs : ∀ ks : List (List Nat), toPys (tabsD ks) = some (tabsP ks)
  | [] => rfl
  | l :: ks => by
    show (match toPy (.tup (natsD l)), toPys (tabsD ks) with | some p, some q => some (p :: q) | _, _ => none) = _
    rw [toPys_tabs ks, toPy_nats]; rfl
theorem eqv_tabs : ∀ ks ms : List (List Nat), PyData.eqvAll (tabsP ks) (tabsP ms) = decide (ks = ms)
  | [], [] => rfl
  | [], _ :: _ => rfl
  | _ :: _, [] => rfl
  | x :: l, y :: m => by
    have ih := eqv_tabs l m
    show (PyData.eqvAll (intsP x) (intsP y) && PyData.eqvAll (tabsP l) (tabsP m)) = _
    rw [ih, eqv_nats, Bool.eq_iff_iff]
    simp
theorem lay_tabs : ∀ ks : List (List Nat), PyData.canLayAll0 (tabsP ks) = true ∧ PyData.depthAll (tabsP ks) ≤ 1
  | [] => ⟨rfl, by decide⟩
  | l :: ks => by
    obtain ⟨h1, h2⟩ := lay_tabs ks
    obtain ⟨h3, h4⟩ := lay_nats l
    refine ⟨by show (PyData.canLayAll0 (intsP l) && PyData.canLayAll0 (tabsP ks)) = true; rw [h1, h3]; rfl, ?_⟩
    show max (PyData.depthAll (intsP l) + 1) (PyData.depthAll (tabsP ks)) ≤ 1
    rw [h4]; omega
theorem sh_nats (l : List Nat) : SeqAt.shaped (.tuple (intsP l)) = true ∧ SeqAt.shaped (.list (intsP l)) = true := by
  obtain ⟨h1, h2⟩ := lay_nats l
  refine ⟨?_, ?_⟩ <;>
  · show (PyData.canLayAll0 (intsP l) && decide (PyData.depthAll (intsP l) + 1 ≤ 64)) = true
    rw [h1, h2]; rfl
def farD (n : Nat) : Dt → Dt
  | .int i => .int (Int.ofNat (far n i.toNat))
  | d => d
def withinB (k1 k2 : Nat → List Nat) : Bool := (List.range 7).all fun n => (k1 n).all fun x => decide (x ∈ k2 n)
def diffL (k1 k2 : List Nat) (n : Nat) : List Nat := (List.range n).filter fun p => !decide (decide (p ∈ k1) = decide (p ∈ k2))
def Parted (k1 k2 : Nat → List Nat) (d : Dt) : Prop := (∃ i, i < 7 ∧ (∀ j, j < i → diffL (k1 j) (k2 j) j = []) ∧ ∃ x r, diffL (k1 i) (k2 i) i = x :: r ∧ d = .tup [.int (i : Nat), .int (x : Nat)]) ∨ ((∀ j, j < 7 → diffL (k1 j) (k2 j) j = []) ∧ d = .non)
theorem Parted.one {k1 k2 : Nat → List Nat} {d e : Dt} (h1 : Parted k1 k2 d) (h2 : Parted k1 k2 e) : d = e := by
  rcases h1 with ⟨i, hi, h, x, r, hx, rfl⟩ | ⟨h, rfl⟩
  · rcases h2 with ⟨j, hj, h', y, q, hy, rfl⟩ | ⟨h', rfl⟩
    · have e : i = j := by
        rcases Nat.lt_trichotomy i j with c | c | c
        · have := h' i c; rw [hx] at this; cases this
        · exact c
        · have := h j c; rw [hy] at this; cases this
      subst e
      rw [hx] at hy; cases hy; rfl
    · have := h' i hi; rw [hx] at this; cases this
  · rcases h2 with ⟨j, hj, h', y, q, hy, rfl⟩ | ⟨h', rfl⟩
    · have := h j hj; rw [hy] at this; cases this
    · rfl
def tabs (ps : List Part) : List (List Nat) := (List.range 6).map (chain ps)
def sameB (ps qs : List Part) : Bool := decide (tabs ps = tabs qs) && decide (ps.all Part.isAll = qs.all Part.isAll)
theorem tabs_eq (ps : List Part) : ((List.range 6).map fun n => Dt.tup (natsD (chain ps n))) = tabsD (tabs ps) := by
  unfold tabsD tabs
  rw [List.map_map]; rfl
theorem mem_int {p : Nat} {l : List Nat} : ((p : Int) ∈ l.map Int.ofNat) ↔ p ∈ l := by
  rw [List.mem_map]
  refine ⟨fun ⟨k, h1, h2⟩ => ?_, fun h => ⟨p, h, rfl⟩⟩
  have h2 : (k : Int) = p := h2
  have : k = p := by omega
  subst this; exact h1
theorem dec_int {p : Nat} {l : List Nat} : decide ((p : Int) ∈ l.map Int.ofNat) = decide (p ∈ l) := by rw [decide_eq_decide]; exact mem_int
theorem nats_at {l : List Nat} {i : Nat} {x : Dt} (h : (natsD l)[i]? = some x) : ∃ hi : i < l.length, x = .int (l[i] : Int) := by
  have hi : i < l.length := by have := (List.getElem?_eq_some_iff.mp h).1; simp [natsD] at this; exact this
  rw [natsD_get (List.getElem?_eq_getElem hi)] at h
  exact ⟨hi, (Option.some.inj h).symm⟩
theorem strOk_part {p : Part} (h : p.ok) : PyData.strOk p.s = true := by
  cases p with
  | all => decide +kernel
  | pat f b => exact pat_cases (P := fun f b => PyData.strOk (S (Part.pat f b).txt) = true) (by decide +kernel) h.1 h.2
abbrev partsP (ps : List Part) : List PyData := ps.map fun p => .str p.s
theorem toPys_parts : ∀ ps : List Part, toPys (ps.map Part.d) = some (partsP ps)
  | [] => rfl
  | p :: ps => by
    show (match toPy p.d, toPys (ps.map Part.d) with | some p, some q => some (p :: q) | _, _ => none) = _
    rw [toPys_parts ps]; rfl
theorem lay_parts : ∀ {ps : List Part}, (∀ p ∈ ps, p.ok) → PyData.canLayAll0 (partsP ps) = true ∧ PyData.depthAll (partsP ps) = 0
  | [], _ => ⟨rfl, rfl⟩
  | p :: ps, h => by
    obtain ⟨h1, h2⟩ := lay_parts (ps := ps) fun q hq => h q (by simp [hq])
    exact ⟨by show (PyData.strOk p.s && PyData.canLayAll0 (partsP ps)) = true; rw [h1, strOk_part (h p (by simp))]; rfl, by show max 0 (PyData.depthAll (partsP ps)) = 0; rw [h2]; rfl⟩
theorem sum_parts : ∀ {ps : List Part}, (∀ p ∈ ps, p.ok) → ((ps.map Part.s).map (·.length)).sum ≤ 7 * ps.length
  | [], _ => by decide
  | p :: ps, h => by
    have ih := sum_parts (ps := ps) fun q hq => h q (by simp [hq])
    have h1 := txt_len (h p (by simp))
    have h2 : p.s.length ≤ 7 := by rw [SX.S_len]; exact h1
    show p.s.length + ((ps.map Part.s).map (·.length)).sum ≤ 7 * (ps.length + 1)
    omega
theorem sum_ones : ∀ cs : List Nat, ((cs.map fun c => [c]).map List.length).sum = cs.length
  | [] => rfl
  | c :: cs => by
    have := sum_ones cs
    simp at this ⊢
    omega
theorem sl_to {l : List Dt} {n : Nat} : (l.drop (HT.sIx l.length 0 none)).take (HT.sIx l.length l.length (some (n : Int)) - HT.sIx l.length 0 none) = l.take n := by
  rw [HT.sIx_none, HT.sIx_nat]
  by_cases h : n ≤ l.length
  · rw [Nat.min_eq_left h]; simp
  · rw [Nat.min_eq_right (by omega)]; simp [List.take_of_length_le (show l.length ≤ n by omega)]
theorem sl_from {l : List Dt} {n : Nat} : (l.drop (HT.sIx l.length 0 (some (n : Int)))).take (HT.sIx l.length l.length none - HT.sIx l.length 0 (some (n : Int))) = l.drop n := by
  rw [HT.sIx_none, HT.sIx_nat]
  by_cases h : n ≤ l.length
  · rw [Nat.min_eq_left h, List.take_of_length_le (by simp)]
  · rw [Nat.min_eq_right (by omega), List.drop_length, List.drop_of_length_le (by omega)]; simp
theorem S_app (a b : List Nat) : (S a : Str) ++ S b = S (a ++ b) := SX.S_cat a b
theorem join_signs (bs : List Bool) : Txt.join (Str.ofString "") ((bs.map fun b => [sg b]).map S) = S (bs.map sg) := by
  rw [show (Str.ofString "" : Str) = S [] from rfl, SX.join_S]
  have : (bs.map fun b => [sg b]) = (bs.map sg).map fun c => [c] := by rw [List.map_map]; rfl
  rw [this, joinOnes]
theorem sum_signs (bs : List Bool) : (((bs.map fun b => [sg b]).map S).map (·.length)).sum = bs.length := by
  rw [SX.lens]
  have : (bs.map fun b => [sg b]) = (bs.map sg).map fun c => [c] := by rw [List.map_map]; rfl
  rw [this, sum_ones]; simp
theorem plus_sg (b : Bool) : decide ((⟨#[sg b]⟩ : Str) = "+") = b := by cases b <;> decide
theorem sgs_at {f : List Bool} {j : Nat} (h : j < f.length) : atI (S (f.map sg)).cps.toList (j : Int) = some (sg f[j]) := by
  refine atI_nat ?_
  show (f.map sg).toArray.toList[j]? = _
  simp [h]
theorem range_filt {α : Type} (row : List α) (q : Nat → Bool) (j : Nat) : ((List.range (j + 1)).filter q).filterMap (row[·]?) = ((List.range j).filter q).filterMap (row[·]?) ++ (if q j = true then (row[j]?).toList else []) := by
  rw [List.range_succ, List.filter_append, List.filterMap_append]
  congr 1
  cases h : q j with
  | true =>
    rw [if_pos rfl, List.filter_cons, h, if_pos rfl]
    cases c : row[j]? with
    | none => simp [c]
    | some x => simp [c]
  | false => simp [h]
theorem kept_nats (ps : List Part) (l : List Nat) : kept ps (natsD l) = natsD (kept ps l) := by
  unfold natsD; rw [kept_map, kept_map]
theorem kept_range (ps : List Part) (n : Nat) : kept ps (rangeD 0 n) = natsD (chain ps n) := by rw [rangeD_nats, kept_nats]; rfl
theorem diff_comm (k1 k2 : List Nat) (n : Nat) : diffL k1 k2 n = diffL k2 k1 n := by
  unfold diffL
  congr 1
  funext p
  congr 1
  rw [decide_eq_decide]; exact eq_comm
theorem Parted.comm {k1 k2 : Nat → List Nat} {d : Dt} (h : Parted k1 k2 d) : Parted k2 k1 d := by
  rcases h with ⟨i, hi, h, x, r, hx, rfl⟩ | ⟨h, rfl⟩
  · exact .inl ⟨i, hi, fun j hj => by rw [diff_comm]; exact h j hj, x, r, by rw [diff_comm]; exact hx, rfl⟩
  · exact .inr ⟨fun j hj => by rw [diff_comm]; exact h j hj, rfl⟩
theorem diff_nil {ps qs : List Part} {n : Nat} : diffL (chain ps n) (chain qs n) n = [] ↔ chain ps n = chain qs n := by
  constructor
  · intro h
    refine ascN_eq (chain_asc _ _) (chain_asc _ _) fun x => ?_
    have key : x < n → (x ∈ chain ps n ↔ x ∈ chain qs n) := fun hx => by
      have := List.filter_eq_nil_iff.mp h x (List.mem_range.mpr hx)
      have e : decide (x ∈ chain ps n) = decide (x ∈ chain qs n) := by
        by_cases c : decide (x ∈ chain ps n) = decide (x ∈ chain qs n)
        · exact c
        · rw [decide_eq_false c] at this; exact absurd rfl this
      exact decide_eq_decide.mp e
    exact ⟨fun c => (key (chain_lt c)).mp c, fun c => (key (chain_lt c)).mpr c⟩
  · intro h
    rw [h]
    unfold diffL
    rw [List.filter_eq_nil_iff]
    intro x _
    rw [decide_eq_true rfl]; decide
theorem same_tabs {ps qs : List Part} : tabs ps = tabs qs ↔ ∀ n, n < 6 → chain ps n = chain qs n := by
  unfold tabs
  rw [List.map_inj_left]
  exact ⟨fun h n hn => h n (List.mem_range.mpr hn), fun h n hn => h n (List.mem_range.mp hn)⟩
theorem same_is {ps qs : List Part} (hp : ∀ p ∈ ps, p.ok) (hq : ∀ p ∈ qs, p.ok) {d : Dt} (h : Parted (chain ps) (chain qs) d) : sameB ps qs = isN d := by
  have e : sameB ps qs = true ↔ ∀ n, n < 7 → chain ps n = chain qs n := by
    unfold sameB
    rw [Bool.and_eq_true, decide_eq_true_iff, decide_eq_true_iff, same_tabs]
    exact same_iff hp hq
  rcases h with ⟨i, hi, h, x, r, hx, rfl⟩ | ⟨h, rfl⟩
  · show _ = false
    rw [Bool.eq_false_iff]
    intro c
    have := diff_nil.mpr (e.mp c i hi)
    rw [hx] at this; cases this
  · show _ = true
    exact e.mpr fun n hn => diff_nil.mp (h n hn)
theorem same_comm (ps qs : List Part) : sameB qs ps = sameB ps qs := by
  unfold sameB
  congr 1
  · rw [decide_eq_decide]; exact eq_comm
  · rw [decide_eq_decide]; exact eq_comm
theorem parted_is {ps qs : List Part} {d : Dt} (h : Parted (chain ps) (chain qs) d) : d = .non ∨ ∃ i x : Nat, i < 7 ∧ x < 7 ∧ d = .tup [.int i, .int x] := by
  rcases h with ⟨i, hi, h, x, r, hx, rfl⟩ | ⟨h, rfl⟩
  · have : x ∈ diffL (chain ps i) (chain qs i) i := by rw [hx]; simp
    have := List.mem_range.mp (List.mem_filter.mp this).1
    exact .inr ⟨i, x, hi, by omega, rfl⟩
  · exact .inl rfl
theorem shown_ok : ∀ i, i < 7 → ∀ x, x < 7 → (PyData.list [.tuple [.int (i : Nat), .int (x : Nat)], .tuple [.int (i : Nat), .int (x : Nat)]]).shown.length ≤ 1000 ∧ (PyData.list [.tuple [.int (i : Nat), .int (x : Nat)], .tuple [.int (i : Nat), .int (x : Nat)]]).showable = true := by decide +kernel
theorem same_all {ps qs : List Part} (hp : ∀ p ∈ ps, p.ok) (hq : ∀ p ∈ qs, p.ok) (h : sameB ps qs = true) {n : Nat} (hn : 5 ≤ n) : chain ps n = chain qs n := by
  unfold sameB at h
  rw [Bool.and_eq_true, decide_eq_true_iff, decide_eq_true_iff, same_tabs] at h
  rw [chain_far hn hp, chain_far hn hq, h.2, h.1 5 (by omega)]
end Mw

set_option Elab.async false
set_option linter.all false
set_option maxRecDepth 100000
set_option maxHeartbeats 4000000
namespace Mw
open PySem PySem.Spec PyProof.Rows L2
open SX (S)
variable {R : Dt → Prop} {X : Xn}
/-! ### numbers -/
def isInt : Dt → Bool
  | .int _ => true
  | _ => false
theorem sp_is_integer {d : Dt} (hd : tyKn d = true) (h : R (.bl (isInt d))) : W_is_integer [d] R X := by
  rw [W_is_integer_eq]
  refine ⟨rfl, ?_⟩
  cases d with
  | int i => exact ⟨by decide, _, rfl, ifT (by decide) ⟨by decide, _, rfl, h⟩⟩
  | bl i => exact ⟨by decide, _, rfl, ifT (by decide) ⟨by decide, _, rfl, h⟩⟩
  | non => exact ⟨by decide, _, rfl, ifF (by decide) h⟩
  | str i => exact ⟨by decide, _, rfl, ifF (by decide) h⟩
  | lst i => exact ⟨by decide, _, rfl, ifF (by decide) h⟩
  | tup i => exact ⟨by decide, _, rfl, ifF (by decide) h⟩
  | dic i => exact ⟨by decide, _, rfl, ifF (by decide) h⟩
  | dit i => exact ⟨by decide, _, rfl, ifF (by decide) h⟩
  | ins C l => exact ⟨by decide, ifF rfl h⟩
  | _ => cases hd
def numB (lo hi : Int) : Dt → Bool
  | .int i => decide (lo ≤ i) && decide (i ≤ hi)
  | _ => false
/-! ### parts -/
theorem flDs_nats : ∀ l : List Int, flDs (l.map .int) = some (l.map V.int)
  | [] => rfl
  | n :: l => by
    show (match flD (.int n), flDs (l.map .int) with | some p, some q => some (p :: q) | _, _ => none) = _
    rw [flDs_nats l]; rfl
theorem inV_ints (i : Int) : ∀ l : List Int, inV (.int i) (l.map V.int) = decide (i ∈ l)
  | [] => by simp [inV]
  | n :: l => by
    have ih := inV_ints i l
    unfold inV at ih ⊢
    rw [List.map_cons, List.any_cons, ih]
    have : eqV (.int n) (.int i) = decide (n = i) := by unfold eqV; rw [Bool.eq_iff_iff]; simp
    rw [this, Bool.eq_iff_iff, Bool.or_eq_true, decide_eq_true_iff, decide_eq_true_iff, decide_eq_true_iff, List.mem_cons]
    exact or_congr_left ⟨Eq.symm, Eq.symm⟩
theorem fm_filter {P : Dt → Bool} {f : Dt → Dt} : ∀ l : List Dt, l.filterMap (fun d => if P d = true then some (f d) else none) = (l.filter P).map f
  | [] => rfl
  | d :: l => by
    have ih := fm_filter (P := P) (f := f) l
    rw [List.filterMap_cons, List.filter_cons]
    cases P d with
    | true => simp [ih]
    | false => simp [ih]
theorem q_some {b : Bool} {Q : Option Dt → Prop} {x : Dt} (h : Q (if b = true then some x else none)) : b = true → Q (some x) := fun e => by rw [if_pos e] at h; exact h
theorem q_none {b : Bool} {Q : Option Dt → Prop} {x : Dt} (h : Q (if b = true then some x else none)) : b = false → Q none := fun e => by rw [if_neg (by rw [e]; simp)] at h; exact h
theorem en_len {f : List Bool} (h : f.length ≤ 3) : (enumD (S (f.map sg))).length < 1000000 := by simp [enumD, SX.S]; omega
theorem sp_part_places {p : Part} {n : Nat} (hp : p.ok) (hn : n ≤ 1000) (h : R (.lst (natsD (p.pl n)))) : W_part_places [p.d, .int n] R X := by
  rw [W_part_places_eq]
  refine ⟨rfl, ?_⟩
  have hall : decide (p.s = "all") = p.isAll := part_all hp
  cases p with
  | all =>
    refine ifT hall ?_
    refine ⟨⟨Int.natCast_nonneg _, by omega⟩, ?_⟩
    show R (.lst (rangeD 0 (n : Int).toNat))
    rw [Int.toNat_natCast, rangeD_nats]; exact h
  | pat f b =>
    have hf : f.length ≤ 2 := hp.1
    have hb : b.length ≤ 3 := hp.2
    have lt := txt_len hp
    refine ifF hall ?_
    refine ⟨rfl, ⟨rfl, by rw [SX.S_len]; omega⟩, ?_⟩
    have e : Txt.split (Part.pat f b).s ".." = [S (f.map sg), S (b.map sg)] := split_pat hf hb
    show (List.map Dt.str (Txt.split (Part.pat f b).s "..")).length = 2 ∧ _
    rw [e]
    refine ⟨rfl, rfl, ?_⟩
    refine ⟨en_len (by omega), lc_fm (F := fun d => if isPlus d = true then some (.int (fstI d)) else none) (fun d hd Q hq => ?_) ?_⟩
    · obtain ⟨k, hk, rfl⟩ := List.mem_mapIdx.mp hd
      exact ⟨rfl, rfl, ifb (fun e => q_some hq e) fun e => q_none hq e⟩
    rw [fm_filter, ups_eq (by omega), List.nil_append]
    refine ⟨en_len hb, lc_fm (F := fun d => if isPlus d = true then some (.int ((n : Int) - b.length + fstI d)) else none) (fun d hd Q hq => ?_) ?_⟩
    · obtain ⟨k, hk, rfl⟩ := List.mem_mapIdx.mp hd
      refine ⟨rfl, rfl, ifb (fun e => ?_) fun e => q_none hq e⟩
      have hq := q_some hq e
      refine ⟨by rw [SX.S_len]; simp; omega, ?_⟩
      show Q (some (.int ((n : Int) - ((S (b.map sg)).length : Nat) + (k : Int))))
      rw [SX.S_len, List.length_map]
      exact hq
    rw [fm_filter, ups_far hb, List.nil_append]
    refine ⟨?_, ?_⟩
    · simp [ups]
      have h1 := List.length_filter_le (fun x => f.getD x false) (List.range f.length)
      have h2 := List.length_filter_le (fun x => b.getD x false) (List.range b.length)
      simp at h1 h2; omega
    refine ⟨⟨by omega, by omega⟩, ?_⟩
    refine ⟨by rw [range_len]; omega, lc_fm (F := fun d => if keepB f b n (atN d) = true then some (id d) else none) (fun d hd Q hq => ?_) ?_⟩
    · rw [Int.toNat_natCast] at hd
      obtain ⟨p, hp', rfl⟩ := nat_of hd
      refine ⟨.int (p : Int), ((ups f).map Int.ofNat ++ (ups b).map (fun (i : Nat) => (n : Int) - b.length + (i : Int))).map V.int, rfl, ?_, ?_⟩
      · show flDs ((natsD (ups f)) ++ ((List.map (fun (i : Nat) => (n : Int) - b.length + (i : Int)) (ups b)).map Dt.int ++ [])) = _
        rw [List.append_nil, natsD, ← List.map_append]
        exact flDs_nats _
      · show ifP (if false = true then _ else inV (.int (p : Int)) _) _ _
        rw [if_neg Bool.false_ne_true, inV_ints, keep_mem hp']
        rw [show atN (.int (p : Int)) = p from Int.toNat_natCast p] at hq
        exact ifb (fun e => q_some hq e) fun e => q_none hq e
    rw [fm_filter, Int.toNat_natCast, rangeD_nats, filt_nats, List.nil_append]
    exact h
end Mw

set_option Elab.async false
set_option linter.all false
set_option maxRecDepth 100000
set_option maxHeartbeats 4000000
namespace Mw
open PySem PySem.Spec PyProof.Rows L2
open SX (S)
variable {R : Dt → Prop} {X : Xn}
theorem pl_len (p : Part) (n : Nat) : (p.pl n).length ≤ n := by
  cases p with
  | all => simp [Part.pl]
  | pat f b => have := List.length_filter_le (keepB f b n) (List.range n); rw [List.length_range] at this; exact this
theorem sp_chain_places {ps : List Part} {n : Nat} (hp : ∀ p ∈ ps, p.ok) (hn : n ≤ 1000) (h : R (.tup (natsD (chain ps n)))) : W_chain_places [.tup (ps.map Part.d), .int n] R X := by
  rw [W_chain_places_eq]
  refine ⟨rfl, ?_⟩
  refine ⟨⟨Int.natCast_nonneg _, by omega⟩, ?_⟩
  rw [Int.toNat_natCast, rangeD_nats]
  refine for_inv (fun i s => ∃ a b, s = [.dt (.tup (ps.map Part.d)), .dt (.int n), .dt (.lst (natsD (kept (ps.take i) (List.range n)))), a, b]) 0 ⟨_, _, rfl⟩ ?_ ?_
  · rintro i d s N hi ⟨a, b, rfl⟩ hN
    rw [List.getElem?_map] at hi
    obtain ⟨p, hp', rfl⟩ := Option.map_eq_some_iff.mp hi
    rw [Nat.zero_add]
    have hl : (kept (ps.take i) (List.range n)).length ≤ n := chain_len _ n
    have hlen : (natsD (kept (ps.take i) (List.range n))).length = (kept (ps.take i) (List.range n)).length := by simp
    have hpl := pl_len p (kept (ps.take i) (List.range n)).length
    show W_part_places [p.d, .int ((natsD (kept (ps.take i) (List.range n))).length : Nat)] _ _
    rw [hlen]
    refine sp_part_places (hp p (List.mem_of_getElem? hp')) (by omega) ?_
    have hlt : ∀ x ∈ p.pl (kept (ps.take i) (List.range n)).length, x < (kept (ps.take i) (List.range n)).length := fun x hx => pl_lt hx
    refine ⟨by simp; omega, lc_map (f := pick (kept (ps.take i) (List.range n))) (fun x hx Q hq => ?_) ?_⟩
    · obtain ⟨k, hk, rfl⟩ := mem_nats hx
      have hk' := hlt k hk
      refine ⟨_, atI_nat (natsD_get (List.getElem?_eq_getElem hk')), ?_⟩
      have e : pick (kept (ps.take i) (List.range n)) (.int (k : Int)) = .int ((kept (ps.take i) (List.range n))[k] : Nat) := by
        show Dt.int (Int.ofNat ((kept (ps.take i) (List.range n)).getD (k : Int).toNat 0)) = _
        rw [Int.toNat_natCast, List.getD_eq_getElem?_getD, List.getElem?_eq_getElem hk']; rfl
      rw [e] at hq; exact hq
    · rw [cut_pick _ _ hlt, List.nil_append]
      refine hN _ ⟨.dt p.d, b, ?_⟩
      have e : ps.take (0 + i + 1) = ps.take i ++ [p] := by rw [Nat.zero_add, List.take_add_one, hp']; rfl
      rw [e, kept_snoc]
      rfl
  · rintro s ⟨a, b, rfl⟩
    rw [List.length_map, Nat.zero_add, List.take_length]
    exact h
/-! ### what is a part -/
def signsB (m : Int) (z : Str) : Bool := decide ((z.length : Int) ≤ m) && z.cps.toList.all fun c => decide (c ∈ ("+-" : Str).cps.toList)
def isPartS (z : Str) : Bool := decide (z = "all") || (match Txt.split z ".." with
  | [a, b] => signsB 2 a && signsB 3 b
  | _ => false)
def isPartD : Dt → Bool
  | .str z => isPartS z
  | _ => false
def PartOk (z : Str) : Prop := z.length ≤ 1000 ∧ ∀ y ∈ Txt.split z "..", y.length ≤ 1000
theorem sp_are_signs {z : Str} {m : Int} (hz : z.length ≤ 1000) (h : R (.bl (signsB m z))) : W_are_signs [.str z, .int m] R X := by
  rw [W_are_signs_eq]
  refine ⟨rfl, ?_⟩
  refine ⟨by omega, ?_⟩
  unfold signsB at h
  refine ifb (fun e => ?_) fun e => ?_
  · rw [show decide ((z.length : Int) ≤ m) = true from e, Bool.true_and] at h
    have hl : (signsD z).length = z.length := by simp [signsD, Str.length]
    refine ⟨by rw [hl]; omega, lc_map (f := fun d => match d with | .str ⟨#[c]⟩ => .bl (decide (c ∈ ("+-" : Str).cps.toList)) | _ => .non) (fun d hd Q hq => ?_) ?_⟩
    · obtain ⟨c, hc, rfl⟩ := List.mem_map.mp hd
      exact ⟨c, rfl, hq⟩
    · refine ⟨z.cps.toList.map fun c => decide (c ∈ ("+-" : Str).cps.toList), ?_, ?_⟩
      · have e2 : ([] : List Dt) ++ (signsD z).map (fun d => match d with | .str ⟨#[c]⟩ => Dt.bl (decide (c ∈ ("+-" : Str).cps.toList)) | _ => .non) = (z.cps.toList.map fun c => decide (c ∈ ("+-" : Str).cps.toList)).map .bl := by
          rw [List.nil_append]
          unfold signsD
          rw [List.map_map, List.map_map]
          rfl
        rw [e2]; exact blsD_map _
      · rw [List.all_map]; exact h
  · rw [show decide ((z.length : Int) ≤ m) = false from e] at h
    exact h
theorem sp_is_part {d : Dt} (hd : tyKn d = true) (ho : ∀ z, d = .str z → PartOk z) (h : R (.bl (isPartD d))) : W_is_part [d] R X := by
  rw [W_is_part_eq]
  refine ⟨rfl, ?_⟩
  cases d with
  | str z =>
    obtain ⟨h1, h2⟩ := ho z rfl
    refine ⟨by decide, _, rfl, ifF (by decide) ?_⟩
    refine ⟨rfl, ⟨rfl, by omega⟩, ?_⟩
    have h : R (.bl (isPartS z)) := h
    unfold isPartS at h
    refine ifb (fun e => ?_) fun e => ?_
    · rw [show decide (z = "all") = true from e] at h; exact h
    · rw [show decide (z = "all") = false from e, Bool.false_or] at h
      show ifP (decide (((List.map Dt.str (Txt.split z "..")).length : Int) = 2)) _ _
      rw [List.length_map]
      match q : Txt.split z "..", h with
      | [a, b], h =>
        rw [q] at h2
        refine ifT rfl ?_
        refine ⟨.str a, rfl, sp_are_signs (h2 a (by simp)) ?_⟩
        refine ifb (fun e1 => ?_) fun e1 => ?_
        · refine ⟨.str b, rfl, sp_are_signs (h2 b (by simp)) ?_⟩
          have h : R (.bl (signsB 2 a && signsB 3 b)) := h
          rw [e1] at h; exact h
        · have h : R (.bl (signsB 2 a && signsB 3 b)) := h
          rw [e1] at h; exact h
      | [], h => exact ifF (by decide) h
      | [a], h => exact ifF (by simp) h
      | a :: b :: y :: l, h => exact ifF (decide_eq_false (by simp only [List.length_cons]; omega)) h
  | non => exact ⟨by decide, _, rfl, ifT (by decide) h⟩
  | bl i => exact ⟨by decide, _, rfl, ifT (by decide) h⟩
  | int i => exact ⟨by decide, _, rfl, ifT (by decide) h⟩
  | lst i => exact ⟨by decide, _, rfl, ifT (by decide) h⟩
  | tup i => exact ⟨by decide, _, rfl, ifT (by decide) h⟩
  | dic i => exact ⟨by decide, _, rfl, ifT (by decide) h⟩
  | dit i => exact ⟨by decide, _, rfl, ifT (by decide) h⟩
  | ins C l => exact ⟨by decide, ifT rfl h⟩
  | _ => cases hd
theorem part_isS {p : Part} (hp : p.ok) : isPartS p.s = true ∧ PartOk p.s := by
  have lt := txt_len hp
  cases p with
  | all => exact ⟨by decide +kernel, by decide +kernel, by decide +kernel⟩
  | pat f b =>
    have e : Txt.split (Part.pat f b).s ".." = [S (f.map sg), S (b.map sg)] := split_pat hp.1 hp.2
    have s1 : ∀ (bs : List Bool) (m : Int), (bs.length : Int) ≤ m → signsB m (S (bs.map sg)) = true := fun bs m hm => by
      unfold signsB
      rw [SX.S_len, List.length_map, decide_eq_true hm, Bool.true_and, List.all_eq_true]
      intro c hc
      have : c ∈ bs.map sg := by simpa [SX.S] using hc
      obtain ⟨b, _, rfl⟩ := List.mem_map.mp this
      cases b <;> rfl
    refine ⟨?_, by rw [SX.S_len]; omega, ?_⟩
    · unfold isPartS
      rw [e]
      show (_ || (signsB 2 (S (f.map sg)) && signsB 3 (S (b.map sg)))) = true
      rw [s1 f 2 (by have := hp.1; omega), s1 b 3 (by have := hp.2; omega)]; simp
    · rw [e]
      intro y hy
      have h1 := hp.1
      have h2 := hp.2
      simp only [List.mem_cons, List.not_mem_nil, or_false] at hy
      rcases hy with rfl | rfl <;> (rw [SX.S_len, List.length_map]; omega)
/-! ### cutters are made -/
variable {RR : List (Str × Dt) → Prop}
/-- what may stand among the parts -/
def Pv (d : Dt) : Prop := tyKn d = true ∧ ∀ z, d = .str z → PartOk z
theorem pv_part {p : Part} (hp : p.ok) : Pv p.d := ⟨rfl, fun z e => by cases e; exact (part_isS hp).2⟩
theorem init_head {l : List Dt} {k : Oc → Prop} (hv : ∀ d ∈ l, Pv d) (hK : ∀ f, l ≠ [.ins 20 f]) (h : ∀ s : SS, s = [.slf 21 [], .dt (.tup l), .dt (.bl false), .dt (.tup l), .no, .no] → 
    seqW (ifSW (andW (notW (testW (vW 2))) (orW (notW (testW (cbW allD (consW (lcW (itW iAnyD (vW 3)) [5] (gN 5) yesW (callW W_is_part (consW (vW 5) nilW))) nilW)))) (testW (opW gtD (cbW lenD (consW (vW 3) nilW)) (cW (.int 4)))))) (raise0W 1) passW) (seqW (sfldW [20, 21] "own_parts" 0 (vW 3)) (seqW (sfldW [21] "own_tables" 0 (cbW tupD (consW (lcW (itAW rng1D (consW (opW addD (cW (.int 5)) (cW (.int 1))) nilW)) [4] (gN 4) yesW (callW W_chain_places (consW (vW 3) (consW (vW 4) nilW)))) nilW))) (sfldW [21] "own_is_whole" 0 (cbW allD (consW (lcW (itW iAnyD (vW 3)) [5] (gN 5) yesW (opW eqD (vW 5) (cW (.str "all")))) nilW))))) s k) :
    B_Cutter___init__ (startI 6 21 [.tup l]) k := by
  refine ifb (fun e => ?_) fun e => ifF rfl (h _ rfl)
  have e := of_decide_eq_true e
  match l, e, hv, hK, h with
  | [d], _, hv, hK, h =>
    refine ⟨d, rfl, ?_⟩
    have hd := (hv d (by simp)).1
    cases d with
    | ins C f =>
      have n : decide (C = 20) = false := decide_eq_false fun e => hK f (by rw [e])
      exact ifF n (h [.slf 21 [], .dt (.tup [.ins C f]), .dt (.bl (decide (C = 20))), .dt (.tup [.ins C f]), .no, .no] (by rw [n]))
    | non => exact ⟨_, rfl, ifF rfl (h _ rfl)⟩
    | bl i => exact ⟨_, rfl, ifF rfl (h _ rfl)⟩
    | int i => exact ⟨_, rfl, ifF rfl (h _ rfl)⟩
    | str i => exact ⟨_, rfl, ifF rfl (h _ rfl)⟩
    | lst i => exact ⟨_, rfl, ifF rfl (h _ rfl)⟩
    | tup i => exact ⟨_, rfl, ifF rfl (h _ rfl)⟩
    | dic i => exact ⟨_, rfl, ifF rfl (h _ rfl)⟩
    | dit i => exact ⟨_, rfl, ifF rfl (h _ rfl)⟩
    | _ => cases hd
  | [], e, _, _, _ => simp at e
  | _ :: _ :: _, e, _, _, _ => simp only [List.length_cons] at e; omega
theorem all_parts {l : List Dt} {k : Oc → Prop} {s : SS} {R' : Bool → Prop} {X' : Xn} (hl : l.length ≤ 1000) (hv : ∀ d ∈ l, Pv d) (hs : s = [.slf 21 [], .dt (.tup l), .dt (.bl false), .dt (.tup l), .no, .no]) (h : R' (l.all isPartD)) :
    testW (cbW allD (consW (lcW (itW iAnyD (vW 3)) [5] (gN 5) yesW (callW W_is_part (consW (vW 5) nilW))) nilW)) s R' X' := by
  subst hs
  refine ⟨by omega, lc_map (f := fun d => .bl (isPartD d)) (fun d hd Q hq => sp_is_part (hv d hd).1 (hv d hd).2 hq) ⟨l.map isPartD, ?_, ?_⟩⟩
  · rw [List.nil_append]
    have e : l.map (fun d => Dt.bl (isPartD d)) = (l.map isPartD).map .bl := by rw [List.map_map]; rfl
    rw [e]; exact blsD_map _
  · rw [List.all_map]; exact h
theorem sp_init_bad {l : List Dt} (hl : l.length ≤ 1000) (hv : ∀ d ∈ l, Pv d) (hK : ∀ f, l ≠ [.ins 20 f]) (hb : l.all isPartD = true → 4 < l.length) (h : X 1 []) : W_Cutter___init__ l RR X := by
  rw [W_Cutter___init___eq]
  refine ⟨by omega, init_head hv hK fun s hs => ?_⟩
  have e0 := hs
  subst hs
  refine ifT rfl (all_parts (k := endI 21 RR X) hl hv rfl ?_)
  cases q : l.all isPartD with
  | true => exact ifF rfl (ifT (decide_eq_true (by have := hb q; show (4 : Int) < (l.length : Nat); omega)) h)
  | false => exact ifT rfl (ifT rfl h)
theorem sp_init_ok {ps : List Part} (hp : ∀ p ∈ ps, p.ok) (hl : ps.length ≤ 4) (h : RR (cutF ps)) : W_Cutter___init__ (ps.map Part.d) RR X := by
  rw [W_Cutter___init___eq]
  have hv : ∀ d ∈ ps.map Part.d, Pv d := fun d hd => by
    obtain ⟨p, h1, rfl⟩ := List.mem_map.mp hd
    exact pv_part (hp p h1)
  have hall : (ps.map Part.d).all isPartD = true := by
    rw [List.all_map, List.all_eq_true]
    exact fun p h1 => (part_isS (hp p h1)).1
  refine ⟨by rw [List.length_map]; omega, init_head hv (fun f e => ?_) fun s hs => ?_⟩
  · match ps, e with
    | [p], e => cases e
    | [], e => cases e
    | _ :: _ :: _, e => cases e
  have e0 := hs
  subst hs
  refine ifT rfl (all_parts (k := endI 21 RR X) (by rw [List.length_map]; omega) hv rfl ?_)
  rw [hall]
  refine ifF rfl (ifF (decide_eq_false (by show ¬ (4 : Int) < ((ps.map Part.d).length : Nat); rw [List.length_map]; omega)) ?_)
  refine ⟨rfl, by decide, ?_⟩
  refine ⟨⟨by decide, by decide⟩, by decide, lc_map (f := fun d => .tup (natsD (chain ps (atN d)))) (fun d hd Q hq => ?_) ?_⟩
  · obtain ⟨n, hn, rfl⟩ := nat_of (n := 6) hd
    refine sp_chain_places hp (by omega) ?_
    rw [show atN (.int (n : Int)) = n from Int.toNat_natCast n] at hq
    exact hq
  refine ⟨rfl, by show 1 < 1000; decide, ?_⟩
  refine ⟨by rw [List.length_map]; omega, lc_map (f := fun d => .bl (match d with | .str z => decide (z = "all") | _ => false)) (fun d hd Q hq => ?_) ?_⟩
  · obtain ⟨p, hp', rfl⟩ := List.mem_map.mp hd
    exact hq
  have e : ([] : List Dt) ++ (ps.map Part.d).map (fun d => Dt.bl (match d with | .str z => decide (z = "all") | _ => false)) = (ps.map Part.isAll).map Dt.bl := by
    rw [List.nil_append, List.map_map, List.map_map]
    refine List.map_congr_left fun p hp' => ?_
    show Dt.bl (decide (p.s = "all")) = Dt.bl p.isAll
    rw [part_all (hp p hp')]
  rw [e]
  refine ⟨_, blsD_map _, ?_⟩
  refine ⟨rfl, by show 2 < 1000; decide, ?_⟩
  have e2 : (ps.map Part.isAll).all id = ps.all Part.isAll := by rw [List.all_map]; rfl
  rw [e2]
  exact ⟨rfl, h⟩
end Mw

set_option Elab.async false
set_option linter.all false
set_option maxRecDepth 100000
set_option maxHeartbeats 4000000
namespace Mw
open PySem PySem.Spec PyProof.Rows L2
open SX (S)
variable {R : Dt → Prop} {X : Xn}
abbrev cutC (ps : List Part) : Dt := .ins 21 (cutF ps)
def isTup : Dt → Bool
  | .tup _ => true
  | _ => false
def isCut : Dt → Bool
  | .ins 21 _ => true
  | _ => false
theorem isCut_ins {C : Nat} {f : List (Str × Dt)} : isCut (.ins C f) = decide (C = 21) := by
  by_cases q : C = 21
  · subst q; rfl
  · rw [decide_eq_false q]; unfold isCut; split <;> simp_all
/-! Cutter.of -/
theorem sp_of_no {d : Dt} (hd : tyKn d = true) (h1 : isTup d = false) (h : X 1 []) : W_Cutter_of [.cls 21, d] R X := by
  rw [W_Cutter_of_eq]
  refine ⟨rfl, ?_⟩
  cases d with
  | tup i => cases h1
  | ins C f => exact ⟨by decide, ifT rfl h⟩
  | non => exact ⟨by decide, _, rfl, ifT (by decide) h⟩
  | bl i => exact ⟨by decide, _, rfl, ifT (by decide) h⟩
  | int i => exact ⟨by decide, _, rfl, ifT (by decide) h⟩
  | str i => exact ⟨by decide, _, rfl, ifT (by decide) h⟩
  | lst i => exact ⟨by decide, _, rfl, ifT (by decide) h⟩
  | dic i => exact ⟨by decide, _, rfl, ifT (by decide) h⟩
  | dit i => exact ⟨by decide, _, rfl, ifT (by decide) h⟩
  | _ => cases hd
theorem sp_of {l : List Dt} (h : W_Cutter___init__ l (fun fl => R (.ins 21 fl)) X) : W_Cutter_of [.cls 21, .tup l] R X := by
  rw [W_Cutter_of_eq]
  refine ⟨rfl, by decide, _, rfl, ifF (by decide) ⟨rfl, ?_⟩⟩
  show W_Cutter___init__ (l ++ []) _ _
  rw [List.append_nil]; exact h
theorem sp_require_no {d : Dt} (hd : tyKn d = true) (h1 : isCut d = false) (h : X 1 []) : W_require_cutter [d] R X := by
  rw [W_require_cutter_eq]
  refine ⟨rfl, ?_⟩
  cases d with
  | ins C f =>
    rw [isCut_ins] at h1
    refine ifT ?_ h
    rw [h1]; rfl
  | tup i => exact ⟨_, rfl, ifT rfl h⟩
  | non => exact ⟨_, rfl, ifT rfl h⟩
  | bl i => exact ⟨_, rfl, ifT rfl h⟩
  | int i => exact ⟨_, rfl, ifT rfl h⟩
  | str i => exact ⟨_, rfl, ifT rfl h⟩
  | lst i => exact ⟨_, rfl, ifT rfl h⟩
  | dic i => exact ⟨_, rfl, ifT rfl h⟩
  | dit i => exact ⟨_, rfl, ifT rfl h⟩
  | _ => cases hd
theorem sp_require {ps : List Part} (h : R .non) : W_require_cutter [cutC ps] R X := by
  rw [W_require_cutter_eq]
  exact ⟨rfl, ifF rfl h⟩
theorem sp_within_no {d e : Dt} (hd : tyKn d = true) (h1 : isCut d = false) (h : X 1 []) : W_Cutter_is_within [e, d] R X := by
  rw [W_Cutter_is_within_eq]
  exact ⟨rfl, sp_require_no hd h1 h⟩
theorem sp_parts {ps : List Part} (h : R (.tup (ps.map Part.d))) : W_Cutter_parts [cutC ps] R X := by
  rw [W_Cutter_parts_eq]
  exact ⟨rfl, rfl, _, rfl, h⟩
/-! kept places -/
theorem tab_at {ps : List Part} {n : Nat} (hn : n < 6) : atI ((List.range 6).map fun n => Dt.tup (natsD (chain ps n))) (n : Int) = some (.tup (natsD (chain ps n))) := by
  refine atI_nat ?_
  rw [List.getElem?_map, List.getElem?_range hn]; rfl
theorem sp_kept_places {ps : List Part} {n : Nat} (hp : ∀ p ∈ ps, p.ok) (hn : n ≤ 1000) (h : R (.tup (natsD (chain ps n)))) : W_kept_places [cutC ps, .int n] R X := by
  rw [W_kept_places_eq]
  refine ⟨rfl, ?_⟩
  refine ifb (fun e => ?_) fun e => ?_
  · have e := of_decide_eq_true e
    exact ⟨rfl, _, rfl, _, tab_at (by omega), h⟩
  · have e := of_decide_eq_false e
    have hfar := chain_far (ps := ps) (n := n) (by omega) hp
    refine ⟨rfl, _, rfl, ?_⟩
    refine ifb (fun q => ?_) fun q => ?_
    · refine ⟨⟨Int.natCast_nonneg _, by omega⟩, ?_⟩
      rw [if_pos q] at hfar
      show R (.tup (rangeD 0 (n : Int).toNat))
      rw [Int.toNat_natCast, rangeD_nats, ← hfar]; exact h
    · rw [if_neg (by rw [q]; simp)] at hfar
      refine ⟨rfl, _, rfl, _, tab_at (by decide), ?_⟩
      have hl := chain_len ps 5
      refine ⟨by simp; omega, lc_map (f := fun d => .int (far n (atN d))) (fun d hd Q hq => ?_) ?_⟩
      · obtain ⟨k, hk, rfl⟩ := mem_nats hd
        rw [show atN (.int (k : Int)) = k from Int.toNat_natCast k] at hq
        unfold Mw.far at hq
        refine ifb (fun q => ?_) fun q => ?_
        · have q := of_decide_eq_true q
          rw [if_pos (by omega)] at hq; exact hq
        · have q := of_decide_eq_false q
          rw [if_neg (by omega)] at hq
          show Q (.int ((n : Int) - 5 + (k : Int)))
          have : ((n : Int) - 5 + (k : Int)) = ((n - 5 + k : Nat) : Int) := by omega
          rw [this]; exact hq
      · have e2 : ([] : List Dt) ++ (natsD (chain ps 5)).map (fun d => Dt.int (Mw.far n (atN d))) = natsD ((chain ps 5).map (Mw.far n)) := by
          rw [List.nil_append, natsD, natsD, List.map_map, List.map_map, List.map_map, List.map_map]
          refine List.map_congr_left fun x _ => ?_
          show Dt.int (Mw.far n (x : Int).toNat : Nat) = _
          rw [Int.toNat_natCast]; rfl
        show R (.tup _)
        rw [e2, ← hfar]; exact h
theorem sp_cut {ps : List Part} {l : List Dt} (hp : ∀ p ∈ ps, p.ok) (hl : l.length ≤ 1000) (h : R (.tup (kept ps l))) : W_cut [cutC ps, .tup l] R X := by
  rw [W_cut_eq]
  refine ⟨rfl, ?_⟩
  refine sp_kept_places hp hl ?_
  have hc := chain_len ps l.length
  refine ⟨by simp; omega, lc_map (f := fun d => l.getD (atN d) .non) (fun d hd Q hq => ?_) ?_⟩
  · obtain ⟨k, hk, rfl⟩ := mem_nats hd
    have hk' := chain_lt hk
    rw [show atN (.int (k : Int)) = k from Int.toNat_natCast k, List.getD_eq_getElem?_getD, List.getElem?_eq_getElem hk'] at hq
    exact ⟨_, atI_nat (List.getElem?_eq_getElem hk'), hq⟩
  · have e : ([] : List Dt) ++ (natsD (chain ps l.length)).map (fun d => l.getD (atN d) .non) = kept ps l := by
      rw [List.nil_append, nats_get, kept_get .non]
    show R (.tup _)
    rw [e]; exact h
theorem sp_call_no {d e : Dt} (hd : tyKn d = true) (h1 : ∀ l, d = .tup l → 1000 < l.length) (h : X 9 []) : W_Cutter___call__ [e, d] R X := by
  rw [W_Cutter___call___eq]
  refine ⟨rfl, ?_⟩
  cases d with
  | tup l => exact ⟨by decide, _, rfl, ifF (by decide) (ifT (decide_eq_true (by have := h1 l rfl; show (1000 : Int) < (l.length : Nat); omega)) h)⟩
  | ins C f => exact ⟨by decide, ifT rfl (ifT rfl h)⟩
  | non => exact ⟨by decide, _, rfl, ifT (by decide) (ifT rfl h)⟩
  | bl i => exact ⟨by decide, _, rfl, ifT (by decide) (ifT rfl h)⟩
  | int i => exact ⟨by decide, _, rfl, ifT (by decide) (ifT rfl h)⟩
  | str i => exact ⟨by decide, _, rfl, ifT (by decide) (ifT rfl h)⟩
  | lst i => exact ⟨by decide, _, rfl, ifT (by decide) (ifT rfl h)⟩
  | dic i => exact ⟨by decide, _, rfl, ifT (by decide) (ifT rfl h)⟩
  | dit i => exact ⟨by decide, _, rfl, ifT (by decide) (ifT rfl h)⟩
  | _ => cases hd
theorem sp_call {ps : List Part} {l : List Dt} (hp : ∀ p ∈ ps, p.ok) (hl : l.length ≤ 1000) (h : R (.tup (kept ps l))) : W_Cutter___call__ [cutC ps, .tup l] R X := by
  rw [W_Cutter___call___eq]
  exact ⟨rfl, by decide, _, rfl, ifF (by decide) (ifF (decide_eq_false (by show ¬ (1000 : Int) < (l.length : Nat); omega)) (sp_cut hp hl h))⟩
end Mw

set_option Elab.async false
set_option linter.all false
set_option maxRecDepth 100000
set_option maxHeartbeats 4000000
namespace Mw
open PySem PySem.Spec PyProof.Rows L2
open SX (S)
variable {R : Dt → Prop} {RR : List (Str × Dt) → Prop} {X : Xn} {f g k : List (Str × Dt)}
local macro_rules | `(tactic| walk_at "mw1") => `(tactic| first
  | assumption
  | refine ifT (by first | rfl | decide) ?_
  | refine ifF (by first | rfl | decide) ?_
  | refine ⟨by first | exact Nat.le_of_ble_eq_true rfl | rfl | decide, ?_⟩
  | refine ⟨_, rfl, ?_⟩
  | refine ⟨_, _, rfl, rfl, by decide +kernel, by decide +kernel, ?_⟩
  | refine ⟨_, _, rfl, rfl, ?_⟩)
local macro_rules | `(tactic| walk_at "mw") => `(tactic| repeat walk_at "mw1")
abbrev ann : Dt := .str "ann"
abbrev bob : Dt := .str "bob"
abbrev PP : Dt := .tup [ann, bob]
theorem name_ok {z : Str} (hz : z.length ≤ 1000) (h1 : (decide ((1 : Int) ≤ z.length)) = true) (h3 : decide ((z.length : Int) ≤ 8) = true) (h2 : (z.cps.toList.all fun c => decide (c ∈ ("abcdefghijklmnopqrstuvwxyz" : Str).cps.toList)) = true) (h : R (.bl true)) : W_is_name [.str z] R X := by
  rw [W_is_name_eq]
  refine ⟨rfl, by decide, _, rfl, ifT (by decide) ?_⟩
  refine ⟨by omega, ifT h1 ?_⟩
  refine ifT h3 ?_
  have hl : (signsD z).length = z.length := by simp [signsD, Str.length]
  refine ⟨by rw [hl]; omega, lc_map (f := fun d => match d with | .str ⟨#[c]⟩ => .bl (decide (c ∈ ("abcdefghijklmnopqrstuvwxyz" : Str).cps.toList)) | _ => .non) (fun d hd Q hq => ?_) ?_⟩
  · obtain ⟨c, hc, rfl⟩ := List.mem_map.mp hd
    exact ⟨c, rfl, hq⟩
  · refine ⟨z.cps.toList.map fun c => decide (c ∈ ("abcdefghijklmnopqrstuvwxyz" : Str).cps.toList), ?_, ?_⟩
    · have e2 : ([] : List Dt) ++ (signsD z).map (fun d => match d with | .str ⟨#[c]⟩ => Dt.bl (decide (c ∈ ("abcdefghijklmnopqrstuvwxyz" : Str).cps.toList)) | _ => .non) = (z.cps.toList.map fun c => decide (c ∈ ("abcdefghijklmnopqrstuvwxyz" : Str).cps.toList)).map .bl := by
        rw [List.nil_append]
        unfold signsD
        rw [List.map_map, List.map_map]
        rfl
      rw [e2]; exact blsD_map _
    · rw [List.all_map]
      show R (.bl (z.cps.toList.all fun c => decide (c ∈ ("abcdefghijklmnopqrstuvwxyz" : Str).cps.toList)))
      rw [h2]; exact h
theorem asc_ok (h : R (.bl true)) : W_is_ascending [PP] R X := by
  rw [W_is_ascending_eq]
  refine ⟨rfl, ?_⟩
  refine ⟨by decide, rfl, rfl, ifT rfl ?_⟩
  exact ⟨[true], rfl, h⟩
theorem people_ok (h : R (.bl true)) : W_are_people [PP] R X := by
  rw [W_are_people_eq]
  walk_at "mw"
  refine name_ok (z := "ann") (by decide) (by decide) (by decide) (by decide +kernel) ?_
  walk_at "mw"
  refine name_ok (z := "bob") (by decide) (by decide) (by decide) (by decide +kernel) ?_
  walk_at "mw"
  exact asc_ok h
theorem pair_ok (h : R (.bl true)) : W_is_pair [.tup [ann, bob], PP] R X := by
  rw [W_is_pair_eq]
  walk_at "mw"
theorem turn_ok {b : Bool} (h : R (.bl true)) : W_is_turn [.tup [.ins 21 f, .bl b, .ins 21 g]] R X := by
  rw [W_is_turn_eq]
  walk_at "mw"
abbrev kAB : List Key := [.inr "ann", .inr "bob"]
abbrev turnD (f g : List (Str × Dt)) : Dt := .tup [.ins 21 f, .bl true, .ins 21 g]
abbrev ansD (f g : List (Str × Dt)) : Dt := .dit [(kAB, turnD f g)]
theorem turns_ok (h : R (.bl true)) : W_are_turns [ansD f g, PP] R X := by
  show W_are_turns [.dit [(kAB, turnD f g)], PP] R X
  rw [W_are_turns_eq]
  walk_at "mw"
  refine pair_ok ?_
  walk_at "mw"
  refine turn_ok ?_
  walk_at "mw"
theorem turns_no (h : R (.bl true)) : W_are_turns [.dic [], PP] R X := by
  rw [W_are_turns_eq]
  walk_at "mw"
abbrev qB : Part := .pat [] [true]
abbrev copD (k : List (Str × Dt)) : Dt := .dic [(.inr "bob", .ins 21 k)]
theorem copies_ok (h : R (.bl true)) : W_are_copies [copD k, PP] R X := by
  rw [W_are_copies_eq]
  walk_at "mw"
theorem order_one (h : R (ansD f g)) : W_in_order [ansD f g] R X := by
  show W_in_order [.dit [(kAB, turnD f g)]] R X
  rw [W_in_order_eq]
  refine ⟨rfl, Nat.le_of_ble_eq_true rfl, .inr ⟨[["ann", "bob"]], rfl, fun ys hy _ => ?_⟩⟩
  obtain rfl := List.perm_singleton.mp hy
  walk_at "mw"
theorem order_no (h : R (.dit [])) : W_in_order [.dic []] R X := by
  rw [W_in_order_eq]
  refine ⟨rfl, by decide, .inl ⟨[], rfl, fun ys hy _ => ?_⟩⟩
  obtain rfl := List.perm_nil.mp hy
  walk_at "mw"
end Mw

set_option Elab.async false
set_option linter.all false
set_option maxRecDepth 100000
set_option maxHeartbeats 4000000
namespace Mw
open PySem PySem.Spec PyProof.Rows L2
open SX (S)
variable {R : Dt → Prop} {RR : List (Str × Dt) → Prop} {X : Xn} {f g k : List (Str × Dt)}
local macro_rules | `(tactic| walk_at "mw1") => `(tactic| first
  | assumption
  | refine ifT (by first | rfl | decide) ?_
  | refine ifF (by first | rfl | decide) ?_
  | refine ⟨by first | exact Nat.le_of_ble_eq_true rfl | rfl | decide, ?_⟩
  | refine ⟨_, rfl, ?_⟩
  | refine ⟨_, _, rfl, rfl, by decide +kernel, by decide +kernel, ?_⟩
  | refine ⟨_, _, rfl, rfl, ?_⟩)
local macro_rules | `(tactic| walk_at "mw") => `(tactic| repeat walk_at "mw1")
abbrev copF (z k : List (Str × Dt)) : Dt := .dic [(.inr "ann", .ins 21 z), (.inr "bob", .ins 21 k)]
abbrev compF (f g z k : List (Str × Dt)) : List (Str × Dt) := [("own_people", PP), ("own_answers", ansD f g), ("own_takings", .dit []), ("own_starts", PP), ("own_copies", copF z k)]
theorem mk0 (h : ∀ z, z = cutF [] → RR z) : W_Cutter___init__ [] RR X := sp_init_ok (ps := []) (fun p hp => nomatch hp) (by decide) (h _ rfl)
theorem cs_0 {kk : Oc → Prop} (h : kk (.nx [.slf 22 [], .dt PP, .dt (ansD f g), .dt .non, .dt .non, .dt (copD k), .no, .no, .no, .no])) : (ifSW (notW (testW (callW W_are_people (consW (vW 1) nilW)))) (raise0W 2) passW) [.slf 22 [], .dt PP, .dt (ansD f g), .dt .non, .dt .non, .dt (copD k), .no, .no, .no, .no] kk := people_ok (ifF rfl h)
theorem cs_1 {kk : Oc → Prop} (h : kk (.nx [.slf 22 [], .dt PP, .dt (ansD f g), .dt .non, .dt .non, .dt (copD k), .dt (.lst [ansD f g, .dic []]), .no, .no, .no])) : (asgW (lstW (consW (vW 2) (consW (ifW (testW (opW isD (vW 3) (cW (.non)))) dnewW (vW 3)) nilW))) (gN 6)) [.slf 22 [], .dt PP, .dt (ansD f g), .dt .non, .dt .non, .dt (copD k), .no, .no, .no, .no] kk := ifT rfl ⟨Nat.le_of_ble_eq_true rfl, h⟩
theorem cs_2 {kk : Oc → Prop} (h : kk (.nx [.slf 22 [], .dt PP, .dt (ansD f g), .dt .non, .dt .non, .dt (copD k), .dt (.lst [ansD f g, .dic []]), .no, .no, .no])) : (ifSW (notW (testW (cbW allD (consW (lcW (itW iAnyD (vW 6)) [8] (gN 8) yesW (callW W_are_turns (consW (vW 8) (consW (vW 1) nilW)))) nilW)))) (raise0W 2) passW) [.slf 22 [], .dt PP, .dt (ansD f g), .dt .non, .dt .non, .dt (copD k), .dt (.lst [ansD f g, .dic []]), .no, .no, .no] kk := ⟨Nat.le_of_ble_eq_true rfl, ifT rfl (turns_ok (ifT rfl (turns_no ⟨[true, true], rfl, ifF rfl h⟩)))⟩
theorem cs_3 {kk : Oc → Prop} (h : kk (.nx [.slf 22 [], .dt PP, .dt (ansD f g), .dt .non, .dt .non, .dt (copD k), .dt (.lst [ansD f g, .dic []]), .no, .no, .no])) : (ifSW (andW (testW (opW isntD (vW 4) (cW (.non)))) (notW (testW (callW W_are_some (consW (vW 4) (consW (vW 1) nilW)))))) (raise0W 2) passW) [.slf 22 [], .dt PP, .dt (ansD f g), .dt .non, .dt .non, .dt (copD k), .dt (.lst [ansD f g, .dic []]), .no, .no, .no] kk := ifF rfl (ifF rfl h)
theorem cs_4 {kk : Oc → Prop} (h : kk (.nx [.slf 22 [], .dt PP, .dt (ansD f g), .dt .non, .dt .non, .dt (copD k), .dt (.lst [ansD f g, .dic []]), .dt (copD k), .no, .no])) : (asgW (ifW (testW (opW isD (vW 5) (cW (.non)))) dnewW (vW 5)) (gN 7)) [.slf 22 [], .dt PP, .dt (ansD f g), .dt .non, .dt .non, .dt (copD k), .dt (.lst [ansD f g, .dic []]), .no, .no, .no] kk := ifF rfl h
theorem cs_5 {kk : Oc → Prop} (h : kk (.nx [.slf 22 [], .dt PP, .dt (ansD f g), .dt .non, .dt .non, .dt (copD k), .dt (.lst [ansD f g, .dic []]), .dt (copD k), .no, .no])) : (ifSW (notW (testW (callW W_are_copies (consW (vW 7) (consW (vW 1) nilW))))) (raise0W 2) passW) [.slf 22 [], .dt PP, .dt (ansD f g), .dt .non, .dt .non, .dt (copD k), .dt (.lst [ansD f g, .dic []]), .dt (copD k), .no, .no] kk := copies_ok (ifF rfl h)
theorem cs_6 {kk : Oc → Prop} (h : kk (.nx [.slf 22 [("own_people", PP)], .dt PP, .dt (ansD f g), .dt .non, .dt .non, .dt (copD k), .dt (.lst [ansD f g, .dic []]), .dt (copD k), .no, .no])) : (sfldW [22] "own_people" 0 (vW 1)) [.slf 22 [], .dt PP, .dt (ansD f g), .dt .non, .dt .non, .dt (copD k), .dt (.lst [ansD f g, .dic []]), .dt (copD k), .no, .no] kk := ⟨rfl, Nat.le_of_ble_eq_true rfl, h⟩
theorem cs_7 {kk : Oc → Prop} (h : kk (.nx [.slf 22 [("own_people", PP), ("own_answers", ansD f g), ("own_takings", .dit [])], .dt PP, .dt (ansD f g), .dt .non, .dt .non, .dt (copD k), .dt (.lst [ansD f g, .dic []]), .dt (copD k), .no, .no])) : (sfldsW [22] ["own_answers", "own_takings"] 0 (lcW (itW iAnyD (vW 6)) [8] (gN 8) yesW (callW W_in_order (consW (vW 8) nilW)))) [.slf 22 [("own_people", PP)], .dt PP, .dt (ansD f g), .dt .non, .dt .non, .dt (copD k), .dt (.lst [ansD f g, .dic []]), .dt (copD k), .no, .no] kk := ⟨Nat.le_of_ble_eq_true rfl, ifT rfl (order_one (ifT rfl (order_no ⟨rfl, Nat.le_of_ble_eq_true rfl, rfl, h⟩)))⟩
theorem cs_8 {kk : Oc → Prop} (h : kk (.nx [.slf 22 [("own_people", PP), ("own_answers", ansD f g), ("own_takings", .dit []), ("own_starts", PP)], .dt PP, .dt (ansD f g), .dt .non, .dt .non, .dt (copD k), .dt (.lst [ansD f g, .dic []]), .dt (copD k), .no, .no])) : (sfldW [22] "own_starts" 0 (ifW (testW (opW isD (vW 4) (cW (.non)))) (vW 1) (vW 4))) [.slf 22 [("own_people", PP), ("own_answers", ansD f g), ("own_takings", .dit [])], .dt PP, .dt (ansD f g), .dt .non, .dt .non, .dt (copD k), .dt (.lst [ansD f g, .dic []]), .dt (copD k), .no, .no] kk := ifT rfl ⟨rfl, Nat.le_of_ble_eq_true rfl, h⟩
theorem cs_9 {kk : Oc → Prop} (h : ∀ z, z = cutF [] → kk (.nx [.slf 22 [("own_people", PP), ("own_answers", ansD f g), ("own_takings", .dit []), ("own_starts", PP), ("own_copies", copF z k)], .dt PP, .dt (ansD f g), .dt .non, .dt .non, .dt (copD k), .dt (.lst [ansD f g, .dic []]), .dt (copD k), .no, .no])) : (sfldW [22] "own_copies" 0 (dcW (itW iAnyD (vW 1)) [9] (gN 9) yesW (vW 9) (dget2W (vW 7) (vW 9) (makeW 21 W_Cutter___init__ nilW)))) [.slf 22 [("own_people", PP), ("own_answers", ansD f g), ("own_takings", .dit []), ("own_starts", PP)], .dt PP, .dt (ansD f g), .dt .non, .dt .non, .dt (copD k), .dt (.lst [ansD f g, .dic []]), .dt (copD k), .no, .no] kk := by
  refine ⟨Nat.le_of_ble_eq_true rfl, ?_⟩
  refine ifT rfl ⟨rfl, mk0 fun z hz => ⟨_, rfl, _, rfl, ?_⟩⟩
  refine ifT rfl ⟨rfl, mk0 fun z2 hz2 => ⟨_, rfl, _, rfl, ?_⟩⟩
  exact ⟨rfl, Nat.le_of_ble_eq_true rfl, h z hz⟩
theorem comp_ok (h : ∀ z, z = cutF [] → RR (compF f g z k)) : W_Company___init__ [PP, ansD f g, .non, .non, copD k] RR X := by
  rw [W_Company___init___eq]
  exact ⟨rfl, cs_0 (cs_1 (cs_2 (cs_3 (cs_4 (cs_5 (cs_6 (cs_7 (cs_8 (cs_9 fun z hz => ⟨rfl, h z hz⟩)))))))))⟩
end Mw

set_option Elab.async false
set_option linter.all false
set_option maxRecDepth 100000
set_option maxHeartbeats 4000000
namespace Mw
open PySem PySem.Spec PyProof.Rows L2
open SX (S)
variable {R : Dt → Prop} {RR : List (Str × Dt) → Prop} {X : Xn} {f g k : List (Str × Dt)}
local macro_rules | `(tactic| walk_at "mw1") => `(tactic| first
  | assumption
  | refine ifT (by first | rfl | decide) ?_
  | refine ifF (by first | rfl | decide) ?_
  | refine ⟨by first | exact Nat.le_of_ble_eq_true rfl | rfl | decide, ?_⟩
  | refine ⟨_, rfl, ?_⟩
  | refine ⟨_, _, rfl, rfl, by decide +kernel, by decide +kernel, ?_⟩
  | refine ⟨_, _, rfl, rfl, ?_⟩)
local macro_rules | `(tactic| walk_at "mw") => `(tactic| repeat walk_at "mw1")
variable {z : List (Str × Dt)}
abbrev compC (f g z k : List (Str × Dt)) : Dt := .ins 22 (compF f g z k)
abbrev L1 : Dt := .tup [ann, .non, .bl true]
abbrev L2 : Dt := .tup [bob, .int 0, .bl false]
abbrev L3 : Dt := .tup [bob, .non, .bl true]
theorem behind_ok {l : List Dt} (hl : atI (L1 :: l) 0 = some L1) (h : R (turnD f g)) : W_turn_behind [compC f g z k, .tup (L1 :: l), L2] R X := by
  rw [W_turn_behind_eq]
  refine ⟨rfl, ⟨rfl, rfl, ?_⟩⟩
  refine ifF rfl ⟨rfl, _, rfl, ⟨rfl, ⟨L1, hl, ⟨ann, rfl, ?_⟩⟩⟩⟩
  exact ⟨Nat.le_of_ble_eq_true rfl, _, rfl, h⟩
theorem let1 (h : R (.bl true)) : W_is_letter [compC f g z k, .tup [], L1] R X := by
  rw [W_is_letter_eq]
  refine ⟨rfl, ?_⟩
  walk_at "mw"
theorem let2 (h : R (.bl true)) : W_is_letter [compC f g z k, .tup [L1], L2] R X := by
  rw [W_is_letter_eq]
  refine ⟨rfl, ?_⟩
  walk_at "mw"
  refine sp_is_integer rfl ?_
  refine ifF rfl ?_
  refine ifT rfl ?_
  refine ifF rfl ?_
  exact behind_ok rfl h
theorem let3 (h : R (.bl true)) : W_is_letter [compC f g z k, .tup [L1, L2], L3] R X := by
  rw [W_is_letter_eq]
  refine ⟨rfl, ?_⟩
  walk_at "mw"
theorem letters_ok (h : R (.bl true)) : W_are_letters [compC f g z k, .tup [L1, L2, L3]] R X := by
  rw [W_are_letters_eq]
  refine ⟨rfl, ?_⟩
  refine for_inv (fun i s => ∃ x y, s = [.dt (compC f g z k), .dt (.tup [L1, L2, L3]), x, y]) 0 ⟨_, _, rfl⟩ ?_ ?_
  · rintro i d s N hi ⟨x, y, rfl⟩ hn
    have hi : ([.tup [.int 0, L1], .tup [.int 1, L2], .tup [.int 2, L3]] : List Dt)[i]? = some d := hi
    match i, hi with
    | 0, hi =>
      cases hi
      exact ⟨rfl, rfl, let1 (ifF rfl (hn _ ⟨_, _, rfl⟩))⟩
    | 1, hi =>
      cases hi
      exact ⟨rfl, rfl, let2 (ifF rfl (hn _ ⟨_, _, rfl⟩))⟩
    | 2, hi =>
      cases hi
      exact ⟨rfl, rfl, let3 (ifF rfl (hn _ ⟨_, _, rfl⟩))⟩
  · rintro s ⟨x, y, rfl⟩
    exact h
abbrev LL : Dt := .tup [L1, L2, L3]
theorem checked_ok (h : R LL) : W_checked [compC f g z k, LL] R X := by
  rw [W_checked_eq]
  exact ⟨rfl, ifF rfl (letters_ok (ifF rfl h))⟩
theorem talks_ok (h : R (.tup [.int 0, .int 0, .int 2])) : W_talks_in [LL] R X := by
  rw [W_talks_in_eq]
  refine ⟨rfl, ?_⟩
  refine ⟨Nat.le_of_ble_eq_true rfl, ?_⟩
  refine for_inv (fun i s => ∃ x1 x2 x3 x4, s = [.dt LL, .own (.lst (([.int 0, .int 0, .int 2] : List Dt).take i)), x1, x2, x3, x4]) 0 ⟨_, _, _, _, rfl⟩ ?_ ?_
  · rintro i d s N hi ⟨x1, x2, x3, x4, rfl⟩ hn
    have hi : ([.tup [.int 0, L1], .tup [.int 1, L2], .tup [.int 2, L3]] : List Dt)[i]? = some d := hi
    match i, hi with
    | 0, hi =>
      cases hi
      refine ⟨rfl, rfl, rfl, rfl, ?_⟩
      refine ifT rfl ?_
      exact ⟨Nat.le_of_ble_eq_true rfl, hn _ ⟨_, _, _, _, rfl⟩⟩
    | 1, hi =>
      cases hi
      refine ⟨rfl, rfl, rfl, rfl, ?_⟩
      refine ifF rfl ?_
      exact ⟨.int 0, rfl, Nat.le_of_ble_eq_true rfl, hn _ ⟨_, _, _, _, rfl⟩⟩
    | 2, hi =>
      cases hi
      refine ⟨rfl, rfl, rfl, rfl, ?_⟩
      refine ifT rfl ?_
      exact ⟨Nat.le_of_ble_eq_true rfl, hn _ ⟨_, _, _, _, rfl⟩⟩
  · rintro s ⟨x1, x2, x3, x4, rfl⟩
    exact h
/-- the rows that the letters got -/
abbrev rowD (ps : List Part) : Dt := .tup (kept ps [.int 0])
abbrev LS (ps : List Part) : List Dt := [.tup [], rowD ps, .tup []]
theorem lists_ok {ps : List Part} (hp : ∀ p ∈ ps, p.ok) (hf : f = cutF []) (hg : g = cutF ps) (h : R (.tup (LS ps))) : W_lists_in [compC f g z k, LL] R X := by
  have c0 : ∀ {R : Dt → Prop} {X : Xn}, R (.tup []) → W_cut [.ins 21 f, .tup []] R X := fun {R X} h => by rw [hf]; exact sp_cut (ps := []) (fun p hp => nomatch hp) (by decide) h
  have c1 : ∀ {R : Dt → Prop} {X : Xn}, R (rowD ps) → W_cut [.ins 21 g, .tup [.int 0]] R X := fun {R X} h => by rw [hg]; exact sp_cut (ps := ps) hp (by decide) h
  clear hf hg
  have h : R (.tup [.tup [], rowD ps, .tup []]) := h
  generalize rowD ps = rw1 at *
  rw [W_lists_in_eq]
  refine ⟨rfl, ?_⟩
  refine ⟨Nat.le_of_ble_eq_true rfl, ?_⟩
  refine for_inv (fun i s => ∃ x1 x2 x3 x4 x5, s = [.dt (compC f g z k), .dt LL, .own (.lst (([.tup [], rw1, .tup []] : List Dt).take i)), x1, x2, x3, x4, x5]) 0 ⟨_, _, _, _, _, rfl⟩ ?_ ?_
  · rintro i d s N hi ⟨x1, x2, x3, x4, x5, rfl⟩ hn
    have hi : ([L1, L2, L3] : List Dt)[i]? = some d := hi
    match i, hi with
    | 0, hi =>
      cases hi
      refine ⟨.non, rfl, ifT rfl ?_⟩
      exact ⟨Nat.le_of_ble_eq_true rfl, Nat.le_of_ble_eq_true rfl, hn _ ⟨_, _, _, _, _, rfl⟩⟩
    | 1, hi =>
      cases hi
      refine ⟨.int 0, rfl, ifF rfl ?_⟩
      refine behind_ok rfl ⟨rfl, rfl, ?_⟩
      refine ⟨.int 0, rfl, .tup [], rfl, c0 ?_⟩
      refine ifT rfl ?_
      refine ⟨.int 0, rfl, Nat.le_of_ble_eq_true rfl, c1 ?_⟩
      exact ⟨Nat.le_of_ble_eq_true rfl, hn _ ⟨_, _, _, _, _, rfl⟩⟩
    | 2, hi =>
      cases hi
      refine ⟨.non, rfl, ifT rfl ?_⟩
      exact ⟨Nat.le_of_ble_eq_true rfl, Nat.le_of_ble_eq_true rfl, hn _ ⟨_, _, _, _, _, rfl⟩⟩
  · rintro s ⟨x1, x2, x3, x4, x5, rfl⟩
    exact h
end Mw

set_option Elab.async false
set_option linter.all false
set_option maxRecDepth 100000
set_option maxHeartbeats 4000000
namespace Mw
open PySem PySem.Spec PyProof.Rows L2
open SX (S)
variable {R : Dt → Prop} {RR : List (Str × Dt) → Prop} {X : Xn} {f g k : List (Str × Dt)}
local macro_rules | `(tactic| walk_at "mw1") => `(tactic| first
  | assumption
  | refine ifT (by first | rfl | decide) ?_
  | refine ifF (by first | rfl | decide) ?_
  | refine ⟨by first | exact Nat.le_of_ble_eq_true rfl | rfl | decide, ?_⟩
  | refine ⟨_, rfl, ?_⟩
  | refine ⟨_, _, rfl, rfl, by decide +kernel, by decide +kernel, ?_⟩
  | refine ⟨_, _, rfl, rfl, ?_⟩)
local macro_rules | `(tactic| walk_at "mw") => `(tactic| repeat walk_at "mw1")
variable {z : List (Str × Dt)} {ps : List Part}
abbrev bunF (f g z k : List (Str × Dt)) (ps : List Part) : List (Str × Dt) := [("own_company", compC f g z k), ("own_letters", LL), ("own_lists", .tup (LS ps)), ("own_talks", .tup [.int 0, .int 0, .int 2])]
abbrev bunC (f g z k : List (Str × Dt)) (ps : List Part) : Dt := .ins 24 (bunF f g z k ps)
theorem comp_req (h : R .non) : W_require_company [compC f g z k] R X := by
  rw [W_require_company_eq]
  exact ⟨rfl, ifF rfl h⟩
theorem bs_0 {kk : Oc → Prop} (h : kk (.nx [.slf 24 [], .dt (compC f g z k), .dt LL, .no])) : (exprW (callW W_require_company (consW (vW 1) nilW))) [.slf 24 [], .dt (compC f g z k), .dt LL, .no] kk := comp_req h
theorem bs_1 {kk : Oc → Prop} (h : kk (.nx [.slf 24 [], .dt (compC f g z k), .dt LL, .dt (.bl false)])) : (asgW (avW (opW eqD (cbW lenD (consW (vW 2) nilW)) (cW (.int 1))) (cbW isiD (consW (opW ixD (vW 2) (cW (.int 0))) (consW (cW (.cls 23)) nilW)))) (gN 3)) [.slf 24 [], .dt (compC f g z k), .dt LL, .no] kk := ifF rfl h
theorem bs_2 {kk : Oc → Prop} (h : kk (.nx [.slf 24 [("own_company", compC f g z k)], .dt (compC f g z k), .dt LL, .dt (.bl false)])) : (sfldW [24] "own_company" 0 (vW 1)) [.slf 24 [], .dt (compC f g z k), .dt LL, .dt (.bl false)] kk := ⟨rfl, Nat.le_of_ble_eq_true rfl, h⟩
theorem bs_3 {kk : Oc → Prop} (h : kk (.nx [.slf 24 [("own_company", compC f g z k), ("own_letters", LL)], .dt (compC f g z k), .dt LL, .dt (.bl false)])) : (sfldW [23, 24] "own_letters" 0 (ifW (testW (vW 3)) (fldW [23, 24] "own_letters" (opW ixD (vW 2) (cW (.int 0)))) (callW W_checked (consW (vW 1) (consW (vW 2) nilW))))) [.slf 24 [("own_company", compC f g z k)], .dt (compC f g z k), .dt LL, .dt (.bl false)] kk := ifF rfl (checked_ok ⟨rfl, Nat.le_of_ble_eq_true rfl, h⟩)
theorem bs_4 {kk : Oc → Prop} (hp : ∀ p ∈ ps, p.ok) (hf : f = cutF []) (hg : g = cutF ps) (h : kk (.nx [.slf 24 [("own_company", compC f g z k), ("own_letters", LL), ("own_lists", .tup (LS ps))], .dt (compC f g z k), .dt LL, .dt (.bl false)])) : (sfldW [24] "own_lists" 0 (callW W_lists_in (consW (vW 1) (consW (sfW [23, 24] "own_letters" 0) nilW)))) [.slf 24 [("own_company", compC f g z k), ("own_letters", LL)], .dt (compC f g z k), .dt LL, .dt (.bl false)] kk := ⟨rfl, _, rfl, lists_ok hp hf hg ⟨rfl, Nat.le_of_ble_eq_true rfl, h⟩⟩
theorem bs_5 {kk : Oc → Prop} (h : kk (.nx [.slf 24 [("own_company", compC f g z k), ("own_letters", LL), ("own_lists", .tup (LS ps)), ("own_talks", .tup [.int 0, .int 0, .int 2])], .dt (compC f g z k), .dt LL, .dt (.bl false)])) : (sfldW [24] "own_talks" 0 (callW W_talks_in (consW (sfW [23, 24] "own_letters" 0) nilW))) [.slf 24 [("own_company", compC f g z k), ("own_letters", LL), ("own_lists", .tup (LS ps))], .dt (compC f g z k), .dt LL, .dt (.bl false)] kk := ⟨rfl, _, rfl, talks_ok ⟨rfl, Nat.le_of_ble_eq_true rfl, h⟩⟩
theorem bun_ok (hp : ∀ p ∈ ps, p.ok) (hf : f = cutF []) (hg : g = cutF ps) (h : RR (bunF f g z k ps)) : W_Bundle___init__ [compC f g z k, L1, L2, L3] RR X := by
  rw [W_Bundle___init___eq]
  refine ⟨Nat.le_of_ble_eq_true rfl, Nat.le_of_ble_eq_true rfl, ?_⟩
  show B_Bundle___init__ [.slf 24 [], .dt (compC f g z k), .dt LL, .no] (endI 24 RR X)
  unfold B_Bundle___init__ seqW
  refine bs_0 ?_
  refine bs_1 ?_
  refine bs_2 ?_
  refine bs_3 ?_
  refine bs_4 hp hf hg ?_
  refine bs_5 ?_
  exact ⟨rfl, h⟩
end Mw

set_option Elab.async false
set_option linter.all false
set_option maxRecDepth 100000
set_option maxHeartbeats 4000000
namespace Mw
open PySem PySem.Spec PyProof.Rows L2
open SX (S)
variable {R : Dt → Prop} {RR : List (Str × Dt) → Prop} {X : Xn} {f g k : List (Str × Dt)}
local macro_rules | `(tactic| walk_at "mw1") => `(tactic| first
  | assumption
  | refine ifT (by first | rfl | decide) ?_
  | refine ifF (by first | rfl | decide) ?_
  | refine ⟨by first | exact Nat.le_of_ble_eq_true rfl | rfl | decide, ?_⟩
  | refine ⟨_, rfl, ?_⟩
  | refine ⟨_, _, rfl, rfl, by decide +kernel, by decide +kernel, ?_⟩
  | refine ⟨_, _, rfl, rfl, ?_⟩)
local macro_rules | `(tactic| walk_at "mw") => `(tactic| repeat walk_at "mw1")
variable {z : List (Str × Dt)} {ps : List Part} {b : Bool} {d : Dt}
abbrev ruleF (g : List (Str × Dt)) (b : Bool) : List (Str × Dt) := [("own_cutter", .ins 21 g), ("own_sees", .bl b)]
abbrev ruleC (g : List (Str × Dt)) (b : Bool) : Dt := .ins 25 (ruleF g b)
theorem cut_req (h : R .non) : W_require_cutter [.ins 21 g] R X := by
  rw [W_require_cutter_eq]
  exact ⟨rfl, ifF rfl h⟩
theorem rule_ok (h : RR (ruleF g b)) : W_Rule___init__ [.ins 21 g, .bl b] RR X := by
  rw [W_Rule___init___eq]
  refine ⟨rfl, cut_req ?_⟩
  refine ⟨by decide, _, rfl, ifF (by decide) ?_⟩
  exact ⟨rfl, Nat.le_of_ble_eq_true rfl, rfl, Nat.le_of_ble_eq_true rfl, rfl, h⟩
theorem rule_no {e : Dt} (hd : tyKn d = true) (h1 : isCut d = false) (h : X 1 []) : W_Rule___init__ [d, e] RR X := by
  rw [W_Rule___init___eq]
  exact ⟨rfl, sp_require_no hd h1 h⟩
def isBl : Dt → Bool
  | .bl _ => true
  | _ => false
theorem rule_flag (hd : tyKn d = true) (h1 : isBl d = false) (h : X 4 []) : W_Rule___init__ [.ins 21 g, d] RR X := by
  rw [W_Rule___init___eq]
  refine ⟨rfl, cut_req ?_⟩
  cases d with
  | ins C f => exact ⟨by decide, ifT rfl h⟩
  | non => exact ⟨by decide, _, rfl, ifT (by decide) h⟩
  | int i => exact ⟨by decide, _, rfl, ifT (by decide) h⟩
  | str i => exact ⟨by decide, _, rfl, ifT (by decide) h⟩
  | lst i => exact ⟨by decide, _, rfl, ifT (by decide) h⟩
  | tup i => exact ⟨by decide, _, rfl, ifT (by decide) h⟩
  | dic i => exact ⟨by decide, _, rfl, ifT (by decide) h⟩
  | dit i => exact ⟨by decide, _, rfl, ifT (by decide) h⟩
  | bl i => cases h1
  | _ => cases hd
theorem rcutter (h : R (.ins 21 g)) : W_Rule_cutter [ruleC g b] R X := by
  rw [W_Rule_cutter_eq]
  exact ⟨rfl, rfl, _, rfl, h⟩
/-! what is no rule, no bundle, no company -/
def isIns (C : Nat) : Dt → Bool
  | .ins D _ => decide (D = C)
  | _ => false
theorem within_no {e : Dt} (hd : tyKn d = true) (h1 : isIns 25 d = false) (h : X 4 []) : W_Rule_is_within [e, d] R X := by
  rw [W_Rule_is_within_eq]
  refine ⟨rfl, ?_⟩
  show W_require_rule [d] _ _
  rw [W_require_rule_eq]
  refine ⟨rfl, ?_⟩
  cases d with
  | ins C f => exact ifT (by show (!decide (C = 25)) = true; rw [show decide (C = 25) = false from h1]; rfl) h
  | non => exact ⟨_, rfl, ifT rfl h⟩
  | bl i => exact ⟨_, rfl, ifT rfl h⟩
  | int i => exact ⟨_, rfl, ifT rfl h⟩
  | str i => exact ⟨_, rfl, ifT rfl h⟩
  | lst i => exact ⟨_, rfl, ifT rfl h⟩
  | tup i => exact ⟨_, rfl, ifT rfl h⟩
  | dic i => exact ⟨_, rfl, ifT rfl h⟩
  | dit i => exact ⟨_, rfl, ifT rfl h⟩
  | _ => cases hd
theorem bound_no {e m : Dt} (hd : tyKn d = true) (h1 : isIns 24 d = false) (h : X 3 []) : W_Rule_bound [e, d, m] R X := by
  rw [W_Rule_bound_eq]
  refine ⟨rfl, ?_⟩
  show W_require_bundle [d] _ _
  rw [W_require_bundle_eq]
  refine ⟨rfl, ?_⟩
  cases d with
  | ins C f => exact ifT (by show (!decide (C = 24)) = true; rw [show decide (C = 24) = false from h1]; rfl) h
  | non => exact ⟨_, rfl, ifT rfl h⟩
  | bl i => exact ⟨_, rfl, ifT rfl h⟩
  | int i => exact ⟨_, rfl, ifT rfl h⟩
  | str i => exact ⟨_, rfl, ifT rfl h⟩
  | lst i => exact ⟨_, rfl, ifT rfl h⟩
  | tup i => exact ⟨_, rfl, ifT rfl h⟩
  | dic i => exact ⟨_, rfl, ifT rfl h⟩
  | dit i => exact ⟨_, rfl, ifT rfl h⟩
  | _ => cases hd
theorem through_no {e m : Dt} (hd : tyKn d = true) (h1 : isIns 22 d = false) (h : X 2 []) : W_Rule_through [e, d, m] R X := by
  rw [W_Rule_through_eq]
  refine ⟨rfl, ?_⟩
  show W_require_company [d] _ _
  rw [W_require_company_eq]
  refine ⟨rfl, ?_⟩
  cases d with
  | ins C f => exact ifT (by show (!decide (C = 22)) = true; rw [show decide (C = 22) = false from h1]; rfl) h
  | non => exact ⟨_, rfl, ifT rfl h⟩
  | bl i => exact ⟨_, rfl, ifT rfl h⟩
  | int i => exact ⟨_, rfl, ifT rfl h⟩
  | str i => exact ⟨_, rfl, ifT rfl h⟩
  | lst i => exact ⟨_, rfl, ifT rfl h⟩
  | tup i => exact ⟨_, rfl, ifT rfl h⟩
  | dic i => exact ⟨_, rfl, ifT rfl h⟩
  | dit i => exact ⟨_, rfl, ifT rfl h⟩
  | _ => cases hd
theorem call_no {e : Dt} (hd : tyKn d = true) (h1 : ∀ l, d = .tup l → 1000 < l.length) (h : X 9 []) : W_Rule___call__ [ruleC g b, d] R X := by
  rw [W_Rule___call___eq]
  exact ⟨rfl, rfl, _, rfl, _, rfl, sp_call_no hd h1 h⟩
end Mw

set_option Elab.async false
set_option linter.all false
set_option maxRecDepth 100000
set_option maxHeartbeats 4000000
namespace Mw
open PySem PySem.Spec PyProof.Rows L2
open SX (S)
variable {R : Dt → Prop} {RR : List (Str × Dt) → Prop} {X : Xn} {f g k : List (Str × Dt)}
local macro_rules | `(tactic| walk_at "mw1") => `(tactic| first
  | assumption
  | refine ifT (by first | rfl | decide) ?_
  | refine ifF (by first | rfl | decide) ?_
  | refine ⟨by first | exact Nat.le_of_ble_eq_true rfl | rfl | decide, ?_⟩
  | refine ⟨_, rfl, ?_⟩
  | refine ⟨_, _, rfl, rfl, by decide +kernel, by decide +kernel, ?_⟩
  | refine ⟨_, _, rfl, rfl, ?_⟩)
local macro_rules | `(tactic| walk_at "mw") => `(tactic| repeat walk_at "mw1")
variable {z : List (Str × Dt)} {ps : List Part} {b : Bool} {d : Dt}
def markB : Dt → Bool
  | .int i => decide (0 ≤ i) && decide (i < 3)
  | _ => false
theorem mark_of (hd : tyKn d = true) (h : R (.bl (markB d))) : W_is_mark_of [bunC f g z k ps, d] R X := by
  rw [W_is_mark_of_eq]
  refine ⟨rfl, sp_is_integer hd ?_⟩
  cases d with
  | int i =>
    refine ifT rfl ?_
    have h : R (.bl (decide (0 ≤ i) && decide (i < 3))) := h
    refine ifb (fun e => ?_) fun e => ?_
    · have e : decide ((0 : Int) ≤ i) = true := e
      rw [e] at h
      exact ⟨rfl, _, rfl, h⟩
    · have e : decide ((0 : Int) ≤ i) = false := e
      rw [e] at h
      exact h
  | ins C l => exact ifF rfl h
  | non => exact ifF rfl h
  | bl i => exact ifF rfl h
  | str i => exact ifF rfl h
  | lst i => exact ifF rfl h
  | tup i => exact ifF rfl h
  | dic i => exact ifF rfl h
  | dit i => exact ifF rfl h
  | _ => cases hd
theorem mark_no (hd : tyKn d = true) (h1 : markB d = false) (h : X 11 [("name", d)]) : W_require_mark [bunC f g z k ps, d] R X := by
  rw [W_require_mark_eq]
  refine ⟨rfl, mark_of hd ?_⟩
  rw [h1]
  exact ifT rfl h
theorem mark_ok (hd : tyKn d = true) (h1 : markB d = true) (h : R .non) : W_require_mark [bunC f g z k ps, d] R X := by
  rw [W_require_mark_eq]
  refine ⟨rfl, mark_of hd ?_⟩
  rw [h1]
  exact ifF rfl h
theorem bundle_req (h : R .non) : W_require_bundle [bunC f g z k ps] R X := by
  rw [W_require_bundle_eq]
  exact ⟨rfl, ifF rfl h⟩
theorem bound_mark {e : Dt} (hd : tyKn d = true) (h1 : markB d = false) (h : X 11 [("name", d)]) : W_Rule_bound [e, bunC f g z k ps, d] R X := by
  rw [W_Rule_bound_eq]
  exact ⟨rfl, bundle_req (mark_no hd h1 h)⟩
end Mw

set_option Elab.async false
set_option linter.all false
set_option maxRecDepth 100000
set_option maxHeartbeats 4000000
namespace Mw
open PySem PySem.Spec PyProof.Rows L2
open SX (S)
variable {R : Dt → Prop} {RR : List (Str × Dt) → Prop} {X : Xn} {f g k : List (Str × Dt)}
local macro_rules | `(tactic| walk_at "mw1") => `(tactic| first
  | assumption
  | refine ifT (by first | rfl | decide) ?_
  | refine ifF (by first | rfl | decide) ?_
  | refine ⟨by first | exact Nat.le_of_ble_eq_true rfl | rfl | decide, ?_⟩
  | refine ⟨_, rfl, ?_⟩
  | refine ⟨_, _, rfl, rfl, by decide +kernel, by decide +kernel, ?_⟩
  | refine ⟨_, _, rfl, rfl, ?_⟩)
local macro_rules | `(tactic| walk_at "mw") => `(tactic| repeat walk_at "mw1")
variable {z : List (Str × Dt)} {ps : List Part} {b : Bool} {d : Dt}
theorem kept_len2 {α : Type} : ∀ (ps : List Part) (row : List α), (kept ps row).length ≤ row.length
  | [], row => Nat.le_refl _
  | p :: ps, row => Nat.le_trans (kept_len2 ps (cutRow p row)) (by
    unfold cutRow
    exact Nat.le_trans (List.length_filterMap_le _ _) (pl_len p row.length))
theorem okB : ∀ p ∈ [qB], p.ok := fun p hp => by rw [List.mem_singleton.mp hp]; exact ⟨by decide, by decide⟩
theorem row_ok {l : List Dt} (hp : ∀ p ∈ ps, p.ok) (hg : g = cutF ps) (hk : k = cutF [qB]) (hl : l.length ≤ 1000) (h : R (.tup (kept ps (kept [qB] l)))) : W_bound_row [ruleC g b, compC f g z k, bob, .tup l] R X := by
  have c2 : ∀ {R : Dt → Prop} {X : Xn}, R (.tup (kept [qB] l)) → W_cut [.ins 21 k, .tup l] R X := fun {R X} h => by rw [hk]; exact sp_cut okB hl h
  have c1 : ∀ {R : Dt → Prop} {X : Xn} {l : List Dt}, l.length ≤ 1000 → R (.tup (kept ps l)) → W_cut [.ins 21 g, .tup l] R X := fun {R X l} hl h => by rw [hg]; exact sp_cut hp hl h
  have hl2 := kept_len2 [qB] l
  rw [W_bound_row_eq]
  refine ⟨rfl, rfl, _, rfl, rfl, _, rfl, _, rfl, ?_⟩
  exact c2 (c1 (by omega) h)
theorem bound1 (hp : ∀ p ∈ ps, p.ok) (hg : g = cutF ps) (hk : k = cutF [qB]) (h : R (.tup (kept ps (kept [qB] (kept ps [.int 0]))))) : W_Rule_bound [ruleC g b, bunC f g z k ps, .int 1] R X := by
  rw [W_Rule_bound_eq]
  refine ⟨rfl, bundle_req (mark_ok rfl rfl ?_)⟩
  refine ⟨rfl, _, rfl, rfl, _, rfl, L2, rfl, bob, rfl, rfl, _, rfl, rowD ps, rfl, ?_⟩
  exact row_ok hp hg hk (Nat.le_trans (kept_len2 ps _) (by decide)) h
end Mw

set_option Elab.async false
set_option linter.all false
set_option maxRecDepth 100000
set_option maxHeartbeats 4000000
namespace Mw
open PySem PySem.Spec PyProof.Rows L2
open SX (S)
variable {R : Dt → Prop} {RR : List (Str × Dt) → Prop} {X : Xn} {f g k : List (Str × Dt)}
local macro_rules | `(tactic| walk_at "mw1") => `(tactic| first
  | assumption
  | refine ifT (by first | rfl | decide) ?_
  | refine ifF (by first | rfl | decide) ?_
  | refine ⟨by first | exact Nat.le_of_ble_eq_true rfl | rfl | decide, ?_⟩
  | refine ⟨_, rfl, ?_⟩
  | refine ⟨_, _, rfl, rfl, by decide +kernel, by decide +kernel, ?_⟩
  | refine ⟨_, _, rfl, rfl, ?_⟩)
local macro_rules | `(tactic| walk_at "mw") => `(tactic| repeat walk_at "mw1")
variable {z : List (Str × Dt)} {ps : List Part} {b : Bool} {d : Dt}
theorem bound2 (hp : ∀ p ∈ ps, p.ok) (hg : g = cutF ps) (hk : k = cutF [qB]) (h : R (.tup [])) : W_Rule_bound [ruleC g b, bunC f g z k ps, .int 2] R X := by
  rw [W_Rule_bound_eq]
  refine ⟨rfl, bundle_req (mark_ok rfl rfl ?_)⟩
  refine ⟨rfl, _, rfl, rfl, _, rfl, L3, rfl, bob, rfl, rfl, _, rfl, .tup [], rfl, ?_⟩
  refine row_ok hp hg hk (by decide) ?_
  have e : kept ps (kept [qB] ([] : List Dt)) = [] := List.length_eq_zero_iff.mp (Nat.le_zero.mp (Nat.le_trans (kept_len2 ps _) (kept_len2 [qB] [])))
  rw [e]
  exact h
theorem person_no (hd : tyKn d = true) (h1 : ∀ y, d = .str y → inV (.str y) [.str "ann", .str "bob"] = false) (h : X 11 [("name", d)]) : W_require_person [compC f g z k, d] R X := by
  rw [W_require_person_eq]
  refine ⟨rfl, ?_⟩
  cases d with
  | str y =>
    refine ⟨by decide, _, rfl, ifF (by decide) ?_⟩
    refine ⟨rfl, _, rfl, _, _, rfl, rfl, ?_⟩
    exact ifT (by show (!inV (.str y) [.str "ann", .str "bob"]) = true; rw [h1 y rfl]; rfl) h
  | ins C f => exact ⟨by decide, ifT rfl (ifT rfl h)⟩
  | non => exact ⟨by decide, _, rfl, ifT (by decide) (ifT rfl h)⟩
  | bl i => exact ⟨by decide, _, rfl, ifT (by decide) (ifT rfl h)⟩
  | int i => exact ⟨by decide, _, rfl, ifT (by decide) (ifT rfl h)⟩
  | lst i => exact ⟨by decide, _, rfl, ifT (by decide) (ifT rfl h)⟩
  | tup i => exact ⟨by decide, _, rfl, ifT (by decide) (ifT rfl h)⟩
  | dic i => exact ⟨by decide, _, rfl, ifT (by decide) (ifT rfl h)⟩
  | dit i => exact ⟨by decide, _, rfl, ifT (by decide) (ifT rfl h)⟩
  | _ => cases hd
theorem through_person {e : Dt} (hd : tyKn d = true) (h1 : ∀ y, d = .str y → inV (.str y) [.str "ann", .str "bob"] = false) (h : X 11 [("name", d)]) : W_Rule_through [e, compC f g z k, d] R X := by
  rw [W_Rule_through_eq]
  exact ⟨rfl, comp_req (person_no hd h1 h)⟩
theorem comp_people (h : R PP) : W_Company_people [compC f g z k] R X := by
  rw [W_Company_people_eq]
  exact ⟨rfl, rfl, _, rfl, h⟩
theorem bun_letters (h : R LL) : W_Bundle_letters [bunC f g z k ps] R X := by
  rw [W_Bundle_letters_eq]
  exact ⟨rfl, rfl, _, rfl, h⟩
theorem bun_len (h : R (.int 3)) : W_Bundle___len__ [bunC f g z k ps] R X := by
  rw [W_Bundle___len___eq]
  exact ⟨rfl, rfl, _, rfl, h⟩
end Mw

set_option Elab.async false
set_option linter.all false
set_option maxRecDepth 100000
set_option maxHeartbeats 4000000
namespace Mw
open PySem PySem.Spec PyProof.Rows L2
open SX (S)
variable {R : Dt → Prop} {X : Xn}
theorem sp_one_of {l : List Dt} (h0 : l ≠ []) (hl : l.length ≤ 100000) (h : ∀ x ∈ l, R x) : W__law_one_of [.dice, .lst l] R X := by
  rw [W__law_one_of_eq]
  refine ⟨rfl, ?_⟩
  have h0 : 0 < l.length := List.length_pos_iff.mpr h0
  refine ⟨_, rfl, by omega, by omega, fun r h1 h2 => ?_⟩
  obtain ⟨i, rfl⟩ : ∃ i : Nat, r = i := ⟨r.toNat, by omega⟩
  have hi : i < l.length := by omega
  exact ⟨l[i], atI_nat (List.getElem?_eq_getElem hi), h _ (List.getElem_mem hi)⟩
theorem signs_of : ∀ {ys : List Dt}, (∀ y ∈ ys, ∃ b, y = .str (S [sg b])) → ∃ bs : List Bool, ys = bs.map fun b => .str (S [sg b])
  | [], _ => ⟨[], rfl⟩
  | y :: ys, h => by
    obtain ⟨b, rfl⟩ := h y List.mem_cons_self
    obtain ⟨bs, rfl⟩ := signs_of (ys := ys) fun z hz => h z (List.mem_cons_of_mem _ hz)
    exact ⟨b :: bs, rfl⟩
theorem sp_signs {m : Nat} (hm : m ≤ 100) (h : ∀ bs : List Bool, bs.length ≤ m → R (.str (S (bs.map sg)))) : W__law_signs [.dice, .int m] R X := by
  rw [W__law_signs_eq]
  refine ⟨rfl, rfl, ?_⟩
  refine ⟨_, rfl, by omega, by omega, fun r r0 r1 => ⟨⟨by omega, by omega⟩, ?_⟩⟩
  refine ⟨by rw [range_len]; omega, lc_any (P := fun y => ∃ b, y = .str (S [sg b])) (fun d hd Q hq => ?_) fun ys hl hp => ?_⟩
  · refine ⟨by decide, sp_one_of (by simp) (by simp) fun y hy => hq y ?_⟩
    simp only [List.mem_cons, List.not_mem_nil, or_false] at hy
    rcases hy with rfl | rfl | rfl
    · exact ⟨true, rfl⟩
    · exact ⟨true, rfl⟩
    · exact ⟨false, rfl⟩
  · obtain ⟨bs, rfl⟩ := signs_of hp
    rw [List.length_map, range_len] at hl
    have e : (bs.map fun b => Dt.str (S [sg b])) = (((bs.map fun b => [sg b]).map S)).map Dt.str := by rw [List.map_map, List.map_map]; rfl
    rw [List.nil_append, e]
    refine ⟨_, strsD_map _, ?_, ?_⟩
    · rw [sum_signs]
      show bs.length + _ * 0 ≤ _
      omega
    · rw [show ("" : Str) = Str.ofString "" from rfl, join_signs]
      exact h bs (by omega)
theorem sp_part (h : ∀ p : Part, p.ok → R p.d) : W__law_part [.dice] R X := by
  rw [W__law_part_eq]
  refine ⟨rfl, by decide, ?_⟩
  have hc : ∀ d ∈ [Dt.str "all", .str "all", .str "..+", .str "..++", .str "+..", .str "+..+", .str "..+++", .str "..", .str "+..++", .str "..-+"], ∃ p : Part, p.ok ∧ d = p.d := by
    simp only [List.forall_mem_cons]
    exact ⟨⟨.all, trivial, rfl⟩, ⟨.all, trivial, rfl⟩, ⟨.pat [] [true], ⟨by decide, by decide⟩, rfl⟩, ⟨.pat [] [true, true], ⟨by decide, by decide⟩, rfl⟩, ⟨.pat [true] [], ⟨by decide, by decide⟩, rfl⟩, ⟨.pat [true] [true], ⟨by decide, by decide⟩, rfl⟩, ⟨.pat [] [true, true, true], ⟨by decide, by decide⟩, rfl⟩, ⟨.pat [] [], ⟨by decide, by decide⟩, rfl⟩, ⟨.pat [true] [true, true], ⟨by decide, by decide⟩, rfl⟩, ⟨.pat [] [false, true], ⟨by decide, by decide⟩, rfl⟩, fun x hx => nomatch hx⟩
  refine ⟨_, rfl, by decide, by decide, fun r r0 r1 => ?_⟩
  refine ifb (fun _ => ?_) fun _ => ?_
  · refine sp_one_of (by simp) (by simp) fun d hd => ?_
    obtain ⟨p, hp, rfl⟩ := hc d hd
    exact h p hp
  · refine sp_signs (m := 2) (by decide) fun f hf => ?_
    refine ⟨by rw [SX.S_len, List.length_map]; show _ + 2 ≤ _; omega, ?_⟩
    refine sp_signs (m := 3) (by decide) fun b hb => ?_
    have e : (S (f.map sg) ++ ".." : Str) = S (f.map sg ++ [46, 46]) := SX.S_cat _ _
    rw [e]
    refine ⟨by rw [SX.S_len, SX.S_len, List.length_append, List.length_map, List.length_map]; show _ + 2 + _ ≤ _; omega, ?_⟩
    rw [SX.S_cat]
    exact h (.pat f b) ⟨hf, hb⟩
theorem parts_of : ∀ {ys : List Dt}, (∀ y ∈ ys, ∃ p : Part, p.ok ∧ y = p.d) → ∃ ps : List Part, ys = ps.map Part.d ∧ ∀ p ∈ ps, p.ok
  | [], _ => ⟨[], rfl, fun _ z => nomatch z⟩
  | y :: ys, h => by
    obtain ⟨p, hp, rfl⟩ := h y List.mem_cons_self
    obtain ⟨ps, rfl, hps⟩ := parts_of (ys := ys) fun z hz => h z (List.mem_cons_of_mem _ hz)
    exact ⟨p :: ps, rfl, fun q hq => by
      rcases List.mem_cons.mp hq with rfl | hq
      · exact hp
      · exact hps q hq⟩
theorem sp_law_parts {m : Nat} (hm : m ≤ 100) (h : ∀ ps : List Part, (∀ p ∈ ps, p.ok) → ps.length ≤ max 2 m → R (.lst (ps.map Part.d))) : W__law_parts [.dice, .int m] R X := by
  rw [W__law_parts_eq]
  refine ⟨rfl, Nat.le_of_ble_eq_true rfl, ?_⟩
  refine sp_one_of (by simp) (by simp) fun n hn => ?_
  have hn : ∃ k : Nat, n = .int k ∧ k ≤ max 2 m := by
    simp only [List.mem_cons, List.not_mem_nil, or_false] at hn
    rcases hn with rfl | rfl | rfl | rfl | rfl | rfl
    · exact ⟨0, rfl, by omega⟩
    · exact ⟨1, rfl, by omega⟩
    · exact ⟨1, rfl, by omega⟩
    · exact ⟨1, rfl, by omega⟩
    · by_cases c : (m : Int) < 2
      · rw [if_pos c]; exact ⟨m, rfl, by omega⟩
      · rw [if_neg c]; exact ⟨2, rfl, by omega⟩
    · exact ⟨m, rfl, by omega⟩
  obtain ⟨k, rfl, hk⟩ := hn
  refine ⟨⟨by omega, by omega⟩, ?_⟩
  rw [Int.toNat_natCast]
  refine ⟨by rw [range_len]; omega, lc_any (P := fun y => ∃ p : Part, p.ok ∧ y = p.d) (fun d hd Q hq => sp_part fun p hp => hq _ ⟨p, hp, rfl⟩) fun ys hl hp => ?_⟩
  obtain ⟨ps, rfl, hps⟩ := parts_of hp
  rw [List.length_map, range_len] at hl
  exact h ps hps (by omega)
/-! a value that is no part -/
structure Bad (d : Dt) : Prop where
  pv : Pv d
  no : isPartD d = false
  nk : ∀ f, d ≠ .ins 20 f
theorem bad_str {z : Str} (h : (decide (z.length ≤ 1000) && ((Txt.split z "..").all fun y => decide (y.length ≤ 1000)) && !isPartS z) = true) : Bad (.str z) := by
  rw [Bool.and_eq_true, Bool.and_eq_true] at h
  obtain ⟨⟨h1, h2⟩, h3⟩ := h
  exact ⟨⟨rfl, fun y e => by cases e; exact ⟨of_decide_eq_true h1, fun y hy => of_decide_eq_true (List.all_eq_true.mp h2 y hy)⟩⟩, by simpa [isPartD] using h3, fun f e => by cases e⟩
theorem bad_any {d : Dt} (h1 : tyKn d = true) (h2 : ∀ z, d ≠ .str z) (h3 : ∀ f, d ≠ .ins 20 f) : Bad d := ⟨⟨h1, fun z e => absurd e (h2 z)⟩, by cases d <;> first | rfl | exact absurd rfl (h2 _), h3⟩
theorem sp_make_all {RR : List (Str × Dt) → Prop} (h : RR (cutF [.all])) : W_Cutter___init__ [.str "all"] RR X := sp_init_ok (ps := [.all]) (fun p hp => by rw [List.mem_singleton.mp hp]; trivial) (by decide) h
end Mw

set_option Elab.async false
set_option linter.all false
set_option maxRecDepth 100000
set_option maxHeartbeats 4000000
namespace Mw
open PySem PySem.Spec PyProof.Rows L2
open SX (S)
variable {R : Dt → Prop} {RR : List (Str × Dt) → Prop} {X : Xn} {f g k : List (Str × Dt)}
local macro_rules | `(tactic| walk_at "mw1") => `(tactic| first
  | assumption
  | refine ifT (by first | rfl | decide) ?_
  | refine ifF (by first | rfl | decide) ?_
  | refine ⟨by first | exact Nat.le_of_ble_eq_true rfl | rfl | decide, ?_⟩
  | refine ⟨_, rfl, ?_⟩
  | refine ⟨_, _, rfl, rfl, by decide +kernel, by decide +kernel, ?_⟩
  | refine ⟨_, _, rfl, rfl, ?_⟩)
local macro_rules | `(tactic| walk_at "mw") => `(tactic| repeat walk_at "mw1")
variable {ss : SS} {body : EM} {ps : List Part} {b : Bool}
theorem met_cutter (h : ∀ R' X', X' 1 [] → body (calmS ss) R' X') (hr : R (.str "cutter")) : lamW 2 BL__law_met body ss R xF := fun _ =>
  ⟨rfl, h _ _ ⟨rfl, ifT (by decide) ⟨rfl, hr⟩⟩⟩
theorem met_rule (h : ∀ R' X', X' 4 [] → body (calmS ss) R' X') (hr : R (.str "rule")) : lamW 2 BL__law_met body ss R xF := fun _ =>
  ⟨rfl, h _ _ ⟨rfl, ifF (by decide) (ifT (by decide) ⟨rfl, ifT (by decide) ⟨rfl, hr⟩⟩)⟩⟩
theorem met_bundle (h : ∀ R' X', X' 3 [] → body (calmS ss) R' X') (hr : R (.str "bundle")) : lamW 2 BL__law_met body ss R xF := fun _ =>
  ⟨rfl, h _ _ ⟨rfl, ifF (by decide) (ifF (by decide) (ifT (by decide) ⟨rfl, hr⟩))⟩⟩
theorem met_company (h : ∀ R' X', X' 2 [] → body (calmS ss) R' X') (hr : R (.str "company")) : lamW 2 BL__law_met body ss R xF := fun _ =>
  ⟨rfl, h _ _ ⟨rfl, ifF (by decide) (ifF (by decide) (ifF (by decide) (ifT (by decide) ⟨rfl, hr⟩)))⟩⟩
theorem met_op (h : ∀ R' X', X' 9 [] → body (calmS ss) R' X') (hr : R (.str "operation")) : lamW 2 BL__law_met body ss R xF := fun _ =>
  ⟨rfl, h _ _ ⟨rfl, ifF (by decide) (ifF (by decide) (ifF (by decide) (ifF (by decide) (ifT (by decide) ⟨rfl, hr⟩))))⟩⟩
theorem met_fine (h : ∀ (R' : Dt → Prop) X', (∀ d, R' d) → body (calmS ss) R' X') (hr : R (.str "fine")) : lamW 2 BL__law_met body ss R xF := fun _ =>
  ⟨rfl, h _ _ fun d => ⟨rfl, hr⟩⟩
/-- d can be shown -/
structure Shows (d : Dt) (p : PyData) : Prop where
  py : toPq d = some p
  fit : fitD p = true
  dp : p.depth ≤ 60
  sz : szD p ≤ 900000
theorem met_name {d : Dt} {p : PyData} (hp : Shows d p) (h : ∀ R' X', X' 11 [("name", d)] → body (calmS ss) R' X') (hr : R (.str ("name " ++ p.shown))) : lamW 2 BL__law_met body ss R xF := fun _ =>
  ⟨rfl, h _ _ ⟨rfl, ifF (by decide) (ifF (by decide) (ifF (by decide) (ifF (by decide) (ifF (by decide) (ifT (by decide) ⟨rfl, ifT (by decide) ⟨rfl, d, rfl, p, hp.py, hp.fit, hp.dp, Nat.le_trans hp.sz (by decide), by
    have := shown_le hp.fit
    have := hp.sz
    show 5 + p.shown.length ≤ 1000000
    omega, rfl, hr⟩⟩)))))⟩⟩
end Mw

set_option Elab.async false
set_option linter.all false
set_option maxRecDepth 100000
set_option maxHeartbeats 4000000
namespace Mw
open PySem PySem.Spec PyProof.Rows L2
open SX (S)
variable {R : Dt → Prop} {RR : List (Str × Dt) → Prop} {X : Xn} {f g k : List (Str × Dt)}
local macro_rules | `(tactic| walk_at "mw1") => `(tactic| first
  | assumption
  | refine ifT (by first | rfl | decide) ?_
  | refine ifF (by first | rfl | decide) ?_
  | refine ⟨by first | exact Nat.le_of_ble_eq_true rfl | rfl | decide, ?_⟩
  | refine ⟨_, rfl, ?_⟩
  | refine ⟨_, _, rfl, rfl, by decide +kernel, by decide +kernel, ?_⟩
  | refine ⟨_, _, rfl, rfl, ?_⟩)
local macro_rules | `(tactic| walk_at "mw") => `(tactic| repeat walk_at "mw1")
variable {ps : List Part} {b : Bool}
theorem made_right (hg : g = cutF ps) (h : R (.bl true)) : W__law_made_right [.dice, .ins 21 g] R X := by
  have hpt : ∀ {R : Dt → Prop} {X : Xn}, R (.tup (ps.map Part.d)) → W_Cutter_parts [.ins 21 g] R X := fun {R X} h => by rw [hg]; exact sp_parts h
  clear hg
  rw [W__law_made_right_eq]
  refine ⟨rfl, ?_⟩
  refine ⟨Nat.le_of_ble_eq_true rfl, Nat.le_of_ble_eq_true rfl, ⟨rfl, rule_ok ?_⟩⟩
  refine ⟨_, rfl, hpt ?_⟩
  refine ⟨Nat.le_of_ble_eq_true rfl, ?_⟩
  refine sp_one_of (by simp) (Nat.le_of_ble_eq_true rfl) fun odd ho => ?_
  have hodd : tyKn odd = true ∧ (odd = .ins 21 g ∨ isCut odd = false) := by
    simp only [List.mem_cons, List.not_mem_nil, or_false] at ho
    rcases ho with rfl | rfl | rfl | rfl | rfl | rfl | rfl | rfl | rfl <;> exact ⟨rfl, .inr rfl⟩
  obtain ⟨h1, h2⟩ := hodd
  have h2 : isCut odd = false := by
    simp only [List.mem_cons, List.not_mem_nil, or_false] at ho
    rcases ho with rfl | rfl | rfl | rfl | rfl | rfl | rfl | rfl | rfl <;> rfl
  clear ho
  refine ⟨Nat.le_of_ble_eq_true rfl, Nat.le_of_ble_eq_true rfl, Nat.le_of_ble_eq_true rfl, ?_⟩
  refine sp_one_of (by simp) (Nat.le_of_ble_eq_true rfl) fun fl ho => ?_
  have hfl : tyKn fl = true ∧ isBl fl = false := by
    simp only [List.mem_cons, List.not_mem_nil, or_false] at ho
    rcases ho with rfl | rfl | rfl | rfl | rfl | rfl | rfl | rfl <;> exact ⟨rfl, rfl⟩
  clear ho
  obtain ⟨h3, h4⟩ := hfl
  refine met_cutter (fun R' X' hx => ⟨rfl, rule_no h1 h2 hx⟩) ⟨Nat.le_of_ble_eq_true rfl, ?_⟩
  refine met_cutter (fun R' X' hx => ⟨rfl, rfl, rfl, rule_no h1 h2 hx⟩) ⟨Nat.le_of_ble_eq_true rfl, ?_⟩
  refine met_rule (fun R' X' hx => ⟨rfl, rfl, rfl, rule_flag h3 h4 hx⟩) ⟨Nat.le_of_ble_eq_true rfl, ?_⟩
  refine ⟨Nat.le_of_ble_eq_true rfl, _, _, rfl, rfl, by decide +kernel, by decide +kernel, ifT (by decide +kernel) ?_⟩
  refine met_fine (fun R' X' hx => ⟨rfl, rfl, rfl, rule_ok (hx _)⟩) h
end Mw

set_option Elab.async false
set_option linter.all false
set_option maxRecDepth 100000
set_option maxHeartbeats 4000000
namespace Mw
open PySem PySem.Spec PyProof.Rows L2
open SX (S)
variable {R : Dt → Prop} {RR : List (Str × Dt) → Prop} {X : Xn} {f g k : List (Str × Dt)}
local macro_rules | `(tactic| walk_at "mw1") => `(tactic| first
  | assumption
  | refine ifT (by first | rfl | decide) ?_
  | refine ifF (by first | rfl | decide) ?_
  | refine ⟨by first | exact Nat.le_of_ble_eq_true rfl | rfl | decide, ?_⟩
  | refine ⟨_, rfl, ?_⟩
  | refine ⟨_, _, rfl, rfl, by decide +kernel, by decide +kernel, ?_⟩
  | refine ⟨_, _, rfl, rfl, ?_⟩)
local macro_rules | `(tactic| walk_at "mw") => `(tactic| repeat walk_at "mw1")
variable {ps : List Part} {b : Bool} {z : List (Str × Dt)}
theorem shows_of {d : Dt} (p : PyData) (h : toPq d = some p) (b : (fitD p && decide (p.depth ≤ 60) && decide (szD p ≤ 900000)) = true) : Shows d p := by
  rw [Bool.and_eq_true, Bool.and_eq_true] at b
  exact ⟨h, b.1.1, of_decide_eq_true b.1.2, of_decide_eq_true b.2⟩
theorem toPy_partsT (ps : List Part) : toPy (.tup (ps.map Part.d)) = some (.tuple (partsP ps)) := by
  show (toPys (ps.map Part.d)).map PyData.tuple = _
  rw [toPys_parts]; rfl
theorem sh_parts {ps : List Part} (h : ∀ p ∈ ps, p.ok) : SeqAt.shaped (.tuple (partsP ps)) = true := by
  obtain ⟨h1, h2⟩ := lay_parts h
  show (PyData.canLayAll0 (partsP ps) && decide (PyData.depthAll (partsP ps) + 1 ≤ 64)) = true
  rw [h1, h2]; rfl
theorem strs_parts : ∀ ps : List Part, strsD (ps.map Part.d) = some (ps.map Part.s)
  | [] => rfl
  | p :: ps => by show (strsD (ps.map Part.d)).map (p.s :: ·) = _; rw [strs_parts ps]; rfl
def strC (ps : List Part) : Str := if PyData.eqv (.tuple (partsP ps)) (.tuple []) = true then "all" else Txt.join " > " (ps.map Part.s)
theorem cstr (hp : ∀ p ∈ ps, p.ok) (hl : ps.length ≤ 4) (h : R (.str (strC ps))) : W_Cutter___str__ [.ins 21 (cutF ps)] R X := by
  have hs := sum_parts hp
  rw [W_Cutter___str___eq]
  refine ⟨rfl, rfl, _, rfl, Nat.le_of_ble_eq_true rfl, ?_⟩
  refine ⟨_, _, toPy_partsT ps, rfl, sh_parts hp, rfl, ?_⟩
  unfold strC at h
  refine ifb (fun e => ?_) fun e => ?_
  · rw [if_pos e] at h; exact h
  · rw [if_neg (by rw [e]; simp)] at h
    refine ⟨rfl, rfl, .tup (ps.map Part.d), rfl, _, strs_parts ps, ?_, h⟩
    have e3 : (" > " : Str).length = 3 := rfl
    rw [List.length_map, e3]
    omega
theorem fmt_c {RR : Dt → Prop} (hp : ∀ p ∈ ps, p.ok) (hl : ps.length ≤ 4) (hg : g = cutF ps) (h : RR (.str (strC ps))) : W_Cutter___str__ [.ins 21 g] RR X := by
  rw [hg]; exact cstr hp hl h
def strR (b : Bool) (ps : List Part) : Str := if b = true then "seeing rule " ++ strC ps else "rule " ++ strC ps
theorem strC_len (hp : ∀ p ∈ ps, p.ok) (hl : ps.length ≤ 4) : (strC ps).length ≤ 1000 := by
  have hs := sum_parts hp
  unfold strC
  split
  · exact Nat.le_of_ble_eq_true rfl
  · show (Builtin.Str.glued " > " (ps.map Part.s)).length ≤ 1000
    rw [StrLaws.glued_eq_join]
    refine Nat.le_trans (StrLaws.join_length_le _ _) ?_
    have e3 : (" > " : Str).length = 3 := rfl
    rw [List.length_map, e3]
    omega
theorem empty_app (y : Str) : Str.empty ++ y = y := by
  cases y with
  | mk c => exact congrArg Str.mk (by simp [Str.empty])
theorem rule_str (hp : ∀ p ∈ ps, p.ok) (hl : ps.length ≤ 4) (hg : g = cutF ps) (h : R (.str (strR b ps))) : W_Rule___str__ [ruleC g b] R X := by
  have hs := strC_len hp hl
  have hc : ∀ {R : Dt → Prop} {X : Xn}, R (.str (strC ps)) → W_Cutter___str__ [.ins 21 g] R X := fun {R X} h => fmt_c hp hl hg h
  clear hg
  unfold strR at h
  rw [W_Rule___str___eq]
  refine ⟨rfl, ?_⟩
  refine ⟨rfl, .bl b, rfl, ?_⟩
  refine ifb (fun e => ?_) fun e => ?_
  · rw [if_pos e] at h
    refine ⟨Nat.le_of_ble_eq_true rfl, rfl, .ins 21 g, rfl, W_Cutter___str__, rfl, hc ⟨_, rfl, ?_, ?_⟩⟩
    · rw [empty_app, Str.length_append]
      have e3 : ("seeing rule " : Str).length = 12 := rfl
      omega
    · show R (.str (Str.empty ++ "seeing rule " ++ strC ps))
      rw [empty_app]
      exact h
  · rw [if_neg (by rw [e]; simp)] at h
    refine ⟨Nat.le_of_ble_eq_true rfl, rfl, .ins 21 g, rfl, W_Cutter___str__, rfl, hc ⟨_, rfl, ?_, ?_⟩⟩
    · rw [empty_app, Str.length_append]
      have e3 : ("rule " : Str).length = 5 := rfl
      omega
    · show R (.str (Str.empty ++ "rule " ++ strC ps))
      rw [empty_app]
      exact h
end Mw

set_option Elab.async false
set_option linter.all false
set_option maxRecDepth 100000
set_option maxHeartbeats 4000000
namespace Mw
open PySem PySem.Spec PyProof.Rows L2
open SX (S)
variable {R : Dt → Prop} {RR : List (Str × Dt) → Prop} {X : Xn} {f g k : List (Str × Dt)}
local macro_rules | `(tactic| walk_at "mw1") => `(tactic| first
  | assumption
  | refine ifT (by first | rfl | decide) ?_
  | refine ifF (by first | rfl | decide) ?_
  | refine ⟨by first | exact Nat.le_of_ble_eq_true rfl | rfl | decide, ?_⟩
  | refine ⟨_, rfl, ?_⟩
  | refine ⟨_, _, rfl, rfl, by decide +kernel, by decide +kernel, ?_⟩
  | refine ⟨_, _, rfl, rfl, ?_⟩)
local macro_rules | `(tactic| walk_at "mw") => `(tactic| repeat walk_at "mw1")
variable {ps : List Part} {b : Bool} {z : List (Str × Dt)}
theorem as_0 {kk : Oc → Prop} (h : ∀ non, (tyKn non = true ∧ isIns 25 non = false) → kk (.nx [.dt .dice, .dt (ruleC g b), .dt (compC f g z k), .dt (bunC f g z k ps), .dt non, .no, .no, .no, .no, .no, .no, .no])) : (asgW (callW W__law_one_of (consW (vW 0) (consW (lstW (consW (cW (.non)) (consW (cW (.int 0)) (consW (cW (.str "rule")) (consW (tupW nilW) (consW dnewW (consW (propW [(25, W_Rule_cutter)] (vW 1)) (consW (vW 3) (consW (lstW (consW (vW 1) nilW)) nilW))))))))) nilW))) (gN 4)) [.dt .dice, .dt (ruleC g b), .dt (compC f g z k), .dt (bunC f g z k ps), .no, .no, .no, .no, .no, .no, .no, .no] kk := by
  refine ⟨Nat.le_of_ble_eq_true rfl, _, rfl, rcutter ?_⟩
  refine ⟨Nat.le_of_ble_eq_true rfl, Nat.le_of_ble_eq_true rfl, ?_⟩
  refine sp_one_of (by simp) (Nat.le_of_ble_eq_true rfl) fun non ho => ?_
  have h1 : tyKn non = true ∧ isIns 25 non = false := by
    simp only [List.mem_cons, List.not_mem_nil, or_false] at ho
    rcases ho with rfl | rfl | rfl | rfl | rfl | rfl | rfl | rfl <;> exact ⟨rfl, rfl⟩
  exact h _ h1
theorem as_1 {non : Dt} {kk : Oc → Prop} (h : ∀ bad, (tyKn bad = true ∧ isIns 24 bad = false) → kk (.nx [.dt .dice, .dt (ruleC g b), .dt (compC f g z k), .dt (bunC f g z k ps), .dt non, .dt bad, .no, .no, .no, .no, .no, .no])) : (asgW (callW W__law_one_of (consW (vW 0) (consW (lstW (consW (cW (.non)) (consW (cW (.int 0)) (consW (cW (.str "bundle")) (consW (tupW nilW) (consW (vW 2) (consW (vW 1) (consW (propW [(24, W_Bundle_letters)] (vW 3)) (consW (lstW (consW (vW 3) nilW)) (consW dnewW nilW)))))))))) nilW))) (gN 5)) [.dt .dice, .dt (ruleC g b), .dt (compC f g z k), .dt (bunC f g z k ps), .dt non, .no, .no, .no, .no, .no, .no, .no] kk := by
  refine ⟨Nat.le_of_ble_eq_true rfl, _, rfl, bun_letters ?_⟩
  refine ⟨Nat.le_of_ble_eq_true rfl, Nat.le_of_ble_eq_true rfl, ?_⟩
  refine sp_one_of (by simp) (Nat.le_of_ble_eq_true rfl) fun bad ho => ?_
  have h1 : tyKn bad = true ∧ isIns 24 bad = false := by
    simp only [List.mem_cons, List.not_mem_nil, or_false] at ho
    rcases ho with rfl | rfl | rfl | rfl | rfl | rfl | rfl | rfl | rfl <;> exact ⟨rfl, rfl⟩
  exact h _ h1
theorem as_2 {non bad : Dt} {kk : Oc → Prop} (h : ∀ mark, (tyKn mark = true ∧ markB mark = false ∧ ∃ p, Shows mark p ∧ PyData.strOk ("name " ++ p.shown) = true) → kk (.nx [.dt .dice, .dt (ruleC g b), .dt (compC f g z k), .dt (bunC f g z k ps), .dt non, .dt bad, .dt mark, .no, .no, .no, .no, .no])) : (asgW (callW W__law_one_of (consW (vW 0) (consW (lstW (consW (cW (.non)) (consW (unW negD (cW (.int 1))) (consW (cbW (lenOD [(24, W_Bundle___len__)]) (consW (vW 3) nilW)) (consW (cW (.bl true)) (consW (cW (.bl false)) (consW (cW (.str "0")) (consW (tupW (consW (cW (.int 0)) nilW)) (consW (lstW (consW (cW (.int 0)) nilW)) (consW dnewW (consW (opW powD (cW (.int 10)) (cW (.int 39))) (consW (unW negD (opW powD (cW (.int 10)) (cW (.int 11)))) nilW)))))))))))) nilW))) (gN 6)) [.dt .dice, .dt (ruleC g b), .dt (compC f g z k), .dt (bunC f g z k ps), .dt non, .dt bad, .no, .no, .no, .no, .no, .no] kk := by
  refine ⟨W_Bundle___len__, rfl, bun_len ⟨3, rfl, by decide, by decide, ?_⟩⟩
  refine ⟨Nat.le_of_ble_eq_true rfl, Nat.le_of_ble_eq_true rfl, ⟨by decide, by decide⟩, ⟨by decide, by decide⟩, Nat.le_of_ble_eq_true rfl, ?_⟩
  refine sp_one_of (by simp) (Nat.le_of_ble_eq_true rfl) fun mark ho => ?_
  have h1 : tyKn mark = true ∧ markB mark = false ∧ ∃ p, Shows mark p ∧ PyData.strOk ("name " ++ p.shown) = true := by
    simp only [List.mem_cons, List.not_mem_nil, or_false] at ho
    rcases ho with rfl | rfl | rfl | rfl | rfl | rfl | rfl | rfl | rfl | rfl | rfl
    all_goals exact ⟨rfl, by decide +kernel, _, shows_of _ rfl (by decide +kernel), by decide +kernel⟩
  exact h _ h1
theorem as_3 {non bad mark : Dt} {kk : Oc → Prop} (h : ∀ st, (tyKn st = true ∧ isIns 22 st = false) → kk (.nx [.dt .dice, .dt (ruleC g b), .dt (compC f g z k), .dt (bunC f g z k ps), .dt non, .dt bad, .dt mark, .dt st, .no, .no, .no, .no])) : (asgW (callW W__law_one_of (consW (vW 0) (consW (lstW (consW (cW (.non)) (consW (cW (.int 0)) (consW (cW (.str "company")) (consW (vW 3) (consW (vW 1) (consW (tupW nilW) (consW dnewW (consW (propW [(22, W_Company_people)] (vW 2)) nilW))))))))) nilW))) (gN 7)) [.dt .dice, .dt (ruleC g b), .dt (compC f g z k), .dt (bunC f g z k ps), .dt non, .dt bad, .dt mark, .no, .no, .no, .no, .no] kk := by
  refine ⟨Nat.le_of_ble_eq_true rfl, _, rfl, comp_people ?_⟩
  refine ⟨Nat.le_of_ble_eq_true rfl, ?_⟩
  refine sp_one_of (by simp) (Nat.le_of_ble_eq_true rfl) fun st ho => ?_
  have h1 : tyKn st = true ∧ isIns 22 st = false := by
    simp only [List.mem_cons, List.not_mem_nil, or_false] at ho
    rcases ho with rfl | rfl | rfl | rfl | rfl | rfl | rfl | rfl <;> exact ⟨rfl, rfl⟩
  exact h _ h1
theorem as_4 {non bad mark st : Dt} {kk : Oc → Prop} (h : ∀ person, (tyKn person = true ∧ (∀ y, person = .str y → inV (.str y) [.str "ann", .str "bob"] = false) ∧ ∃ p, Shows person p ∧ PyData.strOk ("name " ++ p.shown) = true) → kk (.nx [.dt .dice, .dt (ruleC g b), .dt (compC f g z k), .dt (bunC f g z k ps), .dt non, .dt bad, .dt mark, .dt st, .dt person, .no, .no, .no])) : (asgW (callW W__law_one_of (consW (vW 0) (consW (lstW (consW (cW (.non)) (consW (cW (.int 0)) (consW (cW (.str "eve")) (consW (cW (.str "")) (consW (cW (.str "Ann")) (consW (tupW (consW (cW (.str "ann")) nilW)) (consW (lstW (consW (cW (.str "ann")) nilW)) (consW dnewW (consW (cW (.bl true)) (consW (cW (.str "annn")) nilW))))))))))) nilW))) (gN 8)) [.dt .dice, .dt (ruleC g b), .dt (compC f g z k), .dt (bunC f g z k ps), .dt non, .dt bad, .dt mark, .dt st, .no, .no, .no, .no] kk := by
  refine ⟨Nat.le_of_ble_eq_true rfl, Nat.le_of_ble_eq_true rfl, Nat.le_of_ble_eq_true rfl, ?_⟩
  refine sp_one_of (by simp) (Nat.le_of_ble_eq_true rfl) fun person ho => ?_
  have h1 : tyKn person = true ∧ (∀ y, person = .str y → inV (.str y) [.str "ann", .str "bob"] = false) ∧ ∃ p, Shows person p ∧ PyData.strOk ("name " ++ p.shown) = true := by
    simp only [List.mem_cons, List.not_mem_nil, or_false] at ho
    rcases ho with rfl | rfl | rfl | rfl | rfl | rfl | rfl | rfl | rfl | rfl
    all_goals exact ⟨rfl, (fun y e => by cases e <;> decide +kernel), _, shows_of _ rfl (by decide +kernel), by decide +kernel⟩
  exact h _ h1
theorem as_5 {non bad mark st person : Dt} {kk : Oc → Prop} (h : ∀ row, (tyKn row = true ∧ ∀ l, row = .tup l → 1000 < l.length) → kk (.nx [.dt .dice, .dt (ruleC g b), .dt (compC f g z k), .dt (bunC f g z k ps), .dt non, .dt bad, .dt mark, .dt st, .dt person, .dt row, .no, .no])) : (asgW (callW W__law_one_of (consW (vW 0) (consW (lstW (consW (cW (.non)) (consW (lstW nilW) (consW (cW (.str "abc")) (consW dnewW (consW (cW (.int 7)) (consW (rgTW (cW (.int 1001))) (consW (lstW (consW (cW (.int 1)) nilW)) nilW)))))))) nilW))) (gN 9)) [.dt .dice, .dt (ruleC g b), .dt (compC f g z k), .dt (bunC f g z k ps), .dt non, .dt bad, .dt mark, .dt st, .dt person, .no, .no, .no] kk := by
  refine ⟨Nat.le_of_ble_eq_true rfl, ⟨by decide, by decide⟩, Nat.le_of_ble_eq_true rfl, Nat.le_of_ble_eq_true rfl, ?_⟩
  refine sp_one_of (by simp) (Nat.le_of_ble_eq_true rfl) fun row ho => ?_
  have h1 : tyKn row = true ∧ ∀ l, row = .tup l → 1000 < l.length := by
    simp only [List.mem_cons, List.not_mem_nil, or_false] at ho
    rcases ho with rfl | rfl | rfl | rfl | rfl | rfl | rfl
    all_goals exact ⟨rfl, fun l e => by cases e <;> (rw [range_len]; decide)⟩
  exact h _ h1
theorem as_6 {non bad mark st person row : Dt} {p q : PyData} {kk : Oc → Prop} (h1 : tyKn non = true ∧ isIns 25 non = false) (h : kk (.nx [.dt .dice, .dt (ruleC g b), .dt (compC f g z k), .dt (bunC f g z k ps), .dt non, .dt bad, .dt mark, .dt st, .dt person, .dt row, .own (.lst [.str "rule"]), .no])) : (newLW 10 (consW (lamW 2 BL__law_met (methW [(25, W_Rule_is_within)] "is_within" (vW 1) (consW (vW 4) nilW))) nilW)) [.dt .dice, .dt (ruleC g b), .dt (compC f g z k), .dt (bunC f g z k ps), .dt non, .dt bad, .dt mark, .dt st, .dt person, .dt row, .no, .no] kk := by
  refine met_rule (fun R' X' hx => ⟨rfl, _, rfl, within_no h1.1 h1.2 hx⟩) ⟨Nat.le_of_ble_eq_true rfl, ?_⟩
  exact h
theorem as_7 {non bad mark st person row : Dt} {p q : PyData} {kk : Oc → Prop} (h1 : tyKn bad = true ∧ isIns 24 bad = false) (h : kk (.nx [.dt .dice, .dt (ruleC g b), .dt (compC f g z k), .dt (bunC f g z k ps), .dt non, .dt bad, .dt mark, .dt st, .dt person, .dt row, .own (.lst [.str "rule", .str "bundle"]), .no])) : (appW 10 (consW (lamW 2 BL__law_met (methW [(25, W_Rule_bound)] "bound" (vW 1) (consW (vW 5) (consW (vW 6) nilW)))) nilW)) [.dt .dice, .dt (ruleC g b), .dt (compC f g z k), .dt (bunC f g z k ps), .dt non, .dt bad, .dt mark, .dt st, .dt person, .dt row, .own (.lst [.str "rule"]), .no] kk := by
  refine met_bundle (fun R' X' hx => ⟨rfl, _, rfl, bound_no h1.1 h1.2 hx⟩) ⟨Nat.le_of_ble_eq_true rfl, ?_⟩
  exact h
theorem as_8 {non bad mark st person row : Dt} {p q : PyData} (hp : Shows mark p) {kk : Oc → Prop} (h1 : tyKn mark = true ∧ markB mark = false) (h : kk (.nx [.dt .dice, .dt (ruleC g b), .dt (compC f g z k), .dt (bunC f g z k ps), .dt non, .dt bad, .dt mark, .dt st, .dt person, .dt row, .own (.lst [.str "rule", .str "bundle", .str ("name " ++ p.shown)]), .no])) : (appW 10 (consW (lamW 2 BL__law_met (methW [(25, W_Rule_bound)] "bound" (vW 1) (consW (vW 3) (consW (vW 6) nilW)))) nilW)) [.dt .dice, .dt (ruleC g b), .dt (compC f g z k), .dt (bunC f g z k ps), .dt non, .dt bad, .dt mark, .dt st, .dt person, .dt row, .own (.lst [.str "rule", .str "bundle"]), .no] kk := by
  refine met_name hp (fun R' X' hx => ⟨rfl, _, rfl, bound_mark h1.1 h1.2 hx⟩) ⟨Nat.le_of_ble_eq_true rfl, ?_⟩
  exact h
theorem as_9 {non bad mark st person row : Dt} {p q : PyData} {kk : Oc → Prop} (h1 : tyKn st = true ∧ isIns 22 st = false) (h : kk (.nx [.dt .dice, .dt (ruleC g b), .dt (compC f g z k), .dt (bunC f g z k ps), .dt non, .dt bad, .dt mark, .dt st, .dt person, .dt row, .own (.lst [.str "rule", .str "bundle", .str ("name " ++ p.shown), .str "company"]), .no])) : (appW 10 (consW (lamW 2 BL__law_met (methW [(25, W_Rule_through)] "through" (vW 1) (consW (vW 7) (consW (vW 8) nilW)))) nilW)) [.dt .dice, .dt (ruleC g b), .dt (compC f g z k), .dt (bunC f g z k ps), .dt non, .dt bad, .dt mark, .dt st, .dt person, .dt row, .own (.lst [.str "rule", .str "bundle", .str ("name " ++ p.shown)]), .no] kk := by
  refine met_company (fun R' X' hx => ⟨rfl, _, rfl, through_no h1.1 h1.2 hx⟩) ⟨Nat.le_of_ble_eq_true rfl, ?_⟩
  exact h
theorem as_10 {non bad mark st person row : Dt} {p q : PyData} (hq : Shows person q) {kk : Oc → Prop} (h1 : tyKn person = true ∧ (∀ y, person = .str y → inV (.str y) [.str "ann", .str "bob"] = false)) (h : kk (.nx [.dt .dice, .dt (ruleC g b), .dt (compC f g z k), .dt (bunC f g z k ps), .dt non, .dt bad, .dt mark, .dt st, .dt person, .dt row, .own (.lst [.str "rule", .str "bundle", .str ("name " ++ p.shown), .str "company", .str ("name " ++ q.shown)]), .no])) : (appW 10 (consW (lamW 2 BL__law_met (methW [(25, W_Rule_through)] "through" (vW 1) (consW (vW 2) (consW (vW 8) nilW)))) nilW)) [.dt .dice, .dt (ruleC g b), .dt (compC f g z k), .dt (bunC f g z k ps), .dt non, .dt bad, .dt mark, .dt st, .dt person, .dt row, .own (.lst [.str "rule", .str "bundle", .str ("name " ++ p.shown), .str "company"]), .no] kk := by
  refine met_name hq (fun R' X' hx => ⟨rfl, _, rfl, through_person h1.1 h1.2 hx⟩) ⟨Nat.le_of_ble_eq_true rfl, ?_⟩
  exact h
theorem as_11 {non bad mark st person row : Dt} {p q : PyData} {kk : Oc → Prop} (h1 : tyKn row = true ∧ ∀ l, row = .tup l → 1000 < l.length) (h : kk (.nx [.dt .dice, .dt (ruleC g b), .dt (compC f g z k), .dt (bunC f g z k ps), .dt non, .dt bad, .dt mark, .dt st, .dt person, .dt row, .own (.lst [.str "rule", .str "bundle", .str ("name " ++ p.shown), .str "company", .str ("name " ++ q.shown), .str "operation"]), .no])) : (appW 10 (consW (lamW 2 BL__law_met (coW [(25, W_Rule___call__)] (vW 1) (consW (vW 9) nilW))) nilW)) [.dt .dice, .dt (ruleC g b), .dt (compC f g z k), .dt (bunC f g z k ps), .dt non, .dt bad, .dt mark, .dt st, .dt person, .dt row, .own (.lst [.str "rule", .str "bundle", .str ("name " ++ p.shown), .str "company", .str ("name " ++ q.shown)]), .no] kk := by
  refine met_op (fun R' X' hx => ⟨_, rfl, call_no (e := row) h1.1 h1.2 hx⟩) ⟨Nat.le_of_ble_eq_true rfl, ?_⟩
  exact h
theorem as_12 {non bad mark st person row : Dt} {p q : PyData} {kk : Oc → Prop} (hp : Shows mark p) (hq : Shows person q) (h : kk (.nx [.dt .dice, .dt (ruleC g b), .dt (compC f g z k), .dt (bunC f g z k ps), .dt non, .dt bad, .dt mark, .dt st, .dt person, .dt row, .own (.lst [.str "rule", .str "bundle", .str ("name " ++ p.shown), .str "company", .str ("name " ++ q.shown), .str "operation"]), .dt (.lst [.str "rule", .str "bundle", .str ("name " ++ p.shown), .str "company", .str ("name " ++ q.shown), .str "operation"])])) : (asgW (lstW (consW (cW (.str "rule")) (consW (cW (.str "bundle")) (consW (opW addD (cW (.str "name ")) (cbW reprQD (consW (vW 6) nilW))) (consW (cW (.str "company")) (consW (opW addD (cW (.str "name ")) (cbW reprQD (consW (vW 8) nilW))) (consW (cW (.str "operation")) nilW))))))) (gN 11)) [.dt .dice, .dt (ruleC g b), .dt (compC f g z k), .dt (bunC f g z k ps), .dt non, .dt bad, .dt mark, .dt st, .dt person, .dt row, .own (.lst [.str "rule", .str "bundle", .str ("name " ++ p.shown), .str "company", .str ("name " ++ q.shown), .str "operation"]), .no] kk := by
  have l1 : ("name " : Str).length + p.shown.length ≤ 1000000 := by
    have := shown_le hp.fit
    have := hp.sz
    have e3 : ("name " : Str).length = 5 := rfl
    omega
  have l2 : ("name " : Str).length + q.shown.length ≤ 1000000 := by
    have := shown_le hq.fit
    have := hq.sz
    have e3 : ("name " : Str).length = 5 := rfl
    omega
  refine ⟨p, hp.py, hp.fit, hp.dp, Nat.le_trans hp.sz (by decide), l1, q, hq.py, hq.fit, hq.dp, Nat.le_trans hq.sz (by decide), l2, Nat.le_of_ble_eq_true rfl, ?_⟩
  exact h
theorem as_13 {non bad mark st person row : Dt} {p q : PyData} (o1 : PyData.strOk ("name " ++ p.shown) = true) (o2 : PyData.strOk ("name " ++ q.shown) = true) {kk : Oc → Prop} (h : kk (.rt (.bl true))) : (tellW 10 (retW (opW eqD (vW 10) (vW 11)))) [.dt .dice, .dt (ruleC g b), .dt (compC f g z k), .dt (bunC f g z k ps), .dt non, .dt bad, .dt mark, .dt st, .dt person, .dt row, .own (.lst [.str "rule", .str "bundle", .str ("name " ++ p.shown), .str "company", .str ("name " ++ q.shown), .str "operation"]), .dt (.lst [.str "rule", .str "bundle", .str ("name " ++ p.shown), .str "company", .str ("name " ++ q.shown), .str "operation"])] kk := by
  have hs : SeqAt.shaped (.list [.str "rule", .str "bundle", .str ("name " ++ p.shown), .str "company", .str ("name " ++ q.shown), .str "operation"]) = true := by
    unfold SeqAt.shaped
    rw [Bool.and_eq_true]
    refine ⟨?_, by rfl⟩
    simp only [PyData.canLay0, PyData.canLayAll0, o1, o2]
    decide +kernel
  refine ⟨_, _, rfl, rfl, hs, hs, ?_⟩
  rw [SeqAt.eqv_refl _ (Bool.and_eq_true_iff.mp hs).1]
  exact h
theorem asked_right (h : R (.bl true)) : W__law_asked_right [.dice, ruleC g b, compC f g z k, bunC f g z k ps] R X := by
  rw [W__law_asked_right_eq]
  refine ⟨rfl, ?_⟩
  unfold B__law_asked_right
  refine as_0 fun non h0 => ?_
  refine as_1 fun bad h1 => ?_
  refine as_2 fun mark h2 => ?_
  refine as_3 fun st h3 => ?_
  refine as_4 fun person h4 => ?_
  refine as_5 fun row h5 => ?_
  obtain ⟨h20, h21, p, hp, hp2⟩ := h2
  obtain ⟨h40, h41, q, hq, hq2⟩ := h4
  refine as_6 (p := p) (q := q) h0 ?_
  refine as_7 (p := p) (q := q) h1 ?_
  refine as_8 (q := q) hp ⟨h20, h21⟩ ?_
  refine as_9 (p := p) (q := q) h3 ?_
  refine as_10 (p := p) hq ⟨h40, h41⟩ ?_
  refine as_11 (p := p) (q := q) h5 ?_
  refine as_12 hp hq ?_
  exact as_13 hp2 hq2 h
end Mw

set_option Elab.async false
set_option linter.all false
set_option maxRecDepth 100000
set_option maxHeartbeats 4000000
namespace Mw
open PySem PySem.Spec PyProof.Rows L2
open SX (S)
variable {R : Dt → Prop} {RR : List (Str × Dt) → Prop} {X : Xn} {f g k : List (Str × Dt)}
variable {ps : List Part} {b : Bool} {z : List (Str × Dt)}
/-- what a row of one mark keeps -/
theorem kept_one : ∀ (ps : List Part) (d : Dt), kept ps [d] = [] ∨ kept ps [d] = [d]
  | [], d => .inr rfl
  | p :: ps, d => by
    have h : cutRow p [d] = [] ∨ cutRow p [d] = [d] := by
      have hl : (cutRow p [d]).length ≤ 1 := kept_len2 [p] [d]
      match e : cutRow p [d], hl with
      | [], _ => exact .inl rfl
      | [y], _ =>
        have hy : y ∈ cutRow p [d] := by rw [e]; exact List.mem_singleton.mpr rfl
        unfold cutRow at hy
        obtain ⟨i, _, hi⟩ := List.mem_filterMap.mp hy
        have := List.mem_of_getElem? hi
        rw [List.mem_singleton.mp this]
        exact .inr rfl
    rcases h with h | h
    · have : kept (p :: ps) [d] = kept ps [] := by show kept ps (cutRow p [d]) = _; rw [h]
      rw [this]
      exact .inl (List.length_eq_zero_iff.mp (Nat.le_zero.mp (kept_len2 ps ([] : List Dt))))
    · have : kept (p :: ps) [d] = kept ps [d] := by show kept ps (cutRow p [d]) = _; rw [h]
      rw [this]
      exact kept_one ps d
theorem kept_nil (ps : List Part) : kept ps ([] : List Dt) = [] := List.length_eq_zero_iff.mp (Nat.le_zero.mp (kept_len2 ps ([] : List Dt)))
theorem kept_b1 (ps : List Part) : kept ps (kept [qB] (kept ps [Dt.int 0])) = [] ∨ kept ps (kept [qB] (kept ps [Dt.int 0])) = [Dt.int 0] := by
  rcases kept_one ps (.int 0) with h | h <;> rw [h]
  · rw [kept_nil, kept_nil]; exact .inl rfl
  · rcases kept_one [qB] (.int 0) with h | h <;> rw [h]
    · rw [kept_nil]; exact .inl rfl
    · exact kept_one ps _
theorem strOk_app (a b : Str) : PyData.strOk (a ++ b) = (PyData.strOk a && PyData.strOk b) := by
  simp [PyData.strOk, Str.cps_append, Array.all_append]
theorem strOk_join (sep : Str) (hs : PyData.strOk sep = true) : ∀ l : List Str, (∀ y ∈ l, PyData.strOk y = true) → PyData.strOk (Str.join sep l) = true
  | [], _ => by show PyData.strOk Str.empty = true; decide +kernel
  | [y], h => h y (by simp)
  | y :: u :: l, h => by
    show PyData.strOk (y ++ sep ++ Str.join sep (u :: l)) = true
    rw [strOk_app, strOk_app, hs, h y (by simp), strOk_join sep hs (u :: l) fun x hx => h x (List.mem_cons_of_mem _ hx)]
    rfl
theorem strOk_C (hp : ∀ p ∈ ps, p.ok) : PyData.strOk (strC ps) = true := by
  unfold strC
  split
  · decide +kernel
  · show PyData.strOk (Builtin.Str.glued " > " (ps.map Part.s)) = true
    rw [StrLaws.glued_eq_join]
    refine strOk_join _ (by decide +kernel) _ fun y hy => ?_
    obtain ⟨p, hp1, rfl⟩ := List.mem_map.mp hy
    exact strOk_part (hp p hp1)
theorem strOk_R (hp : ∀ p ∈ ps, p.ok) : PyData.strOk (strR b ps) = true := by
  unfold strR
  split
  · rw [strOk_app, strOk_C hp]; decide +kernel
  · rw [strOk_app, strOk_C hp]; decide +kernel
theorem eq_before {bd : List Dt} {bp : List PyData} {k : Dt → Prop} (hp : ∀ p ∈ ps, p.ok) (h1 : toPy (.tup bd) = some (.tuple bp)) (h2 : SeqAt.shaped (.tuple bp) = true) (h3 : PyData.depthAll bp = 0) (h : k (.bl true)) : eqD (.lst [.str (strR b ps), .tup (ps.map Part.d), .tup bd]) (.lst [.str (strR b ps), .tup (ps.map Part.d), .tup bd]) k := by
  have e : toPy (.lst [.str (strR b ps), .tup (ps.map Part.d), .tup bd]) = some (.list [.str (strR b ps), .tuple (partsP ps), .tuple bp]) := by
    show (toPys [.str (strR b ps), .tup (ps.map Part.d), .tup bd]).map PyData.list = _
    simp only [toPys, toPy_partsT, h1]
    rfl
  have hs : SeqAt.shaped (.list [.str (strR b ps), .tuple (partsP ps), .tuple bp]) = true := by
    obtain ⟨l1, l2⟩ := lay_parts hp
    unfold SeqAt.shaped at h2 ⊢
    rw [Bool.and_eq_true] at h2 ⊢
    have h2 : PyData.canLayAll0 bp = true := h2.1
    refine ⟨?_, ?_⟩
    · simp only [PyData.canLay0, PyData.canLayAll0, strOk_R hp, l1, h2]
      rfl
    · simp only [PyData.depth, PyData.depthAll, l2, h3]
      decide
  refine ⟨_, _, e, e, hs, hs, ?_⟩
  rw [SeqAt.eqv_refl _ (Bool.and_eq_true_iff.mp hs).1]
  exact h
theorem lr_0 {kk : Oc → Prop} (h : ∀ (ps : List Part) (g : List (Str × Dt)), (∀ p ∈ ps, p.ok) → ps.length ≤ 4 → g = cutF ps → kk (.nx [.dt .dice, .dt (.ins 21 g), .no, .no, .no, .no, .no])) : (asgW (cmethW 21 W_Cutter_of (cW (.cls 21)) (consW (cbW tupD (consW (callW W__law_parts (consW (vW 0) (consW (cW (.int 4)) nilW))) nilW)) nilW)) (gN 1)) [.dt .dice, .no, .no, .no, .no, .no, .no] kk := by
  refine ⟨rfl, sp_law_parts (m := 4) (by decide) fun ps hps hl => ?_⟩
  have hl : ps.length ≤ 4 := by omega
  exact sp_of (sp_init_ok hps hl (h ps _ hps hl rfl))
theorem lr_1 {kk : Oc → Prop} (h : ∀ f z k : List (Str × Dt), f = cutF [] → k = cutF [qB] → kk (.nx [.dt .dice, .dt (.ins 21 g), .dt (compC f g z k), .no, .no, .no, .no])) : (asgW (makeKW 22 2 1 (kwI 2 1 [(false, 0), (false, 1), (true, 0)] [.non, .non] W_Company___init__) (consW (tupW (consW (cW (.str "ann")) (consW (cW (.str "bob")) nilW))) (consW (dispTW [((tupW (consW (cW (.str "ann")) (consW (cW (.str "bob")) nilW))), (tupW (consW (makeW 21 W_Cutter___init__ nilW) (consW (cW (.bl true)) (consW (vW 1) nilW)))))]) nilW)) (consW (dispW [((cW (.str "bob")), (makeW 21 W_Cutter___init__ (consW (cW (.str "..+")) nilW)))]) nilW)) (gN 2)) [.dt .dice, .dt (.ins 21 g), .no, .no, .no, .no, .no] kk := by
  refine ⟨Nat.le_of_ble_eq_true rfl, Nat.le_of_ble_eq_true rfl, mk0 fun f hf => ?_⟩
  refine ⟨Nat.le_of_ble_eq_true rfl, Nat.le_of_ble_eq_true rfl, _, rfl, ?_⟩
  refine sp_init_ok (ps := [qB]) okB (by decide) ?_
  refine ⟨_, rfl, by decide, rfl, rfl, rfl, ?_⟩
  exact comp_ok fun z hz => h f z _ hf rfl
theorem lr_2 {kk : Oc → Prop} (hp : ∀ p ∈ ps, p.ok) (hf : f = cutF []) (hg : g = cutF ps) (h : kk (.nx [.dt .dice, .dt (.ins 21 g), .dt (compC f g z k), .dt (bunC f g z k ps), .no, .no, .no])) : (asgW (makeW 24 W_Bundle___init__ (consW (vW 2) (consW (tupW (consW (cW (.str "ann")) (consW (cW (.non)) (consW (cW (.bl true)) nilW)))) (consW (tupW (consW (cW (.str "bob")) (consW (cW (.int 0)) (consW (cW (.bl false)) nilW)))) (consW (tupW (consW (cW (.str "bob")) (consW (cW (.non)) (consW (cW (.bl true)) nilW)))) nilW))))) (gN 3)) [.dt .dice, .dt (.ins 21 g), .dt (compC f g z k), .no, .no, .no, .no] kk := by
  refine ⟨Nat.le_of_ble_eq_true rfl, Nat.le_of_ble_eq_true rfl, Nat.le_of_ble_eq_true rfl, ?_⟩
  exact bun_ok hp hf hg h
theorem lr_3 {kk : Oc → Prop} (h : ∀ b, kk (.nx [.dt .dice, .dt (.ins 21 g), .dt (compC f g z k), .dt (bunC f g z k ps), .dt (ruleC g b), .no, .no])) : (asgW (makeKW 25 1 1 (kwI 1 1 [(true, 0)] [] W_Rule___init__) (consW (vW 1) nilW) (consW (opW eqD (callW PreRoll (consW (vW 0) (consW (cW (.int 2)) nilW))) (cW (.int 0))) nilW)) (gN 4)) [.dt .dice, .dt (.ins 21 g), .dt (compC f g z k), .dt (bunC f g z k ps), .no, .no, .no] kk := by
  refine ⟨2, rfl, by decide, by decide, fun r _ _ => ?_⟩
  exact ⟨rfl, rfl, rfl, rule_ok (h _)⟩
theorem lr_4 {bd : List Dt} {kk : Oc → Prop} (hp : ∀ p ∈ ps, p.ok) (hl : ps.length ≤ 4) (hg : g = cutF ps) (hk : k = cutF [qB]) (hb : bd = kept ps (kept [qB] (kept ps [.int 0]))) (h : kk (.nx [.dt .dice, .dt (.ins 21 g), .dt (compC f g z k), .dt (bunC f g z k ps), .dt (ruleC g b), .dt (.lst [.str (strR b ps), .tup (ps.map Part.d), .tup bd]), .no])) : (asgW (lstW (consW (cbW (strOD [(25, W_Rule___str__)]) (consW (vW 4) nilW)) (consW (propW [(21, W_Cutter_parts)] (propW [(25, W_Rule_cutter)] (vW 4))) (consW (methW [(25, W_Rule_bound)] "bound" (vW 4) (consW (vW 3) (consW (cW (.int 1)) nilW))) nilW)))) (gN 5)) [.dt .dice, .dt (.ins 21 g), .dt (compC f g z k), .dt (bunC f g z k ps), .dt (ruleC g b), .no, .no] kk := by
  refine ⟨W_Rule___str__, rfl, rule_str hp hl hg ⟨_, rfl, ?_⟩⟩
  refine ⟨_, rfl, rcutter ⟨_, rfl, ?_⟩⟩
  rw [hg]
  refine sp_parts ?_
  rw [← hg]
  refine ⟨rfl, _, rfl, bound1 hp hg hk ?_⟩
  rw [← hb]
  exact ⟨Nat.le_of_ble_eq_true rfl, h⟩
theorem lr_5 {bd : List Dt} {kk : Oc → Prop} (hg : g = cutF ps) (h : ∀ x, kk (.nx [.dt .dice, .dt (.ins 21 g), .dt (compC f g z k), .dt (bunC f g z k ps), .dt (ruleC g b), .dt (.lst [.str (strR b ps), .tup (ps.map Part.d), .tup bd]), x])) : (forW (itAW rng1D (consW (cW (.int 3)) nilW)) (gN 6) (ifSW (orW (notW (testW (callW (calmP W__law_made_right) (consW (vW 0) (consW (vW 1) nilW))))) (notW (testW (callW (calmP W__law_asked_right) (consW (vW 0) (consW (vW 4) (consW (vW 2) (consW (vW 3) nilW)))))))) (retW (cW (.bl false))) passW)) [.dt .dice, .dt (.ins 21 g), .dt (compC f g z k), .dt (bunC f g z k ps), .dt (ruleC g b), .dt (.lst [.str (strR b ps), .tup (ps.map Part.d), .tup bd]), .no] kk := by
  refine ⟨⟨by decide, by decide⟩, for_inv (fun i s => ∃ x, s = [.dt .dice, .dt (.ins 21 g), .dt (compC f g z k), .dt (bunC f g z k ps), .dt (ruleC g b), .dt (.lst [.str (strR b ps), .tup (ps.map Part.d), .tup bd]), x]) 0 ⟨_, rfl⟩ ?_ ?_⟩
  · rintro i d s N hi ⟨x, rfl⟩ hn
    exact made_right hg (ifF rfl (asked_right (ifF rfl (hn _ ⟨_, rfl⟩))))
  · rintro s ⟨x, rfl⟩
    exact h x
theorem lr_6 {bd : List Dt} {x : Sd} {kk : Oc → Prop} (hp : ∀ p ∈ ps, p.ok) (hl : ps.length ≤ 4) (hg : g = cutF ps) (hk : k = cutF [qB]) (hb : bd = kept ps (kept [qB] (kept ps [.int 0]))) (h : kk (.rt (.bl true))) : (retW (avW (opW eqD (lstW (consW (cbW (strOD [(25, W_Rule___str__)]) (consW (vW 4) nilW)) (consW (propW [(21, W_Cutter_parts)] (propW [(25, W_Rule_cutter)] (vW 4))) (consW (methW [(25, W_Rule_bound)] "bound" (vW 4) (consW (vW 3) (consW (cW (.int 1)) nilW))) nilW)))) (vW 5)) (opW eqD (methW [(25, W_Rule_bound)] "bound" (vW 4) (consW (vW 3) (consW (cW (.int 2)) nilW))) (tupW nilW)))) [.dt .dice, .dt (.ins 21 g), .dt (compC f g z k), .dt (bunC f g z k ps), .dt (ruleC g b), .dt (.lst [.str (strR b ps), .tup (ps.map Part.d), .tup bd]), x] kk := by
  refine ⟨W_Rule___str__, rfl, rule_str hp hl hg ⟨_, rfl, ?_⟩⟩
  refine ⟨_, rfl, rcutter ⟨_, rfl, ?_⟩⟩
  rw [hg]
  refine sp_parts ?_
  rw [← hg]
  refine ⟨rfl, _, rfl, bound1 hp hg hk ?_⟩
  rw [← hb]
  refine ⟨Nat.le_of_ble_eq_true rfl, ?_⟩
  show rdS (some (Sd.dt _)) _
  unfold rdS
  dsimp only
  refine eq_before (bp := if bd = [] then [] else [.int 0]) hp ?_ ?_ ?_ ?_
  · rcases kept_b1 ps with e | e <;> rw [hb, e] <;> rfl
  · split <;> decide
  · split <;> rfl
  · refine ifT rfl ⟨rfl, _, rfl, bound2 hp hg hk ?_⟩
    exact ⟨Nat.le_of_ble_eq_true rfl, _, _, rfl, rfl, rfl, rfl, h⟩
theorem law_right (h : R (.bl true)) : W__law_right [.dice] R X := by
  rw [W__law_right_eq]
  refine ⟨rfl, ?_⟩
  unfold B__law_right
  refine lr_0 fun ps g hp hl hg => ?_
  refine lr_1 fun f z k hf hk => ?_
  refine lr_2 hp hf hg ?_
  refine lr_3 fun b => ?_
  refine lr_4 hp hl hg hk rfl ?_
  refine lr_5 hg fun x => ?_
  exact lr_6 hp hl hg hk rfl h
theorem sp_law (ns : List Int) (hl : ns.length ≤ 63) (R : Dt → Prop) (h : R (.bl true)) : W_law [.sq (ns.map .int)] R xF := by
  rw [W_law_eq]
  refine ⟨rfl, ?_⟩
  have hb : ∀ z : Int, 0 ≤ z → z ≤ 63 → -(2 ^ 62) ≤ (if (if z < 6 then z else 6) > 1 then (if z < 6 then z else 6) else (1 : Int)) ∧ (if (if z < 6 then z else 6) > 1 then (if z < 6 then z else 6) else (1 : Int)) < 2 ^ 62 := fun z h0 h1 => by
    split <;> split <;> omega
  refine ⟨hb _ (by omega) (by simp; omega), for_inv (fun i s => ∃ x1, s = [.dt (.sq (ns.map .int)), x1]) 0 ⟨_, rfl⟩ ?_ ?_⟩
  · rintro i d s N hi ⟨x1, rfl⟩ hn
    obtain ⟨_, rfl⟩ := range_at hi
    refine ⟨ns, i, by simp [rdS], ?_⟩
    exact law_right (ifF rfl (hn _ ⟨_, rfl⟩))
  · rintro s ⟨x1, rfl⟩
    exact h
end Mw

set_option Elab.async false
set_option linter.all false
set_option maxRecDepth 100000
set_option maxHeartbeats 4000000
namespace Mw
open PySem PySem.Spec PyProof.Rows L2

section
variable {P : Program} {c : Kc} {mg : Str → Option Value} {base : Heap} {ea : EA}
theorem gx_part_places (T : Tx P c mg ea)  : Gfx P c mg base "part_places" 1 W_part_places := by
  rw [W_part_places_eq]
  exact gfx_of T.D_part_places sc_part_places rfl rfl (fun f cdv A outer s H E hr => ⟨_, (pss_cons (ps_if (pt_cmpR (opEq (K := c.K) rfl hr.units) (pv 0) (pe_g rfl T.g_WHOLE) (nomark _)) (pss_one (ps_ret (pe_listRg rfl (by rfl) T.m_list (prg_1 (by rfl) T.m_range (pv 1))))) pss_nil) (pss_cons (ps_asg (peBm (K := c.K) rfl PySem.F.plainAttrs_str PySem.F.slot_str_split PySem.F.type_str_split mtSplit (pv 0) (pa_cons (pe_g rfl T.g_GAP) pa_nil)) (pgUnl (K := c.K) (n := 2) rfl rfl (pgs_cons (pg_name (i := 4) sc_part_places.nd rfl (by first | exact Or.inl rfl | exact Or.inr rfl)) (pgs_cons (pg_name (i := 5) sc_part_places.nd rfl (by first | exact Or.inl rfl | exact Or.inr rfl)) pgs_nil)))) (pss_cons (ps_setLc (i := 2) (own := [("at", 7), ("sign", 8)]) rfl sc_part_places.nd rfl rfl (sw_true rfl rfl rfl (by decide +kernel)) (pi_enumS (by rfl) T.m_enumerate (pa_cons (pv 4) pa_nil)) (blkOk_by (own := [("at", 7), ("sign", 8)]) (N := ["part", "many", "ahead", "kept", "front", "back", "place", "at", "sign"]) (sc := defScope s_part_places) (by decide +kernel)) (fun _ _ _ _ _ => (pgTup (K := c.K) (n := 2) rfl rfl (pgs_cons (pg_name (i := 7) sc_part_places.nd rfl (by first | exact Or.inl rfl | exact Or.inr rfl)) (pgs_cons (pg_name (i := 8) sc_part_places.nd rfl (by first | exact Or.inl rfl | exact Or.inr rfl)) pgs_nil)))) (fun _ _ _ _ _ => (pts_one (pt_cmpR (opEq (K := c.K) rfl hr.units) (pv 8) pe_str (nomark _)))) (fun _ _ _ _ _ => (pv 7))) (pss_cons (ps_set (i := 3) sc_part_places.nd rfl (by first | exact Or.inl rfl | exact Or.inr rfl) (pe_lst (paStar (K := c.K) rfl (pv 2) (paStar (K := c.K) rfl (pe_lc (own := [("at", 7), ("sign", 8)]) rfl sc_part_places.nd (pi_enumS (by rfl) T.m_enumerate (pa_cons (pv 5) pa_nil)) (blkOk_by (own := [("at", 7), ("sign", 8)]) (N := ["part", "many", "ahead", "kept", "front", "back", "place", "at", "sign"]) (sc := defScope s_part_places) (by decide +kernel)) (fun _ _ _ _ _ => (pgTup (K := c.K) (n := 2) rfl rfl (pgs_cons (pg_name (i := 7) sc_part_places.nd rfl (by first | exact Or.inl rfl | exact Or.inr rfl)) (pgs_cons (pg_name (i := 8) sc_part_places.nd rfl (by first | exact Or.inl rfl | exact Or.inr rfl)) pgs_nil)))) (fun _ _ _ _ _ => (pts_one (pt_cmpR (opEq (K := c.K) rfl hr.units) (pv 8) pe_str (nomark _)))) (fun _ _ _ _ _ => (pe_op (opAdd (K := c.K) rfl) (pe_op op_sub (pv 1) (pe_callB (callLen (K := c.K) rfl) (by rfl) T.m_len (by decide +kernel) (pa_cons (pv 5) pa_nil))) (pv 7)))) pa_nil)))) (pss_one (ps_ret (pe_lc (own := [("place", 6)]) (g := gName 6) rfl sc_part_places.nd (pi_range1 rfl T.m_range (pa_cons (pv 1) pa_nil)) (blkOk_by (own := [("place", 6)]) (N := ["part", "many", "ahead", "kept", "front", "back", "place", "at", "sign"]) (sc := defScope s_part_places) (by decide +kernel)) (fun _ _ _ _ _ => (pg_name (i := 6) sc_part_places.nd rfl (by first | exact Or.inl rfl | exact Or.inr rfl))) (fun _ _ _ _ _ => (pts_one (pt_cmpR (opIn (K := c.K) rfl) (pv 6) (pv 3) rfl))) (fun _ _ _ _ _ => (pv 6))))))))), (rs_seq (rs_if (rt_test (re_op ro_eq re_var (re_c (v := .str "all") (d := .str "all") fun _ => rfl))) (rs_ret (re_fresh (rf_rgL re_var))) rs_next) (rs_seq (rs_asg (re_bm (by decide) ro_split re_var (ra_cons (re_c (v := .str "..") (d := .str "..") fun _ => rfl) ra_nil)) (rl_unl (rls_cons rl_name (rls_cons rl_name rls_nil)))) (rs_seq (rs_asg (re_lc (ri_enumS (ra_cons re_var ra_nil)) (rg_tup (rgs_cons (rg_name (by decide)) (rgs_cons (rg_name (by decide)) rgs_nil))) (rt_test (re_op ro_eq re_var (re_c (v := .str "+") (d := .str "+") fun _ => rfl))) re_var) rl_name) (rs_seq (rs_asg (re_lst (ra_star re_var (ra_star (re_lc (ri_enumS (ra_cons re_var ra_nil)) (rg_tup (rgs_cons (rg_name (by decide)) (rgs_cons (rg_name (by decide)) rgs_nil))) (rt_test (re_op ro_eq re_var (re_c (v := .str "+") (d := .str "+") fun _ => rfl))) (re_op ro_add (re_op ro_sub re_var (re_cb ro_len (ra_cons re_var ra_nil))) re_var)) ra_nil))) rl_name) (rs_ret (re_lc (ri_rng1 (ra_cons re_var ra_nil)) (rg_name (by decide)) (rt_test (re_op ro_in re_var re_var)) re_var))))))⟩)
theorem gx_chain_places (T : Tx P c mg ea) (g_part_places : Gfx P c mg base "part_places" 1 W_part_places) : Gfx P c mg base "chain_places" 2 W_chain_places := by
  rw [W_chain_places_eq]
  exact gfx_of T.D_chain_places sc_chain_places rfl rfl (fun f cdv A outer s H E hr => ⟨_, (pss_cons (ps_set (i := 2) sc_chain_places.nd rfl (by first | exact Or.inl rfl | exact Or.inr rfl) (pe_listRg rfl (by rfl) T.m_list (prg_1 (by rfl) T.m_range (pv 1)))) (pss_cons (ps_for (passes_of rfl) rfl (piAny (K := c.K) rfl (pv 0)) (pg_name (i := 3) sc_chain_places.nd rfl (by first | exact Or.inl rfl | exact Or.inr rfl)) (pss_one (ps_set (i := 2) sc_chain_places.nd rfl (by first | exact Or.inl rfl | exact Or.inr rfl) (pe_lc (own := [("at", 4)]) (g := gName 4) rfl sc_chain_places.nd (piAny (K := c.K) rfl (pe_gx g_part_places ⟨rfl, rfl, rfl, rfl, rfl⟩ (hr.mono (by decide)) rfl (tk_some (takes_of rfl rfl rfl rfl)) (pa_cons (pv 3) (pa_cons (pe_callB (callLen (K := c.K) rfl) (by rfl) T.m_len (by decide +kernel) (pa_cons (pv 2) pa_nil)) pa_nil)))) (blkOk_by (own := [("at", 4)]) (N := ["parts", "many", "places", "part", "at"]) (sc := defScope s_chain_places) (by decide +kernel)) (fun _ _ _ _ _ => (pg_name (i := 4) sc_chain_places.nd rfl (by first | exact Or.inl rfl | exact Or.inr rfl))) (fun _ _ _ _ _ => pts_nil) (fun _ _ _ _ _ => (pe_ix (ixA (K := c.K) rfl) (pv 2) (pv 4) (fun _ _ => rfl))))))) (pss_one (ps_ret (pe_callTy (callTuple (K := c.K) rfl) (by rfl) T.m_tuple (by decide +kernel) (pa_cons (pv 2) pa_nil)))))), (rs_seq (rs_asg (re_fresh (rf_rgL re_var)) rl_name) (rs_seq (rs_for (ri_any re_var) rl_name (rs_asg (re_lc (ri_any (re_call (ra_cons re_var (ra_cons (re_cb ro_len (ra_cons re_var ra_nil)) ra_nil)))) (rg_name (by decide)) rt_yes (re_op ro_ix re_var re_var)) rl_name)) (rs_ret (re_cb ro_tup (ra_cons re_var ra_nil)))))⟩)
theorem gx_are_signs (T : Tx P c mg ea)  : Gfx P c mg base "are_signs" 1 W_are_signs := by
  rw [W_are_signs_eq]
  exact gfx_of T.D_are_signs sc_are_signs rfl rfl (fun f cdv A outer s H E hr => ⟨_, (pss_one (ps_ret (pe_and (pe_cmpR op_le (pe_callB (callLen (K := c.K) rfl) (by rfl) T.m_len (by decide +kernel) (pa_cons (pv 0) pa_nil)) (pv 1) (nomark _)) (pe_one (pe_callB (callAll (K := c.K) rfl rfl) (by rfl) T.m_all (by decide +kernel) (pa_cons (pe_lc (own := [("sign", 2)]) (g := gName 2) rfl sc_are_signs.nd (piAny (K := c.K) rfl (pv 0)) (blkOk_by (own := [("sign", 2)]) (N := ["text", "most", "sign"]) (sc := defScope s_are_signs) (by decide +kernel)) (fun _ _ _ _ _ => (pg_name (i := 2) sc_are_signs.nd rfl (by first | exact Or.inl rfl | exact Or.inr rfl))) (fun _ _ _ _ _ => pts_nil) (fun _ _ _ _ _ => (pe_cmpR (opIn (K := c.K) rfl) (pv 2) pe_str rfl))) pa_nil)))))), (rs_ret (re_and (re_op ro_cmp (re_cb ro_len (ra_cons re_var ra_nil)) re_var) (re_cb ro_all (ra_cons (re_lc (ri_any re_var) (rg_name (by decide)) rt_yes (re_op ro_in re_var (re_c (v := .str "+-") (d := .str "+-") fun _ => rfl))) ra_nil))))⟩)
theorem gx_is_part (T : Tx P c mg ea) (g_are_signs : Gfx P c mg base "are_signs" 1 W_are_signs) : Gfx P c mg base "is_part" 2 W_is_part := by
  rw [W_is_part_eq]
  exact gfx_of T.D_is_part sc_is_part rfl rfl (fun f cdv A outer s H E hr => ⟨_, (pss_cons (ps_if (pt_not (pt_val (pe_callB (callIsi (K := c.K) rfl) (by rfl) T.m_isinstance (by decide +kernel) (pa_cons (pv 0) (pa_cons (pe_bty "str" rfl T.m_str (by decide +kernel)) pa_nil))))) (pss_one (ps_ret pe_bl)) pss_nil) (pss_cons (ps_set (i := 1) sc_is_part.nd rfl (by first | exact Or.inl rfl | exact Or.inr rfl) (peBm (K := c.K) rfl PySem.F.plainAttrs_str PySem.F.slot_str_split PySem.F.type_str_split mtSplit (pv 0) (pa_cons (pe_g rfl T.g_GAP) pa_nil))) (pss_one (ps_ret (pe_or (pe_cmpR (opEq (K := c.K) rfl hr.units) (pv 0) (pe_g rfl T.g_WHOLE) (nomark _)) (pe_one (pe_and (pe_cmpR (opEq (K := c.K) rfl hr.units) (pe_callB (callLen (K := c.K) rfl) (by rfl) T.m_len (by decide +kernel) (pa_cons (pv 1) pa_nil)) pe_int (nomark _)) (pe_and (pe_gx g_are_signs ⟨rfl, rfl, rfl, rfl, rfl⟩ (hr.mono (by decide)) rfl (tk_some (takes_of rfl rfl rfl rfl)) (pa_cons (pe_ix (ixA (K := c.K) rfl) (pv 1) pe_int (fun _ _ => rfl)) (pa_cons (pe_g rfl T.g_MOST_FRONT) pa_nil))) (pe_one (pe_gx g_are_signs ⟨rfl, rfl, rfl, rfl, rfl⟩ (hr.mono (by decide)) rfl (tk_some (takes_of rfl rfl rfl rfl)) (pa_cons (pe_ix (ixA (K := c.K) rfl) (pv 1) pe_int (fun _ _ => rfl)) (pa_cons (pe_g rfl T.g_MOST_BACK) pa_nil)))))))))))), (rs_seq (rs_if (rt_not (rt_B (re_cb (ro_isi T.kls) (ra_cons re_var (ra_cons (re_c (v := .ty "str") (d := .ty "str") fun _ => rfl) ra_nil))))) (rs_ret (re_c (v := .bl false) (d := .bl false) fun _ => rfl)) rs_next) (rs_seq (rs_asg (re_bm (by decide) ro_split re_var (ra_cons (re_c (v := .str "..") (d := .str "..") fun _ => rfl) ra_nil)) rl_name) (rs_ret (re_or (re_op ro_eq re_var (re_c (v := .str "all") (d := .str "all") fun _ => rfl)) (re_and (re_op ro_eq (re_cb ro_len (ra_cons re_var ra_nil)) (re_c (v := .int 2) (d := .int 2) fun _ => rfl)) (re_and (re_call (ra_cons (re_op ro_ix re_var (re_c (v := .int 0) (d := .int 0) fun _ => rfl)) (ra_cons (re_c (v := .int 2) (d := .int 2) fun _ => rfl) ra_nil))) (re_call (ra_cons (re_op ro_ix re_var (re_c (v := .int 1) (d := .int 1) fun _ => rfl)) (ra_cons (re_c (v := .int 3) (d := .int 3) fun _ => rfl) ra_nil)))))))))⟩)
theorem gx_Cutter___init__ (T : Tx P c mg ea) (g_chain_places : Gfx P c mg base "chain_places" 2 W_chain_places) (g_is_part : Gfx P c mg base "is_part" 2 W_is_part) : Gix P c mg base 3 21 ea.f_Cutter___init__ W_Cutter___init__ := by
  rw [W_Cutter___init___eq]
  obtain ⟨F, hb⟩ := T.D_Cutter___init__
  exact gixS_of F sc_Cutter___init__ T.k_Cutter.cl rfl hb (fun cdv A outer s H E hr => ⟨_, (pss_cons (ps_set (i := 2) sc_Cutter___init__.nd rfl (by first | exact Or.inl rfl | exact Or.inr rfl) (pe_and (pe_cmpR (opEq (K := c.K) rfl hr.units) (pe_callB (callLen (K := c.K) rfl) (by rfl) T.m_len (by decide +kernel) (pa_cons (pv 1) pa_nil)) pe_int (nomark _)) (pe_one (pe_callB (callIsi (K := c.K) rfl) (by rfl) T.m_isinstance (by decide +kernel) (pa_cons (pe_ix (ixA (K := c.K) rfl) (pv 1) pe_int (fun _ _ => rfl)) (pa_cons (pe_cl rfl T.k_Known_cutters.m) pa_nil)))))) (pss_cons (ps_set (i := 3) sc_Cutter___init__.nd rfl (by first | exact Or.inl rfl | exact Or.inr rfl) (pe_ifExp (pt_val (pv 2)) (peFld (K := c.K) rfl (pe_ix (ixA (K := c.K) rfl) (pv 1) pe_int (fun _ _ => rfl))) (pv 1))) (pss_cons (ps_if (PW.pt (pw_and (pt_not (pt_val (pv 2))) (pw_and1 (PW.pt (pw_or (pt_not (pt_val (pe_callB (callAll (K := c.K) rfl rfl) (by rfl) T.m_all (by decide +kernel) (pa_cons (pe_lc (own := [("part", 5)]) (g := gName 5) rfl sc_Cutter___init__.nd (piAny (K := c.K) rfl (pv 3)) (blkOk_by (own := [("part", 5)]) (N := ["self", "parts", "is_known", "told", "many", "part"]) (sc := defScope s_Cutter___init__) (by decide +kernel)) (fun _ _ _ _ _ => (pg_name (i := 5) sc_Cutter___init__.nd rfl (by first | exact Or.inl rfl | exact Or.inr rfl))) (fun _ _ _ _ _ => pts_nil) (fun _ _ _ _ _ => (pe_gx g_is_part ⟨rfl, rfl, rfl, rfl, rfl⟩ (hr.mono (by decide)) rfl tk_none (pa_cons (pv 5) pa_nil)))) pa_nil)))) (pw_or1 (pt_cmpR op_gt (pe_callB (callLen (K := c.K) rfl) (by rfl) T.m_len (by decide +kernel) (pa_cons (pv 3) pa_nil)) (pe_g rfl T.g_MAX_PARTS) (nomark _)))))))) (pss_one (ps_raise0 PySem.F.excBase_ValueError T.x_InvalidCutter.xi T.x_InvalidCutter.m T.x_InvalidCutter.kp (raises_own T.x_InvalidCutter.sb T.x_InvalidCutter.ty) rfl (takes_of rfl rfl rfl rfl) rfl)) pss_nil) (pss_cons (psFld (K := c.K) rfl (pv 0) (pv 3)) (pss_cons (psFld (K := c.K) rfl (pv 0) (pe_callTy (callTuple (K := c.K) rfl) (by rfl) T.m_tuple (by decide +kernel) (pa_cons (pe_lc (own := [("many", 4)]) (g := gName 4) rfl sc_Cutter___init__.nd (pi_range1 rfl T.m_range (pa_cons (pe_op (opAdd (K := c.K) rfl) (pe_g rfl T.g_FEW) pe_int) pa_nil)) (blkOk_by (own := [("many", 4)]) (N := ["self", "parts", "is_known", "told", "many", "part"]) (sc := defScope s_Cutter___init__) (by decide +kernel)) (fun _ _ _ _ _ => (pg_name (i := 4) sc_Cutter___init__.nd rfl (by first | exact Or.inl rfl | exact Or.inr rfl))) (fun _ _ _ _ _ => pts_nil) (fun _ _ _ _ _ => (pe_gx g_chain_places ⟨rfl, rfl, rfl, rfl, rfl⟩ (hr.mono (by decide)) rfl tk_none (pa_cons (pv 3) (pa_cons (pv 4) pa_nil))))) pa_nil))) (pss_one (psFld (K := c.K) rfl (pv 0) (pe_callB (callAll (K := c.K) rfl rfl) (by rfl) T.m_all (by decide +kernel) (pa_cons (pe_lc (own := [("part", 5)]) (g := gName 5) rfl sc_Cutter___init__.nd (piAny (K := c.K) rfl (pv 3)) (blkOk_by (own := [("part", 5)]) (N := ["self", "parts", "is_known", "told", "many", "part"]) (sc := defScope s_Cutter___init__) (by decide +kernel)) (fun _ _ _ _ _ => (pg_name (i := 5) sc_Cutter___init__.nd rfl (by first | exact Or.inl rfl | exact Or.inr rfl))) (fun _ _ _ _ _ => pts_nil) (fun _ _ _ _ _ => (pe_cmpR (opEq (K := c.K) rfl hr.units) (pv 5) (pe_g rfl T.g_WHOLE) (nomark _)))) pa_nil))))))))), fun me => (rs_seq (rs_asg (re_and (re_op ro_eq (re_cb ro_len (ra_cons re_var ra_nil)) (re_c (v := .int 1) (d := .int 1) fun _ => rfl)) (re_cb (ro_isi T.kls) (ra_cons (re_op ro_ix re_var (re_c (v := .int 0) (d := .int 0) fun _ => rfl)) (ra_cons (re_c fun _ => ⟨rfl, T.k_Known_cutters.cl⟩) ra_nil)))) rl_name) (rs_seq (rs_asg (re_if (rt_B re_var) (re_fld T.kls (nof_cons T.n_Known_cutters_own_parts (nof_cons T.n_Cutter_own_parts nof_nil)) (re_op ro_ix re_var (re_c (v := .int 0) (d := .int 0) fun _ => rfl))) re_var) rl_name) (rs_seq (rs_if (rt_and (rt_not (rt_B re_var)) (rt_or (rt_not (rt_B (re_cb ro_all (ra_cons (re_lc (ri_any re_var) (rg_name (by decide)) rt_yes (re_call (ra_cons re_var ra_nil))) ra_nil)))) (rt_test (re_op ro_cmp (re_cb ro_len (ra_cons re_var ra_nil)) (re_c (v := .int 4) (d := .int 4) fun _ => rfl))))) rs_raise0 rs_next) (rs_seq (rs_sfld T.kls (nof_cons T.n_Known_cutters_own_parts (nof_cons T.n_Cutter_own_parts nof_nil)) re_var) (rs_seq (rs_sfld T.kls (nof_cons T.n_Cutter_own_tables nof_nil) (re_cb ro_tup (ra_cons (re_lc (ri_rng1 (ra_cons (re_op ro_add (re_c (v := .int 5) (d := .int 5) fun _ => rfl) (re_c (v := .int 1) (d := .int 1) fun _ => rfl)) ra_nil)) (rg_name (by decide)) rt_yes (re_call (ra_cons re_var (ra_cons re_var ra_nil)))) ra_nil))) (rs_sfld T.kls (nof_cons T.n_Cutter_own_is_whole nof_nil) (re_cb ro_all (ra_cons (re_lc (ri_any re_var) (rg_name (by decide)) rt_yes (re_op ro_eq re_var (re_c (v := .str "all") (d := .str "all") fun _ => rfl))) ra_nil))))))))⟩)
theorem gx_Cutter_of (T : Tx P c mg ea) (g_Cutter___init__ : Gix P c mg base 3 21 ea.f_Cutter___init__ W_Cutter___init__) : Gmx P c mg base 5 ea.f_Cutter_of W_Cutter_of := by
  rw [W_Cutter_of_eq]
  exact gmx_of T.D_Cutter_of sc_Cutter_of rfl rfl (fun cdv A outer s H E hr => ⟨_, (pss_cons (ps_if (pt_not (pt_val (pe_callB (callIsi (K := c.K) rfl) (by rfl) T.m_isinstance (by decide +kernel) (pa_cons (pv 1) (pa_cons (pe_bty "tuple" rfl T.m_tuple (by decide +kernel)) pa_nil))))) (pss_one (ps_raise0 PySem.F.excBase_ValueError T.x_InvalidCutter.xi T.x_InvalidCutter.m T.x_InvalidCutter.kp (raises_own T.x_InvalidCutter.sb T.x_InvalidCutter.ty) rfl (takes_of rfl rfl rfl rfl) rfl)) pss_nil) (pss_one (ps_ret (pe_mkcS T.mk_Cutter g_Cutter___init__ ⟨rfl, rfl, rfl, rfl, rfl⟩ (hr.mono (by decide)) (tk_some (takes_of rfl rfl rfl rfl)) (pv 0) (pv 1))))), (rs_seq (rs_if (rt_not (rt_B (re_cb (ro_isi T.kls) (ra_cons re_var (ra_cons (re_c (v := .ty "tuple") (d := .ty "tuple") fun _ => rfl) ra_nil))))) rs_raise0 rs_next) (rs_ret (re_mkc re_var (ra_star re_var ra_nil))))⟩)
theorem gx_is_ascending (T : Tx P c mg ea)  : Gfx P c mg base "is_ascending" 1 W_is_ascending := by
  rw [W_is_ascending_eq]
  exact gfx_of T.D_is_ascending sc_is_ascending rfl rfl (fun f cdv A outer s H E hr => ⟨_, (pss_one (ps_ret (pe_callB (callAll (K := c.K) rfl rfl) (by rfl) T.m_all (by decide +kernel) (pa_cons (pe_lc (own := [("one", 1), ("other", 2)]) rfl sc_is_ascending.nd (piZip (K := c.K) rfl (by rfl) T.m_zip (pa_cons (pv 0) (pa_cons (pe_slice (slAny (K := c.K) rfl) (pv 0) (po_some pe_int) po_none) pa_nil))) (blkOk_by (own := [("one", 1), ("other", 2)]) (N := ["row", "one", "other"]) (sc := defScope s_is_ascending) (by decide +kernel)) (fun _ _ _ _ _ => (pgTup (K := c.K) (n := 2) rfl rfl (pgs_cons (pg_name (i := 1) sc_is_ascending.nd rfl (by first | exact Or.inl rfl | exact Or.inr rfl)) (pgs_cons (pg_name (i := 2) sc_is_ascending.nd rfl (by first | exact Or.inl rfl | exact Or.inr rfl)) pgs_nil)))) (fun _ _ _ _ _ => pts_nil) (fun _ _ _ _ _ => (pe_cmpR opLtA (pv 1) (pv 2) (nomark _)))) pa_nil)))), (rs_ret (re_cb ro_all (ra_cons (re_lc (ri_zip (ra_cons re_var (ra_cons (re_sl ro_sl re_var (rp_so (re_c (v := .int 1) (d := .int 1) fun _ => rfl)) rp_no) ra_nil))) (rg_tup (rgs_cons (rg_name (by decide)) (rgs_cons (rg_name (by decide)) rgs_nil))) rt_yes (re_op ro_ltA re_var re_var)) ra_nil)))⟩)
theorem gx_is_name (T : Tx P c mg ea)  : Gfx P c mg base "is_name" 1 W_is_name := by
  rw [W_is_name_eq]
  exact gfx_of T.D_is_name sc_is_name rfl rfl (fun f cdv A outer s H E hr => ⟨_, (pss_one (ps_ret (pe_and (pe_callB (callIsi (K := c.K) rfl) (by rfl) T.m_isinstance (by decide +kernel) (pa_cons (pv 0) (pa_cons (pe_bty "str" rfl T.m_str (by decide +kernel)) pa_nil))) (pe_and (pe_chain op_le op_le pe_int (pe_callB (callLen (K := c.K) rfl) (by rfl) T.m_len (by decide +kernel) (pa_cons (pv 0) pa_nil)) (pe_g rfl T.g_LONGEST)) (pe_one (pe_callB (callAll (K := c.K) rfl rfl) (by rfl) T.m_all (by decide +kernel) (pa_cons (pe_lc (own := [("sign", 1)]) (g := gName 1) rfl sc_is_name.nd (piAny (K := c.K) rfl (pv 0)) (blkOk_by (own := [("sign", 1)]) (N := ["value", "sign"]) (sc := defScope s_is_name) (by decide +kernel)) (fun _ _ _ _ _ => (pg_name (i := 1) sc_is_name.nd rfl (by first | exact Or.inl rfl | exact Or.inr rfl))) (fun _ _ _ _ _ => pts_nil) (fun _ _ _ _ _ => (pe_cmpR (opIn (K := c.K) rfl) (pv 1) (pe_g rfl T.g_LETTERS) rfl))) pa_nil))))))), (rs_ret (re_and (re_cb (ro_isi T.kls) (ra_cons re_var (ra_cons (re_c (v := .ty "str") (d := .ty "str") fun _ => rfl) ra_nil))) (re_and (re_chain ro_cmp ro_cmp (re_c (v := .int 1) (d := .int 1) fun _ => rfl) (re_cb ro_len (ra_cons re_var ra_nil)) (re_c (v := .int 8) (d := .int 8) fun _ => rfl)) (re_cb ro_all (ra_cons (re_lc (ri_any re_var) (rg_name (by decide)) rt_yes (re_op ro_in re_var (re_c (v := .str "abcdefghijklmnopqrstuvwxyz") (d := .str "abcdefghijklmnopqrstuvwxyz") fun _ => rfl))) ra_nil)))))⟩)
theorem gx_are_people (T : Tx P c mg ea) (g_is_ascending : Gfx P c mg base "is_ascending" 1 W_is_ascending) (g_is_name : Gfx P c mg base "is_name" 1 W_is_name) : Gfx P c mg base "are_people" 2 W_are_people := by
  rw [W_are_people_eq]
  exact gfx_of T.D_are_people sc_are_people rfl rfl (fun f cdv A outer s H E hr => ⟨_, (pss_cons (ps_if (PW.pt (pw_or (pt_not (pt_val (pe_callB (callIsi (K := c.K) rfl) (by rfl) T.m_isinstance (by decide +kernel) (pa_cons (pv 0) (pa_cons (pe_bty "tuple" rfl T.m_tuple (by decide +kernel)) pa_nil))))) (pw_or1 (pt_not (pt_chain op_le op_le pe_int (pe_callB (callLen (K := c.K) rfl) (by rfl) T.m_len (by decide +kernel) (pa_cons (pv 0) pa_nil)) (pe_g rfl T.g_MAX_PEOPLE)))))) (pss_one (ps_ret pe_bl)) pss_nil) (pss_one (ps_ret (pe_and (pe_callB (callAll (K := c.K) rfl rfl) (by rfl) T.m_all (by decide +kernel) (pa_cons (pe_lc (own := [("name", 1)]) (g := gName 1) rfl sc_are_people.nd (piAny (K := c.K) rfl (pv 0)) (blkOk_by (own := [("name", 1)]) (N := ["value", "name"]) (sc := defScope s_are_people) (by decide +kernel)) (fun _ _ _ _ _ => (pg_name (i := 1) sc_are_people.nd rfl (by first | exact Or.inl rfl | exact Or.inr rfl))) (fun _ _ _ _ _ => pts_nil) (fun _ _ _ _ _ => (pe_gx g_is_name ⟨rfl, rfl, rfl, rfl, rfl⟩ (hr.mono (by decide)) rfl tk_none (pa_cons (pv 1) pa_nil)))) pa_nil)) (pe_one (pe_gx g_is_ascending ⟨rfl, rfl, rfl, rfl, rfl⟩ (hr.mono (by decide)) rfl (tk_some (takes_of rfl rfl rfl rfl)) (pa_cons (pv 0) pa_nil))))))), (rs_seq (rs_if (rt_or (rt_not (rt_B (re_cb (ro_isi T.kls) (ra_cons re_var (ra_cons (re_c (v := .ty "tuple") (d := .ty "tuple") fun _ => rfl) ra_nil))))) (rt_not (rt_test (re_chain ro_cmp ro_cmp (re_c (v := .int 1) (d := .int 1) fun _ => rfl) (re_cb ro_len (ra_cons re_var ra_nil)) (re_c (v := .int 4) (d := .int 4) fun _ => rfl))))) (rs_ret (re_c (v := .bl false) (d := .bl false) fun _ => rfl)) rs_next) (rs_ret (re_and (re_cb ro_all (ra_cons (re_lc (ri_any re_var) (rg_name (by decide)) rt_yes (re_call (ra_cons re_var ra_nil))) ra_nil)) (re_call (ra_cons re_var ra_nil)))))⟩)
theorem gx_are_copies (T : Tx P c mg ea)  : Gfx P c mg base "are_copies" 1 W_are_copies := by
  rw [W_are_copies_eq]
  exact gfx_of T.D_are_copies sc_are_copies rfl rfl (fun f cdv A outer s H E hr => ⟨_, (pss_cons (ps_if (PW.pt (pw_or (pt_not (pt_val (pe_callB (callIsi (K := c.K) rfl) (by rfl) T.m_isinstance (by decide +kernel) (pa_cons (pv 0) (pa_cons (pe_bty "dict" rfl T.m_dict (by decide +kernel)) pa_nil))))) (pw_or1 (pt_not (pt_val (pe_callB (callAll (K := c.K) rfl rfl) (by rfl) T.m_all (by decide +kernel) (pa_cons (pe_lc (own := [("cutter", 3)]) (g := gName 3) rfl sc_are_copies.nd (pi_values (pv 0)) (blkOk_by (own := [("cutter", 3)]) (N := ["value", "people", "name", "cutter"]) (sc := defScope s_are_copies) (by decide +kernel)) (fun _ _ _ _ _ => (pg_name (i := 3) sc_are_copies.nd rfl (by first | exact Or.inl rfl | exact Or.inr rfl))) (fun _ _ _ _ _ => pts_nil) (fun _ _ _ _ _ => (pe_callB (callIsi (K := c.K) rfl) (by rfl) T.m_isinstance (by decide +kernel) (pa_cons (pv 3) (pa_cons (pe_cl rfl T.k_Cutter.m) pa_nil))))) pa_nil))))))) (pss_one (ps_ret pe_bl)) pss_nil) (pss_one (ps_ret (pe_callB (callAll (K := c.K) rfl rfl) (by rfl) T.m_all (by decide +kernel) (pa_cons (pe_lc (own := [("name", 2)]) (g := gName 2) rfl sc_are_copies.nd (piAll (K := c.K) rfl (pv 0)) (blkOk_by (own := [("name", 2)]) (N := ["value", "people", "name", "cutter"]) (sc := defScope s_are_copies) (by decide +kernel)) (fun _ _ _ _ _ => (pg_name (i := 2) sc_are_copies.nd rfl (by first | exact Or.inl rfl | exact Or.inr rfl))) (fun _ _ _ _ _ => pts_nil) (fun _ _ _ _ _ => (pe_and (pe_callB (callIsi (K := c.K) rfl) (by rfl) T.m_isinstance (by decide +kernel) (pa_cons (pv 2) (pa_cons (pe_bty "str" rfl T.m_str (by decide +kernel)) pa_nil))) (pe_one (pe_cmpR (opIn (K := c.K) rfl) (pv 2) (pv 1) rfl))))) pa_nil))))), (rs_seq (rs_if (rt_or (rt_not (rt_B (re_cb (ro_isi T.kls) (ra_cons re_var (ra_cons (re_c (v := .ty "dict") (d := .ty "dict") fun _ => rfl) ra_nil))))) (rt_not (rt_B (re_cb ro_all (ra_cons (re_lc (ri_vals re_var) (rg_name (by decide)) rt_yes (re_cb (ro_isi T.kls) (ra_cons re_var (ra_cons (re_c fun _ => ⟨rfl, T.k_Cutter.cl⟩) ra_nil)))) ra_nil))))) (rs_ret (re_c (v := .bl false) (d := .bl false) fun _ => rfl)) rs_next) (rs_ret (re_cb ro_all (ra_cons (re_lc (ri_all re_var) (rg_name (by decide)) rt_yes (re_and (re_cb (ro_isi T.kls) (ra_cons re_var (ra_cons (re_c (v := .ty "str") (d := .ty "str") fun _ => rfl) ra_nil))) (re_op ro_in re_var re_var))) ra_nil))))⟩)
theorem gx_in_order (T : Tx P c mg ea)  : Gfx P c mg base "in_order" 1 W_in_order := by
  rw [W_in_order_eq]
  exact gfx_of T.D_in_order sc_in_order rfl rfl (fun f cdv A outer s H E hr => ⟨_, (pss_one (ps_ret (pe_frz (pe_dcA (tup := true) (own := [("key", 1)]) (g := gName 1) hr.units rfl sc_in_order.nd (piAny (K := c.K) rfl (pe_callB (callSortA (K := c.K) (w := c.w) rfl rfl rfl) (by rfl) T.m_sorted (by decide +kernel) (pa_cons (pe_callTy (callListA (K := c.K) rfl rfl) (by rfl) T.m_list (by decide +kernel) (pa_cons (pv 0) pa_nil)) pa_nil))) (blkOk_by (own := [("key", 1)]) (N := ["table", "key"]) (sc := defScope s_in_order) (by decide +kernel)) (fun _ _ _ _ _ => (pg_name (i := 1) sc_in_order.nd rfl (by first | exact Or.inl rfl | exact Or.inr rfl))) (fun _ _ _ _ _ => pts_nil) (fun _ _ _ _ _ => (pv 1)) (fun _ _ _ _ _ => (pe_dget (Nat.lt_of_le_of_lt (Nat.add_le_add_left (by decide) _) hr.units) (pv 0) (pv 1) (fun _ _ => rfl))))))), (rs_ret (re_frz (rf_dcT (ri_any (re_cb ro_sortA (ra_cons (re_cb ro_listA (ra_cons re_var ra_nil)) ra_nil))) (rg_name (by decide)) rt_yes re_var (re_dget re_var re_var))))⟩)
theorem gx_are_some (T : Tx P c mg ea) (g_is_ascending : Gfx P c mg base "is_ascending" 1 W_is_ascending) : Gfx P c mg base "are_some" 2 W_are_some := by
  rw [W_are_some_eq]
  exact gfx_of T.D_are_some sc_are_some rfl rfl (fun f cdv A outer s H E hr => ⟨_, (pss_cons (ps_if (PW.pt (pw_or (pt_not (pt_val (pe_callB (callIsi (K := c.K) rfl) (by rfl) T.m_isinstance (by decide +kernel) (pa_cons (pv 0) (pa_cons (pe_bty "tuple" rfl T.m_tuple (by decide +kernel)) pa_nil))))) (pw_or1 (pt_not (pt_val (pe_callB (callAll (K := c.K) rfl rfl) (by rfl) T.m_all (by decide +kernel) (pa_cons (pe_lc (own := [("name", 2)]) (g := gName 2) rfl sc_are_some.nd (piAny (K := c.K) rfl (pv 0)) (blkOk_by (own := [("name", 2)]) (N := ["value", "people", "name"]) (sc := defScope s_are_some) (by decide +kernel)) (fun _ _ _ _ _ => (pg_name (i := 2) sc_are_some.nd rfl (by first | exact Or.inl rfl | exact Or.inr rfl))) (fun _ _ _ _ _ => pts_nil) (fun _ _ _ _ _ => (pe_and (pe_callB (callIsi (K := c.K) rfl) (by rfl) T.m_isinstance (by decide +kernel) (pa_cons (pv 2) (pa_cons (pe_bty "str" rfl T.m_str (by decide +kernel)) pa_nil))) (pe_one (pe_cmpR (opIn (K := c.K) rfl) (pv 2) (pv 1) rfl))))) pa_nil))))))) (pss_one (ps_ret pe_bl)) pss_nil) (pss_one (ps_ret (pe_gx g_is_ascending ⟨rfl, rfl, rfl, rfl, rfl⟩ (hr.mono (by decide)) rfl (tk_some (takes_of rfl rfl rfl rfl)) (pa_cons (pv 0) pa_nil))))), (rs_seq (rs_if (rt_or (rt_not (rt_B (re_cb (ro_isi T.kls) (ra_cons re_var (ra_cons (re_c (v := .ty "tuple") (d := .ty "tuple") fun _ => rfl) ra_nil))))) (rt_not (rt_B (re_cb ro_all (ra_cons (re_lc (ri_any re_var) (rg_name (by decide)) rt_yes (re_and (re_cb (ro_isi T.kls) (ra_cons re_var (ra_cons (re_c (v := .ty "str") (d := .ty "str") fun _ => rfl) ra_nil))) (re_op ro_in re_var re_var))) ra_nil))))) (rs_ret (re_c (v := .bl false) (d := .bl false) fun _ => rfl)) rs_next) (rs_ret (re_call (ra_cons re_var ra_nil))))⟩)
theorem gx_is_pair (T : Tx P c mg ea)  : Gfx P c mg base "is_pair" 1 W_is_pair := by
  rw [W_is_pair_eq]
  exact gfx_of T.D_is_pair sc_is_pair rfl rfl (fun f cdv A outer s H E hr => ⟨_, (pss_cons (ps_if (PW.pt (pw_or (pt_not (pt_val (pe_callB (callIsi (K := c.K) rfl) (by rfl) T.m_isinstance (by decide +kernel) (pa_cons (pv 0) (pa_cons (pe_bty "tuple" rfl T.m_tuple (by decide +kernel)) pa_nil))))) (pw_or1 (pt_cmpR (opNe (K := c.K) rfl hr.units) (pe_callB (callLen (K := c.K) rfl) (by rfl) T.m_len (by decide +kernel) (pa_cons (pv 0) pa_nil)) pe_int (nomark _))))) (pss_one (ps_ret pe_bl)) pss_nil) (pss_one (ps_ret (pe_callB (callAll (K := c.K) rfl rfl) (by rfl) T.m_all (by decide +kernel) (pa_cons (pe_lc (own := [("name", 2)]) (g := gName 2) rfl sc_is_pair.nd (piAny (K := c.K) rfl (pv 0)) (blkOk_by (own := [("name", 2)]) (N := ["value", "people", "name"]) (sc := defScope s_is_pair) (by decide +kernel)) (fun _ _ _ _ _ => (pg_name (i := 2) sc_is_pair.nd rfl (by first | exact Or.inl rfl | exact Or.inr rfl))) (fun _ _ _ _ _ => pts_nil) (fun _ _ _ _ _ => (pe_and (pe_callB (callIsi (K := c.K) rfl) (by rfl) T.m_isinstance (by decide +kernel) (pa_cons (pv 2) (pa_cons (pe_bty "str" rfl T.m_str (by decide +kernel)) pa_nil))) (pe_one (pe_cmpR (opIn (K := c.K) rfl) (pv 2) (pv 1) rfl))))) pa_nil))))), (rs_seq (rs_if (rt_or (rt_not (rt_B (re_cb (ro_isi T.kls) (ra_cons re_var (ra_cons (re_c (v := .ty "tuple") (d := .ty "tuple") fun _ => rfl) ra_nil))))) (rt_test (re_op ro_ne (re_cb ro_len (ra_cons re_var ra_nil)) (re_c (v := .int 2) (d := .int 2) fun _ => rfl)))) (rs_ret (re_c (v := .bl false) (d := .bl false) fun _ => rfl)) rs_next) (rs_ret (re_cb ro_all (ra_cons (re_lc (ri_any re_var) (rg_name (by decide)) rt_yes (re_and (re_cb (ro_isi T.kls) (ra_cons re_var (ra_cons (re_c (v := .ty "str") (d := .ty "str") fun _ => rfl) ra_nil))) (re_op ro_in re_var re_var))) ra_nil))))⟩)
theorem gx_is_turn (T : Tx P c mg ea)  : Gfx P c mg base "is_turn" 1 W_is_turn := by
  rw [W_is_turn_eq]
  exact gfx_of T.D_is_turn sc_is_turn rfl rfl (fun f cdv A outer s H E hr => ⟨_, (pss_cons (ps_if (PW.pt (pw_or (pt_not (pt_val (pe_callB (callIsi (K := c.K) rfl) (by rfl) T.m_isinstance (by decide +kernel) (pa_cons (pv 0) (pa_cons (pe_bty "tuple" rfl T.m_tuple (by decide +kernel)) pa_nil))))) (pw_or1 (pt_cmpR (opNe (K := c.K) rfl hr.units) (pe_callB (callLen (K := c.K) rfl) (by rfl) T.m_len (by decide +kernel) (pa_cons (pv 0) pa_nil)) pe_int (nomark _))))) (pss_one (ps_ret pe_bl)) pss_nil) (pss_cons (ps_asg (pv 0) (pgTup (K := c.K) (n := 3) rfl rfl (pgs_cons (pg_name (i := 1) sc_is_turn.nd rfl (by first | exact Or.inl rfl | exact Or.inr rfl)) (pgs_cons (pg_name (i := 2) sc_is_turn.nd rfl (by first | exact Or.inl rfl | exact Or.inr rfl)) (pgs_cons (pg_name (i := 3) sc_is_turn.nd rfl (by first | exact Or.inl rfl | exact Or.inr rfl)) pgs_nil))))) (pss_one (ps_ret (pe_and (pe_callB (callIsi (K := c.K) rfl) (by rfl) T.m_isinstance (by decide +kernel) (pa_cons (pv 1) (pa_cons (pe_cl rfl T.k_Cutter.m) pa_nil))) (pe_and (pe_callB (callIsi (K := c.K) rfl) (by rfl) T.m_isinstance (by decide +kernel) (pa_cons (pv 2) (pa_cons (pe_bty "bool" rfl T.m_bool (by decide +kernel)) pa_nil))) (pe_one (pe_callB (callIsi (K := c.K) rfl) (by rfl) T.m_isinstance (by decide +kernel) (pa_cons (pv 3) (pa_cons (pe_cl rfl T.k_Cutter.m) pa_nil)))))))))), (rs_seq (rs_if (rt_or (rt_not (rt_B (re_cb (ro_isi T.kls) (ra_cons re_var (ra_cons (re_c (v := .ty "tuple") (d := .ty "tuple") fun _ => rfl) ra_nil))))) (rt_test (re_op ro_ne (re_cb ro_len (ra_cons re_var ra_nil)) (re_c (v := .int 3) (d := .int 3) fun _ => rfl)))) (rs_ret (re_c (v := .bl false) (d := .bl false) fun _ => rfl)) rs_next) (rs_seq (rs_asg re_var (rl_tup (rls_cons rl_name (rls_cons rl_name (rls_cons rl_name rls_nil))))) (rs_ret (re_and (re_cb (ro_isi T.kls) (ra_cons re_var (ra_cons (re_c fun _ => ⟨rfl, T.k_Cutter.cl⟩) ra_nil))) (re_and (re_cb (ro_isi T.kls) (ra_cons re_var (ra_cons (re_c (v := .ty "bool") (d := .ty "bool") fun _ => rfl) ra_nil))) (re_cb (ro_isi T.kls) (ra_cons re_var (ra_cons (re_c fun _ => ⟨rfl, T.k_Cutter.cl⟩) ra_nil))))))))⟩)
theorem gx_are_turns (T : Tx P c mg ea) (g_is_pair : Gfx P c mg base "is_pair" 1 W_is_pair) (g_is_turn : Gfx P c mg base "is_turn" 1 W_is_turn) : Gfx P c mg base "are_turns" 2 W_are_turns := by
  rw [W_are_turns_eq]
  exact gfx_of T.D_are_turns sc_are_turns rfl rfl (fun f cdv A outer s H E hr => ⟨_, (pss_cons (ps_if (pt_not (pt_val (pe_callB (callIsi (K := c.K) rfl) (by rfl) T.m_isinstance (by decide +kernel) (pa_cons (pv 0) (pa_cons (pe_bty "dict" rfl T.m_dict (by decide +kernel)) pa_nil))))) (pss_one (ps_ret pe_bl)) pss_nil) (pss_one (ps_ret (pe_callB (callAll (K := c.K) rfl rfl) (by rfl) T.m_all (by decide +kernel) (pa_cons (pe_lc (own := [("pair", 2), ("turn", 3)]) rfl sc_are_turns.nd (pi_itemsA (pv 0)) (blkOk_by (own := [("pair", 2), ("turn", 3)]) (N := ["value", "people", "pair", "turn"]) (sc := defScope s_are_turns) (by decide +kernel)) (fun _ _ _ _ _ => (pgTup (K := c.K) (n := 2) rfl rfl (pgs_cons (pg_name (i := 2) sc_are_turns.nd rfl (by first | exact Or.inl rfl | exact Or.inr rfl)) (pgs_cons (pg_name (i := 3) sc_are_turns.nd rfl (by first | exact Or.inl rfl | exact Or.inr rfl)) pgs_nil)))) (fun _ _ _ _ _ => pts_nil) (fun _ _ _ _ _ => (pe_and (pe_gx g_is_pair ⟨rfl, rfl, rfl, rfl, rfl⟩ (hr.mono (by decide)) rfl tk_none (pa_cons (pv 2) (pa_cons (pv 1) pa_nil))) (pe_one (pe_gx g_is_turn ⟨rfl, rfl, rfl, rfl, rfl⟩ (hr.mono (by decide)) rfl tk_none (pa_cons (pv 3) pa_nil)))))) pa_nil))))), (rs_seq (rs_if (rt_not (rt_B (re_cb (ro_isi T.kls) (ra_cons re_var (ra_cons (re_c (v := .ty "dict") (d := .ty "dict") fun _ => rfl) ra_nil))))) (rs_ret (re_c (v := .bl false) (d := .bl false) fun _ => rfl)) rs_next) (rs_ret (re_cb ro_all (ra_cons (re_lc (ri_items re_var) (rg_tup (rgs_cons (rg_name (by decide)) (rgs_cons (rg_name (by decide)) rgs_nil))) rt_yes (re_and (re_call (ra_cons re_var (ra_cons re_var ra_nil))) (re_call (ra_cons re_var ra_nil)))) ra_nil))))⟩)
theorem gx_Company___init__ (T : Tx P c mg ea) (g_Cutter___init__ : Gix P c mg base 3 21 ea.f_Cutter___init__ W_Cutter___init__) (g_are_people : Gfx P c mg base "are_people" 2 W_are_people) (g_are_copies : Gfx P c mg base "are_copies" 1 W_are_copies) (g_in_order : Gfx P c mg base "in_order" 1 W_in_order) (g_are_some : Gfx P c mg base "are_some" 2 W_are_some) (g_are_turns : Gfx P c mg base "are_turns" 2 W_are_turns) : Goi P c mg base 5 22 ea.f_Company___init__ "__init__" "Company.__init__" s_Company___init__ ["self", "people", "answers", "takings", "starts", "copies"] [("takings", .non), ("starts", .non), ("copies", .non)] W_Company___init__ := by
  rw [W_Company___init___eq]
  exact goi_of sc_Company___init__ T.k_Company.cl rfl rfl (fun cdv A outer s H E hr => ⟨_, (pss_cons (ps_if (pt_not (pt_val (pe_gx g_are_people ⟨rfl, rfl, rfl, rfl, rfl⟩ (hr.mono (by decide)) rfl (tk_some (takes_of rfl rfl rfl rfl)) (pa_cons (pv 1) pa_nil)))) (pss_one (ps_raise0 PySem.F.excBase_ValueError T.x_InvalidCompany.xi T.x_InvalidCompany.m T.x_InvalidCompany.kp (raises_own T.x_InvalidCompany.sb T.x_InvalidCompany.ty) rfl (takes_of rfl rfl rfl rfl) rfl)) pss_nil) (pss_cons (ps_set (i := 6) sc_Company___init__.nd rfl (by first | exact Or.inl rfl | exact Or.inr rfl) (pe_lst (pa_cons (pv 2) (pa_cons (pe_ifExp (pt_cmpR opIs (pv 3) pe_non (nomark _)) (pe_frz pe_dnewK) (pv 3)) pa_nil)))) (pss_cons (ps_if (pt_not (pt_val (pe_callB (callAll (K := c.K) rfl rfl) (by rfl) T.m_all (by decide +kernel) (pa_cons (pe_lc (own := [("table", 8)]) (g := gName 8) rfl sc_Company___init__.nd (piAny (K := c.K) rfl (pv 6)) (blkOk_by (own := [("table", 8)]) (N := ["self", "people", "answers", "takings", "starts", "copies", "turns", "cuts", "table", "name"]) (sc := defScope s_Company___init__) (by decide +kernel)) (fun _ _ _ _ _ => (pg_name (i := 8) sc_Company___init__.nd rfl (by first | exact Or.inl rfl | exact Or.inr rfl))) (fun _ _ _ _ _ => pts_nil) (fun _ _ _ _ _ => (pe_gx g_are_turns ⟨rfl, rfl, rfl, rfl, rfl⟩ (hr.mono (by decide)) rfl tk_none (pa_cons (pv 8) (pa_cons (pv 1) pa_nil))))) pa_nil)))) (pss_one (ps_raise0 PySem.F.excBase_ValueError T.x_InvalidCompany.xi T.x_InvalidCompany.m T.x_InvalidCompany.kp (raises_own T.x_InvalidCompany.sb T.x_InvalidCompany.ty) rfl (takes_of rfl rfl rfl rfl) rfl)) pss_nil) (pss_cons (ps_if (PW.pt (pw_and (pt_cmpR opIsNot (pv 4) pe_non (nomark _)) (pw_and1 (pt_not (pt_val (pe_gx g_are_some ⟨rfl, rfl, rfl, rfl, rfl⟩ (hr.mono (by decide)) rfl (tk_some (takes_of rfl rfl rfl rfl)) (pa_cons (pv 4) (pa_cons (pv 1) pa_nil)))))))) (pss_one (ps_raise0 PySem.F.excBase_ValueError T.x_InvalidCompany.xi T.x_InvalidCompany.m T.x_InvalidCompany.kp (raises_own T.x_InvalidCompany.sb T.x_InvalidCompany.ty) rfl (takes_of rfl rfl rfl rfl) rfl)) pss_nil) (pss_cons (ps_set (i := 7) sc_Company___init__.nd rfl (by first | exact Or.inl rfl | exact Or.inr rfl) (pe_ifExp (pt_cmpR opIs (pv 5) pe_non (nomark _)) (pe_frz pe_dnewK) (pv 5))) (pss_cons (ps_if (pt_not (pt_val (pe_gx g_are_copies ⟨rfl, rfl, rfl, rfl, rfl⟩ (hr.mono (by decide)) rfl (tk_some (takes_of rfl rfl rfl rfl)) (pa_cons (pv 7) (pa_cons (pv 1) pa_nil))))) (pss_one (ps_raise0 PySem.F.excBase_ValueError T.x_InvalidCompany.xi T.x_InvalidCompany.m T.x_InvalidCompany.kp (raises_own T.x_InvalidCompany.sb T.x_InvalidCompany.ty) rfl (takes_of rfl rfl rfl rfl) rfl)) pss_nil) (pss_cons (psFld (K := c.K) rfl (pv 0) (pv 1)) (pss_cons (ps_asg (pe_lc (own := [("table", 8)]) (g := gName 8) rfl sc_Company___init__.nd (piAny (K := c.K) rfl (pv 6)) (blkOk_by (own := [("table", 8)]) (N := ["self", "people", "answers", "takings", "starts", "copies", "turns", "cuts", "table", "name"]) (sc := defScope s_Company___init__) (by decide +kernel)) (fun _ _ _ _ _ => (pg_name (i := 8) sc_Company___init__.nd rfl (by first | exact Or.inl rfl | exact Or.inr rfl))) (fun _ _ _ _ _ => pts_nil) (fun _ _ _ _ _ => (pe_gx g_in_order ⟨rfl, rfl, rfl, rfl, rfl⟩ (hr.mono (by decide)) rfl tk_none (pa_cons (pv 8) pa_nil)))) (pgUnl (K := c.K) (n := 2) rfl rfl (pgs_cons (pgFld (K := c.K) rfl (pv 0)) (pgs_cons (pgFld (K := c.K) rfl (pv 0)) pgs_nil)))) (pss_cons (psFld (K := c.K) rfl (pv 0) (pe_ifExp (pt_cmpR opIs (pv 4) pe_non (nomark _)) (pv 1) (pv 4))) (pss_one (psFld (K := c.K) rfl (pv 0) (pe_frz (pe_dcA (tup := false) (own := [("name", 9)]) (g := gName 9) hr.units rfl sc_Company___init__.nd (piAny (K := c.K) rfl (pv 1)) (blkOk_by (own := [("name", 9)]) (N := ["self", "people", "answers", "takings", "starts", "copies", "turns", "cuts", "table", "name"]) (sc := defScope s_Company___init__) (by decide +kernel)) (fun _ _ _ _ _ => (pg_name (i := 9) sc_Company___init__.nd rfl (by first | exact Or.inl rfl | exact Or.inr rfl))) (fun _ _ _ _ _ => pts_nil) (fun _ _ _ _ _ => (pv 9)) (fun _ _ _ _ _ => (pe_dget2 (Nat.lt_of_le_of_lt (Nat.add_le_add_left (by decide) _) hr.units) (pv 7) (pv 9) (pe_mk0 T.mk_Cutter g_Cutter___init__ ⟨rfl, rfl, rfl, rfl, rfl⟩ (hr.mono (by decide)) rfl tk_none) ⟨rfl, rfl, rfl, rfl⟩))))))))))))))), fun me => (rs_seq (rs_if (rt_not (rt_B (re_call (ra_cons re_var ra_nil)))) rs_raise0 rs_next) (rs_seq (rs_asg (re_lst (ra_cons re_var (ra_cons (re_if (rt_test (re_op ro_is re_var (re_c (v := .non) (d := .non) fun _ => rfl))) re_dnew re_var) ra_nil))) rl_name) (rs_seq (rs_if (rt_not (rt_B (re_cb ro_all (ra_cons (re_lc (ri_any re_var) (rg_name (by decide)) rt_yes (re_call (ra_cons re_var (ra_cons re_var ra_nil)))) ra_nil)))) rs_raise0 rs_next) (rs_seq (rs_if (rt_and (rt_test (re_op ro_isnt re_var (re_c (v := .non) (d := .non) fun _ => rfl))) (rt_not (rt_B (re_call (ra_cons re_var (ra_cons re_var ra_nil)))))) rs_raise0 rs_next) (rs_seq (rs_asg (re_if (rt_test (re_op ro_is re_var (re_c (v := .non) (d := .non) fun _ => rfl))) re_dnew re_var) rl_name) (rs_seq (rs_if (rt_not (rt_B (re_call (ra_cons re_var (ra_cons re_var ra_nil))))) rs_raise0 rs_next) (rs_seq (rs_sfld T.kls (nof_cons T.n_Company_own_people nof_nil) re_var) (rs_seq (rs_sflds (fs := ["own_answers", "own_takings"]) T.kls (fun f hf => by
    simp only [List.mem_cons, List.not_mem_nil, or_false] at hf
    rcases hf with rfl | rfl
    · exact (nof_cons T.n_Company_own_answers nof_nil)
    · exact (nof_cons T.n_Company_own_takings nof_nil)) rfl (re_lc (ri_any re_var) (rg_name (by decide)) rt_yes (re_call (ra_cons re_var ra_nil)))) (rs_seq (rs_sfld T.kls (nof_cons T.n_Company_own_starts nof_nil) (re_if (rt_test (re_op ro_is re_var (re_c (v := .non) (d := .non) fun _ => rfl))) re_var re_var)) (rs_sfld T.kls (nof_cons T.n_Company_own_copies nof_nil) (re_frz (rf_dc (ri_any re_var) (rg_name (by decide)) rt_yes re_var (re_dget2 re_var re_var (re_make ra_nil))))))))))))))⟩)
theorem gx_Company___init___k2_copies (T : Tx P c mg ea) (g_Cutter___init__ : Gix P c mg base 3 21 ea.f_Cutter___init__ W_Cutter___init__) (g_are_people : Gfx P c mg base "are_people" 2 W_are_people) (g_are_copies : Gfx P c mg base "are_copies" 1 W_are_copies) (g_in_order : Gfx P c mg base "in_order" 1 W_in_order) (g_are_some : Gfx P c mg base "are_some" 2 W_are_some) (g_are_turns : Gfx P c mg base "are_turns" 2 W_are_turns) : Gkx P c mg base 5 22 ea.f_Company___init__ 2 ["copies"] (kwI 2 1 [(false, 0), (false, 1), (true, 0)] [.non, .non] W_Company___init__) :=
  gkx_of (m := 1) T.D_Company___init__ List.mem_cons_self (fun _ => ⟨_, _, rfl, rfl, ⟨_, _, rfl, rfl, rfl⟩⟩) (gx_Company___init__ T g_Cutter___init__ g_are_people g_are_copies g_in_order g_are_some g_are_turns)
theorem gx_require_company (T : Tx P c mg ea)  : Gfx P c mg base "require_company" 1 W_require_company := by
  rw [W_require_company_eq]
  exact gfx_of T.D_require_company sc_require_company rfl rfl (fun f cdv A outer s H E hr => ⟨_, (pss_one (ps_if (pt_not (pt_val (pe_callB (callIsi (K := c.K) rfl) (by rfl) T.m_isinstance (by decide +kernel) (pa_cons (pv 0) (pa_cons (pe_cl rfl T.k_Company.m) pa_nil))))) (pss_one (ps_raise0 PySem.F.excBase_ValueError T.x_InvalidCompany.xi T.x_InvalidCompany.m T.x_InvalidCompany.kp (raises_own T.x_InvalidCompany.sb T.x_InvalidCompany.ty) rfl (takes_of rfl rfl rfl rfl) rfl)) pss_nil)), (rs_if (rt_not (rt_B (re_cb (ro_isi T.kls) (ra_cons re_var (ra_cons (re_c fun _ => ⟨rfl, T.k_Company.cl⟩) ra_nil))))) rs_raise0 rs_next)⟩)
theorem gx_turn_behind (T : Tx P c mg ea)  : Gfx P c mg base "turn_behind" 1 W_turn_behind := by
  rw [W_turn_behind_eq]
  exact gfx_of T.D_turn_behind sc_turn_behind rfl rfl (fun f cdv A outer s H E hr => ⟨_, (pss_cons (ps_asg (pv 2) (pgTup (K := c.K) (n := 3) rfl rfl (pgs_cons (pg_name (i := 4) sc_turn_behind.nd rfl (by first | exact Or.inl rfl | exact Or.inr rfl)) (pgs_cons (pg_name (i := 5) sc_turn_behind.nd rfl (by first | exact Or.inl rfl | exact Or.inr rfl)) (pgs_cons (pg_name (i := 6) sc_turn_behind.nd rfl (by first | exact Or.inl rfl | exact Or.inr rfl)) pgs_nil))))) (pss_cons (ps_set (i := 3) sc_turn_behind.nd rfl (by first | exact Or.inl rfl | exact Or.inr rfl) (pe_ifExp (pt_val (pv 6)) (peFld (K := c.K) rfl (pv 0)) (peFld (K := c.K) rfl (pv 0)))) (pss_one (ps_ret (pe_dget1 (Nat.lt_of_le_of_lt (Nat.add_le_add_left (by decide) _) hr.units) (pv 3) (pe_tup (pa_cons (pe_ix (ixA (K := c.K) rfl) (pe_ix (ixA (K := c.K) rfl) (pv 1) (pv 5) (fun _ _ => rfl)) pe_int (fun _ _ => rfl)) (pa_cons (pv 4) pa_nil))) ⟨rfl, rfl, rfl, rfl⟩))))), (rs_seq (rs_asg re_var (rl_tup (rls_cons rl_name (rls_cons rl_name (rls_cons rl_name rls_nil))))) (rs_seq (rs_asg (re_if (rt_B re_var) (re_fld T.kls (nof_cons T.n_Company_own_takings nof_nil) re_var) (re_fld T.kls (nof_cons T.n_Company_own_answers nof_nil) re_var)) rl_name) (rs_ret (re_dget1 re_var (re_tup (ra_cons (re_op ro_ix (re_op ro_ix re_var re_var) (re_c (v := .int 0) (d := .int 0) fun _ => rfl)) (ra_cons re_var ra_nil)))))))⟩)
theorem gx_kept_places (T : Tx P c mg ea)  : Gfx P c mg base "kept_places" 1 W_kept_places := by
  rw [W_kept_places_eq]
  exact gfx_of T.D_kept_places sc_kept_places rfl rfl (fun f cdv A outer s H E hr => ⟨_, (pss_cons (ps_if (pt_cmpR op_le (pv 1) (pe_g rfl T.g_FEW) (nomark _)) (pss_one (ps_ret (pe_ix (ixA (K := c.K) rfl) (peFld (K := c.K) rfl (pv 0)) (pv 1) (fun _ _ => rfl)))) pss_nil) (pss_cons (ps_if (pt_val (peFld (K := c.K) rfl (pv 0))) (pss_one (ps_ret (pe_tupRg rfl (by rfl) T.m_tuple (prg_1 (by rfl) T.m_range (pv 1))))) pss_nil) (pss_one (ps_ret (pe_callTy (callTuple (K := c.K) rfl) (by rfl) T.m_tuple (by decide +kernel) (pa_cons (pe_lc (own := [("place", 2)]) (g := gName 2) rfl sc_kept_places.nd (piAny (K := c.K) rfl (pe_ix (ixA (K := c.K) rfl) (peFld (K := c.K) rfl (pv 0)) (pe_g rfl T.g_FEW) (fun _ _ => rfl))) (blkOk_by (own := [("place", 2)]) (N := ["cutter", "many", "place"]) (sc := defScope s_kept_places) (by decide +kernel)) (fun _ _ _ _ _ => (pg_name (i := 2) sc_kept_places.nd rfl (by first | exact Or.inl rfl | exact Or.inr rfl))) (fun _ _ _ _ _ => pts_nil) (fun _ _ _ _ _ => (pe_ifExp (pt_cmpR op_lt (pv 2) (pe_g rfl T.g_MOST_FRONT) (nomark _)) (pv 2) (pe_op (opAdd (K := c.K) rfl) (pe_op op_sub (pv 1) (pe_g rfl T.g_FEW)) (pv 2))))) pa_nil)))))), (rs_seq (rs_if (rt_test (re_op ro_cmp re_var (re_c (v := .int 5) (d := .int 5) fun _ => rfl))) (rs_ret (re_op ro_ix (re_fld T.kls (nof_cons T.n_Cutter_own_tables nof_nil) re_var) re_var)) rs_next) (rs_seq (rs_if (rt_B (re_fld T.kls (nof_cons T.n_Cutter_own_is_whole nof_nil) re_var)) (rs_ret (re_rgT re_var)) rs_next) (rs_ret (re_cb ro_tup (ra_cons (re_lc (ri_any (re_op ro_ix (re_fld T.kls (nof_cons T.n_Cutter_own_tables nof_nil) re_var) (re_c (v := .int 5) (d := .int 5) fun _ => rfl))) (rg_name (by decide)) rt_yes (re_if (rt_test (re_op ro_cmp re_var (re_c (v := .int 2) (d := .int 2) fun _ => rfl))) re_var (re_op ro_add (re_op ro_sub re_var (re_c (v := .int 5) (d := .int 5) fun _ => rfl)) re_var))) ra_nil)))))⟩)
theorem gx_cut (T : Tx P c mg ea) (g_kept_places : Gfx P c mg base "kept_places" 1 W_kept_places) : Gfx P c mg base "cut" 2 W_cut := by
  rw [W_cut_eq]
  exact gfx_of T.D_cut sc_cut rfl rfl (fun f cdv A outer s H E hr => ⟨_, (pss_one (ps_ret (pe_callTy (callTuple (K := c.K) rfl) (by rfl) T.m_tuple (by decide +kernel) (pa_cons (pe_lc (own := [("place", 2)]) (g := gName 2) rfl sc_cut.nd (piAny (K := c.K) rfl (pe_gx g_kept_places ⟨rfl, rfl, rfl, rfl, rfl⟩ (hr.mono (by decide)) rfl (tk_some (takes_of rfl rfl rfl rfl)) (pa_cons (pv 0) (pa_cons (pe_callB (callLen (K := c.K) rfl) (by rfl) T.m_len (by decide +kernel) (pa_cons (pv 1) pa_nil)) pa_nil)))) (blkOk_by (own := [("place", 2)]) (N := ["cutter", "row", "place"]) (sc := defScope s_cut) (by decide +kernel)) (fun _ _ _ _ _ => (pg_name (i := 2) sc_cut.nd rfl (by first | exact Or.inl rfl | exact Or.inr rfl))) (fun _ _ _ _ _ => pts_nil) (fun _ _ _ _ _ => (pe_ix (ixA (K := c.K) rfl) (pv 1) (pv 2) (fun _ _ => rfl)))) pa_nil)))), (rs_ret (re_cb ro_tup (ra_cons (re_lc (ri_any (re_call (ra_cons re_var (ra_cons (re_cb ro_len (ra_cons re_var ra_nil)) ra_nil)))) (rg_name (by decide)) rt_yes (re_op ro_ix re_var re_var)) ra_nil)))⟩)
theorem gx_lists_in (T : Tx P c mg ea) (g_turn_behind : Gfx P c mg base "turn_behind" 1 W_turn_behind) (g_cut : Gfx P c mg base "cut" 2 W_cut) : Gfx P c mg base "lists_in" 3 W_lists_in := by
  rw [W_lists_in_eq]
  exact gfx_of T.D_lists_in sc_lists_in rfl rfl (fun f cdv A outer s H E hr => ⟨_, (pss_cons (ps_set (i := 2) sc_lists_in.nd rfl (by first | exact Or.inl rfl | exact Or.inr rfl) (pe_lst pa_nil)) (pss_cons (ps_for (passes_of rfl) rfl (piAny (K := c.K) rfl (pv 1)) (pg_name (i := 3) sc_lists_in.nd rfl (by first | exact Or.inl rfl | exact Or.inr rfl)) (pss_cons (ps_if (pt_cmpR opIs (pe_ix (ixA (K := c.K) rfl) (pv 3) pe_int (fun _ _ => rfl)) pe_non (nomark _)) (pss_cons (ps_expr (peBm (K := c.K) rfl PySem.F.plainAttrs_list PySem.F.slot_list_append PySem.F.type_list_append mt_append (pv 2) (pa_cons (pe_tup pa_nil) pa_nil))) (pss_one ps_continue)) pss_nil) (pss_cons (ps_asg (pe_gx g_turn_behind ⟨rfl, rfl, rfl, rfl, rfl⟩ (hr.mono (by decide)) rfl (tk_some (takes_of rfl rfl rfl rfl)) (pa_cons (pv 0) (pa_cons (pv 1) (pa_cons (pv 3) pa_nil)))) (pgTup (K := c.K) (n := 3) rfl rfl (pgs_cons (pg_name (i := 5) sc_lists_in.nd rfl (by first | exact Or.inl rfl | exact Or.inr rfl)) (pgs_cons (pg_name (i := 6) sc_lists_in.nd rfl (by first | exact Or.inl rfl | exact Or.inr rfl)) (pgs_cons (pg_name (i := 7) sc_lists_in.nd rfl (by first | exact Or.inl rfl | exact Or.inr rfl)) pgs_nil))))) (pss_cons (ps_set (i := 4) sc_lists_in.nd rfl (by first | exact Or.inl rfl | exact Or.inr rfl) (pe_gx g_cut ⟨rfl, rfl, rfl, rfl, rfl⟩ (hr.mono (by decide)) rfl (tk_some (takes_of rfl rfl rfl rfl)) (pa_cons (pv 5) (pa_cons (pe_ix (ixA (K := c.K) rfl) (pv 2) (pe_ix (ixA (K := c.K) rfl) (pv 3) pe_int (fun _ _ => rfl)) (fun _ _ => rfl)) pa_nil)))) (pss_one (ps_expr (peBm (K := c.K) rfl PySem.F.plainAttrs_list PySem.F.slot_list_append PySem.F.type_list_append mt_append (pv 2) (pa_cons (pe_gx g_cut ⟨rfl, rfl, rfl, rfl, rfl⟩ (hr.mono (by decide)) rfl (tk_some (takes_of rfl rfl rfl rfl)) (pa_cons (pv 7) (pa_cons (pe_ifExp (pt_val (pv 6)) (pe_tup (paStar (K := c.K) rfl (pv 4) (pa_cons (pe_ix (ixA (K := c.K) rfl) (pv 3) pe_int (fun _ _ => rfl)) pa_nil))) (pv 4)) pa_nil))) pa_nil)))))))) (pss_one (ps_ret (pe_callTy (callTuple (K := c.K) rfl) (by rfl) T.m_tuple (by decide +kernel) (pa_cons (pv 2) pa_nil)))))), (rs_seq (rs_newL ra_nil) (rs_seq (rs_for (ri_any re_var) rl_name (rs_seq (rs_if (rt_test (re_op ro_is (re_op ro_ix re_var (re_c (v := .int 1) (d := .int 1) fun _ => rfl)) (re_c (v := .non) (d := .non) fun _ => rfl))) (rs_seq (rs_append (ra_cons (re_tup ra_nil) ra_nil)) rs_cnt) rs_next) (rs_seq (rs_asg (re_call (ra_cons re_var (ra_cons re_var (ra_cons re_var ra_nil)))) (rl_tup (rls_cons rl_name (rls_cons rl_name (rls_cons rl_name rls_nil))))) (rs_seq (rs_asg (re_call (ra_cons re_var (ra_cons (re_ixO (re_op ro_ix re_var (re_c (v := .int 1) (d := .int 1) fun _ => rfl))) ra_nil))) rl_name) (rs_append (ra_cons (re_call (ra_cons re_var (ra_cons (re_if (rt_B re_var) (re_tup (ra_star re_var (ra_cons (re_op ro_ix re_var (re_c (v := .int 1) (d := .int 1) fun _ => rfl)) ra_nil))) re_var) ra_nil))) ra_nil)))))) (rs_tell (rs_ret (re_cb ro_tup (ra_cons re_var ra_nil))))))⟩)
theorem gx_talks_in (T : Tx P c mg ea)  : Gfx P c mg base "talks_in" 1 W_talks_in := by
  rw [W_talks_in_eq]
  exact gfx_of T.D_talks_in sc_talks_in rfl rfl (fun f cdv A outer s H E hr => ⟨_, (pss_cons (ps_set (i := 1) sc_talks_in.nd rfl (by first | exact Or.inl rfl | exact Or.inr rfl) (pe_lst pa_nil)) (pss_cons (ps_for (passes_of rfl) rfl (pi_enumT (K := c.K) rfl (by rfl) T.m_enumerate (pa_cons (pv 0) pa_nil)) (pgTup (K := c.K) (n := 2) rfl rfl (pgs_cons (pg_name (i := 2) sc_talks_in.nd rfl (by first | exact Or.inl rfl | exact Or.inr rfl)) (pgs_cons (pgTup (K := c.K) (n := 3) rfl rfl (pgs_cons (pg_name (i := 3) sc_talks_in.nd rfl (by first | exact Or.inl rfl | exact Or.inr rfl)) (pgs_cons (pg_name (i := 4) sc_talks_in.nd rfl (by first | exact Or.inl rfl | exact Or.inr rfl)) (pgs_cons (pg_name (i := 5) sc_talks_in.nd rfl (by first | exact Or.inl rfl | exact Or.inr rfl)) pgs_nil)))) pgs_nil))) (pss_one (ps_expr (peBm (K := c.K) rfl PySem.F.plainAttrs_list PySem.F.slot_list_append PySem.F.type_list_append mt_append (pv 1) (pa_cons (pe_ifExp (pt_val (pv 5)) (pv 2) (pe_ix (ixA (K := c.K) rfl) (pv 1) (pv 4) (fun _ _ => rfl))) pa_nil))))) (pss_one (ps_ret (pe_callTy (callTuple (K := c.K) rfl) (by rfl) T.m_tuple (by decide +kernel) (pa_cons (pv 1) pa_nil)))))), (rs_seq (rs_newL ra_nil) (rs_seq (rs_for (ri_enumT (ra_cons re_var ra_nil)) (rl_tup (rls_cons rl_name (rls_cons (rl_tup (rls_cons rl_name (rls_cons rl_name (rls_cons rl_name rls_nil)))) rls_nil))) (rs_append (ra_cons (re_if (rt_B re_var) re_var (re_ixO re_var)) ra_nil))) (rs_tell (rs_ret (re_cb ro_tup (ra_cons re_var ra_nil))))))⟩)
theorem gx_is_integer (T : Tx P c mg ea)  : Gfx P c mg base "is_integer" 1 W_is_integer := by
  rw [W_is_integer_eq]
  exact gfx_of T.D_is_integer sc_is_integer rfl rfl (fun f cdv A outer s H E hr => ⟨_, (pss_one (ps_ret (pe_and (pe_callB (callIsi (K := c.K) rfl) (by rfl) T.m_isinstance (by decide +kernel) (pa_cons (pv 0) (pa_cons (pe_bty "int" rfl T.m_int (by decide +kernel)) pa_nil))) (pe_one (pe_not (pe_callB (callIsi (K := c.K) rfl) (by rfl) T.m_isinstance (by decide +kernel) (pa_cons (pv 0) (pa_cons (pe_bty "bool" rfl T.m_bool (by decide +kernel)) pa_nil)))))))), (rs_ret (re_and (re_cb (ro_isi T.kls) (ra_cons re_var (ra_cons (re_c (v := .ty "int") (d := .ty "int") fun _ => rfl) ra_nil))) (re_not (re_cb (ro_isi T.kls) (ra_cons re_var (ra_cons (re_c (v := .ty "bool") (d := .ty "bool") fun _ => rfl) ra_nil))))))⟩)
theorem gx_is_letter (T : Tx P c mg ea) (g_turn_behind : Gfx P c mg base "turn_behind" 1 W_turn_behind) (g_is_integer : Gfx P c mg base "is_integer" 1 W_is_integer) : Gfx P c mg base "is_letter" 2 W_is_letter := by
  rw [W_is_letter_eq]
  exact gfx_of T.D_is_letter sc_is_letter rfl rfl (fun f cdv A outer s H E hr => ⟨_, (pss_cons (ps_if (PW.pt (pw_or (pt_not (pt_val (pe_callB (callIsi (K := c.K) rfl) (by rfl) T.m_isinstance (by decide +kernel) (pa_cons (pv 2) (pa_cons (pe_bty "tuple" rfl T.m_tuple (by decide +kernel)) pa_nil))))) (pw_or1 (pt_cmpR (opNe (K := c.K) rfl hr.units) (pe_callB (callLen (K := c.K) rfl) (by rfl) T.m_len (by decide +kernel) (pa_cons (pv 2) pa_nil)) pe_int (nomark _))))) (pss_one (ps_ret pe_bl)) pss_nil) (pss_cons (ps_asg (pv 2) (pgTup (K := c.K) (n := 3) rfl rfl (pgs_cons (pg_name (i := 3) sc_is_letter.nd rfl (by first | exact Or.inl rfl | exact Or.inr rfl)) (pgs_cons (pg_name (i := 4) sc_is_letter.nd rfl (by first | exact Or.inl rfl | exact Or.inr rfl)) (pgs_cons (pg_name (i := 5) sc_is_letter.nd rfl (by first | exact Or.inl rfl | exact Or.inr rfl)) pgs_nil))))) (pss_cons (ps_if (PW.pt (pw_or (pt_not (pt_val (pe_callB (callIsi (K := c.K) rfl) (by rfl) T.m_isinstance (by decide +kernel) (pa_cons (pv 3) (pa_cons (pe_bty "str" rfl T.m_str (by decide +kernel)) pa_nil))))) (pw_or (pt_cmpR (opNotIn (K := c.K) rfl) (pv 3) (peFld (K := c.K) rfl (pv 0)) rfl) (pw_or1 (pt_not (pt_val (pe_callB (callIsi (K := c.K) rfl) (by rfl) T.m_isinstance (by decide +kernel) (pa_cons (pv 5) (pa_cons (pe_bty "bool" rfl T.m_bool (by decide +kernel)) pa_nil))))))))) (pss_one (ps_ret pe_bl)) pss_nil) (pss_cons (ps_if (pt_cmpR opIs (pv 4) pe_non (nomark _)) (pss_one (ps_ret (pe_and (pv 5) (pe_one (pe_cmpR (opIn (K := c.K) rfl) (pv 3) (peFld (K := c.K) rfl (pv 0)) rfl))))) pss_nil) (pss_cons (ps_if (PW.pt (pw_or (pt_not (pt_val (pe_gx g_is_integer ⟨rfl, rfl, rfl, rfl, rfl⟩ (hr.mono (by decide)) rfl (tk_some (takes_of rfl rfl rfl rfl)) (pa_cons (pv 4) pa_nil)))) (pw_or1 (pt_not (pt_chain op_le op_lt pe_int (pv 4) (pe_callB (callLen (K := c.K) rfl) (by rfl) T.m_len (by decide +kernel) (pa_cons (pv 1) pa_nil))))))) (pss_one (ps_ret pe_bl)) pss_nil) (pss_one (ps_ret (pe_cmpR opIsNot (pe_gx g_turn_behind ⟨rfl, rfl, rfl, rfl, rfl⟩ (hr.mono (by decide)) rfl (tk_some (takes_of rfl rfl rfl rfl)) (pa_cons (pv 0) (pa_cons (pv 1) (pa_cons (pv 2) pa_nil)))) pe_non (nomark _))))))))), (rs_seq (rs_if (rt_or (rt_not (rt_B (re_cb (ro_isi T.kls) (ra_cons re_var (ra_cons (re_c (v := .ty "tuple") (d := .ty "tuple") fun _ => rfl) ra_nil))))) (rt_test (re_op ro_ne (re_cb ro_len (ra_cons re_var ra_nil)) (re_c (v := .int 3) (d := .int 3) fun _ => rfl)))) (rs_ret (re_c (v := .bl false) (d := .bl false) fun _ => rfl)) rs_next) (rs_seq (rs_asg re_var (rl_tup (rls_cons rl_name (rls_cons rl_name (rls_cons rl_name rls_nil))))) (rs_seq (rs_if (rt_or (rt_not (rt_B (re_cb (ro_isi T.kls) (ra_cons re_var (ra_cons (re_c (v := .ty "str") (d := .ty "str") fun _ => rfl) ra_nil))))) (rt_or (rt_test (re_op ro_nin re_var (re_fld T.kls (nof_cons T.n_Company_own_people nof_nil) re_var))) (rt_not (rt_B (re_cb (ro_isi T.kls) (ra_cons re_var (ra_cons (re_c (v := .ty "bool") (d := .ty "bool") fun _ => rfl) ra_nil))))))) (rs_ret (re_c (v := .bl false) (d := .bl false) fun _ => rfl)) rs_next) (rs_seq (rs_if (rt_test (re_op ro_is re_var (re_c (v := .non) (d := .non) fun _ => rfl))) (rs_ret (re_and re_var (re_op ro_in re_var (re_fld T.kls (nof_cons T.n_Company_own_starts nof_nil) re_var)))) rs_next) (rs_seq (rs_if (rt_or (rt_not (rt_B (re_call (ra_cons re_var ra_nil)))) (rt_not (rt_test (re_chain ro_cmp ro_cmp (re_c (v := .int 0) (d := .int 0) fun _ => rfl) re_var (re_cb ro_len (ra_cons re_var ra_nil)))))) (rs_ret (re_c (v := .bl false) (d := .bl false) fun _ => rfl)) rs_next) (rs_ret (re_op ro_isnt (re_call (ra_cons re_var (ra_cons re_var (ra_cons re_var ra_nil)))) (re_c (v := .non) (d := .non) fun _ => rfl))))))))⟩)
theorem gx_are_letters (T : Tx P c mg ea) (g_is_letter : Gfx P c mg base "is_letter" 2 W_is_letter) : Gfx P c mg base "are_letters" 3 W_are_letters := by
  rw [W_are_letters_eq]
  exact gfx_of T.D_are_letters sc_are_letters rfl rfl (fun f cdv A outer s H E hr => ⟨_, (pss_cons (ps_for (passes_of rfl) rfl (pi_enumT (K := c.K) rfl (by rfl) T.m_enumerate (pa_cons (pv 1) pa_nil)) (pgTup (K := c.K) (n := 2) rfl rfl (pgs_cons (pg_name (i := 2) sc_are_letters.nd rfl (by first | exact Or.inl rfl | exact Or.inr rfl)) (pgs_cons (pg_name (i := 3) sc_are_letters.nd rfl (by first | exact Or.inl rfl | exact Or.inr rfl)) pgs_nil))) (pss_one (ps_if (pt_not (pt_val (pe_gx g_is_letter ⟨rfl, rfl, rfl, rfl, rfl⟩ (hr.mono (by decide)) rfl (tk_some (takes_of rfl rfl rfl rfl)) (pa_cons (pv 0) (pa_cons (pe_slice (slAny (K := c.K) rfl) (pv 1) po_none (po_some (pv 2))) (pa_cons (pv 3) pa_nil)))))) (pss_one (ps_ret pe_bl)) pss_nil))) (pss_one (ps_ret pe_bl))), (rs_seq (rs_for (ri_enumT (ra_cons re_var ra_nil)) (rl_tup (rls_cons rl_name (rls_cons rl_name rls_nil))) (rs_if (rt_not (rt_B (re_call (ra_cons re_var (ra_cons (re_sl ro_sl re_var rp_no (rp_so re_var)) (ra_cons re_var ra_nil)))))) (rs_ret (re_c (v := .bl false) (d := .bl false) fun _ => rfl)) rs_next)) (rs_ret (re_c (v := .bl true) (d := .bl true) fun _ => rfl)))⟩)
theorem gx_checked (T : Tx P c mg ea) (g_are_letters : Gfx P c mg base "are_letters" 3 W_are_letters) : Gfx P c mg base "checked" 4 W_checked := by
  rw [W_checked_eq]
  exact gfx_of T.D_checked sc_checked rfl rfl (fun f cdv A outer s H E hr => ⟨_, (pss_cons (ps_if (PW.pt (pw_or (pt_cmpR op_gt (pe_callB (callLen (K := c.K) rfl) (by rfl) T.m_len (by decide +kernel) (pa_cons (pv 1) pa_nil)) (pe_g rfl T.g_MAX_LETTERS) (nomark _)) (pw_or1 (pt_not (pt_val (pe_gx g_are_letters ⟨rfl, rfl, rfl, rfl, rfl⟩ (hr.mono (by decide)) rfl (tk_some (takes_of rfl rfl rfl rfl)) (pa_cons (pv 0) (pa_cons (pv 1) pa_nil)))))))) (pss_one (ps_raise0 PySem.F.excBase_ValueError T.x_InvalidBundle.xi T.x_InvalidBundle.m T.x_InvalidBundle.kp (raises_own T.x_InvalidBundle.sb T.x_InvalidBundle.ty) rfl (takes_of rfl rfl rfl rfl) rfl)) pss_nil) (pss_one (ps_ret (pv 1)))), (rs_seq (rs_if (rt_or (rt_test (re_op ro_cmp (re_cb ro_len (ra_cons re_var ra_nil)) (re_c (v := .int 40) (d := .int 40) fun _ => rfl))) (rt_not (rt_B (re_call (ra_cons re_var (ra_cons re_var ra_nil)))))) rs_raise0 rs_next) (rs_ret re_var))⟩)
theorem gx_Bundle___init__ (T : Tx P c mg ea) (g_require_company : Gfx P c mg base "require_company" 1 W_require_company) (g_lists_in : Gfx P c mg base "lists_in" 3 W_lists_in) (g_talks_in : Gfx P c mg base "talks_in" 1 W_talks_in) (g_checked : Gfx P c mg base "checked" 4 W_checked) : Gix P c mg base 5 24 ea.f_Bundle___init__ W_Bundle___init__ := by
  rw [W_Bundle___init___eq]
  obtain ⟨F, hb⟩ := T.D_Bundle___init__
  exact gixSn_of F sc_Bundle___init__ T.k_Bundle.cl rfl rfl hb (fun cdv A outer s H E hr => ⟨_, (pss_cons (ps_expr (pe_gx g_require_company ⟨rfl, rfl, rfl, rfl, rfl⟩ (hr.mono (by decide)) rfl (tk_some (takes_of rfl rfl rfl rfl)) (pa_cons (pv 1) pa_nil))) (pss_cons (ps_set (i := 3) sc_Bundle___init__.nd rfl (by first | exact Or.inl rfl | exact Or.inr rfl) (pe_and (pe_cmpR (opEq (K := c.K) rfl hr.units) (pe_callB (callLen (K := c.K) rfl) (by rfl) T.m_len (by decide +kernel) (pa_cons (pv 2) pa_nil)) pe_int (nomark _)) (pe_one (pe_callB (callIsi (K := c.K) rfl) (by rfl) T.m_isinstance (by decide +kernel) (pa_cons (pe_ix (ixA (K := c.K) rfl) (pv 2) pe_int (fun _ _ => rfl)) (pa_cons (pe_cl rfl T.k_Known_bundles.m) pa_nil)))))) (pss_cons (psFld (K := c.K) rfl (pv 0) (pv 1)) (pss_cons (psFld (K := c.K) rfl (pv 0) (pe_ifExp (pt_val (pv 3)) (peFld (K := c.K) rfl (pe_ix (ixA (K := c.K) rfl) (pv 2) pe_int (fun _ _ => rfl))) (pe_gx g_checked ⟨rfl, rfl, rfl, rfl, rfl⟩ (hr.mono (by decide)) rfl (tk_some (takes_of rfl rfl rfl rfl)) (pa_cons (pv 1) (pa_cons (pv 2) pa_nil))))) (pss_cons (psFld (K := c.K) rfl (pv 0) (pe_gx g_lists_in ⟨rfl, rfl, rfl, rfl, rfl⟩ (hr.mono (by decide)) rfl (tk_some (takes_of rfl rfl rfl rfl)) (pa_cons (pv 1) (pa_cons (peFld (K := c.K) rfl (pv 0)) pa_nil)))) (pss_one (psFld (K := c.K) rfl (pv 0) (pe_gx g_talks_in ⟨rfl, rfl, rfl, rfl, rfl⟩ (hr.mono (by decide)) rfl (tk_some (takes_of rfl rfl rfl rfl)) (pa_cons (peFld (K := c.K) rfl (pv 0)) pa_nil))))))))), fun me => (rs_seq (rs_expr (re_call (ra_cons re_var ra_nil))) (rs_seq (rs_asg (re_and (re_op ro_eq (re_cb ro_len (ra_cons re_var ra_nil)) (re_c (v := .int 1) (d := .int 1) fun _ => rfl)) (re_cb (ro_isi T.kls) (ra_cons (re_op ro_ix re_var (re_c (v := .int 0) (d := .int 0) fun _ => rfl)) (ra_cons (re_c fun _ => ⟨rfl, T.k_Known_bundles.cl⟩) ra_nil)))) rl_name) (rs_seq (rs_sfld T.kls (nof_cons T.n_Bundle_own_company nof_nil) re_var) (rs_seq (rs_sfld T.kls (nof_cons T.n_Known_bundles_own_letters (nof_cons T.n_Bundle_own_letters nof_nil)) (re_if (rt_B re_var) (re_fld T.kls (nof_cons T.n_Known_bundles_own_letters (nof_cons T.n_Bundle_own_letters nof_nil)) (re_op ro_ix re_var (re_c (v := .int 0) (d := .int 0) fun _ => rfl))) (re_call (ra_cons re_var (ra_cons re_var ra_nil))))) (rs_seq (rs_sfld T.kls (nof_cons T.n_Bundle_own_lists nof_nil) (re_call (ra_cons re_var (ra_cons (re_sf T.kls (nof_cons T.n_Known_bundles_own_letters (nof_cons T.n_Bundle_own_letters nof_nil))) ra_nil)))) (rs_sfld T.kls (nof_cons T.n_Bundle_own_talks nof_nil) (re_call (ra_cons (re_sf T.kls (nof_cons T.n_Known_bundles_own_letters (nof_cons T.n_Bundle_own_letters nof_nil))) ra_nil))))))))⟩)
theorem gx_require_cutter (T : Tx P c mg ea)  : Gfx P c mg base "require_cutter" 1 W_require_cutter := by
  rw [W_require_cutter_eq]
  exact gfx_of T.D_require_cutter sc_require_cutter rfl rfl (fun f cdv A outer s H E hr => ⟨_, (pss_one (ps_if (pt_not (pt_val (pe_callB (callIsi (K := c.K) rfl) (by rfl) T.m_isinstance (by decide +kernel) (pa_cons (pv 0) (pa_cons (pe_cl rfl T.k_Cutter.m) pa_nil))))) (pss_one (ps_raise0 PySem.F.excBase_ValueError T.x_InvalidCutter.xi T.x_InvalidCutter.m T.x_InvalidCutter.kp (raises_own T.x_InvalidCutter.sb T.x_InvalidCutter.ty) rfl (takes_of rfl rfl rfl rfl) rfl)) pss_nil)), (rs_if (rt_not (rt_B (re_cb (ro_isi T.kls) (ra_cons re_var (ra_cons (re_c fun _ => ⟨rfl, T.k_Cutter.cl⟩) ra_nil))))) rs_raise0 rs_next)⟩)
theorem gx_Rule___init__ (T : Tx P c mg ea) (g_require_cutter : Gfx P c mg base "require_cutter" 1 W_require_cutter) : Goi P c mg base 2 25 ea.f_Rule___init__ "__init__" "Rule.__init__" s_Rule___init__ ["self", "cutter", "sees_lost"] [("sees_lost", .bl false)] W_Rule___init__ := by
  rw [W_Rule___init___eq]
  exact goi_of sc_Rule___init__ T.k_Rule.cl rfl rfl (fun cdv A outer s H E hr => ⟨_, (pss_cons (ps_expr (pe_gx g_require_cutter ⟨rfl, rfl, rfl, rfl, rfl⟩ (hr.mono (by decide)) rfl (tk_some (takes_of rfl rfl rfl rfl)) (pa_cons (pv 1) pa_nil))) (pss_cons (ps_if (pt_not (pt_val (pe_callB (callIsi (K := c.K) rfl) (by rfl) T.m_isinstance (by decide +kernel) (pa_cons (pv 2) (pa_cons (pe_bty "bool" rfl T.m_bool (by decide +kernel)) pa_nil))))) (pss_one (ps_raise0 PySem.F.excBase_ValueError T.x_InvalidRule.xi T.x_InvalidRule.m T.x_InvalidRule.kp (raises_own T.x_InvalidRule.sb T.x_InvalidRule.ty) rfl (takes_of rfl rfl rfl rfl) rfl)) pss_nil) (pss_cons (psFld (K := c.K) rfl (pv 0) (pv 1)) (pss_one (psFld (K := c.K) rfl (pv 0) (pv 2)))))), fun me => (rs_seq (rs_expr (re_call (ra_cons re_var ra_nil))) (rs_seq (rs_if (rt_not (rt_B (re_cb (ro_isi T.kls) (ra_cons re_var (ra_cons (re_c (v := .ty "bool") (d := .ty "bool") fun _ => rfl) ra_nil))))) rs_raise0 rs_next) (rs_seq (rs_sfld T.kls (nof_cons T.n_Rule_own_cutter nof_nil) re_var) (rs_sfld T.kls (nof_cons T.n_Rule_own_sees nof_nil) re_var))))⟩)
theorem gx_Rule___init___k1 (T : Tx P c mg ea) (g_require_cutter : Gfx P c mg base "require_cutter" 1 W_require_cutter) : Gix P c mg base 2 25 ea.f_Rule___init__ (kwI 1 0 [(false, 0)] [.bl false] W_Rule___init__) :=
  gix0_of T.D_Rule___init__ List.mem_cons_self (fun _ => ⟨_, _, rfl, rfl, rfl⟩) (gx_Rule___init__ T g_require_cutter)
theorem gx_Rule___init___k1_sees_lost (T : Tx P c mg ea) (g_require_cutter : Gfx P c mg base "require_cutter" 1 W_require_cutter) : Gkx P c mg base 2 25 ea.f_Rule___init__ 1 ["sees_lost"] (kwI 1 1 [(true, 0)] [] W_Rule___init__) :=
  gkx_of (m := 1) T.D_Rule___init__ (List.mem_cons_of_mem _ List.mem_cons_self) (fun _ => rfl) (gx_Rule___init__ T g_require_cutter)
theorem gx_Cutter___str__ (T : Tx P c mg ea)  : Gmx P c mg base 1 ea.f_Cutter___str__ W_Cutter___str__ := by
  rw [W_Cutter___str___eq]
  exact gmx_of T.D_Cutter___str__ sc_Cutter___str__ rfl rfl (fun cdv A outer s H E hr => ⟨_, (pss_cons (ps_if (pt_cmpR (opEq (K := c.K) rfl hr.units) (peFld (K := c.K) rfl (pv 0)) (pe_tup pa_nil) (nomark _)) (pss_one (ps_ret pe_str)) pss_nil) (pss_one (ps_ret (peBm (K := c.K) rfl PySem.F.plainAttrs_str PySem.F.slot_str_join PySem.F.type_str_join (mtJoin (K := c.K) rfl) pe_str (pa_cons (peFld (K := c.K) rfl (pv 0)) pa_nil))))), (rs_seq (rs_if (rt_test (re_op ro_eq (re_fld T.kls (nof_cons T.n_Known_cutters_own_parts (nof_cons T.n_Cutter_own_parts nof_nil)) re_var) (re_tup ra_nil))) (rs_ret (re_c (v := .str "all") (d := .str "all") fun _ => rfl)) rs_next) (rs_ret (re_bm (by decide) ro_join (re_c (v := .str " > ") (d := .str " > ") fun _ => rfl) (ra_cons (re_fld T.kls (nof_cons T.n_Known_cutters_own_parts (nof_cons T.n_Cutter_own_parts nof_nil)) re_var) ra_nil))))⟩)
theorem gx_Rule___str__ (T : Tx P c mg ea) (g_Cutter___str__ : Gmx P c mg base 1 ea.f_Cutter___str__ W_Cutter___str__) : Gmx P c mg base 3 ea.f_Rule___str__ W_Rule___str__ := by
  rw [W_Rule___str___eq]
  exact gmx_of T.D_Rule___str__ sc_Rule___str__ rfl rfl (fun cdv A outer s H E hr => ⟨_, (pss_cons (ps_if (pt_val (peFld (K := c.K) rfl (pv 0))) (pss_one (ps_ret (pe_joined (PJ.cons pe_str (PJ.cons (pe_fmtO (n := 1) (peFld (K := c.K) rfl (pv 0)) (dns_of (mts_cons T.q_Cutter___str__ g_Cutter___str__ mts_nil)) (fms_cons T.fm_Cutter fms_nil) ⟨rfl, rfl, rfl, rfl, rfl⟩ (hr.mono (by decide))) PJ.nil))))) pss_nil) (pss_one (ps_ret (pe_joined (PJ.cons pe_str (PJ.cons (pe_fmtO (n := 1) (peFld (K := c.K) rfl (pv 0)) (dns_of (mts_cons T.q_Cutter___str__ g_Cutter___str__ mts_nil)) (fms_cons T.fm_Cutter fms_nil) ⟨rfl, rfl, rfl, rfl, rfl⟩ (hr.mono (by decide))) PJ.nil)))))), (rs_seq (rs_if (rt_B (re_fld T.kls (nof_cons T.n_Rule_own_sees nof_nil) re_var)) (rs_ret (re_js (RJ.cons (re_c (v := .str "seeing rule ") (d := .str "seeing rule ") fun _ => rfl) (RJ.cons (re_fmtO (re_fld T.kls (nof_cons T.n_Rule_own_cutter nof_nil) re_var)) RJ.nil)))) rs_next) (rs_ret (re_js (RJ.cons (re_c (v := .str "rule ") (d := .str "rule ") fun _ => rfl) (RJ.cons (re_fmtO (re_fld T.kls (nof_cons T.n_Rule_own_cutter nof_nil) re_var)) RJ.nil)))))⟩)
end
end Mw

set_option Elab.async false
set_option linter.all false
set_option maxRecDepth 100000
set_option maxHeartbeats 4000000
namespace Mw
open PySem PySem.Spec PyProof.Rows L2

section
variable {P : Program} {c : Kc} {mg : Str → Option Value} {base : Heap} {ea : EA}
theorem gx_Cutter_parts (T : Tx P c mg ea)  : Gmx P c mg base 1 ea.f_Cutter_parts W_Cutter_parts := by
  rw [W_Cutter_parts_eq]
  exact gmx_of T.D_Cutter_parts sc_Cutter_parts rfl rfl (fun cdv A outer s H E hr => ⟨_, (pss_one (ps_ret (peFld (K := c.K) rfl (pv 0)))), (rs_ret (re_fld T.kls (nof_cons T.n_Known_cutters_own_parts (nof_cons T.n_Cutter_own_parts nof_nil)) re_var))⟩)
theorem gx_require_bundle (T : Tx P c mg ea)  : Gfx P c mg base "require_bundle" 1 W_require_bundle := by
  rw [W_require_bundle_eq]
  exact gfx_of T.D_require_bundle sc_require_bundle rfl rfl (fun f cdv A outer s H E hr => ⟨_, (pss_one (ps_if (pt_not (pt_val (pe_callB (callIsi (K := c.K) rfl) (by rfl) T.m_isinstance (by decide +kernel) (pa_cons (pv 0) (pa_cons (pe_cl rfl T.k_Bundle.m) pa_nil))))) (pss_one (ps_raise0 PySem.F.excBase_ValueError T.x_InvalidBundle.xi T.x_InvalidBundle.m T.x_InvalidBundle.kp (raises_own T.x_InvalidBundle.sb T.x_InvalidBundle.ty) rfl (takes_of rfl rfl rfl rfl) rfl)) pss_nil)), (rs_if (rt_not (rt_B (re_cb (ro_isi T.kls) (ra_cons re_var (ra_cons (re_c fun _ => ⟨rfl, T.k_Bundle.cl⟩) ra_nil))))) rs_raise0 rs_next)⟩)
theorem gx_is_mark_of (T : Tx P c mg ea) (g_is_integer : Gfx P c mg base "is_integer" 1 W_is_integer) : Gfx P c mg base "is_mark_of" 2 W_is_mark_of := by
  rw [W_is_mark_of_eq]
  exact gfx_of T.D_is_mark_of sc_is_mark_of rfl rfl (fun f cdv A outer s H E hr => ⟨_, (pss_one (ps_ret (pe_and (pe_gx g_is_integer ⟨rfl, rfl, rfl, rfl, rfl⟩ (hr.mono (by decide)) rfl (tk_some (takes_of rfl rfl rfl rfl)) (pa_cons (pv 1) pa_nil)) (pe_one (pe_chain op_le op_lt pe_int (pv 1) (pe_callB (callLen (K := c.K) rfl) (by rfl) T.m_len (by decide +kernel) (pa_cons (peFld (K := c.K) rfl (pv 0)) pa_nil))))))), (rs_ret (re_and (re_call (ra_cons re_var ra_nil)) (re_chain ro_cmp ro_cmp (re_c (v := .int 0) (d := .int 0) fun _ => rfl) re_var (re_cb ro_len (ra_cons (re_fld T.kls (nof_cons T.n_Known_bundles_own_letters (nof_cons T.n_Bundle_own_letters nof_nil)) re_var) ra_nil)))))⟩)
theorem gx_require_mark (T : Tx P c mg ea) (g_is_mark_of : Gfx P c mg base "is_mark_of" 2 W_is_mark_of) : Gfx P c mg base "require_mark" 3 W_require_mark := by
  rw [W_require_mark_eq]
  exact gfx_of T.D_require_mark sc_require_mark rfl rfl (fun f cdv A outer s H E hr => ⟨_, (pss_one (ps_if (pt_not (pt_val (pe_gx g_is_mark_of ⟨rfl, rfl, rfl, rfl, rfl⟩ (hr.mono (by decide)) rfl (tk_some (takes_of rfl rfl rfl rfl)) (pa_cons (pv 0) (pa_cons (pv 1) pa_nil))))) (pss_one (ps_raiseS T.x_UnknownName xst_UnknownName ⟨rfl, rfl, rfl, rfl, rfl⟩ (hr.mono (by decide)) rfl (takes_of rfl rfl rfl rfl) rfl (pa_cons (pv 1) pa_nil))) pss_nil)), (rs_if (rt_not (rt_B (re_call (ra_cons re_var (ra_cons re_var ra_nil))))) (rs_raiseS (ra_cons re_var ra_nil)) rs_next)⟩)
theorem gx_bound_row (T : Tx P c mg ea) (g_cut : Gfx P c mg base "cut" 2 W_cut) : Gfx P c mg base "bound_row" 3 W_bound_row := by
  rw [W_bound_row_eq]
  exact gfx_of T.D_bound_row sc_bound_row rfl rfl (fun f cdv A outer s H E hr => ⟨_, (pss_one (ps_ret (pe_gx g_cut ⟨rfl, rfl, rfl, rfl, rfl⟩ (hr.mono (by decide)) rfl (tk_some (takes_of rfl rfl rfl rfl)) (pa_cons (peFld (K := c.K) rfl (pv 0)) (pa_cons (pe_gx g_cut ⟨rfl, rfl, rfl, rfl, rfl⟩ (hr.mono (by decide)) rfl (tk_some (takes_of rfl rfl rfl rfl)) (pa_cons (pe_dget (Nat.lt_of_le_of_lt (Nat.add_le_add_left (by decide) _) hr.units) (peFld (K := c.K) rfl (pv 1)) (pv 2) (fun _ _ => rfl)) (pa_cons (pv 3) pa_nil))) pa_nil))))), (rs_ret (re_call (ra_cons (re_fld T.kls (nof_cons T.n_Rule_own_cutter nof_nil) re_var) (ra_cons (re_call (ra_cons (re_dget (re_fld T.kls (nof_cons T.n_Company_own_copies nof_nil) re_var) re_var) (ra_cons re_var ra_nil))) ra_nil))))⟩)
theorem gx_Rule_bound (T : Tx P c mg ea) (g_require_bundle : Gfx P c mg base "require_bundle" 1 W_require_bundle) (g_require_mark : Gfx P c mg base "require_mark" 3 W_require_mark) (g_bound_row : Gfx P c mg base "bound_row" 3 W_bound_row) : Gmx P c mg base 4 ea.f_Rule_bound W_Rule_bound := by
  rw [W_Rule_bound_eq]
  exact gmx_of T.D_Rule_bound sc_Rule_bound rfl rfl (fun cdv A outer s H E hr => ⟨_, (pss_cons (ps_expr (pe_gx g_require_bundle ⟨rfl, rfl, rfl, rfl, rfl⟩ (hr.mono (by decide)) rfl (tk_some (takes_of rfl rfl rfl rfl)) (pa_cons (pv 1) pa_nil))) (pss_cons (ps_expr (pe_gx g_require_mark ⟨rfl, rfl, rfl, rfl, rfl⟩ (hr.mono (by decide)) rfl (tk_some (takes_of rfl rfl rfl rfl)) (pa_cons (pv 1) (pa_cons (pv 2) pa_nil)))) (pss_one (ps_ret (pe_gx g_bound_row ⟨rfl, rfl, rfl, rfl, rfl⟩ (hr.mono (by decide)) rfl (tk_some (takes_of rfl rfl rfl rfl)) (pa_cons (pv 0) (pa_cons (peFld (K := c.K) rfl (pv 1)) (pa_cons (pe_ix (ixA (K := c.K) rfl) (pe_ix (ixA (K := c.K) rfl) (peFld (K := c.K) rfl (pv 1)) (pv 2) (fun _ _ => rfl)) pe_int (fun _ _ => rfl)) (pa_cons (pe_ix (ixA (K := c.K) rfl) (peFld (K := c.K) rfl (pv 1)) (pv 2) (fun _ _ => rfl)) pa_nil))))))))), (rs_seq (rs_expr (re_call (ra_cons re_var ra_nil))) (rs_seq (rs_expr (re_call (ra_cons re_var (ra_cons re_var ra_nil)))) (rs_ret (re_call (ra_cons re_var (ra_cons (re_fld T.kls (nof_cons T.n_Bundle_own_company nof_nil) re_var) (ra_cons (re_op ro_ix (re_op ro_ix (re_fld T.kls (nof_cons T.n_Known_bundles_own_letters (nof_cons T.n_Bundle_own_letters nof_nil)) re_var) re_var) (re_c (v := .int 0) (d := .int 0) fun _ => rfl)) (ra_cons (re_op ro_ix (re_fld T.kls (nof_cons T.n_Bundle_own_lists nof_nil) re_var) re_var) ra_nil))))))))⟩)
theorem gx_Rule_cutter (T : Tx P c mg ea)  : Gmx P c mg base 1 ea.f_Rule_cutter W_Rule_cutter := by
  rw [W_Rule_cutter_eq]
  exact gmx_of T.D_Rule_cutter sc_Rule_cutter rfl rfl (fun cdv A outer s H E hr => ⟨_, (pss_one (ps_ret (peFld (K := c.K) rfl (pv 0)))), (rs_ret (re_fld T.kls (nof_cons T.n_Rule_own_cutter nof_nil) re_var))⟩)
theorem gx__law_roll (T : Tx P c mg ea) : Gfx P c mg base "_law_roll" 1 PreRoll := by
  obtain ⟨f, fd, F, b, m⟩ := T.D__law_roll
  refine gfx_calm roll_calm F b m (roll_hide (F.ok sc__law_roll (fun vs H Q E h => ?_) (fun cdv A outer s H vs Q E hr h => ⟨_, (pss_cons (ps_if (pt_cmpR op_gt (pe_ix (ixA (K := c.K) rfl) (pv 0) pe_int (fun _ _ => rfl)) pe_int (nomark _)) (pss_cons (ps_set (i := 4) sc__law_roll.nd rfl (by first | exact Or.inl rfl | exact Or.inr rfl) (pe_op op_mod (pe_callTy call_int1 (by rfl) T.m_int (by decide +kernel) (pa_cons (pe_ix (ixA (K := c.K) rfl) (pv 0) pe_int (fun _ _ => rfl)) pa_nil)) (pv 1))) (pss_cons (ps_asg (pe_op op_fdivW (pe_ix (ixA (K := c.K) rfl) (pv 0) pe_int (fun _ _ => rfl)) (pv 1)) (pg_sub (pv 0) pe_int set_list)) (pss_one (ps_ret (pv 4))))) pss_nil) (pss_cons (ps_asg (pe_op (opAdd (K := c.K) rfl) (pe_ix (ixA (K := c.K) rfl) (pv 0) pe_int (fun _ _ => rfl)) pe_int) (pg_sub (pv 0) pe_int set_list)) (pss_cons (ps_set (i := 2) sc__law_roll.nd rfl (by first | exact Or.inl rfl | exact Or.inr rfl) (pe_op op_mod (pe_callTy call_int1 (by rfl) T.m_int (by decide +kernel) (pa_cons (pe_op (opAdd (K := c.K) rfl) (pe_ix (ixA (K := c.K) rfl) (pv 0) pe_int (fun _ _ => rfl)) (pe_op (opMul (K := c.K) rfl) pe_int (pe_ix (ixA (K := c.K) rfl) (pv 0) pe_int (fun _ _ => rfl)))) pa_nil)) pe_int)) (pss_cons (ps_set (i := 3) sc__law_roll.nd rfl (by first | exact Or.inl rfl | exact Or.inr rfl) (pe_op (opAdd (K := c.K) rfl) (pe_op (opMul (K := c.K) rfl) (pe_op op_mod (pe_callTy call_int1 (by rfl) T.m_int (by decide +kernel) (pa_cons (pe_op (opMul (K := c.K) rfl) (pv 2) (pv 2)) pa_nil)) pe_int) (pv 2)) (pe_op (opMul (K := c.K) rfl) pe_int (pe_ix (ixA (K := c.K) rfl) (pv 0) pe_int (fun _ _ => rfl))))) (pss_cons (ps_set (i := 3) sc__law_roll.nd rfl (by first | exact Or.inl rfl | exact Or.inr rfl) (pe_op op_mod (pe_callTy call_int1 (by rfl) T.m_int (by decide +kernel) (pa_cons (pv 3) pa_nil)) pe_int)) (pss_one (ps_ret (pe_op op_mod (pe_callTy call_int1 (by rfl) T.m_int (by decide +kernel) (pa_cons (pe_op op_fdivW (pv 3) pe_int) pa_nil)) (pv 1))))))))), ?_⟩)))
  · obtain ⟨d, n, x, y, z, rfl, _⟩ := h; rfl
  · obtain ⟨d, n, x, y, z, rfl, hd, h0, h1, k⟩ := h
    refine ⟨_, rfl, .inl ⟨d, _, _, _, rfl, rfl, .inl (.inl hd), rfl, _, _, rfl, rfl, _, rfl, ifbI (fun h2 => ?_) fun h2 => ?_⟩⟩
    · refine ⟨_, rfl, .inl ⟨d, _, _, _, rfl, rfl, .inl (.inl hd), rfl, .inl ⟨_, rfl, _, rfl, _, _, rfl, rfl, h0, ?_⟩⟩⟩
      refine ⟨_, rfl, .inl ⟨d, _, _, _, rfl, rfl, .inl (.inl hd), rfl, _, rfl, _, _, rfl, rfl, divw h0 h1, _, rfl, d, _, _, _, rfl, rfl, hd, rfl, ?_⟩⟩
      exact ⟨_, rfl, k _ _ y z (Int.emod_nonneg _ (by omega)) (Int.emod_lt_of_pos _ h0)⟩
    · refine ⟨_, rfl, .inl ⟨d, _, _, _, rfl, rfl, .inl (.inl hd), rfl, .inl ⟨_, _, rfl, rfl, _, rfl, d, _, _, _, rfl, rfl, hd, rfl, ?_⟩⟩⟩
      refine ⟨_, rfl, .inl ⟨d, _, _, _, rfl, rfl, .inl (.inl upd_same), rfl, _, rfl, .inl ⟨d, _, _, _, rfl, rfl, .inl (.inl upd_same), rfl, .inl ⟨_, _, rfl, rfl, .inl ⟨by decide, by decide⟩, .inl ⟨_, _, rfl, rfl, .inl ⟨_, rfl, _, _, rfl, rfl, (by show (0 : Int) < _; decide), ?_⟩⟩⟩⟩⟩⟩
      refine ⟨_, rfl, _, rfl, .inl ⟨_, _, rfl, rfl, modm (by decide) (by decide), .inl ⟨_, rfl, _, _, rfl, rfl, (by show (0 : Int) < _; decide), _, rfl, .inl ⟨_, _, rfl, rfl, modm (by decide) (by decide), _, rfl, .inl ⟨d, _, _, _, rfl, rfl, .inl (.inl upd_same), rfl, .inl ⟨_, _, rfl, rfl, .inl ⟨by decide, by decide⟩, .inl ⟨_, _, rfl, rfl, ?_⟩⟩⟩⟩⟩⟩⟩
      refine ⟨_, rfl, .inl ⟨_, rfl, _, _, rfl, rfl, (by show (0 : Int) < _; decide), ?_⟩⟩
      exact ⟨_, rfl, _, _, rfl, rfl, divw (by decide) (by decide), .inl ⟨_, rfl, _, rfl, _, _, rfl, rfl, h0, k _ x y _ (Int.emod_nonneg _ (by omega)) (Int.emod_lt_of_pos _ h0)⟩⟩

theorem gx__law_one_of (T : Tx P c mg ea) (g__law_roll : Gfx P c mg base "_law_roll" 1 PreRoll) : Gfx P c mg base "_law_one_of" 2 W__law_one_of := by
  rw [W__law_one_of_eq]
  exact gfx_of T.D__law_one_of sc__law_one_of rfl rfl (fun f cdv A outer s H E hr => ⟨_, (pss_one (ps_ret (pe_ix (ixA (K := c.K) rfl) (pv 1) (pe_gx g__law_roll ⟨rfl, rfl, rfl, rfl, rfl⟩ (hr.mono (by decide)) rfl (tk_some (takes_of rfl rfl rfl rfl)) (pa_cons (pv 0) (pa_cons (pe_callB (callLen (K := c.K) rfl) (by rfl) T.m_len (by decide +kernel) (pa_cons (pv 1) pa_nil)) pa_nil))) (fun _ _ => rfl)))), (rs_ret (re_op ro_ix re_var (re_call (ra_cons re_var (ra_cons (re_cb ro_len (ra_cons re_var ra_nil)) ra_nil)))))⟩)
theorem gx__law_signs (T : Tx P c mg ea) (g__law_one_of : Gfx P c mg base "_law_one_of" 2 W__law_one_of) (g__law_roll : Gfx P c mg base "_law_roll" 1 PreRoll) : Gfx P c mg base "_law_signs" 3 W__law_signs := by
  rw [W__law_signs_eq]
  exact gfx_of T.D__law_signs sc__law_signs rfl rfl (fun f cdv A outer s H E hr => ⟨_, (pss_one (ps_ret (peBm (K := c.K) rfl PySem.F.plainAttrs_str PySem.F.slot_str_join PySem.F.type_str_join (mtJoin (K := c.K) rfl) pe_str (pa_cons (pe_lc (own := [("_law_turn", 2)]) (g := gName 2) rfl sc__law_signs.nd (pi_range1 rfl T.m_range (pa_cons (pe_gx g__law_roll ⟨rfl, rfl, rfl, rfl, rfl⟩ (hr.mono (by decide)) rfl (tk_some (takes_of rfl rfl rfl rfl)) (pa_cons (pv 0) (pa_cons (pe_op (opAdd (K := c.K) rfl) (pv 1) pe_int) pa_nil))) pa_nil)) (blkOk_by (own := [("_law_turn", 2)]) (N := ["_law_dice_here", "_law_much", "_law_turn"]) (sc := defScope s__law_signs) (by decide +kernel)) (fun _ _ _ _ _ => (pg_name (i := 2) sc__law_signs.nd rfl (by first | exact Or.inl rfl | exact Or.inr rfl))) (fun _ _ _ _ _ => pts_nil) (fun _ _ _ _ _ => (pe_gx g__law_one_of ⟨rfl, rfl, rfl, rfl, rfl⟩ (hr.mono (by decide)) rfl tk_none (pa_cons (pv 0) (pa_cons (pe_lst (pa_cons pe_str (pa_cons pe_str (pa_cons pe_str pa_nil)))) pa_nil))))) pa_nil)))), (rs_ret (re_bm (by decide) ro_join (re_c (v := .str "") (d := .str "") fun _ => rfl) (ra_cons (re_lc (ri_rng1 (ra_cons (re_call (ra_cons re_var (ra_cons (re_op ro_add re_var (re_c (v := .int 1) (d := .int 1) fun _ => rfl)) ra_nil))) ra_nil)) (rg_name (by decide)) rt_yes (re_call (ra_cons re_var (ra_cons (re_lst (ra_cons (re_c (v := .str "+") (d := .str "+") fun _ => rfl) (ra_cons (re_c (v := .str "+") (d := .str "+") fun _ => rfl) (ra_cons (re_c (v := .str "-") (d := .str "-") fun _ => rfl) ra_nil)))) ra_nil)))) ra_nil)))⟩)
theorem gx__law_part (T : Tx P c mg ea) (g__law_roll : Gfx P c mg base "_law_roll" 1 PreRoll) (g__law_one_of : Gfx P c mg base "_law_one_of" 2 W__law_one_of) (g__law_signs : Gfx P c mg base "_law_signs" 3 W__law_signs) : Gfx P c mg base "_law_part" 4 W__law_part := by
  rw [W__law_part_eq]
  exact gfx_of T.D__law_part sc__law_part rfl rfl (fun f cdv A outer s H E hr => ⟨_, (pss_cons (ps_set (i := 1) sc__law_part.nd rfl (by first | exact Or.inl rfl | exact Or.inr rfl) (pe_lst (pa_cons pe_str (pa_cons pe_str (pa_cons pe_str (pa_cons pe_str (pa_cons pe_str (pa_cons pe_str (pa_cons pe_str (pa_cons pe_str (pa_cons pe_str (pa_cons pe_str pa_nil)))))))))))) (pss_cons (ps_if (pt_cmpR op_gt (pe_gx g__law_roll ⟨rfl, rfl, rfl, rfl, rfl⟩ (hr.mono (by decide)) rfl (tk_some (takes_of rfl rfl rfl rfl)) (pa_cons (pv 0) (pa_cons pe_int pa_nil))) pe_int (nomark _)) (pss_one (ps_ret (pe_gx g__law_one_of ⟨rfl, rfl, rfl, rfl, rfl⟩ (hr.mono (by decide)) rfl (tk_some (takes_of rfl rfl rfl rfl)) (pa_cons (pv 0) (pa_cons (pv 1) pa_nil))))) pss_nil) (pss_one (ps_ret (pe_op (opAdd (K := c.K) rfl) (pe_op (opAdd (K := c.K) rfl) (pe_gx g__law_signs ⟨rfl, rfl, rfl, rfl, rfl⟩ (hr.mono (by decide)) rfl (tk_some (takes_of rfl rfl rfl rfl)) (pa_cons (pv 0) (pa_cons pe_int pa_nil))) pe_str) (pe_gx g__law_signs ⟨rfl, rfl, rfl, rfl, rfl⟩ (hr.mono (by decide)) rfl (tk_some (takes_of rfl rfl rfl rfl)) (pa_cons (pv 0) (pa_cons pe_int pa_nil)))))))), (rs_seq (rs_asg (re_lst (ra_cons (re_c (v := .str "all") (d := .str "all") fun _ => rfl) (ra_cons (re_c (v := .str "all") (d := .str "all") fun _ => rfl) (ra_cons (re_c (v := .str "..+") (d := .str "..+") fun _ => rfl) (ra_cons (re_c (v := .str "..++") (d := .str "..++") fun _ => rfl) (ra_cons (re_c (v := .str "+..") (d := .str "+..") fun _ => rfl) (ra_cons (re_c (v := .str "+..+") (d := .str "+..+") fun _ => rfl) (ra_cons (re_c (v := .str "..+++") (d := .str "..+++") fun _ => rfl) (ra_cons (re_c (v := .str "..") (d := .str "..") fun _ => rfl) (ra_cons (re_c (v := .str "+..++") (d := .str "+..++") fun _ => rfl) (ra_cons (re_c (v := .str "..-+") (d := .str "..-+") fun _ => rfl) ra_nil))))))))))) rl_name) (rs_seq (rs_if (rt_test (re_op ro_cmp (re_call (ra_cons re_var (ra_cons (re_c (v := .int 3) (d := .int 3) fun _ => rfl) ra_nil))) (re_c (v := .int 0) (d := .int 0) fun _ => rfl))) (rs_ret (re_call (ra_cons re_var (ra_cons re_var ra_nil)))) rs_next) (rs_ret (re_op ro_add (re_op ro_add (re_call (ra_cons re_var (ra_cons (re_c (v := .int 2) (d := .int 2) fun _ => rfl) ra_nil))) (re_c (v := .str "..") (d := .str "..") fun _ => rfl)) (re_call (ra_cons re_var (ra_cons (re_c (v := .int 3) (d := .int 3) fun _ => rfl) ra_nil)))))))⟩)
theorem gx__law_parts (T : Tx P c mg ea) (g__law_part : Gfx P c mg base "_law_part" 4 W__law_part) (g__law_one_of : Gfx P c mg base "_law_one_of" 2 W__law_one_of) : Gfx P c mg base "_law_parts" 5 W__law_parts := by
  rw [W__law_parts_eq]
  exact gfx_of T.D__law_parts sc__law_parts rfl rfl (fun f cdv A outer s H E hr => ⟨_, (pss_one (ps_ret (pe_lc (own := [("_law_turn", 2)]) (g := gName 2) rfl sc__law_parts.nd (pi_range1 rfl T.m_range (pa_cons (pe_gx g__law_one_of ⟨rfl, rfl, rfl, rfl, rfl⟩ (hr.mono (by decide)) rfl (tk_some (takes_of rfl rfl rfl rfl)) (pa_cons (pv 0) (pa_cons (pe_lst (pa_cons pe_int (pa_cons pe_int (pa_cons pe_int (pa_cons pe_int (pa_cons (pe_callB (call_min2 rfl) (by rfl) T.m_min (by decide +kernel) (pa_cons pe_int (pa_cons (pv 1) pa_nil))) (pa_cons (pv 1) pa_nil))))))) pa_nil))) pa_nil)) (blkOk_by (own := [("_law_turn", 2)]) (N := ["_law_dice_here", "_law_much", "_law_turn"]) (sc := defScope s__law_parts) (by decide +kernel)) (fun _ _ _ _ _ => (pg_name (i := 2) sc__law_parts.nd rfl (by first | exact Or.inl rfl | exact Or.inr rfl))) (fun _ _ _ _ _ => pts_nil) (fun _ _ _ _ _ => (pe_gx g__law_part ⟨rfl, rfl, rfl, rfl, rfl⟩ (hr.mono (by decide)) rfl tk_none (pa_cons (pv 0) pa_nil)))))), (rs_ret (re_lc (ri_rng1 (ra_cons (re_call (ra_cons re_var (ra_cons (re_lst (ra_cons (re_c (v := .int 0) (d := .int 0) fun _ => rfl) (ra_cons (re_c (v := .int 1) (d := .int 1) fun _ => rfl) (ra_cons (re_c (v := .int 1) (d := .int 1) fun _ => rfl) (ra_cons (re_c (v := .int 1) (d := .int 1) fun _ => rfl) (ra_cons (re_cb ro_min (ra_cons (re_c (v := .int 2) (d := .int 2) fun _ => rfl) (ra_cons re_var ra_nil))) (ra_cons re_var ra_nil))))))) ra_nil))) ra_nil)) (rg_name (by decide)) rt_yes (re_call (ra_cons re_var ra_nil))))⟩)
theorem gv__law_met (T : Tx P c mg ea) {A : Around} {stk : List Env} (hA : A.guards = some []) (hr : Room 2 A) {q : Str} (g : Addr) (cdg : Value) : GivesY P c.w c.K mg base A stk c ["_law_call", "e"] "_law_met" (defScope s__law_met) g cdg (defBody s__law_met) "_law_call" q BL__law_met := by
  intro f c' s H tl hyp
  have hr1 := hr.deeper (envOfC "_law_met" (defScope s__law_met) s.heap.objs.size g cdg)
  refine ⟨_, (pss_cons (ps_try_all (K := c.K) (Wout := (none : Option WX).getD wF) rfl rfl rfl takes0 (fun W pn xe tk po => (pss_one (ps_expr (hyp W pn xe _ _ tk)))) (HdsA.only (c := xcV c (.own 1)) ⟨rfl, by decide, .inl T.xm_InvalidCutter⟩ (fun a oe cls d pn hz hf => (pss_one (ps_ret pe_str))) (HdsA.as (i := 1) (c := xcV c (.own 4)) sc__law_met.nd rfl rfl ⟨rfl, by decide, .inl T.xm_InvalidRule⟩ (fun a oe cls d pn hz hf => (pss_one (ps_ret (pe_ifExp (pt_val (pe_callB (call_isX (c := c) rfl hz hf) (by rfl) T.m_isinstance (by decide +kernel) (pa_cons (pv 1) (pa_cons (pe_bty "ValueError" rfl T.m_ValueError (by decide +kernel)) pa_nil)))) pe_str pe_str)))) (HdsA.only (c := xcV c (.own 3)) ⟨rfl, by decide, .inl T.xm_InvalidBundle⟩ (fun a oe cls d pn hz hf => (pss_one (ps_ret pe_str))) (HdsA.only (c := xcV c (.own 2)) ⟨rfl, by decide, .inl T.xm_InvalidCompany⟩ (fun a oe cls d pn hz hf => (pss_one (ps_ret pe_str))) (HdsA.only (c := xcV c (.own 9)) ⟨rfl, by decide, .inl T.xm_InvalidOperation⟩ (fun a oe cls d pn hz hf => (pss_one (ps_ret pe_str))) (HdsA.as (i := 1) (c := xcV c (.own 11)) sc__law_met.nd rfl rfl ⟨rfl, by decide, .inl T.xm_UnknownName⟩ (fun a oe cls d pn hz hf => (pss_one (ps_ret (pe_ifExp (pt_val (pe_callB (call_isXD (c := c) rfl hz hf) (by rfl) T.m_isinstance (by decide +kernel) (pa_cons (pv 1) (pa_cons (pe_bty "KeyError" rfl T.m_KeyError (by decide +kernel)) pa_nil)))) (pe_op (opAdd (K := c.K) rfl) pe_str (pe_callB (callReprQ (c := c) rfl hA hr1.units) (by rfl) T.m_repr (by decide +kernel) (pa_cons (pe_xfX T.x_UnknownName.xf ⟨rfl, rfl, rfl, rfl, rfl⟩ T.x_UnknownName.up.nf hz hf (pv 1)) pa_nil))) pe_str)))) HdsA.nil))))))) (pss_one (ps_ret pe_str))), fun F m hF hl => ?_⟩
  exact (rs_seq (rs_tryA (fun W => (rs_expr (re_act hF hl))) (RHs.only (h := .own 1) (meetsX_own T.meet_InvalidCutter) (fun a cls d => (rs_ret (re_c (v := .str "cutter") (d := .str "cutter") fun _ => rfl))) (RHs.as (h := .own 4) (meetsX_own T.meet_InvalidRule) (fun a D d => (rs_ret (re_if (rt_B (re_isX (h := .blt "ValueError") rfl T.ki_InvalidRule_ValueError)) (re_c (v := .str "rule") (d := .str "rule") fun _ => rfl) (re_c (v := .str "wrong") (d := .str "wrong") fun _ => rfl)))) (RHs.only (h := .own 3) (meetsX_own T.meet_InvalidBundle) (fun a cls d => (rs_ret (re_c (v := .str "bundle") (d := .str "bundle") fun _ => rfl))) (RHs.only (h := .own 2) (meetsX_own T.meet_InvalidCompany) (fun a cls d => (rs_ret (re_c (v := .str "company") (d := .str "company") fun _ => rfl))) (RHs.only (h := .own 9) (meetsX_own T.meet_InvalidOperation) (fun a cls d => (rs_ret (re_c (v := .str "operation") (d := .str "operation") fun _ => rfl))) (RHs.as (h := .own 11) (meetsX_own T.meet_UnknownName) (fun a D d => (rs_ret (re_if (rt_B (re_isXD (h := .blt "KeyError") rfl T.ki_UnknownName_KeyError)) (re_op ro_add (re_c (v := .str "name ") (d := .str "name ") fun _ => rfl) (re_cb ro_reprQF (ra_cons re_xf ra_nil))) (re_c (v := .str "wrong") (d := .str "wrong") fun _ => rfl)))) RHs.nil))))))) (rs_ret (re_c (v := .str "fine") (d := .str "fine") fun _ => rfl)))
theorem gx__law_made_right (T : Tx P c mg ea) (tb__law_made_right : LamX.TabB base mg ea.a__law_made_right ea.t__law_made_right) (g_Rule___init___k1 : Gix P c mg base 2 25 ea.f_Rule___init__ (kwI 1 0 [(false, 0)] [.bl false] W_Rule___init__)) (g_Rule___init___k1_sees_lost : Gkx P c mg base 2 25 ea.f_Rule___init__ 1 ["sees_lost"] (kwI 1 1 [(true, 0)] [] W_Rule___init__)) (g_Cutter_parts : Gmx P c mg base 1 ea.f_Cutter_parts W_Cutter_parts) (g__law_one_of : Gfx P c mg base "_law_one_of" 2 W__law_one_of) : Ggx P c mg base "_law_made_right" 6 ["_law_dice_here", "_law_cutter"] W__law_made_right := by
  rw [W__law_made_right_eq]
  exact ggx_ofL T.D__law_made_right sc__law_made_right rfl rfl (fun f A outer s H E hA hr => ⟨_, (pss_cons (ps_set (i := 2) sc__law_made_right.nd rfl (by first | exact Or.inl rfl | exact Or.inr rfl) (pe_gx g__law_one_of ⟨rfl, rfl, rfl, rfl, rfl⟩ (hr.mono (by decide)) rfl tk_none (pa_cons (pv 0) (pa_cons (pe_lst (pa_cons pe_non (pa_cons pe_int (pa_cons pe_str (pa_cons (pe_tup (pa_cons pe_str pa_nil)) (pa_cons (pe_lst (pa_cons (pv 1) pa_nil)) (pa_cons (pe_frz pe_dnewK) (pa_cons pe_bl (pa_cons (pe_mk T.mk_Rule g_Rule___init___k1 ⟨rfl, rfl, rfl, rfl, rfl⟩ (hr.mono (by decide)) rfl tk_none (pa_cons (pv 1) pa_nil)) (pa_cons (pe_prop (k := 1) (pv 1) T.kls (prs_cons T.p_Cutter_parts g_Cutter_parts prs_nil) ⟨rfl, rfl, rfl, rfl, rfl⟩ (hr.mono (by decide))) pa_nil)))))))))) pa_nil)))) (pss_cons (ps_set (i := 3) sc__law_made_right.nd rfl (by first | exact Or.inl rfl | exact Or.inr rfl) (pe_gx g__law_one_of ⟨rfl, rfl, rfl, rfl, rfl⟩ (hr.mono (by decide)) rfl tk_none (pa_cons (pv 0) (pa_cons (pe_lst (pa_cons pe_non (pa_cons pe_int (pa_cons pe_int (pa_cons pe_str (pa_cons (pe_tup pa_nil) (pa_cons (pe_lst pa_nil) (pa_cons (pe_frz pe_dnewK) (pa_cons (pv 1) pa_nil))))))))) pa_nil)))) (pss_cons (ps_set (i := 4) sc__law_made_right.nd rfl (by first | exact Or.inl rfl | exact Or.inr rfl) (pe_lst (pa_cons (pe_lamQ (q0 := (("_law_made_right" : PySem.Str) ++ ".<locals>.")) (sc := defScope s__law_made_right) (k := 3) (n := 2) (B := BL__law_met) rfl rfl ⟨rfl, rfl, rfl, rfl, rfl⟩ rfl T.D__law_met sc__law_met rfl rfl (by first | exact Or.inl rfl | exact Or.inr (Or.inl rfl) | exact Or.inr (Or.inr rfl)) (fun g cdv => gives_of (gv__law_met T (by exact hA) (by exact hr.mono (by decide)) g cdv)) tb__law_made_right rfl T.tm__law_made_right T.tu__law_made_right (hr.mono (by decide)) (by decide +kernel) rfl (fun _ _ _ _ _ => rfl) (fun A outer s H E f c' hr2 => (pe_mk T.mk_Rule g_Rule___init___k1 ⟨rfl, rfl, rfl, rfl, rfl⟩ (hr2.mono (by decide)) rfl (tk_some (takes_of rfl rfl rfl rfl)) (pa_cons (pv 2) pa_nil)))) pa_nil))) (pss_cons (ps_expr (peBm (K := c.K) rfl PySem.F.plainAttrs_list PySem.F.slot_list_append PySem.F.type_list_append mt_append (pv 4) (pa_cons (pe_lamQ (q0 := (("_law_made_right" : PySem.Str) ++ ".<locals>.")) (sc := defScope s__law_made_right) (k := 3) (n := 2) (B := BL__law_met) rfl rfl ⟨rfl, rfl, rfl, rfl, rfl⟩ rfl T.D__law_met sc__law_met rfl rfl (by first | exact Or.inl rfl | exact Or.inr (Or.inl rfl) | exact Or.inr (Or.inr rfl)) (fun g cdv => gives_of (gv__law_met T (by exact hA) (by exact hr.mono (by decide)) g cdv)) tb__law_made_right rfl T.tm__law_made_right T.tu__law_made_right (hr.mono (by decide)) (by decide +kernel) rfl (fun _ _ _ _ _ => rfl) (fun A outer s H E f c' hr2 => (pe_mkK T.mk_Rule g_Rule___init___k1_sees_lost ⟨rfl, rfl, rfl, rfl, rfl⟩ (hr2.mono (by decide)) rfl (tk_some (takes_of rfl rfl rfl rfl)) (pa_cons (pv 2) pa_nil) (pk_cons (pv 3) pk_nil)))) pa_nil))) (pss_cons (ps_expr (peBm (K := c.K) rfl PySem.F.plainAttrs_list PySem.F.slot_list_append PySem.F.type_list_append mt_append (pv 4) (pa_cons (pe_lamQ (q0 := (("_law_made_right" : PySem.Str) ++ ".<locals>.")) (sc := defScope s__law_made_right) (k := 3) (n := 2) (B := BL__law_met) rfl rfl ⟨rfl, rfl, rfl, rfl, rfl⟩ rfl T.D__law_met sc__law_met rfl rfl (by first | exact Or.inl rfl | exact Or.inr (Or.inl rfl) | exact Or.inr (Or.inr rfl)) (fun g cdv => gives_of (gv__law_met T (by exact hA) (by exact hr.mono (by decide)) g cdv)) tb__law_made_right rfl T.tm__law_made_right T.tu__law_made_right (hr.mono (by decide)) (by decide +kernel) rfl (fun _ _ _ _ _ => rfl) (fun A outer s H E f c' hr2 => (pe_mkK T.mk_Rule g_Rule___init___k1_sees_lost ⟨rfl, rfl, rfl, rfl, rfl⟩ (hr2.mono (by decide)) rfl (tk_some (takes_of rfl rfl rfl rfl)) (pa_cons (pv 1) pa_nil) (pk_cons (pv 3) pk_nil)))) pa_nil))) (pss_one (ps_ret (pe_and (pe_cmpR (opEq (K := c.K) rfl hr.units) (pv 4) (pe_lst (pa_cons pe_str (pa_cons pe_str (pa_cons pe_str pa_nil)))) (nomark _)) (pe_one (pe_cmpR (opEq (K := c.K) rfl hr.units) (pe_lamQ (q0 := (("_law_made_right" : PySem.Str) ++ ".<locals>.")) (sc := defScope s__law_made_right) (k := 3) (n := 2) (B := BL__law_met) rfl rfl ⟨rfl, rfl, rfl, rfl, rfl⟩ rfl T.D__law_met sc__law_met rfl rfl (by first | exact Or.inl rfl | exact Or.inr (Or.inl rfl) | exact Or.inr (Or.inr rfl)) (fun g cdv => gives_of (gv__law_met T (by exact hA) (by exact hr.mono (by decide)) g cdv)) tb__law_made_right rfl T.tm__law_made_right T.tu__law_made_right (hr.mono (by decide)) (by decide +kernel) rfl (fun _ _ _ _ _ => rfl) (fun A outer s H E f c' hr2 => (pe_mkK T.mk_Rule g_Rule___init___k1_sees_lost ⟨rfl, rfl, rfl, rfl, rfl⟩ (hr2.mono (by decide)) rfl (tk_some (takes_of rfl rfl rfl rfl)) (pa_cons (pv 1) pa_nil) (pk_cons pe_bl pk_nil)))) pe_str (nomark _))))))))))), (rs_seq (rs_asg (re_call (ra_cons re_var (ra_cons (re_lst (ra_cons (re_c (v := .non) (d := .non) fun _ => rfl) (ra_cons (re_c (v := .int 0) (d := .int 0) fun _ => rfl) (ra_cons (re_c (v := .str "all") (d := .str "all") fun _ => rfl) (ra_cons (re_tup (ra_cons (re_c (v := .str "all") (d := .str "all") fun _ => rfl) ra_nil)) (ra_cons (re_lst (ra_cons re_var ra_nil)) (ra_cons re_dnew (ra_cons (re_c (v := .bl true) (d := .bl true) fun _ => rfl) (ra_cons (re_make (ra_cons re_var ra_nil)) (ra_cons (re_prop re_var) ra_nil)))))))))) ra_nil))) rl_name) (rs_seq (rs_asg (re_call (ra_cons re_var (ra_cons (re_lst (ra_cons (re_c (v := .non) (d := .non) fun _ => rfl) (ra_cons (re_c (v := .int 0) (d := .int 0) fun _ => rfl) (ra_cons (re_c (v := .int 1) (d := .int 1) fun _ => rfl) (ra_cons (re_c (v := .str "yes") (d := .str "yes") fun _ => rfl) (ra_cons (re_tup ra_nil) (ra_cons (re_lst ra_nil) (ra_cons re_dnew (ra_cons re_var ra_nil))))))))) ra_nil))) rl_name) (rs_seq (rs_newL (ra_cons (re_lam (fun E => (re_make (ra_cons re_var ra_nil)))) ra_nil)) (rs_seq (rs_append (ra_cons (re_lam (fun E => (re_makeK (m := 1) (ra_cons re_var ra_nil) (ra_cons re_var ra_nil)))) ra_nil)) (rs_seq (rs_append (ra_cons (re_lam (fun E => (re_makeK (m := 1) (ra_cons re_var ra_nil) (ra_cons re_var ra_nil)))) ra_nil)) (rs_tell (rs_ret (re_and (re_op ro_eq re_var (re_lst (ra_cons (re_c (v := .str "cutter") (d := .str "cutter") fun _ => rfl) (ra_cons (re_c (v := .str "cutter") (d := .str "cutter") fun _ => rfl) (ra_cons (re_c (v := .str "rule") (d := .str "rule") fun _ => rfl) ra_nil))))) (re_op ro_eq (re_lam (fun E => (re_makeK (m := 1) (ra_cons re_var ra_nil) (ra_cons (re_c (v := .bl false) (d := .bl false) fun _ => rfl) ra_nil)))) (re_c (v := .str "fine") (d := .str "fine") fun _ => rfl))))))))))⟩)
theorem gx_Bundle_letters (T : Tx P c mg ea)  : Gmx P c mg base 1 ea.f_Bundle_letters W_Bundle_letters := by
  rw [W_Bundle_letters_eq]
  exact gmx_of T.D_Bundle_letters sc_Bundle_letters rfl rfl (fun cdv A outer s H E hr => ⟨_, (pss_one (ps_ret (peFld (K := c.K) rfl (pv 0)))), (rs_ret (re_fld T.kls (nof_cons T.n_Known_bundles_own_letters (nof_cons T.n_Bundle_own_letters nof_nil)) re_var))⟩)
theorem gx_Bundle___len__ (T : Tx P c mg ea)  : Gmx P c mg base 1 ea.f_Bundle___len__ W_Bundle___len__ := by
  rw [W_Bundle___len___eq]
  exact gmx_of T.D_Bundle___len__ sc_Bundle___len__ rfl rfl (fun cdv A outer s H E hr => ⟨_, (pss_one (ps_ret (pe_callB (callLen (K := c.K) rfl) (by rfl) T.m_len (by decide +kernel) (pa_cons (peFld (K := c.K) rfl (pv 0)) pa_nil)))), (rs_ret (re_cb ro_len (ra_cons (re_fld T.kls (nof_cons T.n_Known_bundles_own_letters (nof_cons T.n_Bundle_own_letters nof_nil)) re_var) ra_nil)))⟩)
theorem gx_Company_people (T : Tx P c mg ea)  : Gmx P c mg base 1 ea.f_Company_people W_Company_people := by
  rw [W_Company_people_eq]
  exact gmx_of T.D_Company_people sc_Company_people rfl rfl (fun cdv A outer s H E hr => ⟨_, (pss_one (ps_ret (peFld (K := c.K) rfl (pv 0)))), (rs_ret (re_fld T.kls (nof_cons T.n_Company_own_people nof_nil) re_var))⟩)
theorem gx_Cutter_is_within (T : Tx P c mg ea) (g_require_cutter : Gfx P c mg base "require_cutter" 1 W_require_cutter) (g_kept_places : Gfx P c mg base "kept_places" 1 W_kept_places) : Gmx P c mg base 2 ea.f_Cutter_is_within W_Cutter_is_within := by
  rw [W_Cutter_is_within_eq]
  exact gmx_of T.D_Cutter_is_within sc_Cutter_is_within rfl rfl (fun cdv A outer s H E hr => ⟨_, (pss_cons (ps_expr (pe_gx g_require_cutter ⟨rfl, rfl, rfl, rfl, rfl⟩ (hr.mono (by decide)) rfl (tk_some (takes_of rfl rfl rfl rfl)) (pa_cons (pv 1) pa_nil))) (pss_one (ps_ret (pe_callB (callAll (K := c.K) rfl rfl) (by rfl) T.m_all (by decide +kernel) (pa_cons (pe_lc2 (own := [("many", 2), ("place", 3)]) (vs1 := [3]) rfl sc_Cutter_is_within.nd (pi_range1 rfl T.m_range (pa_cons (pe_op (opAdd (K := c.K) rfl) (pe_g rfl T.g_FEW) pe_int) pa_nil)) (blkOk_by (own := [("many", 2), ("place", 3)]) (N := ["self", "other", "many", "place"]) (sc := defScope s_Cutter_is_within) (by decide +kernel)) (by decide) (fun _ _ _ _ _ => (pg_name (i := 2) sc_Cutter_is_within.nd rfl (by first | exact Or.inl rfl | exact Or.inr rfl))) (fun _ _ _ _ _ => pts_nil) (fun _ _ _ _ _ => (piAny (K := c.K) rfl (pe_gx g_kept_places ⟨rfl, rfl, rfl, rfl, rfl⟩ (hr.mono (by decide)) rfl tk_none (pa_cons (pv 0) (pa_cons (pv 2) pa_nil))))) (fun _ _ _ _ _ => (pg_name (i := 3) sc_Cutter_is_within.nd rfl (by first | exact Or.inl rfl | exact Or.inr rfl))) (fun _ _ _ _ _ => pts_nil) (fun _ _ _ _ _ => (pe_cmpR (opIn (K := c.K) rfl) (pv 3) (pe_gx g_kept_places ⟨rfl, rfl, rfl, rfl, rfl⟩ (hr.mono (by decide)) rfl tk_none (pa_cons (pv 1) (pa_cons (pv 2) pa_nil))) rfl))) pa_nil))))), (rs_seq (rs_expr (re_call (ra_cons re_var ra_nil))) (rs_ret (re_cb ro_all (ra_cons (re_fresh (rf_lc2 (by decide) (ri_rng1 (ra_cons (re_op ro_add (re_c (v := .int 5) (d := .int 5) fun _ => rfl) (re_c (v := .int 2) (d := .int 2) fun _ => rfl)) ra_nil)) (rg_name (by decide)) rt_yes (ri_any (re_call (ra_cons re_var (ra_cons re_var ra_nil)))) (rg_name (by decide)) rt_yes (re_op ro_in re_var (re_call (ra_cons re_var (ra_cons re_var ra_nil)))))) ra_nil))))⟩)
theorem gx_require_rule (T : Tx P c mg ea)  : Gfx P c mg base "require_rule" 1 W_require_rule := by
  rw [W_require_rule_eq]
  exact gfx_of T.D_require_rule sc_require_rule rfl rfl (fun f cdv A outer s H E hr => ⟨_, (pss_one (ps_if (pt_not (pt_val (pe_callB (callIsi (K := c.K) rfl) (by rfl) T.m_isinstance (by decide +kernel) (pa_cons (pv 0) (pa_cons (pe_cl rfl T.k_Rule.m) pa_nil))))) (pss_one (ps_raise0 PySem.F.excBase_ValueError T.x_InvalidRule.xi T.x_InvalidRule.m T.x_InvalidRule.kp (raises_own T.x_InvalidRule.sb T.x_InvalidRule.ty) rfl (takes_of rfl rfl rfl rfl) rfl)) pss_nil)), (rs_if (rt_not (rt_B (re_cb (ro_isi T.kls) (ra_cons re_var (ra_cons (re_c fun _ => ⟨rfl, T.k_Rule.cl⟩) ra_nil))))) rs_raise0 rs_next)⟩)
theorem gx_Rule_is_within (T : Tx P c mg ea) (g_Cutter_is_within : Gmx P c mg base 2 ea.f_Cutter_is_within W_Cutter_is_within) (g_require_rule : Gfx P c mg base "require_rule" 1 W_require_rule) : Gmx P c mg base 3 ea.f_Rule_is_within W_Rule_is_within := by
  rw [W_Rule_is_within_eq]
  exact gmx_of T.D_Rule_is_within sc_Rule_is_within rfl rfl (fun cdv A outer s H E hr => ⟨_, (pss_cons (ps_expr (pe_gx g_require_rule ⟨rfl, rfl, rfl, rfl, rfl⟩ (hr.mono (by decide)) rfl (tk_some (takes_of rfl rfl rfl rfl)) (pa_cons (pv 1) pa_nil))) (pss_one (ps_ret (pe_and (pe_meth (k := 2) (peFld (K := c.K) rfl (pv 0)) T.kls (mts_cons T.q_Cutter_is_within g_Cutter_is_within mts_nil) ⟨rfl, rfl, rfl, rfl, rfl⟩ (hr.mono (by decide)) (tk_some (takes_of rfl rfl rfl rfl)) (pa_cons (peFld (K := c.K) rfl (pv 1)) pa_nil)) (pe_one (pe_or (peFld (K := c.K) rfl (pv 1)) (pe_one (pe_not (peFld (K := c.K) rfl (pv 0)))))))))), (rs_seq (rs_expr (re_call (ra_cons re_var ra_nil))) (rs_ret (re_and (re_meth (re_fld T.kls (nof_cons T.n_Rule_own_cutter nof_nil) re_var) (ra_cons (re_fld T.kls (nof_cons T.n_Rule_own_cutter nof_nil) re_var) ra_nil)) (re_or (re_fld T.kls (nof_cons T.n_Rule_own_sees nof_nil) re_var) (re_not (re_fld T.kls (nof_cons T.n_Rule_own_sees nof_nil) re_var))))))⟩)
theorem gx_require_person (T : Tx P c mg ea)  : Gfx P c mg base "require_person" 2 W_require_person := by
  rw [W_require_person_eq]
  exact gfx_of T.D_require_person sc_require_person rfl rfl (fun f cdv A outer s H E hr => ⟨_, (pss_one (ps_if (PW.pt (pw_or (pt_not (pt_val (pe_callB (callIsi (K := c.K) rfl) (by rfl) T.m_isinstance (by decide +kernel) (pa_cons (pv 1) (pa_cons (pe_bty "str" rfl T.m_str (by decide +kernel)) pa_nil))))) (pw_or1 (pt_cmpR (opNotIn (K := c.K) rfl) (pv 1) (peFld (K := c.K) rfl (pv 0)) rfl)))) (pss_one (ps_raiseS T.x_UnknownName xst_UnknownName ⟨rfl, rfl, rfl, rfl, rfl⟩ (hr.mono (by decide)) rfl (takes_of rfl rfl rfl rfl) rfl (pa_cons (pv 1) pa_nil))) pss_nil)), (rs_if (rt_or (rt_not (rt_B (re_cb (ro_isi T.kls) (ra_cons re_var (ra_cons (re_c (v := .ty "str") (d := .ty "str") fun _ => rfl) ra_nil))))) (rt_test (re_op ro_nin re_var (re_fld T.kls (nof_cons T.n_Company_own_people nof_nil) re_var)))) (rs_raiseS (ra_cons re_var ra_nil)) rs_next)⟩)
theorem gx_Known_cutters___init__ (T : Tx P c mg ea)  : Gix P c mg base 1 20 ea.f_Known_cutters___init__ W_Known_cutters___init__ := by
  rw [W_Known_cutters___init___eq]
  exact gix_of T.D_Known_cutters___init__ sc_Known_cutters___init__ T.k_Known_cutters.cl rfl rfl (fun cdv A outer s H E hr => ⟨_, (pss_one (psFld (K := c.K) rfl (pv 0) (pv 1))), fun me => (rs_sfld T.kls (nof_cons T.n_Known_cutters_own_parts (nof_cons T.n_Cutter_own_parts nof_nil)) re_var)⟩)
theorem gx_chained (T : Tx P c mg ea) (g_Cutter___init__ : Gix P c mg base 3 21 ea.f_Cutter___init__ W_Cutter___init__) (g_Known_cutters___init__ : Gix P c mg base 1 20 ea.f_Known_cutters___init__ W_Known_cutters___init__) : Gfx P c mg base "chained" 5 W_chained := by
  rw [W_chained_eq]
  exact gfx_of T.D_chained sc_chained rfl rfl (fun f cdv A outer s H E hr => ⟨_, (pss_one (ps_ret (pe_mk T.mk_Cutter g_Cutter___init__ ⟨rfl, rfl, rfl, rfl, rfl⟩ (hr.mono (by decide)) rfl (tk_some (takes_of rfl rfl rfl rfl)) (pa_cons (pe_mk T.mk_Known_cutters g_Known_cutters___init__ ⟨rfl, rfl, rfl, rfl, rfl⟩ (hr.mono (by decide)) rfl (tk_some (takes_of rfl rfl rfl rfl)) (pa_cons (pe_tup (paStar (K := c.K) rfl (peFld (K := c.K) rfl (pv 0)) (paStar (K := c.K) rfl (peFld (K := c.K) rfl (pv 1)) pa_nil))) pa_nil)) pa_nil)))), (rs_ret (re_make (ra_cons (re_make (ra_cons (re_tup (ra_star (re_fld T.kls (nof_cons T.n_Known_cutters_own_parts (nof_cons T.n_Cutter_own_parts nof_nil)) re_var) (ra_star (re_fld T.kls (nof_cons T.n_Known_cutters_own_parts (nof_cons T.n_Cutter_own_parts nof_nil)) re_var) ra_nil))) ra_nil)) ra_nil)))⟩)
theorem gx_through_in (T : Tx P c mg ea) (g_chained : Gfx P c mg base "chained" 5 W_chained) : Gfx P c mg base "through_in" 6 W_through_in := by
  rw [W_through_in_eq]
  exact gfx_of T.D_through_in sc_through_in rfl rfl (fun f cdv A outer s H E hr => ⟨_, (pss_one (ps_ret (pe_gx g_chained ⟨rfl, rfl, rfl, rfl, rfl⟩ (hr.mono (by decide)) rfl (tk_some (takes_of rfl rfl rfl rfl)) (pa_cons (pe_dget (Nat.lt_of_le_of_lt (Nat.add_le_add_left (by decide) _) hr.units) (peFld (K := c.K) rfl (pv 1)) (pv 2) (fun _ _ => rfl)) (pa_cons (peFld (K := c.K) rfl (pv 0)) pa_nil))))), (rs_ret (re_call (ra_cons (re_dget (re_fld T.kls (nof_cons T.n_Company_own_copies nof_nil) re_var) re_var) (ra_cons (re_fld T.kls (nof_cons T.n_Rule_own_cutter nof_nil) re_var) ra_nil))))⟩)
theorem gx_Rule_through (T : Tx P c mg ea) (g_require_company : Gfx P c mg base "require_company" 1 W_require_company) (g_require_person : Gfx P c mg base "require_person" 2 W_require_person) (g_through_in : Gfx P c mg base "through_in" 6 W_through_in) : Gmx P c mg base 7 ea.f_Rule_through W_Rule_through := by
  rw [W_Rule_through_eq]
  exact gmx_of T.D_Rule_through sc_Rule_through rfl rfl (fun cdv A outer s H E hr => ⟨_, (pss_cons (ps_expr (pe_gx g_require_company ⟨rfl, rfl, rfl, rfl, rfl⟩ (hr.mono (by decide)) rfl (tk_some (takes_of rfl rfl rfl rfl)) (pa_cons (pv 1) pa_nil))) (pss_cons (ps_expr (pe_gx g_require_person ⟨rfl, rfl, rfl, rfl, rfl⟩ (hr.mono (by decide)) rfl (tk_some (takes_of rfl rfl rfl rfl)) (pa_cons (pv 1) (pa_cons (pv 2) pa_nil)))) (pss_one (ps_ret (pe_gx g_through_in ⟨rfl, rfl, rfl, rfl, rfl⟩ (hr.mono (by decide)) rfl (tk_some (takes_of rfl rfl rfl rfl)) (pa_cons (pv 0) (pa_cons (pv 1) (pa_cons (pv 2) pa_nil)))))))), (rs_seq (rs_expr (re_call (ra_cons re_var ra_nil))) (rs_seq (rs_expr (re_call (ra_cons re_var (ra_cons re_var ra_nil)))) (rs_ret (re_call (ra_cons re_var (ra_cons re_var (ra_cons re_var ra_nil)))))))⟩)
theorem gx_Cutter___call__ (T : Tx P c mg ea) (g_cut : Gfx P c mg base "cut" 2 W_cut) : Gmx P c mg base 3 ea.f_Cutter___call__ W_Cutter___call__ := by
  rw [W_Cutter___call___eq]
  exact gmx_of T.D_Cutter___call__ sc_Cutter___call__ rfl rfl (fun cdv A outer s H E hr => ⟨_, (pss_cons (ps_if (PW.pt (pw_or (pt_not (pt_val (pe_callB (callIsi (K := c.K) rfl) (by rfl) T.m_isinstance (by decide +kernel) (pa_cons (pv 1) (pa_cons (pe_bty "tuple" rfl T.m_tuple (by decide +kernel)) pa_nil))))) (pw_or1 (pt_cmpR op_gt (pe_callB (callLen (K := c.K) rfl) (by rfl) T.m_len (by decide +kernel) (pa_cons (pv 1) pa_nil)) (pe_g rfl T.g_MAX_ROW) (nomark _))))) (pss_one (ps_raise0 PySem.F.excBase_ValueError T.x_InvalidOperation.xi T.x_InvalidOperation.m T.x_InvalidOperation.kp (raises_own T.x_InvalidOperation.sb T.x_InvalidOperation.ty) rfl (takes_of rfl rfl rfl rfl) rfl)) pss_nil) (pss_one (ps_ret (pe_gx g_cut ⟨rfl, rfl, rfl, rfl, rfl⟩ (hr.mono (by decide)) rfl (tk_some (takes_of rfl rfl rfl rfl)) (pa_cons (pv 0) (pa_cons (pv 1) pa_nil)))))), (rs_seq (rs_if (rt_or (rt_not (rt_B (re_cb (ro_isi T.kls) (ra_cons re_var (ra_cons (re_c (v := .ty "tuple") (d := .ty "tuple") fun _ => rfl) ra_nil))))) (rt_test (re_op ro_cmp (re_cb ro_len (ra_cons re_var ra_nil)) (re_c (v := .int 1000) (d := .int 1000) fun _ => rfl)))) rs_raise0 rs_next) (rs_ret (re_call (ra_cons re_var (ra_cons re_var ra_nil)))))⟩)
theorem gx_Rule___call__ (T : Tx P c mg ea) (g_Cutter___call__ : Gmx P c mg base 3 ea.f_Cutter___call__ W_Cutter___call__) : Gmx P c mg base 4 ea.f_Rule___call__ W_Rule___call__ := by
  rw [W_Rule___call___eq]
  exact gmx_of T.D_Rule___call__ sc_Rule___call__ rfl rfl (fun cdv A outer s H E hr => ⟨_, (pss_one (ps_ret (pe_coF (k := 3) (pv 0) (cos_cons T.co_Cutter g_Cutter___call__ cos_nil) ⟨rfl, rfl, rfl, rfl, rfl⟩ (hr.mono (by decide)) (tk_some (takes_of rfl rfl rfl rfl)) (pa_cons (pv 1) pa_nil)))), (rs_ret (re_co (re_fld T.kls (nof_cons T.n_Rule_own_cutter nof_nil) re_var) (ra_cons re_var ra_nil)))⟩)
theorem gx__law_asked_right (T : Tx P c mg ea) (tb__law_asked_right : LamX.TabB base mg ea.a__law_asked_right ea.t__law_asked_right) (g_Rule_cutter : Gmx P c mg base 1 ea.f_Rule_cutter W_Rule_cutter) (g_Bundle_letters : Gmx P c mg base 1 ea.f_Bundle_letters W_Bundle_letters) (g_Bundle___len__ : Gmx P c mg base 1 ea.f_Bundle___len__ W_Bundle___len__) (g_Company_people : Gmx P c mg base 1 ea.f_Company_people W_Company_people) (g_Rule_is_within : Gmx P c mg base 3 ea.f_Rule_is_within W_Rule_is_within) (g_Rule_bound : Gmx P c mg base 4 ea.f_Rule_bound W_Rule_bound) (g_Rule_through : Gmx P c mg base 7 ea.f_Rule_through W_Rule_through) (g_Rule___call__ : Gmx P c mg base 4 ea.f_Rule___call__ W_Rule___call__) (g__law_one_of : Gfx P c mg base "_law_one_of" 2 W__law_one_of) : Ggx P c mg base "_law_asked_right" 10 ["_law_dice_here", "_law_rule", "_law_company", "_law_bundle"] W__law_asked_right := by
  rw [W__law_asked_right_eq]
  exact ggx_ofL T.D__law_asked_right sc__law_asked_right rfl rfl (fun f A outer s H E hA hr => ⟨_, (pss_cons (ps_set (i := 4) sc__law_asked_right.nd rfl (by first | exact Or.inl rfl | exact Or.inr rfl) (pe_gx g__law_one_of ⟨rfl, rfl, rfl, rfl, rfl⟩ (hr.mono (by decide)) rfl tk_none (pa_cons (pv 0) (pa_cons (pe_lst (pa_cons pe_non (pa_cons pe_int (pa_cons pe_str (pa_cons (pe_tup pa_nil) (pa_cons (pe_frz pe_dnewK) (pa_cons (pe_prop (k := 1) (pv 1) T.kls (prs_cons T.p_Rule_cutter g_Rule_cutter prs_nil) ⟨rfl, rfl, rfl, rfl, rfl⟩ (hr.mono (by decide))) (pa_cons (pv 3) (pa_cons (pe_lst (pa_cons (pv 1) pa_nil)) pa_nil))))))))) pa_nil)))) (pss_cons (ps_set (i := 5) sc__law_asked_right.nd rfl (by first | exact Or.inl rfl | exact Or.inr rfl) (pe_gx g__law_one_of ⟨rfl, rfl, rfl, rfl, rfl⟩ (hr.mono (by decide)) rfl tk_none (pa_cons (pv 0) (pa_cons (pe_lst (pa_cons pe_non (pa_cons pe_int (pa_cons pe_str (pa_cons (pe_tup pa_nil) (pa_cons (pv 2) (pa_cons (pv 1) (pa_cons (pe_prop (k := 1) (pv 3) T.kls (prs_cons T.p_Bundle_letters g_Bundle_letters prs_nil) ⟨rfl, rfl, rfl, rfl, rfl⟩ (hr.mono (by decide))) (pa_cons (pe_lst (pa_cons (pv 3) pa_nil)) (pa_cons (pe_frz pe_dnewK) pa_nil)))))))))) pa_nil)))) (pss_cons (ps_set (i := 6) sc__law_asked_right.nd rfl (by first | exact Or.inl rfl | exact Or.inr rfl) (pe_gx g__law_one_of ⟨rfl, rfl, rfl, rfl, rfl⟩ (hr.mono (by decide)) rfl tk_none (pa_cons (pv 0) (pa_cons (pe_lst (pa_cons pe_non (pa_cons (pe_un un_neg pe_int) (pa_cons (pe_callB (callLenO (n := 1) (dns_of (mts_cons T.q_Bundle___len__ g_Bundle___len__ mts_nil)) ⟨rfl, rfl, rfl, rfl, rfl⟩ (hr.mono (by decide))) (by rfl) T.m_len (by decide +kernel) (pa_cons (pv 3) pa_nil)) (pa_cons pe_bl (pa_cons pe_bl (pa_cons pe_str (pa_cons (pe_tup (pa_cons pe_int pa_nil)) (pa_cons (pe_lst (pa_cons pe_int pa_nil)) (pa_cons (pe_frz pe_dnewK) (pa_cons (pe_op op_powW pe_int pe_int) (pa_cons (pe_un un_neg (pe_op op_powW pe_int pe_int)) pa_nil)))))))))))) pa_nil)))) (pss_cons (ps_set (i := 7) sc__law_asked_right.nd rfl (by first | exact Or.inl rfl | exact Or.inr rfl) (pe_gx g__law_one_of ⟨rfl, rfl, rfl, rfl, rfl⟩ (hr.mono (by decide)) rfl tk_none (pa_cons (pv 0) (pa_cons (pe_lst (pa_cons pe_non (pa_cons pe_int (pa_cons pe_str (pa_cons (pv 3) (pa_cons (pv 1) (pa_cons (pe_tup pa_nil) (pa_cons (pe_frz pe_dnewK) (pa_cons (pe_prop (k := 1) (pv 2) T.kls (prs_cons T.p_Company_people g_Company_people prs_nil) ⟨rfl, rfl, rfl, rfl, rfl⟩ (hr.mono (by decide))) pa_nil))))))))) pa_nil)))) (pss_cons (ps_set (i := 8) sc__law_asked_right.nd rfl (by first | exact Or.inl rfl | exact Or.inr rfl) (pe_gx g__law_one_of ⟨rfl, rfl, rfl, rfl, rfl⟩ (hr.mono (by decide)) rfl tk_none (pa_cons (pv 0) (pa_cons (pe_lst (pa_cons pe_non (pa_cons pe_int (pa_cons pe_str (pa_cons pe_str (pa_cons pe_str (pa_cons (pe_tup (pa_cons pe_str pa_nil)) (pa_cons (pe_lst (pa_cons pe_str pa_nil)) (pa_cons (pe_frz pe_dnewK) (pa_cons pe_bl (pa_cons pe_str pa_nil))))))))))) pa_nil)))) (pss_cons (ps_set (i := 9) sc__law_asked_right.nd rfl (by first | exact Or.inl rfl | exact Or.inr rfl) (pe_gx g__law_one_of ⟨rfl, rfl, rfl, rfl, rfl⟩ (hr.mono (by decide)) rfl tk_none (pa_cons (pv 0) (pa_cons (pe_lst (pa_cons pe_non (pa_cons (pe_lst pa_nil) (pa_cons pe_str (pa_cons (pe_frz pe_dnewK) (pa_cons pe_int (pa_cons (pe_tupRg rfl (by rfl) T.m_tuple (prg_1 (by rfl) T.m_range pe_int)) (pa_cons (pe_lst (pa_cons pe_int pa_nil)) pa_nil)))))))) pa_nil)))) (pss_cons (ps_set (i := 10) sc__law_asked_right.nd rfl (by first | exact Or.inl rfl | exact Or.inr rfl) (pe_lst (pa_cons (pe_lamQ (q0 := (("_law_asked_right" : PySem.Str) ++ ".<locals>.")) (sc := defScope s__law_asked_right) (k := 7) (n := 2) (B := BL__law_met) rfl rfl ⟨rfl, rfl, rfl, rfl, rfl⟩ rfl T.D__law_met sc__law_met rfl rfl (by first | exact Or.inl rfl | exact Or.inr (Or.inl rfl) | exact Or.inr (Or.inr rfl)) (fun g cdv => gives_of (gv__law_met T (by exact hA) (by exact hr.mono (by decide)) g cdv)) tb__law_asked_right rfl T.tm__law_asked_right T.tu__law_asked_right (hr.mono (by decide)) (by decide +kernel) rfl (fun _ _ _ _ _ => rfl) (fun A outer s H E f c' hr2 => (pe_meth (k := 3) (pv 1) T.kls (mts_cons T.q_Rule_is_within g_Rule_is_within mts_nil) ⟨rfl, rfl, rfl, rfl, rfl⟩ (hr2.mono (by decide)) (tk_some (takes_of rfl rfl rfl rfl)) (pa_cons (pv 4) pa_nil)))) pa_nil))) (pss_cons (ps_expr (peBm (K := c.K) rfl PySem.F.plainAttrs_list PySem.F.slot_list_append PySem.F.type_list_append mt_append (pv 10) (pa_cons (pe_lamQ (q0 := (("_law_asked_right" : PySem.Str) ++ ".<locals>.")) (sc := defScope s__law_asked_right) (k := 7) (n := 2) (B := BL__law_met) rfl rfl ⟨rfl, rfl, rfl, rfl, rfl⟩ rfl T.D__law_met sc__law_met rfl rfl (by first | exact Or.inl rfl | exact Or.inr (Or.inl rfl) | exact Or.inr (Or.inr rfl)) (fun g cdv => gives_of (gv__law_met T (by exact hA) (by exact hr.mono (by decide)) g cdv)) tb__law_asked_right rfl T.tm__law_asked_right T.tu__law_asked_right (hr.mono (by decide)) (by decide +kernel) rfl (fun _ _ _ _ _ => rfl) (fun A outer s H E f c' hr2 => (pe_meth (k := 4) (pv 1) T.kls (mts_cons T.q_Rule_bound g_Rule_bound mts_nil) ⟨rfl, rfl, rfl, rfl, rfl⟩ (hr2.mono (by decide)) (tk_some (takes_of rfl rfl rfl rfl)) (pa_cons (pv 5) (pa_cons (pv 6) pa_nil))))) pa_nil))) (pss_cons (ps_expr (peBm (K := c.K) rfl PySem.F.plainAttrs_list PySem.F.slot_list_append PySem.F.type_list_append mt_append (pv 10) (pa_cons (pe_lamQ (q0 := (("_law_asked_right" : PySem.Str) ++ ".<locals>.")) (sc := defScope s__law_asked_right) (k := 7) (n := 2) (B := BL__law_met) rfl rfl ⟨rfl, rfl, rfl, rfl, rfl⟩ rfl T.D__law_met sc__law_met rfl rfl (by first | exact Or.inl rfl | exact Or.inr (Or.inl rfl) | exact Or.inr (Or.inr rfl)) (fun g cdv => gives_of (gv__law_met T (by exact hA) (by exact hr.mono (by decide)) g cdv)) tb__law_asked_right rfl T.tm__law_asked_right T.tu__law_asked_right (hr.mono (by decide)) (by decide +kernel) rfl (fun _ _ _ _ _ => rfl) (fun A outer s H E f c' hr2 => (pe_meth (k := 4) (pv 1) T.kls (mts_cons T.q_Rule_bound g_Rule_bound mts_nil) ⟨rfl, rfl, rfl, rfl, rfl⟩ (hr2.mono (by decide)) (tk_some (takes_of rfl rfl rfl rfl)) (pa_cons (pv 3) (pa_cons (pv 6) pa_nil))))) pa_nil))) (pss_cons (ps_expr (peBm (K := c.K) rfl PySem.F.plainAttrs_list PySem.F.slot_list_append PySem.F.type_list_append mt_append (pv 10) (pa_cons (pe_lamQ (q0 := (("_law_asked_right" : PySem.Str) ++ ".<locals>.")) (sc := defScope s__law_asked_right) (k := 7) (n := 2) (B := BL__law_met) rfl rfl ⟨rfl, rfl, rfl, rfl, rfl⟩ rfl T.D__law_met sc__law_met rfl rfl (by first | exact Or.inl rfl | exact Or.inr (Or.inl rfl) | exact Or.inr (Or.inr rfl)) (fun g cdv => gives_of (gv__law_met T (by exact hA) (by exact hr.mono (by decide)) g cdv)) tb__law_asked_right rfl T.tm__law_asked_right T.tu__law_asked_right (hr.mono (by decide)) (by decide +kernel) rfl (fun _ _ _ _ _ => rfl) (fun A outer s H E f c' hr2 => (pe_meth (k := 7) (pv 1) T.kls (mts_cons T.q_Rule_through g_Rule_through mts_nil) ⟨rfl, rfl, rfl, rfl, rfl⟩ (hr2.mono (by decide)) (tk_some (takes_of rfl rfl rfl rfl)) (pa_cons (pv 7) (pa_cons (pv 8) pa_nil))))) pa_nil))) (pss_cons (ps_expr (peBm (K := c.K) rfl PySem.F.plainAttrs_list PySem.F.slot_list_append PySem.F.type_list_append mt_append (pv 10) (pa_cons (pe_lamQ (q0 := (("_law_asked_right" : PySem.Str) ++ ".<locals>.")) (sc := defScope s__law_asked_right) (k := 7) (n := 2) (B := BL__law_met) rfl rfl ⟨rfl, rfl, rfl, rfl, rfl⟩ rfl T.D__law_met sc__law_met rfl rfl (by first | exact Or.inl rfl | exact Or.inr (Or.inl rfl) | exact Or.inr (Or.inr rfl)) (fun g cdv => gives_of (gv__law_met T (by exact hA) (by exact hr.mono (by decide)) g cdv)) tb__law_asked_right rfl T.tm__law_asked_right T.tu__law_asked_right (hr.mono (by decide)) (by decide +kernel) rfl (fun _ _ _ _ _ => rfl) (fun A outer s H E f c' hr2 => (pe_meth (k := 7) (pv 1) T.kls (mts_cons T.q_Rule_through g_Rule_through mts_nil) ⟨rfl, rfl, rfl, rfl, rfl⟩ (hr2.mono (by decide)) (tk_some (takes_of rfl rfl rfl rfl)) (pa_cons (pv 2) (pa_cons (pv 8) pa_nil))))) pa_nil))) (pss_cons (ps_expr (peBm (K := c.K) rfl PySem.F.plainAttrs_list PySem.F.slot_list_append PySem.F.type_list_append mt_append (pv 10) (pa_cons (pe_lamQ (q0 := (("_law_asked_right" : PySem.Str) ++ ".<locals>.")) (sc := defScope s__law_asked_right) (k := 7) (n := 2) (B := BL__law_met) rfl rfl ⟨rfl, rfl, rfl, rfl, rfl⟩ rfl T.D__law_met sc__law_met rfl rfl (by first | exact Or.inl rfl | exact Or.inr (Or.inl rfl) | exact Or.inr (Or.inr rfl)) (fun g cdv => gives_of (gv__law_met T (by exact hA) (by exact hr.mono (by decide)) g cdv)) tb__law_asked_right rfl T.tm__law_asked_right T.tu__law_asked_right (hr.mono (by decide)) (by decide +kernel) rfl (fun _ _ _ _ _ => rfl) (fun A outer s H E f c' hr2 => (pe_co (k := 4) (pv 1) (cos_cons T.co_Rule g_Rule___call__ cos_nil) ⟨rfl, rfl, rfl, rfl, rfl⟩ (hr2.mono (by decide)) (tk_some (takes_of rfl rfl rfl rfl)) (pa_cons (pv 9) pa_nil)))) pa_nil))) (pss_cons (ps_set (i := 11) sc__law_asked_right.nd rfl (by first | exact Or.inl rfl | exact Or.inr rfl) (pe_lst (pa_cons pe_str (pa_cons pe_str (pa_cons (pe_op (opAdd (K := c.K) rfl) pe_str (pe_callB (callReprQ (c := c) rfl hA hr.units) (by rfl) T.m_repr (by decide +kernel) (pa_cons (pv 6) pa_nil))) (pa_cons pe_str (pa_cons (pe_op (opAdd (K := c.K) rfl) pe_str (pe_callB (callReprQ (c := c) rfl hA hr.units) (by rfl) T.m_repr (by decide +kernel) (pa_cons (pv 8) pa_nil))) (pa_cons pe_str pa_nil)))))))) (pss_one (ps_ret (pe_cmpR (opEq (K := c.K) rfl hr.units) (pv 10) (pv 11) (nomark _))))))))))))))))), (rs_seq (rs_asg (re_call (ra_cons re_var (ra_cons (re_lst (ra_cons (re_c (v := .non) (d := .non) fun _ => rfl) (ra_cons (re_c (v := .int 0) (d := .int 0) fun _ => rfl) (ra_cons (re_c (v := .str "rule") (d := .str "rule") fun _ => rfl) (ra_cons (re_tup ra_nil) (ra_cons re_dnew (ra_cons (re_prop re_var) (ra_cons re_var (ra_cons (re_lst (ra_cons re_var ra_nil)) ra_nil))))))))) ra_nil))) rl_name) (rs_seq (rs_asg (re_call (ra_cons re_var (ra_cons (re_lst (ra_cons (re_c (v := .non) (d := .non) fun _ => rfl) (ra_cons (re_c (v := .int 0) (d := .int 0) fun _ => rfl) (ra_cons (re_c (v := .str "bundle") (d := .str "bundle") fun _ => rfl) (ra_cons (re_tup ra_nil) (ra_cons re_var (ra_cons re_var (ra_cons (re_prop re_var) (ra_cons (re_lst (ra_cons re_var ra_nil)) (ra_cons re_dnew ra_nil)))))))))) ra_nil))) rl_name) (rs_seq (rs_asg (re_call (ra_cons re_var (ra_cons (re_lst (ra_cons (re_c (v := .non) (d := .non) fun _ => rfl) (ra_cons (re_un ro_neg (re_c (v := .int 1) (d := .int 1) fun _ => rfl)) (ra_cons (re_cb ro_lenO (ra_cons re_var ra_nil)) (ra_cons (re_c (v := .bl true) (d := .bl true) fun _ => rfl) (ra_cons (re_c (v := .bl false) (d := .bl false) fun _ => rfl) (ra_cons (re_c (v := .str "0") (d := .str "0") fun _ => rfl) (ra_cons (re_tup (ra_cons (re_c (v := .int 0) (d := .int 0) fun _ => rfl) ra_nil)) (ra_cons (re_lst (ra_cons (re_c (v := .int 0) (d := .int 0) fun _ => rfl) ra_nil)) (ra_cons re_dnew (ra_cons (re_op ro_pow (re_c (v := .int 10) (d := .int 10) fun _ => rfl) (re_c (v := .int 39) (d := .int 39) fun _ => rfl)) (ra_cons (re_un ro_neg (re_op ro_pow (re_c (v := .int 10) (d := .int 10) fun _ => rfl) (re_c (v := .int 11) (d := .int 11) fun _ => rfl))) ra_nil)))))))))))) ra_nil))) rl_name) (rs_seq (rs_asg (re_call (ra_cons re_var (ra_cons (re_lst (ra_cons (re_c (v := .non) (d := .non) fun _ => rfl) (ra_cons (re_c (v := .int 0) (d := .int 0) fun _ => rfl) (ra_cons (re_c (v := .str "company") (d := .str "company") fun _ => rfl) (ra_cons re_var (ra_cons re_var (ra_cons (re_tup ra_nil) (ra_cons re_dnew (ra_cons (re_prop re_var) ra_nil))))))))) ra_nil))) rl_name) (rs_seq (rs_asg (re_call (ra_cons re_var (ra_cons (re_lst (ra_cons (re_c (v := .non) (d := .non) fun _ => rfl) (ra_cons (re_c (v := .int 0) (d := .int 0) fun _ => rfl) (ra_cons (re_c (v := .str "eve") (d := .str "eve") fun _ => rfl) (ra_cons (re_c (v := .str "") (d := .str "") fun _ => rfl) (ra_cons (re_c (v := .str "Ann") (d := .str "Ann") fun _ => rfl) (ra_cons (re_tup (ra_cons (re_c (v := .str "ann") (d := .str "ann") fun _ => rfl) ra_nil)) (ra_cons (re_lst (ra_cons (re_c (v := .str "ann") (d := .str "ann") fun _ => rfl) ra_nil)) (ra_cons re_dnew (ra_cons (re_c (v := .bl true) (d := .bl true) fun _ => rfl) (ra_cons (re_c (v := .str "annn") (d := .str "annn") fun _ => rfl) ra_nil))))))))))) ra_nil))) rl_name) (rs_seq (rs_asg (re_call (ra_cons re_var (ra_cons (re_lst (ra_cons (re_c (v := .non) (d := .non) fun _ => rfl) (ra_cons (re_lst ra_nil) (ra_cons (re_c (v := .str "abc") (d := .str "abc") fun _ => rfl) (ra_cons re_dnew (ra_cons (re_c (v := .int 7) (d := .int 7) fun _ => rfl) (ra_cons (re_rgT (re_c (v := .int 1001) (d := .int 1001) fun _ => rfl)) (ra_cons (re_lst (ra_cons (re_c (v := .int 1) (d := .int 1) fun _ => rfl) ra_nil)) ra_nil)))))))) ra_nil))) rl_name) (rs_seq (rs_newL (ra_cons (re_lam (fun E => (re_meth re_var (ra_cons re_var ra_nil)))) ra_nil)) (rs_seq (rs_append (ra_cons (re_lam (fun E => (re_meth re_var (ra_cons re_var (ra_cons re_var ra_nil))))) ra_nil)) (rs_seq (rs_append (ra_cons (re_lam (fun E => (re_meth re_var (ra_cons re_var (ra_cons re_var ra_nil))))) ra_nil)) (rs_seq (rs_append (ra_cons (re_lam (fun E => (re_meth re_var (ra_cons re_var (ra_cons re_var ra_nil))))) ra_nil)) (rs_seq (rs_append (ra_cons (re_lam (fun E => (re_meth re_var (ra_cons re_var (ra_cons re_var ra_nil))))) ra_nil)) (rs_seq (rs_append (ra_cons (re_lam (fun E => (re_co re_var (ra_cons re_var ra_nil)))) ra_nil)) (rs_seq (rs_asg (re_lst (ra_cons (re_c (v := .str "rule") (d := .str "rule") fun _ => rfl) (ra_cons (re_c (v := .str "bundle") (d := .str "bundle") fun _ => rfl) (ra_cons (re_op ro_add (re_c (v := .str "name ") (d := .str "name ") fun _ => rfl) (re_cb ro_reprQ (ra_cons re_var ra_nil))) (ra_cons (re_c (v := .str "company") (d := .str "company") fun _ => rfl) (ra_cons (re_op ro_add (re_c (v := .str "name ") (d := .str "name ") fun _ => rfl) (re_cb ro_reprQ (ra_cons re_var ra_nil))) (ra_cons (re_c (v := .str "operation") (d := .str "operation") fun _ => rfl) ra_nil))))))) rl_name) (rs_tell (rs_ret (re_op ro_eq re_var re_var))))))))))))))))⟩)
theorem gx__law_right (T : Tx P c mg ea) (g_Cutter_of : Gmx P c mg base 5 ea.f_Cutter_of W_Cutter_of) (g_Company___init___k2_copies : Gkx P c mg base 5 22 ea.f_Company___init__ 2 ["copies"] (kwI 2 1 [(false, 0), (false, 1), (true, 0)] [.non, .non] W_Company___init__)) (g_Bundle___init__ : Gix P c mg base 5 24 ea.f_Bundle___init__ W_Bundle___init__) (g_Rule___init___k1_sees_lost : Gkx P c mg base 2 25 ea.f_Rule___init__ 1 ["sees_lost"] (kwI 1 1 [(true, 0)] [] W_Rule___init__)) (g_Rule___str__ : Gmx P c mg base 3 ea.f_Rule___str__ W_Rule___str__) (g_Cutter_parts : Gmx P c mg base 1 ea.f_Cutter_parts W_Cutter_parts) (g_Rule_bound : Gmx P c mg base 4 ea.f_Rule_bound W_Rule_bound) (g_Rule_cutter : Gmx P c mg base 1 ea.f_Rule_cutter W_Rule_cutter) (g_Cutter___init__ : Gix P c mg base 3 21 ea.f_Cutter___init__ W_Cutter___init__) (g__law_parts : Gfx P c mg base "_law_parts" 5 W__law_parts) (g__law_roll : Gfx P c mg base "_law_roll" 1 PreRoll) (g__law_made_right : Ggx P c mg base "_law_made_right" 6 ["_law_dice_here", "_law_cutter"] W__law_made_right) (g__law_asked_right : Ggx P c mg base "_law_asked_right" 10 ["_law_dice_here", "_law_rule", "_law_company", "_law_bundle"] W__law_asked_right) : Ggx P c mg base "_law_right" 11 ["_law_dice_here"] W__law_right := by
  rw [W__law_right_eq]
  exact ggx_of T.D__law_right sc__law_right rfl rfl (fun f cdv A outer s H E hA hr => ⟨_, (pss_cons (ps_set (i := 1) sc__law_right.nd rfl (by first | exact Or.inl rfl | exact Or.inr rfl) (pe_cm (pe_cl rfl T.k_Cutter.m) T.k_Cutter.a.cr T.cm_Cutter_of g_Cutter_of ⟨rfl, rfl, rfl, rfl, rfl⟩ (hr.mono (by decide)) tk_none (pa_cons (pe_callTy (callTuple (K := c.K) rfl) (by rfl) T.m_tuple (by decide +kernel) (pa_cons (pe_gx g__law_parts ⟨rfl, rfl, rfl, rfl, rfl⟩ (hr.mono (by decide)) rfl tk_none (pa_cons (pv 0) (pa_cons pe_int pa_nil))) pa_nil)) pa_nil))) (pss_cons (ps_set (i := 2) sc__law_right.nd rfl (by first | exact Or.inl rfl | exact Or.inr rfl) (pe_mkK T.mk_Company g_Company___init___k2_copies ⟨rfl, rfl, rfl, rfl, rfl⟩ (hr.mono (by decide)) rfl tk_none (pa_cons (pe_tup (pa_cons pe_str (pa_cons pe_str pa_nil))) (pa_cons (pe_frz (pe_dispT hr.units (pps_cons (pe_tup (pa_cons pe_str (pa_cons pe_str pa_nil))) (pe_tup (pa_cons (pe_mk0 T.mk_Cutter g_Cutter___init__ ⟨rfl, rfl, rfl, rfl, rfl⟩ (hr.mono (by decide)) rfl tk_none) (pa_cons pe_bl (pa_cons (pv 1) pa_nil)))) pps_nil) (by rfl) (by rfl) (fun z => by cases z) (by decide))) pa_nil)) (pk_cons (pe_frz (pe_disp (pps_cons pe_str (pe_mk T.mk_Cutter g_Cutter___init__ ⟨rfl, rfl, rfl, rfl, rfl⟩ (hr.mono (by decide)) rfl tk_none (pa_cons pe_str pa_nil)) pps_nil) (by rfl) (by rfl) (fun z => by cases z) (by decide))) pk_nil))) (pss_cons (ps_set (i := 3) sc__law_right.nd rfl (by first | exact Or.inl rfl | exact Or.inr rfl) (pe_mk T.mk_Bundle g_Bundle___init__ ⟨rfl, rfl, rfl, rfl, rfl⟩ (hr.mono (by decide)) rfl tk_none (pa_cons (pv 2) (pa_cons (pe_tup (pa_cons pe_str (pa_cons pe_non (pa_cons pe_bl pa_nil)))) (pa_cons (pe_tup (pa_cons pe_str (pa_cons pe_int (pa_cons pe_bl pa_nil)))) (pa_cons (pe_tup (pa_cons pe_str (pa_cons pe_non (pa_cons pe_bl pa_nil)))) pa_nil)))))) (pss_cons (ps_set (i := 4) sc__law_right.nd rfl (by first | exact Or.inl rfl | exact Or.inr rfl) (pe_mkK T.mk_Rule g_Rule___init___k1_sees_lost ⟨rfl, rfl, rfl, rfl, rfl⟩ (hr.mono (by decide)) rfl tk_none (pa_cons (pv 1) pa_nil) (pk_cons (pe_cmpR (opEq (K := c.K) rfl hr.units) (pe_gx g__law_roll ⟨rfl, rfl, rfl, rfl, rfl⟩ (hr.mono (by decide)) rfl tk_none (pa_cons (pv 0) (pa_cons pe_int pa_nil))) pe_int (nomark _)) pk_nil))) (pss_cons (ps_set (i := 5) sc__law_right.nd rfl (by first | exact Or.inl rfl | exact Or.inr rfl) (pe_lst (pa_cons (pe_callTy (callStrO (n := 3) (dns_of (mts_cons T.q_Rule___str__ g_Rule___str__ mts_nil)) ⟨rfl, rfl, rfl, rfl, rfl⟩ (hr.mono (by decide))) (by rfl) T.m_str (by decide +kernel) (pa_cons (pv 4) pa_nil)) (pa_cons (pe_prop (k := 1) (pe_prop (k := 1) (pv 4) T.kls (prs_cons T.p_Rule_cutter g_Rule_cutter prs_nil) ⟨rfl, rfl, rfl, rfl, rfl⟩ (hr.mono (by decide))) T.kls (prs_cons T.p_Cutter_parts g_Cutter_parts prs_nil) ⟨rfl, rfl, rfl, rfl, rfl⟩ (hr.mono (by decide))) (pa_cons (pe_meth (k := 4) (pv 4) T.kls (mts_cons T.q_Rule_bound g_Rule_bound mts_nil) ⟨rfl, rfl, rfl, rfl, rfl⟩ (hr.mono (by decide)) tk_none (pa_cons (pv 3) (pa_cons pe_int pa_nil))) pa_nil))))) (pss_cons (ps_for PassesOwn.never rfl (pi_range1 rfl T.m_range (pa_cons pe_int pa_nil)) (pg_name (i := 6) sc__law_right.nd rfl (by first | exact Or.inl rfl | exact Or.inr rfl)) (pss_one (ps_if (PW.pt (pw_or (pt_not (pt_val (pe_gg g__law_made_right ⟨rfl, rfl, rfl, rfl, rfl⟩ hA (hr.mono (by decide)) rfl (pa_cons (pv 0) (pa_cons (pv 1) pa_nil))))) (pw_or1 (pt_not (pt_val (pe_gg g__law_asked_right ⟨rfl, rfl, rfl, rfl, rfl⟩ hA (hr.mono (by decide)) rfl (pa_cons (pv 0) (pa_cons (pv 4) (pa_cons (pv 2) (pa_cons (pv 3) pa_nil)))))))))) (pss_one (ps_ret pe_bl)) pss_nil))) (pss_one (ps_ret (pe_and (pe_cmpR (opEq (K := c.K) rfl hr.units) (pe_lst (pa_cons (pe_callTy (callStrO (n := 3) (dns_of (mts_cons T.q_Rule___str__ g_Rule___str__ mts_nil)) ⟨rfl, rfl, rfl, rfl, rfl⟩ (hr.mono (by decide))) (by rfl) T.m_str (by decide +kernel) (pa_cons (pv 4) pa_nil)) (pa_cons (pe_prop (k := 1) (pe_prop (k := 1) (pv 4) T.kls (prs_cons T.p_Rule_cutter g_Rule_cutter prs_nil) ⟨rfl, rfl, rfl, rfl, rfl⟩ (hr.mono (by decide))) T.kls (prs_cons T.p_Cutter_parts g_Cutter_parts prs_nil) ⟨rfl, rfl, rfl, rfl, rfl⟩ (hr.mono (by decide))) (pa_cons (pe_meth (k := 4) (pv 4) T.kls (mts_cons T.q_Rule_bound g_Rule_bound mts_nil) ⟨rfl, rfl, rfl, rfl, rfl⟩ (hr.mono (by decide)) tk_none (pa_cons (pv 3) (pa_cons pe_int pa_nil))) pa_nil)))) (pv 5) (nomark _)) (pe_one (pe_cmpR (opEq (K := c.K) rfl hr.units) (pe_meth (k := 4) (pv 4) T.kls (mts_cons T.q_Rule_bound g_Rule_bound mts_nil) ⟨rfl, rfl, rfl, rfl, rfl⟩ (hr.mono (by decide)) tk_none (pa_cons (pv 3) (pa_cons pe_int pa_nil))) (pe_tup pa_nil) (nomark _)))))))))))), (rs_seq (rs_asg (re_cm (re_cls T.k_Cutter.cl) (ra_cons (re_cb ro_tup (ra_cons (re_call (ra_cons re_var (ra_cons (re_c (v := .int 4) (d := .int 4) fun _ => rfl) ra_nil))) ra_nil)) ra_nil)) rl_name) (rs_seq (rs_asg (re_makeK (m := 1) (ra_cons (re_tup (ra_cons (re_c (v := .str "ann") (d := .str "ann") fun _ => rfl) (ra_cons (re_c (v := .str "bob") (d := .str "bob") fun _ => rfl) ra_nil))) (ra_cons (re_frz (rf_dispT (RDs.cons (re_tup (ra_cons (re_c (v := .str "ann") (d := .str "ann") fun _ => rfl) (ra_cons (re_c (v := .str "bob") (d := .str "bob") fun _ => rfl) ra_nil))) (re_tup (ra_cons (re_make ra_nil) (ra_cons (re_c (v := .bl true) (d := .bl true) fun _ => rfl) (ra_cons re_var ra_nil)))) RDs.nil))) ra_nil)) (ra_cons (re_frz (rf_disp (RDs.cons (re_c (v := .str "bob") (d := .str "bob") fun _ => rfl) (re_make (ra_cons (re_c (v := .str "..+") (d := .str "..+") fun _ => rfl) ra_nil)) RDs.nil))) ra_nil)) rl_name) (rs_seq (rs_asg (re_make (ra_cons re_var (ra_cons (re_tup (ra_cons (re_c (v := .str "ann") (d := .str "ann") fun _ => rfl) (ra_cons (re_c (v := .non) (d := .non) fun _ => rfl) (ra_cons (re_c (v := .bl true) (d := .bl true) fun _ => rfl) ra_nil)))) (ra_cons (re_tup (ra_cons (re_c (v := .str "bob") (d := .str "bob") fun _ => rfl) (ra_cons (re_c (v := .int 0) (d := .int 0) fun _ => rfl) (ra_cons (re_c (v := .bl false) (d := .bl false) fun _ => rfl) ra_nil)))) (ra_cons (re_tup (ra_cons (re_c (v := .str "bob") (d := .str "bob") fun _ => rfl) (ra_cons (re_c (v := .non) (d := .non) fun _ => rfl) (ra_cons (re_c (v := .bl true) (d := .bl true) fun _ => rfl) ra_nil)))) ra_nil))))) rl_name) (rs_seq (rs_asg (re_makeK (m := 1) (ra_cons re_var ra_nil) (ra_cons (re_op ro_eq (re_call (ra_cons re_var (ra_cons (re_c (v := .int 2) (d := .int 2) fun _ => rfl) ra_nil))) (re_c (v := .int 0) (d := .int 0) fun _ => rfl)) ra_nil)) rl_name) (rs_seq (rs_asg (re_lst (ra_cons (re_cb ro_strO (ra_cons re_var ra_nil)) (ra_cons (re_prop (re_prop re_var)) (ra_cons (re_meth re_var (ra_cons re_var (ra_cons (re_c (v := .int 1) (d := .int 1) fun _ => rfl) ra_nil))) ra_nil)))) rl_name) (rs_seq (rs_for (ri_rng1 (ra_cons (re_c (v := .int 3) (d := .int 3) fun _ => rfl) ra_nil)) rl_name (rs_if (rt_or (rt_not (rt_B (re_callN (ra_cons re_var (ra_cons re_var ra_nil))))) (rt_not (rt_B (re_callN (ra_cons re_var (ra_cons re_var (ra_cons re_var (ra_cons re_var ra_nil)))))))) (rs_ret (re_c (v := .bl false) (d := .bl false) fun _ => rfl)) rs_next)) (rs_ret (re_and (re_op ro_eq (re_lst (ra_cons (re_cb ro_strO (ra_cons re_var ra_nil)) (ra_cons (re_prop (re_prop re_var)) (ra_cons (re_meth re_var (ra_cons re_var (ra_cons (re_c (v := .int 1) (d := .int 1) fun _ => rfl) ra_nil))) ra_nil)))) re_var) (re_op ro_eq (re_meth re_var (ra_cons re_var (ra_cons (re_c (v := .int 2) (d := .int 2) fun _ => rfl) ra_nil))) (re_tup ra_nil))))))))))⟩)
theorem gx__law_dice (T : Tx P c mg ea) : Gfx P c mg base "_law_dice" 1 PreDice := by
  obtain ⟨f, fd, F, b, m⟩ := T.D__law_dice
  refine gfx_calm dice_calm F b m (dice_hide (F.ok sc__law_dice (fun vs H Q E h => ?_) (fun cdv A outer s H vs Q E hr h => ⟨_, (pss_cons (ps_set (i := 2) sc__law_dice.nd rfl (by first | exact Or.inl rfl | exact Or.inr rfl) (pe_ifExp (pt_cmpR op_lt (pv 1) (pe_callB (callLen (K := c.K) rfl) (by rfl) T.m_len (by decide +kernel) (pa_cons (pv 0) pa_nil)) (nomark _)) (pe_ix (ixA (K := c.K) rfl) (pv 0) (pv 1) (fun _ _ => rfl)) (pe_op (opAdd (K := c.K) rfl) (pe_op (opMul (K := c.K) rfl) pe_int (pv 1)) pe_int))) (pss_cons (ps_set (i := 3) sc__law_dice.nd rfl (by first | exact Or.inl rfl | exact Or.inr rfl) (pe_op op_mod (pe_callTy call_int1 (by rfl) T.m_int (by decide +kernel) (pa_cons (pe_callB call_abs (by rfl) T.m_abs (by decide +kernel) (pa_cons (pv 2) pa_nil)) pa_nil)) (pe_op op_powW (pe_op op_powW pe_int pe_int) pe_int))) (pss_cons (ps_set (i := 4) sc__law_dice.nd rfl (by first | exact Or.inl rfl | exact Or.inr rfl) (pe_op (opAdd (K := c.K) rfl) (pe_op (opAdd (K := c.K) rfl) (pe_op (opAdd (K := c.K) rfl) (pe_op (opMul (K := c.K) rfl) (pe_op op_mod (pe_callTy call_int1 (by rfl) T.m_int (by decide +kernel) (pa_cons (pv 3) pa_nil)) pe_int) pe_int) (pe_op (opMul (K := c.K) rfl) pe_int (pv 1))) (pe_op (opMul (K := c.K) rfl) pe_int (pe_callTy call_int1 (by rfl) T.m_int (by decide +kernel) (pa_cons (pe_cmpR op_lt (pv 2) pe_int (nomark _)) pa_nil)))) pe_int)) (pss_one (ps_ret (pe_lst (pa_cons (pe_callB (call_max2 rfl) (by rfl) T.m_max (by decide +kernel) (pa_cons pe_int (pa_cons (pe_op op_sub (pv 3) (pe_op op_powW pe_int pe_int)) pa_nil))) (pa_cons (pe_op op_mod (pe_callTy call_int1 (by rfl) T.m_int (by decide +kernel) (pa_cons (pv 4) pa_nil)) pe_int) (pa_cons pe_int pa_nil))))))))), ?_⟩)))
  · obtain ⟨a, ns, i, rfl, _⟩ := h; rfl
  · obtain ⟨a, ns, i, rfl, hs, ⟨_, tb⟩, k⟩ := h
    have e0 := noTb_in tb
    have sv : Sv c {} (noTb H) H (L2.start ["_law_script", "_law_at", "_law_cell", "_law_great", "_law_mixed"] [V.ref a, V.int i]) (startS 5 [.sq (ns.map .int), .int i]) :=
      (sl_start (N := ["_law_script", "_law_at", "_law_cell", "_law_great", "_law_mixed"]) e0 (show Dats c (noTb H) [.sq (ns.map .int), .int i] [.ref a, .int i] from ⟨_, _, rfl, ⟨a, _, rfl, noTb_seq hs, dats_ints⟩, _, _, rfl, rfl, rfl⟩)).sv
    refine st_asg_raw (R := fun d => ∃ j, d = .int j) (m := (ifW (testW (opW ltD (vW 1) (cbW lenD (consW (vW 0) nilW)))) (opW ixD (vW 0) (vW 1)) (opW addD (opW mulD (cW (.int 41)) (vW 1)) (cW (.int 7))))) (re_if (rt_test (re_op ro_cmp re_var (re_cb ro_len (ra_cons re_var ra_nil)))) (re_op ro_ix re_var re_var) (re_op ro_add (re_op ro_mul (re_c (v := .int 41) (d := .int 41) fun _ => rfl) re_var) (re_c (v := .int 7) (d := .int 7) fun _ => rfl))) (by
      refine ifb (fun h1 => ?_) fun h1 => ?_
      · have hi : i < ns.length := by have := of_decide_eq_true h1; simp at this; exact this
        exact ⟨.int ns[i], atI_nat (by simp [hi]), _, rfl⟩
      · exact ⟨.inl ⟨by decide, by decide⟩, _, rfl⟩) e0 sv fun v1 c1 G1 H1 g1 e1 ⟨j1, q1⟩ => ?_
    subst q1
    have sv1 := (sv.go g1).set (j := 2) e1
    refine st_asg_raw (R := fun d => ∃ j, d = .int j) (m := (opW modD (cbW int1D (consW (cbW absD (consW (vW 2) nilW)) nilW)) (opW powD (opW powD (cW (.int 10)) (cW (.int 60))) (cW (.int 10))))) (re_op ro_mod (re_cb ro_int1 (ra_cons (re_cb ro_abs (ra_cons re_var ra_nil)) ra_nil)) (re_op ro_pow (re_op ro_pow (re_c (v := .int 10) (d := .int 10) fun _ => rfl) (re_c (v := .int 60) (d := .int 60) fun _ => rfl)) (re_c (v := .int 10) (d := .int 10) fun _ => rfl))) (by
      refine ⟨⟨by decide, by decide +kernel⟩, ?_⟩
      refine ⟨⟨by decide, by decide +kernel⟩, ?_⟩
      exact ⟨Int.pow_pos (Int.pow_pos (by decide)), _, rfl⟩) g1.ink sv1 fun v2 c2 G2 H2 g2 e2 ⟨j2, q2⟩ => ?_
    subst q2
    have sv2 := (sv1.go g2).set (j := 3) e2
    refine st_asg_raw (R := fun d => ∃ j, d = .int j) (m := (opW addD (opW addD (opW addD (opW mulD (opW modD (cbW int1D (consW (vW 3) nilW)) (cW (.int 2147483399))) (cW (.int 60013))) (opW mulD (cW (.int 4001)) (vW 1))) (opW mulD (cW (.int 29)) (cbW int1D (consW (opW ltD (vW 2) (cW (.int 0))) nilW)))) (cW (.int 61)))) (re_op ro_add (re_op ro_add (re_op ro_add (re_op ro_mul (re_op ro_mod (re_cb ro_int1 (ra_cons re_var ra_nil)) (re_c (v := .int 2147483399) (d := .int 2147483399) fun _ => rfl)) (re_c (v := .int 60013) (d := .int 60013) fun _ => rfl)) (re_op ro_mul (re_c (v := .int 4001) (d := .int 4001) fun _ => rfl) re_var)) (re_op ro_mul (re_c (v := .int 29) (d := .int 29) fun _ => rfl) (re_cb ro_int1 (ra_cons (re_op ro_cmp re_var (re_c (v := .int 0) (d := .int 0) fun _ => rfl)) ra_nil)))) (re_c (v := .int 61) (d := .int 61) fun _ => rfl)) (by
      refine ⟨by decide, modm (by decide) (by decide), ?_⟩
      refine ⟨.inl ⟨by decide, by decide⟩, ?_⟩
      refine ⟨.inl ⟨by decide, by decide⟩, ?_⟩
      exact ⟨_, rfl⟩) g2.ink sv2 fun v3 c3 G3 H3 g3 e3 ⟨j3, q3⟩ => ?_
    subst q3
    have sv3 := (sv2.go g3).set (j := 4) e3
    refine ret_new_raw (R := fun ds => ∃ x y z, ds = [.int x, .int y, .int z]) (m := (consW (cbW maxD (consW (cW (.int 0)) (consW (opW subD (vW 3) (opW powD (cW (.int 10)) (cW (.int 18)))) nilW))) (consW (opW modD (cbW int1D (consW (vW 4) nilW)) (cW (.int 2147483423))) (consW (cW (.int 0)) nilW)))) (ra_cons (re_cb ro_max (ra_cons (re_c (v := .int 0) (d := .int 0) fun _ => rfl) (ra_cons (re_op ro_sub re_var (re_op ro_pow (re_c (v := .int 10) (d := .int 10) fun _ => rfl) (re_c (v := .int 18) (d := .int 18) fun _ => rfl))) ra_nil))) (ra_cons (re_op ro_mod (re_cb ro_int1 (ra_cons re_var ra_nil)) (re_c (v := .int 2147483423) (d := .int 2147483423) fun _ => rfl)) (ra_cons (re_c (v := .int 0) (d := .int 0) fun _ => rfl) ra_nil))) (by
      refine ⟨⟨by decide, by decide +kernel⟩, ?_⟩
      exact ⟨by decide, _, _, _, rfl⟩) g3.ink sv3 fun vs ds G4 H4 g4 e4 ⟨x, y, z, q4⟩ => ?_
    subst q4
    obtain ⟨_, _, rfl, z1, _, _, rfl, z2, _, _, rfl, z3, z4⟩ := e4
    cases z1; cases z2; cases z3; cases z4
    have gg := g1.trans (g2.trans (g3.trans g4))
    exact ⟨(by show 3 ≤ 1000; decide), fun p hp => k p x y z _ (gg.up.trans (Up.of (Ex.new hp))) (tabs_new gg.ink.tb hp) (gg.up.free hp) upd_same⟩

theorem gx_law (T : Tx P c mg ea) (g__law_right : Ggx P c mg base "_law_right" 11 ["_law_dice_here"] W__law_right) (g__law_dice : Gfx P c mg base "_law_dice" 1 PreDice) : Ggx P c mg base "law" 12 ["_law_script"] W_law := by
  rw [W_law_eq]
  exact ggx_of T.D_law sc_law rfl rfl (fun f cdv A outer s H E hA hr => ⟨_, (pss_cons (ps_for PassesOwn.never rfl (pi_range1 rfl T.m_range (pa_cons (pe_callB (call_max2 rfl) (by rfl) T.m_max (by decide +kernel) (pa_cons pe_int (pa_cons (pe_callB (call_min2 rfl) (by rfl) T.m_min (by decide +kernel) (pa_cons pe_int (pa_cons (pe_callB (callLen (K := c.K) rfl) (by rfl) T.m_len (by decide +kernel) (pa_cons (pv 0) pa_nil)) pa_nil))) pa_nil))) pa_nil)) (pg_name (i := 1) sc_law.nd rfl (by first | exact Or.inl rfl | exact Or.inr rfl)) (pss_one (ps_if (pt_not (pt_val (pe_gg g__law_right ⟨rfl, rfl, rfl, rfl, rfl⟩ hA (hr.mono (by decide)) rfl (pa_cons (pe_gx g__law_dice ⟨rfl, rfl, rfl, rfl, rfl⟩ (hr.mono (by decide)) rfl tk_none (pa_cons (pv 0) (pa_cons (pv 1) pa_nil))) pa_nil)))) (pss_one (ps_ret pe_bl)) pss_nil))) (pss_one (ps_ret pe_bl))), (rs_seq (rs_for (ri_rng1 (ra_cons (re_cb ro_max (ra_cons (re_c (v := .int 1) (d := .int 1) fun _ => rfl) (ra_cons (re_cb ro_min (ra_cons (re_c (v := .int 6) (d := .int 6) fun _ => rfl) (ra_cons (re_cb ro_len (ra_cons re_var ra_nil)) ra_nil))) ra_nil))) ra_nil)) rl_name (rs_if (rt_not (rt_B (re_callN (ra_cons (re_call (ra_cons re_var (ra_cons re_var ra_nil))) ra_nil)))) (rs_ret (re_c (v := .bl false) (d := .bl false) fun _ => rfl)) rs_next)) (rs_ret (re_c (v := .bl true) (d := .bl true) fun _ => rfl)))⟩)
end
end Mw

set_option Elab.async false
set_option linter.all false
set_option maxRecDepth 100000
set_option maxHeartbeats 4000000
namespace Mw
open PySem PySem.Spec PyProof.Rows L2
def PreLaw : PreX := fun ds R _ => ∃ ns : List Int, ds = [.sq (ns.map .int)] ∧ ns.length ≤ 63 ∧ R (.bl true)
theorem all_mk {P : Program} {w : World} {K : PySem.W.Frag} {h : Heap} {mg : PySem.Str → Option Value} {fa : Addr} (X : K.In h) (G : h.Ns mainGlobals mg) (hfa : mg "law" = some (.ref fa)) (S : SaysM fss fns K) (hfile : ((P.main.file : PySem.Str) == flS) = true) (htop : (P.main.scope.names.lookup ("super" : PySem.Str)).isSome = false) :
    ∃ (c : Kc) (fd : FuncData), c.K = K ∧ c.w = w ∧ c.fl = (fun _ => none) ∧ (∀ p ∈ c.tb, ∃ q ∈ tfs.map (cTA K), q.2 = p.1) ∧ (∀ (s : Shared) (v : Value), BindsTo s fd ⟨[v], []⟩ [("_law_script", v)]) ∧ ∀ base : Heap, (∀ p ∈ tfs.map (cTA K), LamX.TabB base mg p.1 p.2) → FnG P w K mg base 12 fa fd ["_law_script"] (spN c PreLaw) := by
  obtain ⟨u_MAX_PARTS, y_MAX_PARTS, r_MAX_PARTS⟩ := fVal_ok (S.fact 19 (f := fVal "MAX_PARTS" (.int 4)))
  obtain ⟨u_WHOLE, y_WHOLE, r_WHOLE⟩ := fVal_ok (S.fact 20 (f := fVal "WHOLE" (.str "all")))
  obtain ⟨u_FEW, y_FEW, r_FEW⟩ := fVal_ok (S.fact 21 (f := fVal "FEW" (.int 5)))
  obtain ⟨u_GAP, y_GAP, r_GAP⟩ := fVal_ok (S.fact 22 (f := fVal "GAP" (.str "..")))
  obtain ⟨u_MOST_FRONT, y_MOST_FRONT, r_MOST_FRONT⟩ := fVal_ok (S.fact 23 (f := fVal "MOST_FRONT" (.int 2)))
  obtain ⟨u_MOST_BACK, y_MOST_BACK, r_MOST_BACK⟩ := fVal_ok (S.fact 24 (f := fVal "MOST_BACK" (.int 3)))
  obtain ⟨u_MAX_PEOPLE, y_MAX_PEOPLE, r_MAX_PEOPLE⟩ := fVal_ok (S.fact 25 (f := fVal "MAX_PEOPLE" (.int 4)))
  obtain ⟨u_LONGEST, y_LONGEST, r_LONGEST⟩ := fVal_ok (S.fact 26 (f := fVal "LONGEST" (.int 8)))
  obtain ⟨u_LETTERS, y_LETTERS, r_LETTERS⟩ := fVal_ok (S.fact 27 (f := fVal "LETTERS" (.str "abcdefghijklmnopqrstuvwxyz")))
  obtain ⟨u_MAX_LETTERS, y_MAX_LETTERS, r_MAX_LETTERS⟩ := fVal_ok (S.fact 28 (f := fVal "MAX_LETTERS" (.int 40)))
  obtain ⟨u_MAX_ROW, y_MAX_ROW, r_MAX_ROW⟩ := fVal_ok (S.fact 29 (f := fVal "MAX_ROW" (.int 1000)))
  obtain ⟨fd_part_places, F_part_places⟩ := S.def_ 0 (d := dd_part_places)
  have F_part_places : FunD K "part_places" "part_places" (defArgs s_part_places) (defBody s_part_places) (defScope s_part_places) [] [] (He.ga K "part_places") fd_part_places := F_part_places
  obtain ⟨fd_chain_places, F_chain_places⟩ := S.def_ 1 (d := dd_chain_places)
  have F_chain_places : FunD K "chain_places" "chain_places" (defArgs s_chain_places) (defBody s_chain_places) (defScope s_chain_places) [] [] (He.ga K "chain_places") fd_chain_places := F_chain_places
  obtain ⟨fd_are_signs, F_are_signs⟩ := S.def_ 2 (d := dd_are_signs)
  have F_are_signs : FunD K "are_signs" "are_signs" (defArgs s_are_signs) (defBody s_are_signs) (defScope s_are_signs) [] [] (He.ga K "are_signs") fd_are_signs := F_are_signs
  obtain ⟨fd_is_part, F_is_part⟩ := S.def_ 3 (d := dd_is_part)
  have F_is_part : FunD K "is_part" "is_part" (defArgs s_is_part) (defBody s_is_part) (defScope s_is_part) [] [] (He.ga K "is_part") fd_is_part := F_is_part
  obtain ⟨fd_Cutter___init__, F_Cutter___init__⟩ := S.def_ 4 (d := dd_Cutter___init__)
  have F_Cutter___init__ : FunD K "__init__" "Cutter.__init__" (defArgs s_Cutter___init__) (defBody s_Cutter___init__) (defScope s_Cutter___init__) [] [] (meA "Cutter" "__init__" K) fd_Cutter___init__ := F_Cutter___init__
  obtain ⟨fd_Cutter_of, F_Cutter_of⟩ := S.def_ 5 (d := dd_Cutter_of)
  have F_Cutter_of : FunD K "of" "Cutter.of" (defArgs s_Cutter_of) (defBody s_Cutter_of) (defScope s_Cutter_of) [] [] (cmA "Cutter" "of" K) fd_Cutter_of := F_Cutter_of
  obtain ⟨fd_is_ascending, F_is_ascending⟩ := S.def_ 6 (d := dd_is_ascending)
  have F_is_ascending : FunD K "is_ascending" "is_ascending" (defArgs s_is_ascending) (defBody s_is_ascending) (defScope s_is_ascending) [] [] (He.ga K "is_ascending") fd_is_ascending := F_is_ascending
  obtain ⟨fd_is_name, F_is_name⟩ := S.def_ 7 (d := dd_is_name)
  have F_is_name : FunD K "is_name" "is_name" (defArgs s_is_name) (defBody s_is_name) (defScope s_is_name) [] [] (He.ga K "is_name") fd_is_name := F_is_name
  obtain ⟨fd_are_people, F_are_people⟩ := S.def_ 8 (d := dd_are_people)
  have F_are_people : FunD K "are_people" "are_people" (defArgs s_are_people) (defBody s_are_people) (defScope s_are_people) [] [] (He.ga K "are_people") fd_are_people := F_are_people
  obtain ⟨fd_are_copies, F_are_copies⟩ := S.def_ 9 (d := dd_are_copies)
  have F_are_copies : FunD K "are_copies" "are_copies" (defArgs s_are_copies) (defBody s_are_copies) (defScope s_are_copies) [] [] (He.ga K "are_copies") fd_are_copies := F_are_copies
  obtain ⟨fd_in_order, F_in_order⟩ := S.def_ 10 (d := dd_in_order)
  have F_in_order : FunD K "in_order" "in_order" (defArgs s_in_order) (defBody s_in_order) (defScope s_in_order) [] [] (He.ga K "in_order") fd_in_order := F_in_order
  obtain ⟨fd_are_some, F_are_some⟩ := S.def_ 11 (d := dd_are_some)
  have F_are_some : FunD K "are_some" "are_some" (defArgs s_are_some) (defBody s_are_some) (defScope s_are_some) [] [] (He.ga K "are_some") fd_are_some := F_are_some
  obtain ⟨fd_is_pair, F_is_pair⟩ := S.def_ 12 (d := dd_is_pair)
  have F_is_pair : FunD K "is_pair" "is_pair" (defArgs s_is_pair) (defBody s_is_pair) (defScope s_is_pair) [] [] (He.ga K "is_pair") fd_is_pair := F_is_pair
  obtain ⟨fd_is_turn, F_is_turn⟩ := S.def_ 13 (d := dd_is_turn)
  have F_is_turn : FunD K "is_turn" "is_turn" (defArgs s_is_turn) (defBody s_is_turn) (defScope s_is_turn) [] [] (He.ga K "is_turn") fd_is_turn := F_is_turn
  obtain ⟨fd_are_turns, F_are_turns⟩ := S.def_ 14 (d := dd_are_turns)
  have F_are_turns : FunD K "are_turns" "are_turns" (defArgs s_are_turns) (defBody s_are_turns) (defScope s_are_turns) [] [] (He.ga K "are_turns") fd_are_turns := F_are_turns
  obtain ⟨fd_Company___init__, F_Company___init__⟩ := S.def_ 15 (d := dd_Company___init__)
  have F_Company___init__ : FunD K "__init__" "Company.__init__" (defArgs s_Company___init__) (defBody s_Company___init__) (defScope s_Company___init__) [] [("takings", .non), ("starts", .non), ("copies", .non)] (meA "Company" "__init__" K) fd_Company___init__ := F_Company___init__
  obtain ⟨fd_require_company, F_require_company⟩ := S.def_ 16 (d := dd_require_company)
  have F_require_company : FunD K "require_company" "require_company" (defArgs s_require_company) (defBody s_require_company) (defScope s_require_company) [] [] (He.ga K "require_company") fd_require_company := F_require_company
  obtain ⟨fd_turn_behind, F_turn_behind⟩ := S.def_ 17 (d := dd_turn_behind)
  have F_turn_behind : FunD K "turn_behind" "turn_behind" (defArgs s_turn_behind) (defBody s_turn_behind) (defScope s_turn_behind) [] [] (He.ga K "turn_behind") fd_turn_behind := F_turn_behind
  obtain ⟨fd_kept_places, F_kept_places⟩ := S.def_ 18 (d := dd_kept_places)
  have F_kept_places : FunD K "kept_places" "kept_places" (defArgs s_kept_places) (defBody s_kept_places) (defScope s_kept_places) [] [] (He.ga K "kept_places") fd_kept_places := F_kept_places
  obtain ⟨fd_cut, F_cut⟩ := S.def_ 19 (d := dd_cut)
  have F_cut : FunD K "cut" "cut" (defArgs s_cut) (defBody s_cut) (defScope s_cut) [] [] (He.ga K "cut") fd_cut := F_cut
  obtain ⟨fd_lists_in, F_lists_in⟩ := S.def_ 20 (d := dd_lists_in)
  have F_lists_in : FunD K "lists_in" "lists_in" (defArgs s_lists_in) (defBody s_lists_in) (defScope s_lists_in) [] [] (He.ga K "lists_in") fd_lists_in := F_lists_in
  obtain ⟨fd_talks_in, F_talks_in⟩ := S.def_ 21 (d := dd_talks_in)
  have F_talks_in : FunD K "talks_in" "talks_in" (defArgs s_talks_in) (defBody s_talks_in) (defScope s_talks_in) [] [] (He.ga K "talks_in") fd_talks_in := F_talks_in
  obtain ⟨fd_is_integer, F_is_integer⟩ := S.def_ 22 (d := dd_is_integer)
  have F_is_integer : FunD K "is_integer" "is_integer" (defArgs s_is_integer) (defBody s_is_integer) (defScope s_is_integer) [] [] (He.ga K "is_integer") fd_is_integer := F_is_integer
  obtain ⟨fd_is_letter, F_is_letter⟩ := S.def_ 23 (d := dd_is_letter)
  have F_is_letter : FunD K "is_letter" "is_letter" (defArgs s_is_letter) (defBody s_is_letter) (defScope s_is_letter) [] [] (He.ga K "is_letter") fd_is_letter := F_is_letter
  obtain ⟨fd_are_letters, F_are_letters⟩ := S.def_ 24 (d := dd_are_letters)
  have F_are_letters : FunD K "are_letters" "are_letters" (defArgs s_are_letters) (defBody s_are_letters) (defScope s_are_letters) [] [] (He.ga K "are_letters") fd_are_letters := F_are_letters
  obtain ⟨fd_checked, F_checked⟩ := S.def_ 25 (d := dd_checked)
  have F_checked : FunD K "checked" "checked" (defArgs s_checked) (defBody s_checked) (defScope s_checked) [] [] (He.ga K "checked") fd_checked := F_checked
  obtain ⟨fd_Bundle___init__, F_Bundle___init__⟩ := S.def_ 26 (d := dd_Bundle___init__)
  have F_Bundle___init__ : FunD K "__init__" "Bundle.__init__" (defArgs s_Bundle___init__) (defBody s_Bundle___init__) (defScope s_Bundle___init__) [] [] (meA "Bundle" "__init__" K) fd_Bundle___init__ := F_Bundle___init__
  obtain ⟨fd_require_cutter, F_require_cutter⟩ := S.def_ 27 (d := dd_require_cutter)
  have F_require_cutter : FunD K "require_cutter" "require_cutter" (defArgs s_require_cutter) (defBody s_require_cutter) (defScope s_require_cutter) [] [] (He.ga K "require_cutter") fd_require_cutter := F_require_cutter
  obtain ⟨fd_Rule___init__, F_Rule___init__⟩ := S.def_ 28 (d := dd_Rule___init__)
  have F_Rule___init__ : FunD K "__init__" "Rule.__init__" (defArgs s_Rule___init__) (defBody s_Rule___init__) (defScope s_Rule___init__) [] [("sees_lost", .bl false)] (meA "Rule" "__init__" K) fd_Rule___init__ := F_Rule___init__
  obtain ⟨fd_Cutter___str__, F_Cutter___str__⟩ := S.def_ 29 (d := dd_Cutter___str__)
  have F_Cutter___str__ : FunD K "__str__" "Cutter.__str__" (defArgs s_Cutter___str__) (defBody s_Cutter___str__) (defScope s_Cutter___str__) [] [] (meA "Cutter" "__str__" K) fd_Cutter___str__ := F_Cutter___str__
  obtain ⟨fd_Rule___str__, F_Rule___str__⟩ := S.def_ 30 (d := dd_Rule___str__)
  have F_Rule___str__ : FunD K "__str__" "Rule.__str__" (defArgs s_Rule___str__) (defBody s_Rule___str__) (defScope s_Rule___str__) [] [] (meA "Rule" "__str__" K) fd_Rule___str__ := F_Rule___str__
  obtain ⟨fd_Cutter_parts, F_Cutter_parts⟩ := S.def_ 31 (d := dd_Cutter_parts)
  have F_Cutter_parts : FunD K "parts" "Cutter.parts" (defArgs s_Cutter_parts) (defBody s_Cutter_parts) (defScope s_Cutter_parts) [] [] (prA "Cutter" "parts" K) fd_Cutter_parts := F_Cutter_parts
  obtain ⟨fd_require_bundle, F_require_bundle⟩ := S.def_ 32 (d := dd_require_bundle)
  have F_require_bundle : FunD K "require_bundle" "require_bundle" (defArgs s_require_bundle) (defBody s_require_bundle) (defScope s_require_bundle) [] [] (He.ga K "require_bundle") fd_require_bundle := F_require_bundle
  obtain ⟨fd_is_mark_of, F_is_mark_of⟩ := S.def_ 33 (d := dd_is_mark_of)
  have F_is_mark_of : FunD K "is_mark_of" "is_mark_of" (defArgs s_is_mark_of) (defBody s_is_mark_of) (defScope s_is_mark_of) [] [] (He.ga K "is_mark_of") fd_is_mark_of := F_is_mark_of
  obtain ⟨fd_require_mark, F_require_mark⟩ := S.def_ 34 (d := dd_require_mark)
  have F_require_mark : FunD K "require_mark" "require_mark" (defArgs s_require_mark) (defBody s_require_mark) (defScope s_require_mark) [] [] (He.ga K "require_mark") fd_require_mark := F_require_mark
  obtain ⟨fd_bound_row, F_bound_row⟩ := S.def_ 35 (d := dd_bound_row)
  have F_bound_row : FunD K "bound_row" "bound_row" (defArgs s_bound_row) (defBody s_bound_row) (defScope s_bound_row) [] [] (He.ga K "bound_row") fd_bound_row := F_bound_row
  obtain ⟨fd_Rule_bound, F_Rule_bound⟩ := S.def_ 36 (d := dd_Rule_bound)
  have F_Rule_bound : FunD K "bound" "Rule.bound" (defArgs s_Rule_bound) (defBody s_Rule_bound) (defScope s_Rule_bound) [] [] (meA "Rule" "bound" K) fd_Rule_bound := F_Rule_bound
  obtain ⟨fd_Rule_cutter, F_Rule_cutter⟩ := S.def_ 37 (d := dd_Rule_cutter)
  have F_Rule_cutter : FunD K "cutter" "Rule.cutter" (defArgs s_Rule_cutter) (defBody s_Rule_cutter) (defScope s_Rule_cutter) [] [] (prA "Rule" "cutter" K) fd_Rule_cutter := F_Rule_cutter
  obtain ⟨fd__law_roll, F__law_roll⟩ := S.def_ 38 (d := dd__law_roll)
  have F__law_roll : FunD K "_law_roll" "_law_roll" (defArgs s__law_roll) (defBody s__law_roll) (defScope s__law_roll) [] [] (He.ga K "_law_roll") fd__law_roll := F__law_roll
  obtain ⟨fd__law_one_of, F__law_one_of⟩ := S.def_ 39 (d := dd__law_one_of)
  have F__law_one_of : FunD K "_law_one_of" "_law_one_of" (defArgs s__law_one_of) (defBody s__law_one_of) (defScope s__law_one_of) [] [] (He.ga K "_law_one_of") fd__law_one_of := F__law_one_of
  obtain ⟨fd__law_signs, F__law_signs⟩ := S.def_ 40 (d := dd__law_signs)
  have F__law_signs : FunD K "_law_signs" "_law_signs" (defArgs s__law_signs) (defBody s__law_signs) (defScope s__law_signs) [] [] (He.ga K "_law_signs") fd__law_signs := F__law_signs
  obtain ⟨fd__law_part, F__law_part⟩ := S.def_ 41 (d := dd__law_part)
  have F__law_part : FunD K "_law_part" "_law_part" (defArgs s__law_part) (defBody s__law_part) (defScope s__law_part) [] [] (He.ga K "_law_part") fd__law_part := F__law_part
  obtain ⟨fd__law_parts, F__law_parts⟩ := S.def_ 42 (d := dd__law_parts)
  have F__law_parts : FunD K "_law_parts" "_law_parts" (defArgs s__law_parts) (defBody s__law_parts) (defScope s__law_parts) [] [] (He.ga K "_law_parts") fd__law_parts := F__law_parts
  obtain ⟨fd__law_met, F__law_met⟩ := S.def_ 43 (d := dd__law_met)
  have F__law_met : FunD K "_law_met" "_law_met" (defArgs s__law_met) (defBody s__law_met) (defScope s__law_met) [] [] (He.ga K "_law_met") fd__law_met := F__law_met
  obtain ⟨fd__law_made_right, F__law_made_right⟩ := S.def_ 44 (d := dd__law_made_right)
  have F__law_made_right : FunD K "_law_made_right" "_law_made_right" (defArgs s__law_made_right) (defBody s__law_made_right) (defScope s__law_made_right) [] [] (He.ga K "_law_made_right") fd__law_made_right := F__law_made_right
  obtain ⟨fd_Bundle_letters, F_Bundle_letters⟩ := S.def_ 45 (d := dd_Bundle_letters)
  have F_Bundle_letters : FunD K "letters" "Bundle.letters" (defArgs s_Bundle_letters) (defBody s_Bundle_letters) (defScope s_Bundle_letters) [] [] (prA "Bundle" "letters" K) fd_Bundle_letters := F_Bundle_letters
  obtain ⟨fd_Bundle___len__, F_Bundle___len__⟩ := S.def_ 46 (d := dd_Bundle___len__)
  have F_Bundle___len__ : FunD K "__len__" "Bundle.__len__" (defArgs s_Bundle___len__) (defBody s_Bundle___len__) (defScope s_Bundle___len__) [] [] (meA "Bundle" "__len__" K) fd_Bundle___len__ := F_Bundle___len__
  obtain ⟨fd_Company_people, F_Company_people⟩ := S.def_ 47 (d := dd_Company_people)
  have F_Company_people : FunD K "people" "Company.people" (defArgs s_Company_people) (defBody s_Company_people) (defScope s_Company_people) [] [] (prA "Company" "people" K) fd_Company_people := F_Company_people
  obtain ⟨fd_Cutter_is_within, F_Cutter_is_within⟩ := S.def_ 48 (d := dd_Cutter_is_within)
  have F_Cutter_is_within : FunD K "is_within" "Cutter.is_within" (defArgs s_Cutter_is_within) (defBody s_Cutter_is_within) (defScope s_Cutter_is_within) [] [] (meA "Cutter" "is_within" K) fd_Cutter_is_within := F_Cutter_is_within
  obtain ⟨fd_require_rule, F_require_rule⟩ := S.def_ 49 (d := dd_require_rule)
  have F_require_rule : FunD K "require_rule" "require_rule" (defArgs s_require_rule) (defBody s_require_rule) (defScope s_require_rule) [] [] (He.ga K "require_rule") fd_require_rule := F_require_rule
  obtain ⟨fd_Rule_is_within, F_Rule_is_within⟩ := S.def_ 50 (d := dd_Rule_is_within)
  have F_Rule_is_within : FunD K "is_within" "Rule.is_within" (defArgs s_Rule_is_within) (defBody s_Rule_is_within) (defScope s_Rule_is_within) [] [] (meA "Rule" "is_within" K) fd_Rule_is_within := F_Rule_is_within
  obtain ⟨fd_require_person, F_require_person⟩ := S.def_ 51 (d := dd_require_person)
  have F_require_person : FunD K "require_person" "require_person" (defArgs s_require_person) (defBody s_require_person) (defScope s_require_person) [] [] (He.ga K "require_person") fd_require_person := F_require_person
  obtain ⟨fd_Known_cutters___init__, F_Known_cutters___init__⟩ := S.def_ 52 (d := dd_Known_cutters___init__)
  have F_Known_cutters___init__ : FunD K "__init__" "Known.__init__" (defArgs s_Known_cutters___init__) (defBody s_Known_cutters___init__) (defScope s_Known_cutters___init__) [] [] (meA "Known_cutters" "__init__" K) fd_Known_cutters___init__ := F_Known_cutters___init__
  obtain ⟨fd_chained, F_chained⟩ := S.def_ 53 (d := dd_chained)
  have F_chained : FunD K "chained" "chained" (defArgs s_chained) (defBody s_chained) (defScope s_chained) [] [] (He.ga K "chained") fd_chained := F_chained
  obtain ⟨fd_through_in, F_through_in⟩ := S.def_ 54 (d := dd_through_in)
  have F_through_in : FunD K "through_in" "through_in" (defArgs s_through_in) (defBody s_through_in) (defScope s_through_in) [] [] (He.ga K "through_in") fd_through_in := F_through_in
  obtain ⟨fd_Rule_through, F_Rule_through⟩ := S.def_ 55 (d := dd_Rule_through)
  have F_Rule_through : FunD K "through" "Rule.through" (defArgs s_Rule_through) (defBody s_Rule_through) (defScope s_Rule_through) [] [] (meA "Rule" "through" K) fd_Rule_through := F_Rule_through
  obtain ⟨fd_Cutter___call__, F_Cutter___call__⟩ := S.def_ 56 (d := dd_Cutter___call__)
  have F_Cutter___call__ : FunD K "__call__" "Cutter.__call__" (defArgs s_Cutter___call__) (defBody s_Cutter___call__) (defScope s_Cutter___call__) [] [] (meA "Cutter" "__call__" K) fd_Cutter___call__ := F_Cutter___call__
  obtain ⟨fd_Rule___call__, F_Rule___call__⟩ := S.def_ 57 (d := dd_Rule___call__)
  have F_Rule___call__ : FunD K "__call__" "Rule.__call__" (defArgs s_Rule___call__) (defBody s_Rule___call__) (defScope s_Rule___call__) [] [] (meA "Rule" "__call__" K) fd_Rule___call__ := F_Rule___call__
  obtain ⟨fd__law_asked_right, F__law_asked_right⟩ := S.def_ 58 (d := dd__law_asked_right)
  have F__law_asked_right : FunD K "_law_asked_right" "_law_asked_right" (defArgs s__law_asked_right) (defBody s__law_asked_right) (defScope s__law_asked_right) [] [] (He.ga K "_law_asked_right") fd__law_asked_right := F__law_asked_right
  obtain ⟨fd__law_right, F__law_right⟩ := S.def_ 59 (d := dd__law_right)
  have F__law_right : FunD K "_law_right" "_law_right" (defArgs s__law_right) (defBody s__law_right) (defScope s__law_right) [] [] (He.ga K "_law_right") fd__law_right := F__law_right
  obtain ⟨fd__law_dice, F__law_dice⟩ := S.def_ 60 (d := dd__law_dice)
  have F__law_dice : FunD K "_law_dice" "_law_dice" (defArgs s__law_dice) (defBody s__law_dice) (defScope s__law_dice) [] [] (He.ga K "_law_dice") fd__law_dice := F__law_dice
  obtain ⟨fd_law, F_law⟩ := S.def_ 61 (d := dd_law)
  have F_law : FunD K "law" "law" (defArgs s_law) (defBody s_law) (defScope s_law) [] [] (He.ga K "law") fd_law := F_law
  have e := hfa.symm.trans (PySem.W.mg_of X G (fGlo_ok (S.fact 110 (f := fGlo "law"))))
  cases e
  let c : Kc := { K := K, w := w, ca := fun i => ([0, He.ga K "InvalidCutter", He.ga K "InvalidCompany", He.ga K "InvalidBundle", He.ga K "InvalidRule", 0, 0, 0, 0, He.ga K "InvalidOperation", 0, He.ga K "UnknownName", 0, 0, 0, 0, 0, 0, 0, 0, He.ga K "Known_cutters", He.ga K "Cutter", He.ga K "Company", He.ga K "Known_bundles", He.ga K "Bundle", He.ga K "Rule"] : List Addr).getD i 0, cl := [20, 21, 22, 23, 24, 25], tb := [(He.tabOf K (codeA K (He.ga K "_law_made_right")), (("_law_made_right" : PySem.Str) ++ ".<locals>.") ++ "<lambda>"), (He.tabOf K (codeA K (He.ga K "_law_asked_right")), (("_law_asked_right" : PySem.Str) ++ ".<locals>.") ++ "<lambda>")] }
  have T : Tx P c mg { f_Cutter___init__ := meA "Cutter" "__init__" K, f_Cutter_of := cmA "Cutter" "of" K, p_Cutter_of := stP K "Cutter" "of", f_Company___init__ := meA "Company" "__init__" K, f_Bundle___init__ := meA "Bundle" "__init__" K, f_Rule___init__ := meA "Rule" "__init__" K, f_Cutter___str__ := meA "Cutter" "__str__" K, f_Rule___str__ := meA "Rule" "__str__" K, f_Cutter_parts := prA "Cutter" "parts" K, p_Cutter_parts := meA "Cutter" "parts" K, f_Rule_bound := meA "Rule" "bound" K, f_Rule_cutter := prA "Rule" "cutter" K, p_Rule_cutter := meA "Rule" "cutter" K, f_Bundle_letters := prA "Bundle" "letters" K, p_Bundle_letters := meA "Bundle" "letters" K, f_Bundle___len__ := meA "Bundle" "__len__" K, f_Company_people := prA "Company" "people" K, p_Company_people := meA "Company" "people" K, f_Cutter_is_within := meA "Cutter" "is_within" K, f_Rule_is_within := meA "Rule" "is_within" K, f_Known_cutters___init__ := meA "Known_cutters" "__init__" K, f_Rule_through := meA "Rule" "through" K, f_Cutter___call__ := meA "Cutter" "__call__" K, f_Rule___call__ := meA "Rule" "__call__" K, f_UnknownName___init__ := meA "UnknownName" "__init__" K, t__law_made_right := He.tabOf K (codeA K (He.ga K "_law_made_right")), a__law_made_right := codeA K (He.ga K "_law_made_right"), t__law_asked_right := He.tabOf K (codeA K (He.ga K "_law_asked_right")), a__law_asked_right := codeA K (He.ga K "_law_asked_right") } :=
    {
      m_range := PySem.W.mg_none_of X G (fFree_ok (S.fact 0 (f := fFree "range")))
      m_max := PySem.W.mg_none_of X G (fFree_ok (S.fact 1 (f := fFree "max")))
      m_min := PySem.W.mg_none_of X G (fFree_ok (S.fact 2 (f := fFree "min")))
      m_len := PySem.W.mg_none_of X G (fFree_ok (S.fact 3 (f := fFree "len")))
      m_tuple := PySem.W.mg_none_of X G (fFree_ok (S.fact 4 (f := fFree "tuple")))
      m_str := PySem.W.mg_none_of X G (fFree_ok (S.fact 5 (f := fFree "str")))
      m_isinstance := PySem.W.mg_none_of X G (fFree_ok (S.fact 6 (f := fFree "isinstance")))
      m_all := PySem.W.mg_none_of X G (fFree_ok (S.fact 7 (f := fFree "all")))
      m_list := PySem.W.mg_none_of X G (fFree_ok (S.fact 8 (f := fFree "list")))
      m_enumerate := PySem.W.mg_none_of X G (fFree_ok (S.fact 9 (f := fFree "enumerate")))
      m_zip := PySem.W.mg_none_of X G (fFree_ok (S.fact 10 (f := fFree "zip")))
      m_dict := PySem.W.mg_none_of X G (fFree_ok (S.fact 11 (f := fFree "dict")))
      m_sorted := PySem.W.mg_none_of X G (fFree_ok (S.fact 12 (f := fFree "sorted")))
      m_bool := PySem.W.mg_none_of X G (fFree_ok (S.fact 13 (f := fFree "bool")))
      m_int := PySem.W.mg_none_of X G (fFree_ok (S.fact 14 (f := fFree "int")))
      m_ValueError := PySem.W.mg_none_of X G (fFree_ok (S.fact 15 (f := fFree "ValueError")))
      m_KeyError := PySem.W.mg_none_of X G (fFree_ok (S.fact 16 (f := fFree "KeyError")))
      m_repr := PySem.W.mg_none_of X G (fFree_ok (S.fact 17 (f := fFree "repr")))
      m_abs := PySem.W.mg_none_of X G (fFree_ok (S.fact 18 (f := fFree "abs")))
      g_MAX_PARTS := ⟨_, PySem.W.mg_of X G y_MAX_PARTS, r_MAX_PARTS⟩
      g_WHOLE := ⟨_, PySem.W.mg_of X G y_WHOLE, r_WHOLE⟩
      g_FEW := ⟨_, PySem.W.mg_of X G y_FEW, r_FEW⟩
      g_GAP := ⟨_, PySem.W.mg_of X G y_GAP, r_GAP⟩
      g_MOST_FRONT := ⟨_, PySem.W.mg_of X G y_MOST_FRONT, r_MOST_FRONT⟩
      g_MOST_BACK := ⟨_, PySem.W.mg_of X G y_MOST_BACK, r_MOST_BACK⟩
      g_MAX_PEOPLE := ⟨_, PySem.W.mg_of X G y_MAX_PEOPLE, r_MAX_PEOPLE⟩
      g_LONGEST := ⟨_, PySem.W.mg_of X G y_LONGEST, r_LONGEST⟩
      g_LETTERS := ⟨_, PySem.W.mg_of X G y_LETTERS, r_LETTERS⟩
      g_MAX_LETTERS := ⟨_, PySem.W.mg_of X G y_MAX_LETTERS, r_MAX_LETTERS⟩
      g_MAX_ROW := ⟨_, PySem.W.mg_of X G y_MAX_ROW, r_MAX_ROW⟩
      k_Known_cutters := ⟨(PySem.W.mg_of X G (fGlo_ok (S.fact 30 (f := fGlo "Known_cutters")))), (show 20 ∈ ([20, 21, 22, 23, 24, 25] : List Nat) from by decide), clsB_ok (S.fact 31 (f := fCls "Known_cutters"))⟩
      k_Cutter := ⟨(PySem.W.mg_of X G (fGlo_ok (S.fact 32 (f := fGlo "Cutter")))), (show 21 ∈ ([20, 21, 22, 23, 24, 25] : List Nat) from by decide), clsB_ok (S.fact 33 (f := fCls "Cutter"))⟩
      k_Company := ⟨(PySem.W.mg_of X G (fGlo_ok (S.fact 34 (f := fGlo "Company")))), (show 22 ∈ ([20, 21, 22, 23, 24, 25] : List Nat) from by decide), clsB_ok (S.fact 35 (f := fCls "Company"))⟩
      k_Known_bundles := ⟨(PySem.W.mg_of X G (fGlo_ok (S.fact 36 (f := fGlo "Known_bundles")))), (show 23 ∈ ([20, 21, 22, 23, 24, 25] : List Nat) from by decide), clsB_ok (S.fact 37 (f := fCls "Known_bundles"))⟩
      k_Bundle := ⟨(PySem.W.mg_of X G (fGlo_ok (S.fact 38 (f := fGlo "Bundle")))), (show 24 ∈ ([20, 21, 22, 23, 24, 25] : List Nat) from by decide), clsB_ok (S.fact 39 (f := fCls "Bundle"))⟩
      k_Rule := ⟨(PySem.W.mg_of X G (fGlo_ok (S.fact 40 (f := fGlo "Rule")))), (show 25 ∈ ([20, 21, 22, 23, 24, 25] : List Nat) from by decide), clsB_ok (S.fact 41 (f := fCls "Rule"))⟩
      D_part_places := ⟨_, _, fun_ofD F_part_places, (fun_ofD F_part_places).binds fun _ _ _ _ _ _ us hl => match us, hl with | [_, _], _ => rfl, (PySem.W.mg_of X G (fGlo_ok (S.fact 42 (f := fGlo "part_places"))))⟩
      D_chain_places := ⟨_, _, fun_ofD F_chain_places, (fun_ofD F_chain_places).binds fun _ _ _ _ _ _ us hl => match us, hl with | [_, _], _ => rfl, (PySem.W.mg_of X G (fGlo_ok (S.fact 43 (f := fGlo "chain_places"))))⟩
      D_are_signs := ⟨_, _, fun_ofD F_are_signs, (fun_ofD F_are_signs).binds fun _ _ _ _ _ _ us hl => match us, hl with | [_, _], _ => rfl, (PySem.W.mg_of X G (fGlo_ok (S.fact 44 (f := fGlo "are_signs"))))⟩
      D_is_part := ⟨_, _, fun_ofD F_is_part, (fun_ofD F_is_part).binds fun _ _ _ _ _ _ us hl => match us, hl with | [_], _ => rfl, (PySem.W.mg_of X G (fGlo_ok (S.fact 45 (f := fGlo "is_part"))))⟩
      q_Cutter___init__ := fMe_meth (S.fact 46 (f := fMe "Cutter" "__init__")) F_Cutter___init__.kp
      mk_Cutter := ⟨fMk_ok (S.fact 47 (f := fMk "Cutter")) (S.fact 46 (f := fMe "Cutter" "__init__")), (PySem.W.mg_of X G (fGlo_ok (S.fact 32 (f := fGlo "Cutter")))), (show 21 ∈ ([20, 21, 22, 23, 24, 25] : List Nat) from by decide)⟩
      D_Cutter___init__ := ⟨⟨_, fun_ofD F_Cutter___init__⟩, fun kV doc pm an cdv ct => StX.bind_star1 (B := fun xs => bindArgs (PySem.W.fnOf "__init__" "Cutter.__init__" (defArgs s_Cutter___init__) (defBody s_Cutter___init__) (defScope s_Cutter___init__) .none kV doc pm an cdv ct) ⟨xs, []⟩) (p1 := "self") (pv := "parts") (fun _ => rfl) (fun _ _ _ => rfl)⟩
      cm_Cutter_of := fCm_ok (S.fact 48 (f := fCm "Cutter" "of"))
      D_Cutter_of := ⟨_, fun_ofD F_Cutter_of, (fun_ofD F_Cutter_of).binds fun _ _ _ _ _ _ us hl => match us, hl with | [_, _], _ => rfl⟩
      D_is_ascending := ⟨_, _, fun_ofD F_is_ascending, (fun_ofD F_is_ascending).binds fun _ _ _ _ _ _ us hl => match us, hl with | [_], _ => rfl, (PySem.W.mg_of X G (fGlo_ok (S.fact 49 (f := fGlo "is_ascending"))))⟩
      D_is_name := ⟨_, _, fun_ofD F_is_name, (fun_ofD F_is_name).binds fun _ _ _ _ _ _ us hl => match us, hl with | [_], _ => rfl, (PySem.W.mg_of X G (fGlo_ok (S.fact 50 (f := fGlo "is_name"))))⟩
      D_are_people := ⟨_, _, fun_ofD F_are_people, (fun_ofD F_are_people).binds fun _ _ _ _ _ _ us hl => match us, hl with | [_], _ => rfl, (PySem.W.mg_of X G (fGlo_ok (S.fact 51 (f := fGlo "are_people"))))⟩
      D_are_copies := ⟨_, _, fun_ofD F_are_copies, (fun_ofD F_are_copies).binds fun _ _ _ _ _ _ us hl => match us, hl with | [_, _], _ => rfl, (PySem.W.mg_of X G (fGlo_ok (S.fact 52 (f := fGlo "are_copies"))))⟩
      D_in_order := ⟨_, _, fun_ofD F_in_order, (fun_ofD F_in_order).binds fun _ _ _ _ _ _ us hl => match us, hl with | [_], _ => rfl, (PySem.W.mg_of X G (fGlo_ok (S.fact 53 (f := fGlo "in_order"))))⟩
      D_are_some := ⟨_, _, fun_ofD F_are_some, (fun_ofD F_are_some).binds fun _ _ _ _ _ _ us hl => match us, hl with | [_, _], _ => rfl, (PySem.W.mg_of X G (fGlo_ok (S.fact 54 (f := fGlo "are_some"))))⟩
      D_is_pair := ⟨_, _, fun_ofD F_is_pair, (fun_ofD F_is_pair).binds fun _ _ _ _ _ _ us hl => match us, hl with | [_, _], _ => rfl, (PySem.W.mg_of X G (fGlo_ok (S.fact 55 (f := fGlo "is_pair"))))⟩
      D_is_turn := ⟨_, _, fun_ofD F_is_turn, (fun_ofD F_is_turn).binds fun _ _ _ _ _ _ us hl => match us, hl with | [_], _ => rfl, (PySem.W.mg_of X G (fGlo_ok (S.fact 56 (f := fGlo "is_turn"))))⟩
      D_are_turns := ⟨_, _, fun_ofD F_are_turns, (fun_ofD F_are_turns).binds fun _ _ _ _ _ _ us hl => match us, hl with | [_, _], _ => rfl, (PySem.W.mg_of X G (fGlo_ok (S.fact 57 (f := fGlo "are_turns"))))⟩
      q_Company___init__ := fMe_meth (S.fact 58 (f := fMe "Company" "__init__")) F_Company___init__.kp
      mk_Company := ⟨fMk_ok (S.fact 59 (f := fMk "Company")) (S.fact 58 (f := fMe "Company" "__init__")), (PySem.W.mg_of X G (fGlo_ok (S.fact 34 (f := fGlo "Company")))), (show 22 ∈ ([20, 21, 22, 23, 24, 25] : List Nat) from by decide)⟩
      D_Company___init__ := (by
          refine ⟨_, F_Company___init__, fun s hs => ?_⟩
          simp only [List.mem_cons, List.not_mem_nil, or_false] at hs
          rcases hs with rfl
          · exact kb_of F_Company___init__ 3 ["copies"] [(false, 0), (false, 1), (true, 0)] [("takings", .non), ("starts", .non)] (by simp) (by simp) (fun D doc pm an cdv ct us mv ws h1 h2 h3 => match us, h1, mv, h2, ws, h3 with | [_, _, _], _, [_, _], _, [_], _ => ⟨_, _, _, _, _, _, rfl, rfl, ⟨_, _, _, _, _, _, rfl, rfl, rfl⟩⟩))
      D_require_company := ⟨_, _, fun_ofD F_require_company, (fun_ofD F_require_company).binds fun _ _ _ _ _ _ us hl => match us, hl with | [_], _ => rfl, (PySem.W.mg_of X G (fGlo_ok (S.fact 60 (f := fGlo "require_company"))))⟩
      D_turn_behind := ⟨_, _, fun_ofD F_turn_behind, (fun_ofD F_turn_behind).binds fun _ _ _ _ _ _ us hl => match us, hl with | [_, _, _], _ => rfl, (PySem.W.mg_of X G (fGlo_ok (S.fact 61 (f := fGlo "turn_behind"))))⟩
      D_kept_places := ⟨_, _, fun_ofD F_kept_places, (fun_ofD F_kept_places).binds fun _ _ _ _ _ _ us hl => match us, hl with | [_, _], _ => rfl, (PySem.W.mg_of X G (fGlo_ok (S.fact 62 (f := fGlo "kept_places"))))⟩
      D_cut := ⟨_, _, fun_ofD F_cut, (fun_ofD F_cut).binds fun _ _ _ _ _ _ us hl => match us, hl with | [_, _], _ => rfl, (PySem.W.mg_of X G (fGlo_ok (S.fact 63 (f := fGlo "cut"))))⟩
      D_lists_in := ⟨_, _, fun_ofD F_lists_in, (fun_ofD F_lists_in).binds fun _ _ _ _ _ _ us hl => match us, hl with | [_, _], _ => rfl, (PySem.W.mg_of X G (fGlo_ok (S.fact 64 (f := fGlo "lists_in"))))⟩
      D_talks_in := ⟨_, _, fun_ofD F_talks_in, (fun_ofD F_talks_in).binds fun _ _ _ _ _ _ us hl => match us, hl with | [_], _ => rfl, (PySem.W.mg_of X G (fGlo_ok (S.fact 65 (f := fGlo "talks_in"))))⟩
      D_is_integer := ⟨_, _, fun_ofD F_is_integer, (fun_ofD F_is_integer).binds fun _ _ _ _ _ _ us hl => match us, hl with | [_], _ => rfl, (PySem.W.mg_of X G (fGlo_ok (S.fact 66 (f := fGlo "is_integer"))))⟩
      D_is_letter := ⟨_, _, fun_ofD F_is_letter, (fun_ofD F_is_letter).binds fun _ _ _ _ _ _ us hl => match us, hl with | [_, _, _], _ => rfl, (PySem.W.mg_of X G (fGlo_ok (S.fact 67 (f := fGlo "is_letter"))))⟩
      D_are_letters := ⟨_, _, fun_ofD F_are_letters, (fun_ofD F_are_letters).binds fun _ _ _ _ _ _ us hl => match us, hl with | [_, _], _ => rfl, (PySem.W.mg_of X G (fGlo_ok (S.fact 68 (f := fGlo "are_letters"))))⟩
      D_checked := ⟨_, _, fun_ofD F_checked, (fun_ofD F_checked).binds fun _ _ _ _ _ _ us hl => match us, hl with | [_, _], _ => rfl, (PySem.W.mg_of X G (fGlo_ok (S.fact 69 (f := fGlo "checked"))))⟩
      q_Bundle___init__ := fMe_meth (S.fact 70 (f := fMe "Bundle" "__init__")) F_Bundle___init__.kp
      mk_Bundle := ⟨fMk_ok (S.fact 71 (f := fMk "Bundle")) (S.fact 70 (f := fMe "Bundle" "__init__")), (PySem.W.mg_of X G (fGlo_ok (S.fact 38 (f := fGlo "Bundle")))), (show 24 ∈ ([20, 21, 22, 23, 24, 25] : List Nat) from by decide)⟩
      D_Bundle___init__ := ⟨⟨_, fun_ofD F_Bundle___init__⟩, fun kV doc pm an cdv ct => StX.bind_star2 (B := fun xs => bindArgs (PySem.W.fnOf "__init__" "Bundle.__init__" (defArgs s_Bundle___init__) (defBody s_Bundle___init__) (defScope s_Bundle___init__) .none kV doc pm an cdv ct) ⟨xs, []⟩) (p1 := "self") (p2 := "company") (pv := "letters") (fun _ _ => rfl) (fun _ _ _ _ => rfl)⟩
      D_require_cutter := ⟨_, _, fun_ofD F_require_cutter, (fun_ofD F_require_cutter).binds fun _ _ _ _ _ _ us hl => match us, hl with | [_], _ => rfl, (PySem.W.mg_of X G (fGlo_ok (S.fact 72 (f := fGlo "require_cutter"))))⟩
      q_Rule___init__ := fMe_meth (S.fact 73 (f := fMe "Rule" "__init__")) F_Rule___init__.kp
      mk_Rule := ⟨fMk_ok (S.fact 74 (f := fMk "Rule")) (S.fact 73 (f := fMe "Rule" "__init__")), (PySem.W.mg_of X G (fGlo_ok (S.fact 40 (f := fGlo "Rule")))), (show 25 ∈ ([20, 21, 22, 23, 24, 25] : List Nat) from by decide)⟩
      D_Rule___init__ := (by
          refine ⟨_, F_Rule___init__, fun s hs => ?_⟩
          simp only [List.mem_cons, List.not_mem_nil, or_false] at hs
          rcases hs with rfl | rfl
          · exact kb_of F_Rule___init__ 2 [] [(false, 0)] [("sees_lost", .bl false)] (by simp) (by simp) (fun D doc pm an cdv ct us mv ws h1 h2 h3 => match us, h1, mv, h2, ws, h3 with | [_, _], _, [_], _, [], _ => ⟨_, _, _, _, _, _, rfl, rfl, rfl⟩)
          · exact kb_of F_Rule___init__ 2 ["sees_lost"] [(true, 0)] [] (by simp) (by simp) (fun D doc pm an cdv ct us mv ws h1 h2 h3 => match us, h1, mv, h2, ws, h3 with | [_, _], _, [], _, [_], _ => rfl))
      q_Cutter___str__ := fMe_meth (S.fact 75 (f := fMe "Cutter" "__str__")) F_Cutter___str__.kp
      D_Cutter___str__ := ⟨_, fun_ofD F_Cutter___str__, (fun_ofD F_Cutter___str__).binds fun _ _ _ _ _ _ us hl => match us, hl with | [_], _ => rfl⟩
      q_Rule___str__ := fMe_meth (S.fact 76 (f := fMe "Rule" "__str__")) F_Rule___str__.kp
      D_Rule___str__ := ⟨_, fun_ofD F_Rule___str__, (fun_ofD F_Rule___str__).binds fun _ _ _ _ _ _ us hl => match us, hl with | [_], _ => rfl⟩
      p_Cutter_parts := fPr_ok (S.fact 77 (f := fPr "Cutter" "parts"))
      D_Cutter_parts := ⟨_, fun_ofD F_Cutter_parts, (fun_ofD F_Cutter_parts).binds fun _ _ _ _ _ _ us hl => match us, hl with | [_], _ => rfl⟩
      D_require_bundle := ⟨_, _, fun_ofD F_require_bundle, (fun_ofD F_require_bundle).binds fun _ _ _ _ _ _ us hl => match us, hl with | [_], _ => rfl, (PySem.W.mg_of X G (fGlo_ok (S.fact 78 (f := fGlo "require_bundle"))))⟩
      D_is_mark_of := ⟨_, _, fun_ofD F_is_mark_of, (fun_ofD F_is_mark_of).binds fun _ _ _ _ _ _ us hl => match us, hl with | [_, _], _ => rfl, (PySem.W.mg_of X G (fGlo_ok (S.fact 79 (f := fGlo "is_mark_of"))))⟩
      D_require_mark := ⟨_, _, fun_ofD F_require_mark, (fun_ofD F_require_mark).binds fun _ _ _ _ _ _ us hl => match us, hl with | [_, _], _ => rfl, (PySem.W.mg_of X G (fGlo_ok (S.fact 80 (f := fGlo "require_mark"))))⟩
      D_bound_row := ⟨_, _, fun_ofD F_bound_row, (fun_ofD F_bound_row).binds fun _ _ _ _ _ _ us hl => match us, hl with | [_, _, _, _], _ => rfl, (PySem.W.mg_of X G (fGlo_ok (S.fact 81 (f := fGlo "bound_row"))))⟩
      q_Rule_bound := fMe_meth (S.fact 82 (f := fMe "Rule" "bound")) F_Rule_bound.kp
      D_Rule_bound := ⟨_, fun_ofD F_Rule_bound, (fun_ofD F_Rule_bound).binds fun _ _ _ _ _ _ us hl => match us, hl with | [_, _, _], _ => rfl⟩
      p_Rule_cutter := fPr_ok (S.fact 83 (f := fPr "Rule" "cutter"))
      D_Rule_cutter := ⟨_, fun_ofD F_Rule_cutter, (fun_ofD F_Rule_cutter).binds fun _ _ _ _ _ _ us hl => match us, hl with | [_], _ => rfl⟩
      D__law_roll := ⟨_, _, fun_ofD F__law_roll, (fun_ofD F__law_roll).binds fun _ _ _ _ _ _ us hl => match us, hl with | [_, _], _ => rfl, (PySem.W.mg_of X G (fGlo_ok (S.fact 84 (f := fGlo "_law_roll"))))⟩
      D__law_one_of := ⟨_, _, fun_ofD F__law_one_of, (fun_ofD F__law_one_of).binds fun _ _ _ _ _ _ us hl => match us, hl with | [_, _], _ => rfl, (PySem.W.mg_of X G (fGlo_ok (S.fact 85 (f := fGlo "_law_one_of"))))⟩
      D__law_signs := ⟨_, _, fun_ofD F__law_signs, (fun_ofD F__law_signs).binds fun _ _ _ _ _ _ us hl => match us, hl with | [_, _], _ => rfl, (PySem.W.mg_of X G (fGlo_ok (S.fact 86 (f := fGlo "_law_signs"))))⟩
      D__law_part := ⟨_, _, fun_ofD F__law_part, (fun_ofD F__law_part).binds fun _ _ _ _ _ _ us hl => match us, hl with | [_], _ => rfl, (PySem.W.mg_of X G (fGlo_ok (S.fact 87 (f := fGlo "_law_part"))))⟩
      D__law_parts := ⟨_, _, fun_ofD F__law_parts, (fun_ofD F__law_parts).binds fun _ _ _ _ _ _ us hl => match us, hl with | [_, _], _ => rfl, (PySem.W.mg_of X G (fGlo_ok (S.fact 88 (f := fGlo "_law_parts"))))⟩
      D__law_met := ⟨_, _, fun_ofD F__law_met, (fun_ofD F__law_met).binds fun _ _ _ _ _ _ us hl => match us, hl with | [_], _ => rfl, (PySem.W.mg_of X G (fGlo_ok (S.fact 89 (f := fGlo "_law_met"))))⟩
      D__law_made_right := ⟨_, _, fun_ofD F__law_made_right, (fun_ofD F__law_made_right).binds fun _ _ _ _ _ _ us hl => match us, hl with | [_, _], _ => rfl, (PySem.W.mg_of X G (fGlo_ok (S.fact 90 (f := fGlo "_law_made_right")))), code_of F__law_made_right⟩
      p_Bundle_letters := fPr_ok (S.fact 91 (f := fPr "Bundle" "letters"))
      D_Bundle_letters := ⟨_, fun_ofD F_Bundle_letters, (fun_ofD F_Bundle_letters).binds fun _ _ _ _ _ _ us hl => match us, hl with | [_], _ => rfl⟩
      q_Bundle___len__ := fMe_meth (S.fact 92 (f := fMe "Bundle" "__len__")) F_Bundle___len__.kp
      D_Bundle___len__ := ⟨_, fun_ofD F_Bundle___len__, (fun_ofD F_Bundle___len__).binds fun _ _ _ _ _ _ us hl => match us, hl with | [_], _ => rfl⟩
      p_Company_people := fPr_ok (S.fact 93 (f := fPr "Company" "people"))
      D_Company_people := ⟨_, fun_ofD F_Company_people, (fun_ofD F_Company_people).binds fun _ _ _ _ _ _ us hl => match us, hl with | [_], _ => rfl⟩
      q_Cutter_is_within := fMe_meth (S.fact 94 (f := fMe "Cutter" "is_within")) F_Cutter_is_within.kp
      D_Cutter_is_within := ⟨_, fun_ofD F_Cutter_is_within, (fun_ofD F_Cutter_is_within).binds fun _ _ _ _ _ _ us hl => match us, hl with | [_, _], _ => rfl⟩
      D_require_rule := ⟨_, _, fun_ofD F_require_rule, (fun_ofD F_require_rule).binds fun _ _ _ _ _ _ us hl => match us, hl with | [_], _ => rfl, (PySem.W.mg_of X G (fGlo_ok (S.fact 95 (f := fGlo "require_rule"))))⟩
      q_Rule_is_within := fMe_meth (S.fact 96 (f := fMe "Rule" "is_within")) F_Rule_is_within.kp
      D_Rule_is_within := ⟨_, fun_ofD F_Rule_is_within, (fun_ofD F_Rule_is_within).binds fun _ _ _ _ _ _ us hl => match us, hl with | [_, _], _ => rfl⟩
      D_require_person := ⟨_, _, fun_ofD F_require_person, (fun_ofD F_require_person).binds fun _ _ _ _ _ _ us hl => match us, hl with | [_, _], _ => rfl, (PySem.W.mg_of X G (fGlo_ok (S.fact 97 (f := fGlo "require_person"))))⟩
      q_Known_cutters___init__ := fMe_meth (S.fact 98 (f := fMe "Known_cutters" "__init__")) F_Known_cutters___init__.kp
      mk_Known_cutters := ⟨fMk_ok (S.fact 99 (f := fMk "Known_cutters")) (S.fact 98 (f := fMe "Known_cutters" "__init__")), (PySem.W.mg_of X G (fGlo_ok (S.fact 30 (f := fGlo "Known_cutters")))), (show 20 ∈ ([20, 21, 22, 23, 24, 25] : List Nat) from by decide)⟩
      D_Known_cutters___init__ := ⟨_, fun_ofD F_Known_cutters___init__, (fun_ofD F_Known_cutters___init__).binds fun _ _ _ _ _ _ us hl => match us, hl with | [_, _], _ => rfl⟩
      D_chained := ⟨_, _, fun_ofD F_chained, (fun_ofD F_chained).binds fun _ _ _ _ _ _ us hl => match us, hl with | [_, _], _ => rfl, (PySem.W.mg_of X G (fGlo_ok (S.fact 100 (f := fGlo "chained"))))⟩
      D_through_in := ⟨_, _, fun_ofD F_through_in, (fun_ofD F_through_in).binds fun _ _ _ _ _ _ us hl => match us, hl with | [_, _, _], _ => rfl, (PySem.W.mg_of X G (fGlo_ok (S.fact 101 (f := fGlo "through_in"))))⟩
      q_Rule_through := fMe_meth (S.fact 102 (f := fMe "Rule" "through")) F_Rule_through.kp
      D_Rule_through := ⟨_, fun_ofD F_Rule_through, (fun_ofD F_Rule_through).binds fun _ _ _ _ _ _ us hl => match us, hl with | [_, _, _], _ => rfl⟩
      q_Cutter___call__ := fMe_meth (S.fact 103 (f := fMe "Cutter" "__call__")) F_Cutter___call__.kp
      co_Cutter := ⟨(fMe_ok (S.fact 103 (f := fMe "Cutter" "__call__"))).1, (fMe_ok (S.fact 103 (f := fMe "Cutter" "__call__"))).2, (S.fact 104 (f := fFnIn "Cutter" "__call__"))⟩
      D_Cutter___call__ := ⟨_, fun_ofD F_Cutter___call__, (fun_ofD F_Cutter___call__).binds fun _ _ _ _ _ _ us hl => match us, hl with | [_, _], _ => rfl⟩
      q_Rule___call__ := fMe_meth (S.fact 105 (f := fMe "Rule" "__call__")) F_Rule___call__.kp
      co_Rule := ⟨(fMe_ok (S.fact 105 (f := fMe "Rule" "__call__"))).1, (fMe_ok (S.fact 105 (f := fMe "Rule" "__call__"))).2, (S.fact 106 (f := fFnIn "Rule" "__call__"))⟩
      D_Rule___call__ := ⟨_, fun_ofD F_Rule___call__, (fun_ofD F_Rule___call__).binds fun _ _ _ _ _ _ us hl => match us, hl with | [_, _], _ => rfl⟩
      D__law_asked_right := ⟨_, _, fun_ofD F__law_asked_right, (fun_ofD F__law_asked_right).binds fun _ _ _ _ _ _ us hl => match us, hl with | [_, _, _, _], _ => rfl, (PySem.W.mg_of X G (fGlo_ok (S.fact 107 (f := fGlo "_law_asked_right")))), code_of F__law_asked_right⟩
      D__law_right := ⟨_, _, fun_ofD F__law_right, (fun_ofD F__law_right).binds fun _ _ _ _ _ _ us hl => match us, hl with | [_], _ => rfl, (PySem.W.mg_of X G (fGlo_ok (S.fact 108 (f := fGlo "_law_right"))))⟩
      D__law_dice := ⟨_, _, fun_ofD F__law_dice, (fun_ofD F__law_dice).binds fun _ _ _ _ _ _ us hl => match us, hl with | [_, _], _ => rfl, (PySem.W.mg_of X G (fGlo_ok (S.fact 109 (f := fGlo "_law_dice"))))⟩
      D_law := ⟨_, _, fun_ofD F_law, (fun_ofD F_law).binds fun _ _ _ _ _ _ us hl => match us, hl with | [_], _ => rfl, (PySem.W.mg_of X G (fGlo_ok (S.fact 110 (f := fGlo "law"))))⟩
      n_Cutter_own_parts := findB_ok (S.fact 111 (f := fNo "Cutter" "own_parts"))
      n_Cutter_own_tables := findB_ok (S.fact 112 (f := fNo "Cutter" "own_tables"))
      n_Cutter_own_is_whole := findB_ok (S.fact 113 (f := fNo "Cutter" "own_is_whole"))
      n_Known_cutters_own_parts := findB_ok (S.fact 114 (f := fNo "Known_cutters" "own_parts"))
      n_Company_own_people := findB_ok (S.fact 115 (f := fNo "Company" "own_people"))
      n_Company_own_starts := findB_ok (S.fact 116 (f := fNo "Company" "own_starts"))
      n_Company_own_copies := findB_ok (S.fact 117 (f := fNo "Company" "own_copies"))
      n_Company_own_answers := findB_ok (S.fact 118 (f := fNo "Company" "own_answers"))
      n_Company_own_takings := findB_ok (S.fact 119 (f := fNo "Company" "own_takings"))
      n_Bundle_own_company := findB_ok (S.fact 120 (f := fNo "Bundle" "own_company"))
      n_Bundle_own_letters := findB_ok (S.fact 121 (f := fNo "Bundle" "own_letters"))
      n_Bundle_own_lists := findB_ok (S.fact 122 (f := fNo "Bundle" "own_lists"))
      n_Bundle_own_talks := findB_ok (S.fact 123 (f := fNo "Bundle" "own_talks"))
      n_Known_bundles_own_letters := findB_ok (S.fact 124 (f := fNo "Known_bundles" "own_letters"))
      n_Rule_own_cutter := findB_ok (S.fact 125 (f := fNo "Rule" "own_cutter"))
      n_Rule_own_sees := findB_ok (S.fact 126 (f := fNo "Rule" "own_sees"))
      fm_Cutter := fFmt_ok (S.fact 127 (f := fFmt "Cutter"))
      x_InvalidCutter := ⟨(PySem.W.mg_of X G (fGlo_ok (S.fact 128 (f := fGlo "InvalidCutter")))), (S.fact 129 (f := fExc "InvalidCutter" [.type "ValueError", .type "Exception", .type "BaseException", .type "object"] "ValueError.__new__")), (S.fact 130 (f := fKeep "InvalidCutter")), fSubT_ok (S.fact 131 (f := fSubT "InvalidCutter" "BaseException")), fTy_ok (S.fact 132 (f := fTy "InvalidCutter")), (S.fact 133 (f := fHd "InvalidCutter"))⟩
      xm_InvalidCutter := (PySem.W.mg_of X G (fGlo_ok (S.fact 128 (f := fGlo "InvalidCutter"))))
      x_InvalidCompany := ⟨(PySem.W.mg_of X G (fGlo_ok (S.fact 134 (f := fGlo "InvalidCompany")))), (S.fact 135 (f := fExc "InvalidCompany" [.type "ValueError", .type "Exception", .type "BaseException", .type "object"] "ValueError.__new__")), (S.fact 136 (f := fKeep "InvalidCompany")), fSubT_ok (S.fact 137 (f := fSubT "InvalidCompany" "BaseException")), fTy_ok (S.fact 138 (f := fTy "InvalidCompany")), (S.fact 139 (f := fHd "InvalidCompany"))⟩
      xm_InvalidCompany := (PySem.W.mg_of X G (fGlo_ok (S.fact 134 (f := fGlo "InvalidCompany"))))
      x_InvalidBundle := ⟨(PySem.W.mg_of X G (fGlo_ok (S.fact 140 (f := fGlo "InvalidBundle")))), (S.fact 141 (f := fExc "InvalidBundle" [.type "ValueError", .type "Exception", .type "BaseException", .type "object"] "ValueError.__new__")), (S.fact 142 (f := fKeep "InvalidBundle")), fSubT_ok (S.fact 143 (f := fSubT "InvalidBundle" "BaseException")), fTy_ok (S.fact 144 (f := fTy "InvalidBundle")), (S.fact 145 (f := fHd "InvalidBundle"))⟩
      xm_InvalidBundle := (PySem.W.mg_of X G (fGlo_ok (S.fact 140 (f := fGlo "InvalidBundle"))))
      x_InvalidRule := ⟨(PySem.W.mg_of X G (fGlo_ok (S.fact 146 (f := fGlo "InvalidRule")))), (S.fact 147 (f := fExc "InvalidRule" [.type "ValueError", .type "Exception", .type "BaseException", .type "object"] "ValueError.__new__")), (S.fact 148 (f := fKeep "InvalidRule")), fSubT_ok (S.fact 149 (f := fSubT "InvalidRule" "BaseException")), fTy_ok (S.fact 150 (f := fTy "InvalidRule")), (S.fact 151 (f := fHd "InvalidRule"))⟩
      xm_InvalidRule := (PySem.W.mg_of X G (fGlo_ok (S.fact 146 (f := fGlo "InvalidRule"))))
      x_UnknownName := xs_of (P := P) X G S (px := "name") (fld := "name") (fl := flS) (qual := "UnknownName.__init__") kxs_KeyError initF_KeyError ⟨"LookupError", "LookupError.__init__", _, PySem.F.excBase_LookupError, by decide +kernel, by decide +kernel, by decide +kernel⟩ (fun y C => by rw [refuseLoop_ref]; exact passes_KeyError y) (by decide +kernel) (S.fact 152 (f := fGlo "UnknownName")) (S.fact 153 (f := fSupC "UnknownName" [.type "KeyError", .type "LookupError", .type "Exception", .type "BaseException", .type "object"] "LookupError.__new__")) (S.fact 154 (f := fSupF "UnknownName" flS)) (S.fact 155 (f := fSupX "UnknownName" "name" "KeyError" "KeyError.__init__" [.type "KeyError", .type "LookupError", .type "Exception", .type "BaseException", .type "object"])) (S.fact 156 (f := fFree "super")) 62 (d := dd_UnknownName___init__) rfl rfl rfl rfl rfl rfl rfl hfile htop
      xm_UnknownName := (PySem.W.mg_of X G (fGlo_ok (S.fact 152 (f := fGlo "UnknownName"))))
      x_InvalidOperation := ⟨(PySem.W.mg_of X G (fGlo_ok (S.fact 157 (f := fGlo "InvalidOperation")))), (S.fact 158 (f := fExc "InvalidOperation" [.type "ValueError", .type "Exception", .type "BaseException", .type "object"] "ValueError.__new__")), (S.fact 159 (f := fKeep "InvalidOperation")), fSubT_ok (S.fact 160 (f := fSubT "InvalidOperation" "BaseException")), fTy_ok (S.fact 161 (f := fTy "InvalidOperation")), (S.fact 162 (f := fHd "InvalidOperation"))⟩
      xm_InvalidOperation := (PySem.W.mg_of X G (fGlo_ok (S.fact 157 (f := fGlo "InvalidOperation"))))
      meet_InvalidCutter := (by
          intro D hD
          simp only [List.mem_cons, List.not_mem_nil, or_false] at hD
          rcases hD with rfl | rfl | rfl | rfl | rfl | rfl
          · exact PySem.W.exm_ref (fSubT_ok (S.fact 131 (f := fSubT "InvalidCutter" "BaseException"))) (S.fact 133 (f := fHd "InvalidCutter")) (fTy_ok (S.fact 132 (f := fTy "InvalidCutter"))) (fSub_ok (S.fact 163 (f := fSub "InvalidCutter" "InvalidCutter" true)))
          · exact PySem.W.exm_ref (fSubT_ok (S.fact 131 (f := fSubT "InvalidCutter" "BaseException"))) (S.fact 133 (f := fHd "InvalidCutter")) (fTy_ok (S.fact 132 (f := fTy "InvalidCutter"))) (fSub_ok (S.fact 164 (f := fSub "InvalidCompany" "InvalidCutter" false)))
          · exact PySem.W.exm_ref (fSubT_ok (S.fact 131 (f := fSubT "InvalidCutter" "BaseException"))) (S.fact 133 (f := fHd "InvalidCutter")) (fTy_ok (S.fact 132 (f := fTy "InvalidCutter"))) (fSub_ok (S.fact 165 (f := fSub "InvalidBundle" "InvalidCutter" false)))
          · exact PySem.W.exm_ref (fSubT_ok (S.fact 131 (f := fSubT "InvalidCutter" "BaseException"))) (S.fact 133 (f := fHd "InvalidCutter")) (fTy_ok (S.fact 132 (f := fTy "InvalidCutter"))) (fSub_ok (S.fact 166 (f := fSub "InvalidRule" "InvalidCutter" false)))
          · exact PySem.W.exm_ref (fSubT_ok (S.fact 131 (f := fSubT "InvalidCutter" "BaseException"))) (S.fact 133 (f := fHd "InvalidCutter")) (fTy_ok (S.fact 132 (f := fTy "InvalidCutter"))) (fSub_ok (S.fact 167 (f := fSub "UnknownName" "InvalidCutter" false)))
          · exact PySem.W.exm_ref (fSubT_ok (S.fact 131 (f := fSubT "InvalidCutter" "BaseException"))) (S.fact 133 (f := fHd "InvalidCutter")) (fTy_ok (S.fact 132 (f := fTy "InvalidCutter"))) (fSub_ok (S.fact 168 (f := fSub "InvalidOperation" "InvalidCutter" false))))
      meet_InvalidRule := (by
          intro D hD
          simp only [List.mem_cons, List.not_mem_nil, or_false] at hD
          rcases hD with rfl | rfl | rfl | rfl | rfl | rfl
          · exact PySem.W.exm_ref (fSubT_ok (S.fact 149 (f := fSubT "InvalidRule" "BaseException"))) (S.fact 151 (f := fHd "InvalidRule")) (fTy_ok (S.fact 150 (f := fTy "InvalidRule"))) (fSub_ok (S.fact 169 (f := fSub "InvalidCutter" "InvalidRule" false)))
          · exact PySem.W.exm_ref (fSubT_ok (S.fact 149 (f := fSubT "InvalidRule" "BaseException"))) (S.fact 151 (f := fHd "InvalidRule")) (fTy_ok (S.fact 150 (f := fTy "InvalidRule"))) (fSub_ok (S.fact 170 (f := fSub "InvalidCompany" "InvalidRule" false)))
          · exact PySem.W.exm_ref (fSubT_ok (S.fact 149 (f := fSubT "InvalidRule" "BaseException"))) (S.fact 151 (f := fHd "InvalidRule")) (fTy_ok (S.fact 150 (f := fTy "InvalidRule"))) (fSub_ok (S.fact 171 (f := fSub "InvalidBundle" "InvalidRule" false)))
          · exact PySem.W.exm_ref (fSubT_ok (S.fact 149 (f := fSubT "InvalidRule" "BaseException"))) (S.fact 151 (f := fHd "InvalidRule")) (fTy_ok (S.fact 150 (f := fTy "InvalidRule"))) (fSub_ok (S.fact 172 (f := fSub "InvalidRule" "InvalidRule" true)))
          · exact PySem.W.exm_ref (fSubT_ok (S.fact 149 (f := fSubT "InvalidRule" "BaseException"))) (S.fact 151 (f := fHd "InvalidRule")) (fTy_ok (S.fact 150 (f := fTy "InvalidRule"))) (fSub_ok (S.fact 173 (f := fSub "UnknownName" "InvalidRule" false)))
          · exact PySem.W.exm_ref (fSubT_ok (S.fact 149 (f := fSubT "InvalidRule" "BaseException"))) (S.fact 151 (f := fHd "InvalidRule")) (fTy_ok (S.fact 150 (f := fTy "InvalidRule"))) (fSub_ok (S.fact 174 (f := fSub "InvalidOperation" "InvalidRule" false))))
      meet_InvalidBundle := (by
          intro D hD
          simp only [List.mem_cons, List.not_mem_nil, or_false] at hD
          rcases hD with rfl | rfl | rfl | rfl | rfl | rfl
          · exact PySem.W.exm_ref (fSubT_ok (S.fact 143 (f := fSubT "InvalidBundle" "BaseException"))) (S.fact 145 (f := fHd "InvalidBundle")) (fTy_ok (S.fact 144 (f := fTy "InvalidBundle"))) (fSub_ok (S.fact 175 (f := fSub "InvalidCutter" "InvalidBundle" false)))
          · exact PySem.W.exm_ref (fSubT_ok (S.fact 143 (f := fSubT "InvalidBundle" "BaseException"))) (S.fact 145 (f := fHd "InvalidBundle")) (fTy_ok (S.fact 144 (f := fTy "InvalidBundle"))) (fSub_ok (S.fact 176 (f := fSub "InvalidCompany" "InvalidBundle" false)))
          · exact PySem.W.exm_ref (fSubT_ok (S.fact 143 (f := fSubT "InvalidBundle" "BaseException"))) (S.fact 145 (f := fHd "InvalidBundle")) (fTy_ok (S.fact 144 (f := fTy "InvalidBundle"))) (fSub_ok (S.fact 177 (f := fSub "InvalidBundle" "InvalidBundle" true)))
          · exact PySem.W.exm_ref (fSubT_ok (S.fact 143 (f := fSubT "InvalidBundle" "BaseException"))) (S.fact 145 (f := fHd "InvalidBundle")) (fTy_ok (S.fact 144 (f := fTy "InvalidBundle"))) (fSub_ok (S.fact 178 (f := fSub "InvalidRule" "InvalidBundle" false)))
          · exact PySem.W.exm_ref (fSubT_ok (S.fact 143 (f := fSubT "InvalidBundle" "BaseException"))) (S.fact 145 (f := fHd "InvalidBundle")) (fTy_ok (S.fact 144 (f := fTy "InvalidBundle"))) (fSub_ok (S.fact 179 (f := fSub "UnknownName" "InvalidBundle" false)))
          · exact PySem.W.exm_ref (fSubT_ok (S.fact 143 (f := fSubT "InvalidBundle" "BaseException"))) (S.fact 145 (f := fHd "InvalidBundle")) (fTy_ok (S.fact 144 (f := fTy "InvalidBundle"))) (fSub_ok (S.fact 180 (f := fSub "InvalidOperation" "InvalidBundle" false))))
      meet_InvalidCompany := (by
          intro D hD
          simp only [List.mem_cons, List.not_mem_nil, or_false] at hD
          rcases hD with rfl | rfl | rfl | rfl | rfl | rfl
          · exact PySem.W.exm_ref (fSubT_ok (S.fact 137 (f := fSubT "InvalidCompany" "BaseException"))) (S.fact 139 (f := fHd "InvalidCompany")) (fTy_ok (S.fact 138 (f := fTy "InvalidCompany"))) (fSub_ok (S.fact 181 (f := fSub "InvalidCutter" "InvalidCompany" false)))
          · exact PySem.W.exm_ref (fSubT_ok (S.fact 137 (f := fSubT "InvalidCompany" "BaseException"))) (S.fact 139 (f := fHd "InvalidCompany")) (fTy_ok (S.fact 138 (f := fTy "InvalidCompany"))) (fSub_ok (S.fact 182 (f := fSub "InvalidCompany" "InvalidCompany" true)))
          · exact PySem.W.exm_ref (fSubT_ok (S.fact 137 (f := fSubT "InvalidCompany" "BaseException"))) (S.fact 139 (f := fHd "InvalidCompany")) (fTy_ok (S.fact 138 (f := fTy "InvalidCompany"))) (fSub_ok (S.fact 183 (f := fSub "InvalidBundle" "InvalidCompany" false)))
          · exact PySem.W.exm_ref (fSubT_ok (S.fact 137 (f := fSubT "InvalidCompany" "BaseException"))) (S.fact 139 (f := fHd "InvalidCompany")) (fTy_ok (S.fact 138 (f := fTy "InvalidCompany"))) (fSub_ok (S.fact 184 (f := fSub "InvalidRule" "InvalidCompany" false)))
          · exact PySem.W.exm_ref (fSubT_ok (S.fact 137 (f := fSubT "InvalidCompany" "BaseException"))) (S.fact 139 (f := fHd "InvalidCompany")) (fTy_ok (S.fact 138 (f := fTy "InvalidCompany"))) (fSub_ok (S.fact 185 (f := fSub "UnknownName" "InvalidCompany" false)))
          · exact PySem.W.exm_ref (fSubT_ok (S.fact 137 (f := fSubT "InvalidCompany" "BaseException"))) (S.fact 139 (f := fHd "InvalidCompany")) (fTy_ok (S.fact 138 (f := fTy "InvalidCompany"))) (fSub_ok (S.fact 186 (f := fSub "InvalidOperation" "InvalidCompany" false))))
      meet_InvalidOperation := (by
          intro D hD
          simp only [List.mem_cons, List.not_mem_nil, or_false] at hD
          rcases hD with rfl | rfl | rfl | rfl | rfl | rfl
          · exact PySem.W.exm_ref (fSubT_ok (S.fact 160 (f := fSubT "InvalidOperation" "BaseException"))) (S.fact 162 (f := fHd "InvalidOperation")) (fTy_ok (S.fact 161 (f := fTy "InvalidOperation"))) (fSub_ok (S.fact 187 (f := fSub "InvalidCutter" "InvalidOperation" false)))
          · exact PySem.W.exm_ref (fSubT_ok (S.fact 160 (f := fSubT "InvalidOperation" "BaseException"))) (S.fact 162 (f := fHd "InvalidOperation")) (fTy_ok (S.fact 161 (f := fTy "InvalidOperation"))) (fSub_ok (S.fact 188 (f := fSub "InvalidCompany" "InvalidOperation" false)))
          · exact PySem.W.exm_ref (fSubT_ok (S.fact 160 (f := fSubT "InvalidOperation" "BaseException"))) (S.fact 162 (f := fHd "InvalidOperation")) (fTy_ok (S.fact 161 (f := fTy "InvalidOperation"))) (fSub_ok (S.fact 189 (f := fSub "InvalidBundle" "InvalidOperation" false)))
          · exact PySem.W.exm_ref (fSubT_ok (S.fact 160 (f := fSubT "InvalidOperation" "BaseException"))) (S.fact 162 (f := fHd "InvalidOperation")) (fTy_ok (S.fact 161 (f := fTy "InvalidOperation"))) (fSub_ok (S.fact 190 (f := fSub "InvalidRule" "InvalidOperation" false)))
          · exact PySem.W.exm_ref (fSubT_ok (S.fact 160 (f := fSubT "InvalidOperation" "BaseException"))) (S.fact 162 (f := fHd "InvalidOperation")) (fTy_ok (S.fact 161 (f := fTy "InvalidOperation"))) (fSub_ok (S.fact 191 (f := fSub "UnknownName" "InvalidOperation" false)))
          · exact PySem.W.exm_ref (fSubT_ok (S.fact 160 (f := fSubT "InvalidOperation" "BaseException"))) (S.fact 162 (f := fHd "InvalidOperation")) (fTy_ok (S.fact 161 (f := fTy "InvalidOperation"))) (fSub_ok (S.fact 192 (f := fSub "InvalidOperation" "InvalidOperation" true))))
      meet_UnknownName := (by
          intro D hD
          simp only [List.mem_cons, List.not_mem_nil, or_false] at hD
          rcases hD with rfl | rfl | rfl | rfl | rfl | rfl
          · exact PySem.W.exm_ref (fSubT_ok (S.fact 193 (f := fSubT "UnknownName" "BaseException"))) (S.fact 194 (f := fHd "UnknownName")) (fTy_ok (S.fact 195 (f := fTy "UnknownName"))) (fSub_ok (S.fact 196 (f := fSub "InvalidCutter" "UnknownName" false)))
          · exact PySem.W.exm_ref (fSubT_ok (S.fact 193 (f := fSubT "UnknownName" "BaseException"))) (S.fact 194 (f := fHd "UnknownName")) (fTy_ok (S.fact 195 (f := fTy "UnknownName"))) (fSub_ok (S.fact 197 (f := fSub "InvalidCompany" "UnknownName" false)))
          · exact PySem.W.exm_ref (fSubT_ok (S.fact 193 (f := fSubT "UnknownName" "BaseException"))) (S.fact 194 (f := fHd "UnknownName")) (fTy_ok (S.fact 195 (f := fTy "UnknownName"))) (fSub_ok (S.fact 198 (f := fSub "InvalidBundle" "UnknownName" false)))
          · exact PySem.W.exm_ref (fSubT_ok (S.fact 193 (f := fSubT "UnknownName" "BaseException"))) (S.fact 194 (f := fHd "UnknownName")) (fTy_ok (S.fact 195 (f := fTy "UnknownName"))) (fSub_ok (S.fact 199 (f := fSub "InvalidRule" "UnknownName" false)))
          · exact PySem.W.exm_ref (fSubT_ok (S.fact 193 (f := fSubT "UnknownName" "BaseException"))) (S.fact 194 (f := fHd "UnknownName")) (fTy_ok (S.fact 195 (f := fTy "UnknownName"))) (fSub_ok (S.fact 200 (f := fSub "UnknownName" "UnknownName" true)))
          · exact PySem.W.exm_ref (fSubT_ok (S.fact 193 (f := fSubT "UnknownName" "BaseException"))) (S.fact 194 (f := fHd "UnknownName")) (fTy_ok (S.fact 195 (f := fTy "UnknownName"))) (fSub_ok (S.fact 201 (f := fSub "InvalidOperation" "UnknownName" false))))
      ki_InvalidRule_ValueError := (kits_cons (fExcC_ok (S.fact 203 (f := fExcC "InvalidRule"))) (fKitB_ok (S.fact 202 (f := fKitB "InvalidRule" "ValueError" true))) kits_nil)
      ki_UnknownName_KeyError := (kits_cons (fExcC_ok (S.fact 205 (f := fExcC "UnknownName"))) (fKitB_ok (S.fact 204 (f := fKitB "UnknownName" "KeyError" true))) kits_nil)
      kls := (by
          intro C hC
          have hC : C ∈ ([20, 21, 22, 23, 24, 25] : List Nat) := hC
          simp only [List.mem_cons, List.not_mem_nil, or_false] at hC
          rcases hC with rfl | rfl | rfl | rfl | rfl | rfl
          · refine kls_of (clsB_ok (S.fact 31 (f := fCls "Known_cutters"))) fun D hD hn => ?_
            have hD : D ∈ ([20, 21, 22, 23, 24, 25] : List Nat) := hD
            simp only [List.mem_cons, List.not_mem_nil, or_false] at hD
            rcases hD with rfl | rfl | rfl | rfl | rfl | rfl
            · exact absurd rfl hn
            · exact fKit_ok (S.fact 206 (f := fKit "Cutter" "Known_cutters"))
            · exact fKit_ok (S.fact 207 (f := fKit "Company" "Known_cutters"))
            · exact fKit_ok (S.fact 208 (f := fKit "Known_bundles" "Known_cutters"))
            · exact fKit_ok (S.fact 209 (f := fKit "Bundle" "Known_cutters"))
            · exact fKit_ok (S.fact 210 (f := fKit "Rule" "Known_cutters"))
          · refine kls_of (clsB_ok (S.fact 33 (f := fCls "Cutter"))) fun D hD hn => ?_
            have hD : D ∈ ([20, 21, 22, 23, 24, 25] : List Nat) := hD
            simp only [List.mem_cons, List.not_mem_nil, or_false] at hD
            rcases hD with rfl | rfl | rfl | rfl | rfl | rfl
            · exact fKit_ok (S.fact 211 (f := fKit "Known_cutters" "Cutter"))
            · exact absurd rfl hn
            · exact fKit_ok (S.fact 212 (f := fKit "Company" "Cutter"))
            · exact fKit_ok (S.fact 213 (f := fKit "Known_bundles" "Cutter"))
            · exact fKit_ok (S.fact 214 (f := fKit "Bundle" "Cutter"))
            · exact fKit_ok (S.fact 215 (f := fKit "Rule" "Cutter"))
          · refine kls_of (clsB_ok (S.fact 35 (f := fCls "Company"))) fun D hD hn => ?_
            have hD : D ∈ ([20, 21, 22, 23, 24, 25] : List Nat) := hD
            simp only [List.mem_cons, List.not_mem_nil, or_false] at hD
            rcases hD with rfl | rfl | rfl | rfl | rfl | rfl
            · exact fKit_ok (S.fact 216 (f := fKit "Known_cutters" "Company"))
            · exact fKit_ok (S.fact 217 (f := fKit "Cutter" "Company"))
            · exact absurd rfl hn
            · exact fKit_ok (S.fact 218 (f := fKit "Known_bundles" "Company"))
            · exact fKit_ok (S.fact 219 (f := fKit "Bundle" "Company"))
            · exact fKit_ok (S.fact 220 (f := fKit "Rule" "Company"))
          · refine kls_of (clsB_ok (S.fact 37 (f := fCls "Known_bundles"))) fun D hD hn => ?_
            have hD : D ∈ ([20, 21, 22, 23, 24, 25] : List Nat) := hD
            simp only [List.mem_cons, List.not_mem_nil, or_false] at hD
            rcases hD with rfl | rfl | rfl | rfl | rfl | rfl
            · exact fKit_ok (S.fact 221 (f := fKit "Known_cutters" "Known_bundles"))
            · exact fKit_ok (S.fact 222 (f := fKit "Cutter" "Known_bundles"))
            · exact fKit_ok (S.fact 223 (f := fKit "Company" "Known_bundles"))
            · exact absurd rfl hn
            · exact fKit_ok (S.fact 224 (f := fKit "Bundle" "Known_bundles"))
            · exact fKit_ok (S.fact 225 (f := fKit "Rule" "Known_bundles"))
          · refine kls_of (clsB_ok (S.fact 39 (f := fCls "Bundle"))) fun D hD hn => ?_
            have hD : D ∈ ([20, 21, 22, 23, 24, 25] : List Nat) := hD
            simp only [List.mem_cons, List.not_mem_nil, or_false] at hD
            rcases hD with rfl | rfl | rfl | rfl | rfl | rfl
            · exact fKit_ok (S.fact 226 (f := fKit "Known_cutters" "Bundle"))
            · exact fKit_ok (S.fact 227 (f := fKit "Cutter" "Bundle"))
            · exact fKit_ok (S.fact 228 (f := fKit "Company" "Bundle"))
            · exact fKit_ok (S.fact 229 (f := fKit "Known_bundles" "Bundle"))
            · exact absurd rfl hn
            · exact fKit_ok (S.fact 230 (f := fKit "Rule" "Bundle"))
          · refine kls_of (clsB_ok (S.fact 41 (f := fCls "Rule"))) fun D hD hn => ?_
            have hD : D ∈ ([20, 21, 22, 23, 24, 25] : List Nat) := hD
            simp only [List.mem_cons, List.not_mem_nil, or_false] at hD
            rcases hD with rfl | rfl | rfl | rfl | rfl | rfl
            · exact fKit_ok (S.fact 231 (f := fKit "Known_cutters" "Rule"))
            · exact fKit_ok (S.fact 232 (f := fKit "Cutter" "Rule"))
            · exact fKit_ok (S.fact 233 (f := fKit "Company" "Rule"))
            · exact fKit_ok (S.fact 234 (f := fKit "Known_bundles" "Rule"))
            · exact fKit_ok (S.fact 235 (f := fKit "Bundle" "Rule"))
            · exact absurd rfl hn)
      tm__law_made_right := List.mem_cons_self
      tu__law_made_right := (by
          intro p hp0 hp
          have hp0 : p ∈ ([(He.tabOf K (codeA K (He.ga K "_law_made_right")), (("_law_made_right" : PySem.Str) ++ ".<locals>.") ++ "<lambda>"), (He.tabOf K (codeA K (He.ga K "_law_asked_right")), (("_law_asked_right" : PySem.Str) ++ ".<locals>.") ++ "<lambda>")] : List (Addr × PySem.Str)) := hp0
          simp only [List.mem_cons, List.not_mem_nil, or_false] at hp0
          rcases hp0 with rfl | rfl
          · rfl
          · exact absurd hp (fNeA_ok (S.fact 236 (f := fNeA (fun K => He.tabOf K (codeA K (He.ga K "_law_asked_right"))) (fun K => He.tabOf K (codeA K (He.ga K "_law_made_right")))))))
      tm__law_asked_right := (List.mem_cons_of_mem _ List.mem_cons_self)
      tu__law_asked_right := (by
          intro p hp0 hp
          have hp0 : p ∈ ([(He.tabOf K (codeA K (He.ga K "_law_made_right")), (("_law_made_right" : PySem.Str) ++ ".<locals>.") ++ "<lambda>"), (He.tabOf K (codeA K (He.ga K "_law_asked_right")), (("_law_asked_right" : PySem.Str) ++ ".<locals>.") ++ "<lambda>")] : List (Addr × PySem.Str)) := hp0
          simp only [List.mem_cons, List.not_mem_nil, or_false] at hp0
          rcases hp0 with rfl | rfl
          · exact absurd hp (fNeA_ok (S.fact 237 (f := fNeA (fun K => He.tabOf K (codeA K (He.ga K "_law_made_right"))) (fun K => He.tabOf K (codeA K (He.ga K "_law_asked_right"))))))
          · rfl) }
  refine ⟨c, fd_law, rfl, rfl, rfl, ?_, fun s v => FunD.bindsA (ps := ["_law_script"]) F_law (fun _ _ _ _ _ _ us hl => match us, hl with | [_], _ => rfl) s [v] rfl, fun base hT => ?_⟩
  · intro p hp
    have hp : p ∈ ([(He.tabOf K (codeA K (He.ga K "_law_made_right")), (("_law_made_right" : PySem.Str) ++ ".<locals>.") ++ "<lambda>"), (He.tabOf K (codeA K (He.ga K "_law_asked_right")), (("_law_asked_right" : PySem.Str) ++ ".<locals>.") ++ "<lambda>")] : List (Addr × PySem.Str)) := hp
    simp only [List.mem_cons, List.not_mem_nil, or_false] at hp
    rcases hp with rfl | rfl
    · exact ⟨cTA K (fun K => He.ga K "_law_made_right"), List.mem_map.mpr ⟨_, List.mem_cons_self, rfl⟩, rfl⟩
    · exact ⟨cTA K (fun K => He.ga K "_law_asked_right"), List.mem_map.mpr ⟨_, (List.mem_cons_of_mem _ List.mem_cons_self), rfl⟩, rfl⟩
  have tb__law_made_right := hT (cTA K (fun K => He.ga K "_law_made_right")) (List.mem_map.mpr ⟨_, List.mem_cons_self, rfl⟩)
  have tb__law_asked_right := hT (cTA K (fun K => He.ga K "_law_asked_right")) (List.mem_map.mpr ⟨_, (List.mem_cons_of_mem _ List.mem_cons_self), rfl⟩)
  have g_part_places := gx_part_places (P := P) (base := base) T 
  have g_chain_places := gx_chain_places (P := P) (base := base) T g_part_places
  have g_are_signs := gx_are_signs (P := P) (base := base) T 
  have g_is_part := gx_is_part (P := P) (base := base) T g_are_signs
  have g_Cutter___init__ := gx_Cutter___init__ (P := P) (base := base) T g_chain_places g_is_part
  have g_Cutter_of := gx_Cutter_of (P := P) (base := base) T g_Cutter___init__
  have g_is_ascending := gx_is_ascending (P := P) (base := base) T 
  have g_is_name := gx_is_name (P := P) (base := base) T 
  have g_are_people := gx_are_people (P := P) (base := base) T g_is_ascending g_is_name
  have g_are_copies := gx_are_copies (P := P) (base := base) T 
  have g_in_order := gx_in_order (P := P) (base := base) T 
  have g_are_some := gx_are_some (P := P) (base := base) T g_is_ascending
  have g_is_pair := gx_is_pair (P := P) (base := base) T 
  have g_is_turn := gx_is_turn (P := P) (base := base) T 
  have g_are_turns := gx_are_turns (P := P) (base := base) T g_is_pair g_is_turn
  have g_Company___init___k2_copies := gx_Company___init___k2_copies (P := P) (base := base) T g_Cutter___init__ g_are_people g_are_copies g_in_order g_are_some g_are_turns
  have g_require_company := gx_require_company (P := P) (base := base) T 
  have g_turn_behind := gx_turn_behind (P := P) (base := base) T 
  have g_kept_places := gx_kept_places (P := P) (base := base) T 
  have g_cut := gx_cut (P := P) (base := base) T g_kept_places
  have g_lists_in := gx_lists_in (P := P) (base := base) T g_turn_behind g_cut
  have g_talks_in := gx_talks_in (P := P) (base := base) T 
  have g_is_integer := gx_is_integer (P := P) (base := base) T 
  have g_is_letter := gx_is_letter (P := P) (base := base) T g_turn_behind g_is_integer
  have g_are_letters := gx_are_letters (P := P) (base := base) T g_is_letter
  have g_checked := gx_checked (P := P) (base := base) T g_are_letters
  have g_Bundle___init__ := gx_Bundle___init__ (P := P) (base := base) T g_require_company g_lists_in g_talks_in g_checked
  have g_require_cutter := gx_require_cutter (P := P) (base := base) T 
  have g_Rule___init___k1 := gx_Rule___init___k1 (P := P) (base := base) T g_require_cutter
  have g_Rule___init___k1_sees_lost := gx_Rule___init___k1_sees_lost (P := P) (base := base) T g_require_cutter
  have g_Cutter___str__ := gx_Cutter___str__ (P := P) (base := base) T 
  have g_Rule___str__ := gx_Rule___str__ (P := P) (base := base) T g_Cutter___str__
  have g_Cutter_parts := gx_Cutter_parts (P := P) (base := base) T 
  have g_require_bundle := gx_require_bundle (P := P) (base := base) T 
  have g_is_mark_of := gx_is_mark_of (P := P) (base := base) T g_is_integer
  have g_require_mark := gx_require_mark (P := P) (base := base) T g_is_mark_of
  have g_bound_row := gx_bound_row (P := P) (base := base) T g_cut
  have g_Rule_bound := gx_Rule_bound (P := P) (base := base) T g_require_bundle g_require_mark g_bound_row
  have g_Rule_cutter := gx_Rule_cutter (P := P) (base := base) T 
  have g__law_roll := gx__law_roll (P := P) (base := base) T 
  have g__law_one_of := gx__law_one_of (P := P) (base := base) T g__law_roll
  have g__law_signs := gx__law_signs (P := P) (base := base) T g__law_one_of g__law_roll
  have g__law_part := gx__law_part (P := P) (base := base) T g__law_roll g__law_one_of g__law_signs
  have g__law_parts := gx__law_parts (P := P) (base := base) T g__law_part g__law_one_of
  have g__law_made_right := gx__law_made_right (P := P) (base := base) T tb__law_made_right g_Rule___init___k1 g_Rule___init___k1_sees_lost g_Cutter_parts g__law_one_of
  have g_Bundle_letters := gx_Bundle_letters (P := P) (base := base) T 
  have g_Bundle___len__ := gx_Bundle___len__ (P := P) (base := base) T 
  have g_Company_people := gx_Company_people (P := P) (base := base) T 
  have g_Cutter_is_within := gx_Cutter_is_within (P := P) (base := base) T g_require_cutter g_kept_places
  have g_require_rule := gx_require_rule (P := P) (base := base) T 
  have g_Rule_is_within := gx_Rule_is_within (P := P) (base := base) T g_Cutter_is_within g_require_rule
  have g_require_person := gx_require_person (P := P) (base := base) T 
  have g_Known_cutters___init__ := gx_Known_cutters___init__ (P := P) (base := base) T 
  have g_chained := gx_chained (P := P) (base := base) T g_Cutter___init__ g_Known_cutters___init__
  have g_through_in := gx_through_in (P := P) (base := base) T g_chained
  have g_Rule_through := gx_Rule_through (P := P) (base := base) T g_require_company g_require_person g_through_in
  have g_Cutter___call__ := gx_Cutter___call__ (P := P) (base := base) T g_cut
  have g_Rule___call__ := gx_Rule___call__ (P := P) (base := base) T g_Cutter___call__
  have g__law_asked_right := gx__law_asked_right (P := P) (base := base) T tb__law_asked_right g_Rule_cutter g_Bundle_letters g_Bundle___len__ g_Company_people g_Rule_is_within g_Rule_bound g_Rule_through g_Rule___call__ g__law_one_of
  have g__law_right := gx__law_right (P := P) (base := base) T g_Cutter_of g_Company___init___k2_copies g_Bundle___init__ g_Rule___init___k1_sees_lost g_Rule___str__ g_Cutter_parts g_Rule_bound g_Rule_cutter g_Cutter___init__ g__law_parts g__law_roll g__law_made_right g__law_asked_right
  have g__law_dice := gx__law_dice (P := P) (base := base) T 
  obtain ⟨f', fd', F', _, m', _, oc', od', osl', lk'⟩ := gx_law (P := P) (base := base) T g__law_right g__law_dice
  rw [hfa] at m'
  cases m'
  have lk'' : K.lookup (He.ga K "law") = some _ := lk'
  obtain ⟨oc, od, dV, kV, doc, pm, an, cdv, ct, osl, efd, lk, _⟩ := F_law.ex
  rw [lk] at lk''
  cases lk''
  refine ⟨fun vs H Q E h => ?_, fun A outer s H args us vs Q E hg hr e0 hb hv h => ?_⟩
  · obtain ⟨G, ds, R, e, d, ⟨ns, h1, _⟩, _⟩ := h
    subst h1
    rw [d.len]; rfl
  · obtain ⟨G, ds, R, e, d, ⟨ns, h1, h2, h3⟩, q⟩ := h
    subst h1
    exact F'.run A outer s H args us vs Q E hg hr e0 hb hv ⟨G, _, R, e, d, sp_law ns h2 R h3, q⟩
end Mw
open PySem PySem.W PyProof.Rows
set_option maxRecDepth 100000 in
set_option maxHeartbeats 0 in
theorem PySem.Challenge.cw_namedabove_k17_errors_of_rules_holds : PySem.Challenge.rw_namedabove_k17_errors_of_rules.Holds := by
  w_on; o_law
  refine HandSHeadRun.head_any (r := OpenLaw.row PySem.Challenge.rw_namedabove_k17_errors_of_rules) (q := view (OpenLaw.row PySem.Challenge.rw_namedabove_k17_errors_of_rules).prog [83]) (H := Mw.hk) (ob := Mw.ob) (M := 20000) (loose := Mw.names) (d := HandSHeadRun.topDef (OpenLaw.row PySem.Challenge.rw_namedabove_k17_errors_of_rules).prog 83) (kwd := []) Mw.ob_eq
    (by kernel_rfl) (fun s => by kernel_rfl) Mw.run (by kernel_rfl) (by kernel_rfl) (by kernel_rfl) (by rfl) (by first | assumption | decide +kernel) (by decide +kernel) ⟨rfl, rfl, rfl, rfl, rfl, by decide +kernel⟩ ?hw ?hc
  case hw => w_witness2
  case hc =>
    refine Mw.walk_ofT (l := PySem.Challenge.rw_namedabove_k17_errors_of_rules) (n := 63) (k := 12) (x := "_law_script") rfl (by decide) (by kernel_rfl) ⟨rfl, by decide, by decide⟩ ?F
    intro w mg fa h Y G hmg0
    obtain ⟨K, KX, ST⟩ := Y
    have S := ST.s
    have hmg : mg ("law" : PySem.Str) = some (.ref fa) := by
      have e : (HandSHeadRun.topDef (OpenLaw.row PySem.Challenge.rw_namedabove_k17_errors_of_rules).prog 83).name = ("law" : PySem.Str) := by kernel_rfl
      rw [← e]
      exact hmg0
    obtain ⟨c, fd, e1, e2, e3, e4, hb, hF⟩ := Mw.all_mk (P := (PySem.Challenge.rw_namedabove_k17_errors_of_rules).prog) (w := w) KX G hmg S (by unfold Mw.flS; exact beq_self_eq_true _) (by decide +kernel)
    refine ⟨K, Mw.spN c Mw.PreLaw, fd, Mw.tfs.map (Mw.cTA K), KX, fun p hp => ?_, fun p hp => ?_, fun p hp => ?_, hb, hF, fun H a ns hl hS h1 h2 => ?_⟩
    · obtain ⟨q, hq, rfl⟩ := List.mem_map.mp hp
      exact ST.empty q hq
    · obtain ⟨q, hq, rfl⟩ := List.mem_map.mp hp
      exact ST.out q hq
    · obtain ⟨q, hq, rfl⟩ := List.mem_map.mp hp
      exact ST.hd q hq
    · exact Mw.start_T (c := c) (cs := Mw.tfs.map (Mw.cTA K)) e3 e4 (by rw [e1]; exact hS) h1 ⟨ns, rfl, hl, rfl⟩
#print axioms PySem.Challenge.cw_namedabove_k17_errors_of_rules_holds
