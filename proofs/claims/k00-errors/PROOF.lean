import PyProof.Rows.All
import Wide.All
import OpenK.AllK
import Wide.FinOn
import HandS.ForMost
import HandS.Walk
import HandS.IsInst
import HandS.Wide
import HandS.Style
import HandS.Exc
import HandS.ExcValue
import HandS.TupAny
import HandS.TupMul
import HandS.TupLe
import HandS.RaiseMore
import HandS.Codes
import HandS.Star
import PyProof.ReprRoads
import HandS.ClsMeth
import HandS.Property
import HandS.NoneIn
import KE.KCallOwn
import PyProof.InstNe
import HandS.SlotsOwn
import HandS.Conv
import HandS.Comp
import PyProof.StrLawsRepr
import HandS.Defaults
import KE.KExcSuper
import HandS.ExcInit
import HandS.WordsExc
import HandS.TryMany
import HandS.ExcField
import HandS.ExcIs
import KE.KExcIs
import PySem.Challenge.RW_namedabove_k00_errors_and_what_they_keep
set_option Elab.async false
set_option linter.all false
set_option maxRecDepth 100000
set_option maxHeartbeats 4000000
/-! Nv: pure data in place of heaps. G is what is known of the heap, H what is there. -/
namespace Nv
open PySem PySem.Spec PyProof.Rows L2

/-! ### heaps -/
abbrev Ex (G H : Hp) : Prop := L2.Same G H
theorem Ex.new {H : Hp} {p : Addr} {o : HO} (h : H p = none) : Ex H (upd H p o) := fun a u e => by
  rw [upd_ne (ne_of_none e h)]; exact e
theorem Ex.tup {K : PySem.W.Frag} {H H' : Hp} {a : Addr} {xs : List V} (e : Ex H H') (h : SqT K H a xs) : SqT K H' a xs := by
  rcases h with (h | ⟨o, h⟩) | h
  · exact .inl (.inl (e _ _ h))
  · exact .inl (.inr ⟨o, e _ _ h⟩)
  · exact .inr h
/-- from the known G in the heap H to the known G' in the heap H': what was known is known, what is new was free -/
structure Go (G H G' H' : Hp) : Prop where
  kn : Ex G G'
  nw : ∀ a, G a = none → H a ≠ none → G' a = none
  ink : Ex G' H'
  up : Ex H H'
theorem Go.refl {G H : Hp} (e : Ex G H) : Go G H G H := ⟨Same.refl G, fun _ h _ => h, e, Same.refl H⟩
theorem ne_up {H H' : Hp} (e : Ex H H') {a : Addr} (h : H a ≠ none) : H' a ≠ none := fun z => by
  cases q : H a with
  | none => exact h q
  | some o => rw [e a o q] at z; cases z
theorem Go.trans {G H G1 H1 G2 H2 : Hp} (a : Go G H G1 H1) (b : Go G1 H1 G2 H2) : Go G H G2 H2 :=
  ⟨a.kn.trans b.kn, fun x h1 h2 => b.nw x (a.nw x h1 h2) (ne_up a.up h2), b.ink, a.up.trans b.up⟩
theorem upd_mono {G H : Hp} (e : Ex G H) (p : Addr) (o : HO) : Ex (upd G p o) (upd H p o) := fun a u h => by
  by_cases c : a = p
  · subst c; rw [upd_same] at h ⊢; exact h
  · rw [upd_ne c] at h ⊢; exact e a u h
theorem Go.new {G H : Hp} {p : Addr} {o : HO} (e : Ex G H) (h : H p = none) : Go G H (upd G p o) (upd H p o) :=
  ⟨Ex.new (e.free h), fun a h1 h2 => by rw [upd_ne (fun c => h2 (by rw [c]; exact h))]; exact h1, upd_mono e p o, Ex.new h⟩
/-- an unknown new object changes nothing of what is known -/
theorem Go.put {G H : Hp} {p : Addr} {o : HO} (e : Ex G H) (h : H p = none) : Go G H G (upd H p o) :=
  ⟨Same.refl G, fun _ h _ => h, e.trans (Ex.new h), Ex.new h⟩

/-! ### data -/
inductive Dt where
  | non | bl (b : Bool) | int (i : Int) | str (x : Str) | ty (n : String)
  | lst (l : List Dt) | sq (l : List Dt) | tup (l : List Dt)
  | dic (l : List (Key × Dt))
  | ins (C : Addr) (l : List (Str × Dt))
  | ext (φ : Addr → Heap → Prop)
  | obj (a : Addr)
  | exc (a C : Addr) (od : Option Addr) (l : List (Str × Dt))
  | xv (C : Addr) (l : List (Str × Dt))
/-- an exception of the class at C, as it was made, its dict at d -/
def XO (C dx : Addr) : Addr → Heap → Prop := fun a h => ∃ t1 : Addr, h.get? a = some { cls := .ref C, dict := some dx, data := .fields #[.ref t1, .none, .none, .none, .bool false, .none] }
mutual
def Dat (K : PySem.W.Frag) (G : Hp) : Dt → V → Prop
  | .non, v => v = .non
  | .bl b, v => v = .bl b
  | .int i, v => v = .int i
  | .str x, v => v = .str x
  | .ty n, v => v = .ty n
  | .lst l, v => ∃ a xs, v = .ref a ∧ G a = some (.lst xs) ∧ Dats K G l xs
  | .sq l, v => ∃ a xs, v = .ref a ∧ SqL K G a xs ∧ Dats K G l xs
  | .tup l, v => ∃ a xs, v = .ref a ∧ SqT K G a xs ∧ Dats K G l xs
  | .dic l, v => ∃ a kvs, v = .ref a ∧ G a = some (.dK kvs) ∧ Datk K G l kvs
  | .ins C l, v => ∃ a dx fs, v = .ref a ∧ G a = some (.ins C dx fs) ∧ Datf K G l fs
  | .ext φ, v => ∃ a, v = .ref a ∧ G a = some (.ext (φ a))
  | .obj a, v => v = .ref a
  | .exc a _ od l, v => v = .ref a ∧ ((od = none ∧ l = []) ∨ ∃ dx fs, od = some dx ∧ G dx = some (.xd fs) ∧ Datf K G l fs)
  | .xv C l, v => ∃ a, v = .ref a ∧ ((l = [] ∧ G a = some (ExO (.ref C) a)) ∨ ∃ dx fs, G a = some (.ext (XO C dx a)) ∧ G dx = some (.xd fs) ∧ Datf K G l fs)
def Dats (K : PySem.W.Frag) (G : Hp) : List Dt → List V → Prop
  | [], xs => xs = []
  | d :: l, xs => ∃ x r, xs = x :: r ∧ Dat K G d x ∧ Dats K G l r
def Datk (K : PySem.W.Frag) (G : Hp) : List (Key × Dt) → List (Key × V) → Prop
  | [], xs => xs = []
  | (k, d) :: l, xs => ∃ x r, xs = (k, x) :: r ∧ Dat K G d x ∧ Datk K G l r
def Datf (K : PySem.W.Frag) (G : Hp) : List (Str × Dt) → List (Str × V) → Prop
  | [], xs => xs = []
  | (k, d) :: l, xs => ∃ x r, xs = (k, x) :: r ∧ Dat K G d x ∧ Datf K G l r
end
section
variable {K : PySem.W.Frag} {G G' : Hp}
mutual
theorem Dat.up (e : Ex G G') : ∀ {d : Dt} {v : V}, Dat K G d v → Dat K G' d v
  | .non, _, h => h
  | .bl _, _, h => h
  | .int _, _, h => h
  | .str _, _, h => h
  | .ty _, _, h => h
  | .obj _, _, h => h
  | .lst _, _, ⟨a, xs, h1, h2, h3⟩ => ⟨a, xs, h1, e _ _ h2, Dats.up e h3⟩
  | .sq _, _, ⟨a, xs, h1, h2, h3⟩ => ⟨a, xs, h1, e.seq h2, Dats.up e h3⟩
  | .tup _, _, ⟨a, xs, h1, h2, h3⟩ => ⟨a, xs, h1, Ex.tup e h2, Dats.up e h3⟩
  | .dic _, _, ⟨a, xs, h1, h2, h3⟩ => ⟨a, xs, h1, e _ _ h2, Datk.up e h3⟩
  | .ins _ _, _, ⟨a, dx, fs, h1, h2, h3⟩ => ⟨a, dx, fs, h1, e _ _ h2, Datf.up e h3⟩
  | .ext _, _, ⟨a, h1, h2⟩ => ⟨a, h1, e _ _ h2⟩
  | .exc _ _ _ _, _, ⟨h1, .inl h2⟩ => ⟨h1, .inl h2⟩
  | .exc _ _ _ _, _, ⟨h1, .inr ⟨dx, fs, h2, h3, h4⟩⟩ => ⟨h1, .inr ⟨dx, fs, h2, e _ _ h3, Datf.up e h4⟩⟩
  | .xv _ _, _, ⟨a, h1, .inl ⟨h3, h2⟩⟩ => ⟨a, h1, .inl ⟨h3, e _ _ h2⟩⟩
  | .xv _ _, _, ⟨a, h1, .inr ⟨dx, fs, h2, h4, h5⟩⟩ => ⟨a, h1, .inr ⟨dx, fs, e _ _ h2, e _ _ h4, Datf.up e h5⟩⟩
theorem Dats.up (e : Ex G G') : ∀ {l : List Dt} {xs : List V}, Dats K G l xs → Dats K G' l xs
  | [], _, h => h
  | _ :: _, _, ⟨x, r, h1, h2, h3⟩ => ⟨x, r, h1, Dat.up e h2, Dats.up e h3⟩
theorem Datk.up (e : Ex G G') : ∀ {l : List (Key × Dt)} {xs : List (Key × V)}, Datk K G l xs → Datk K G' l xs
  | [], _, h => h
  | (_, _) :: _, _, ⟨x, r, h1, h2, h3⟩ => ⟨x, r, h1, Dat.up e h2, Datk.up e h3⟩
theorem Datf.up (e : Ex G G') : ∀ {l : List (Str × Dt)} {xs : List (Str × V)}, Datf K G l xs → Datf K G' l xs
  | [], _, h => h
  | (_, _) :: _, _, ⟨x, r, h1, h2, h3⟩ => ⟨x, r, h1, Dat.up e h2, Datf.up e h3⟩
end
theorem Dats.len : ∀ {l : List Dt} {xs : List V}, Dats K G l xs → xs.length = l.length
  | [], _, h => by cases h; rfl
  | _ :: _, _, ⟨x, r, h1, _, h3⟩ => by subst h1; simp [Dats.len h3]
theorem Dats.get : ∀ {l : List Dt} {xs : List V} {i : Nat} {d : Dt}, Dats K G l xs → l[i]? = some d → ∃ x, xs[i]? = some x ∧ Dat K G d x
  | [], _, _, _, _, h => by simp at h
  | _ :: _, _, 0, _, ⟨x, r, h1, h2, _⟩, h => by
    simp at h; subst h; subst h1; exact ⟨x, rfl, h2⟩
  | _ :: _, _, i + 1, d, ⟨x, r, h1, _, h3⟩, h => by
    subst h1
    obtain ⟨y, q1, q2⟩ := Dats.get (i := i) (d := d) h3 (by simpa using h)
    exact ⟨y, by simpa using q1, q2⟩
theorem Dats.getV : ∀ {l : List Dt} {xs : List V} {i : Nat} {x : V}, Dats K G l xs → xs[i]? = some x → ∃ d, l[i]? = some d ∧ Dat K G d x
  | [], _, _, _, h, q => by cases h; simp at q
  | d :: _, _, 0, _, ⟨x, r, h1, h2, _⟩, h => by
    subst h1; simp at h; subst h; exact ⟨d, rfl, h2⟩
  | _ :: _, _, i + 1, y, ⟨x, r, h1, _, h3⟩, h => by
    subst h1
    obtain ⟨d, q1, q2⟩ := Dats.getV (i := i) (x := y) h3 (by simpa using h)
    exact ⟨d, by simpa using q1, q2⟩
theorem Dats.snoc : ∀ {l : List Dt} {xs : List V} {d : Dt} {x : V}, Dats K G l xs → Dat K G d x → Dats K G (l ++ [d]) (xs ++ [x])
  | [], _, _, x, h, q => by cases h; exact ⟨x, [], rfl, q, rfl⟩
  | _ :: _, _, _, _, ⟨y, r, h1, h2, h3⟩, q => by subst h1; exact ⟨y, r ++ [_], rfl, h2, Dats.snoc h3 q⟩
theorem Dats.app : ∀ {l m : List Dt} {xs ys : List V}, Dats K G l xs → Dats K G m ys → Dats K G (l ++ m) (xs ++ ys)
  | [], _, _, _, h, q => by cases h; exact q
  | _ :: _, _, _, _, ⟨y, r, h1, h2, h3⟩, q => by subst h1; exact ⟨y, r ++ _, rfl, h2, Dats.app h3 q⟩
theorem Dats.take : ∀ {l : List Dt} {xs : List V} (n : Nat), Dats K G l xs → Dats K G (l.take n) (xs.take n)
  | _, _, 0, _ => by simp [Dats]
  | [], _, _ + 1, h => by cases h; simp [Dats]
  | _ :: _, _, n + 1, ⟨y, r, h1, h2, h3⟩ => by subst h1; exact ⟨y, r.take n, rfl, h2, Dats.take n h3⟩
theorem Dats.drop : ∀ {l : List Dt} {xs : List V} (n : Nat), Dats K G l xs → Dats K G (l.drop n) (xs.drop n)
  | _, _, 0, h => h
  | [], _, _ + 1, h => by cases h; simp [Dats]
  | _ :: _, _, n + 1, ⟨y, r, h1, h2, h3⟩ => by subst h1; exact Dats.drop n h3
end

/-! ### slots -/
inductive Sd where
  | no | dt (d : Dt) | own (a : Addr) (d : Dt)
/-- an object of a def's own: d, as the heap has it -/
def OwnD (K : PySem.W.Frag) (G : Hp) : Dt → HO → Prop
  | .lst l, o => ∃ xs, o = .lst xs ∧ Dats K G l xs
  | .dic l, o => ∃ xs, o = .dK xs ∧ Datk K G l xs
  | .ins C l, o => ∃ dx fs, o = .ins C dx fs ∧ Datf K G l fs
  | _, _ => False
theorem OwnD.up {K : PySem.W.Frag} {G G' : Hp} (e : Ex G G') : ∀ {d : Dt} {o : HO}, OwnD K G d o → OwnD K G' d o
  | .lst _, _, ⟨xs, h1, h2⟩ => ⟨xs, h1, h2.up e⟩
  | .dic _, _, ⟨xs, h1, h2⟩ => ⟨xs, h1, h2.up e⟩
  | .ins _ _, _, ⟨dx, fs, h1, h2⟩ => ⟨dx, fs, h1, h2.up e⟩
/-- told: it is data -/
theorem OwnD.dat {K : PySem.W.Frag} {G : Hp} {a : Addr} (hn : G a = none) : ∀ {d : Dt} {o : HO}, OwnD K G d o → Dat K (upd G a o) d (.ref a)
  | .lst _, _, ⟨xs, h1, h2⟩ => by subst h1; exact ⟨a, xs, rfl, upd_same, h2.up (Ex.new hn)⟩
  | .dic _, _, ⟨xs, h1, h2⟩ => by subst h1; exact ⟨a, xs, rfl, upd_same, h2.up (Ex.new hn)⟩
  | .ins _ _, _, ⟨dx, fs, h1, h2⟩ => by subst h1; exact ⟨a, dx, fs, rfl, upd_same, h2.up (Ex.new hn)⟩
/-- the values of the slots that hold data -/
structure Sv (K : PySem.W.Frag) (G : Hp) (σ : L2.St) (ss : List Sd) : Prop where
  len : σ.length = ss.length
  dat : ∀ (i : Nat) (d : Dt), ss[i]? = some (.dt d) → ∃ v, σ[i]? = some (some v) ∧ Dat K G d v
/-- and of those that hold lists of their own: H0 is the heap at the def's entry -/
structure Sl (K : PySem.W.Frag) (H0 G H : Hp) (σ : L2.St) (ss : List Sd) : Prop where
  sv : Sv K G σ ss
  own : ∀ (i : Nat) (a : Addr) (l : Dt), ss[i]? = some (.own a l) → σ[i]? = some (some (.ref a)) ∧ H0 a = none ∧ G a = none ∧ ∃ o, H a = some o ∧ OwnD K G l o
  sep : ∀ (i j : Nat) (l m : Dt) (a : Addr), ss[i]? = some (.own a l) → ss[j]? = some (.own a m) → i = j
section
variable {K : PySem.W.Frag} {G G' H H' H0 : Hp} {σ : L2.St} {ss : List Sd}
theorem Sv.up (h : Sv K G σ ss) (e : Ex G G') : Sv K G' σ ss := ⟨h.len, fun i d q => let ⟨v, h1, h2⟩ := h.dat i d q; ⟨v, h1, h2.up e⟩⟩
theorem Sv.set (h : Sv K G σ ss) {j : Nat} {d : Dt} {v : V} (q : Dat K G d v) : Sv K G (σ.set j (some v)) (ss.set j (.dt d)) := by
  refine ⟨by simp [h.len], fun i e z => ?_⟩
  by_cases c : j = i
  · subst c
    by_cases b : j < ss.length
    · rw [List.getElem?_set_self b] at z
      cases z
      exact ⟨v, by rw [List.getElem?_set_self (by rw [h.len]; exact b)], q⟩
    · rw [List.getElem?_eq_none (by simpa using b)] at z; cases z
  · rw [List.getElem?_set_ne c] at z ⊢
    exact h.dat i e z
theorem Sv.forget (h : Sv K G σ ss) {j : Nat} {o : Option V} : Sv K G (σ.set j o) (ss.set j .no) := by
  refine ⟨by simp [h.len], fun i e z => ?_⟩
  by_cases c : j = i
  · subst c
    by_cases b : j < ss.length
    · rw [List.getElem?_set_self b] at z; cases z
    · rw [List.getElem?_eq_none (by simpa using b)] at z; cases z
  · rw [List.getElem?_set_ne c] at z ⊢
    exact h.dat i e z
theorem Sl.go (h : Sl K H0 G H σ ss) (g : Go G H G' H') : Sl K H0 G' H' σ ss :=
  ⟨h.sv.up g.kn, fun i a l q => let ⟨h1, h2, h3, o, h4, h5⟩ := h.own i a l q; ⟨h1, h2, g.nw a h3 (by rw [h4]; exact fun z => nomatch z), o, g.up a _ h4, h5.up g.kn⟩, h.sep⟩
theorem get_set_own {j i : Nat} {x : Sd} {a : Addr} {l : Dt} (hx : ∀ b m, x ≠ .own b m) (z : (ss.set j x)[i]? = some (.own a l)) : ss[i]? = some (.own a l) ∧ j ≠ i := by
  by_cases c : j = i
  · subst c
    by_cases b : j < ss.length
    · rw [List.getElem?_set_self b] at z; exact absurd (Option.some.inj z) (hx a l)
    · rw [List.getElem?_eq_none (by simpa using b)] at z; cases z
  · rw [List.getElem?_set_ne c] at z
    exact ⟨z, c⟩
theorem Sl.set (h : Sl K H0 G H σ ss) {j : Nat} {d : Dt} {v : V} (q : Dat K G d v) : Sl K H0 G H (σ.set j (some v)) (ss.set j (.dt d)) := by
  refine ⟨h.sv.set q, fun i a l z => ?_, fun i k l m a z1 z2 => ?_⟩
  · obtain ⟨z', c⟩ := get_set_own (fun b m => Sd.noConfusion) z
    rw [List.getElem?_set_ne c]
    exact h.own i a l z'
  · exact h.sep i k l m a (get_set_own (fun b m => Sd.noConfusion) z1).1 (get_set_own (fun b m => Sd.noConfusion) z2).1
end

/-! ### what an expression, a test, arguments come to: R is what is wanted of the data -/
def EvD (K : PySem.W.Frag) (te : TE) (ss : List Sd) (R : Dt → Prop) : Prop := ∀ (G : Hp) (σ : L2.St) (H : Hp), Ex G H → Sv K G σ ss → ∀ Q : VK, (∀ v d G' H', Go G H G' H' → Dat K G' d v → R d → Q v H') → te σ H Q
def EvT (K : PySem.W.Frag) (tt : TT) (ss : List Sd) (R : Bool → Prop) : Prop := ∀ (G : Hp) (σ : L2.St) (H : Hp), Ex G H → Sv K G σ ss → ∀ Q : Bool → Hp → Prop, (∀ b G' H', Go G H G' H' → R b → Q b H') → tt σ H Q
def EvA (K : PySem.W.Frag) (ta : TA) (ss : List Sd) (R : List Dt → Prop) : Prop := ∀ (G : Hp) (σ : L2.St) (H : Hp), Ex G H → Sv K G σ ss → ∀ Q : List V → Hp → Prop, (∀ vs ds G' H', Go G H G' H' → Dats K G' ds vs → R ds → Q vs H') → ta σ H Q
def EvO (K : PySem.W.Frag) (to : TO) (ss : List Sd) (R : Option Int → Prop) : Prop := ∀ (G : Hp) (σ : L2.St) (H : Hp), Ex G H → Sv K G σ ss → ∀ Q : Option Int → Hp → Prop, (∀ o G' H', Go G H G' H' → R o → Q o H') → to σ H Q
/-- an operator, a one-place operator, a call, by data -/
def RD (K : PySem.W.Frag) (r : R2) (x y : Dt) (R : Dt → Prop) : Prop := ∀ (G H : Hp) (v w : V), Ex G H → Dat K G x v → Dat K G y w → ∀ Q : VK, (∀ z d G' H', Go G H G' H' → Dat K G' d z → R d → Q z H') → r v w H Q
def UD (K : PySem.W.Frag) (r : V → Hp → VK → Prop) (x : Dt) (R : Dt → Prop) : Prop := ∀ (G H : Hp) (v : V), Ex G H → Dat K G x v → ∀ Q : VK, (∀ z d G' H', Go G H G' H' → Dat K G' d z → R d → Q z H') → r v H Q
def CD (K : PySem.W.Frag) (r : List V → Hp → VK → Prop) (ds : List Dt) (R : Dt → Prop) : Prop := ∀ (G H : Hp) (vs : List V), Ex G H → Dats K G ds vs → ∀ Q : VK, (∀ z d G' H', Go G H G' H' → Dat K G' d z → R d → Q z H') → r vs H Q
section
variable {K : PySem.W.Frag} {ss : List Sd} {R R' : Dt → Prop} {ta tb te : TE} {t u : TT} {r : R2}
theorem EvD.imp (h : EvD K te ss R) (f : ∀ d, R d → R' d) : EvD K te ss R' := fun G σ H e s Q q => h G σ H e s Q fun v d G' H' g hd hr => q v d G' H' g hd (f d hr)
theorem EvT.imp {R R' : Bool → Prop} (h : EvT K t ss R) (f : ∀ d, R d → R' d) : EvT K t ss R' := fun G σ H e s Q q => h G σ H e s Q fun b G' H' g hr => q b G' H' g (f b hr)
theorem ed_var {i : Nat} {d : Dt} (h : ss[i]? = some (.dt d)) (hr : R d) : EvD K (tVar i) ss R := fun G σ H e s Q q => by
  obtain ⟨v, h1, h2⟩ := s.dat i d h
  exact ⟨v, h1, q v d G H (Go.refl e) h2 hr⟩
theorem ed_c {v : V} {d : Dt} (hd : ∀ G, Dat K G d v) (hr : R d) : EvD K (tC v) ss R := fun G σ H e s Q q => q v d G H (Go.refl e) (hd G) hr
theorem ed_int {i : Int} (hr : R (.int i)) : EvD K (tC (.int i)) ss R := ed_c (d := .int i) (fun _ => rfl) hr
theorem ed_bl {i : Bool} (hr : R (.bl i)) : EvD K (tC (.bl i)) ss R := ed_c (d := .bl i) (fun _ => rfl) hr
theorem ed_str {i : Str} (hr : R (.str i)) : EvD K (tC (.str i)) ss R := ed_c (d := .str i) (fun _ => rfl) hr
theorem ed_non (hr : R .non) : EvD K (tC .non) ss R := ed_c (d := .non) (fun _ => rfl) hr
theorem ed_ty {n : String} (hr : R (.ty n)) : EvD K (tC (.ty n)) ss R := ed_c (d := .ty n) (fun _ => rfl) hr
theorem ed_obj {a : Addr} (hr : R (.obj a)) : EvD K (tC (.ref a)) ss R := ed_c (d := .obj a) (fun _ => rfl) hr
theorem ed_op (h : EvD K ta ss fun x => EvD K tb ss fun y => RD K r x y R) : EvD K (tOp r ta tb) ss R := fun G σ H e s Q q =>
  h G σ H e s _ fun v x G1 H1 g1 d1 h2 => h2 G1 σ H1 g1.ink (s.up g1.kn) _ fun w y G2 H2 g2 d2 h3 =>
    h3 G2 H2 v w g2.ink (d1.up g2.kn) d2 Q fun z d G3 H3 g3 d3 hr => q z d G3 H3 (g1.trans (g2.trans g3)) d3 hr
theorem ed_un {r : V → Hp → VK → Prop} (h : EvD K ta ss fun x => UD K r x R) : EvD K (tUn r ta) ss R := fun G σ H e s Q q =>
  h G σ H e s _ fun v x G1 H1 g1 d1 h2 => h2 G1 H1 v g1.ink d1 Q fun z d G3 H3 g3 d3 hr => q z d G3 H3 (g1.trans g3) d3 hr
theorem ea_nil {R : List Dt → Prop} (h : R []) : EvA K tNil ss R := fun G σ H e s Q q => q [] [] G H (Go.refl e) rfl h
theorem ea_cons {tr : TA} {R : List Dt → Prop} (h : EvD K ta ss fun x => EvA K tr ss fun l => R (x :: l)) : EvA K (tCons ta tr) ss R := fun G σ H e s Q q =>
  h G σ H e s _ fun v x G1 H1 g1 d1 h2 => h2 G1 σ H1 g1.ink (s.up g1.kn) _ fun vs l G2 H2 g2 d2 h3 => q (v :: vs) (x :: l) G2 H2 (g1.trans g2) ⟨v, vs, rfl, d1.up g2.kn, d2⟩ h3
theorem ed_cb {r : List V → Hp → VK → Prop} {ta : TA} (h : EvA K ta ss fun l => CD K r l R) : EvD K (tCB r ta) ss R := fun G σ H e s Q q =>
  h G σ H e s _ fun vs l G1 H1 g1 d1 h2 => h2 G1 H1 vs g1.ink d1 Q fun z d G3 H3 g3 d3 hr => q z d G3 H3 (g1.trans g3) d3 hr
theorem sz_of {n : Nat} (h : n ≤ 1000000) : n ≤ sizeLine := Nat.le_trans h (by decide)
theorem sz_lt {n : Nat} (h : n < 1000000) : n < sizeLine := Nat.lt_of_lt_of_le h (by decide)
theorem dat_newL {G : Hp} {p : Addr} {l : List Dt} {xs : List V} (d : Dats K G l xs) (h : G p = none) : Dat K (upd G p (.lst xs)) (.lst l) (.ref p) := ⟨p, xs, rfl, upd_same, d.up (Ex.new h)⟩
theorem dat_newT {G : Hp} {p : Addr} {l : List Dt} {xs : List V} (d : Dats K G l xs) (h : G p = none) : Dat K (upd G p (.tup xs)) (.tup l) (.ref p) := ⟨p, xs, rfl, .inl (.inl upd_same), d.up (Ex.new h)⟩
theorem ed_lst {ta : TA} (h : EvA K ta ss fun l => l.length ≤ 1000000 ∧ R (.lst l)) : EvD K (tLst ta) ss R := fun G σ H e s Q q =>
  h G σ H e s _ fun vs l G1 H1 g1 d1 h2 => ⟨by rw [d1.len]; exact sz_of h2.1, fun p hp => q (.ref p) (.lst l) _ _ (g1.trans (Go.new g1.ink hp)) (dat_newL d1 (g1.ink.free hp)) h2.2⟩
theorem ed_tup {ta : TA} (h : EvA K ta ss fun l => l.length ≤ 1000000 ∧ R (.tup l)) : EvD K (tTup ta) ss R := fun G σ H e s Q q =>
  h G σ H e s _ fun vs l G1 H1 g1 d1 h2 => ⟨by rw [d1.len]; exact sz_of h2.1, fun p hp => q (.ref p) (.tup l) _ _ (g1.trans (Go.new g1.ink hp)) (dat_newT d1 (g1.ink.free hp)) h2.2⟩
/-! tests -/
theorem et_test {S : Bool → Prop} (h : EvD K te ss fun d => ∃ b, d = .bl b ∧ S b) : EvT K (tTest te) ss S := fun G σ H e s Q q =>
  h G σ H e s _ fun v d G1 H1 g1 d1 ⟨b, h2, h3⟩ => by subst h2; exact ⟨b, d1, q b G1 H1 g1 h3⟩
theorem et_B {S : Bool → Prop} (h : EvD K te ss fun d => ∃ b, d = .bl b ∧ S b) : EvT K (tB te) ss S := fun G σ H e s Q q =>
  h G σ H e s _ fun v d G1 H1 g1 d1 ⟨b, h2, h3⟩ => by subst h2; exact ⟨b, d1, q b G1 H1 g1 h3⟩
theorem et_and {S : Bool → Prop} (h : EvT K t ss fun b => if b = true then EvT K u ss S else S false) : EvT K (tAnd t u) ss S := fun G σ H e s Q q =>
  h G σ H e s _ fun b G1 H1 g1 h2 => by
    cases b with
    | true => exact h2 G1 σ H1 g1.ink (s.up g1.kn) Q fun b G2 H2 g2 h3 => q b G2 H2 (g1.trans g2) h3
    | false => exact q false G1 H1 g1 h2
theorem et_or {S : Bool → Prop} (h : EvT K t ss fun b => if b = true then S true else EvT K u ss S) : EvT K (tOr t u) ss S := fun G σ H e s Q q =>
  h G σ H e s _ fun b G1 H1 g1 h2 => by
    cases b with
    | true => exact q true G1 H1 g1 h2
    | false => exact h2 G1 σ H1 g1.ink (s.up g1.kn) Q fun b G2 H2 g2 h3 => q b G2 H2 (g1.trans g2) h3
theorem et_not {S : Bool → Prop} (h : EvT K t ss fun b => S (!b)) : EvT K (tNot t) ss S := fun G σ H e s Q q =>
  h G σ H e s _ fun b G1 H1 g1 h2 => q (!b) G1 H1 g1 h2
theorem et_yes {S : Bool → Prop} (h : S true) : EvT K tYes ss S := fun G σ H e s Q q => q true G H (Go.refl e) h
theorem ed_and (h : EvD K ta ss fun d => ∃ b, d = .bl b ∧ if b = true then EvD K tb ss R else R (.bl false)) : EvD K (tAndV ta tb) ss R := fun G σ H e s Q q =>
  h G σ H e s _ fun v d G1 H1 g1 d1 ⟨b, h2, h3⟩ => by
    subst h2
    refine ⟨b, d1, ?_⟩
    cases b with
    | true => exact h3 G1 σ H1 g1.ink (s.up g1.kn) Q fun z d G2 H2 g2 d2 h4 => q z d G2 H2 (g1.trans g2) d2 h4
    | false => exact q (.bl false) (.bl false) G1 H1 g1 rfl h3
theorem ed_or (h : EvD K ta ss fun d => ∃ b, d = .bl b ∧ if b = true then R (.bl true) else EvD K tb ss R) : EvD K (tOrV ta tb) ss R := fun G σ H e s Q q =>
  h G σ H e s _ fun v d G1 H1 g1 d1 ⟨b, h2, h3⟩ => by
    subst h2
    refine ⟨b, d1, ?_⟩
    cases b with
    | true => exact q (.bl true) (.bl true) G1 H1 g1 rfl h3
    | false => exact h3 G1 σ H1 g1.ink (s.up g1.kn) Q fun z d G2 H2 g2 d2 h4 => q z d G2 H2 (g1.trans g2) d2 h4
theorem ed_not (h : EvD K ta ss fun d => ∃ b, d = .bl b ∧ R (.bl (!b))) : EvD K (tNotV ta) ss R := fun G σ H e s Q q =>
  h G σ H e s _ fun v d G1 H1 g1 d1 ⟨b, h2, h3⟩ => by subst h2; exact ⟨b, d1, q (.bl (!b)) (.bl (!b)) G1 H1 g1 rfl h3⟩
theorem ed_if (h : EvT K t ss fun b => if b = true then EvD K ta ss R else EvD K tb ss R) : EvD K (tIf t ta tb) ss R := fun G σ H e s Q q =>
  h G σ H e s _ fun b G1 H1 g1 h2 => by
    cases b with
    | true => exact h2 G1 σ H1 g1.ink (s.up g1.kn) Q fun z d G2 H2 g2 d2 h4 => q z d G2 H2 (g1.trans g2) d2 h4
    | false => exact h2 G1 σ H1 g1.ink (s.up g1.kn) Q fun z d G2 H2 g2 d2 h4 => q z d G2 H2 (g1.trans g2) d2 h4
theorem ed_chain {r' : R2} {tc : TE} (h : EvD K ta ss fun x => EvD K tb ss fun y => RD K r x y fun d => ∃ b, d = .bl b ∧ if b = true then EvD K tc ss fun z => RD K r' y z R else R (.bl false)) : EvD K (tChain r r' ta tb tc) ss R := fun G σ H e s Q q =>
  h G σ H e s _ fun v x G1 H1 g1 d1 h2 => h2 G1 σ H1 g1.ink (s.up g1.kn) _ fun w y G2 H2 g2 d2 h3 =>
    h3 G2 H2 v w g2.ink (d1.up g2.kn) d2 _ fun z d G3 H3 g3 d3 ⟨b, h4, h5⟩ => by
      subst h4
      refine ⟨b, d3, ?_⟩
      cases b with
      | true => exact h5 G3 σ H3 g3.ink (((s.up g1.kn).up g2.kn).up g3.kn) _ fun z' d' G4 H4 g4 d4 h6 => h6 G4 H4 w z' g4.ink ((d2.up g3.kn).up g4.kn) d4 Q fun z d G5 H5 g5 d5 hr => q z d G5 H5 (g1.trans (g2.trans (g3.trans (g4.trans g5)))) d5 hr
      | false => exact q (.bl false) (.bl false) G3 H3 (g1.trans (g2.trans g3)) rfl h5
/-! slices -/
theorem eo_none {S : Option Int → Prop} (h : S none) : EvO K tNoPart ss S := fun G σ H e s Q q => q none G H (Go.refl e) h
theorem eo_some {S : Option Int → Prop} (h : EvD K te ss fun d => ∃ i, d = .int i ∧ S (some i)) : EvO K (tPart te) ss S := fun G σ H e s Q q =>
  h G σ H e s _ fun v d G1 H1 g1 d1 ⟨i, h2, h3⟩ => by subst h2; exact ⟨i, d1, q (some i) G1 H1 g1 h3⟩
def SD (K : PySem.W.Frag) (r : V → Option Int → Option Int → Hp → VK → Prop) (x : Dt) (lo hi : Option Int) (R : Dt → Prop) : Prop := ∀ (G H : Hp) (v : V), Ex G H → Dat K G x v → ∀ Q : VK, (∀ z d G' H', Go G H G' H' → Dat K G' d z → R d → Q z H') → r v lo hi H Q
theorem ed_sl {r : V → Option Int → Option Int → Hp → VK → Prop} {tl th : TO} (h : EvD K te ss fun x => EvO K tl ss fun lo => EvO K th ss fun hi => SD K r x lo hi R) : EvD K (tSl r te tl th) ss R := fun G σ H e s Q q =>
  h G σ H e s _ fun v x G1 H1 g1 d1 h2 => h2 G1 σ H1 g1.ink (s.up g1.kn) _ fun lo G2 H2 g2 h3 => h3 G2 σ H2 g2.ink ((s.up g1.kn).up g2.kn) _ fun hi G3 H3 g3 h4 =>
    h4 G3 H3 v g3.ink ((d1.up g2.kn).up g3.kn) Q fun z d G4 H4 g4 d4 hr => q z d G4 H4 (g1.trans (g2.trans (g3.trans g4))) d4 hr
/-! methods of built-in types -/
def MD (K : PySem.W.Frag) (T : String) (r : V → List V → Hp → VK → Prop) (x : Dt) (ds : List Dt) (R : Dt → Prop) : Prop := ∀ (G H : Hp) (v : V) (vs : List V), Ex G H → Dat K G x v → Dats K G ds vs → ∀ Q : VK, (∀ z d G' H', Go G H G' H' → Dat K G' d z → R d → Q z H') → r v vs H Q
theorem ed_bm {T : String} {r : V → List V → Hp → VK → Prop} {ta : TA} (h : EvD K te ss fun x => (∀ (G H : Hp) (v : V), Ex G H → Dat K G x v → tyV K T v H) ∧ EvA K ta ss fun l => MD K T r x l R) : EvD K (tBM K T r te ta) ss R := fun G σ H e s Q q =>
  h G σ H e s _ fun v x G1 H1 g1 d1 h2 => ⟨h2.1 G1 H1 v g1.ink d1, h2.2 G1 σ H1 g1.ink (s.up g1.kn) _ fun vs l G2 H2 g2 d2 h3 =>
    h3 G2 H2 v vs g2.ink (d1.up g2.kn) d2 Q fun z d G4 H4 g4 d4 hr => q z d G4 H4 (g1.trans (g2.trans g4)) d4 hr⟩
theorem ed_bm0 {T : String} {r : V → List V → Hp → VK → Prop} (h : EvD K te ss fun x => (∀ (G H : Hp) (v : V), Ex G H → Dat K G x v → tyV K T v H) ∧ MD K T r x [] R) : EvD K (tBM0 K T r te) ss R := fun G σ H e s Q q =>
  h G σ H e s _ fun v x G1 H1 g1 d1 h2 => ⟨h2.1 G1 H1 v g1.ink d1, h2.2 G1 H1 v [] g1.ink d1 rfl Q fun z d G4 H4 g4 d4 hr => q z d G4 H4 (g1.trans g4) d4 hr⟩
/-! calls of defs: Pre is what the def asks of its arguments and of R -/
def spD (K : PySem.W.Frag) (Pre : List Dt → (Dt → Prop) → Prop) : Sp := fun vs H Q _ => ∃ (G : Hp) (ds : List Dt) (R : Dt → Prop), Ex G H ∧ Dats K G ds vs ∧ Pre ds R ∧ ∀ v d G' H', Go G H G' H' → Dat K G' d v → R d → Q v H'
theorem ed_call {Pre : List Dt → (Dt → Prop) → Prop} {E : XK} {ta : TA} (h : EvA K ta ss fun l => Pre l R) : EvD K (tCall (spD K Pre) [] E ta) ss R := fun G σ H e s Q q =>
  h G σ H e s _ fun vs l G1 H1 g1 d1 h2 => by
    rw [List.append_nil]
    exact ⟨G1, l, R, g1.ink, d1, h2, fun v d G' H' g hd hr => q v d G' H' (g1.trans g) hd hr⟩
/-! what is walked -/
/-- J gives the data of l, one by one, while G0 stands -/
def WalkD (K : PySem.W.Frag) (J : It) (l : List Dt) (G0 : Hp) : Prop := Walk J l.length (fun H => Ex G0 H) (fun i H x H' => ∀ G : Hp, Ex G0 G → Ex G H → ∃ d G2, l[i]? = some d ∧ Go G H G2 H' ∧ Dat K G2 d x)
def EvI (K : PySem.W.Frag) (wi : TI) (ss : List Sd) (R : List Dt → Prop) : Prop := ∀ (G : Hp) (σ : L2.St) (H : Hp), Ex G H → Sv K G σ ss → ∀ Q : It → Hp → Prop, (∀ J l G' H', Go G H G' H' → WalkD K J l G' → R l → Q J H') → wi σ H Q
theorem wd_list {G : Hp} {a : Addr} {l : List Dt} {xs : List V} (hs : SqL K G a xs) (d : Dats K G l xs) : WalkD K (Itl K a) l G := by
  have w := walk_list (K := K) (a := a) (xs := xs)
  rw [d.len] at w
  refine w.mono (fun H e => e.seq hs) fun i H x H' hi e y G2 e2 e3 => ?_
  obtain ⟨rfl, y⟩ := y
  obtain ⟨dd, h1, h2⟩ := d.getV y
  exact ⟨dd, G2, h1, Go.refl e3, h2.up e2⟩
theorem wd_tup {G : Hp} {a : Addr} {l : List Dt} {xs : List V} (hs : SqT K G a xs) (d : Dats K G l xs) : WalkD K (Itt K a) l G := by
  have w := walk_tup (K := K) (a := a) (xs := xs)
  rw [d.len] at w
  refine w.mono (fun H e => Ex.tup e hs) fun i H x H' hi e y G2 e2 e3 => ?_
  obtain ⟨rfl, y⟩ := y
  obtain ⟨dd, h1, h2⟩ := d.getV y
  exact ⟨dd, G2, h1, Go.refl e3, h2.up e2⟩
def rangeD (lo : Int) (n : Nat) : List Dt := (List.range n).map fun i : Nat => .int (lo + (i : Int))
theorem wd_range {G : Hp} {lo : Int} {n : Nat} : WalkD K (Itr lo n) (rangeD lo n) G := by
  have w := walk_range (lo := lo) (n := n)
  have e : (rangeD lo n).length = n := by simp [rangeD]
  unfold WalkD
  rw [e]
  refine w.mono (fun H e => True.intro) fun i H x H' hi e y G2 e2 e3 => ?_
  obtain ⟨rfl, rfl⟩ := y
  exact ⟨.int (lo + (i : Int)), G2, by simp [rangeD, hi], Go.refl e3, rfl⟩
def signsD (z : Str) : List Dt := z.cps.toList.map fun c => .str ⟨#[c]⟩
theorem wd_str {G : Hp} {z : Str} : WalkD K (Its z) (signsD z) G := by
  have w := walk_str (z := z)
  have e : (signsD z).length = z.cps.size := by simp [signsD]
  unfold WalkD
  rw [e]
  refine w.mono (fun H e => True.intro) fun i H x H' hi e y G2 e2 e3 => ?_
  obtain ⟨rfl, c, h1, rfl⟩ := y
  have h2 : z.cps.toList[i]? = some c := by simpa using h1
  exact ⟨.str ⟨#[c]⟩, G2, by simp [signsD, h2], Go.refl e3, rfl⟩
theorem ei_list {S : List Dt → Prop} (h : EvD K te ss fun d => ∃ l, (d = .lst l ∨ d = .sq l) ∧ S l) : EvI K (iList K te) ss S := fun G σ H e s Q q =>
  h G σ H e s _ fun v d G1 H1 g1 d1 ⟨l, h2, h3⟩ => by
    rcases h2 with rfl | rfl
    · obtain ⟨a, xs, rfl, hs, hd⟩ := d1
      exact ⟨a, rfl, ⟨xs, .inl (.inl (g1.ink _ _ hs))⟩, q _ l G1 H1 g1 (wd_list (.inl (.inl hs)) hd) h3⟩
    · obtain ⟨a, xs, rfl, hs, hd⟩ := d1
      exact ⟨a, rfl, ⟨xs, g1.ink.seq hs⟩, q _ l G1 H1 g1 (wd_list hs hd) h3⟩
theorem ei_tup {S : List Dt → Prop} (h : EvD K te ss fun d => ∃ l, d = .tup l ∧ S l) : EvI K (iTup K te) ss S := fun G σ H e s Q q =>
  h G σ H e s _ fun v d G1 H1 g1 d1 ⟨l, h2, h3⟩ => by
    subst h2
    obtain ⟨a, xs, rfl, hs, hd⟩ := d1
    exact ⟨a, rfl, ⟨xs, Ex.tup g1.ink hs⟩, q _ l G1 H1 g1 (wd_tup hs hd) h3⟩
theorem ei_rng1 {ta : TA} {S : List Dt → Prop} (h : EvA K ta ss fun l => ∃ j : Int, l = [.int j] ∧ (j < 2 ^ 62 ∧ -(2 ^ 62) ≤ j) ∧ S (rangeD 0 j.toNat)) : EvI K (iRng1 ta) ss S := fun G σ H e s Q q =>
  h G σ H e s _ fun vs l G1 H1 g1 d1 ⟨j, h2, h3, h4⟩ => by
    subst h2
    obtain ⟨x, r, rfl, hx, hr⟩ := d1
    cases hx; cases hr
    exact ⟨j, rfl, h3.2, h3.1, q _ _ G1 H1 g1 wd_range h4⟩
theorem ei_str {S : List Dt → Prop} (h : EvD K te ss fun d => ∃ z, d = .str z ∧ S (signsD z)) : EvI K (iStr te) ss S := fun G σ H e s Q q =>
  h G σ H e s _ fun v d G1 H1 g1 d1 ⟨l, h2, h3⟩ => by
    subst h2
    cases d1
    exact ⟨l, rfl, q _ _ G1 H1 g1 wd_str h3⟩
/-! targets: what the slots hold behind it -/
def GD (K : PySem.W.Frag) (g : TG) (vs : List Nat) (ss : List Sd) (d : Dt) (ss' : List Sd) : Prop := ∀ (G H : Hp) (σ : L2.St) (x : V), Ex G H → Sv K G σ ss → Dat K G d x → ∀ Q : L2.St → Hp → Prop, (∀ σ', Sv K G σ' ss' → wipe σ' vs = wipe σ vs → Q σ' H) → g x (wipe σ vs) H Q
theorem wipe1 (σ : L2.St) (j : Nat) : wipe σ [j] = σ.set j none := rfl
theorem gd_name {j : Nat} {d : Dt} : GD K (gName j) [j] ss d (ss.set j (.dt d)) := fun G H σ x e s hd Q q => by
  refine q _ ?_ ?_
  · rw [wipe1]
    have := (s.forget (j := j) (o := none)).set (j := j) hd
    rw [List.set_set] at this ⊢
    rw [List.set_set] at this
    exact this
  · simp [wipe]
/-- [e for x in .. if ..]: I, what holds of the list so far behind i items -/
theorem ed_lcG {wi : TI} {g : TG} {vs : List Nat}
    (h : EvI K wi ss fun l => ∃ sx : Dt → List Sd, (∀ d ∈ l, GD K g vs ss d (sx d)) ∧ ∃ I : Nat → List Dt → Prop, I 0 [] ∧ l.length < 1000000 ∧ (∀ i x acc, l[i]? = some x → I i acc → EvT K t (sx x) fun b => if b = true then EvD K te (sx x) fun y => I (i + 1) (acc ++ [y]) else I (i + 1) acc) ∧ ∀ acc, I l.length acc → R (.lst acc)) :
    EvD K (tLc wi g t te vs) ss R := fun G σ H e s Q q =>
  h G σ H e s _ fun J l G1 H1 g1 w ⟨sx, hg, I, h0, hl, hs, hd⟩ => by
    have s1 := s.up g1.kn
    intro D nD
    have nG : G1 D = none := g1.ink.free nD
    refine lc_it w (fun i H' => ∃ (G' : Hp) (acc : List Dt) (xs : List V), Go G1 H1 G' H' ∧ G' D = none ∧ H' D = some (.lst xs) ∧ Dats K G' acc xs ∧ acc.length ≤ i ∧ I i acc) ?_ ?_ ?_ ?_
    · exact ⟨G1, [], [], Go.put g1.ink nD, nG, upd_same, rfl, Nat.le_refl _, h0⟩
    · rintro i H' _ ⟨G', acc, xs, g2, _⟩
      exact g2.kn.trans g2.ink
    · rintro i x H2 H3 hi ⟨G2, acc, xs, g2, n2, e2, d2, l2, i2⟩ y
      obtain ⟨d, G3, hd3, g3, dx⟩ := y G2 g2.kn g2.ink
      have e3 : H3 D = some (.lst xs) := g3.up D _ e2
      have n3 : G3 D = none := g3.nw D n2 (by rw [e2]; exact fun z => nomatch z)
      refine hg d (List.mem_of_getElem? hd3) G3 H3 σ x g3.ink ((s1.up g2.kn).up g3.kn) dx _ fun σ4 s4 w4 => ⟨w4, ?_⟩
      refine hs i d acc hd3 i2 G3 σ4 H3 g3.ink s4 _ fun b G5 H5 g5 h5 => ?_
      have e5 : H5 D = some (.lst xs) := g5.up D _ e3
      have n5 : G5 D = none := g5.nw D n3 (by rw [e3]; exact fun z => nomatch z)
      cases b with
      | false => exact ⟨G5, acc, xs, (g2.trans g3).trans g5, n5, e5, (d2.up g3.kn).up g5.kn, by omega, h5⟩
      | true =>
        refine h5 G5 σ4 H5 g5.ink (s4.up g5.kn) _ fun y dy G6 H6 g6 d6 h6 => ?_
        have e6 : H6 D = some (.lst xs) := g6.up D _ e5
        have n6 : G6 D = none := g6.nw D n5 (by rw [e5]; exact fun z => nomatch z)
        have d7 : Dats K G6 (acc ++ [dy]) (xs ++ [y]) := Dats.snoc (((d2.up g3.kn).up g5.kn).up g6.kn) d6
        have g7 := ((g2.trans g3).trans g5).trans g6
        refine ⟨xs, e6, ?_, G6, acc ++ [dy], xs ++ [y], ⟨g7.kn, g7.nw, fun a u z => ?_, fun a u z => ?_⟩, n6, upd_same, d7, by simp; omega, h6⟩
        · rw [d2.len]; exact sz_lt (by omega)
        · rw [upd_ne (ne_of_none z n6)]; exact g7.ink a u z
        · rw [upd_ne (ne_of_none z nD)]; exact g7.up a u z
    · rintro H2 ⟨G2, acc, xs, g2, n2, e2, d2, l2, i2⟩
      refine q (.ref D) (.lst acc) (upd G2 D (.lst xs)) H2 (g1.trans ⟨g2.kn.trans (Ex.new n2), fun a h1 h2 => ?_, fun a u z => ?_, g2.up⟩) (dat_newL d2 n2) (hd acc i2)
      · rw [upd_ne (fun c => h2 (by rw [c]; exact nD))]; exact g2.nw a h1 h2
      · by_cases c : a = D
        · subst c; rw [upd_same] at z; rw [e2]; exact z
        · rw [upd_ne c] at z; exact g2.ink a u z
theorem ed_lc {wi : TI} {g : TG} {vs : List Nat} {sx : Dt → List Sd} (hg : ∀ d, GD K g vs ss d (sx d))
    (h : EvI K wi ss fun l => ∃ I : Nat → List Dt → Prop, I 0 [] ∧ l.length < 1000000 ∧ (∀ i x acc, l[i]? = some x → I i acc → EvT K t (sx x) fun b => if b = true then EvD K te (sx x) fun y => I (i + 1) (acc ++ [y]) else I (i + 1) acc) ∧ ∀ acc, I l.length acc → R (.lst acc)) :
    EvD K (tLc wi g t te vs) ss R := ed_lcG fun G σ H e s Q q => h G σ H e s Q fun J l G' H' g' w hh => q J l G' H' g' w ⟨sx, fun d _ => hg d, hh⟩
end
/-- the list of what is made, one by one -/
theorem ed_lc_map {K : PySem.W.Frag} {ss : List Sd} {R : Dt → Prop} {te : TE} {wi : TI} {g : TG} {vs : List Nat} {sx : Dt → List Sd} (hg : ∀ d, GD K g vs ss d (sx d))
    (h : EvI K wi ss fun l => l.length < 1000000 ∧ ∃ f : Dt → Dt, (∀ x ∈ l, EvD K te (sx x) fun y => y = f x) ∧ R (.lst (l.map f))) : EvD K (tLc wi g tYes te vs) ss R :=
  ed_lc hg fun G σ H e s Q q => h G σ H e s Q fun J l G' H' g' w ⟨h1, f, h2, h3⟩ => q J l G' H' g' w
    ⟨fun i acc => acc = (l.take i).map f, by simp, h1, fun i x acc hx ha => et_yes (by
      rw [if_pos rfl]
      refine (h2 x (List.mem_of_getElem? hx)).imp fun y hy => ?_
      subst hy ha
      rw [List.take_add_one, hx]; simp), fun acc ha => by
      subst ha
      rw [List.take_length]; exact h3⟩
theorem ed_lc_filter {K : PySem.W.Frag} {ss : List Sd} {R : Dt → Prop} {tt : TT} {te : TE} {wi : TI} {g : TG} {vs : List Nat} {sx : Dt → List Sd} (hg : ∀ d, GD K g vs ss d (sx d))
    (h : EvI K wi ss fun l => l.length < 1000000 ∧ ∃ (p : Dt → Bool) (f : Dt → Dt), (∀ x ∈ l, EvT K tt (sx x) fun b => b = p x) ∧ (∀ x ∈ l, p x = true → EvD K te (sx x) fun y => y = f x) ∧ R (.lst ((l.filter p).map f))) : EvD K (tLc wi g tt te vs) ss R :=
  ed_lc hg fun G σ H e s Q q => h G σ H e s Q fun J l G' H' g' w ⟨h1, p, f, h2, h3, h4⟩ => q J l G' H' g' w
    ⟨fun i acc => acc = ((l.take i).filter p).map f, by simp, h1, fun i x acc hx ha => (h2 x (List.mem_of_getElem? hx)).imp fun b hb => by
      have ht : l.take (i + 1) = l.take i ++ [x] := by rw [List.take_add_one, hx]; simp
      subst hb ha
      cases hp : p x with
      | true =>
        rw [if_pos rfl]
        refine (h3 x (List.mem_of_getElem? hx) hp).imp fun y hy => ?_
        subst hy
        rw [ht]; simp [hp]
      | false =>
        rw [if_neg (by simp)]
        show _ = _
        rw [ht]; simp [hp], fun acc ha => by
      subst ha
      rw [List.take_length]; exact h4⟩

theorem ed_lc_mapG {K : PySem.W.Frag} {ss : List Sd} {R : Dt → Prop} {te : TE} {wi : TI} {g : TG} {vs : List Nat}
    (h : EvI K wi ss fun l => ∃ sx : Dt → List Sd, (∀ d ∈ l, GD K g vs ss d (sx d)) ∧ l.length < 1000000 ∧ ∃ f : Dt → Dt, (∀ x ∈ l, EvD K te (sx x) fun y => y = f x) ∧ R (.lst (l.map f))) : EvD K (tLc wi g tYes te vs) ss R :=
  ed_lcG fun G σ H e s Q q => h G σ H e s Q fun J l G' H' g' w ⟨sx, hg, h1, f, h2, h3⟩ => q J l G' H' g' w
    ⟨sx, hg, fun i acc => acc = (l.take i).map f, by simp, h1, fun i x acc hx ha => et_yes (by
      rw [if_pos rfl]
      refine (h2 x (List.mem_of_getElem? hx)).imp fun y hy => ?_
      subst hy ha
      rw [List.take_add_one, hx]; simp), fun acc ha => by
      subst ha
      rw [List.take_length]; exact h3⟩
theorem ed_lc_filterG {K : PySem.W.Frag} {ss : List Sd} {R : Dt → Prop} {tt : TT} {te : TE} {wi : TI} {g : TG} {vs : List Nat}
    (h : EvI K wi ss fun l => ∃ sx : Dt → List Sd, (∀ d ∈ l, GD K g vs ss d (sx d)) ∧ l.length < 1000000 ∧ ∃ (p : Dt → Bool) (f : Dt → Dt), (∀ x ∈ l, EvT K tt (sx x) fun b => b = p x) ∧ (∀ x ∈ l, p x = true → EvD K te (sx x) fun y => y = f x) ∧ R (.lst ((l.filter p).map f))) : EvD K (tLc wi g tt te vs) ss R :=
  ed_lcG fun G σ H e s Q q => h G σ H e s Q fun J l G' H' g' w ⟨sx, hg, h1, p, f, h2, h3, h4⟩ => q J l G' H' g' w
    ⟨sx, hg, fun i acc => acc = ((l.take i).filter p).map f, by simp, h1, fun i x acc hx ha => (h2 x (List.mem_of_getElem? hx)).imp fun b hb => by
      have ht : l.take (i + 1) = l.take i ++ [x] := by rw [List.take_add_one, hx]; simp
      subst hb ha
      cases hp : p x with
      | true =>
        rw [if_pos rfl]
        refine (h3 x (List.mem_of_getElem? hx) hp).imp fun y hy => ?_
        subst hy
        rw [ht]; simp [hp]
      | false =>
        rw [if_neg (by simp)]
        show _ = _
        rw [ht]; simp [hp], fun acc ha => by
      subst ha
      rw [List.take_length]; exact h4⟩

/-! ### statements: N, B, C what is wanted of the slots behind it, at a break, at a continue; R of what is returned -/
abbrev SP := List Sd → Prop
/-- what is wished of an exception (W), and what is known of it: the slots, its class, its fields (R) -/
structure XC where
  W : L2.WX
  R : List Sd → Addr → List (Str × Dt) → Prop
abbrev x0 : XC := ⟨fun _ _ _ _ => False, fun _ _ _ => False⟩
/-- the exception's own dict -/
def XD (K : PySem.W.Frag) (G : Hp) (od : Option Addr) (l : List (Str × Dt)) : Prop := (od = none ∧ l = []) ∨ ∃ dx fs, od = some dx ∧ G dx = some (.xd fs) ∧ Datf K G l fs
def StD (K : PySem.W.Frag) (ξ : XC) (ts : TS) (ss : List Sd) (N B C : SP) (R : Dt → Prop) : Prop := ∀ (G0 H0 : Hp) (D : Ends) (σ : L2.St) (G H : Hp), Go G0 H0 G H → Sl K H0 G H σ ss →
  (∀ σ' ss' G' H', Go G0 H0 G' H' → Sl K H0 G' H' σ' ss' → N ss' → D.nx σ' H') → (∀ σ' ss' G' H', Go G0 H0 G' H' → Sl K H0 G' H' σ' ss' → B ss' → D.bk σ' H') →
  (∀ σ' ss' G' H', Go G0 H0 G' H' → Sl K H0 G' H' σ' ss' → C ss' → D.ct σ' H') → (∀ v d G' H', Go G0 H0 G' H' → Dat K G' d v → R d → D.rt v H') →
  (∀ σ' ss' C' l od G' H', Go G0 H0 G' H' → Sl K H0 G' H' σ' ss' → XD K G' od l → ξ.R ss' C' l → ξ.W (.ref C') od σ' H') → ts D σ H
section
variable {K : PySem.W.Frag} {ξ : XC} {ss : List Sd} {R : Dt → Prop} {N B C : SP} {te : TE} {tt : TT} {t u : TS}
theorem sd_next (h : N ss) : StD K ξ tNext ss N B C R := fun G0 H0 D σ G H g s n b c r w => n σ ss G H g s h
theorem sd_seq (h : StD K ξ t ss (fun s1 => StD K ξ u s1 N B C R) B C R) : StD K ξ (tSeq t u) ss N B C R := fun G0 H0 D σ G H g s n b c r w =>
  h G0 H0 { D with nx := u D } σ G H g s (fun σ1 s1 G1 H1 g1 l1 h1 => h1 G0 H0 D σ1 G1 H1 g1 l1 n b c r w) b c r w
theorem sd_brk (h : B ss) : StD K ξ tBreak ss N B C R := fun G0 H0 D σ G H g s n b c r w => b σ ss G H g s h
theorem sd_cont (h : C ss) : StD K ξ tCont ss N B C R := fun G0 H0 D σ G H g s n b c r w => c σ ss G H g s h
theorem sd_drop (h : EvD K te ss fun _ => N ss) : StD K ξ (tDrop te) ss N B C R := fun G0 H0 D σ G H g s n b c r w =>
  h G σ H g.ink s.sv _ fun v d G1 H1 g1 _ h1 => n σ ss G1 H1 (g.trans g1) (s.go g1) h1
theorem sd_ret (h : EvD K te ss R) : StD K ξ (tRet te) ss N B C R := fun G0 H0 D σ G H g s n b c r w =>
  h G σ H g.ink s.sv _ fun v d G1 H1 g1 d1 h1 => r v d G1 H1 (g.trans g1) d1 h1
theorem sd_retN (h : R .non) : StD K ξ tRetN ss N B C R := fun G0 H0 D σ G H g s n b c r w => r .non .non G H g rfl h
theorem sd_if (h : EvT K tt ss fun b => if b = true then StD K ξ t ss N B C R else StD K ξ u ss N B C R) : StD K ξ (tIfS tt t u) ss N B C R := fun G0 H0 D σ G H g s n b c r w =>
  h G σ H g.ink s.sv _ fun k G1 H1 g1 h1 => by
    cases k with
    | true => exact h1 G0 H0 D σ G1 H1 (g.trans g1) (s.go g1) n b c r w
    | false => exact h1 G0 H0 D σ G1 H1 (g.trans g1) (s.go g1) n b c r w
theorem sd_asg {i : Nat} (h : EvD K te ss fun d => N (ss.set i (.dt d))) : StD K ξ (tAsg te (gName i)) ss N B C R := fun G0 H0 D σ G H g s n b c r w =>
  h G σ H g.ink s.sv _ fun v d G1 H1 g1 d1 h1 => n _ _ G1 H1 (g.trans g1) ((s.go g1).set d1) h1
/-- a for: I by the turn and the slots -/
theorem sd_for {wi : TI} {j : Nat} (h : EvI K wi ss fun l => ∃ I : Nat → SP, I 0 ss ∧ (∀ i x s1, l[i]? = some x → I i s1 → StD K ξ t (s1.set j (.dt x)) (I (i + 1)) N (I (i + 1)) R) ∧ ∀ s1, I l.length s1 → N s1) :
    StD K ξ (tFor wi (gName j) t) ss N B C R := fun G0 H0 D σ G H g s n b c r w =>
  h G σ H g.ink s.sv _ fun J l G1 H1 g1 wk ⟨I, h0, hs, hd⟩ => by
    have gg : Go G0 H0 G1 H1 := g.trans g1
    have back : ∀ {G' H' : Hp}, Go G1 H0 G' H' → Go G0 H0 G' H' := fun {G' H'} z => ⟨gg.kn.trans z.kn, fun a h1 h2 => z.nw a (gg.nw a h1 h2) h2, z.ink, z.up⟩
    refine for_it wk (fun i σ' H' => ∃ G' s', Go G1 H0 G' H' ∧ Sl K H0 G' H' σ' s' ∧ I i s') ⟨G1, ss, ⟨Same.refl _, fun _ h _ => h, gg.ink, gg.up⟩, s.go g1, h0⟩ ?_ ?_ ?_
    · rintro i σ' H' _ ⟨G', s', g2, _⟩
      exact g2.kn.trans g2.ink
    · rintro i x σ' H' H2 hi ⟨G', s', g2, l2, i2⟩ y
      obtain ⟨d, G3, hd3, g3, dx⟩ := y G' g2.kn g2.ink
      refine hs i d s' hd3 i2 G1 H0 { D with nx := _, ct := _, bk := D.nx } _ G3 H2 (g2.trans g3) ((l2.go g3).set dx) (fun σ4 s4 G4 H4 g4 l4 h4 => ⟨G4, s4, g4, l4, h4⟩)
        (fun σ4 s4 G4 H4 g4 l4 h4 => n σ4 s4 G4 H4 (back g4) l4 h4) (fun σ4 s4 G4 H4 g4 l4 h4 => ⟨G4, s4, g4, l4, h4⟩) (fun v d G' H' z1 z2 z3 => r v d G' H' (back z1) z2 z3) fun σ4 s4 C4 f4 o4 G4 H4 z1 z2 z3 z4 => w σ4 s4 C4 f4 o4 G4 H4 (back z1) z2 z3 z4
    · rintro σ' H' ⟨G', s', g2, l2, i2⟩
      exact n σ' s' G' H' (back g2) l2 (hd s' i2)
/-! expressions that may raise -/
def EvX (K : PySem.W.Frag) (ξ : XC) (te : TE) (ss : List Sd) (R : Dt → Prop) : Prop := ∀ (G : Hp) (σ : L2.St) (H : Hp), Ex G H → Sv K G σ ss → ∀ Q : VK, (∀ v d G' H', Go G H G' H' → Dat K G' d v → R d → Q v H') →
  (∀ C' l od G' H', Go G H G' H' → XD K G' od l → ξ.R ss C' l → ξ.W (.ref C') od σ H') → te σ H Q
theorem ex_of (h : EvD K te ss R) : EvX K ξ te ss R := fun G σ H e s Q q _ => h G σ H e s Q q
theorem sd_retX (h : EvX K ξ te ss R) : StD K ξ (tRet te) ss N B C R := fun G0 H0 D σ G H g s n b c r w =>
  h G σ H g.ink s.sv _ (fun v d G1 H1 g1 d1 h1 => r v d G1 H1 (g.trans g1) d1 h1) fun C' l od G1 H1 g1 xd hx => w σ ss C' l od G1 H1 (g.trans g1) (s.go g1) xd hx
theorem sd_dropX (h : EvX K ξ te ss fun _ => N ss) : StD K ξ (tDrop te) ss N B C R := fun G0 H0 D σ G H g s n b c r w =>
  h G σ H g.ink s.sv _ (fun v d G1 H1 g1 _ h1 => n σ ss G1 H1 (g.trans g1) (s.go g1) h1) fun C' l od G1 H1 g1 xd hx => w σ ss C' l od G1 H1 (g.trans g1) (s.go g1) xd hx
theorem sd_asgX {i : Nat} (h : EvX K ξ te ss fun d => N (ss.set i (.dt d))) : StD K ξ (tAsg te (gName i)) ss N B C R := fun G0 H0 D σ G H g s n b c r w =>
  h G σ H g.ink s.sv _ (fun v d G1 H1 g1 d1 h1 => n _ _ G1 H1 (g.trans g1) ((s.go g1).set d1) h1) fun C' l od G1 H1 g1 xd hx => w σ ss C' l od G1 H1 (g.trans g1) (s.go g1) xd hx
end

/-! ### defs -/
def startS (n : Nat) (ds : List Dt) : List Sd := ds.map .dt ++ List.replicate (n - ds.length) .no
theorem noown {n : Nat} {ds : List Dt} (i : Nat) (a : Addr) (l : Dt) : (startS n ds)[i]? ≠ some (.own a l) := fun z => by
  unfold startS at z
  by_cases c : i < (ds.map Sd.dt).length
  · rw [List.getElem?_append_left c, List.getElem?_map] at z
    cases q : ds[i]? with
    | none => rw [q] at z; cases z
    | some x => rw [q] at z; cases z
  · rw [List.getElem?_append_right (by omega), List.getElem?_replicate] at z
    split at z <;> cases z
theorem sl_start {K : PySem.W.Frag} {G H : Hp} {ds : List Dt} {vs : List V} {N : List Str} (e : Ex G H) (d : Dats K G ds vs) : Sl K H G H (L2.start N vs) (startS N.length ds) := by
  have hl := d.len
  refine ⟨⟨by simp [L2.start, startS, hl], fun i x z => ?_⟩, fun i a l z => absurd z (noown i a l), fun i j l m a z => absurd z (noown i a l)⟩
  unfold startS at z
  unfold L2.start
  by_cases c : i < ds.length
  · rw [List.getElem?_append_left (by simpa using c), List.getElem?_map] at z
    cases q : ds[i]? with
    | none => rw [q] at z; cases z
    | some y =>
      rw [q] at z
      cases z
      obtain ⟨v, h1, h2⟩ := d.get q
      exact ⟨v, by rw [List.getElem?_append_left (by simpa [hl] using c), List.getElem?_map, h1]; rfl, h2⟩
  · rw [List.getElem?_append_right (by simpa using c), List.getElem?_replicate] at z
    split at z <;> cases z
/-- a def of the text that keeps the promise Pre by level k: with all that a caller asks -/
def Gf (P : Program) (w : World) (K : PySem.W.Frag) (mg : Str → Option Value) (base : Heap) (x : Str) (k : Nat) (ps : List Str) (Pre : List Dt → (Dt → Prop) → Prop) : Prop :=
  ∃ f fd, FnOk P w K mg base CX0 k f fd ps (spD K Pre) ∧ Binds K fd ps [] ∧ mg x = some (.ref f) ∧ PySem.W.keepIn K (.ref f) = true ∧ ∃ oc od osl, K.lookup f = some ⟨oc, od, .func fd, osl⟩
/-- a def's object, and its name -/
def Df (K : PySem.W.Frag) (mg : Str → Option Value) (x : Str) (st : Stmt) (ps : List Str) : Prop :=
  ∃ f fd, Fun K x x st f fd ∧ Binds K fd ps [] ∧ mg x = some (.ref f)
section
variable {P : Program} {w : World} {K : PySem.W.Frag} {mg : Str → Option Value} {base : Heap}
theorem lk_of {x q : Str} {st : Stmt} {f : Addr} {fd : FuncData} (F : Fun K x q st f fd) : ∃ oc od osl, K.lookup f = some ⟨oc, od, .func fd, osl⟩ := by
  obtain ⟨oc, od, kV, doc, pm, an, cdv, ct, osl, _, lk, _⟩ := F.ex
  exact ⟨oc, od, osl, lk⟩
/-- the same def, by any of its names -/
theorem Gf.at {x : Str} {k : Nat} {ps : List Str} {Pre : List Dt → (Dt → Prop) → Prop} (g : Gf P w K mg base x k ps Pre) {f : Addr} {fd : FuncData} (m : mg x = some (.ref f)) (l : ∃ oc od osl, K.lookup f = some ⟨oc, od, .func fd, osl⟩) : FnOk P w K mg base CX0 k f fd ps (spD K Pre) := by
  obtain ⟨f', fd', F, _, m', _, oc, od, osl, l'⟩ := g
  rw [m] at m'
  cases m'
  obtain ⟨_, _, _, l⟩ := l
  rw [l] at l'
  cases l'
  exact F
theorem gf_of {x : Str} {st : Stmt} {N ps : List Str} {k : Nat} {Pre : List Dt → (Dt → Prop) → Prop} (F : Df K mg x st ps) (S : FnScope N ps (defScope st)) (len : ∀ ds R, Pre ds R → ds.length = ps.length)
    (hbody : ∀ (f : Addr) (cdv : Value) (A : Around) (outer : List Env) (s : Shared) (H : Hp) (E : XK), Room k (A.deeper (envOfC x (defScope st) s.heap.objs.size f cdv)) →
      ∃ t, PSs (cxOf CX0 P w K mg base N x (defScope st) f cdv A outer s H E).nox (defBody st) t ∧ ∀ ds R, Pre ds R → StD K x0 t (startS N.length ds) (fun _ => R .non) (fun _ => False) (fun _ => False) R) :
    Gf P w K mg base x (k + 1) ps Pre := by
  obtain ⟨f, fd, F, b, m⟩ := F
  refine ⟨f, fd, F.ok S (fun vs H Q E h => ?_) (fun cdv A outer s H vs Q E hr h => ?_), b, m, F.kp, lk_of F⟩
  · obtain ⟨G, ds, R, e, d, p, _⟩ := h
    rw [d.len]; exact len ds R p
  · obtain ⟨G, ds, R, e, d, p, q⟩ := h
    obtain ⟨t, ht, hs⟩ := hbody f cdv A outer s H E hr
    exact ⟨t, ht, hs ds R p G H _ _ G H (Go.refl e) (sl_start e d) (fun σ' s' G' H' g' _ hn => q .non .non G' H' g' rfl hn) (fun σ' s' G' H' g' _ hn => hn.elim) (fun σ' s' G' H' g' _ hn => hn.elim) (fun v d G' H' g' dd hr => q v d G' H' g' dd hr) fun _ _ _ _ _ _ _ _ _ _ hx => hx.elim⟩
theorem pe_gf {X : Cx} {x : Str} {k : Nat} {ps : List Str} {Pre : List Dt → (Dt → Prop) → Prop} {p pos : Pos} {e : Expr} {es : List Expr} {t : TA} (F : Gf P w K mg base x k ps Pre) (hX : X.prog = P ∧ X.w = w ∧ X.K = K ∧ X.mg = mg ∧ X.base = base) (hr : Room k X.A) (hg : Gl X x) (ha : PA X (e :: es) t)
    (hdb : (x == ("__debug__" : Str)) = false := by decide) (he : starEach (e :: es) X.env = (false, eval e X.env) :: starEach es X.env := by rfl) (hpl : (backTo pos (starEach es X.env)).any (·.1) = false := by rfl) :
    PE X (.Call (.Name x p) (e :: es) [] pos) (tCall (spD K Pre) [] E0 t) := by
  obtain ⟨rfl, rfl, rfl, rfl, rfl⟩ := hX
  obtain ⟨f, fd, F, b, m, kp, _⟩ := F
  exact pe_call F hr hg m kp b .nil pass0 ha hdb he hpl
end
end Nv

set_option Elab.async false
set_option linter.all false
set_option maxRecDepth 100000
set_option maxHeartbeats 4000000
namespace Nv
open PySem PySem.Spec PyProof.Rows L2
/-! ### operators, any kind of data -/
def CPowW (i j : Int) : Prop := 0 ≤ j ∧ (Builtin.Int.intBits i : Int) * j ≤ 2 ^ 27
section
variable {X : Cx}
theorem op_powW : OpR X (binaryOp .Pow) (rI CPowW fun i j => .int (i ^ j.toNat)) := opI fun _ _ _ _ _ _ _ hc q => pow_int hc.1 hc.2 q
abbrev rAddS : R2 := fun x y H Q => ∃ i j, x = .str i ∧ y = .str j ∧ i.length + j.length ≤ sizeLine ∧ Q (.str (i ++ j)) H
def rAddA (K : PySem.W.Frag) : R2 := fun x y H Q => (rI0 fun i j => .int (i + j)) x y H Q ∨ (rAddS x y H Q ∨ (rCat x y H Q ∨ rCatA K x y H Q))
theorem opAdd {K : PySem.W.Frag} (hK : X.K = K) : OpR X (binaryOp .Add) (rAddA K) := by subst hK; exact op_add.or (op_add_str.or (op_cat.or op_catA))
def rMulS : R2 := fun x y H Q => ∃ z n, x = .str z ∧ y = .int n ∧ PySem.MulOk z n ∧ Q (.str (Txt.mul z n)) H
theorem op_mulS : OpR X (binaryOp .Mult) rMulS := by
  intro pins s σ H x y v u Q I rx ry h
  obtain ⟨z, n, rfl, rfl, ok, q⟩ := h
  obtain ⟨t, rfl⟩ := rx
  obtain ⟨t', rfl⟩ := ry
  exact PySem.SB.mul ok fun t' k => ⟨.str _, H, I.tok _, ⟨_, rfl⟩, q⟩
def rMulA (K : PySem.W.Frag) : R2 := fun x y H Q => (rI CMul fun i j => .int (i * j)) x y H Q ∨ ((rI CMulW fun i j => .int (i * j)) x y H Q ∨ (rRep x y H Q ∨ (rRepT K x y H Q ∨ rMulS x y H Q)))
theorem opMul {K : PySem.W.Frag} (hK : X.K = K) : OpR X (binaryOp .Mult) (rMulA K) := by subst hK; exact op_mul.or (op_mulW.or (op_rep.or (op_repT.or op_mulS)))
def rEqA (K : PySem.W.Frag) : R2 := fun x y H Q => rEq x y H Q ∨ rEqD K x y H Q
theorem opEq {K : PySem.W.Frag} (hK : X.K = K) (hu : X.A.units + 64 < cLine) : OpR X (compareOp .Eq) (rEqA K) := by subst hK; exact op_eq.or (op_eqD hu)
def rNeA (K : PySem.W.Frag) : R2 := fun x y H Q => rNe x y H Q ∨ rNeD K x y H Q
theorem opNe {K : PySem.W.Frag} (hK : X.K = K) (hu : X.A.units + 64 < cLine) : OpR X (compareOp .NotEq) (rNeA K) := by subst hK; exact op_ne.or (op_neD hu)
abbrev rIsNA : R2 := fun x y H Q => y = .non ∧ Q (.bl (decide (x = .non))) H
abbrev rIsBA : R2 := fun x y H Q => ∃ a b, x = .bl a ∧ y = .bl b ∧ Q (.bl (decide (a = b))) H
def rIsA : R2 := fun x y H Q => rIsNA x y H Q ∨ rIsBA x y H Q
theorem opIs : OpR X (compareOp .Is) rIsA := op_isN.or op_is_bl
abbrev rNotNA : R2 := fun x y H Q => y = .non ∧ Q (.bl (!decide (x = .non))) H
abbrev rNotBA : R2 := fun x y H Q => ∃ a b, x = .bl a ∧ y = .bl b ∧ Q (.bl (!decide (a = b))) H
def rNotA : R2 := fun x y H Q => rNotNA x y H Q ∨ rNotBA x y H Q
theorem opIsNot : OpR X (compareOp .IsNot) rNotA := op_notN.or op_isnot_bl
abbrev rInS : R2 := fun x y H Q => ∃ (c : Nat) (z : Str), x = .str ⟨#[c]⟩ ∧ y = .str z ∧ Q (.bl (decide (c ∈ z.cps.toList))) H
def rInA (K : PySem.W.Frag) : R2 := fun x y H Q => rInS x y H Q ∨ rIn K false x y H Q
theorem opIn {K : PySem.W.Frag} (hK : X.K = K) : OpR X (compareOp .In) (rInA K) := by subst hK; exact op_in_sign.or op_in_seq
abbrev rNiS : R2 := fun x y H Q => ∃ (c : Nat) (z : Str), x = .str ⟨#[c]⟩ ∧ y = .str z ∧ Q (.bl (!decide (c ∈ z.cps.toList))) H
def rNiA (K : PySem.W.Frag) : R2 := fun x y H Q => rNiS x y H Q ∨ rIn K true x y H Q
theorem opNotIn {K : PySem.W.Frag} (hK : X.K = K) : OpR X (compareOp .NotIn) (rNiA K) := by subst hK; exact op_notIn_sign.or op_notIn_seq
/-! names -/
theorem pe_g {x : Str} {v : V} {pos : Pos} (hg : Gl X x) (h : ∃ u, X.mg x = some u ∧ RelV v u) (hd : (x == ("__debug__" : Str)) = false := by decide) : PE X (.Name x pos) (tC v) :=
  let ⟨_, h1, h2⟩ := h
  pe_glob hg h1 h2 hd
theorem pe_bty (n : String) {x : Str} {pos : Pos} (hg : Gl X x) (hm : X.mg x = none) (hv : bootBuiltins x = some (.type n)) (hn : x ≠ "__name__" := by decide) (hd : (x == ("__debug__" : Str)) = false := by decide) : PE X (.Name x pos) (tC (.ty n)) :=
  pe_bltn hg hm hv rfl hn hd
/-! calls -/
def rRepr1 : List V → Hp → VK → Prop := fun xs H Q => (xs = [.non] ∧ Q (.str "None") H) ∨ (∃ b, xs = [.bl b] ∧ Q (.str (if b then "True" else "False")) H)
theorem call_repr1 : CallR X (.builtin "repr") rRepr1 := by
  intro pins s σ H xs us Q I r h
  rcases h with ⟨rfl, q⟩ | ⟨b, rfl, q⟩
  · obtain ⟨u, rfl, rx⟩ := vals1 r
    cases rx
    exact PySem.P.repr_of_none ⟨.str _, H, I.tok _, ⟨_, rfl⟩, q⟩
  · obtain ⟨u, rfl, rx⟩ := vals1 r
    cases rx
    exact PySem.P.repr_of_bool ⟨.str _, H, I.tok _, ⟨_, rfl⟩, q⟩
abbrev rStrI : List V → Hp → VK → Prop := fun xs H Q => ∃ i, xs = [.int i] ∧ i.natAbs.log2 < 1920 ∧ Q (.str (toString i)) H
abbrev rStrS : List V → Hp → VK → Prop := fun xs H Q => ∃ a, xs = [.str a] ∧ Q (.str a) H
def rStrA : List V → Hp → VK → Prop := fun xs H Q => rStrI xs H Q ∨ rStrS xs H Q
theorem callStr : CallR X (.type "str") rStrA := call_str_int.or SkE.call_str_str
abbrev rLenV (K : PySem.W.Frag) : List V → Hp → VK → Prop := fun xs H Q => ∃ x n, xs = [x] ∧ LenV K x H n ∧ Q (.int n) H
abbrev rLenD : List V → Hp → VK → Prop := fun xs H Q => ∃ a kvs, xs = [V.ref a] ∧ H a = some (.dK kvs) ∧ Q (.int kvs.length) H
def rLenA (K : PySem.W.Frag) : List V → Hp → VK → Prop := fun xs H Q => rLenV K xs H Q ∨ rLenD xs H Q
theorem callLen {K : PySem.W.Frag} (hK : X.K = K) : CallR X (.builtin "len") (rLenA K) := by subst hK; exact call_len.or call_lenD
theorem callAll {K : PySem.W.Frag} (hK : X.K = K) (hc : X.calm = true) : CallR X (.builtin "all") (rAll K) := by subst hK; exact cr_all hc
theorem callIsi {K : PySem.W.Frag} (hK : X.K = K) : CallR X (.builtin "isinstance") (rIsi K) := by subst hK; exact call_isi
theorem ixA {K : PySem.W.Frag} (hK : X.K = K) : IxR X (rIx K) := by subst hK; exact ix_seq
theorem piList {K : PySem.W.Frag} (hK : X.K = K) {tg e : Expr} {te : TE} (he : PE X e te) : PI X tg e (iList K te) := by subst hK; exact pi_list he
theorem piTup {K : PySem.W.Frag} (hK : X.K = K) {tg e : Expr} {te : TE} (he : PE X e te) : PI X tg e (iTup K te) := by subst hK; exact pi_tup he
theorem mtJoin {K : PySem.W.Frag} (hK : X.K = K) : MtR X "str.join" (fun x xs H Q => ∃ a p, ∃ ys : List Str, x = .str a ∧ xs = [.ref p] ∧ (SqL K H p (ys.map V.str) ∨ SqT K H p (ys.map V.str)) ∧ (ys.map (·.length)).sum + ys.length * a.length ≤ 16777216 ∧ Q (.str (Txt.join a ys)) H) := by
  subst hK
  exact mt_join
theorem peBm {K : PySem.W.Frag} (hK : X.K = K) {o e : Expr} {es : List Expr} {to : TE} {t : TA} {name : Str} {apos cpos : Pos} {T id : String} {r : V → List V → Hp → VK → Prop} (pa : PlainAttrs T) (slot : Slot T name id) (hty : typeOf (.builtin id) = pure (.type "method_descriptor")) (hm : MtR X id r) (ho : PE X o to) (ha : PA X (e :: es) t)
    (hbase : attributeBase o name X.env (eval o X.env) = eval o X.env := by rfl)
    (hfew : ((backTo cpos (starEach (e :: es) X.env)).all (fun x => !x.1) && (backToKw cpos (keywordEach [] X.env)).all (fun x => x.1.isSome) && decide ((e :: es).length + ([] : List Keyword).length + (if ([] : List Keyword).isEmpty then 0 else 1) < 30)) = true := by rfl)
    (hline : (apos.endLine == cpos.line) = true := by rfl) (hs : starEach (e :: es) X.env = (false, eval e X.env) :: starEach es X.env := by rfl) (hplain : (backTo cpos (starEach es X.env)).any (·.1) = false := by rfl) :
    PE X (.Call (.Attribute o name apos) (e :: es) [] cpos) (tBM K T r to t) := by
  subst hK
  exact pe_bm pa slot hty hm ho ha hbase hfew hline hs hplain
end

/-! ### the same by data -/
section
variable {K : PySem.W.Frag} {R : Dt → Prop} {i j : Int} {x y : Str}
theorem rd_add_i (h : R (.int (i + j))) : RD K (rAddA K) (.int i) (.int j) R := fun G H v w e d1 d2 Q q => by
  cases d1; cases d2
  exact .inl ⟨i, j, rfl, rfl, q _ (.int (i + j)) G H (Go.refl e) rfl h⟩
theorem rd_add_s (hl : x.length + y.length ≤ 1000000) (h : R (.str (x ++ y))) : RD K (rAddA K) (.str x) (.str y) R := fun G H v w e d1 d2 Q q => by
  cases d1; cases d2
  exact .inr (.inl ⟨x, y, rfl, rfl, sz_of hl, q _ (.str (x ++ y)) G H (Go.refl e) rfl h⟩)
theorem rd_add_l {l m : List Dt} (hl : l.length + m.length ≤ 1000000) (h : R (.lst (l ++ m))) : RD K (rAddA K) (.lst l) (.lst m) R := fun G H v w e d1 d2 Q q => by
  obtain ⟨a, xs, rfl, h1, h2⟩ := d1
  obtain ⟨b, ys, rfl, h3, h4⟩ := d2
  exact .inr (.inr (.inl ⟨a, b, xs, ys, rfl, rfl, e _ _ h1, e _ _ h3, by rw [h2.len, h4.len]; exact sz_of hl, fun p hp => q _ (.lst (l ++ m)) _ _ (Go.new e hp) (dat_newL (h2.app h4) (e.free hp)) h⟩))
theorem rd_add_t {l m : List Dt} (hl : l.length + m.length ≤ 1000000) (h : R (.tup (l ++ m))) : RD K (rAddA K) (.tup l) (.tup m) R := fun G H v w e d1 d2 Q q => by
  obtain ⟨a, xs, rfl, h1, h2⟩ := d1
  obtain ⟨b, ys, rfl, h3, h4⟩ := d2
  have l1 := h2.len
  have l2 := h4.len
  refine .inr (.inr (.inr ⟨a, b, xs, ys, rfl, rfl, Ex.tup e h1, Ex.tup e h3, by rw [l1, l2]; exact sz_of hl, fun z => ?_, fun _ z => ?_, fun _ _ p hp => q _ (.tup (l ++ m)) _ _ (Go.new e hp) (dat_newT (h2.app h4) (e.free hp)) h⟩))
  · subst z
    have z : l = [] := List.length_eq_zero_iff.mp (by rw [← l1]; rfl)
    subst z
    exact q _ (.tup m) G H (Go.refl e) ⟨b, ys, rfl, h3, h4⟩ h
  · subst z
    have z : m = [] := List.length_eq_zero_iff.mp (by rw [← l2]; rfl)
    subst z
    rw [List.append_nil] at h
    exact q _ (.tup l) G H (Go.refl e) ⟨a, xs, rfl, h1, h2⟩ h
theorem rd_I0i {g : Int → Int → Int} (h : R (.int (g i j))) : RD K (rI0 fun i j => .int (g i j)) (.int i) (.int j) R := fun G H v w e d1 d2 Q q => by
  cases d1; cases d2
  exact ⟨i, j, rfl, rfl, q _ (.int (g i j)) G H (Go.refl e) rfl h⟩
theorem rd_I0b {g : Int → Int → Bool} (h : R (.bl (g i j))) : RD K (rI0 fun i j => .bl (g i j)) (.int i) (.int j) R := fun G H v w e d1 d2 Q q => by
  cases d1; cases d2
  exact ⟨i, j, rfl, rfl, q _ (.bl (g i j)) G H (Go.refl e) rfl h⟩
theorem rd_I {g : Int → Int → Int} {C : Int → Int → Prop} (hc : C i j) (h : R (.int (g i j))) : RD K (rI C fun i j => .int (g i j)) (.int i) (.int j) R := fun G H v w e d1 d2 Q q => by
  cases d1; cases d2
  exact ⟨i, j, rfl, rfl, hc, q _ (.int (g i j)) G H (Go.refl e) rfl h⟩
theorem rd_mul_i (hc : CMul i j) (h : R (.int (i * j))) : RD K (rMulA K) (.int i) (.int j) R := fun G H v w e d1 d2 Q q => by
  cases d1; cases d2
  exact .inl ⟨i, j, rfl, rfl, hc, q _ (.int (i * j)) G H (Go.refl e) rfl h⟩
theorem Dats.rep {G : Hp} {l : List Dt} {xs : List V} (d : Dats K G l xs) : ∀ n : Nat, Dats K G (List.replicate n l).flatten (List.replicate n xs).flatten
  | 0 => rfl
  | n + 1 => by
    rw [List.replicate_succ, List.replicate_succ, List.flatten_cons, List.flatten_cons]
    exact d.app (Dats.rep d n)
theorem rd_mul_l {l : List Dt} (h0 : 0 ≤ j) (hj : j ≤ 1000) (hl : l.length ≤ 1000) (h : R (.lst (List.replicate j.toNat l).flatten)) : RD K (rMulA K) (.lst l) (.int j) R := fun G H v w e d1 d2 Q q => by
  obtain ⟨a, xs, rfl, h1, h2⟩ := d1
  cases d2
  have hz : l.length * j.toNat ≤ 1000 * 1000 := Nat.mul_le_mul hl (by omega)
  exact .inr (.inr (.inl ⟨a, j, xs, rfl, rfl, e _ _ h1, by omega, by omega, by rw [h2.len]; exact sz_of hz, fun p hp => q _ (.lst _) _ _ (Go.new e hp) (dat_newL (h2.rep j.toNat) (e.free hp)) h⟩))
theorem rd_mul_s (hok : PySem.MulOk x j) (h : R (.str (Txt.mul x j))) : RD K (rMulA K) (.str x) (.int j) R := fun G H v w e d1 d2 Q q => by
  cases d1; cases d2
  exact .inr (.inr (.inr (.inr ⟨x, j, rfl, rfl, hok, q _ (.str _) G H (Go.refl e) rfl h⟩)))
/-- what is read as data of the library's own kind -/
def toPy : Dt → Option PyData
  | .non => some .none
  | .bl b => some (.bool b)
  | .int i => some (.int i)
  | .str x => some (.str x)
  | .lst l => (toPys l).map .list
  | .sq l => (toPys l).map .list
  | .tup l => (toPys l).map .tuple
  | _ => none
where toPys : List Dt → Option (List PyData)
  | [] => some []
  | d :: l => match toPy d, toPys l with
    | some p, some q => some (p :: q)
    | _, _ => none
mutual
theorem dp_of {G : Hp} : ∀ {d : Dt} {p : PyData} {v : V}, Dat K G d v → toPy d = some p → Dp K G v p
  | .non, _, _, h, e => by cases h; cases e; exact .non
  | .bl _, _, _, h, e => by cases h; cases e; exact .bl _
  | .int _, _, _, h, e => by cases h; cases e; exact .int _
  | .str _, _, _, h, e => by cases h; cases e; exact .str _
  | .lst l, _, _, ⟨a, xs, h1, h2, h3⟩, e => by
    subst h1
    unfold toPy at e
    cases q : toPy.toPys l with
    | none => rw [q] at e; cases e
    | some ps => rw [q] at e; cases e; exact .lst (.inl (.inl h2)) (dps_of h3 q)
  | .sq l, _, _, ⟨a, xs, h1, h2, h3⟩, e => by
    subst h1
    unfold toPy at e
    cases q : toPy.toPys l with
    | none => rw [q] at e; cases e
    | some ps => rw [q] at e; cases e; exact .lst h2 (dps_of h3 q)
  | .tup l, _, _, ⟨a, xs, h1, h2, h3⟩, e => by
    subst h1
    unfold toPy at e
    cases q : toPy.toPys l with
    | none => rw [q] at e; cases e
    | some ps => rw [q] at e; cases e; exact .tup h2 (dps_of h3 q)
  | .ty _, _, _, _, e => by cases e
  | .dic _, _, _, _, e => by cases e
  | .ins _ _, _, _, _, e => by cases e
  | .ext _, _, _, _, e => by cases e
  | .obj _, _, _, _, e => by cases e
  | .exc _ _ _ _, _, _, _, e => by cases e
  | .xv _ _, _, _, _, e => by cases e
theorem dps_of {G : Hp} : ∀ {l : List Dt} {ps : List PyData} {xs : List V}, Dats K G l xs → toPy.toPys l = some ps → DpAll K G xs ps
  | [], _, _, h, e => by cases h; cases e; exact .nil
  | d :: l, _, _, ⟨x, r, h1, h2, h3⟩, e => by
    subst h1
    unfold toPy.toPys at e
    cases q1 : toPy d with
    | none => rw [q1] at e; cases e
    | some p =>
      cases q2 : toPy.toPys l with
      | none => rw [q1, q2] at e; cases e
      | some ps => rw [q1, q2] at e; cases e; exact .cons (dp_of h2 q1) (dps_of h3 q2)
end
theorem Dp.up {G H : Hp} {v : V} {p : PyData} (e : Ex G H) {d : Dt} (h : Dat K G d v) (q : toPy d = some p) : Dp K H v p := dp_of (h.up e) q
theorem rd_eq_d {x y : Dt} {p q : PyData} (hx : toPy x = some p) (hy : toPy y = some q) (sp : SeqAt.shaped p = true) (sq : SeqAt.shaped q = true) (h : R (.bl (PyData.eqv p q))) : RD K (rEqA K) x y R := fun G H v w e d1 d2 Q k =>
  .inr ⟨p, q, Dp.up e d1 hx, Dp.up e d2 hy, sp, sq, k _ (.bl _) G H (Go.refl e) rfl h⟩
theorem rd_ne_d {x y : Dt} {p q : PyData} (hx : toPy x = some p) (hy : toPy y = some q) (sp : SeqAt.shaped p = true) (sq : SeqAt.shaped q = true) (h : R (.bl (!PyData.eqv p q))) : RD K (rNeA K) x y R := fun G H v w e d1 d2 Q k =>
  .inr ⟨p, q, Dp.up e d1 hx, Dp.up e d2 hy, sp, sq, k _ (.bl _) G H (Go.refl e) rfl h⟩
theorem rd_ne_s (h : R (.bl (!decide (x = y)))) : RD K (rNeA K) (.str x) (.str y) R := fun G H v w e d1 d2 Q k => by
  cases d1; cases d2
  refine .inl ⟨rfl, k _ (.bl _) G H (Go.refl e) rfl ?_⟩
  have z : decide ((V.str x) = V.str y) = decide (x = y) := by simp
  rw [z]; exact h
theorem rd_eq_s (h : R (.bl (decide (x = y)))) : RD K (rEqA K) (.str x) (.str y) R := fun G H v w e d1 d2 Q k => by
  cases d1; cases d2
  refine .inl ⟨rfl, k _ (.bl _) G H (Go.refl e) rfl ?_⟩
  have z : decide ((V.str x) = V.str y) = decide (x = y) := by simp
  rw [z]; exact h
theorem rd_eq_i (h : R (.bl (decide (i = j)))) : RD K (rEqA K) (.int i) (.int j) R := fun G H v w e d1 d2 Q k => by
  cases d1; cases d2
  refine .inl ⟨rfl, k _ (.bl _) G H (Go.refl e) rfl ?_⟩
  have z : decide ((V.int i) = V.int j) = decide (i = j) := by simp
  rw [z]; exact h
theorem rd_ne_i (h : R (.bl (!decide (i = j)))) : RD K (rNeA K) (.int i) (.int j) R := fun G H v w e d1 d2 Q k => by
  cases d1; cases d2
  refine .inl ⟨rfl, k _ (.bl _) G H (Go.refl e) rfl ?_⟩
  have z : decide ((V.int i) = V.int j) = decide (i = j) := by simp
  rw [z]; exact h
theorem rd_notB {a b : Bool} (h : R (.bl (!decide (a = b)))) : RD K rNotA (.bl a) (.bl b) R := fun G H v w e d1 d2 Q k => by
  cases d1; cases d2
  exact .inr ⟨a, b, rfl, rfl, k _ (.bl _) G H (Go.refl e) rfl h⟩
theorem rd_isB {a b : Bool} (h : R (.bl (decide (a = b)))) : RD K rIsA (.bl a) (.bl b) R := fun G H v w e d1 d2 Q k => by
  cases d1; cases d2
  exact .inr ⟨a, b, rfl, rfl, k _ (.bl _) G H (Go.refl e) rfl h⟩
def isN : Dt → Bool
  | .non => true
  | _ => false
theorem dat_non {G : Hp} {d : Dt} {v : V} (h : Dat K G d v) : decide (v = .non) = isN d := by
  cases d with
  | non => cases h; rfl
  | bl _ => cases h; rfl
  | int _ => cases h; rfl
  | str _ => cases h; rfl
  | ty _ => cases h; rfl
  | obj _ => cases h; rfl
  | lst _ => obtain ⟨_, _, rfl, _⟩ := h; rfl
  | sq _ => obtain ⟨_, _, rfl, _⟩ := h; rfl
  | tup _ => obtain ⟨_, _, rfl, _⟩ := h; rfl
  | dic _ => obtain ⟨_, _, rfl, _⟩ := h; rfl
  | ins _ _ => obtain ⟨_, _, _, rfl, _⟩ := h; rfl
  | ext _ => obtain ⟨_, rfl, _⟩ := h; rfl
  | exc _ _ _ _ => obtain ⟨rfl, _⟩ := h; rfl
  | xv _ _ => obtain ⟨_, rfl, _⟩ := h; rfl
theorem rd_isN {x : Dt} (h : R (.bl (isN x))) : RD K rIsA x .non R := fun G H v w e d1 d2 Q k => by
  cases d2
  rw [← dat_non d1] at h
  exact .inl ⟨rfl, k _ (.bl _) G H (Go.refl e) rfl h⟩
theorem rd_notN {x : Dt} (h : R (.bl (!isN x))) : RD K rNotA x .non R := fun G H v w e d1 d2 Q k => by
  cases d2
  rw [← dat_non d1] at h
  exact .inl ⟨rfl, k _ (.bl _) G H (Go.refl e) rfl h⟩
theorem rd_in_sign {c : Nat} {z : Str} (h : R (.bl (decide (c ∈ z.cps.toList)))) : RD K (rInA K) (.str ⟨#[c]⟩) (.str z) R := fun G H v w e d1 d2 Q k => by
  cases d1; cases d2
  exact .inl ⟨c, z, rfl, rfl, k _ (.bl _) G H (Go.refl e) rfl h⟩
theorem ud_neg (h : R (.int (-i))) : UD K (rU fun i => .int (-i)) (.int i) R := fun G H v e d Q k => by
  cases d
  exact ⟨i, rfl, k _ (.int _) G H (Go.refl e) rfl h⟩
/-! calls -/
theorem cd_len_s (hl : x.length ≤ 1000000) (h : R (.int x.length)) : CD K (rLenA K) [.str x] R := fun G H vs e d Q k => by
  obtain ⟨v, r, rfl, d1, d2⟩ := d
  cases d1; cases d2
  exact .inl ⟨_, _, rfl, ⟨sz_of hl, rfl⟩, k _ (.int _) G H (Go.refl e) rfl h⟩
theorem cd_len_l {l : List Dt} (h : R (.int l.length)) : CD K (rLenA K) [.lst l] R := fun G H vs e d Q k => by
  obtain ⟨v, r, rfl, ⟨a, xs, rfl, h1, h2⟩, d2⟩ := d
  cases d2
  rw [← h2.len] at h
  exact .inl ⟨_, _, rfl, .inl ⟨xs, .inl (.inl (e _ _ h1)), rfl⟩, k _ (.int _) G H (Go.refl e) rfl h⟩
theorem cd_len_sq {l : List Dt} (h : R (.int l.length)) : CD K (rLenA K) [.sq l] R := fun G H vs e d Q k => by
  obtain ⟨v, r, rfl, ⟨a, xs, rfl, h1, h2⟩, d2⟩ := d
  cases d2
  rw [← h2.len] at h
  exact .inl ⟨_, _, rfl, .inl ⟨xs, e.seq h1, rfl⟩, k _ (.int _) G H (Go.refl e) rfl h⟩
theorem cd_len_t {l : List Dt} (h : R (.int l.length)) : CD K (rLenA K) [.tup l] R := fun G H vs e d Q k => by
  obtain ⟨v, r, rfl, ⟨a, xs, rfl, h1, h2⟩, d2⟩ := d
  cases d2
  rw [← h2.len] at h
  exact .inl ⟨_, _, rfl, .inr ⟨xs, Ex.tup e h1, rfl⟩, k _ (.int _) G H (Go.refl e) rfl h⟩
abbrev rInt1 : List V → Hp → VK → Prop := fun xs H Q => (∃ i, xs = [.int i] ∧ Q (.int i) H) ∨ ∃ k, xs = [.bl k] ∧ Q (.int (if k then 1 else 0)) H
abbrev rAbs : List V → Hp → VK → Prop := fun xs H Q => ∃ i, xs = [.int i] ∧ Q (.int (if i < 0 then -i else i)) H
abbrev rMax2 : List V → Hp → VK → Prop := fun xs H Q => ∃ i j, xs = [.int i, .int j] ∧ Q (.int (if j > i then j else i)) H
abbrev rMin2 : List V → Hp → VK → Prop := fun xs H Q => ∃ i j, xs = [.int i, .int j] ∧ Q (.int (if j < i then j else i)) H
theorem cd_int_i (h : R (.int i)) : CD K rInt1 [.int i] R := fun G H vs e d Q k => by
  obtain ⟨v, r, rfl, d1, d2⟩ := d
  cases d1; cases d2
  exact .inl ⟨i, rfl, k _ (.int _) G H (Go.refl e) rfl h⟩
theorem cd_int_b {b : Bool} (h : R (.int (if b then 1 else 0))) : CD K rInt1 [.bl b] R := fun G H vs e d Q k => by
  obtain ⟨v, r, rfl, d1, d2⟩ := d
  cases d1; cases d2
  exact .inr ⟨b, rfl, k _ (.int _) G H (Go.refl e) rfl h⟩
theorem cd_abs (h : R (.int (if i < 0 then -i else i))) : CD K rAbs [.int i] R := fun G H vs e d Q k => by
  obtain ⟨v, r, rfl, d1, d2⟩ := d
  cases d1; cases d2
  exact ⟨i, rfl, k _ (.int _) G H (Go.refl e) rfl h⟩
theorem cd_max (h : R (.int (if j > i then j else i))) : CD K rMax2 [.int i, .int j] R := fun G H vs e d Q k => by
  obtain ⟨v, r, rfl, d1, v2, r2, rfl, d2, d3⟩ := d
  cases d1; cases d2; cases d3
  exact ⟨i, j, rfl, k _ (.int _) G H (Go.refl e) rfl h⟩
theorem cd_min (h : R (.int (if j < i then j else i))) : CD K rMin2 [.int i, .int j] R := fun G H vs e d Q k => by
  obtain ⟨v, r, rfl, d1, v2, r2, rfl, d2, d3⟩ := d
  cases d1; cases d2; cases d3
  exact ⟨i, j, rfl, k _ (.int _) G H (Go.refl e) rfl h⟩
theorem dats_bl {G : Hp} : ∀ {bs : List Bool} {xs : List V}, Dats K G (bs.map .bl) xs → xs = bs.map V.bl
  | [], _, h => h
  | _ :: _, _, ⟨x, r, h1, h2, h3⟩ => by cases h2; rw [h1, dats_bl h3]; rfl
theorem cd_all {bs : List Bool} (h : R (.bl (bs.all id))) : CD K (rAll K) [.lst (bs.map .bl)] R := fun G H vs e d Q k => by
  obtain ⟨v, r, rfl, ⟨a, xs, rfl, h1, h2⟩, d2⟩ := d
  cases d2
  rw [dats_bl h2] at h1
  exact ⟨a, bs, rfl, .inl (.inl (e _ _ h1)), k _ (.bl _) G H (Go.refl e) rfl h⟩
theorem cd_str_i (hl : i.natAbs.log2 < 1920) (h : R (.str (toString i))) : CD K rStrA [.int i] R := fun G H vs e d Q k => by
  obtain ⟨v, r, rfl, d1, d2⟩ := d
  cases d1; cases d2
  exact .inl ⟨i, rfl, hl, k _ (.str _) G H (Go.refl e) rfl h⟩
theorem cd_str_s (h : R (.str x)) : CD K rStrA [.str x] R := fun G H vs e d Q k => by
  obtain ⟨v, r, rfl, d1, d2⟩ := d
  cases d1; cases d2
  exact .inr ⟨x, rfl, k _ (.str _) G H (Go.refl e) rfl h⟩
theorem cd_repr_b {b : Bool} (h : R (.str (if b then "True" else "False"))) : CD K rRepr1 [.bl b] R := fun G H vs e d Q k => by
  obtain ⟨v, r, rfl, d1, d2⟩ := d
  cases d1; cases d2
  exact .inr ⟨b, rfl, k _ (.str _) G H (Go.refl e) rfl h⟩
/-! isinstance -/
def tyD : Dt → Option String
  | .non => some "NoneType"
  | .bl _ => some "bool"
  | .int _ => some "int"
  | .str _ => some "str"
  | .lst _ => some "list"
  | .tup _ => some "tuple"
  | .dic _ => some "dict"
  | _ => none
theorem tyx_of {G : Hp} {d : Dt} {v : V} {T : String} (h : Dat K G d v) (e : tyD d = some T) : TyX K G v (.type T) := by
  cases d with
  | non => cases h; cases e; exact .base .non
  | bl _ => cases h; cases e; exact .base (.bl _)
  | int _ => cases h; cases e; exact .base (.int _)
  | str _ => cases h; cases e; exact .base (.str _)
  | lst _ => obtain ⟨_, _, rfl, h, _⟩ := h; cases e; exact .base (.lst h)
  | tup _ =>
    obtain ⟨_, _, rfl, h, _⟩ := h
    cases e
    rcases h with (h | ⟨o, h⟩) | ⟨o, _, _, h, c, _⟩
    · exact .base (.tup h)
    · exact .fTuple h
    · exact .kTuple h c
  | dic _ => obtain ⟨_, _, rfl, h, _⟩ := h; cases e; exact .base (.dK h)
  | _ => cases e
theorem cd_isi {d : Dt} {T n : String} {b : Bool} (ht : tyD d = some T) (hk : kitB T n = some b) (h : R (.bl b)) : CD K (rIsi K) [d, .ty n] R := fun G H vs e dd Q k => by
  obtain ⟨v, r, rfl, d1, v2, r2, rfl, d2, d3⟩ := dd
  cases d2; cases d3
  exact ⟨v, .ty n, .type T, .type n, b, rfl, .ty n, tyx_of (d1.up e) ht, kit_ty hk, k _ (.bl _) G H (Go.refl e) rfl h⟩
/-! items, slices -/
theorem atI_map {α β : Type} {l : List α} {m : List β} (h : l.length = m.length) {i : Int} {b : β} (e : atI m i = some b) : ∃ (j : Nat) (a : α), atI l i = some a ∧ l[j]? = some a ∧ m[j]? = some b := by
  unfold atI at e ⊢
  rw [h]
  cases q : ixN m.length i with
  | none => rw [q] at e; cases e
  | some j =>
    rw [q] at e
    have e' : m[j]? = some b := e
    have hj : j < m.length := (List.getElem?_eq_some_iff.mp e').1
    exact ⟨j, l[j]'(by omega), by simp [h, hj], by simp [h, hj], e'⟩
theorem rd_ix_l {l : List Dt} {d : Dt} (ha : atI l i = some d) (h : R d) : RD K (rIx K) (.lst l) (.int i) R := fun G H v w e d1 d2 Q k => by
  obtain ⟨a, xs, rfl, h1, h2⟩ := d1
  cases d2
  obtain ⟨j, z, z1, z2, z3⟩ := atI_map h2.len ha
  obtain ⟨y, y1, y2⟩ := h2.get z3
  rw [z2] at y1; cases y1
  exact .inl ⟨a, xs, i, z, rfl, rfl, .inl (.inl (e _ _ h1)), z1, k z d G H (Go.refl e) y2 h⟩
theorem rd_ix_sq {l : List Dt} {d : Dt} (ha : atI l i = some d) (h : R d) : RD K (rIx K) (.sq l) (.int i) R := fun G H v w e d1 d2 Q k => by
  obtain ⟨a, xs, rfl, h1, h2⟩ := d1
  cases d2
  obtain ⟨j, z, z1, z2, z3⟩ := atI_map h2.len ha
  obtain ⟨y, y1, y2⟩ := h2.get z3
  rw [z2] at y1; cases y1
  exact .inl ⟨a, xs, i, z, rfl, rfl, e.seq h1, z1, k z d G H (Go.refl e) y2 h⟩
theorem rd_ix_t {l : List Dt} {d : Dt} (ha : atI l i = some d) (h : R d) : RD K (rIx K) (.tup l) (.int i) R := fun G H v w e d1 d2 Q k => by
  obtain ⟨a, xs, rfl, h1, h2⟩ := d1
  cases d2
  obtain ⟨j, z, z1, z2, z3⟩ := atI_map h2.len ha
  obtain ⟨y, y1, y2⟩ := h2.get z3
  rw [z2] at y1; cases y1
  exact .inr (.inl ⟨a, xs, i, z, rfl, rfl, Ex.tup e h1, z1, k z d G H (Go.refl e) y2 h⟩)
theorem rd_ix_s {c : Nat} (hl : x.length ≤ 1000000) (ha : atI x.cps.toList i = some c) (h : R (.str ⟨#[c]⟩)) : RD K (rIx K) (.str x) (.int i) R := fun G H v w e d1 d2 Q k => by
  cases d1; cases d2
  exact .inr (.inr ⟨x, i, c, rfl, rfl, sz_of hl, ha, k _ (.str _) G H (Go.refl e) rfl h⟩)
theorem sd_sl_s {lo hi : Option Int} (hl : x.length ≤ 1000000) (h : R (.str (cutS x lo hi))) : SD K rSlS (.str x) lo hi R := fun G H v e d Q k => by
  cases d
  exact ⟨x, rfl, sz_of hl, k _ (.str _) G H (Go.refl e) rfl h⟩
/-! join -/
theorem dats_str {G : Hp} : ∀ {bs : List Str} {xs : List V}, Dats K G (bs.map .str) xs → xs = bs.map V.str
  | [], _, h => h
  | _ :: _, _, ⟨x, r, h1, h2, h3⟩ => by cases h2; rw [h1, dats_str h3]; rfl
abbrev rJoin (K : PySem.W.Frag) : V → List V → Hp → VK → Prop := fun x xs H Q => ∃ a p, ∃ ys : List Str, x = .str a ∧ xs = [.ref p] ∧ (SqL K H p (ys.map V.str) ∨ SqT K H p (ys.map V.str)) ∧
    (ys.map (·.length)).sum + ys.length * a.length ≤ 16777216 ∧ Q (.str (Txt.join a ys)) H
theorem ty_s {G H : Hp} {v : V} (_ : Ex G H) (d : Dat K G (.str x) v) : tyV K "str" v H := by cases d; rfl
theorem md_join_l {ys : List Str} (hz : (ys.map (·.length)).sum + ys.length * x.length ≤ 16777216) (h : R (.str (Txt.join x ys))) : MD K "str" (rJoin K) (.str x) [.lst (ys.map .str)] R := fun G H v vs e d1 d2 Q k => by
  obtain ⟨v, r, rfl, ⟨a, xs, rfl, h1, h2⟩, d3⟩ := d2
  cases d1; cases d3
  rw [dats_str h2] at h1
  exact ⟨x, a, ys, rfl, rfl, .inl (.inl (.inl (e _ _ h1))), hz, k _ (.str _) G H (Go.refl e) rfl h⟩
end
end Nv

set_option Elab.async false
set_option linter.all false
set_option maxRecDepth 100000
set_option maxHeartbeats 4000000
namespace Nv
open PySem PySem.Spec PyProof.Rows L2
/-! ### dice: a list of three ints, hidden: a roll leaves what is known of the heap as it was -/
def DiceH : Addr → Heap → Prop := fun a h => ∃ (x y z : Int) (its : List Value) (n : Nat), Vals [.int x, .int y, .int z] its ∧ h.get? a = some { cls := .type "list", data := .seq its.toArray n }
abbrev dice : Dt := .ext DiceH
/-- the def's own promise, with the list in sight -/
def spRoll0 : Sp := fun vs H Q _ => ∃ (d : Addr) (n x y z : Int), vs = [.ref d, .int n] ∧ H d = some (.lst [.int x, .int y, .int z]) ∧ 0 < n ∧ n < 2 ^ 64 ∧
  ∀ r x' y' z', 0 ≤ r → r < n → Q (.int r) (upd H d (.lst [.int x', .int y', .int z']))
def PreRoll : List Dt → (Dt → Prop) → Prop := fun ds R => ∃ n, ds = [dice, .int n] ∧ 0 < n ∧ n < 2 ^ 64 ∧ ∀ r, 0 ≤ r → r < n → R (.int r)
def spDice0 (K : PySem.W.Frag) : Sp := fun vs H Q _ => ∃ (a : Addr) (ns : List Int) (i : Nat), vs = [.ref a, .int i] ∧ SqL K H a (ns.map V.int) ∧
  ∀ p x y z H', Ex H H' → H p = none → H' p = some (.lst [.int x, .int y, .int z]) → Q (.ref p) H'
def PreDice : List Dt → (Dt → Prop) → Prop := fun ds R => ∃ (ns : List Int) (i : Nat), ds = [.sq (ns.map .int), .int i] ∧ R dice
section
variable {P : Program} {w : World} {K : PySem.W.Frag} {mg : Str → Option Value} {base : Heap}
theorem ok_ext {H' : Hp} {h : Heap} {a : Addr} {x y z : Int} (ok : ObjOk P w H' h a (.lst [.int x, .int y, .int z])) : ∀ H : Hp, ObjOk P w H h a (.ext (DiceH a)) := fun H => by
  obtain ⟨_, its, n, r, e⟩ := ok
  exact ⟨⟨x, y, z, its, n, r, e⟩, ⟨_, e⟩, fun h1 h2 ⟨x, y, z, its, n, r, e⟩ k => ⟨x, y, z, its, n, r, k _ e⟩⟩
/-- other objects do not ask how a list or a hidden thing is told -/
theorem ok_turn {H H' : Hp} {h : Heap} {a b : Addr} {u o : HO} (ok : ObjOk P w H h b u) (ha : H a = some o) (h1 : ∀ c, o ≠ .own c) (h2 : ∀ xs, o ≠ .tup xs) (hb : ∀ c, c ≠ a → H' c = H c) : ObjOk P w H' h b u := by
  refine ok.stay (fun _ _ _ q => q) (fun c q => ?_) fun c xs q => ?_
  · rw [hb c (fun z => by subst z; rw [ha] at q; exact h1 b (Option.some.inj q))]; exact q
  · rw [hb c (fun z => by subst z; rw [ha] at q; exact h2 xs (Option.some.inj q))]; exact q
theorem roll_hide {k : Nat} {f : Addr} {fd : FuncData} {ps : List Str} (F : FnOk P w K mg base CX0 k f fd ps spRoll0) : FnOk P w K mg base CX0 k f fd ps (spD K PreRoll) := by
  refine ⟨fun vs H Q E h => ?_, fun A outer s H args us vs Q E hr e0 hb hv h => ?_⟩
  · obtain ⟨G, ds, R, e, d, ⟨n, rfl, h0, h1, hR⟩, q⟩ := h
    obtain ⟨v, r, rfl, ⟨a, rfl, ha⟩, v2, r2, rfl, d2, d3⟩ := d
    cases d2; cases d3
    exact F.len _ (upd H a (.lst [.int 0, .int 0, .int 0])) (fun _ _ => True) E ⟨a, n, 0, 0, 0, rfl, upd_same, h0, h1, fun _ _ _ _ _ _ => trivial⟩
  · obtain ⟨G, ds, R, e, d, ⟨n, rfl, h0, h1, hR⟩, q⟩ := h
    obtain ⟨v, r, rfl, ⟨a, rfl, ha⟩, v2, r2, rfl, d2, d3⟩ := d
    cases d2; cases d3
    have hH : H a = some (.ext (DiceH a)) := e _ _ ha
    obtain ⟨⟨x, y, z, its, m, rv, eo⟩, _, _⟩ := e0.hok a _ hH
    have e1 : Env0 P w K mg base A outer s (upd H a (.lst [.int x, .int y, .int z])) := by
      refine ⟨e0.frames, e0.mod, fun b o hb => ⟨(e0.bs b o hb).1, ?_⟩, e0.bsz, e0.funs, fun b hb => ?_, fun b u hb => ?_, e0.bare⟩
      · rw [upd_ne (fun z => by subst z; rw [(e0.bs _ o hb).2] at hH; cases hH)]; exact (e0.bs b o hb).2
      · rw [upd_ne (fun z => by subst z; rw [e0.frf _ hb] at hH; cases hH)]; exact e0.frf b hb
      · by_cases c : b = a
        · subst c
          rw [upd_same] at hb
          cases hb
          exact ⟨by show 3 ≤ sizeLine; decide, its, m, rv, eo⟩
        · rw [upd_ne c] at hb
          exact ok_turn (e0.hok b u hb) hH (fun _ z => nomatch z) (fun _ z => nomatch z) fun c' hc => upd_ne hc
    refine codeAny_mono (F.run A outer s _ args us _ (fun v H' => ∃ r x' y' z', v = .int r ∧ 0 ≤ r ∧ r < n ∧ H' = upd H a (.lst [.int x', .int y', .int z'])) E hr e1 hb hv
      ⟨a, n, x, y, z, rfl, upd_same, h0, h1, fun r x' y' z' hr0 hr1 => ⟨r, x', y', z', rfl, hr0, hr1, upd_upd⟩⟩) fun r s' hq => ?_
    cases r with
    | error _ => exact hq
    | ok fl =>
      cases fl with
      | next => exact hq
      | brk => exact hq
      | cont => exact hq
      | ret u =>
        obtain ⟨v, H', os, bare, un, hok, rl, r, x', y', z', rfl, hr0, hr1, rfl⟩ := hq
        have ne : ∀ {b}, H b = none → b ≠ a := fun {b} q z => by rw [z, hH] at q; cases q
        refine ⟨.int r, H, os, bare, ⟨fun b o q n1 n2 n3 => un.keep b o q (by rw [upd_ne (ne n1)]; exact n1) n2 n3, fun b o q n1 n2 n3 => un.slot b o q (by rw [upd_ne (ne n1)]; exact n1) n2 n3,
          fun b o q n1 n2 => n1, un.there, fun b xs q => q, fun b o u q => q, fun b ps q => ⟨#[], by rw [q]; simp⟩⟩, fun b u hb => ?_, rl, q _ (.int r) G H (Go.refl e) rfl (hR r hr0 hr1)⟩
        by_cases c : b = a
        · subst c
          rw [hH] at hb
          cases hb
          exact ok_ext (hok b _ upd_same) H
        · exact ok_turn (hok b u (by rw [upd_ne c]; exact hb)) (a := a) upd_same (fun _ z => nomatch z) (fun _ z => nomatch z) fun c' hc => (upd_ne hc).symm
theorem dice_hide {k : Nat} {f : Addr} {fd : FuncData} {ps : List Str} (F : FnOk P w K mg base CX0 k f fd ps (spDice0 K)) : FnOk P w K mg base CX0 k f fd ps (spD K PreDice) := by
  have itsOf : ∀ {G : Hp} {ns : List Int} {xs : List V}, Dats K G (ns.map .int) xs → xs = ns.map V.int := fun {G} {ns} => by
    induction ns with
    | nil => intro xs h; exact h
    | cons n ns ih => rintro xs ⟨x, r, h1, h2, h3⟩; cases h2; rw [h1, ih h3]; rfl
  have pre : ∀ {vs H Q E}, spD K PreDice vs H Q E → spDice0 K vs H (fun v H' => ∃ p, v = .ref p ∧ Ex H H' ∧ H p = none ∧ (∃ x y z, H' p = some (.lst [.int x, .int y, .int z])) ∧ Q (.ref p) (upd H' p (.ext (DiceH p)))) E := fun {vs H Q E} h => by
    obtain ⟨G, ds, R, e, d, ⟨ns, i, rfl, hR⟩, q⟩ := h
    obtain ⟨v, r, rfl, ⟨a, xs, rfl, ha, hd⟩, v2, r2, rfl, d2, d3⟩ := d
    cases d2; cases d3
    refine ⟨a, ns, i, rfl, by rw [← itsOf hd]; exact e.seq ha, fun p x y z H' e' hp hl => ⟨p, rfl, e', hp, ⟨x, y, z, hl⟩, q _ dice (upd G p (.ext (DiceH p))) _ ⟨Ex.new (e.free hp), fun b h1 h2 => ?_, upd_mono (e.trans e') p _, fun b o z => ?_⟩ ⟨p, rfl, upd_same⟩ hR⟩⟩
    · rw [upd_ne (fun c => h2 (by rw [c]; exact hp))]; exact h1
    · rw [upd_ne (ne_of_none z hp)]; exact e' b o z
  refine ⟨fun vs H Q E h => F.len _ _ _ _ (pre h), fun A outer s H args us vs Q E hr e0 hb hv h => ?_⟩
  refine codeAny_mono (F.run A outer s H args us vs _ E hr e0 hb hv (pre h)) fun r s' hq => ?_
  cases r with
  | error _ => exact hq
  | ok fl =>
    cases fl with
    | next => exact hq
    | brk => exact hq
    | cont => exact hq
    | ret u =>
      obtain ⟨v, H', os, bare, un, hok, rl, p, rfl, e', hp, ⟨x, y, z, hl⟩, q⟩ := hq
      have np : ∀ {b}, H' b = none → b ≠ p := fun {b} q z => by rw [z, hl] at q; cases q
      refine ⟨.ref p, _, os, bare, ⟨un.keep, un.slot, fun b o q1 n1 n2 => ?_, un.there, fun b xs q => ?_, fun b o u q => ?_, fun b ps q => ?_⟩, fun b u hb => ?_, rl, q⟩
      · have := un.free b o q1 n1 n2
        rw [upd_ne (np this)]; exact this
      · rw [upd_ne (ne_of_none q hp)]; exact un.tups b xs q
      · rw [upd_ne (ne_of_none q hp)]; exact un.frzs b o u q
      · rw [upd_ne (ne_of_none q hp)]; exact un.tbls b ps q
      · by_cases c : b = p
        · subst c
          rw [upd_same] at hb
          cases hb
          exact ok_ext (hok b _ hl) _
        · rw [upd_ne c] at hb
          exact ok_turn (hok b u hb) (a := p) hl (fun _ z => nomatch z) (fun _ z => nomatch z) fun c' hc => by rw [upd_ne hc]
end
section
variable {K : PySem.W.Frag}
theorem st_asg_raw {te : TE} {i : Nat} {ss : List Sd} {R : Dt → Prop} {D : Ends} {σ : L2.St} {G H : Hp} {u : TS} (h : EvD K te ss R) (e : Ex G H) (sv : Sv K G σ ss)
    (k : ∀ v d G' H', Go G H G' H' → Dat K G' d v → R d → u D (σ.set i (some v)) H') : tSeq (tAsg te (gName i)) u D σ H := h G σ H e sv _ fun v d G' H' g dv hr => k v d G' H' g dv hr
theorem ret_new_raw {ta : TA} {ss : List Sd} {R : List Dt → Prop} {D : Ends} {σ : L2.St} {G H : Hp} (h : EvA K ta ss R) (e : Ex G H) (sv : Sv K G σ ss)
    (k : ∀ vs ds G' H', Go G H G' H' → Dats K G' ds vs → R ds → vs.length ≤ 1000 ∧ ∀ p, H' p = none → D.rt (.ref p) (upd H' p (.lst vs))) : tRet (tLst ta) D σ H := h G σ H e sv _ fun vs ds G' H' g dv hr => let ⟨k1, k2⟩ := k vs ds G' H' g dv hr; ⟨sz_of (by omega), k2⟩
theorem modb {e m : Int} (h : 0 < m) (h2 : m < 2 ^ 64) : -(2 ^ 64) < e % m ∧ e % m < 2 ^ 64 := by
  have h3 := Int.emod_nonneg e (by omega : m ≠ 0)
  have h4 := Int.emod_lt_of_pos e h
  omega
theorem modm {e m j : Int} (h : 0 < m) (h2 : m < 2 ^ 64) : CMul (e % m) j := .inl (modb h h2)
theorem divw {i n : Int} (h0 : 0 < n) (h1 : n < 2 ^ 64) : CDivW i n := wide_div h0 (b := 64) (by omega) (by decide) (by decide)
end
end Nv

set_option Elab.async false
set_option linter.all false
set_option maxRecDepth 100000
set_option maxHeartbeats 4000000
namespace Nv
open PySem PySem.Spec PyProof.Rows L2
/-! ### dicts that are written -/
section
variable {K : PySem.W.Frag} {R : Dt → Prop} {ss : List Sd}
def keyD : Key → Dt
  | .inl i => .int i
  | .inr x => .str x
theorem dat_key {G : Hp} {k : Key} {v : V} (h : Dat K G (keyD k) v) : v = kV k := by cases k <;> exact h
theorem dat_newK {G : Hp} {p : Addr} {l : List (Key × Dt)} {xs : List (Key × V)} (d : Datk K G l xs) (h : G p = none) : Dat K (upd G p (.dK xs)) (.dic l) (.ref p) := ⟨p, xs, rfl, upd_same, d.up (Ex.new h)⟩
theorem ed_dnew (h : R (.dic [])) : EvD K tDNewK ss R := fun G σ H e s Q q p hp => q (.ref p) (.dic []) _ _ (Go.new e hp) (dat_newK (show Datk K G [] [] from rfl) (e.free hp)) h
theorem ed_disp1 {tk tv : TE} (h : EvD K tk ss fun dk => ∃ k, dk = keyD k ∧ EvD K tv ss fun dv => R (.dic [(k, dv)])) : EvD K (tDisp [(tk, tv)]) ss R := fun G σ H e s Q q p hp => by
  have g0 : Go G H G (upd H p (.dK [])) := Go.put e hp
  have nG : G p = none := e.free hp
  refine h G σ _ g0.ink s _ fun x dk G1 H1 g1 d1 ⟨k, hk, h2⟩ => ?_
  subst hk
  refine h2 G1 σ H1 g1.ink (s.up g1.kn) _ fun y dv G2 H2 g2 d2 h3 => ?_
  have g12 := g1.trans g2
  have eH : H2 p = some (.dK []) := g12.up p _ upd_same
  have n2 : G2 p = none := g12.nw p nG (by rw [upd_same]; exact fun z => nomatch z)
  refine ⟨eH, [(k, y)], by rw [dat_key d1]; rfl, by show 1 ≤ 15; decide, ?_⟩
  have g02 := g0.trans g12
  refine q (.ref p) (.dic [(k, dv)]) (upd G2 p (.dK [(k, y)])) _ ⟨g02.kn.trans (Ex.new n2), fun a h1 h2 => ?_, upd_mono g02.ink p _, fun a u z => ?_⟩ (dat_newK (show Datk K G2 [(k, dv)] [(k, y)] from ⟨y, [], rfl, d2, rfl⟩) n2) h3
  · rw [upd_ne (fun c => h2 (by rw [c]; exact hp))]; exact g02.nw a h1 h2
  · rw [upd_ne (ne_of_none z hp)]; exact g02.up a u z
end
/-! ### texts by their codes -/
open SX (S)
theorem str_S (x : Str) : x = S x.cps.toList := (SX.S_tl x).symm
theorem cut_to {l : List Nat} {n : Nat} : cutS (S l) none (some (n : Int)) = S (l.take n) := by
  unfold cutS
  rw [HT.sIx_none, HT.sIx_nat, SX.S_len]
  simp
theorem cut_from {l : List Nat} {n : Nat} : cutS (S l) (some (n : Int)) none = S (l.drop n) := by
  unfold cutS
  rw [HT.sIx_none, HT.sIx_nat, SX.S_len]
  simp
  show List.take (l.length - min n l.length) (List.drop (min n l.length) l) = List.drop n l
  by_cases h : n ≤ l.length
  · rw [Nat.min_eq_left h, List.take_of_length_le (by simp)]
  · rw [Nat.min_eq_right (by omega), List.drop_length, List.drop_of_length_le (by omega)]; simp
theorem joinE : ∀ ys : List (List Nat), TL.joinL [] ys = ys.flatten
  | [] => rfl
  | [p] => by simp [TL.joinL]
  | p :: q :: r => by
    show p ++ ([] ++ TL.joinL [] (q :: r)) = _
    rw [joinE (q :: r)]; simp
theorem joinOnes (cs : List Nat) : TL.joinL [] (cs.map fun c => [c]) = cs := by
  rw [joinE]
  induction cs with
  | nil => rfl
  | cons c cs ih => simpa using ih
/-! ### one of the items -/
def itemsOf : Dt → Option (List Dt)
  | .lst l => some l
  | .tup l => some l
  | .str z => some (signsD z)
  | _ => none
def PreOneOf : List Dt → (Dt → Prop) → Prop := fun ds R => ∃ it l, ds = [dice, it] ∧ itemsOf it = some l ∧ l ≠ [] ∧ l.length ≤ 100000 ∧ ∀ x ∈ l, R x
theorem cd_len_items {K : PySem.W.Frag} {R : Dt → Prop} {it : Dt} {l : List Dt} (h : itemsOf it = some l) (hl : l.length ≤ 100000) (hR : R (.int l.length)) : CD K (rLenA K) [it] R := by
  cases it with
  | lst m => cases h; exact cd_len_l hR
  | tup m => cases h; exact cd_len_t hR
  | str z =>
    cases h
    have e : (signsD z).length = z.length := by simp [signsD]; rfl
    rw [e] at hR hl
    exact cd_len_s (by omega) hR
  | _ => cases h
theorem rd_ix_items {K : PySem.W.Frag} {R : Dt → Prop} {it : Dt} {l : List Dt} {i : Nat} {x : Dt} (h : itemsOf it = some l) (hl : l.length ≤ 100000) (hx : l[i]? = some x) (hR : R x) : RD K (rIx K) it (.int i) R := by
  cases it with
  | lst m => cases h; exact rd_ix_l (atI_nat hx) hR
  | tup m => cases h; exact rd_ix_t (atI_nat hx) hR
  | str z =>
    cases h
    have e : (signsD z).length = z.length := by simp [signsD]; rfl
    rw [e] at hl
    unfold signsD at hx
    rw [List.getElem?_map] at hx
    cases q : z.cps.toList[i]? with
    | none => rw [q] at hx; cases hx
    | some c => rw [q] at hx; cases hx; exact rd_ix_s (by omega) (atI_nat q) hR
  | _ => cases h
end Nv

set_option Elab.async false
set_option linter.all false
set_option maxRecDepth 100000
set_option maxHeartbeats 4000000
namespace Nv
open PySem PySem.Spec PyProof.Rows L2
/-! ### enumerate(text): pairs of a number and a sign -/
/-- n turns over the text z, each a new pair -/
def ItEs (z : Str) : It :=
  ⟨fun i _ => i < z.cps.size, fun i H v H' => ∃ T c, v = .ref T ∧ H T = none ∧ z.cps[i]? = some c ∧ H' = upd H T (.tup [.int (i : Nat), .str ⟨#[c]⟩]), fun i _ => z.cps.size = i⟩
theorem draws_str {prog : Program} {w : World} {A : Around} (hh : A.handled = none) (it : Addr) (x : Str) (t : Tok) :
    Draws prog w A it [it] x.cps.size (fun i v => ∃ c u, x.cps[i]? = some c ∧ v = .str ⟨#[c]⟩ u) (fun i h => h.IsStrIter it (strIterType x) x t i) := by
  unfold strIterType
  cases x.cps.all (· < 128)
  · exact Draws.strWide hh it x t
  · exact Draws.strAscii hh it x t
theorem turn_es {P : Program} {w : World} {K : PySem.W.Frag} {elts : List Expr} {kk : Nat} {tpos : Pos} (z : Str) (t : Tok) (e it : Addr) (hne : e ≠ it) :
    Turn P w K (.Tuple elts kk tpos) (ItEs z) [e, it] e (fun i h => (∃ old, IsEnum h e it ((i : Nat) : Int) old) ∧ h.IsStrIter it (strIterType z) z t i) := by
  have two : ∀ {b : Addr}, b ∈ [e, it] → b = e ∨ b = it := fun hb => by simpa using hb
  refine ⟨by simp, fun i h st b hb => ?_, fun i h h' st k => ?_, ?_, ?_, fun A i s Q E st h => let ⟨⟨_, he⟩, _⟩ := st; wpAny_pyIter_enum he h⟩
  · obtain ⟨⟨old, he⟩, o, ho, _, hd⟩ := st
    rcases two hb with rfl | rfl
    · exact ⟨_, he, fun v q => nomatch q⟩
    · exact ⟨o, ho, fun v q => by rw [hd] at q; cases q⟩
  · obtain ⟨⟨old, he⟩, o, ho, r⟩ := st
    exact ⟨⟨old, k e (by simp) _ he⟩, o, k it (by simp) o ho, r⟩
  · rintro X rfl rfl rfl hc i pins s σ H E I hf ⟨⟨old, he⟩, hst⟩ (hg : i < z.cps.size)
    have le : e < s.heap.objs.size := Heap.lt_size he
    have li : it < s.heap.objs.size := let ⟨_, q, _⟩ := hst; Heap.lt_size q
    have D := draws_str (prog := X.prog) (w := X.w) (A := X.A.in1) (I.ok.hd hc) it z t
    refine wpAny_pyNext_enum_itemD D he hst hg hne (by simpa using hne) fun u h1 tk pu ho hst' hT hsz hk => ?_
    obtain ⟨c, tu, hcz, rfl⟩ := pu
    refine ⟨_, rfl, wpAny_letOwnedTupleGo_enum (s := { s with heap := h1, toks := tk + 1 }) ho fun h2 he' sb => ?_⟩
    have hT2 := (sb.2 s.heap.objs.size (Nat.ne_of_gt le)).trans hT
    have fr : H s.heap.objs.size = none := I.hok.fresh (Nat.le_refl _)
    have I1 : Inv X pins σ (upd H s.heap.objs.size (.tup [.int (i : Nat), .str ⟨#[c]⟩])) { s with heap := h2, toks := tk + 1 } :=
      I.turnedNew (ch := [e, it]) (fun b ob hb q => (sb.2 b (fun y => hb (by simp [y]))).trans (hk b ob (fun y => hb (by simp [y])) (fun y => hb (by simp [y])) q)) hf (Nat.le_refl _)
        ⟨by show 2 ≤ sizeLine; decide, [Value.int i tk, Value.str ⟨#[c]⟩ tu], .cons ⟨_, rfl⟩ (.cons ⟨_, rfl⟩ .nil), ⟨_, hT2, rfl, _, rfl⟩⟩
    refine ⟨.ref s.heap.objs.size, _, I1, rfl, ⟨_, c, rfl, fr, hcz, rfl⟩, ⟨⟨Value.str ⟨#[c]⟩ tu, ?_⟩, ?_⟩, fun b hb => ?_⟩
    · have e1 : ((i + 1 : Nat) : Int) = (i : Int) + 1 := by omega
      rw [e1]; exact he'
    · obtain ⟨o, q, r⟩ := hst'
      exact ⟨o, (sb.2 it (Ne.symm hne)).trans q, r⟩
    · have lb : b < s.heap.objs.size := by rcases two hb with rfl | rfl <;> assumption
      rw [upd_ne (Nat.ne_of_lt lb)]
      exact (hf b hb).1
  · rintro X rfl rfl rfl hc i pins s σ H E I hf ⟨⟨old, he⟩, hst⟩ (hg : z.cps.size = i)
    subst hg
    obtain ⟨f0, f1, f2, f3, f4, f5⟩ := hf it (by simp)
    have D := draws_str (prog := X.prog) (w := X.w) (A := X.A.in1) (I.ok.hd hc) it z t
    exact wpAny_pyNext_enum_endD D he hst fun h' eb => ⟨rfl, I.turned (t' := s.toks) (fun b o hb q => eb b o hb q) f0 f1 f3 f4 f5⟩
def iEnumS (ta : TA) : TI := fun σ H R => ta σ H fun vs H1 => ∃ z, vs = [.str z] ∧ R (ItEs z) H1
theorem pi_enumS {X : Cx} {e : Expr} {ta : TA} {p pos tpos : Pos} {elts : List Expr} {kk : Nat} (hg : Gl X "enumerate") (hm : X.mg "enumerate" = none) (ha : PA X [e] ta) (hs : starEach [e] X.env = [(false, eval e X.env)] := by rfl) :
    PI X (.Tuple elts kk tpos) (.Call (.Name "enumerate" p) [e] [] pos) (iEnumS ta) := by
  constructor
  intro pins s σ H R I h
  refine Call_ (ld_blt I hg hm boot_enumerate (PyProof.Rows.callWith_type1 (thn (ha.run pos pins s σ H _ I h) fun us s1 ⟨vs, H1, I1, r1, z, ez, q⟩ => ?_) hs rfl))
  subst ez
  obtain ⟨u, rfl, t, rfl⟩ := vals1 r1
  refine call_enumerate_str fun h1 he hit hsz hk => wpAny_pyIter_enum he ?_
  refine ⟨_, [s1.heap.objs.size + 1, s1.heap.objs.size], _, _, H1, rfl, I1.kept (t' := s1.toks) hk, turn_es z t (s1.heap.objs.size + 1) s1.heap.objs.size (Nat.succ_ne_self _), ⟨⟨.none, he⟩, hit⟩, fun b hb => ?_, q⟩
  have lb : s1.heap.objs.size ≤ b := by
    have e2 : b = s1.heap.objs.size + 1 ∨ b = s1.heap.objs.size := by simpa using hb
    rcases e2 with rfl | rfl
    · exact Nat.le_succ _
    · exact Nat.le_refl _
  exact I1.fpOk lb (I1.hok.fresh lb)
section
variable {K : PySem.W.Frag} {ss : List Sd}
def enumD (z : Str) : List Dt := z.cps.toList.mapIdx fun i c => .tup [.int (i : Nat), .str ⟨#[c]⟩]
theorem wd_es {G : Hp} {z : Str} : WalkD K (ItEs z) (enumD z) G := by
  have e : (enumD z).length = z.cps.size := by simp [enumD]
  unfold WalkD
  rw [e]
  refine ⟨fun i H hi _ => hi, fun H _ => rfl, fun i H x H' hi _ y G2 e2 e3 => ?_⟩
  obtain ⟨T, c, rfl, hT, hc, rfl⟩ := y
  have hc2 : z.cps.toList[i]? = some c := by simpa using hc
  refine ⟨.tup [.int (i : Nat), .str ⟨#[c]⟩], upd G2 T (.tup [.int (i : Nat), .str ⟨#[c]⟩]), ?_, Go.new e3 hT, dat_newT (show Dats K G2 [.int (i : Nat), .str ⟨#[c]⟩] _ from ⟨_, _, rfl, rfl, _, _, rfl, rfl, rfl⟩) (e3.free hT)⟩
  simp [enumD, List.getElem?_mapIdx, hc2]
theorem ei_enumS {ta : TA} {S : List Dt → Prop} (h : EvA K ta ss fun l => ∃ z, l = [.str z] ∧ S (enumD z)) : EvI K (iEnumS ta) ss S := fun G σ H e s Q q =>
  h G σ H e s _ fun vs l G1 H1 g1 d1 ⟨z, h2, h3⟩ => by
    subst h2
    obtain ⟨x, r, rfl, hx, hr⟩ := d1
    cases hx; cases hr
    exact ⟨z, rfl, q _ _ G1 H1 g1 wd_es h3⟩
/-- a target of two names, of a pair -/
theorem wipe2 (σ : L2.St) (i j : Nat) : wipe σ [i, j] = (σ.set j none).set i none := rfl
theorem gd_pair {i j : Nat} {a b : Dt} (hij : i ≠ j) : GD K (gTup K 2 (gCons (gName i) (gCons (gName j) gNil))) [i, j] ss (.tup [a, b]) ((ss.set i (.dt a)).set j (.dt b)) := fun G H σ x e s hd Q q => by
  obtain ⟨p, xs, rfl, hs, hxs⟩ := hd
  obtain ⟨x1, r1, rfl, d1, x2, r2, rfl, d2, rfl⟩ := hxs
  refine ⟨p, _, rfl, Ex.tup e hs, rfl, x1, _, rfl, x2, _, rfl, rfl, q _ ?_ ?_⟩
  · rw [wipe2]
    have h1 := (((s.forget (j := j) (o := none)).forget (j := i) (o := none)).set (j := i) d1).set (j := j) d2
    rw [List.set_set, List.set_set] at h1
    rw [List.set_set]
    refine ⟨by have := h1.len; simpa using this, fun k d z => h1.dat k d ?_⟩
    by_cases c : j = k
    · subst c
      by_cases hl : j < ss.length
      · rw [List.getElem?_set_self (by simpa using hl)] at z ⊢; exact z
      · rw [List.getElem?_eq_none (by simpa using hl)] at z; cases z
    · rw [List.getElem?_set_ne c] at z ⊢
      by_cases c2 : i = k
      · subst c2
        by_cases hl : i < ss.length
        · rw [List.getElem?_set_self (by simpa using hl)] at z ⊢; exact z
        · rw [List.getElem?_eq_none (by simpa using hl)] at z; cases z
      · rw [List.getElem?_set_ne c2] at z ⊢
        rw [List.getElem?_set_ne c]; exact z
  · simp only [wipe2]
    refine List.ext_getElem? fun k => ?_
    by_cases c2 : i = k
    · subst c2
      simp [List.getElem?_set, Ne.symm hij, hij]
    · by_cases c : j = k
      · subst c
        simp [List.getElem?_set, hij, Ne.symm hij, c2]
      · simp [List.getElem?_set, c, c2]
end
end Nv

set_option Elab.async false
set_option linter.all false
set_option maxRecDepth 100000
set_option maxHeartbeats 4000000
namespace Nv
open PySem PySem.Spec PyProof.Rows L2
/-! ### defs that may call repr of lists and tuples: they run where no repr is under way -/
/-- a def that keeps the promise wherever no repr is under way -/
structure FnG (P : Program) (w : World) (K : PySem.W.Frag) (mg : Str → Option Value) (base : Heap) (k : Nat) (f : Addr) (fd : FuncData) (ps : List Str) (sp : Sp) : Prop where
  len : ∀ vs H Q E, sp vs H Q E → vs.length = ps.length
  run : ∀ (A : Around) (outer : List Env) (s : Shared) (H : Hp) (args : Args) (us : List Value) (vs : List V) (Q : VK) (E : XK), A.guards = some [] → Room k A → Env0 P w K mg base A outer s H → BindsTo s fd args (ps.zip us) → Vals vs us → sp vs H Q E →
    codeAny (model P w) A (.call (.ref f) args) (CR CX0 outer P w H s Q E) s
def Gg (P : Program) (w : World) (K : PySem.W.Frag) (mg : Str → Option Value) (base : Heap) (x : Str) (k : Nat) (ps : List Str) (Pre : List Dt → (Dt → Prop) → Prop) : Prop :=
  ∃ f fd, FnG P w K mg base k f fd ps (spD K Pre) ∧ Binds K fd ps [] ∧ mg x = some (.ref f) ∧ PySem.W.keepIn K (.ref f) = true ∧ ∃ oc od osl, K.lookup f = some ⟨oc, od, .func fd, osl⟩
section
variable {P : Program} {w : World} {K : PySem.W.Frag} {mg : Str → Option Value} {base : Heap}
theorem gg_of {x : Str} {st : Stmt} {N ps : List Str} {k : Nat} {Pre : List Dt → (Dt → Prop) → Prop} (F : Df K mg x st ps) (S : FnScope N ps (defScope st)) (len : ∀ ds R, Pre ds R → ds.length = ps.length)
    (hbody : ∀ (f : Addr) (cdv : Value) (A : Around) (outer : List Env) (s : Shared) (H : Hp) (E : XK), A.guards = some [] → Room k (A.deeper (envOfC x (defScope st) s.heap.objs.size f cdv)) →
      ∃ t, PSs (cxOf CX0 P w K mg base N x (defScope st) f cdv A outer s H E).nox (defBody st) t ∧ ∀ ds R, Pre ds R → StD K x0 t (startS N.length ds) (fun _ => R .non) (fun _ => False) (fun _ => False) R) :
    Gg P w K mg base x (k + 1) ps Pre := by
  obtain ⟨f, fd, F, b, m⟩ := F
  refine ⟨f, fd, ⟨fun vs H Q E h => ?_, fun A outer s H args us vs Q E hg hr e0 hb hv h => ?_⟩, b, m, F.kp, lk_of F⟩
  · obtain ⟨G, ds, R, e, d, p, _⟩ := h
    rw [d.len]; exact len ds R p
  · obtain ⟨oc, od, kV, doc, pm, an, cdv, ct, osl, rfl, lk, hcd⟩ := F.ex
    obtain ⟨G, ds, R, e, d, p, q⟩ := h
    have hl : vs.length = ps.length := by rw [d.len]; exact len ds R p
    refine StX.run_bnd (G := fun xs H2 => xs = vs ∧ H2 = H) lk hcd S hr e0 (fun A' Ex' Q' h' => hb _ A' Ex' Q' (h' s H vs us e0 Un.refl rfl (fun _ _ z => z) hv hl ⟨rfl, rfl⟩)) fun s2 H2 xs hx hr' => ?_
    obtain ⟨rfl, rfl⟩ := hx
    obtain ⟨t, ht, hs⟩ := hbody f cdv A outer s2 H2 E hg hr'
    exact ⟨t, ht.nox, hs ds R p G H2 _ _ G H2 (Go.refl e) (sl_start e d) (fun σ' s' G' H' g' _ hn => q .non .non G' H' g' rfl hn) (fun σ' s' G' H' g' _ hn => hn.elim) (fun σ' s' G' H' g' _ hn => hn.elim) (fun v d G' H' g' dd hr => q v d G' H' g' dd hr) fun _ _ _ _ _ _ _ _ _ _ hx => hx.elim⟩
theorem pe_gg {X : Cx} {x : Str} {k : Nat} {ps : List Str} {Pre : List Dt → (Dt → Prop) → Prop} {p pos : Pos} {e : Expr} {es : List Expr} {t : TA} (F : Gg P w K mg base x k ps Pre) (hX : X.prog = P ∧ X.w = w ∧ X.K = K ∧ X.mg = mg ∧ X.base = base) (hA : X.A.guards = some []) (hr : Room k X.A) (hg : Gl X x) (ha : PA X (e :: es) t)
    (hdb : (x == ("__debug__" : Str)) = false := by decide) (he : starEach (e :: es) X.env = (false, eval e X.env) :: starEach es X.env := by rfl) (hpl : (backTo pos (starEach es X.env)).any (·.1) = false := by rfl) :
    PE X (.Call (.Name x p) (e :: es) [] pos) (tCall (spD K Pre) [] E0 t) := by
  obtain ⟨rfl, rfl, rfl, rfl, rfl⟩ := hX
  obtain ⟨f, fd, F, b, m, kp, _⟩ := F
  constructor
  intro pins s σ H Q I h
  refine wpAny_Call_Name_kw (ld_glob I hg m (PySem.W.callWith_K (h₀ := X.base) I.ok.mod.kin kp ?_ he hpl) hdb)
  refine thn (ha.run pos pins s σ H _ I h) fun us s1 ⟨vs, H1, I1, r, q⟩ => ⟨I1.kIn, wpAny_call ?_⟩
  have q : spD X.K Pre (vs ++ []) H1 Q E0 := q
  rw [List.append_nil] at q
  have hl : us.length = ps.length := by rw [← r.length]; exact F.len _ _ _ _ q
  have hb := b s1 us I1.kIn (by rw [List.append_nil]; exact hl)
  rw [List.append_nil] at hb
  refine codeAny_mono (F.run X.A X.stack s1 H1 _ us vs Q E0 hA hr I1.env0 hb r q) fun rr s2 hq => ?_
  cases rr with
  | error _ => exact hq.elim
  | ok fl => cases fl with
    | ret u => exact I1.after hq
    | _ => exact hq.elim
end
/-! ### repr of data -/
section
variable {X : Cx}
def rReprD (K : PySem.W.Frag) : List V → Hp → VK → Prop := fun xs H Q => ∃ x d, xs = [x] ∧ Dp K H x d ∧ d.showable = true ∧ d.hasDict = false ∧ d.depth ≤ 60 ∧ d.shown.length ≤ sizeLine ∧ Q (.str d.shown) H
theorem callReprD {K : PySem.W.Frag} (hK : X.K = K) (hA : X.A.guards = some []) (hu : X.A.units + 64 < cLine) : CallR X (.builtin "repr") (rReprD K) := by
  subst hK
  intro pins s σ H xs us Q I r h
  obtain ⟨x, d, rfl, hd, hs, hdd, hdp, hz, q⟩ := h
  obtain ⟨u, rfl, rx⟩ := vals1 r
  obtain ⟨as, rd⟩ := Dp.reads I d x u hd rx
  have fin : ∀ (h' : Heap) (t : Tok) (tk : Nat), (∀ b o, s.heap.get? b = some o → h'.get? b = some o) → EP X pins σ Q (.str d.shown t) { s with heap := h', toks := tk } := fun h' t tk k => ⟨.str d.shown, H, I.kept k, ⟨_, rfl⟩, q⟩
  cases hd with
  | non => cases rx; exact PySem.P.repr_of_none (fin _ _ _ fun _ _ z => z)
  | bl b => cases rx; exact PySem.P.repr_of_bool (fin _ _ _ fun _ _ z => z)
  | int i =>
    obtain ⟨t, rfl⟩ := rx
    exact PySem.P.repr_of_int (by simpa [PyData.showable] using hs) (fin _ _ _ fun _ _ z => z)
  | str y =>
    obtain ⟨t, rfl⟩ := rx
    exact PySem.P.repr_of_str (fin _ _ _ fun _ _ z => z) hz
  | lst h1 h2 => cases rx; exact repr_of_reads' rd hs (fun z => by rw [hdd] at z; cases z) hA (by omega) (fun _ _ z => z) (fun h' u tk k => fin h' u tk k) hz
  | tup h1 h2 => cases rx; exact repr_of_reads' rd hs (fun z => by rw [hdd] at z; cases z) hA (by omega) (fun _ _ z => z) (fun h' u tk k => fin h' u tk k) hz
theorem cd_reprD {K : PySem.W.Frag} {R : Dt → Prop} {d : Dt} {p : PyData} (hp : toPy d = some p) (hs : p.showable = true) (hdd : p.hasDict = false) (hdp : p.depth ≤ 60) (hz : p.shown.length ≤ sizeLine) (h : R (.str p.shown)) : CD K (rReprD K) [d] R := fun G H vs e dd Q k => by
  obtain ⟨v, r, rfl, d1, d2⟩ := dd
  cases d2
  exact ⟨v, p, rfl, Dp.up e d1 hp, hs, hdd, hdp, hz, k _ (.str _) G H (Go.refl e) rfl h⟩
end
end Nv

set_option Elab.async false
set_option linter.all false
set_option maxRecDepth 100000
set_option maxHeartbeats 4000000
namespace Nv
open PySem PySem.Spec PyProof.Rows L2
/-! ### objects of a def's own: made, changed, told -/
section
variable {K : PySem.W.Frag} {G G' H H' H0 : Hp} {σ : L2.St} {ss : List Sd}
theorem get_set_own' {j i : Nat} {x : Sd} {a : Addr} {l : Dt} (z : (ss.set j x)[i]? = some (.own a l)) : (j = i ∧ x = .own a l ∧ j < ss.length) ∨ (ss[i]? = some (.own a l) ∧ j ≠ i) := by
  by_cases c : j = i
  · subst c
    by_cases b : j < ss.length
    · rw [List.getElem?_set_self b] at z; exact .inl ⟨rfl, Option.some.inj z, b⟩
    · rw [List.getElem?_eq_none (by simpa using b)] at z; cases z
  · rw [List.getElem?_set_ne c] at z
    exact .inr ⟨z, c⟩
theorem Sv.own (h : Sv K G σ ss) {j : Nat} {a : Addr} {d : Dt} {v : V} : Sv K G (σ.set j (some v)) (ss.set j (.own a d)) := by
  refine ⟨by simp [h.len], fun i e z => ?_⟩
  by_cases c : j = i
  · subst c
    by_cases b : j < ss.length
    · rw [List.getElem?_set_self b] at z; cases z
    · rw [List.getElem?_eq_none (by simpa using b)] at z; cases z
  · rw [List.getElem?_set_ne c] at z ⊢
    exact h.dat i e z
/-- a slot takes an object that no slot has: what the others have stands in H' as in H -/
theorem Sl.takeOwn (h : Sl K H0 G H σ ss) {j : Nat} {d : Dt} {a : Addr} {o : HO} (hn : ∀ (i : Nat) (l : Dt), ss[i]? ≠ some (Sd.own a l)) (h0 : H0 a = none) (hg : G a = none) (ha : H' a = some o) (hH : ∀ b, b ≠ a → H' b = H b) (ho : OwnD K G d o) : Sl K H0 G H' (σ.set j (some (.ref a))) (ss.set j (.own a d)) := by
  refine ⟨h.sv.own, fun i b l z => ?_, fun i k l m b z1 z2 => ?_⟩
  · rcases get_set_own' z with ⟨rfl, hx, hl⟩ | ⟨z', c⟩
    · cases hx
      exact ⟨by rw [List.getElem?_set_self (by rw [h.sv.len]; exact hl)], h0, hg, o, ha, ho⟩
    · obtain ⟨h1, h2, h3, o, h4, h5⟩ := h.own i b l z'
      have ne : b ≠ a := fun e => by subst e; exact hn i l z'
      exact ⟨by rw [List.getElem?_set_ne c]; exact h1, h2, h3, o, by rw [hH b ne]; exact h4, h5⟩
  · rcases get_set_own' z1 with ⟨rfl, hx, hl⟩ | ⟨z1', c1⟩
    · rcases get_set_own' z2 with ⟨rfl, hy, _⟩ | ⟨z2', c2⟩
      · rfl
      · cases hx; exact absurd z2' (hn k m)
    · rcases get_set_own' z2 with ⟨rfl, hy, hl⟩ | ⟨z2', c2⟩
      · cases hy; exact absurd z1' (hn i l)
      · exact h.sep i k l m b z1' z2'
theorem Sl.newOwn (h : Sl K H0 G H σ ss) {j : Nat} {d : Dt} {a : Addr} {o : HO} (hn : H a = none) (h0 : H0 a = none) (hg : G a = none) (ho : OwnD K G d o) : Sl K H0 G (upd H a o) (σ.set j (some (.ref a))) (ss.set j (.own a d)) :=
  h.takeOwn (fun i l z => by
    obtain ⟨_, _, _, o, h4, _⟩ := h.own i a l z
    rw [hn] at h4; cases h4) h0 hg upd_same (fun b ne => upd_ne ne) ho
theorem set_self {α : Type} : ∀ {l : List α} {i : Nat} {x : α}, l[i]? = some x → l.set i x = l
  | [], _, _, h => by simp at h
  | _ :: _, 0, _, h => by simp at h; subst h; rfl
  | y :: l, i + 1, x, h => by
    have := set_self (l := l) (i := i) (x := x) (by simpa using h)
    simp [this]
/-- the object of a slot is changed -/
theorem Sl.turnOwn (h : Sl K H0 G H σ ss) {j : Nat} {d d' : Dt} {a : Addr} {o : HO} (hs : ss[j]? = some (.own a d)) (ho : OwnD K G d' o) : Sl K H0 G (upd H a o) σ (ss.set j (.own a d')) := by
  obtain ⟨h1, h2, h3, o', h4, h5⟩ := h.own j a d hs
  have hl : j < ss.length := by rcases List.getElem?_eq_some_iff.mp hs with ⟨x, _⟩; exact x
  refine ⟨⟨by rw [h.sv.len]; simp, fun i e z => ?_⟩, fun i b l z => ?_, fun i k l m b z1 z2 => ?_⟩
  · by_cases c : j = i
    · subst c; rw [List.getElem?_set_self hl] at z; cases z
    · rw [List.getElem?_set_ne c] at z; exact h.sv.dat i e z
  · rcases get_set_own' z with ⟨rfl, hx, hl⟩ | ⟨z', c⟩
    · cases hx
      exact ⟨h1, h2, h3, o, upd_same, ho⟩
    · obtain ⟨g1, g2, g3, o', g4, g5⟩ := h.own i b l z'
      have ne : b ≠ a := fun e => by subst e; exact c (h.sep j i d l b hs z')
      exact ⟨g1, g2, g3, o', by rw [upd_ne ne]; exact g4, g5⟩
  · have w : ∀ {i : Nat} {b : Addr} {l : Dt}, (ss.set j (.own a d'))[i]? = some (.own b l) → ∃ l', ss[i]? = some (.own b l') := fun {i b l} z => by
      rcases get_set_own' z with ⟨rfl, hx, _⟩ | ⟨z', _⟩
      · cases hx; exact ⟨_, hs⟩
      · exact ⟨_, z'⟩
    obtain ⟨l', y1⟩ := w z1
    obtain ⟨m', y2⟩ := w z2
    exact h.sep i k l' m' b y1 y2
theorem Go.turn {G0 H0 : Hp} {a : Addr} {o : HO} (g : Go G0 H0 G H) (hG : G a = none) (h0 : H0 a = none) : Go G0 H0 G (upd H a o) :=
  ⟨g.kn, g.nw, fun b u z => by rw [upd_ne (ne_of_none z hG)]; exact g.ink b u z, fun b u z => by rw [upd_ne (ne_of_none z h0)]; exact g.up b u z⟩
/-- .. is told: data from here on -/
theorem Sl.tell (h : Sl K H0 G H σ ss) {j : Nat} {d : Dt} {a : Addr} {o : HO} (hs : ss[j]? = some (.own a d)) (hG : G a = none) (ho : OwnD K G d o) : Sl K H0 (upd G a o) H σ (ss.set j (.dt d)) := by
  have e := Ex.new (o := o) hG
  have hl : j < ss.length := by rcases List.getElem?_eq_some_iff.mp hs with ⟨x, _⟩; exact x
  obtain ⟨ha, _⟩ := h.own j a d hs
  refine ⟨?_, fun i b l z => ?_, fun i k l m b z1 z2 => ?_⟩
  · have := (h.sv.up e).set (j := j) (OwnD.dat hG ho)
    rwa [set_self ha] at this
  · obtain ⟨z', c⟩ := get_set_own (fun b m => Sd.noConfusion) z
    obtain ⟨g1, g2, g3, o', g4, g5⟩ := h.own i b l z'
    have ne : b ≠ a := fun e => by subst e; exact c (h.sep j i d l b hs z')
    exact ⟨g1, g2, by rw [upd_ne ne]; exact g3, o', g4, g5.up e⟩
  · exact h.sep i k l m b (get_set_own (fun b m => Sd.noConfusion) z1).1 (get_set_own (fun b m => Sd.noConfusion) z2).1
theorem Go.tell {G0 H0 : Hp} {a : Addr} {o : HO} (g : Go G0 H0 G H) (hG : G a = none) (h0 : H0 a = none) (hH : H a = some o) : Go G0 H0 (upd G a o) H :=
  ⟨g.kn.trans (Ex.new hG), fun b h1 h2 => by rw [upd_ne (fun c => h2 (by rw [c]; exact h0))]; exact g.nw b h1 h2, fun b u z => by
    by_cases c : b = a
    · subst c; rw [upd_same] at z; rw [hH]; exact z
    · rw [upd_ne c] at z; exact g.ink b u z, g.up⟩
variable {R : Dt → Prop} {N B C : SP} {ξ : XC} {te : TE} {tt : TT} {t u : TS}
theorem sd_tell {j : Nat} {a : Addr} {d : Dt} (hs : ss[j]? = some (.own a d)) (h : StD K ξ t (ss.set j (.dt d)) N B C R) : StD K ξ t ss N B C R := fun G0 H0 D σ G H g s n b c r w => by
  obtain ⟨h1, h2, h3, o, h4, h5⟩ := s.own j a d hs
  exact h G0 H0 D σ (upd G a o) H (g.tell h3 h2 h4) (s.tell hs h3 h5) n b c r w
/-- x = [..], a list of its own -/
theorem sd_newL {i : Nat} {ta : TA} (h : EvA K ta ss fun l => l.length ≤ 1000000 ∧ ∀ a, N (ss.set i (.own a (.lst l)))) : StD K ξ (tAsg (tLst ta) (gName i)) ss N B C R := fun G0 H0 D σ G H g s n b c r w =>
  h G σ H g.ink s.sv _ fun vs l G1 H1 g1 d1 h1 => ⟨by rw [d1.len]; exact sz_of h1.1, fun p hp => by
    have gg := g.trans g1
    have h0 : H0 p = none := gg.up.free hp
    have hG : G1 p = none := gg.ink.free hp
    exact n _ _ G1 (upd H1 p (.lst vs)) (gg.turn hG h0) ((s.go g1).newOwn (d := .lst l) hp h0 hG ⟨vs, rfl, d1⟩) (h1.2 p)⟩
/-- xs.append(e) -/
theorem sd_append {i : Nat} {a : Addr} {l : List Dt} {ta : TA} (hs : ss[i]? = some (.own a (.lst l))) (h : EvA K ta ss fun ds => ∃ y, ds = [y] ∧ l.length < 1000000 ∧ N (ss.set i (.own a (.lst (l ++ [y]))))) :
    StD K ξ (tDrop (tBM K "list" rAppend (tVar i) ta)) ss N B C R := fun G0 H0 D σ G H g s n b c r w => by
  obtain ⟨h1, h2, h3, o, h4, xs, rfl, h6⟩ := s.own i a _ hs
  refine ⟨.ref a, h1, .inl ⟨rfl, xs, .inl (.inl h4)⟩, h G σ H g.ink s.sv _ fun vs ds G1 H1 g1 d1 ⟨y, e1, hl, h7⟩ => ?_⟩
  subst e1
  obtain ⟨v, r1, rfl, e1, e2⟩ := d1
  cases e2
  have s1 := s.go g1
  obtain ⟨k1, k2, k3, o, k4, xs, rfl, k6⟩ := s1.own i a _ hs
  exact ⟨a, xs, v, rfl, rfl, k4, by rw [k6.len]; exact sz_lt hl, n σ _ G1 _ ((g.trans g1).turn k3 k2) (s1.turnOwn (d' := .lst (l ++ [y])) hs ⟨_, rfl, k6.snoc e1⟩) h7⟩
/-- a, b = x, y -/
theorem sd_par {i j : Nat} {ta : TA} (h : EvA K ta ss fun l => ∃ x y, l = [x, y] ∧ N ((ss.set i (.dt x)).set j (.dt y))) : StD K ξ (tPar i j ta) ss N B C R := fun G0 H0 D σ G H g s n b c r w =>
  h G σ H g.ink s.sv _ fun vs l G1 H1 g1 d1 ⟨x, y, h1, h2⟩ => by
    subst h1
    obtain ⟨v, r1, rfl, e1, w, r2, rfl, e2, e3⟩ := d1
    cases e3
    exact ⟨v, w, rfl, n _ _ G1 H1 (g.trans g1) (((s.go g1).set e1).set e2) h2⟩
/-- a, b = x, [..]: the second a list of its own -/
theorem sd_parL {i j : Nat} {ta : TA} {tx : TE} (h : EvD K tx ss fun x => EvA K ta ss fun l => l.length ≤ 1000000 ∧ ∀ a, N ((ss.set i (.dt x)).set j (.own a (.lst l)))) : StD K ξ (tPar i j (tCons tx (tCons (tLst ta) tNil))) ss N B C R := fun G0 H0 D σ G H g s n b c r w =>
  h G σ H g.ink s.sv _ fun v x G1 H1 g1 d1 h1 => h1 G1 σ H1 g1.ink (s.sv.up g1.kn) _ fun vs l G2 H2 g2 d2 h2 => ⟨by rw [d2.len]; exact sz_of h2.1, fun p hp => by
    have gg := (g.trans g1).trans g2
    have h0 : H0 p = none := gg.up.free hp
    have hG : G2 p = none := gg.ink.free hp
    exact ⟨v, _, rfl, n _ _ G2 (upd H2 p (.lst vs)) (gg.turn hG h0) ((((s.go g1).go g2).set (d1.up g2.kn)).newOwn (d := .lst l) hp h0 hG ⟨vs, rfl, d2⟩) (h2.2 p)⟩⟩
end
/-! ### fields -/
section
variable {K : PySem.W.Frag} {ss : List Sd} {R : Dt → Prop} {N B C : SP} {ξ : XC} {te tv : TE}
theorem Datf.lookup {G : Hp} {f : Str} : ∀ {l : List (Str × Dt)} {fs : List (Str × V)} {d : Dt}, Datf K G l fs → l.lookup f = some d → ∃ v, fs.lookup f = some v ∧ Dat K G d v
  | [], _, _, _, h => by simp at h
  | (g, x) :: l, _, d, ⟨v, r, h1, h2, h3⟩, h => by
    subst h1
    simp only [List.lookup] at h ⊢
    cases c : (f == g) with
    | true => rw [c] at h; cases h; exact ⟨v, rfl, h2⟩
    | false => rw [c] at h; exact Datf.lookup h3 h
theorem Datf.lookup_none {G : Hp} {f : Str} : ∀ {l : List (Str × Dt)} {fs : List (Str × V)}, Datf K G l fs → l.lookup f = none → fs.lookup f = none
  | [], _, h, _ => by cases h; rfl
  | (g, x) :: l, _, ⟨v, r, h1, h2, h3⟩, h => by
    subst h1
    simp only [List.lookup] at h ⊢
    cases c : (f == g) with
    | true => rw [c] at h; cases h
    | false => rw [c] at h; exact Datf.lookup_none h3 h
theorem Datf.len {G : Hp} : ∀ {l : List (Str × Dt)} {fs : List (Str × V)}, Datf K G l fs → fs.length = l.length
  | [], _, h => by cases h; rfl
  | (_, _) :: _, _, ⟨x, r, h1, _, h3⟩ => by subst h1; simp [Datf.len h3]
def putD (f : Str) (d : Dt) : List (Str × Dt) → List (Str × Dt)
  | [] => [(f, d)]
  | (g, x) :: r => if g = f then (g, d) :: r else (g, x) :: putD f d r
theorem Datf.put {G : Hp} {f : Str} {d : Dt} {v : V} (hd : Dat K G d v) : ∀ {l : List (Str × Dt)} {fs : List (Str × V)}, Datf K G l fs → Datf K G (putD f d l) (putF f v fs)
  | [], _, h => by cases h; exact ⟨v, [], rfl, hd, rfl⟩
  | (g, x) :: l, _, ⟨y, r, h1, h2, h3⟩ => by
    subst h1
    unfold putD putF
    by_cases c : g = f
    · rw [if_pos c, if_pos c]; exact ⟨v, r, rfl, hd, h3⟩
    · rw [if_neg c, if_neg c]; exact ⟨y, _, rfl, h2, Datf.put hd h3⟩
theorem ed_fld {f : Str} (h : EvD K te ss fun d => ∃ C l y, d = .ins C l ∧ Cls K C ∧ NoAttr K C f ∧ l.lookup f = some y ∧ R y) : EvD K (tFld K te f) ss R := fun G σ H e s Q q =>
  h G σ H e s _ fun v d G1 H1 g1 d1 ⟨C, l, y, h2, hc, hn, hl, hr⟩ => by
    subst h2
    obtain ⟨a, dx, fs, rfl, ha, hf⟩ := d1
    obtain ⟨z, hz, dz⟩ := hf.lookup hl
    exact ⟨a, C, dx, fs, z, rfl, g1.ink _ _ ha, hc, hn, hz, q z y G1 H1 g1 dz hr⟩
/-- self.f = e, self of the def's own -/
theorem sd_fld {i : Nat} {f : Str} {Cc a : Addr} {l : List (Str × Dt)} (hs : ss[i]? = some (.own a (.ins Cc l))) (hc : Cls K Cc) (hn : NoAttr K Cc f) (hl : l.length < 1000) (h : EvD K tv ss fun y => N (ss.set i (.own a (.ins Cc (putD f y l))))) :
    StD K ξ (sFld K (tVar i) tv f) ss N B C R := fun G0 H0 D σ G H g s n b c r w =>
  h G σ H g.ink s.sv _ fun v d G1 H1 g1 d1 h1 => by
    have s1 := s.go g1
    obtain ⟨h2, h3, h4, o, h5, dx, fs, rfl, h7⟩ := s1.own i a _ hs
    refine ⟨.ref a, h2, a, Cc, dx, fs, rfl, h5, hc, hn, by rw [h7.len]; exact hl, ?_⟩
    exact n σ _ G1 _ ((g.trans g1).turn h4 h3) (s1.turnOwn (d' := .ins Cc (putD f d l)) hs ⟨dx, _, rfl, h7.put d1⟩) h1
end
end Nv

set_option Elab.async false
set_option linter.all false
set_option maxRecDepth 100000
set_option maxHeartbeats 4000000
namespace Nv
open PySem PySem.Spec PyProof.Rows L2
/-! ### own __eq__: ==, and != by object.__ne__ -/
section
variable {prog : Program} {w : World} {A : Around} {E : Value → Shared → Prop} {s : Shared} {K : PySem.W.Frag} {x C f : Addr} {ox : Obj} {od : Option Obj} {b tb : Value}
theorem ifBound_B {M : Model} {name : Str} {id B : String} {args : List Value} {Q : Option Value → Shared → Prop} (S : PySem.Slot B name id) (X : K.In s.heap) (I : PySem.W.InstAt s.heap x ox C od) (hs : PySem.W.findIn K (.ref C) name = some (some (.builtin id)))
    (h : wpAny M A (call (.builtin id) (.ref x :: args)) (fun v => Q (some v)) E s) : wpAny M A (callSpecialIfBound? (.ref x) name args) Q E s := by
  simp only [callSpecialIfBound?, bindSpecialIfBound?]
  refine wpAny_holding (wpAny_bind (wpAny_bind (wpAny_bind (I.type.here ((PySem.W.looks_findIn X hs).here ?_)))))
  simp only [S.bind]
  refine wpAny_bind (wpAny_askSetting (wpAny_ite ?_))
  have fin : wpAny M A (call (.builtin id) ([.ref x] ++ args) >>= fun v => pure (some v)) Q E s := wpAny_bind (wpAny_mono h (fun v s' h' => wpAny_pure h') fun _ _ h' => h')
  split
  · exact wpAny_bind (wpAny_pure (wpAny_pure fin))
  · exact wpAny_tryCatch (wpAny_bind (wpAny_pure (wpAny_pure fin)))
theorem objNe_entryK (X : K.In s.heap) (I : PySem.W.InstAt s.heap x ox C od) (hs : PySem.W.findIn K (.ref C) "__eq__" = some (some (.ref f))) (hf : PySem.W.isFn K (.ref f) = true) (hu : A.units < cLine) {Q : Fin → Shared → Prop}
    (hcall : wpAny (model prog w) A (call (.ref f) [.ref x, b]) (fun v s' => ∃ r, v = .bool r ∧ Q (.done (.ret (.bool (!r)))) s') E s) :
    wpAny (model prog w) A (Builtin.«object.__ne__» ⟨[.ref x, b], []⟩) Q E s := by
  unfold Builtin.«object.__ne__»
  repeat (first
    | with_reducible refine wpAny_cRoomFor hu ?_
    | (refine wpAny_bind (m := callSpecialIfBound? (.ref x) (Str.ofString "__eq__") [b])
        (PySem.W.ifBound_K X I hs hf (wpAny_mono hcall (fun r s' hr => by
          obtain ⟨b, rfl, hq⟩ := hr
          repeat (first | exact hq | exact wpAny_pure hq | exact wpAny_truthy_bool hq | (refine wpAny_bind (m := truthy (.bool _)) (wpAny_truthy_bool ?_)) | wp_step)) fun _ _ e => e)))
    | wp_step)
theorem tryNe_K (X : K.In s.heap) (I : PySem.W.InstAt s.heap x ox C od) (hn : PySem.W.findIn K (.ref C) "__ne__" = some (some (.builtin "object.__ne__"))) (ho : PySem.W.subIn K (.ref C) (.type "object") = some true)
    (hs : PySem.W.findIn K (.ref C) "__eq__" = some (some (.ref f))) (hf : PySem.W.isFn K (.ref f) = true) (hu : A.units + 1 < cLine) {Q : Option Value → Shared → Prop}
    (hcall : wpAny (model prog w) A.in1 (call (.ref f) [.ref x, b]) (fun v s' => ∃ r, v = .bool r ∧ Q (some (.bool (!r))) s') E s) :
    wpAny (model prog w) A (tryCompare (.ref x) "__ne__" b) Q E s := by
  simp only [tryCompare]
  refine wpAny_bind (ifBound_B F.cmp_object.ne X I hn (wpAny_call (codeAny_call_builtin F.cmp_object.ne.plain F.cmpEntry_ne
    (PySem.W.check_slot F.cmpKind_ne F.cmpSplit_ne (I.type.andThen (PySem.W.looks_subIn X ho)) (F.cmpArgs_ne _ _)
      (objNe_entryK (A := A.in1) X I hs hf hu (wpAny_mono hcall (fun v s' hv => ?_) fun _ _ e => e))))))
  obtain ⟨r, rfl, hq⟩ := hv
  first | exact ⟨r, rfl, wpAny_pure hq⟩ | exact ⟨r, rfl, wpAny_pure (wpAny_pure hq)⟩ | exact ⟨r, rfl, hq⟩
theorem ne_K {Q : Value → Shared → Prop} (X : K.In s.heap) (I : PySem.W.InstAt s.heap x ox C od) (hb : PySem.W.Looks (model prog w) s.heap (typeOf b) tb) (hn : PySem.W.notFirst K C tb = true)
    (hne : PySem.W.findIn K (.ref C) "__ne__" = some (some (.builtin "object.__ne__"))) (ho : PySem.W.subIn K (.ref C) (.type "object") = some true)
    (hs : PySem.W.findIn K (.ref C) "__eq__" = some (some (.ref f))) (hf : PySem.W.isFn K (.ref f) = true) (hu : A.units + 1 < cLine)
    (hcall : wpAny (model prog w) A.in1 (call (.ref f) [.ref x, b]) (fun v s' => ∃ r, v = .bool r ∧ Q (.bool (!r)) s') E s) : wpAny (model prog w) A (richCompare .NotEq (.ref x) b) Q E s := by
  have one : wpAny (model prog w) A (tryCompare (.ref x) "__ne__" b) (fun r s' => ∃ v, r = some v ∧ Q v s') E s :=
    tryNe_K X I hne ho hs hf hu (wpAny_mono hcall (fun v s' ⟨r, h1, h2⟩ => ⟨r, h1, _, rfl, h2⟩) fun _ _ e => e)
  unfold richCompare
  simp only [oneThing_ref]
  refine wpAny_holding (wpAny_bind (wpAny_cRoomFor (Nat.lt_of_succ_lt hu) ?_))
  rw [cmpInfo_NotEq]
  dsimp only
  refine wpAny_bind (I.type.here (wpAny_bind (hb.here ?_)))
  split
  · rename_i q
    have e : PySem.W.subIn K tb (.ref C) = some false := by
      rcases Bool.or_eq_true_iff.mp hn with e | e
      · rw [beq_iff_eq.mp e] at q; simp at q
      · exact beq_iff_eq.mp e
    refine wpAny_bind ((PySem.W.looks_subIn X e).here ?_)
    simp only [Bool.false_eq_true, if_false]
    refine wpAny_bind (wpAny_mono one (fun r s' z => ?_) fun _ _ e => e)
    obtain ⟨v, rfl, hq⟩ := z
    exact wpAny_pure hq
  · refine wpAny_bind (wpAny_pure ?_)
    simp only [Bool.false_eq_true, if_false]
    refine wpAny_bind (wpAny_mono one (fun r s' z => ?_) fun _ _ e => e)
    obtain ⟨v, rfl, hq⟩ := z
    exact wpAny_pure hq
end
/-- x == y, x an instance of C whose __eq__ is at g, y of any type that does not come first -/
def rEqO (K : PySem.W.Frag) (C : Addr) (sp : Sp) : R2 := fun x y H Q => ∃ a dx fs t, x = .ref a ∧ H a = some (.ins C dx fs) ∧ TyX K H y t ∧ PySem.W.notFirst K C t = true ∧ sp [x, y] H Q E0
def rNeO (K : PySem.W.Frag) (C : Addr) (sp : Sp) : R2 := fun x y H Q => ∃ a dx fs t, x = .ref a ∧ H a = some (.ins C dx fs) ∧ TyX K H y t ∧ PySem.W.notFirst K C t = true ∧ sp [x, y] H (fun z H' => ∃ b, z = .bl b ∧ Q (.bl (!b)) H') E0
section
variable {X : Cx} {C g : Addr} {n : Nat} {sp : Sp}
theorem opEqO {K : PySem.W.Frag} (hK : X.K = K) (hs : PySem.W.findIn K (.ref C) "__eq__" = some (some (.ref g))) (hf : PySem.W.isFn K (.ref g) = true) (F : FnR X.prog X.w X.K X.mg X.base CX0 n g sp) (hr : Room n X.A) : OpR X (compareOp .Eq) (rEqO K C sp) := by
  subst hK
  intro pins s σ H x y v u Q I rx ry h
  obtain ⟨a, dx, fs, t, rfl, ha, ty, hn, q⟩ := h
  cases (show v = Value.ref a from rx)
  obtain ⟨mA, O, _⟩ := ins_get I.hok ha
  obtain ⟨od, J, _⟩ := O.look
  obtain ⟨P, Z, p, _⟩ := kit_of I ry ty
  obtain ⟨m, hF⟩ := I.fr
  show wpAny _ _ (richCompare .Eq _ _) _ _ _
  refine PySem.W.cmp_K (op := .Eq) (tb := t) hr.units0 hF I.ok.mod.kin J (Z.ty _ _ I.kIn p) hn hs hf ?_
  refine wpAny_mono (wpAny_call (run_fnR (us := [.ref a, u]) (vs := [.ref a, y]) F hr pass0 I (.cons rfl (.cons ry .nil)) q)) (fun w s' z => ?_) fun _ _ x => x
  obtain ⟨z', H', I', rz, qz⟩ := z
  exact SlX.cmpback rz ⟨z', H', I', rz, qz⟩
theorem opNeO {K : PySem.W.Frag} (hK : X.K = K) (hs : PySem.W.findIn K (.ref C) "__eq__" = some (some (.ref g))) (hf : PySem.W.isFn K (.ref g) = true)
    (hne : PySem.W.findIn K (.ref C) "__ne__" = some (some (.builtin "object.__ne__"))) (ho : PySem.W.subIn K (.ref C) (.type "object") = some true) (F : FnR X.prog X.w X.K X.mg X.base CX0 n g sp) (hr : Room (n + 1) X.A) : OpR X (compareOp .NotEq) (rNeO K C sp) := by
  subst hK
  intro pins s σ H x y v u Q I rx ry h
  obtain ⟨a, dx, fs, t, rfl, ha, ty, hn, q⟩ := h
  cases (show v = Value.ref a from rx)
  obtain ⟨mA, O, _⟩ := ins_get I.hok ha
  obtain ⟨od, J, _⟩ := O.look
  obtain ⟨P, Z, p, _⟩ := kit_of I ry ty
  show wpAny _ _ (richCompare .NotEq _ _) _ _ _
  refine ne_K (tb := t) I.kIn J (Z.ty _ _ I.kIn p) hn hne ho hs hf (Nat.lt_of_le_of_lt (Nat.add_le_add_left (by decide) _) hr.units) ?_
  refine wpAny_mono (wpAny_call (SlX.run_at (us := [.ref a, u]) (ws := [.ref a, y]) F hr.in1 I.env0.in1 pass0 I (.cons rfl (.cons ry .nil)) q)) (fun w s' z => ?_) fun _ _ x => x
  obtain ⟨z', H', I', rz, b, rfl, qz⟩ := z
  cases (show w = Value.bool b from rz)
  exact ⟨b, rfl, .bl (!b), H', I', rfl, qz⟩
end
end Nv

set_option Elab.async false
set_option linter.all false
set_option maxRecDepth 100000
set_option maxHeartbeats 4000000
namespace Nv
open PySem PySem.Spec PyProof.Rows L2
/-! ### classes: what == and isinstance ask of the class at C -/
structure ClsI (K : PySem.W.Frag) (C : Addr) : Prop where
  cls : Cls K C
  si : SlX.SIsi K C
def tyV' : Dt → Option Value
  | .ins C _ => some (.ref C)
  | d => (tyD d).map .type
section
variable {K : PySem.W.Frag} {ss : List Sd} {R : Dt → Prop}
/-- instances that it has are of classes that are known -/
def clsOk (K : PySem.W.Frag) : Dt → Prop
  | .ins C _ => ClsI K C
  | _ => True
theorem tyx_of' {G : Hp} {d : Dt} {v : V} {t : Value} (h : Dat K G d v) (e : tyV' d = some t) (hc : clsOk K d) : TyX K G v t := by
  cases d with
  | ins C l =>
    obtain ⟨a, dx, fs, rfl, ha, _⟩ := h
    cases e
    exact .base (.ins ha hc.cls hc.si.ca hc.si.cn hc.si.ct hc.si.cm)
  | ext _ => cases e
  | obj _ => cases e
  | exc _ _ _ _ => cases e
  | ty _ => cases e
  | sq _ => cases e
  | _ =>
    unfold tyV' at e
    obtain ⟨T, e1, rfl⟩ := Option.map_eq_some_iff.mp e
    exact tyx_of h e1
theorem rd_eqO {C : Addr} {l : List (Str × Dt)} {y : Dt} {t : Value} {Pre : List Dt → (Dt → Prop) → Prop} (ht : tyV' y = some t) (hc : clsOk K y) (hn : PySem.W.notFirst K C t = true) (h : Pre [.ins C l, y] R) : RD K (rEqO K C (spD K Pre)) (.ins C l) y R := fun G H v w e d1 d2 Q k => by
  obtain ⟨a, dx, fs, rfl, ha, hf⟩ := d1
  exact ⟨a, dx, fs, t, rfl, e _ _ ha, tyx_of' (d2.up e) ht hc, hn, G, [.ins C l, y], R, e, ⟨_, _, rfl, ⟨a, dx, fs, rfl, ha, hf⟩, _, _, rfl, d2, rfl⟩, h, k⟩
theorem rd_neO {C : Addr} {l : List (Str × Dt)} {y : Dt} {t : Value} {Pre : List Dt → (Dt → Prop) → Prop} (ht : tyV' y = some t) (hc : clsOk K y) (hn : PySem.W.notFirst K C t = true) (h : Pre [.ins C l, y] fun d => ∃ b, d = .bl b ∧ R (.bl (!b))) : RD K (rNeO K C (spD K Pre)) (.ins C l) y R := fun G H v w e d1 d2 Q k => by
  obtain ⟨a, dx, fs, rfl, ha, hf⟩ := d1
  refine ⟨a, dx, fs, t, rfl, e _ _ ha, tyx_of' (d2.up e) ht hc, hn, G, [.ins C l, y], _, e, ⟨_, _, rfl, ⟨a, dx, fs, rfl, ha, hf⟩, _, _, rfl, d2, rfl⟩, h, fun z d G' H' g hd ⟨b, h1, h2⟩ => ?_⟩
  subst h1
  cases hd
  exact ⟨b, rfl, k _ (.bl _) G' H' g rfl h2⟩
/-- isinstance(x, C) -/
theorem cd_isO {C : Addr} {y : Dt} {t : Value} {b : Bool} (ht : tyV' y = some t) (hc : clsOk K y) (hk : PySem.W.kitOne K t (.ref C) = some b) (h : R (.bl b)) : CD K (rIsi K) [y, .obj C] R := fun G H vs e dd Q k => by
  obtain ⟨v, r, rfl, d1, v2, r2, rfl, d2, d3⟩ := dd
  cases d2; cases d3
  exact ⟨v, .ref C, t, .ref C, b, rfl, .own C, tyx_of' (d1.up e) ht hc, hk, k _ (.bl _) G H (Go.refl e) rfl h⟩
theorem cd_isT {y : Dt} {t : Value} {b : Bool} {n : String} (ht : tyV' y = some t) (hc : clsOk K y) (hk : PySem.W.kitOne K t (.type n) = some b) (h : R (.bl b)) : CD K (rIsi K) [y, .ty n] R := fun G H vs e dd Q k => by
  obtain ⟨v, r, rfl, d1, v2, r2, rfl, d2, d3⟩ := dd
  cases d2; cases d3
  exact ⟨v, .ty n, t, .type n, b, rfl, .ty n, tyx_of' (d1.up e) ht hc, hk, k _ (.bl _) G H (Go.refl e) rfl h⟩
end
/-! ### str(x) by an own __str__, len(x) by an own __len__ -/
def rStrO (K : PySem.W.Frag) (C : Addr) (sp : Sp) : List V → Hp → VK → Prop := fun xs H Q => ∃ a dx fs, xs = [.ref a] ∧ H a = some (.ins C dx fs) ∧ sp xs H (fun z H' => ∃ y, z = .str y ∧ Q z H') E0
section
variable {X : Cx} {C g : Addr} {n : Nat} {sp : Sp}
theorem callStrO {K : PySem.W.Frag} (hK : X.K = K) (hs : PySem.W.findIn K (.ref C) "__str__" = some (some (.ref g))) (hf : PySem.W.isFn K (.ref g) = true) (F : FnR X.prog X.w X.K X.mg X.base CX0 n g sp) (hr : Room (n + 2) X.A) : CallR X (.type "str") (rStrO K C sp) := by
  subst hK
  intro pins s σ H xs us Q I r h
  obtain ⟨a, dx, fs, rfl, ha, q⟩ := h
  obtain ⟨u, rfl, ru⟩ := r.one
  cases (show u = Value.ref a from ru)
  obtain ⟨mA, O, _⟩ := ins_get I.hok ha
  obtain ⟨od, J, _⟩ := O.look
  have hr2 : Room n X.A.in1.in1 := (show Room (n + 1) X.A.in1 from Room.in1 hr).in1
  refine PySem.W.kso_call hr2.units0 I.kIn J hs hf (wpAny_mono (wpAny_call (SlX.run_at (us := [.ref a]) (ws := [.ref a]) F hr2 I.env0.in1.in1 pass0 I (.cons rfl .nil) q)) (fun w s' z => ?_) fun _ _ x => x)
  obtain ⟨z', H', I', rz, y, rfl, qz⟩ := z
  obtain ⟨t, e⟩ := (show ∃ t, w = Value.str y t from rz)
  cases e
  exact ⟨.str y, H', I', ⟨t, rfl⟩, qz⟩
end
theorem cd_strO {K : PySem.W.Frag} {R : Dt → Prop} {C : Addr} {l : List (Str × Dt)} {Pre : List Dt → (Dt → Prop) → Prop} (h : Pre [.ins C l] fun d => ∃ y, d = .str y ∧ R d) : CD K (rStrO K C (spD K Pre)) [.ins C l] R := fun G H vs e dd Q k => by
  obtain ⟨v, r, rfl, ⟨a, dx, fs, rfl, ha, hf⟩, d3⟩ := dd
  cases d3
  refine ⟨a, dx, fs, rfl, e _ _ ha, G, [.ins C l], _, e, ⟨_, _, rfl, ⟨a, dx, fs, rfl, ha, hf⟩, rfl⟩, h, fun z d G' H' g hd ⟨y, h1, h2⟩ => ?_⟩
  subst h1
  cases hd
  exact ⟨y, rfl, k _ (.str y) G' H' g rfl h2⟩
/-! ### makes -/
def spI (K : PySem.W.Frag) (C : Addr) (Pre : List Dt → (List (Str × Dt) → Prop) → Prop) : Sp := fun vs H Q _ => ∃ (G0 H0 G : Hp) (x : Addr) (rest : List V) (ds : List Dt) (R : List (Str × Dt) → Prop), vs = .ref x :: rest ∧ H0 x = none ∧ Go G0 H0 G H ∧ G x = none ∧ (∃ dx, H x = some (.ins C dx [])) ∧ Dats K G ds rest ∧ Pre ds R ∧
  ∀ fl G' H', Go G0 H0 G' H' → Dat K G' (.ins C fl) (.ref x) → R fl → Q .non H'
theorem spI_new {K : PySem.W.Frag} {C : Addr} {Pre : List Dt → (List (Str × Dt) → Prop) → Prop} {G H : Hp} {vs : List V} {ds : List Dt} {R : List (Str × Dt) → Prop} {Q : VK} {E : XK} {x dx : Addr} (e : Ex G H) (hx : H x = none) (hdx : H dx = none) (hne : dx ≠ x) (d : Dats K G ds vs) (h : Pre ds R)
    (q : ∀ fl G' H', Go G H G' H' → Dat K G' (.ins C fl) (.ref x) → R fl → Q .non H') : spI K C Pre (.ref x :: vs) (upd (upd H dx (.own x)) x (.ins C dx [])) Q E := by
  have h1 : (upd H dx (.own x)) x = none := by rw [upd_ne (Ne.symm hne)]; exact hx
  have g1 : Go G H G (upd H dx (.own x)) := Go.put e hdx
  exact ⟨G, H, G, x, vs, ds, R, rfl, hx, g1.trans (Go.put g1.ink h1), e.free hx, ⟨dx, upd_same⟩, d, h, q⟩
section
variable {K : PySem.W.Frag} {ss : List Sd} {R : Dt → Prop} {C : Addr} {Pre : List Dt → (List (Str × Dt) → Prop) → Prop}
theorem ed_makeR {E : XK} {ta : TA} (h : EvA K ta ss fun l => Pre l fun fl => R (.ins C fl)) : EvD K (StX.tMakeR C (spI K C Pre) E ta) ss R := fun G σ H e s Q q =>
  h G σ H e s _ fun vs l G1 H1 g1 d1 h2 => fun x dx hx hdx hne => spI_new g1.ink hx hdx hne d1 h2 fun fl G' H' g' d hr => ⟨rfl, q (.ref x) (.ins C fl) G' H' (g1.trans g') d hr⟩
/-- cls( *e), cls a local that has the class at C -/
def tMakeS (K : PySem.W.Frag) (C : Addr) (sp : Sp) (E : XK) (tf te : TE) : TE := fun σ H Q => tf σ H fun c H1 => c = .ref C ∧ te σ H1 fun y H2 => ∃ p xs, y = .ref p ∧ (SqT K H2 p xs ∨ SqL K H2 p xs) ∧ ∀ x dx, H2 x = none → H2 dx = none → dx ≠ x →
  sp (.ref x :: xs) (upd (upd H2 dx (.own x)) x (.ins C dx [])) (fun v H3 => v = .non ∧ Q (.ref x) H3) E
theorem ed_makeS {E : XK} {tf te : TE} (h : EvD K tf ss fun c => c = .obj C ∧ EvD K te ss fun d => ∃ l, (d = .tup l ∨ d = .lst l) ∧ Pre l fun fl => R (.ins C fl)) : EvD K (tMakeS K C (spI K C Pre) E tf te) ss R := fun G σ H e s Q q =>
  h G σ H e s _ fun c dc G1 H1 g1 d1 ⟨h1, h2⟩ => by
    subst h1
    refine ⟨d1, h2 G1 σ H1 g1.ink (s.up g1.kn) _ fun v d G2 H2 g2 d2 ⟨l, h3, h4⟩ => ?_⟩
    have key : ∀ xs, Dats K G2 l xs → ∀ x dx, H2 x = none → H2 dx = none → dx ≠ x → spI K C Pre (.ref x :: xs) (upd (upd H2 dx (.own x)) x (.ins C dx [])) (fun v H3 => v = .non ∧ Q (.ref x) H3) E := fun xs hd x dx hx hdx hne =>
      spI_new g2.ink hx hdx hne hd h4 fun fl G' H' g' d hr => ⟨rfl, q (.ref x) (.ins C fl) G' H' ((g1.trans g2).trans g') d hr⟩
    rcases h3 with rfl | rfl
    · obtain ⟨a, xs, rfl, hs, hd⟩ := d2
      exact ⟨a, xs, rfl, .inl (Ex.tup g2.ink hs), key xs hd⟩
    · obtain ⟨a, xs, rfl, hs, hd⟩ := d2
      exact ⟨a, xs, rfl, .inr (.inl (.inl (g2.ink _ _ hs))), key xs hd⟩
theorem ea_star {te : TE} {ta : TA} {R : List Dt → Prop} (h : EvD K te ss fun d => ∃ l, (d = .tup l ∨ d = .lst l) ∧ EvA K ta ss fun m => R (l ++ m)) : EvA K (StX.tStar K te ta) ss R := fun G σ H e s Q q =>
  h G σ H e s _ fun v d G1 H1 g1 d1 ⟨l, h1, h2⟩ => by
    rcases h1 with rfl | rfl
    · obtain ⟨a, xs, rfl, hs, hd⟩ := d1
      exact ⟨a, xs, rfl, .inl (Ex.tup g1.ink hs), h2 G1 σ H1 g1.ink (s.up g1.kn) _ fun ys m G2 H2 g2 d2 hr => q _ _ G2 H2 (g1.trans g2) ((hd.up g2.kn).app d2) hr⟩
    · obtain ⟨a, xs, rfl, hs, hd⟩ := d1
      exact ⟨a, xs, rfl, .inr (.inl (.inl (g1.ink _ _ hs))), h2 G1 σ H1 g1.ink (s.up g1.kn) _ fun ys m G2 H2 g2 d2 hr => q _ _ G2 H2 (g1.trans g2) ((hd.up g2.kn).app d2) hr⟩
end
section
variable {X : Cx} {CX : CXT} {k : Nat} {f C : Addr} {sp : Sp} {E : XK} {x : Str} {e fe : Expr} {te tf : TE} {p sp_ pos : Pos}
theorem pe_makeR0 (M : Mk X.K C f) (F : FnR X.prog X.w X.K X.mg X.base CX k f sp) (hr : Room (k + 1) X.A) (hg : Gl X x) (hm : X.mg x = some (.ref C)) (hx : Passes CX X E) (hdb : (x == ("__debug__" : Str)) = false := by decide) :
    PE X (.Call (.Name x p) [] [] pos) (StX.tMakeR C sp E tNil) := by
  refine ⟨fun pins s σ H Q I h => ?_⟩
  refine wpAny_Call_Name_kw (ld_glob I hg hm ?_ hdb)
  exact PySem.W.callWith_K0 I.kIn M.kp (StX.run_makeR (us := []) (vs := []) M F hr hx I .nil h)
theorem pe_makeS {K : PySem.W.Frag} (hK : X.K = K) (M : Mk X.K C f) (F : FnR X.prog X.w X.K X.mg X.base CX k f sp) (hr : Room (k + 1) X.A) (hx : Passes CX X E) (hf : PE X fe tf) (he : PE X e te)
    (hst : starEach [.Starred e sp_] X.env = [(true, eval e X.env)] := by rfl)
    (ht : eval (.Call fe [.Starred e sp_] [] pos) X.env = (do callWith pos (← eval fe X.env) [] (backTo pos (starEach [.Starred e sp_] X.env)) (backToKw pos (keywordEach [] X.env))) := by rfl) :
    PE X (.Call fe [.Starred e sp_] [] pos) (tMakeS K C sp E tf te) := by
  subst hK
  refine ⟨fun pins s σ H Q I h => ?_⟩
  refine Call_ (thn (hf.run pins s σ H _ I h) fun u s1 ⟨y, H1, I1, ry, ey, q⟩ => ?_) ht
  subst ey
  obtain rfl : u = Value.ref C := ry
  refine PySem.W.callWith_S (h₀ := X.base) I.ok.mod.kin M.kp (thn (he.run pins s1 σ H1 _ I1 q) fun v s2 ⟨z, H2, I2, rz, a, xs, ez, hxs, q2⟩ => ?_) hst
  subst ez
  obtain rfl : v = Value.ref a := rz
  exact StX.star_any I2 hxs fun us s3 I3 rv => ⟨I3.kIn, StX.run_makeR M F hr hx I3 rv q2⟩
end
/-! ### __init__ -/
def startI (n : Nat) (x C : Addr) (ds : List Dt) : List Sd := (startS n (.obj x :: ds)).set 0 (.own x (.ins C []))
theorem sl_startI {K : PySem.W.Frag} {H0 G H : Hp} {x C dx : Addr} {ds : List Dt} {vs : List V} {N : List Str} (e : Ex G H) (h0 : H0 x = none) (hG : G x = none) (hH : H x = some (.ins C dx [])) (d : Dats K G ds vs) : Sl K H0 G H (L2.start N (.ref x :: vs)) (startI N.length x C ds) := by
  have d' : Dats K G (.obj x :: ds) (.ref x :: vs) := ⟨_, _, rfl, rfl, d⟩
  have s := sl_start (N := N) e d'
  have s' : Sl K H0 G H (L2.start N (.ref x :: vs)) (startS N.length (.obj x :: ds)) := ⟨s.sv, fun i a l z => absurd z (noown i a l), fun i j l m a z => absurd z (noown i a l)⟩
  have := s'.takeOwn (H' := H) (j := 0) (d := .ins C []) (fun i l z => noown i x l z) h0 hG hH (fun b _ => rfl) ⟨dx, [], rfl, rfl⟩
  exact this
section
variable {P : Program} {w : World} {K : PySem.W.Frag} {mg : Str → Option Value} {base : Heap} {C : Addr} {Pre : List Dt → (List (Str × Dt) → Prop) → Prop}
def initN (x C : Addr) (R : List (Str × Dt) → Prop) : SP := fun s1 => ∃ fl, s1[0]? = some (.own x (.ins C fl)) ∧ R fl
theorem init_end {N : List Str} {t : TS} {vs : List V} {H : Hp} {Q : VK} {E : XK} (h : spI K C Pre vs H Q E) (hb : ∀ x ds R, Pre ds R → StD K x0 t (startI N.length x C ds) (initN x C R) (fun _ => False) (fun _ => False) (fun _ => False)) :
    t { nx := fun _ H' => Q .non H', rt := Q } (L2.start N vs) H := by
  obtain ⟨G0, H0, G, x, rest, ds, R, rfl, h0, g, hG, ⟨dx, hH⟩, d, p, q⟩ := h
  refine hb x ds R p G0 H0 _ _ G H g (sl_startI g.ink h0 hG hH d) (fun σ' s' G' H' g' sl hn => ?_) (fun σ' s' G' H' g' _ hn => hn.elim) (fun σ' s' G' H' g' _ hn => hn.elim) (fun v d G' H' g' dd hr => hr.elim) (fun _ _ _ _ _ _ _ _ _ _ hx => hx.elim)
  obtain ⟨fl, h1, h2⟩ := hn
  obtain ⟨k1, k2, k3, o, k4, k5⟩ := sl.own 0 x _ h1
  exact q fl _ H' (g'.tell k3 k2 k4) (OwnD.dat k3 k5) h2
theorem gi_of {x qual : Str} {st : Stmt} {f : Addr} {fd : FuncData} {N ps : List Str} {k : Nat} (F : Fun K x qual st f fd) (S : FnScope N ps (defScope st)) (b : Binds K fd ps []) (len : ∀ ds R, Pre ds R → ds.length + 1 = ps.length)
    (hbody : ∀ (cdv : Value) (A : Around) (outer : List Env) (s : Shared) (H : Hp) (E : XK), Room k (A.deeper (envOfC qual (defScope st) s.heap.objs.size f cdv)) →
      ∃ t, PSs (cxOf CX0 P w K mg base N qual (defScope st) f cdv A outer s H E).nox (defBody st) t ∧ ∀ x ds R, Pre ds R → StD K x0 t (startI N.length x C ds) (initN x C R) (fun _ => False) (fun _ => False) (fun _ => False)) :
    FnR P w K mg base CX0 (k + 1) f (spI K C Pre) := by
  refine ((F.ok S (fun vs H Q E h => ?_) (fun cdv A outer s H vs Q E hr h => ?_) : FnOk P w K mg base CX0 (k + 1) f fd ps (spI K C Pre)).raw b .nil).imp fun vs H Q E h => by rw [List.append_nil]; exact h
  · obtain ⟨G0, H0, G, x, rest, ds, R, rfl, h0, g, hG, _, d, p, q⟩ := h
    have := len ds R p
    simp [d.len]; omega
  · obtain ⟨t, ht, hs⟩ := hbody cdv A outer s H E hr
    exact ⟨t, ht, init_end h hs⟩
/-- __init__(self, *parts) -/
theorem gi_star {x qual : Str} {st : Stmt} {f : Addr} {fd : FuncData} {N : List Str} {p1 pv : Str} {k : Nat} (F : Fun K x qual st f fd) (S : FnScope N [p1, pv] (defScope st))
    (hb : ∀ (us rest : List Value), us.length = [p1].length → bindArgs fd ⟨us ++ rest, []⟩ = (newTuple rest >>= fun t => pure ([p1].zip us ++ [(pv, t)])))
    (hbody : ∀ (cdv : Value) (A : Around) (outer : List Env) (s : Shared) (H : Hp) (E : XK), Room k (A.deeper (envOfC qual (defScope st) s.heap.objs.size f cdv)) →
      ∃ t, PSs (cxOf CX0 P w K mg base N qual (defScope st) f cdv A outer s H E).nox (defBody st) t ∧ ∀ x ds R, ds.length ≤ 1000000 ∧ Pre ds R → StD K x0 t (startI N.length x C [.tup ds]) (initN x C R) (fun _ => False) (fun _ => False) (fun _ => False)) :
    FnR P w K mg base CX0 (k + 1) f (spI K C fun ds R => ds.length ≤ 1000000 ∧ Pre ds R) := by
  obtain ⟨oc, od, kV, doc, pm, an, cdv, ct, osl, rfl, lk, hcd⟩ := F.ex
  refine (StX.fn_star (ps := [p1]) (pv := pv) (sp := spI K C fun ds R => ∃ ds', ds = [.tup ds'] ∧ ds'.length ≤ 1000000 ∧ Pre ds' R) lk hcd S StX.cxUp_none hb (fun A outer s H vs Q E hr h => ?_)).imp fun vs H Q E h => ?_
  · obtain ⟨t, ht, hs⟩ := hbody cdv A outer s H E hr
    exact ⟨t, ht.nox, init_end h fun x ds R ⟨ds', e, h1⟩ => by subst e; exact hs x ds' R h1⟩
  · obtain ⟨G0, H0, G, x, rest, ds, R, rfl, h0, g, hG, ⟨dx, hH⟩, d, ⟨hl, p⟩, q⟩ := h
    refine ⟨[.ref x], rest, rfl, rfl, by rw [d.len]; exact sz_of hl, fun p' hp => ?_⟩
    have hp0 : G p' = none := g.ink.free hp
    have hxp : x ≠ p' := fun c => by subst c; rw [hH] at hp; cases hp
    refine ⟨G0, H0, upd G p' (.tup rest), x, [.ref p'], [.tup ds], R, rfl, h0, g.trans (Go.new g.ink hp), by rw [upd_ne hxp]; exact hG, ⟨dx, by rw [upd_ne hxp]; exact hH⟩, ⟨_, _, rfl, dat_newT d hp0, rfl⟩, ⟨ds, rfl, hl, p⟩, q⟩
/-! ### methods, getters, classmethods -/
theorem fok_of {x qual : Str} {st : Stmt} {f : Addr} {fd : FuncData} {N ps : List Str} {k : Nat} {Pre : List Dt → (Dt → Prop) → Prop} (F : Fun K x qual st f fd) (S : FnScope N ps (defScope st)) (len : ∀ ds R, Pre ds R → ds.length = ps.length)
    (hbody : ∀ (cdv : Value) (A : Around) (outer : List Env) (s : Shared) (H : Hp) (E : XK), Room k (A.deeper (envOfC qual (defScope st) s.heap.objs.size f cdv)) →
      ∃ t, PSs (cxOf CX0 P w K mg base N qual (defScope st) f cdv A outer s H E).nox (defBody st) t ∧ ∀ ds R, Pre ds R → StD K x0 t (startS N.length ds) (fun _ => R .non) (fun _ => False) (fun _ => False) R) :
    FnOk P w K mg base CX0 (k + 1) f fd ps (spD K Pre) := by
  refine F.ok S (fun vs H Q E h => ?_) (fun cdv A outer s H vs Q E hr h => ?_)
  · obtain ⟨G, ds, R, e, d, p, _⟩ := h
    rw [d.len]; exact len ds R p
  · obtain ⟨G, ds, R, e, d, p, q⟩ := h
    obtain ⟨t, ht, hs⟩ := hbody cdv A outer s H E hr
    exact ⟨t, ht, hs ds R p G H _ _ G H (Go.refl e) (sl_start e d) (fun σ' s' G' H' g' _ hn => q .non .non G' H' g' rfl hn) (fun σ' s' G' H' g' _ hn => hn.elim) (fun σ' s' G' H' g' _ hn => hn.elim) (fun v d G' H' g' dd hr => q v d G' H' g' dd hr) fun _ _ _ _ _ _ _ _ _ _ hx => hx.elim⟩
theorem fr_of {f : Addr} {fd : FuncData} {ps : List Str} {k : Nat} {sp : Sp} (F : FnOk P w K mg base CX0 k f fd ps sp) (b : Binds K fd ps []) : FnR P w K mg base CX0 k f sp :=
  (F.raw b .nil).imp fun vs H Q E h => by rw [List.append_nil]; exact h
/-- the def of a class, by its name in it -/
def Dm (K : PySem.W.Frag) (C : Addr) (x qual : Str) (st : Stmt) (ps : List Str) (f : Addr) : Prop := ∃ fd, Fun K x qual st f fd ∧ Binds K fd ps []
def Gm (P : Program) (w : World) (K : PySem.W.Frag) (mg : Str → Option Value) (base : Heap) (k : Nat) (f : Addr) (Pre : List Dt → (Dt → Prop) → Prop) : Prop := FnR P w K mg base CX0 k f (spD K Pre)
theorem gm_of {x qual : Str} {st : Stmt} {f : Addr} {N ps : List Str} {k : Nat} {Pre : List Dt → (Dt → Prop) → Prop} (F : Dm K C x qual st ps f) (S : FnScope N ps (defScope st)) (len : ∀ ds R, Pre ds R → ds.length = ps.length)
    (hbody : ∀ (cdv : Value) (A : Around) (outer : List Env) (s : Shared) (H : Hp) (E : XK), Room k (A.deeper (envOfC qual (defScope st) s.heap.objs.size f cdv)) →
      ∃ t, PSs (cxOf CX0 P w K mg base N qual (defScope st) f cdv A outer s H E).nox (defBody st) t ∧ ∀ ds R, Pre ds R → StD K x0 t (startS N.length ds) (fun _ => R .non) (fun _ => False) (fun _ => False) R) :
    Gm P w K mg base (k + 1) f Pre := by
  obtain ⟨fd, F, b⟩ := F
  exact fr_of (fok_of F S len hbody) b
end
section
variable {X : Cx} {CX : CXT} {k : Nat} {C f p g : Addr} {m : Str} {sp : Sp} {E : XK} {o e : Expr} {ta : TE} {apos pos : Pos} {pl : Sem Bool}
/-- o.m() by a positional promise -/
theorem pe_methR0 (he : PE X o ta) (c : Cls X.K C) (hm : Meth X.K C m f) (F : FnR X.prog X.w X.K X.mg X.base CX k f sp) (hr : Room k X.A) (hx : Passes CX X E)
    (ht : eval (.Call (.Attribute o m apos) [] [] pos) X.env = (do
      let ov ← eval o X.env
      standAt apos.atName
      let (f, first) ← holding [ov] (getMethod ov m pl)
      callWith pos f first (backTo pos (starEach [] X.env)) (backToKw pos (keywordEach [] X.env))) := by rfl) :
    PE X (.Call (.Attribute o m apos) [] [] pos) (tMethR C m sp E ta tNil) := by
  refine ⟨fun pins s σ H Q I h => ?_⟩
  refine PySem.W.methodCall_KW (pl := pl) (thn (he.run pins s σ H _ I h) fun u s1 ⟨x, H1, I1, rx, a, dx, fs, ex, ea, l, q⟩ => ?_) ht
  subst ex
  obtain rfl : u = Value.ref a := rx
  refine getmeth_ok I1 ea c hm l ?_
  exact PySem.W.callWith_K0 (first := [.ref a]) I1.kIn hm.kp (wpAny_call (run_fnR (us := [.ref a]) (vs := [.ref a]) F hr hx I1 (.cons rfl .nil) q))
/-- e.f, a property, by a positional promise -/
theorem pe_propR (he : PE X o ta) (c : Cls X.K C) (hp : PropOf X.K C m p g) (F : FnR X.prog X.w X.K X.mg X.base CX0 k g sp) (hr : Room (k + 1) X.A)
    (hab : attributeBase o m X.env (eval o X.env) = eval o X.env := by rfl) : PE X (.Attribute o m pos) (tProp C sp [] E0 ta) := by
  refine ⟨fun pins s σ H Q I h => ?_⟩
  refine attr_of hab (thn (he.run pins s σ H _ I h) fun u s1 ⟨x, H1, I1, rx, a, dx, fs, ex, ea, q⟩ => ?_)
  subst ex
  obtain rfl : u = Value.ref a := rx
  obtain ⟨mA, O, _, _, _, _⟩ := ins_get I1.hok ea
  obtain ⟨od, J, _⟩ := O.look
  obtain ⟨rest, hrec⟩ := hp.rec_
  have I2 := I1.tok (s1.toks + 1)
  have hc : (PySem.W.clsIn X.K C).isSome = true := by
    obtain ⟨cd, hc, _⟩ := PySem.W.any_some c.hd
    rw [hc]
    rfl
  refine PySem.W.get_bind I1.kIn J (PySem.W.plainGet_of (c.get m)).1 (PySem.W.findObj_data hc hp.at_ hp.get hp.tak) (PySem.W.plainGet_of (c.get m)).2 (wpAny_call (PySem.W.prop_get (s := { s1 with toks := s1.toks + 1 }) I1.kIn hrec ?_))
  refine codeAny_mono (F X.A.in1 X.stack { s1 with toks := s1.toks + 1 } H1 [.ref a] [.ref a] Q E0 hr.in1 I2.env0.in1 (.cons rfl .nil) q) fun r s' hq => ?_
  cases r with
  | error er => exact False.elim hq
  | ok fl =>
    cases fl with
    | ret u =>
      obtain ⟨v, H', I3, rv, q3⟩ := I2.after hq
      exact wpAny_of_eq (PySem.W.handedOut_of (handed_of rv)) ⟨v, H', I3, rv, q3⟩
    | next => exact False.elim hq
    | brk => exact False.elim hq
    | cont => exact False.elim hq
end
section
variable {K : PySem.W.Frag} {ss : List Sd} {R : Dt → Prop} {C : Addr} {m : Str} {Pre : List Dt → (Dt → Prop) → Prop} {E : XK} {ta : TE} {t : TA}
theorem ed_methR (h : EvD K ta ss fun d => ∃ l, d = .ins C l ∧ l.lookup m = none ∧ EvA K t ss fun ds => Pre (.ins C l :: ds) R) : EvD K (tMethR C m (spD K Pre) E ta t) ss R := fun G σ H e s Q q =>
  h G σ H e s _ fun v d G1 H1 g1 d1 ⟨l, h1, h2, h3⟩ => by
    subst h1
    obtain ⟨a, dx, fs, rfl, ha, hf⟩ := d1
    refine ⟨a, dx, fs, rfl, g1.ink _ _ ha, hf.lookup_none h2, h3 G1 σ H1 g1.ink (s.up g1.kn) _ fun vs ds G2 H2 g2 d2 h4 => ?_⟩
    exact ⟨G2, .ins C l :: ds, R, g2.ink, ⟨_, _, rfl, ⟨a, dx, fs, rfl, g2.kn _ _ ha, hf.up g2.kn⟩, d2⟩, h4, fun v d G' H' g hd hr => q v d G' H' ((g1.trans g2).trans g) hd hr⟩
theorem ed_propR (h : EvD K ta ss fun d => ∃ l, d = .ins C l ∧ Pre [.ins C l] R) : EvD K (tProp C (spD K Pre) [] E ta) ss R := fun G σ H e s Q q =>
  h G σ H e s _ fun v d G1 H1 g1 d1 ⟨l, h1, h3⟩ => by
    subst h1
    obtain ⟨a, dx, fs, rfl, ha, hf⟩ := d1
    exact ⟨a, dx, fs, rfl, g1.ink _ _ ha, G1, [.ins C l], R, g1.ink, ⟨_, _, rfl, ⟨a, dx, fs, rfl, ha, hf⟩, rfl⟩, h3, fun v d G' H' g hd hr => q v d G' H' (g1.trans g) hd hr⟩
theorem ed_cmeth (h : EvD K ta ss fun d => d = .obj C ∧ EvA K t ss fun ds => Pre (.obj C :: ds) R) : EvD K (ClX.tCMeth C (spD K Pre) E ta t) ss R := fun G σ H e s Q q =>
  h G σ H e s _ fun v d G1 H1 g1 d1 ⟨h1, h3⟩ => by
    subst h1
    refine ⟨d1, h3 G1 σ H1 g1.ink (s.up g1.kn) _ fun vs ds G2 H2 g2 d2 h4 => ?_⟩
    exact ⟨G2, .obj C :: ds, R, g2.ink, ⟨_, _, rfl, rfl, d2⟩, h4, fun v d G' H' g hd hr => q v d G' H' ((g1.trans g2).trans g) hd hr⟩
end
end Nv

set_option Elab.async false
set_option linter.all false
set_option maxRecDepth 100000
set_option maxHeartbeats 4000000
namespace Nv
open PySem PySem.Spec PyProof.Rows L2
section
variable {X : Cx}
theorem paStar {K : PySem.W.Frag} (hK : X.K = K) {e : Expr} {es : List Expr} {te : TE} {t : TA} {p : Pos} (he : PE X e te) (hr : PA X es t) (hs : starEach (.Starred e p :: es) X.env = (true, eval e X.env) :: starEach es X.env := by rfl) : PA X (.Starred e p :: es) (StX.tStar K te t) := by
  subst hK; exact StX.pa_star he hr hs
theorem pgUnl {K : PySem.W.Frag} (hK : X.K = K) {es : List Expr} {k : Nat} {t : TGs} {n : Nat} {pos : Pos} (hc : X.calm = true) (h : PGs X es t)
    (hn : (assignEach es X.env).length = n := by rfl) (hst : (assignEach es X.env).findIdx? (·.1) = none := by rfl) : PG X (.Tuple es k pos) (gUnl K n t) := by
  subst hK; exact pg_unl hc h hn hst
theorem pgTup {K : PySem.W.Frag} (hK : X.K = K) {es : List Expr} {k : Nat} {t : TGs} {n : Nat} {pos : Pos} (hc : X.calm = true) (h : PGs X es t)
    (hn : (assignEach es X.env).length = n := by rfl) (hst : (assignEach es X.env).findIdx? (·.1) = none := by rfl) : PG X (.Tuple es k pos) (gTup K n t) := by
  subst hK; exact pg_tup hc h hn hst
theorem peFld {K : PySem.W.Frag} (hK : X.K = K) {e : Expr} {f : Str} {ta : TE} {pos : Pos} (he : PE X e ta) (hb : attributeBase e f X.env (eval e X.env) = eval e X.env := by rfl) : PE X (.Attribute e f pos) (tFld K ta f) := by
  subst hK; exact pe_fld he hb
theorem psFld {K : PySem.W.Frag} (hK : X.K = K) {o value : Expr} {f : Str} {pos pos' : Pos} {ta tv : TE} (ha : PE X o ta) (hv : PE X value tv) (hs : swapsWith value (some (.Attribute o f pos')) pos.line X.env = pure false := by rfl) : PS X (.Assign [.Attribute o f pos'] value pos) (sFld K ta tv f) := by
  subst hK; exact ps_fld ha hv hs
def rToTup (K : PySem.W.Frag) : List V → Hp → VK → Prop := fun xs H Q => ∃ p ys, xs = [.ref p] ∧ ((SqL K H p ys ∧ ∀ l, H l = none → Q (.ref l) (upd H l (.tup ys))) ∨ (SqT K H p ys ∧ Q (.ref p) H))
theorem callTuple {K : PySem.W.Frag} (hK : X.K = K) : CallR X (.type "tuple") (rToTup K) := by subst hK; exact call_tuple_of
def rToLst (K : PySem.W.Frag) : List V → Hp → VK → Prop := fun xs H Q => ∃ p ys, xs = [.ref p] ∧ (SqL K H p ys ∨ SqT K H p ys) ∧ ∀ l, H l = none → Q (.ref l) (upd H l (.lst ys))
theorem callList {K : PySem.W.Frag} (hK : X.K = K) : CallR X (.type "list") (rToLst K) := by subst hK; exact call_list_of
theorem slList {K : PySem.W.Frag} (hK : X.K = K) : SlR X (rSlL K) := by subst hK; exact sl_list
def rSplit : V → List V → Hp → VK → Prop := fun x xs H Q => ∃ a b, x = .str a ∧ xs = [.str b] ∧ (b.length == 0) = false ∧ a.length + 2 ≤ sizeLine ∧ rNewStrs (Txt.split a b) H Q
theorem mtSplit : MtR X "str.split" rSplit := mt_split
end
section
variable {K : PySem.W.Frag} {ss : List Sd} {R : Dt → Prop} {N B C : SP} {ξ : XC} {te : TE} {i j : Nat}
theorem dats_map_str {G : Hp} : ∀ ys : List Str, Dats K G (ys.map .str) (ys.map V.str)
  | [] => rfl
  | y :: ys => ⟨_, _, rfl, rfl, dats_map_str ys⟩
theorem dats_rg {G : Hp} {n : Int} (h : 0 ≤ n) : Dats K G (rangeD 0 n.toNat) (rgV 0 n) := by
  have : ∀ l : List Nat, Dats K G (l.map fun i : Nat => Dt.int (0 + (i : Int))) (l.map fun i => V.int (0 + (i : Nat))) := fun l => by
    induction l with
    | nil => rfl
    | cons a l ih => exact ⟨_, _, rfl, rfl, ih⟩
  unfold rangeD rgV
  rw [show (n - 0).toNat = n.toNat by omega]
  exact this _
theorem ed_lstRg {ta : TE} (h : EvD K ta ss fun d => ∃ n : Int, d = .int n ∧ 0 ≤ n ∧ n ≤ 16777216 ∧ R (.lst (rangeD 0 n.toNat))) : EvD K (tLstRg (tRg1 ta)) ss R := fun G σ H e s Q q =>
  h G σ H e s _ fun v d G1 H1 g1 d1 ⟨n, h1, h2, h3, h4⟩ => by
    subst h1
    cases d1
    exact ⟨n, rfl, .of_le (Int.le_refl _) h3 (by decide) h2, fun p hp => q _ (.lst _) _ _ (g1.trans (Go.new g1.ink hp)) (dat_newL (dats_rg h2) (g1.ink.free hp)) h4⟩
theorem ed_tupRg {ta : TE} (h : EvD K ta ss fun d => ∃ n : Int, d = .int n ∧ 0 ≤ n ∧ n ≤ 16777216 ∧ R (.tup (rangeD 0 n.toNat))) : EvD K (tTupRg (tRg1 ta)) ss R := fun G σ H e s Q q =>
  h G σ H e s _ fun v d G1 H1 g1 d1 ⟨n, h1, h2, h3, h4⟩ => by
    subst h1
    cases d1
    exact ⟨n, rfl, .of_le (Int.le_refl _) h3 (by decide) h2, fun p hp => q _ (.tup _) _ _ (g1.trans (Go.new g1.ink hp)) (dat_newT (dats_rg h2) (g1.ink.free hp)) h4⟩
theorem cd_tup_l {l : List Dt} (h : R (.tup l)) : CD K (rToTup K) [.lst l] R := fun G H vs e dd Q k => by
  obtain ⟨v, r, rfl, ⟨a, xs, rfl, h1, h2⟩, d3⟩ := dd
  cases d3
  exact ⟨a, xs, rfl, .inl ⟨.inl (.inl (e _ _ h1)), fun p hp => k _ (.tup l) _ _ (Go.new e hp) (dat_newT h2 (e.free hp)) h⟩⟩
theorem cd_tup_t {l : List Dt} (h : R (.tup l)) : CD K (rToTup K) [.tup l] R := fun G H vs e dd Q k => by
  obtain ⟨v, r, rfl, ⟨a, xs, rfl, h1, h2⟩, d3⟩ := dd
  cases d3
  exact ⟨a, xs, rfl, .inr ⟨Ex.tup e h1, k _ (.tup l) G H (Go.refl e) ⟨a, xs, rfl, h1, h2⟩ h⟩⟩
theorem cd_lst_l {l : List Dt} (h : R (.lst l)) : CD K (rToLst K) [.lst l] R := fun G H vs e dd Q k => by
  obtain ⟨v, r, rfl, ⟨a, xs, rfl, h1, h2⟩, d3⟩ := dd
  cases d3
  exact ⟨a, xs, rfl, .inl (.inl (.inl (e _ _ h1))), fun p hp => k _ (.lst l) _ _ (Go.new e hp) (dat_newL h2 (e.free hp)) h⟩
theorem cd_lst_t {l : List Dt} (h : R (.lst l)) : CD K (rToLst K) [.tup l] R := fun G H vs e dd Q k => by
  obtain ⟨v, r, rfl, ⟨a, xs, rfl, h1, h2⟩, d3⟩ := dd
  cases d3
  exact ⟨a, xs, rfl, .inr (Ex.tup e h1), fun p hp => k _ (.lst l) _ _ (Go.new e hp) (dat_newL h2 (e.free hp)) h⟩
theorem Dats.cut {G : Hp} {l : List Dt} {xs : List V} (d : Dats K G l xs) (lo hi : Option Int) : Dats K G ((l.drop (HT.sIx l.length 0 lo)).take (HT.sIx l.length l.length hi - HT.sIx l.length 0 lo)) (cutV xs lo hi) := by
  unfold cutV
  rw [d.len]
  exact (d.drop _).take _
theorem sd_sl_l {l : List Dt} {lo hi : Option Int} (h : R (.lst ((l.drop (HT.sIx l.length 0 lo)).take (HT.sIx l.length l.length hi - HT.sIx l.length 0 lo)))) : SD K (rSlL K) (.lst l) lo hi R := fun G H v e d Q k => by
  obtain ⟨a, xs, rfl, h1, h2⟩ := d
  exact ⟨a, xs, rfl, .inl (.inl (e _ _ h1)), fun p hp => k _ (.lst _) _ _ (Go.new e hp) (dat_newL (h2.cut lo hi) (e.free hp)) h⟩
theorem md_split {x y : Str} (hy : (y.length == 0) = false) (hx : x.length ≤ 1000000) (h : R (.lst ((Txt.split x y).map .str))) : MD K "str" rSplit (.str x) [.str y] R := fun G H v vs e d1 d2 Q k => by
  obtain ⟨w, r, rfl, d2, d3⟩ := d2
  cases d1; cases d2; cases d3
  exact ⟨x, y, rfl, rfl, hy, Nat.le_trans (Nat.add_le_add_right hx 2) (by decide), fun p hp => k _ (.lst _) _ _ (Go.new e hp) (dat_newL (dats_map_str _) (e.free hp)) h⟩
theorem md_join_t {x : Str} {ys : List Str} (hz : (ys.map (·.length)).sum + ys.length * x.length ≤ 16777216) (h : R (.str (Txt.join x ys))) : MD K "str" (rJoin K) (.str x) [.tup (ys.map .str)] R := fun G H v vs e d1 d2 Q k => by
  obtain ⟨v, r, rfl, ⟨a, xs, rfl, h1, h2⟩, d3⟩ := d2
  cases d1; cases d3
  rw [dats_str h2] at h1
  exact ⟨x, a, ys, rfl, rfl, .inr (Ex.tup e h1), hz, k _ (.str _) G H (Go.refl e) rfl h⟩
/-! in, of ints -/
theorem dats_ints {G : Hp} : ∀ {l : List Int} {xs : List V}, Dats K G (l.map .int) xs → xs = l.map V.int
  | [], _, h => h
  | _ :: _, _, ⟨x, r, h1, h2, h3⟩ => by cases h2; rw [h1, dats_ints h3]; rfl
theorem inV_ints (i : Int) : ∀ l : List Int, inV (.int i) (l.map V.int) = decide (i ∈ l)
  | [] => rfl
  | j :: l => by
    have ih := inV_ints i l
    unfold inV at ih ⊢
    rw [List.map_cons, List.any_cons, ih]
    have e1 : eqV (.int j) (.int i) = decide (i = j) := by
      show (j == i) = _
      rw [Bool.eq_iff_iff, beq_iff_eq, decide_eq_true_iff]; exact ⟨Eq.symm, Eq.symm⟩
    rw [e1, Bool.eq_iff_iff]
    simp
theorem flat_ints : ∀ l : List Int, (l.map V.int).all flatV = true
  | [] => rfl
  | _ :: l => flat_ints l
theorem rd_in_l {i : Int} {l : List Int} (h : R (.bl (decide (i ∈ l)))) : RD K (rInA K) (.int i) (.lst (l.map .int)) R := fun G H v w e d1 d2 Q k => by
  cases d1
  obtain ⟨a, xs, rfl, h1, h2⟩ := d2
  rw [dats_ints h2] at h1
  refine .inr ⟨a, _, rfl, .inl (.inl (.inl (e _ _ h1))), rfl, flat_ints l, ?_⟩
  rw [inV_ints]
  exact k _ (.bl _) G H (Go.refl e) rfl h
theorem rd_in_t {i : Int} {l : List Int} (h : R (.bl (decide (i ∈ l)))) : RD K (rInA K) (.int i) (.tup (l.map .int)) R := fun G H v w e d1 d2 Q k => by
  cases d1
  obtain ⟨a, xs, rfl, h1, h2⟩ := d2
  rw [dats_ints h2] at h1
  refine .inr ⟨a, _, rfl, .inr (Ex.tup e h1), rfl, flat_ints l, ?_⟩
  rw [inV_ints]
  exact k _ (.bl _) G H (Go.refl e) rfl h
theorem rd_ni_t {i : Int} {l : List Int} (h : R (.bl (!decide (i ∈ l)))) : RD K (rNiA K) (.int i) (.tup (l.map .int)) R := fun G H v w e d1 d2 Q k => by
  cases d1
  obtain ⟨a, xs, rfl, h1, h2⟩ := d2
  rw [dats_ints h2] at h1
  refine .inr ⟨a, _, rfl, .inr (Ex.tup e h1), rfl, flat_ints l, ?_⟩
  rw [inV_ints]
  exact k _ (.bl _) G H (Go.refl e) rfl h
theorem rd_eq_b {a b : Bool} (h : R (.bl (decide (a = b)))) : RD K (rEqA K) (.bl a) (.bl b) R := fun G H v w e d1 d2 Q k => by
  cases d1; cases d2
  refine .inl ⟨rfl, ?_⟩
  have : decide (V.bl a = V.bl b) = decide (a = b) := by rw [Bool.eq_iff_iff]; simp
  rw [this]; exact k _ (.bl _) G H (Go.refl e) rfl h
theorem rd_ne_b {a b : Bool} (h : R (.bl (!decide (a = b)))) : RD K (rNeA K) (.bl a) (.bl b) R := fun G H v w e d1 d2 Q k => by
  cases d1; cases d2
  refine .inl ⟨rfl, ?_⟩
  have : decide (V.bl a = V.bl b) = decide (a = b) := by rw [Bool.eq_iff_iff]; simp
  rw [this]; exact k _ (.bl _) G H (Go.refl e) rfl h
/-- a, b = a list of two -/
theorem sd_unl {a b : Nat} (h : EvD K te ss fun d => ∃ x y, d = .lst [x, y] ∧ N ((ss.set a (.dt x)).set b (.dt y))) : StD K ξ (tAsg te (gUnl K 2 (gCons (gName a) (gCons (gName b) gNil)))) ss N B C R := fun G0 H0 D σ G H g s n b c r w =>
  h G σ H g.ink s.sv _ fun v d G1 H1 g1 d1 ⟨x, y, h1, h2⟩ => by
    subst h1
    obtain ⟨p, xs, rfl, hp, x1, r1, rfl, e1, x2, r2, rfl, e2, e3⟩ := d1
    cases e3
    exact ⟨p, _, rfl, .inl (.inl (g1.ink _ _ hp)), rfl, x1, _, rfl, x2, _, rfl, rfl, n _ _ G1 H1 (g.trans g1) (((s.go g1).set e1).set e2) h2⟩
theorem sd_never (h : False) : StD K ξ tNever ss N B C R := h.elim
/-- [e for x in .. for y in ..] -/
theorem ed_lc2 {wi wi1 : TI} {g g1 : TG} {t t1 : TT} {vs vs1 : List Nat}
    (h : EvI K wi ss fun l => ∃ sx : Dt → List Sd, (∀ d ∈ l, GD K g vs ss d (sx d)) ∧ ∃ I : Nat → List Dt → Prop, I 0 [] ∧ (∀ i x acc, l[i]? = some x → I i acc → EvT K t (sx x) fun b => if b = true then
      EvI K wi1 (sx x) fun l1 => ∃ sy : Dt → List Sd, (∀ d ∈ l1, GD K g1 vs1 (sx x) d (sy d)) ∧ ∃ I1 : Nat → List Dt → Prop, I1 0 acc ∧ (∀ j y acc, l1[j]? = some y → I1 j acc → acc.length < 1000000 ∧ EvT K t1 (sy y) fun b => if b = true then EvD K te (sy y) fun z => I1 (j + 1) (acc ++ [z]) else I1 (j + 1) acc) ∧ ∀ acc, I1 l1.length acc → I (i + 1) acc
      else I (i + 1) acc) ∧ ∀ acc, I l.length acc → R (.lst acc)) :
    EvD K (tLc2 wi g t wi1 g1 t1 te vs vs1) ss R := fun G σ H e s Q q =>
  h G σ H e s _ fun J l G1 H1 g1' w ⟨sx, hg, I, h0, hs, hd⟩ => by
    have s1 := s.up g1'.kn
    intro D nD
    have nG : G1 D = none := g1'.ink.free nD
    refine ⟨fun i m H' => m = l.length - i ∧ i ≤ l.length ∧ ∃ (G' : Hp) (acc : List Dt) (xs : List V), Go G1 H1 G' H' ∧ G' D = none ∧ H' D = some (.lst xs) ∧ Dats K G' acc xs ∧ I i acc, ⟨l.length, by simp, Nat.zero_le _, G1, [], [], Go.put g1'.ink nD, nG, upd_same, rfl, h0⟩, ?_⟩
    rintro i m H2 ⟨rfl, hi, G2, acc, xs, g2, n2, e2, d2, i2⟩
    by_cases hlt : i < l.length
    · refine .inr ⟨w.goes i H2 hlt (g2.kn.trans g2.ink), fun H' => ∃ (G' : Hp) (acc : List Dt) (xs : List V), Go G1 H1 G' H' ∧ G' D = none ∧ H' D = some (.lst xs) ∧ Dats K G' acc xs ∧ I (i + 1) acc, fun H' p' => ⟨l.length - (i + 1), by omega, rfl, hlt, p'⟩, fun x H3 y => ?_⟩
      obtain ⟨d, G3, hd3, g3, dx⟩ := w.yields i H2 x H3 hlt (g2.kn.trans g2.ink) y G2 g2.kn g2.ink
      have e3 : H3 D = some (.lst xs) := g3.up D _ e2
      have n3 : G3 D = none := g3.nw D n2 (by rw [e2]; exact fun z => nomatch z)
      refine hg d (List.mem_of_getElem? hd3) G3 H3 σ x g3.ink ((s1.up g2.kn).up g3.kn) dx _ fun σ4 s4 w4 => ⟨w4, ?_⟩
      refine hs i d acc hd3 i2 G3 σ4 H3 g3.ink s4 _ fun b G5 H5 g5 h5 => ?_
      have e5 : H5 D = some (.lst xs) := g5.up D _ e3
      have n5 : G5 D = none := g5.nw D n3 (by rw [e3]; exact fun z => nomatch z)
      have g15 := (g2.trans g3).trans g5
      have d5 := (d2.up g3.kn).up g5.kn
      cases b with
      | false => exact ⟨G5, acc, xs, g15, n5, e5, d5, h5⟩
      | true =>
        refine h5 G5 σ4 H5 g5.ink (s4.up g5.kn) _ fun J1 l1 G6 H6 g6 w1 ⟨sy, hg1, I1, k0, ks, kd⟩ => ?_
        have e6 : H6 D = some (.lst xs) := g6.up D _ e5
        have n6 : G6 D = none := g6.nw D n5 (by rw [e5]; exact fun z => nomatch z)
        have s6 := (s4.up g5.kn).up g6.kn
        refine ⟨fun j k H' => k = l1.length - j ∧ j ≤ l1.length ∧ ∃ (G' : Hp) (acc : List Dt) (xs : List V), Go G1 H1 G' H' ∧ Ex G6 G' ∧ G' D = none ∧ H' D = some (.lst xs) ∧ Dats K G' acc xs ∧ I1 j acc, ⟨l1.length, by simp, Nat.zero_le _, G6, acc, xs, g15.trans g6, Same.refl _, n6, e6, d5.up g6.kn, k0⟩, ?_⟩
        rintro j k H7 ⟨rfl, hj, G7, acc7, xs7, g7, x7, n7, e7, d7, i7⟩
        by_cases hlt1 : j < l1.length
        · refine .inr ⟨w1.goes j H7 hlt1 (x7.trans g7.ink), fun H' => ∃ (G' : Hp) (acc : List Dt) (xs : List V), Go G1 H1 G' H' ∧ Ex G6 G' ∧ G' D = none ∧ H' D = some (.lst xs) ∧ Dats K G' acc xs ∧ I1 (j + 1) acc, fun H' p' => ⟨l1.length - (j + 1), by omega, rfl, hlt1, p'⟩, fun x H8 y => ?_⟩
          obtain ⟨d', G8, hd8, g8, dx8⟩ := w1.yields j H7 x H8 hlt1 (x7.trans g7.ink) y G7 x7 g7.ink
          have e8 : H8 D = some (.lst xs7) := g8.up D _ e7
          have n8 : G8 D = none := g8.nw D n7 (by rw [e7]; exact fun z => nomatch z)
          refine hg1 d' (List.mem_of_getElem? hd8) G8 H8 σ4 x g8.ink ((s6.up x7).up g8.kn) dx8 _ fun σ9 s9 w9 => ⟨w9, ?_⟩
          obtain ⟨hl, ks⟩ := ks j d' acc7 hd8 i7
          refine ks G8 σ9 H8 g8.ink s9 _ fun b G10 H10 g10 h10 => ?_
          have e10 : H10 D = some (.lst xs7) := g10.up D _ e8
          have n10 : G10 D = none := g10.nw D n8 (by rw [e8]; exact fun z => nomatch z)
          have d10 := (d7.up g8.kn).up g10.kn
          cases b with
          | false => exact ⟨G10, acc7, xs7, (g7.trans g8).trans g10, (x7.trans g8.kn).trans g10.kn, n10, e10, d10, h10⟩
          | true =>
            refine h10 G10 σ9 H10 g10.ink (s9.up g10.kn) _ fun z dz G11 H11 g11 d11 h11 => ?_
            have e11 : H11 D = some (.lst xs7) := g11.up D _ e10
            have n11 : G11 D = none := g11.nw D n10 (by rw [e10]; exact fun z => nomatch z)
            have gg := ((g7.trans g8).trans g10).trans g11
            refine ⟨xs7, e11, by rw [d7.len]; exact sz_lt hl, G11, acc7 ++ [dz], xs7 ++ [z], gg.turn n11 nD, ((x7.trans g8.kn).trans g10.kn).trans g11.kn, n11, upd_same, Dats.snoc (d10.up g11.kn) d11, h11⟩
        · have e : j = l1.length := by omega
          subst e
          exact .inl ⟨w1.stops H7 (x7.trans g7.ink), G7, acc7, xs7, g7, n7, e7, d7, kd acc7 i7⟩
    · have e : i = l.length := by omega
      subst e
      refine .inl ⟨w.stops H2 (g2.kn.trans g2.ink), q (.ref D) (.lst acc) (upd G2 D (.lst xs)) H2 (g1'.trans (g2.tell n2 nD e2)) (dat_newL d2 n2) (hd acc i2)⟩
end
end Nv

set_option Elab.async false
set_option linter.all false
set_option maxRecDepth 100000
set_option maxHeartbeats 4000000
namespace Nv
open PySem PySem.Spec PyProof.Rows L2
/-! ### the law's call, where no repr is under way -/
section
variable {P : Program} {w : World} {K : PySem.W.Frag} {mg mb : Str → Option Value} {s : Shared} {a : Addr} {vs : List Value} {ns : List Int}
/-- what is tracked at the law's call: the script alone, or nothing -/
structure TopH (P : Program) (w : World) (K : PySem.W.Frag) (s : Shared) (a : Addr) (ns : List Int) (H : Hp) : Prop where
  sq : SqL K H a (ns.map V.int)
  ok : HOk P w H s.heap
  only : ∀ b u, H b = some u → b = a ∧ K.lookup a = none ∧ ∃ o xs, u = .frz o (.lst xs)
theorem top_H (KX : K.In s.heap) (ha : s.heap.get? a = some { cls := .type "list", data := .seq vs.toArray }) (hi : IntsAre vs ns) (hl : ns.length ≤ sizeLine) : ∃ H, TopH P w K s a ns H := by
  have rv := vals_ints hi
  cases hk : K.lookup a with
  | some o =>
    have e := KX a o hk
    rw [ha] at e
    cases e
    exact ⟨fun _ => none, .inr ⟨_, vs.toArray, _, hk, rfl, rfl, rfl, by rw [List.size_toArray, hi.length]; exact hl, by simpa using rv⟩, (fun b u z => nomatch (show (none : Option HO) = some u from z)), (fun b u z => nomatch (show (none : Option HO) = some u from z))⟩
  | none =>
    have at_ : ∀ {b : Addr} {u : HO}, (upd (fun _ => none) a (.frz { cls := .type "list", data := .seq vs.toArray } (.lst (ns.map V.int))) : Hp) b = some u → b = a ∧ u = .frz { cls := .type "list", data := .seq vs.toArray } (.lst (ns.map V.int)) := fun {b u} z => by
      by_cases c : b = a
      · subst c; rw [upd_same] at z; exact ⟨rfl, (Option.some.inj z).symm⟩
      · rw [upd_ne c] at z; cases z
    refine ⟨upd (fun _ => none) a (.frz { cls := .type "list", data := .seq vs.toArray } (.lst (ns.map V.int))), .inl (.inr ⟨_, upd_same⟩), fun b u z => ?_, fun b u z => ?_⟩
    · obtain ⟨rfl, rfl⟩ := at_ z
      exact ⟨ha, by rw [List.length_map]; exact hl, vs, _, rv, ha⟩
    · obtain ⟨rfl, rfl⟩ := at_ z
      exact ⟨rfl, hk, _, _, rfl⟩
theorem top_env {H : Hp} (KX : K.In s.heap) (hns : s.heap.Ns mainGlobals mg) (hb : s.heap.Ns builtinsNs mb) (hbb : ∀ x : Str, x ≠ "__name__" → mb x = bootBuiltins x) (hlim : s.heap.NoLimit) (hg : s.gens = #[])
    (ha : s.heap.get? a = some { cls := .type "list", data := .seq vs.toArray }) (T : TopH P w K s a ns H) : K.In (hidT s.heap H) ∧ (hidT s.heap H).Ns mainGlobals mg ∧ Env0 P w K mg (hidT s.heap H) callerA [] s H := by
  have free : ∀ {b : Addr} {o : Obj}, s.heap.get? b = some o → (∀ z, o ≠ { cls := .type "list", data := .seq vs.toArray } ∨ K.lookup a = some z) → (hidT s.heap H).get? b = some o := fun {b o} e q => hidT_get e (by
    cases c : H b with
    | none => rfl
    | some u =>
      obtain ⟨rfl, hk, _⟩ := T.only b u c
      rw [ha] at e
      rcases q o with q | q
      · exact absurd (Option.some.inj e).symm q
      · rw [hk] at q; cases q)
  have names : ∀ {b : Addr} {m : Str → Option Value}, s.heap.Ns b m → (hidT s.heap H).Ns b m := fun {b m} ⟨o, es, ep, e, d, r⟩ => ⟨o, es, ep, free e (fun z => .inl fun c => by subst c; cases d), d, r⟩
  have kin : K.In (hidT s.heap H) := fun b o e => hidT_get (KX b o e) (by
    cases c : H b with
    | none => rfl
    | some u => obtain ⟨rfl, hk, _⟩ := T.only b u c; rw [hk] at e; cases e)
  exact ⟨kin, names hns, rfl, ⟨kin, names hns, ⟨mb, names hb, hbb⟩, let ⟨mc, h1, h2⟩ := hlim; ⟨mc, names h1, h2⟩⟩, fun b o e => of_hidT e, Nat.le_of_eq (hidT_size _ _), trivial, (fun b hb => nomatch (show b ∈ ([] : List Addr) from hb)), T.ok, .of_eq hg⟩
theorem top_call {k : Nat} {fa : Addr} {fd : FuncData} {x : Str} {sp : Sp} (KX : K.In s.heap) (hns : s.heap.Ns mainGlobals mg) (hb : s.heap.Ns builtinsNs mb) (hbb : ∀ x : Str, x ≠ "__name__" → mb x = bootBuiltins x) (hlim : s.heap.NoLimit) (hg : s.gens = #[])
    (ha : s.heap.get? a = some { cls := .type "list", data := .seq vs.toArray }) (hi : IntsAre vs ns) (hl : ns.length ≤ sizeLine) (hr : Room k callerA)
    (F : ∀ base : Heap, FnG P w K mg base k fa fd [x] sp) (hbind : ∀ (s : Shared) (u : Value), BindsTo s fd ⟨[u], []⟩ [(x, u)])
    (hsp : ∀ H : Hp, SqL K H a (ns.map V.int) → sp [.ref a] H (fun v _ => v = .bl true) fun _ _ _ => False) :
    codeAny (model P w) callerA (.call (.ref fa) ⟨[.ref a], []⟩) (fun r s' => r = .ok (.ret (.bool true)) ∧ OldK s.heap s'.heap ∧ s'.os = s.os ∧ AllBare s'.gens) s := by
  obtain ⟨H, T⟩ := top_H (P := P) (w := w) KX ha hi hl
  obtain ⟨kin, hn', e0⟩ := top_env KX hns hb hbb hlim hg ha T
  refine codeAny_mono ((F _).run callerA [] s H ⟨[.ref a], []⟩ [.ref a] [.ref a] _ _ rfl hr e0 (hbind s (.ref a)) (.cons rfl .nil) (hsp H T.sq)) fun r s' h => ?_
  match r, h with
  | .error e, h => exact h.elim
  | .ok .next, h => exact False.elim h
  | .ok .brk, h => exact False.elim h
  | .ok .cont, h => exact False.elim h
  | .ok (.ret u), h =>
    obtain ⟨v, H', os, bare, un, hok', r', q⟩ := h
    cases (show v = .bl true from q)
    cases (show u = Value.bool true from r')
    refine ⟨rfl, OldK.of_keep fun b o e => ?_, os, bare⟩
    cases c : H b with
    | none => exact un.keep b o e c (fun z => nomatch (show b ∈ ([] : List Addr) from z)) (by simp)
    | some u =>
      obtain ⟨rfl, _, ob, xs, rfl⟩ := T.only b u c
      have e1 := (T.ok b _ c).1
      have e2 := (hok' b _ (un.frzs b ob _ c)).1
      rw [e] at e1
      cases e1
      exact e2
end
theorem walk_ofG {l : PySem.W.OpenLaw} {n k : Nat} {q : Program} {loose : List Str} {XP : (Str → Option Value) → Heap → Prop} {YP : World → Heap → Prop} {d : DefRec} {K : Params → PySem.W.Frag} {sp : World → Sp} {x : Str}
    (hn : l.most = some n) (hn2 : n ≤ sizeLine) (hdf : d.params.defaults = []) (hr : Room k callerA)
    (hY : ∀ (w : World) (h : Heap), YP w h → (K w.params).In h)
    (F : ∀ (w : World) (mg : Str → Option Value) (fa : Addr) (h : Heap), (K w.params).In h → h.Ns mainGlobals mg → mg d.name = some (.ref fa) →
      ∃ fd : FuncData, (∀ (s : Shared) (u : Value), BindsTo s fd ⟨[u], []⟩ [(x, u)]) ∧ ∀ base : Heap, FnG l.prog w (K w.params) mg base k fa fd [x] (sp w))
    (hsp : ∀ (w : World) (H : Hp) (a : Addr) (ns : List Int), ns.length ≤ n → SqL (K w.params) H a (ns.map V.int) → sp w [.ref a] H (fun v _ => v = .bl true) fun _ _ _ => False) :
    PySem.W.WalkO q loose XP YP l.row.toRowW d [] (fun f vs => PySem.call f vs) := by
  refine Att.attach_call hn hdf fun w s₀ s₁ mg mb fa o pm cd doc a vs ns G Y ho hd hcd hmg hobj hints hlen hg => ?_
  obtain ⟨fd, hb, hF⟩ := F w mg fa _ (hY w _ Y) G.T.g hmg
  exact top_call (hY w _ Y) G.T.g G.T.b G.T.builtins G.T.nolimit hg hobj hints (Nat.le_trans hlen hn2) hr hF hb fun H hS => hsp w H a ns hlen hS
end Nv

set_option Elab.async false
set_option linter.all false
set_option maxRecDepth 100000
set_option maxHeartbeats 4000000
namespace Nv
open PySem PySem.Spec PyProof.Rows L2
/-! ### len(x) by an own __len__ -/
theorem len_K {prog : Program} {w : World} {A : Around} {E : Value → Shared → Prop} {s : Shared} {K : PySem.W.Frag} {x C f : Addr} {ox : Obj} {od : Option Obj} {Q : Value → Shared → Prop} (X : K.In s.heap) (I : PySem.W.InstAt s.heap x ox C od)
    (hs : PySem.W.findIn K (.ref C) "__len__" = some (some (.ref f))) (hf : PySem.W.isFn K (.ref f) = true)
    (hcall : wpAny (model prog w) A.in1 (call (.ref f) [.ref x]) (fun r s' => ∃ n u, r = .int n u ∧ 0 ≤ n ∧ n < 2 ^ 63 ∧ Q (.int n s'.toks) { s' with toks := s'.toks + 1 }) E s) :
    wpAny (model prog w) A (call (.builtin "len") [.ref x]) Q E s := by
  refine Calls.call_function_entry kind_len plain_len entry_len (args_len1 _) ?_
  unfold Builtin.«len»
  refine wpAny_bind (m := oneArg "len" _) (wpAny_pure ?_)
  refine wpAny_bind (m := callSpecial? (.ref x) (Str.ofString "__len__")) (PySem.W.special_fn X I hs (beq_iff_eq.mp hf) (wpAny_mono hcall (fun r s' hr => ?_) fun _ _ y => y))
  obtain ⟨n, u, rfl, h0, h1, hq⟩ := hr
  refine wpAny_bind (wpAny_holding (wpAny_pure ?_))
  refine wpAny_bind (wpAny_letGo ?_)
  show wpAny _ _ (if n < 0 then _ else _) _ _ _
  rw [if_neg (by omega)]
  show wpAny _ _ (if n ≥ 2 ^ 63 then _ else _) _ _ _
  rw [if_neg (by omega)]
  exact wpAny_bind (wpAny_mkInt (wpAny_pure ⟨_, rfl, hq⟩))
def rLenO (K : PySem.W.Frag) (C : Addr) (sp : Sp) : List V → Hp → VK → Prop := fun xs H Q => ∃ a dx fs, xs = [.ref a] ∧ H a = some (.ins C dx fs) ∧ sp xs H (fun z H' => ∃ n : Int, z = .int n ∧ 0 ≤ n ∧ n < 2 ^ 62 ∧ Q z H') E0
theorem callLenO {X : Cx} {C g : Addr} {n : Nat} {sp : Sp} {K : PySem.W.Frag} (hK : X.K = K) (hs : PySem.W.findIn K (.ref C) "__len__" = some (some (.ref g))) (hf : PySem.W.isFn K (.ref g) = true) (F : FnR X.prog X.w X.K X.mg X.base CX0 n g sp) (hr : Room (n + 1) X.A) : CallR X (.builtin "len") (rLenO K C sp) := by
  subst hK
  intro pins s σ H xs us Q I r h
  obtain ⟨a, dx, fs, rfl, ha, q⟩ := h
  obtain ⟨u, rfl, ru⟩ := r.one
  cases (show u = Value.ref a from ru)
  obtain ⟨mA, O, _⟩ := ins_get I.hok ha
  obtain ⟨od, J, _⟩ := O.look
  have hr2 : Room n X.A.in1 := Room.in1 hr
  refine len_K I.kIn J hs hf (wpAny_mono (wpAny_call (SlX.run_at (us := [.ref a]) (ws := [.ref a]) F hr2 I.env0.in1 pass0 I (.cons rfl .nil) q)) (fun w s' z => ?_) fun _ _ x => x)
  obtain ⟨z', H', I', rz, m, rfl, h0, h1, qz⟩ := z
  obtain ⟨t, e⟩ := (show ∃ t, w = Value.int m t from rz)
  cases e
  exact ⟨m, t, rfl, h0, by omega, .int m, H', I'.tok _, ⟨_, rfl⟩, qz⟩
theorem cd_lenO {K : PySem.W.Frag} {R : Dt → Prop} {C : Addr} {l : List (Str × Dt)} {Pre : List Dt → (Dt → Prop) → Prop} (h : Pre [.ins C l] fun d => ∃ n : Int, d = .int n ∧ 0 ≤ n ∧ n < 2 ^ 62 ∧ R d) : CD K (rLenO K C (spD K Pre)) [.ins C l] R := fun G H vs e dd Q k => by
  obtain ⟨v, r, rfl, ⟨a, dx, fs, rfl, ha, hf⟩, d3⟩ := dd
  cases d3
  refine ⟨a, dx, fs, rfl, e _ _ ha, G, [.ins C l], _, e, ⟨_, _, rfl, ⟨a, dx, fs, rfl, ha, hf⟩, rfl⟩, h, fun z d G' H' g hd ⟨y, h1, h2, h3, h4⟩ => ?_⟩
  subst h1
  cases hd
  exact ⟨y, rfl, h2, h3, k _ (.int y) G' H' g rfl h4⟩
/-! ### x(e), x an instance with an own __call__ -/
section
variable {K : PySem.W.Frag} {ss : List Sd} {R : Dt → Prop} {C : Addr} {Pre : List Dt → (Dt → Prop) → Prop} {E : XK} {tf : TE} {t : TA} {X : Cx}
theorem ed_callO (h : EvD K tf ss fun d => ∃ l, d = .ins C l ∧ EvA K t ss fun ds => Pre (.ins C l :: ds) R) : EvD K (StX.tCallO X C (spD K Pre) E tf t) ss R := fun G σ H e s Q q =>
  h G σ H e s _ fun v d G1 H1 g1 d1 ⟨l, h1, h3⟩ => by
    subst h1
    obtain ⟨a, dx, fs, rfl, ha, hf⟩ := d1
    refine ⟨a, rfl, h3 G1 σ H1 g1.ink (s.up g1.kn) _ fun vs ds G2 H2 g2 d2 h4 => ?_⟩
    exact ⟨.inr ⟨dx, fs, g2.up _ _ (g1.ink _ _ ha)⟩, G2, .ins C l :: ds, R, g2.ink, ⟨_, _, rfl, ⟨a, dx, fs, rfl, g2.kn _ _ ha, hf.up g2.kn⟩, d2⟩, h4, fun v d G' H' g hd hr => q v d G' H' ((g1.trans g2).trans g) hd hr⟩
end
end Nv

set_option Elab.async false
set_option linter.all false
set_option maxRecDepth 100000
set_option maxHeartbeats 4000000
namespace Nv
open PySem PySem.Spec PyProof.Rows L2
/-! ### repr of data with dicts in it -/
mutual
inductive Rq (h : Heap) : Value → PyData → Prop
  | non : Rq h .none .none
  | bl (b : Bool) : Rq h (.bool b) (.bool b)
  | num (i : Int) (t : Tok) : Rq h (.int i t) (.int i)
  | txt (x : Str) (t : Tok) : Rq h (.str x t) (.str x)
  | lst {a : Addr} {o : Obj} {vs : Array Value} {n : Nat} {xs : List PyData} (h1 : h.get? a = some o) (h2 : o.cls = .type "list") (h3 : o.data = .seq vs n) (h4 : Rqs h vs.toList xs) : Rq h (.ref a) (.list xs)
  | tup {a : Addr} {o : Obj} {vs : Array Value} {n : Nat} {xs : List PyData} (h1 : h.get? a = some o) (h2 : o.cls = .type "tuple") (h3 : o.data = .seq vs n) (h4 : Rqs h vs.toList xs) : Rq h (.ref a) (.tuple xs)
  | dic {a : Addr} {o : Obj} {es : Array DictEntry} {n : Nat} {kvs : List (PyData × PyData)} (h1 : h.get? a = some o) (h2 : o.cls = .type "dict") (h3 : o.data = .dict es n) (hy : (a == sysModules) = false)
      (h4 : Rqs h (es.toList.map (·.key)) (kvs.map (·.1))) (h5 : Rqs h (es.toList.map (·.val)) (kvs.map (·.2))) : Rq h (.ref a) (.dict kvs)
inductive Rqs (h : Heap) : List Value → List PyData → Prop
  | nil : Rqs h [] []
  | cons {v : Value} {vs : List Value} {d : PyData} {ds : List PyData} (h1 : Rq h v d) (h2 : Rqs h vs ds) : Rqs h (v :: vs) (d :: ds)
end
section
variable {h : Heap} {P : Program} {w : World}
mutual
theorem Rq.rds : ∀ {v : Value} {d : PyData}, Rq h v d → ∃ as, Reads h v d as
  | _, _, .non => ⟨_, .none⟩
  | _, _, .bl b => ⟨_, .bool b⟩
  | _, _, .num i t => ⟨_, .int i t⟩
  | _, _, .txt x t => ⟨_, .str x t⟩
  | _, _, .lst h1 h2 h3 h4 => let ⟨_, q⟩ := h4.rds; ⟨_, .list h1 h2 h3 q⟩
  | _, _, .tup h1 h2 h3 h4 => let ⟨_, q⟩ := h4.rds; ⟨_, .tuple h1 h2 h3 q⟩
  | _, _, .dic h1 h2 h3 _ h4 h5 => let ⟨_, q⟩ := h4.rds; let ⟨_, r⟩ := h5.rds; ⟨_, .dict h1 h2 h3 q r⟩
theorem Rqs.rds : ∀ {v : List Value} {d : List PyData}, Rqs h v d → ∃ as, ReadsAll h v d as
  | _, _, .nil => ⟨_, .nil⟩
  | _, _, .cons h1 h2 => let ⟨_, q⟩ := h1.rds; let ⟨_, r⟩ := h2.rds; ⟨_, .cons q r⟩
end
theorem Rqs.nilL {d : List PyData} (q : Rqs h [] d) : d = [] := by cases q; rfl
/-- what is shown of an entry's two sides -/
theorem ents {bs cs : List Addr} {kvs : List (PyData × PyData)} {es : List DictEntry} (k1 : ReprAllK P w bs h (PyData.depthAll (kvs.map (·.1))) (es.map (·.key)) (PyData.shownAll (kvs.map (·.1))))
    (k2 : ReprAllK P w cs h (PyData.depthAll (kvs.map (·.2))) (es.map (·.val)) (PyData.shownAll (kvs.map (·.2)))) : ReprEntriesK P w (bs ++ cs) h (PyData.depthKv kvs) es (PyData.shownKv kvs) := by
  rw [PyData.shownKv_eq]
  exact .of_two _ _ _ (k1.more_le (fun _ z => List.mem_append.mpr (.inl z)) (PyData.depthAll_keys_le kvs)) (k2.more_le (fun _ z => List.mem_append.mpr (.inr z)) (PyData.depthAll_vals_le kvs))
mutual
theorem Rq.sh : ∀ {v : Value} {d : PyData}, Rq h v d → d.showable = true → d.shown.length ≤ sizeLine → ∃ bs, ReadAtMost h d.depth bs ∧ ReprK P w bs h d.depth v d.shown
  | _, _, .non, _, _ => ⟨[], (fun _ z => nomatch z), .of_is ReprIs.none _ _ _⟩
  | _, _, .bl b, _, _ => ⟨[], (fun _ z => nomatch z), .of_is (ReprIs.bool b) _ _ _⟩
  | _, _, .num i t, hs, _ => ⟨[], (fun _ z => nomatch z), .of_is (ReprIs.int t (of_decide_eq_true hs)) _ _ _⟩
  | _, _, .txt x t, _, hz => ⟨[], (fun _ z => nomatch z), .of_is (ReprIs.str x t hz) _ _ _⟩
  | _, _, .lst (a := a) (vs := vs) (xs := xs) h1 h2 h3 h4, hs, hz => by
    have hz : (listText (PyData.shownAll xs)).length ≤ sizeLine := hz
    obtain ⟨bs, hb, hk⟩ := h4.sh hs fun t ht => Nat.le_trans (listText_mem_le ht) hz
    obtain ⟨_, r4⟩ := h4.rds
    have r : Reads h (.ref a) (.list xs) _ := .list h1 h2 h3 r4
    have hn := not_mem_of_deeper r (Nat.lt_succ_self (PyData.depthAll xs)) hb
    refine ⟨a :: bs, .cons r (Nat.le_succ (PyData.depthAll xs)) hb, ?_⟩
    obtain ⟨l⟩ := vs
    match l, h3, h4, hk with
    | [], h3, h4, _ =>
      cases h4.nilL
      exact ReprK.listEmpty h1 h2 h3
    | x :: l, h3, h4, hk => exact ReprK.list h1 h2 h3 hn (by simpa using hk.length_eq) fun i y e => hk.item i y (by simpa using e)
  | _, _, .tup (a := a) (xs := xs) h1 h2 h3 h4, hs, hz => by
    have hz : (tupleText (PyData.shownAll xs)).length ≤ sizeLine := hz
    obtain ⟨bs, hb, hk⟩ := h4.sh hs fun t ht => Nat.le_trans (tupleText_mem_le ht) hz
    obtain ⟨_, r4⟩ := h4.rds
    have r : Reads h (.ref a) (.tuple xs) _ := .tuple h1 h2 h3 r4
    exact ⟨a :: bs, .cons r (Nat.le_succ (PyData.depthAll xs)) hb, ReprK.tuple h1 h2 h3 (not_mem_of_deeper r (Nat.lt_succ_self (PyData.depthAll xs)) hb) hk⟩
  | _, _, .dic (a := a) (es := es) (kvs := kvs) h1 h2 h3 hy h4 h5, hs, hz => by
    have hz : (dictText (PyData.shownKv kvs)).length ≤ sizeLine := hz
    obtain ⟨s1, s2⟩ := PyData.showableKv_split kvs hs
    obtain ⟨b1, hb1, k1⟩ := h4.sh s1 fun t ht => let ⟨p, hp, hl⟩ := PyData.shownKv_key_le kvs t ht; Nat.le_trans hl (Nat.le_trans (dictText_mem_le hp) hz)
    obtain ⟨b2, hb2, k2⟩ := h5.sh s2 fun t ht => let ⟨p, hp, hl⟩ := PyData.shownKv_val_le kvs t ht; Nat.le_trans hl (Nat.le_trans (dictText_mem_le hp) hz)
    obtain ⟨_, r4⟩ := h4.rds
    obtain ⟨_, r5⟩ := h5.rds
    have r : Reads h (.ref a) (.dict kvs) _ := .dict h1 h2 h3 r4 r5
    have hb := (hb1.mono (PyData.depthAll_keys_le kvs)).append (hb2.mono (PyData.depthAll_vals_le kvs))
    exact ⟨a :: (b1 ++ b2), .cons r (Nat.le_succ (PyData.depthKv kvs)) hb, ReprK.dict h1 h2 h3 hy (not_mem_of_deeper r (Nat.lt_succ_self (PyData.depthKv kvs)) hb) (ents k1 k2)⟩
theorem Rqs.sh : ∀ {v : List Value} {d : List PyData}, Rqs h v d → PyData.showableAll d = true → (∀ t ∈ PyData.shownAll d, t.length ≤ sizeLine) → ∃ bs, ReadAtMost h (PyData.depthAll d) bs ∧ ReprAllK P w bs h (PyData.depthAll d) v (PyData.shownAll d)
  | _, _, .nil, _, _ => ⟨[], (fun _ z => nomatch z), .nil⟩
  | _, _, .cons (d := d) (ds := ds) h1 h2, hs, hz => by
    obtain ⟨s1, s2⟩ := Bool.and_eq_true_iff.mp (show (d.showable && PyData.showableAll ds) = true from hs)
    obtain ⟨b1, hb1, k1⟩ := h1.sh s1 (hz _ (List.mem_cons_self ..))
    obtain ⟨b2, hb2, k2⟩ := h2.sh s2 fun t ht => hz t (List.mem_cons_of_mem _ ht)
    exact ⟨b1 ++ b2, (hb1.mono (Nat.le_max_left _ _)).append (hb2.mono (Nat.le_max_right _ _)), .cons ((k1.more fun _ z => List.mem_append.mpr (.inl z)).level_le (Nat.le_max_left _ _)) (k2.more_le (fun _ z => List.mem_append.mpr (.inr z)) (Nat.le_max_right _ _))⟩
end
theorem Rq.repr {A : Around} {E : Value → Shared → Prop} {s : Shared} {Q : Value → Shared → Prop} {v : Value} {d : PyData} (r : Rq s.heap v d) (hs : d.showable = true) (hg : A.guards = some []) (hu : A.units + (d.depth + 1) < cLine) (hz : d.shown.length ≤ sizeLine)
    (hQ : ∀ h' u tk, (∀ b o, s.heap.get? b = some o → h'.get? b = some o) → Q (.str d.shown u) { s with heap := h', toks := tk }) : wpAny (model P w) A (call (.builtin "repr") [v]) Q E s := by
  have same : ∀ b o, s.heap.get? b = some o → s.heap.get? b = some o := fun _ _ e => e
  cases r with
  | non => exact PySem.P.repr_of_none (hQ _ _ _ same)
  | bl b => exact PySem.P.repr_of_bool (hQ _ _ _ same)
  | num i t => exact PySem.P.repr_of_int (of_decide_eq_true hs) (hQ _ _ _ same)
  | txt x t => exact PySem.P.repr_of_str (hQ _ _ _ same) hz
  | @lst a o vs n xs h1 h2 h3 h4 =>
    have hz : (listText (PyData.shownAll xs)).length ≤ sizeLine := hz
    have hu : A.units + (PyData.depthAll xs + 1 + 1) < cLine := hu
    obtain ⟨bs, hb, hk⟩ := h4.sh (P := P) (w := w) hs fun t ht => Nat.le_trans (listText_mem_le ht) hz
    obtain ⟨_, r4⟩ := h4.rds
    have hn := not_mem_of_deeper (Reads.list h1 h2 h3 r4) (Nat.lt_succ_self (PyData.depthAll xs)) hb
    refine call_repr_slot (by omega) ⟨o, h1, h2⟩ F.slot_list_repr.toG ?_
    obtain ⟨l⟩ := vs
    match l, h3, h4, hk with
    | [], h3, h4, _ =>
      cases h4.nilL
      exact call_list_repr_empty ⟨o, h1, h2⟩ h1 h3 ⟨_, _, rfl, hQ s.heap _ _ same⟩
    | x :: l, h3, h4, hk => exact call_list_reprK h1 h2 h3 hn (by simpa using hk.length_eq) (fun i y e => hk.item i y (by simpa using e)) hg (fun b _ => Clear.nil b) (by show A.units + 1 + _ < cLine; omega) same (fun h' u tk k => ⟨_, _, rfl, hQ h' u tk k⟩) hz
  | @tup a o vs n xs h1 h2 h3 h4 =>
    have hz : (tupleText (PyData.shownAll xs)).length ≤ sizeLine := hz
    have hu : A.units + (PyData.depthAll xs + 1 + 1) < cLine := hu
    obtain ⟨bs, hb, hk⟩ := h4.sh (P := P) (w := w) hs fun t ht => Nat.le_trans (tupleText_mem_le ht) hz
    obtain ⟨_, r4⟩ := h4.rds
    have hn := not_mem_of_deeper (Reads.tuple h1 h2 h3 r4) (Nat.lt_succ_self (PyData.depthAll xs)) hb
    exact call_repr_slot (by omega) ⟨o, h1, h2⟩ F.slot_tuple_repr (call_tuple_reprK h1 h2 h3 hn hk hg (fun b _ => Clear.nil b) (by show A.units + 1 + _ < cLine; omega) same (fun h' u tk k => ⟨_, _, rfl, hQ h' u tk k⟩) hz)
  | @dic a o es n kvs h1 h2 h3 hy h4 h5 =>
    have hz : (dictText (PyData.shownKv kvs)).length ≤ sizeLine := hz
    have hu : A.units + (PyData.depthKv kvs + 1 + 1) < cLine := hu
    obtain ⟨s1, s2⟩ := PyData.showableKv_split kvs hs
    obtain ⟨b1, hb1, k1⟩ := h4.sh (P := P) (w := w) s1 fun t ht => let ⟨p, hp, hl⟩ := PyData.shownKv_key_le kvs t ht; Nat.le_trans hl (Nat.le_trans (dictText_mem_le hp) hz)
    obtain ⟨b2, hb2, k2⟩ := h5.sh (P := P) (w := w) s2 fun t ht => let ⟨p, hp, hl⟩ := PyData.shownKv_val_le kvs t ht; Nat.le_trans hl (Nat.le_trans (dictText_mem_le hp) hz)
    obtain ⟨_, r4⟩ := h4.rds
    obtain ⟨_, r5⟩ := h5.rds
    have hb := (hb1.mono (PyData.depthAll_keys_le kvs)).append (hb2.mono (PyData.depthAll_vals_le kvs))
    have hn := not_mem_of_deeper (Reads.dict h1 h2 h3 r4 r5) (Nat.lt_succ_self (PyData.depthKv kvs)) hb
    exact call_repr_slot (by omega) ⟨o, h1, h2⟩ F.slot_dict_repr (call_dict_reprK h1 h2 h3 hy hn (ents k1 k2) hg (fun b _ => Clear.nil b) (by show A.units + 1 + _ < cLine; omega) same (fun h' u tk k => ⟨_, _, rfl, hQ h' u tk k⟩) hz)
end
/-! data of any kind, dicts too -/
def keyP : Key → PyData
  | .inl i => .int i
  | .inr x => .str x
mutual
def toPq : Dt → Option PyData
  | .non => some .none
  | .bl b => some (.bool b)
  | .int i => some (.int i)
  | .str x => some (.str x)
  | .lst l => (toPqs l).map .list
  | .sq l => (toPqs l).map .list
  | .tup l => (toPqs l).map .tuple
  | .dic l => (toPqk l).map .dict
  | _ => none
def toPqs : List Dt → Option (List PyData)
  | [] => some []
  | d :: l => match toPq d, toPqs l with
    | some p, some q => some (p :: q)
    | _, _ => none
def toPqk : List (Key × Dt) → Option (List (PyData × PyData))
  | [] => some []
  | (k, d) :: l => match toPq d, toPqk l with
    | some p, some q => some ((keyP k, p) :: q)
    | _, _ => none
end
theorem key_rq {h : Heap} {k : Key} {v : Value} (e : keyIs k v = true) : Rq h v (keyP k) := by
  rcases keyIs_shape e with ⟨i, t, rfl, rfl⟩ | ⟨x, t, rfl, rfl⟩
  · exact .num i t
  · exact .txt x t
section
variable {X : Cx} {pins : List (Addr × Obj)} {σ : L2.St} {G H : Hp} {s : Shared}
mutual
theorem rq_of (I : Inv X pins σ H s) (ex : Ex G H) : ∀ {d : Dt} {p : PyData} {v : V} {u : Value}, Dat X.K G d v → toPq d = some p → RelV v u → Rq s.heap u p
  | .non, _, _, _, h, e, r => by cases h; cases e; cases r; exact .non
  | .bl _, _, _, _, h, e, r => by cases h; cases e; cases r; exact .bl _
  | .int _, _, _, _, h, e, r => by cases h; cases e; obtain ⟨t, rfl⟩ := r; exact .num _ _
  | .str _, _, _, _, h, e, r => by cases h; cases e; obtain ⟨t, rfl⟩ := r; exact .txt _ _
  | .lst l, _, _, _, ⟨a, xs, h1, h2, h3⟩, e, r => by
    subst h1
    cases r
    obtain ⟨ps, q, rfl⟩ := Option.map_eq_some_iff.mp (show (toPqs l).map PyData.list = some _ from e)
    obtain ⟨its, rv, ⟨o, n, ho, hc, _, hd⟩, _⟩ := I.list (.inl (.inl (ex _ _ h2)))
    exact .lst ho hc hd (rqs_of I ex h3 q rv)
  | .sq l, _, _, _, ⟨a, xs, h1, h2, h3⟩, e, r => by
    subst h1
    cases r
    obtain ⟨ps, q, rfl⟩ := Option.map_eq_some_iff.mp (show (toPqs l).map PyData.list = some _ from e)
    obtain ⟨its, rv, ⟨o, n, ho, hc, _, hd⟩, _⟩ := I.list (ex.seq h2)
    exact .lst ho hc hd (rqs_of I ex h3 q rv)
  | .tup l, _, _, _, ⟨a, xs, h1, h2, h3⟩, e, r => by
    subst h1
    cases r
    obtain ⟨ps, q, rfl⟩ := Option.map_eq_some_iff.mp (show (toPqs l).map PyData.tuple = some _ from e)
    obtain ⟨its, rv, ⟨o, ho, hc, n, hd⟩, _⟩ := I.tuple (Ex.tup ex h2)
    exact .tup ho hc hd (rqs_of I ex h3 q rv)
  | .dic l, _, _, _, ⟨a, kvs, h1, h2, h3⟩, e, r => by
    subst h1
    cases r
    obtain ⟨ps, q, rfl⟩ := Option.map_eq_some_iff.mp (show (toPqk l).map PyData.dict = some _ from e)
    obtain ⟨_, hy, vs, rel, o, es, ep, ho, hx, hd, _, hp, _⟩ := dk_of I.hok (ex _ _ h2)
    obtain ⟨k1, k2⟩ := rqk_of I ex h3 q rel hp
    exact .dic ho hx.1 hd hy k1 k2
  | .ty _, _, _, _, _, e, _ => by cases e
  | .ins _ _, _, _, _, _, e, _ => by cases e
  | .ext _, _, _, _, _, e, _ => by cases e
  | .obj _, _, _, _, _, e, _ => by cases e
theorem rqs_of (I : Inv X pins σ H s) (ex : Ex G H) : ∀ {l : List Dt} {ps : List PyData} {xs : List V} {us : List Value}, Dats X.K G l xs → toPqs l = some ps → Vals xs us → Rqs s.heap us ps
  | [], _, _, _, h, e, r => by cases h; cases e; cases r; exact .nil
  | d :: l, _, _, _, ⟨x, r, h1, h2, h3⟩, e, rv => by
    subst h1
    cases rv with
    | cons r1 r2 =>
      have e : (match toPq d, toPqs l with | some p, some q => some (p :: q) | _, _ => none) = some _ := e
      cases q1 : toPq d with
      | none => rw [q1] at e; cases e
      | some p =>
        cases q2 : toPqs l with
        | none => rw [q1, q2] at e; cases e
        | some ps => rw [q1, q2] at e; cases e; exact .cons (rq_of I ex h2 q1 r1) (rqs_of I ex h3 q2 r2)
theorem rqk_of (I : Inv X pins σ H s) (ex : Ex G H) : ∀ {l : List (Key × Dt)} {ps : List (PyData × PyData)} {xs : List (Key × V)} {us : List (Key × Value)} {es : List DictEntry}, Datk X.K G l xs → toPqk l = some ps → KV xs us → PySem.Pairs (mixKind X.prog X.w) es us →
    Rqs s.heap (es.map (·.key)) (ps.map (·.1)) ∧ Rqs s.heap (es.map (·.val)) (ps.map (·.2))
  | [], _, _, _, _, h, e, r, hp => by cases h; cases e; cases r; cases hp; exact ⟨.nil, .nil⟩
  | (k, d) :: l, _, _, _, _, ⟨x, r, h1, h2, h3⟩, e, rv, hp => by
    subst h1
    cases rv with
    | cons r1 r2 =>
      cases hp with
      | cons p1 p2 p3 =>
        have e : (match toPq d, toPqk l with | some p, some q => some ((keyP k, p) :: q) | _, _ => none) = some _ := e
        cases q1 : toPq d with
        | none => rw [q1] at e; cases e
        | some p =>
          cases q2 : toPqk l with
          | none => rw [q1, q2] at e; cases e
          | some ps =>
            rw [q1, q2] at e
            cases e
            obtain ⟨k1, k2⟩ := rqk_of I ex h3 q2 r2 p3
            have r1' := r1.1
            have r1'' := r1.2
            rw [← p2] at r1''
            exact ⟨.cons (key_rq (by rw [show k = _ from r1']; exact p1)) k1, .cons (rq_of I ex h2 q1 r1'') k2⟩
end
end
/-! how long what is shown is at most -/
mutual
def szD : PyData → Nat
  | .none => 4
  | .bool _ => 5
  | .int i => i.natAbs.log2 + 3
  | .str x => 10 * x.length + 2
  | .list xs => szAll xs + 2
  | .tuple xs => szAll xs + 3
  | .dict kvs => szKv kvs + 2
def szAll : List PyData → Nat
  | [] => 0
  | x :: xs => szD x + 2 + szAll xs
def szKv : List (PyData × PyData) → Nat
  | [] => 0
  | (k, v) :: r => szD k + szD v + 4 + szKv r
end
mutual
/-- ints and texts that are not too large -/
def fitD : PyData → Bool
  | .none => true
  | .bool _ => true
  | .int i => decide (i.natAbs.log2 < 1920)
  | .str x => x.cps.toList.all fun c => decide (c < 16 ^ 8)
  | .list xs => fitAll xs
  | .tuple xs => fitAll xs
  | .dict kvs => fitKv kvs
def fitAll : List PyData → Bool
  | [] => true
  | x :: xs => fitD x && fitAll xs
def fitKv : List (PyData × PyData) → Bool
  | [] => true
  | (k, v) :: r => fitD k && fitD v && fitKv r
end
theorem piled_sz : ∀ {ts : List Str} {n : Nat}, ts ≠ [] → PySem.piled ts ≤ n → (Str.join ", " ts).length ≤ n := fun {ts n} h hn => by
  have := join_length_add ts h
  omega
theorem lst_len : ∀ (ts : List Str) (k : Nat) (acc : Str), (textFrom k acc ts).length ≤ acc.length + (ts.map fun t => t.length + 2).sum
  | [], k, acc => by show acc.length ≤ _; simp
  | t :: r, k, acc => by
    have ih := lst_len r (k + 1) (acc ++ (if k > 0 then ", " else "" : String) ++ t)
    have e : (acc ++ (if k > 0 then ", " else "" : String) ++ t).length ≤ acc.length + 2 + t.length := by
      rw [strLen_append, strLen_append]
      by_cases c : k > 0
      · rw [if_pos c, show ((", " : String) : Str).length = 2 from rfl] <;> omega
      · rw [if_neg c, show (("" : String) : Str).length = 0 from rfl]; omega
    show (textFrom (k + 1) (acc ++ (if k > 0 then ", " else "" : String) ++ t) r).length ≤ _
    rw [List.map_cons, List.sum_cons]
    omega
theorem join_len : ∀ ts : List Str, (Str.join ", " ts).length ≤ (ts.map fun t => t.length + 2).sum
  | [] => by show 0 ≤ _; exact Nat.zero_le _
  | [x] => by show x.length ≤ _; simp
  | x :: y :: r => by
    have ih := join_len (y :: r)
    show (x ++ ", " ++ Str.join ", " (y :: r)).length ≤ _
    rw [strLen_append, strLen_append, List.map_cons, List.sum_cons, show ((", " : String) : Str).length = 2 from rfl]
    omega
mutual
theorem shown_le : ∀ {d : PyData}, fitD d = true → d.shown.length ≤ szD d
  | .none, _ => by decide
  | .bool b, _ => by cases b <;> decide
  | .int i, _ => by
    have := int_text_length_le (a := i) (k := i.natAbs.log2 + 1) (by omega) (by omega)
    show (Str.ofString (toString i)).length ≤ i.natAbs.log2 + 3
    rw [PySem.ofString_length]; omega
  | .str x, h => PySem.StrLaws.reprText_len x fun c hc => of_decide_eq_true (List.all_eq_true.mp h c hc)
  | .list xs, h => by
    have := shownAll_le (l := xs) h
    have e := lst_len (PyData.shownAll xs) 0 "["
    show (textFrom 0 "[" (PyData.shownAll xs) ++ "]").length ≤ szAll xs + 2
    rw [strLen_append, show (("]" : String) : Str).length = 1 from rfl]
    rw [show (("[" : String) : Str).length = 1 from rfl] at e
    omega
  | .tuple xs, h => by
    have := shownAll_le (l := xs) h
    have e := join_len (PyData.shownAll xs)
    show (("(" : Str) ++ Str.join ", " (PyData.shownAll xs) ++ (if (PyData.shownAll xs).length == 1 then ",)" else ")" : String)).length ≤ szAll xs + 3
    rw [strLen_append, strLen_append, show (("(" : String) : Str).length = 1 from rfl]
    cases (PyData.shownAll xs).length == 1 with
    | true => rw [if_pos rfl, show ((",)" : String) : Str).length = 2 from rfl]; omega
    | false => rw [if_neg Bool.false_ne_true, show ((")" : String) : Str).length = 1 from rfl]; omega
  | .dict kvs, h => by
    have := shownKv_le (l := kvs) h
    have e := join_len (PyData.shownKv kvs)
    show (("{" : Str) ++ Str.join ", " (PyData.shownKv kvs) ++ "}").length ≤ szKv kvs + 2
    rw [strLen_append, strLen_append, show (("{" : String) : Str).length = 1 from rfl, show (("}" : String) : Str).length = 1 from rfl]
    omega
theorem shownAll_le : ∀ {l : List PyData}, fitAll l = true → ((PyData.shownAll l).map fun t => t.length + 2).sum ≤ szAll l
  | [], _ => Nat.le_refl _
  | x :: l, h => by
    obtain ⟨h1, h2⟩ := Bool.and_eq_true_iff.mp (show (fitD x && fitAll l) = true from h)
    have a := shown_le h1
    have b := shownAll_le h2
    show (((x.shown :: PyData.shownAll l)).map fun t => t.length + 2).sum ≤ szD x + 2 + szAll l
    rw [List.map_cons, List.sum_cons]
    omega
theorem shownKv_le : ∀ {l : List (PyData × PyData)}, fitKv l = true → ((PyData.shownKv l).map fun t => t.length + 2).sum ≤ szKv l
  | [], _ => Nat.le_refl _
  | (k, v) :: l, h => by
    obtain ⟨h12, h3⟩ := Bool.and_eq_true_iff.mp (show ((fitD k && fitD v) && fitKv l) = true from h)
    obtain ⟨h1, h2⟩ := Bool.and_eq_true_iff.mp h12
    have a := shown_le h1
    have b := shown_le h2
    have c := shownKv_le h3
    show ((((k.shown ++ ": " ++ v.shown) :: PyData.shownKv l)).map fun t => t.length + 2).sum ≤ szD k + szD v + 4 + szKv l
    rw [List.map_cons, List.sum_cons, strLen_append, strLen_append, show ((": " : String) : Str).length = 2 from rfl]
    omega
end
mutual
theorem showable_of : ∀ {d : PyData}, fitD d = true → d.showable = true
  | .none, _ => rfl
  | .bool _, _ => rfl
  | .int _, h => h
  | .str _, _ => rfl
  | .list _, h => showables_of h
  | .tuple _, h => showables_of h
  | .dict _, h => showablek_of h
theorem showables_of : ∀ {l : List PyData}, fitAll l = true → PyData.showableAll l = true
  | [], _ => rfl
  | x :: l, h => by
    obtain ⟨h1, h2⟩ := Bool.and_eq_true_iff.mp (show (fitD x && fitAll l) = true from h)
    show (x.showable && PyData.showableAll l) = true
    rw [showable_of h1, showables_of h2]; rfl
theorem showablek_of : ∀ {l : List (PyData × PyData)}, fitKv l = true → PyData.showableKv l = true
  | [], _ => rfl
  | (k, v) :: l, h => by
    obtain ⟨h12, h3⟩ := Bool.and_eq_true_iff.mp (show ((fitD k && fitD v) && fitKv l) = true from h)
    obtain ⟨h1, h2⟩ := Bool.and_eq_true_iff.mp h12
    show ((k.showable && v.showable) && PyData.showableKv l) = true
    rw [showable_of h1, showable_of h2, showablek_of h3]; rfl
end
/-! the rule -/
def rReprQ (K : PySem.W.Frag) : List V → Hp → VK → Prop := fun xs H Q => ∃ (x : V) (G : Hp) (d : Dt) (p : PyData), xs = [x] ∧ Ex G H ∧ Dat K G d x ∧ toPq d = some p ∧ fitD p = true ∧ p.depth ≤ 60 ∧ szD p ≤ 1000000 ∧ Q (.str p.shown) H
theorem callReprQ {X : Cx} {K : PySem.W.Frag} (hK : X.K = K) (hA : X.A.guards = some []) (hu : X.A.units + 64 < cLine) : CallR X (.builtin "repr") (rReprQ K) := by
  subst hK
  intro pins s σ H xs us Q I r h
  obtain ⟨x, G, d, p, rfl, ex, hd, hp, hf, hdp, hz, q⟩ := h
  obtain ⟨u, rfl, rx⟩ := vals1 r
  exact (rq_of I ex hd hp rx).repr (showable_of hf) hA (by omega) (Nat.le_trans (shown_le hf) (sz_of hz)) fun h' t tk k => ⟨.str p.shown, H, I.kept k, ⟨_, rfl⟩, q⟩
theorem cd_reprQ {K : PySem.W.Frag} {R : Dt → Prop} {d : Dt} {p : PyData} (hp : toPq d = some p) (hf : fitD p = true) (hdp : p.depth ≤ 60) (hz : szD p ≤ 1000000) (h : R (.str p.shown)) : CD K (rReprQ K) [d] R := fun G H vs e dd Q k => by
  obtain ⟨v, r, rfl, d1, d2⟩ := dd
  cases d2
  exact ⟨v, G, d, p, rfl, e, d1, hp, hf, hdp, hz, k _ (.str _) G H (Go.refl e) rfl h⟩
end Nv

set_option Elab.async false
set_option linter.all false
set_option maxRecDepth 100000
set_option maxHeartbeats 4000000
namespace Nv
open PySem PySem.Spec PyProof.Rows L2
/-! ### what is known of a class of the text -/
def kinds7 : List String := ["NoneType", "bool", "int", "str", "tuple", "list", "dict"]
theorem kit_no {K : PySem.W.Frag} {C : Addr} {t : Value} (h0 : t ≠ .ref C) (h1 : PySem.W.isClsIn K C = true) (h2 : PySem.W.typeIn K (.ref C) = some (.type "type")) (h3 : PySem.W.subIn K t (.ref C) = some false) : PySem.W.kitOne K t (.ref C) = some false := by
  unfold PySem.W.kitOne
  rw [if_neg (by simpa using h0)]
  show (if ((PySem.W.clsIn K C).isSome && PySem.W.typeIn K (.ref C) == some (.type "type")) = true then PySem.W.subIn K t (.ref C) else none) = some false
  rw [if_pos (by rw [h2, show (PySem.W.clsIn K C).isSome = true from h1]; simp)]
  exact h3
theorem kit_self {K : PySem.W.Frag} {C : Addr} : PySem.W.kitOne K (.ref C) (.ref C) = some true := by
  unfold PySem.W.kitOne
  rw [if_pos (by simp)]
theorem nfC {K : PySem.W.Frag} {C : Addr} : PySem.W.notFirst K C (.ref C) = true := by unfold PySem.W.notFirst; simp
structure Klass (K : PySem.W.Frag) (mg : Str → Option Value) (nm : Str) (C : Addr) : Prop where
  ci : ClsI K C
  m : mg nm = some (.ref C)
  kp : PySem.W.keepIn K (.ref C) = true
  cr : ClX.CRead K C (.type "type")
  q_ne : PySem.W.findIn K (.ref C) "__ne__" = some (some (.builtin "object.__ne__"))
  q_ob : PySem.W.subIn K (.ref C) (.type "object") = some true
  isC : PySem.W.isClsIn K C = true
  tyC : PySem.W.typeIn K (.ref C) = some (.type "type")
  nf : ∀ T ∈ kinds7, PySem.W.notFirst K C (.type T) = true
  kC : ∀ T ∈ kinds7, PySem.W.kitOne K (.type T) (.ref C) = some false
theorem Klass.cls {K : PySem.W.Frag} {mg : Str → Option Value} {nm : Str} {C : Addr} (k : Klass K mg nm C) : Cls K C := k.ci.cls
theorem klass_mk {K : PySem.W.Frag} {mg : Str → Option Value} {nm : Str} {C : Addr} (m : mg nm = some (.ref C)) (pg : PySem.W.plainGet K C Str.empty = true) (hd : PySem.W.hasDictIn K C = true) (po : PySem.W.plainOver K C = true)
    (sa : PySem.W.findIn K (.ref C) "__setattr__" = some (some (.builtin "object.__setattr__"))) (kc : PySem.W.keepIn K (.ref C) = true) (ca : PySem.W.findIn K (.ref C) "__class__" = some (some (.builtin "object.__class__")))
    (cn : PySem.W.specialIn K (.builtin "object.__class__") "__get__" = some (some (.builtin "getset_descriptor.__get__"))) (ct : PySem.W.takesIn K (.builtin "object.__class__") = some true) (cm : PySem.W.mroIn K C (.type "object") = some true)
    (crd : PySem.W.readsIn K C (.type "type") = true) (cga : PySem.W.specialIn K (.ref C) "__getattribute__" = some (some (.builtin "type.__getattribute__"))) (qne : PySem.W.findIn K (.ref C) "__ne__" = some (some (.builtin "object.__ne__")))
    (qob : PySem.W.subIn K (.ref C) (.type "object") = some true) (nf0 : PySem.W.notFirst K C (.type "NoneType") = true) (nf1 : PySem.W.notFirst K C (.type "bool") = true) (nf2 : PySem.W.notFirst K C (.type "int") = true) (nf3 : PySem.W.notFirst K C (.type "str") = true)
    (nf4 : PySem.W.notFirst K C (.type "tuple") = true) (nf5 : PySem.W.notFirst K C (.type "list") = true) (nf6 : PySem.W.notFirst K C (.type "dict") = true) (ki0 : PySem.W.subIn K (.type "NoneType") (.ref C) = some false) (ki1 : PySem.W.subIn K (.type "bool") (.ref C) = some false)
    (ki2 : PySem.W.subIn K (.type "int") (.ref C) = some false) (ki3 : PySem.W.subIn K (.type "str") (.ref C) = some false) (ki4 : PySem.W.subIn K (.type "tuple") (.ref C) = some false) (ki5 : PySem.W.subIn K (.type "list") (.ref C) = some false) (ki6 : PySem.W.subIn K (.type "dict") (.ref C) = some false)
    (isC : PySem.W.isClsIn K C = true) (tyC : PySem.W.typeIn K (.ref C) = some (.type "type")) : Klass K mg nm C :=
  { ci := ⟨⟨pg, hd, po, sa⟩, ⟨ca, cn, ct, cm⟩⟩, m := m, kp := kc, cr := ⟨crd, cga⟩, q_ne := qne, q_ob := qob, isC := isC, tyC := tyC,
    nf := by simp only [kinds7, List.forall_mem_cons]; exact ⟨nf0, nf1, nf2, nf3, nf4, nf5, nf6, fun x hx => nomatch hx⟩,
    kC := by simp only [kinds7, List.forall_mem_cons]; exact ⟨kit_no (by simp) isC tyC ki0, kit_no (by simp) isC tyC ki1, kit_no (by simp) isC tyC ki2, kit_no (by simp) isC tyC ki3, kit_no (by simp) isC tyC ki4, kit_no (by simp) isC tyC ki5, kit_no (by simp) isC tyC ki6, fun x hx => nomatch hx⟩ }
theorem pe_cl {X : Cx} {x : Str} {C : Addr} {pos : Pos} (hg : Gl X x) (h : X.mg x = some (.ref C)) (hd : (x == ("__debug__" : Str)) = false := by decide) : PE X (.Name x pos) (tC (.ref C)) := pe_g hg ⟨_, h, rfl⟩ hd
/-- a def with *args -/
def BindsStar (fd : FuncData) (ps : List Str) (pv : Str) : Prop := ∀ (us rest : List Value), us.length = ps.length → bindArgs fd ⟨us ++ rest, []⟩ = (newTuple rest >>= fun t => pure (ps.zip us ++ [(pv, t)]))
def DmS (K : PySem.W.Frag) (C : Addr) (x qual : Str) (st : Stmt) (ps : List Str) (pv : Str) (f : Addr) : Prop := ∃ fd, Fun K x qual st f fd ∧ BindsStar fd ps pv
/-! ### defs with defaults, all of them given -/
def Dfd (K : PySem.W.Frag) (mg : Str → Option Value) (x : Str) (st : Stmt) (ps : List Str) : Prop :=
  ∃ dvs f fd, FunD K x x (defArgs st) (defBody st) (defScope st) dvs [] f fd ∧ Binds K fd ps [] ∧ mg x = some (.ref f)
section
variable {P : Program} {w : World} {K : PySem.W.Frag} {mg : Str → Option Value} {base : Heap}
theorem gfd_of {x : Str} {st : Stmt} {N ps : List Str} {k : Nat} {Pre : List Dt → (Dt → Prop) → Prop} (F : Dfd K mg x st ps) (S : FnScope N ps (defScope st)) (len : ∀ ds R, Pre ds R → ds.length = ps.length)
    (hbody : ∀ (f : Addr) (cdv : Value) (A : Around) (outer : List Env) (s : Shared) (H : Hp) (E : XK), Room k (A.deeper (envOfC x (defScope st) s.heap.objs.size f cdv)) →
      ∃ t, PSs (cxOf CX0 P w K mg base N x (defScope st) f cdv A outer s H E).nox (defBody st) t ∧ ∀ ds R, Pre ds R → StD K x0 t (startS N.length ds) (fun _ => R .non) (fun _ => False) (fun _ => False) R) :
    Gf P w K mg base x (k + 1) ps Pre := by
  obtain ⟨dvs, f, fd, F, b, m⟩ := F
  refine ⟨f, fd, F.ok S (fun vs H Q E h => ?_) (fun cdv A outer s H vs Q E hr h => ?_), b, m, F.kp, ?_⟩
  · obtain ⟨G, ds, R, e, d, p, _⟩ := h
    rw [d.len]; exact len ds R p
  · obtain ⟨G, ds, R, e, d, p, q⟩ := h
    obtain ⟨t, ht, hs⟩ := hbody f cdv A outer s H E hr
    exact ⟨t, ht.nox, hs ds R p G H _ _ G H (Go.refl e) (sl_start e d) (fun σ' s' G' H' g' _ hn => q .non .non G' H' g' rfl hn) (fun σ' s' G' H' g' _ hn => hn.elim) (fun σ' s' G' H' g' _ hn => hn.elim) (fun v d G' H' g' dd hr => q v d G' H' g' dd hr) fun _ _ _ _ _ _ _ _ _ _ hx => hx.elim⟩
  · obtain ⟨oc, od, dV, kV, doc, pm, an, cdv, ct, osl, _, lk, _⟩ := F.ex
    exact ⟨oc, od, osl, lk⟩
end
end Nv

set_option Elab.async false
set_option linter.all false
set_option maxRecDepth 100000
set_option maxHeartbeats 4000000
/-! CutM: what a cutter keeps, in plain lists. -/
namespace Nv
open PySem PySem.Spec PyProof.Rows L2
open SX (S)
inductive Part where
  | all | pat (f b : List Bool)
def sg (b : Bool) : Nat := if b then 43 else 45
def Part.txt : Part → List Nat
  | .all => [97, 108, 108]
  | .pat f b => f.map sg ++ [46, 46] ++ b.map sg
def Part.ok : Part → Prop
  | .all => True
  | .pat f b => f.length ≤ 2 ∧ b.length ≤ 3
def Part.isAll : Part → Bool
  | .all => true
  | .pat _ _ => false
abbrev Part.s (p : Part) : Str := S p.txt
abbrev Part.d (p : Part) : Dt := .str p.s
theorem txt_len {p : Part} (h : p.ok) : p.txt.length ≤ 7 := by
  cases p with
  | all => decide
  | pat f b => have := h.1; have := h.2; simp [Part.txt]; omega
/-- ways to look through the few patterns that there are -/
theorem pat_cases {P : List Bool → List Bool → Prop} (h : ∀ f ∈ [[], [true], [false], [true, true], [true, false], [false, true], [false, false]], ∀ b ∈ [[], [true], [false], [true, true], [true, false], [false, true], [false, false], [true, true, true], [true, true, false], [true, false, true], [true, false, false], [false, true, true], [false, true, false], [false, false, true], [false, false, false]], P f b)
    {f b : List Bool} (hf : f.length ≤ 2) (hb : b.length ≤ 3) : P f b := by
  refine h f ?_ b ?_
  · match f, hf with
    | [], _ => simp
    | [x], _ => cases x <;> simp
    | [x, y], _ => cases x <;> cases y <;> simp
  · match b, hb with
    | [], _ => simp
    | [x], _ => cases x <;> simp
    | [x, y], _ => cases x <;> cases y <;> simp
    | [x, y, z], _ => cases x <;> cases y <;> cases z <;> simp
theorem split_pat {f b : List Bool} (hf : f.length ≤ 2) (hb : b.length ≤ 3) : Txt.split (S (Part.pat f b).txt) (S [46, 46]) = [S (f.map sg), S (b.map sg)] := by
  rw [SX.split_S (by decide) (by decide)]
  have : TL.spl [46, 46] 0 [] (Part.pat f b).txt = [f.map sg, b.map sg] :=
    pat_cases (P := fun f b => TL.spl [46, 46] 0 [] (Part.pat f b).txt = [f.map sg, b.map sg]) (by decide) hf hb
  rw [this]; rfl
theorem pat_ne_all {f b : List Bool} (hf : f.length ≤ 2) (hb : b.length ≤ 3) : (Part.pat f b).txt ≠ [97, 108, 108] :=
  pat_cases (P := fun f b => (Part.pat f b).txt ≠ [97, 108, 108]) (by decide) hf hb
theorem S_inj {a b : List Nat} (h : S a = S b) : a = b := by
  have := congrArg (fun x : Str => x.cps.toList) h
  simpa [SX.S] using this
theorem part_all {p : Part} (h : p.ok) : decide (p.s = "all") = p.isAll := by
  have e : ("all" : Str) = S [97, 108, 108] := rfl
  rw [e]
  cases p with
  | all => exact decide_eq_true rfl
  | pat f b => exact decide_eq_false fun q => pat_ne_all h.1 h.2 (S_inj q)
/-! ### places -/
def keepB (f b : List Bool) (n p : Nat) : Bool := f.getD p false || (decide (n ≤ p + b.length) && b.getD (p + b.length - n) false)
def Part.pl : Part → Nat → List Nat
  | .all, n => List.range n
  | .pat f b, n => (List.range n).filter (keepB f b n)
def cutRow {α : Type} (p : Part) (row : List α) : List α := (p.pl row.length).filterMap (row[·]?)
def kept {α : Type} : List Part → List α → List α
  | [], row => row
  | p :: ps, row => kept ps (cutRow p row)
def chain (ps : List Part) (n : Nat) : List Nat := kept ps (List.range n)
theorem range_all {α : Type} : ∀ (row : List α), (List.range row.length).filterMap (row[·]?) = row
  | [] => rfl
  | x :: row => by
    have ih := range_all row
    rw [List.length_cons, List.range_succ_eq_map, List.filterMap_cons]
    simp only [List.getElem?_cons_zero]
    rw [List.filterMap_map]
    have : ((fun i => (x :: row)[i]?) ∘ Nat.succ) = fun i => row[i]? := by funext i; simp
    rw [this, ih]
theorem cut_all {α : Type} (row : List α) : cutRow .all row = row := range_all row
theorem cut_map {α β : Type} (g : α → β) (p : Part) (row : List α) : cutRow p (row.map g) = (cutRow p row).map g := by
  unfold cutRow
  rw [List.length_map, List.map_filterMap]
  congr 1
  funext i
  simp
theorem kept_map {α β : Type} (g : α → β) : ∀ (ps : List Part) (row : List α), kept ps (row.map g) = (kept ps row).map g
  | [], _ => rfl
  | p :: ps, row => by
    show kept ps (cutRow p (row.map g)) = (kept ps (cutRow p row)).map g
    rw [cut_map, kept_map g ps]
theorem cut_sub {α : Type} (p : Part) (row : List α) : (cutRow p row).Sublist row := by
  cases p with
  | all => rw [cut_all]; exact List.Sublist.refl _
  | pat f b =>
    have h := (List.filter_sublist (p := keepB f b row.length) (l := List.range row.length)).filterMap (row[·]?)
    rw [range_all] at h
    exact h
theorem kept_sub {α : Type} : ∀ (ps : List Part) (row : List α), (kept ps row).Sublist row
  | [], row => List.Sublist.refl _
  | p :: ps, row => (kept_sub ps (cutRow p row)).trans (cut_sub p row)
/-- strictly ascending lists with the same members are the same -/
theorem asc_eq : ∀ {l m : List Nat}, l.Pairwise (· < ·) → m.Pairwise (· < ·) → (∀ x, x ∈ l ↔ x ∈ m) → l = m
  | [], [], _, _, _ => rfl
  | [], y :: m, _, _, h => absurd ((h y).mpr (by simp)) (by simp)
  | x :: l, [], _, _, h => absurd ((h x).mp (by simp)) (by simp)
  | x :: l, y :: m, h1, h2, h => by
    have a := List.pairwise_cons.mp h1
    have b := List.pairwise_cons.mp h2
    have e : x = y := by
      have hx := (h x).mp (by simp)
      have hy := (h y).mpr (by simp)
      rcases List.mem_cons.mp hx with c | c
      · exact c
      · rcases List.mem_cons.mp hy with d | d
        · exact d.symm
        · have := a.1 y d; have := b.1 x c; omega
    subst e
    rw [asc_eq a.2 b.2 fun z => ?_]
    have hz := h z
    simp only [List.mem_cons] at hz
    refine ⟨fun c => ?_, fun c => ?_⟩
    · rcases hz.mp (.inr c) with d | d
      · have := a.1 z c; omega
      · exact d
    · rcases hz.mpr (.inr c) with d | d
      · have := b.1 z c; omega
      · exact d
theorem chain_asc (ps : List Part) (n : Nat) : (chain ps n).Pairwise (· < ·) := List.Pairwise.sublist (kept_sub ps _) List.pairwise_lt_range
theorem chain_lt {ps : List Part} {n x : Nat} (h : x ∈ chain ps n) : x < n := List.mem_range.mp ((kept_sub ps _).subset h)
theorem chain_len (ps : List Part) (n : Nat) : (chain ps n).length ≤ n := by
  have := (kept_sub ps (List.range n)).length_le
  rwa [List.length_range] at this
/-! ### from five places to any number -/
def far (n p : Nat) : Nat := if p < 2 then p else n - 5 + p
theorem cut_range (p : Part) (n : Nat) : cutRow p (List.range n) = p.pl n := by
  unfold cutRow
  rw [List.length_range]
  have h : ∀ l : List Nat, (∀ x ∈ l, x < n) → l.filterMap ((List.range n)[·]?) = l := fun l hl => by
    induction l with
    | nil => rfl
    | cons x l ih =>
      have hx : x < n := hl x (by simp)
      rw [List.filterMap_cons]
      have e : (List.range n)[x]? = some x := by simp [hx]
      rw [e]
      simp only
      rw [ih fun y hy => hl y (by simp [hy])]
  refine h _ fun x hx => ?_
  cases p with
  | all => exact List.mem_range.mp hx
  | pat f b => exact List.mem_range.mp (List.mem_filter.mp hx).1
theorem range_far (m : Nat) : List.range (m + 5) = [0, 1] ++ (List.range m).map (· + 2) ++ [m + 2, m + 3, m + 4] := by
  rw [show m + 5 = 2 + (m + 3) by omega, List.range_add, List.range_add]
  simp only [List.map_append, List.map_map]
  have e1 : List.range 2 = [0, 1] := by decide
  have e2 : List.range 3 = [0, 1, 2] := by decide
  rw [e1, e2, List.append_assoc]
  congr 1
  congr 1
  · refine List.map_congr_left fun x _ => ?_; omega
  · simp; omega
theorem pl_far {f b : List Bool} (hf : f.length ≤ 2) (hb : b.length ≤ 3) (m : Nat) : (Part.pat f b).pl (m + 5) = ((Part.pat f b).pl 5).map (far (m + 5)) := by
  show (List.range (m + 5)).filter (keepB f b (m + 5)) = ((List.range 5).filter (keepB f b 5)).map (far (m + 5))
  have k0 : ∀ p, 2 ≤ p → f.getD p false = false := fun p hp => by
    rw [List.getD_eq_getElem?_getD, List.getElem?_eq_none (by omega)]; rfl
  have mid : ((List.range m).map (· + 2)).filter (keepB f b (m + 5)) = [] := by
    rw [List.filter_eq_nil_iff]
    intro x hx
    obtain ⟨y, hy, rfl⟩ := List.mem_map.mp hx
    have hy := List.mem_range.mp hy
    unfold keepB
    rw [k0 _ (by omega), decide_eq_false (by omega), Bool.false_and]
    decide
  have front : ∀ p, p < 2 → keepB f b (m + 5) p = keepB f b 5 p := fun p hp => by
    unfold keepB
    rw [decide_eq_false (by omega), decide_eq_false (by omega), Bool.false_and, Bool.false_and]
  have back : ∀ p, p < 3 → keepB f b (m + 5) (m + 2 + p) = keepB f b 5 (2 + p) := fun p hp => by
    unfold keepB
    rw [k0 _ (by omega), k0 _ (by omega)]
    have e1 : m + 2 + p + b.length - (m + 5) = 2 + p + b.length - 5 := by omega
    have e2 : decide (m + 5 ≤ m + 2 + p + b.length) = decide (5 ≤ 2 + p + b.length) := by rw [decide_eq_decide]; omega
    rw [e1, e2]
  have e5 : List.range 5 = [0, 1] ++ [2, 3, 4] := by decide
  rw [range_far, e5, List.filter_append, List.filter_append, mid, List.append_nil, List.filter_append, List.map_append]
  congr 1
  · have h0 := front 0 (by omega)
    have h1 := front 1 (by omega)
    cases c0 : keepB f b 5 0 <;> cases c1 : keepB f b 5 1 <;> rw [c0] at h0 <;> rw [c1] at h1 <;> simp [List.filter_cons, h0, h1, c0, c1, far]
  · have h0 := back 0 (by omega)
    have h1 := back 1 (by omega)
    have h2 := back 2 (by omega)
    simp only [Nat.add_zero, Nat.reduceAdd] at h0 h1 h2
    rw [show m + 2 + 1 = m + 3 by omega] at h1
    rw [show m + 2 + 2 = m + 4 by omega] at h2
    have f2 : far (m + 5) 2 = m + 2 := by unfold far; rw [if_neg (by omega)]; omega
    have f3 : far (m + 5) 3 = m + 3 := by unfold far; rw [if_neg (by omega)]; omega
    have f4 : far (m + 5) 4 = m + 4 := by unfold far; rw [if_neg (by omega)]; omega
    cases c0 : keepB f b 5 2 <;> cases c1 : keepB f b 5 3 <;> cases c2 : keepB f b 5 4 <;> rw [c0] at h0 <;> rw [c1] at h1 <;> rw [c2] at h2 <;> simp [List.filter_cons, h0, h1, h2, c0, c1, c2, f2, f3, f4]
theorem kept_far : ∀ {ps : List Part} (m : Nat), (∀ p ∈ ps, p.ok) → kept ps (List.range (m + 5)) = if ps.all Part.isAll = true then List.range (m + 5) else (kept ps (List.range 5)).map (far (m + 5))
  | [], m, _ => rfl
  | .all :: ps, m, h => by
    show kept ps (cutRow .all (List.range (m + 5))) = if (true && ps.all Part.isAll) = true then _ else (kept ps (cutRow .all (List.range 5))).map _
    rw [cut_all, cut_all, Bool.true_and]
    exact kept_far m fun p hp => h p (by simp [hp])
  | .pat f b :: ps, m, h => by
    have hp : (Part.pat f b).ok := h _ (by simp)
    show kept ps (cutRow (.pat f b) (List.range (m + 5))) = if (false && ps.all Part.isAll) = true then _ else (kept ps (cutRow (.pat f b) (List.range 5))).map _
    rw [cut_range, cut_range, Bool.false_and, if_neg Bool.false_ne_true, pl_far hp.1 hp.2, kept_map]
theorem chain_far {ps : List Part} {n : Nat} (hn : 5 ≤ n) (h : ∀ p ∈ ps, p.ok) : chain ps n = if ps.all Part.isAll = true then List.range n else (chain ps 5).map (far n) := by
  obtain ⟨m, rfl⟩ : ∃ m, n = m + 5 := ⟨n - 5, by omega⟩
  exact kept_far m h
/-- alike by tables and wholeness: just if they keep the same of up to six places -/
theorem same_iff {ps qs : List Part} (hp : ∀ p ∈ ps, p.ok) (hq : ∀ p ∈ qs, p.ok) : ((∀ n, n < 6 → chain ps n = chain qs n) ∧ ps.all Part.isAll = qs.all Part.isAll) ↔ ∀ n, n < 7 → chain ps n = chain qs n := by
  constructor
  · rintro ⟨h1, h2⟩ n hn
    by_cases c : n < 6
    · exact h1 n c
    · rw [chain_far (by omega) hp, chain_far (by omega) hq, h2, h1 5 (by omega)]
  · intro h
    refine ⟨fun n hn => h n (by omega), ?_⟩
    have h6 := congrArg List.length (h 6 (by omega))
    rw [chain_far (by omega) hp, chain_far (by omega) hq] at h6
    have l1 := chain_len ps 5
    have l2 := chain_len qs 5
    cases c1 : ps.all Part.isAll <;> cases c2 : qs.all Part.isAll <;> simp [c1, c2] at h6 <;> first | rfl | omega
end Nv

set_option Elab.async false
set_option linter.all false
set_option maxRecDepth 100000
set_option maxHeartbeats 4000000
namespace Nv
open PySem PySem.Spec PyProof.Rows L2
open SX (S)
theorem ifb {b : Bool} {A B : Prop} (h1 : b = true → A) (h2 : b = false → B) : if b = true then A else B := by
  cases b with
  | true => exact h1 rfl
  | false => exact h2 rfl
theorem ifF {b : Bool} {A B : Prop} (h : b = false) (hB : B) : if b = true then A else B := by rw [h, if_neg Bool.false_ne_true]; exact hB
theorem ifT {b : Bool} {A B : Prop} (h : b = true) (hA : A) : if b = true then A else B := by rw [h, if_pos rfl]; exact hA
abbrev natsD (l : List Nat) : List Dt := (l.map Int.ofNat).map .int
theorem natsD_get {l : List Nat} {i x : Nat} (h : l[i]? = some x) : (natsD l)[i]? = some (.int x) := by simp [natsD, h]
def pairS (i j : Nat) (ss : List Sd) : Dt → List Sd
  | .tup [a, b] => (ss.set i (.dt a)).set j (.dt b)
  | _ => ss
theorem pair_gd {K : PySem.W.Frag} {ss : List Sd} {i j : Nat} (hij : i ≠ j) {z : Str} : ∀ d ∈ enumD z, GD K (gTup K 2 (gCons (gName i) (gCons (gName j) gNil))) [i, j] ss d (pairS i j ss d) := fun d hd => by
  obtain ⟨k, hk, rfl⟩ := List.mem_mapIdx.mp hd
  exact gd_pair hij
def isPlus : Dt → Bool
  | .tup [_, .str z] => decide (z = "+")
  | _ => false
def fstI : Dt → Int
  | .tup [.int i, _] => i
  | _ => 0
def ups (f : List Bool) : List Nat := (List.range f.length).filter (f.getD · false)
theorem ups_eq {f : List Bool} (h : f.length ≤ 3) : ((enumD (S (f.map sg))).filter isPlus).map (fun d => Dt.int (fstI d)) = natsD (ups f) := by
  match f, h with
  | [], _ => rfl
  | [x], _ => cases x <;> rfl
  | [x, y], _ => cases x <;> cases y <;> rfl
  | [x, y, z], _ => cases x <;> cases y <;> cases z <;> rfl
theorem ups_far {f : List Bool} (h : f.length ≤ 3) (n : Int) : ((enumD (S (f.map sg))).filter isPlus).map (fun d => Dt.int (n - f.length + fstI d)) = ((ups f).map fun (i : Nat) => n - f.length + (i : Int)).map Dt.int := by
  match f, h with
  | [], _ => rfl
  | [x], _ => cases x <;> rfl
  | [x, y], _ => cases x <;> cases y <;> rfl
  | [x, y, z], _ => cases x <;> cases y <;> cases z <;> rfl
theorem mem_ups {f : List Bool} {i : Nat} : i ∈ ups f ↔ f.getD i false = true := by
  unfold ups
  rw [List.mem_filter, List.mem_range]
  refine ⟨fun h => h.2, fun h => ⟨?_, h⟩⟩
  by_cases c : i < f.length
  · exact c
  · rw [List.getD_eq_getElem?_getD, List.getElem?_eq_none (by omega)] at h
    cases h
theorem keep_mem {f b : List Bool} {n p : Nat} (hp : p < n) : decide ((p : Int) ∈ (ups f).map Int.ofNat ++ (ups b).map fun (i : Nat) => (n : Int) - b.length + (i : Int)) = keepB f b n p := by
  rw [Bool.eq_iff_iff, decide_eq_true_iff]
  unfold keepB
  rw [Bool.or_eq_true, Bool.and_eq_true, decide_eq_true_iff, List.mem_append, List.mem_map, List.mem_map]
  refine or_congr ⟨fun ⟨i, h1, h2⟩ => ?_, fun h => ⟨p, mem_ups.mpr h, rfl⟩⟩ ⟨fun ⟨i, h1, h2⟩ => ?_, fun ⟨h1, h2⟩ => ⟨p + b.length - n, mem_ups.mpr h2, by omega⟩⟩
  · have : i = p := by have h2 : (i : Int) = p := h2; omega
    subst this; exact mem_ups.mp h1
  · have hi := mem_ups.mp h1
    have hi' : i < b.length := by
      by_cases c : i < b.length
      · exact c
      · rw [List.getD_eq_getElem?_getD, List.getElem?_eq_none (by omega)] at hi; cases hi
    have e : p + b.length - n = i := by omega
    rw [e]
    exact ⟨by omega, hi⟩
theorem nat_of {d : Dt} {n : Nat} (h : d ∈ rangeD 0 n) : ∃ p : Nat, p < n ∧ d = .int p := by
  obtain ⟨p, hp, rfl⟩ := List.mem_map.mp h
  exact ⟨p, List.mem_range.mp hp, by simp⟩
def atN : Dt → Nat
  | .int i => i.toNat
  | _ => 0
theorem rangeD_nats (n : Nat) : rangeD 0 n = natsD (List.range n) := by
  unfold rangeD natsD
  rw [List.map_map]
  refine List.map_congr_left fun x _ => ?_
  show Dt.int (0 + (x : Int)) = Dt.int (x : Int)
  rw [Int.zero_add]
theorem filt_nats (q : Nat → Bool) : ∀ l : List Nat, ((natsD l).filter fun d => q (atN d)).map id = natsD (l.filter q)
  | [] => rfl
  | x :: l => by
    have ih := filt_nats q l
    rw [List.map_id] at ih ⊢
    show (Dt.int (x : Int) :: natsD l).filter _ = _
    rw [List.filter_cons, List.filter_cons]
    have e : q (atN (.int (x : Int))) = q x := by show q (x : Int).toNat = _; rw [Int.toNat_natCast]
    rw [e]
    cases q x with
    | true => rw [if_pos rfl, if_pos rfl, ih]; rfl
    | false => rw [if_neg Bool.false_ne_true, if_neg Bool.false_ne_true, ih]
theorem kept_snoc {α : Type} (p : Part) : ∀ (ps : List Part) (row : List α), kept (ps ++ [p]) row = cutRow p (kept ps row)
  | [], _ => rfl
  | q :: ps, row => kept_snoc p ps (cutRow q row)
theorem pl_lt {p : Part} {n x : Nat} (h : x ∈ p.pl n) : x < n := by
  cases p with
  | all => exact List.mem_range.mp h
  | pat f b => exact List.mem_range.mp (List.mem_filter.mp h).1
def pick (row : List Nat) : Dt → Dt
  | .int i => .int (Int.ofNat (row.getD i.toNat 0))
  | d => d
theorem cut_pick (row : List Nat) : ∀ l : List Nat, (∀ x ∈ l, x < row.length) → (natsD l).map (pick row) = natsD (l.filterMap (row[·]?))
  | [], _ => rfl
  | x :: l, h => by
    have hx : x < row.length := h x (by simp)
    have ih := cut_pick row l fun y hy => h y (by simp [hy])
    have e : row[x]? = some row[x] := List.getElem?_eq_getElem hx
    rw [List.filterMap_cons, e]
    show pick row (.int (x : Int)) :: (natsD l).map (pick row) = Dt.int (Int.ofNat row[x]) :: natsD (l.filterMap (row[·]?))
    rw [ih]
    congr 1
    show Dt.int (Int.ofNat (row.getD (x : Int).toNat 0)) = _
    rw [Int.toNat_natCast, List.getD_eq_getElem?_getD, e]; rfl
def cutF (ps : List Part) : List (Str × Dt) := [("own_parts", .tup (ps.map Part.d)), ("own_tables", .tup ((List.range 6).map fun n => .tup (natsD (chain ps n)))), ("own_is_whole", .bl (ps.all Part.isAll))]
abbrev cutD (C : Addr) (ps : List Part) : Dt := .ins C (cutF ps)
def Oks (ps : List Part) : Prop := (∀ p ∈ ps, p.ok) ∧ ps.length ≤ 4
def strOf (ps : List Part) : Str := if ps.isEmpty = true then "all" else Txt.join " > " (ps.map Part.s)
theorem kept_get {α : Type} (d : α) (ps : List Part) (row : List α) : kept ps row = (chain ps row.length).map fun i => row.getD i d := by
  have e : row = (List.range row.length).map fun i => row.getD i d := by
    refine List.ext_getElem? fun i => ?_
    rw [List.getElem?_map]
    by_cases c : i < row.length
    · rw [List.getElem?_range c, List.getElem?_eq_getElem c]
      show some row[i] = some (row.getD i d)
      rw [List.getD_eq_getElem?_getD, List.getElem?_eq_getElem c]; rfl
    · rw [List.getElem?_eq_none (by omega), List.getElem?_eq_none (by simp; omega)]; rfl
  rw (config := { occs := .pos [1] }) [e]
  rw [kept_map]; rfl
theorem nats_get {row : List Dt} (l : List Nat) : (natsD l).map (fun d => row.getD (atN d) .non) = l.map fun i => row.getD i .non := by
  simp only [natsD, List.map_map]
  refine List.map_congr_left fun k _ => ?_
  show row.getD (k : Int).toNat .non = _
  rw [Int.toNat_natCast]
theorem StD.impN {K : PySem.W.Frag} {ξ : XC} {ss : List Sd} {R : Dt → Prop} {N N' B C : SP} {t : TS} (h : StD K ξ t ss N B C R) (f : ∀ s, N s → N' s) : StD K ξ t ss N' B C R := fun G0 H0 D σ G H g s n b c r w =>
  h G0 H0 D σ G H g s (fun σ' ss' G' H' g' s' hn => n σ' ss' G' H' g' s' (f _ hn)) b c r w
theorem sd_cut {K : PySem.W.Frag} {ξ : XC} {ss : List Sd} {R : Dt → Prop} {N B C : SP} {t u : TS} (M : SP) (h1 : StD K ξ t ss M B C R) (h2 : ∀ s, M s → StD K ξ u s N B C R) : StD K ξ (tSeq t u) ss N B C R := sd_seq (h1.impN h2)
theorem bl_map {α : Type} (l : List α) (q : α → Bool) : l.map (fun x => Dt.bl (q x)) = (l.map q).map Dt.bl := by rw [List.map_map]; rfl
theorem all_true {α : Type} (l : List α) : (l.map fun _ => true).all id = true := by rw [List.all_map, List.all_eq_true]; exact fun _ _ => rfl
theorem mem_nats {l : List Nat} {d : Dt} (h : d ∈ natsD l) : ∃ k : Nat, k ∈ l ∧ d = .int (k : Int) := by
  obtain ⟨i, hi, rfl⟩ := List.mem_map.mp h
  obtain ⟨k, hk, rfl⟩ := List.mem_map.mp hi
  exact ⟨k, hk, rfl⟩
abbrev intsP (l : List Nat) : List PyData := (l.map Int.ofNat).map .int
theorem toPys_nats : ∀ l : List Nat, toPy.toPys (natsD l) = some (intsP l)
  | [] => rfl
  | x :: l => by
    show (match toPy (.int (Int.ofNat x)), toPy.toPys (natsD l) with | some p, some q => some (p :: q) | _, _ => none) = _
    rw [toPys_nats l]; rfl
theorem toPy_nats (l : List Nat) : toPy (.tup (natsD l)) = some (.tuple (intsP l)) := by
  show (toPy.toPys (natsD l)).map PyData.tuple = _
  rw [toPys_nats]; rfl
theorem eqv_nats : ∀ l m : List Nat, PyData.eqvAll (intsP l) (intsP m) = decide (l = m)
  | [], [] => rfl
  | [], _ :: _ => rfl
  | _ :: _, [] => rfl
  | x :: l, y :: m => by
    have ih := eqv_nats l m
    show (Int.ofNat x == Int.ofNat y && PyData.eqvAll (intsP l) (intsP m)) = _
    rw [ih, Bool.eq_iff_iff]
    simp
    intro _; omega
theorem lay_nats : ∀ l : List Nat, PyData.canLayAll0 (intsP l) = true ∧ PyData.depthAll (intsP l) = 0
  | [] => ⟨rfl, rfl⟩
  | x :: l => by
    obtain ⟨h1, h2⟩ := lay_nats l
    exact ⟨by show (true && PyData.canLayAll0 (intsP l)) = true; rw [h1]; rfl, by show max 0 (PyData.depthAll (intsP l)) = 0; rw [h2]; rfl⟩
def tabsP (ks : List (List Nat)) : List PyData := ks.map fun l => .tuple (intsP l)
def tabsD (ks : List (List Nat)) : List Dt := ks.map fun l => .tup (natsD l)
theorem toPys_tabs : ∀ ks : List (List Nat), toPy.toPys (tabsD ks) = some (tabsP ks)
  | [] => rfl
  | l :: ks => by
    show (match toPy (.tup (natsD l)), toPy.toPys (tabsD ks) with | some p, some q => some (p :: q) | _, _ => none) = _
    rw [toPys_tabs ks, toPy_nats]; rfl
theorem eqv_tabs : ∀ ks ms : List (List Nat), PyData.eqvAll (tabsP ks) (tabsP ms) = decide (ks = ms)
  | [], [] => rfl
  | [], _ :: _ => rfl
  | _ :: _, [] => rfl
  | x :: l, y :: m => by
    have ih := eqv_tabs l m
    show (PyData.eqvAll (intsP x) (intsP y) && PyData.eqvAll (tabsP l) (tabsP m)) = _
    rw [ih, eqv_nats, Bool.eq_iff_iff]
    simp
theorem lay_tabs : ∀ ks : List (List Nat), PyData.canLayAll0 (tabsP ks) = true ∧ PyData.depthAll (tabsP ks) ≤ 1
  | [] => ⟨rfl, by decide⟩
  | l :: ks => by
    obtain ⟨h1, h2⟩ := lay_tabs ks
    obtain ⟨h3, h4⟩ := lay_nats l
    refine ⟨by show (PyData.canLayAll0 (intsP l) && PyData.canLayAll0 (tabsP ks)) = true; rw [h1, h3]; rfl, ?_⟩
    show max (PyData.depthAll (intsP l) + 1) (PyData.depthAll (tabsP ks)) ≤ 1
    rw [h4]; omega
theorem rd_eq_tabs {K : PySem.W.Frag} {R : Dt → Prop} {ks ms : List (List Nat)} (h : R (.bl (decide (ks = ms)))) : RD K (rEqA K) (.tup (tabsD ks)) (.tup (tabsD ms)) R := by
  have sh : ∀ ks : List (List Nat), SeqAt.shaped (.tuple (tabsP ks)) = true := fun ks => by
    obtain ⟨h1, h2⟩ := lay_tabs ks
    show (PyData.canLayAll0 (tabsP ks) && decide (PyData.depthAll (tabsP ks) + 1 ≤ 64)) = true
    rw [h1, decide_eq_true (by omega)]; rfl
  have tp : ∀ ks : List (List Nat), toPy (.tup (tabsD ks)) = some (.tuple (tabsP ks)) := fun ks => by
    show (toPy.toPys (tabsD ks)).map PyData.tuple = _
    rw [toPys_tabs]; rfl
  refine rd_eq_d (tp ks) (tp ms) (sh ks) (sh ms) ?_
  show R (.bl (PyData.eqvAll (tabsP ks) (tabsP ms)))
  rw [eqv_tabs]; exact h
theorem sh_nats (l : List Nat) : SeqAt.shaped (.tuple (intsP l)) = true ∧ SeqAt.shaped (.list (intsP l)) = true := by
  obtain ⟨h1, h2⟩ := lay_nats l
  refine ⟨?_, ?_⟩ <;>
  · show (PyData.canLayAll0 (intsP l) && decide (PyData.depthAll (intsP l) + 1 ≤ 64)) = true
    rw [h1, h2]; rfl
theorem rd_ne_nats {K : PySem.W.Frag} {R : Dt → Prop} {l m : List Nat} (h : R (.bl (!decide (l = m)))) : RD K (rNeA K) (.tup (natsD l)) (.tup (natsD m)) R := by
  refine rd_ne_d (toPy_nats l) (toPy_nats m) (sh_nats l).1 (sh_nats m).1 ?_
  show R (.bl (!PyData.eqvAll (intsP l) (intsP m)))
  rw [eqv_nats]; exact h
theorem rd_ne_natsL {K : PySem.W.Frag} {R : Dt → Prop} {l m : List Nat} (h : R (.bl (!decide (l = m)))) : RD K (rNeA K) (.lst (natsD l)) (.lst (natsD m)) R := by
  have tp : ∀ l : List Nat, toPy (.lst (natsD l)) = some (.list (intsP l)) := fun l => by
    show (toPy.toPys (natsD l)).map PyData.list = _
    rw [toPys_nats]; rfl
  refine rd_ne_d (tp l) (tp m) (sh_nats l).2 (sh_nats m).2 ?_
  show R (.bl (!PyData.eqvAll (intsP l) (intsP m)))
  rw [eqv_nats]; exact h
def farD (n : Nat) : Dt → Dt
  | .int i => .int (Int.ofNat (far n i.toNat))
  | d => d
theorem sd_unt {K : PySem.W.Frag} {ξ : XC} {ss : List Sd} {R : Dt → Prop} {N B C : SP} {te : TE} {a b : Nat} (h : EvD K te ss fun d => ∃ x y, d = .tup [x, y] ∧ N ((ss.set a (.dt x)).set b (.dt y))) : StD K ξ (tAsg te (gTup K 2 (gCons (gName a) (gCons (gName b) gNil)))) ss N B C R := fun G0 H0 D σ G H g s n b c r w =>
  h G σ H g.ink s.sv _ fun v d G1 H1 g1 d1 ⟨x, y, h1, h2⟩ => by
    subst h1
    obtain ⟨p, xs, rfl, hp, x1, r1, rfl, e1, x2, r2, rfl, e2, e3⟩ := d1
    cases e3
    exact ⟨p, _, rfl, Ex.tup g1.ink hp, rfl, x1, _, rfl, x2, _, rfl, rfl, n _ _ G1 H1 (g.trans g1) (((s.go g1).set e1).set e2) h2⟩
theorem gd_name2 {K : PySem.W.Frag} {ss : List Sd} {i j : Nat} {d : Dt} (hij : i ≠ j) : GD K (gName i) [i, j] ss d ((ss.set j .no).set i (.dt d)) := fun G H σ x e s hd Q q => by
  refine q _ ?_ ?_
  · rw [wipe2]
    have h1 := ((s.forget (j := j) (o := none)).forget (j := i) (o := none)).set (j := i) hd
    rw [List.set_set, List.set_set] at h1
    rw [List.set_set]
    exact h1
  · simp only [wipe2]
    refine List.ext_getElem? fun k => ?_
    by_cases c2 : i = k
    · subst c2; simp [List.getElem?_set, Ne.symm hij, hij]
    · by_cases c : j = k
      · subst c; simp [List.getElem?_set, hij, Ne.symm hij, c2]
      · simp [List.getElem?_set, c, c2]
def withinB (k1 k2 : Nat → List Nat) : Bool := (List.range 7).all fun n => (k1 n).all fun x => decide (x ∈ k2 n)
def diffL (k1 k2 : List Nat) (n : Nat) : List Nat := (List.range n).filter fun p => !decide (decide (p ∈ k1) = decide (p ∈ k2))
def Parted (k1 k2 : Nat → List Nat) (d : Dt) : Prop := (∃ i, i < 7 ∧ (∀ j, j < i → diffL (k1 j) (k2 j) j = []) ∧ ∃ x r, diffL (k1 i) (k2 i) i = x :: r ∧ d = .tup [.int (i : Nat), .int (x : Nat)]) ∨ ((∀ j, j < 7 → diffL (k1 j) (k2 j) j = []) ∧ d = .non)
theorem Parted.one {k1 k2 : Nat → List Nat} {d e : Dt} (h1 : Parted k1 k2 d) (h2 : Parted k1 k2 e) : d = e := by
  rcases h1 with ⟨i, hi, h, x, r, hx, rfl⟩ | ⟨h, rfl⟩
  · rcases h2 with ⟨j, hj, h', y, q, hy, rfl⟩ | ⟨h', rfl⟩
    · have e : i = j := by
        rcases Nat.lt_trichotomy i j with c | c | c
        · have := h' i c; rw [hx] at this; cases this
        · exact c
        · have := h j c; rw [hy] at this; cases this
      subst e
      rw [hx] at hy; cases hy; rfl
    · have := h' i hi; rw [hx] at this; cases this
  · rcases h2 with ⟨j, hj, h', y, q, hy, rfl⟩ | ⟨h', rfl⟩
    · have := h j hj; rw [hy] at this; cases this
    · rfl
def tabs (ps : List Part) : List (List Nat) := (List.range 6).map (chain ps)
def sameB (ps qs : List Part) : Bool := decide (tabs ps = tabs qs) && decide (ps.all Part.isAll = qs.all Part.isAll)
theorem tabs_eq (ps : List Part) : ((List.range 6).map fun n => Dt.tup (natsD (chain ps n))) = tabsD (tabs ps) := by
  unfold tabsD tabs
  rw [List.map_map]; rfl
theorem mem_int {p : Nat} {l : List Nat} : ((p : Int) ∈ l.map Int.ofNat) ↔ p ∈ l := by
  rw [List.mem_map]
  refine ⟨fun ⟨k, h1, h2⟩ => ?_, fun h => ⟨p, h, rfl⟩⟩
  have h2 : (k : Int) = p := h2
  have : k = p := by omega
  subst this; exact h1
theorem dec_int {p : Nat} {l : List Nat} : decide ((p : Int) ∈ l.map Int.ofNat) = decide (p ∈ l) := by rw [decide_eq_decide]; exact mem_int
theorem range_at {n i : Nat} {x : Dt} (h : (rangeD 0 n)[i]? = some x) : i < n ∧ x = .int (i : Int) := by
  have hi : i < n := by have := (List.getElem?_eq_some_iff.mp h).1; simp [rangeD] at this; exact this
  rw [rangeD_nats, natsD_get (List.getElem?_range hi)] at h
  exact ⟨hi, (Option.some.inj h).symm⟩
theorem nats_at {l : List Nat} {i : Nat} {x : Dt} (h : (natsD l)[i]? = some x) : ∃ hi : i < l.length, x = .int (l[i] : Int) := by
  have hi : i < l.length := by have := (List.getElem?_eq_some_iff.mp h).1; simp [natsD] at this; exact this
  rw [natsD_get (List.getElem?_eq_getElem hi)] at h
  exact ⟨hi, (Option.some.inj h).symm⟩
theorem strOk_part {p : Part} (h : p.ok) : PyData.strOk p.s = true := by
  cases p with
  | all => decide +kernel
  | pat f b => exact pat_cases (P := fun f b => PyData.strOk (S (Part.pat f b).txt) = true) (by decide +kernel) h.1 h.2
abbrev partsP (ps : List Part) : List PyData := ps.map fun p => .str p.s
theorem toPys_parts : ∀ ps : List Part, toPy.toPys (ps.map Part.d) = some (partsP ps)
  | [] => rfl
  | p :: ps => by
    show (match toPy p.d, toPy.toPys (ps.map Part.d) with | some p, some q => some (p :: q) | _, _ => none) = _
    rw [toPys_parts ps]; rfl
theorem lay_parts : ∀ {ps : List Part}, (∀ p ∈ ps, p.ok) → PyData.canLayAll0 (partsP ps) = true ∧ PyData.depthAll (partsP ps) = 0
  | [], _ => ⟨rfl, rfl⟩
  | p :: ps, h => by
    obtain ⟨h1, h2⟩ := lay_parts (ps := ps) fun q hq => h q (by simp [hq])
    exact ⟨by show (PyData.strOk p.s && PyData.canLayAll0 (partsP ps)) = true; rw [h1, strOk_part (h p (by simp))]; rfl, by show max 0 (PyData.depthAll (partsP ps)) = 0; rw [h2]; rfl⟩
theorem sum_parts : ∀ {ps : List Part}, (∀ p ∈ ps, p.ok) → ((ps.map Part.s).map (·.length)).sum ≤ 7 * ps.length
  | [], _ => by decide
  | p :: ps, h => by
    have ih := sum_parts (ps := ps) fun q hq => h q (by simp [hq])
    have h1 := txt_len (h p (by simp))
    have h2 : p.s.length ≤ 7 := by rw [SX.S_len]; exact h1
    show p.s.length + ((ps.map Part.s).map (·.length)).sum ≤ 7 * (ps.length + 1)
    omega
theorem sum_ones : ∀ cs : List Nat, ((cs.map fun c => [c]).map List.length).sum = cs.length
  | [] => rfl
  | c :: cs => by
    have := sum_ones cs
    simp at this ⊢
    omega
theorem sl_to {l : List Dt} {n : Nat} : (l.drop (HT.sIx l.length 0 none)).take (HT.sIx l.length l.length (some (n : Int)) - HT.sIx l.length 0 none) = l.take n := by
  rw [HT.sIx_none, HT.sIx_nat]
  by_cases h : n ≤ l.length
  · rw [Nat.min_eq_left h]; simp
  · rw [Nat.min_eq_right (by omega)]; simp [List.take_of_length_le (show l.length ≤ n by omega)]
theorem sl_from {l : List Dt} {n : Nat} : (l.drop (HT.sIx l.length 0 (some (n : Int)))).take (HT.sIx l.length l.length none - HT.sIx l.length 0 (some (n : Int))) = l.drop n := by
  rw [HT.sIx_none, HT.sIx_nat]
  by_cases h : n ≤ l.length
  · rw [Nat.min_eq_left h, List.take_of_length_le (by simp)]
  · rw [Nat.min_eq_right (by omega), List.drop_length, List.drop_of_length_le (by omega)]; simp
theorem S_app (a b : List Nat) : (S a : Str) ++ S b = S (a ++ b) := SX.S_cat a b
theorem join_signs (bs : List Bool) : Txt.join (Str.ofString "") ((bs.map fun b => [sg b]).map S) = S (bs.map sg) := by
  rw [show (Str.ofString "" : Str) = S [] from rfl, SX.join_S]
  have : (bs.map fun b => [sg b]) = (bs.map sg).map fun c => [c] := by rw [List.map_map]; rfl
  rw [this, joinOnes]
theorem sum_signs (bs : List Bool) : (((bs.map fun b => [sg b]).map S).map (·.length)).sum = bs.length := by
  rw [SX.lens]
  have : (bs.map fun b => [sg b]) = (bs.map sg).map fun c => [c] := by rw [List.map_map]; rfl
  rw [this, sum_ones]; simp
theorem plus_sg (b : Bool) : decide ((⟨#[sg b]⟩ : Str) = "+") = b := by cases b <;> decide
theorem sgs_at {f : List Bool} {j : Nat} (h : j < f.length) : atI (S (f.map sg)).cps.toList (j : Int) = some (sg f[j]) := by
  refine atI_nat ?_
  show (f.map sg).toArray.toList[j]? = _
  simp [h]
theorem range_filt {α : Type} (row : List α) (q : Nat → Bool) (j : Nat) : ((List.range (j + 1)).filter q).filterMap (row[·]?) = ((List.range j).filter q).filterMap (row[·]?) ++ (if q j = true then (row[j]?).toList else []) := by
  rw [List.range_succ, List.filter_append, List.filterMap_append]
  congr 1
  cases h : q j with
  | true =>
    rw [if_pos rfl, List.filter_cons, h, if_pos rfl]
    cases c : row[j]? with
    | none => simp [c]
    | some x => simp [c]
  | false => simp [h]
theorem kept_nats (ps : List Part) (l : List Nat) : kept ps (natsD l) = natsD (kept ps l) := by
  unfold natsD; rw [kept_map, kept_map]
theorem kept_range (ps : List Part) (n : Nat) : kept ps (rangeD 0 n) = natsD (chain ps n) := by rw [rangeD_nats, kept_nats]; rfl
theorem diff_comm (k1 k2 : List Nat) (n : Nat) : diffL k1 k2 n = diffL k2 k1 n := by
  unfold diffL
  congr 1
  funext p
  congr 1
  rw [decide_eq_decide]; exact eq_comm
theorem Parted.comm {k1 k2 : Nat → List Nat} {d : Dt} (h : Parted k1 k2 d) : Parted k2 k1 d := by
  rcases h with ⟨i, hi, h, x, r, hx, rfl⟩ | ⟨h, rfl⟩
  · exact .inl ⟨i, hi, fun j hj => by rw [diff_comm]; exact h j hj, x, r, by rw [diff_comm]; exact hx, rfl⟩
  · exact .inr ⟨fun j hj => by rw [diff_comm]; exact h j hj, rfl⟩
theorem diff_nil {ps qs : List Part} {n : Nat} : diffL (chain ps n) (chain qs n) n = [] ↔ chain ps n = chain qs n := by
  constructor
  · intro h
    refine asc_eq (chain_asc _ _) (chain_asc _ _) fun x => ?_
    have key : x < n → (x ∈ chain ps n ↔ x ∈ chain qs n) := fun hx => by
      have := List.filter_eq_nil_iff.mp h x (List.mem_range.mpr hx)
      have e : decide (x ∈ chain ps n) = decide (x ∈ chain qs n) := by
        by_cases c : decide (x ∈ chain ps n) = decide (x ∈ chain qs n)
        · exact c
        · rw [decide_eq_false c] at this; exact absurd rfl this
      exact decide_eq_decide.mp e
    exact ⟨fun c => (key (chain_lt c)).mp c, fun c => (key (chain_lt c)).mpr c⟩
  · intro h
    rw [h]
    unfold diffL
    rw [List.filter_eq_nil_iff]
    intro x _
    rw [decide_eq_true rfl]; decide
theorem same_tabs {ps qs : List Part} : tabs ps = tabs qs ↔ ∀ n, n < 6 → chain ps n = chain qs n := by
  unfold tabs
  rw [List.map_inj_left]
  exact ⟨fun h n hn => h n (List.mem_range.mpr hn), fun h n hn => h n (List.mem_range.mp hn)⟩
theorem same_is {ps qs : List Part} (hp : ∀ p ∈ ps, p.ok) (hq : ∀ p ∈ qs, p.ok) {d : Dt} (h : Parted (chain ps) (chain qs) d) : sameB ps qs = isN d := by
  have e : sameB ps qs = true ↔ ∀ n, n < 7 → chain ps n = chain qs n := by
    unfold sameB
    rw [Bool.and_eq_true, decide_eq_true_iff, decide_eq_true_iff, same_tabs]
    exact same_iff hp hq
  rcases h with ⟨i, hi, h, x, r, hx, rfl⟩ | ⟨h, rfl⟩
  · show _ = false
    rw [Bool.eq_false_iff]
    intro c
    have := diff_nil.mpr (e.mp c i hi)
    rw [hx] at this; cases this
  · show _ = true
    exact e.mpr fun n hn => diff_nil.mp (h n hn)
theorem same_comm (ps qs : List Part) : sameB qs ps = sameB ps qs := by
  unfold sameB
  congr 1
  · rw [decide_eq_decide]; exact eq_comm
  · rw [decide_eq_decide]; exact eq_comm
theorem parted_is {ps qs : List Part} {d : Dt} (h : Parted (chain ps) (chain qs) d) : d = .non ∨ ∃ i x : Nat, i < 7 ∧ x < 7 ∧ d = .tup [.int i, .int x] := by
  rcases h with ⟨i, hi, h, x, r, hx, rfl⟩ | ⟨h, rfl⟩
  · have : x ∈ diffL (chain ps i) (chain qs i) i := by rw [hx]; simp
    have := List.mem_range.mp (List.mem_filter.mp this).1
    exact .inr ⟨i, x, hi, by omega, rfl⟩
  · exact .inl rfl
theorem shown_ok : ∀ i, i < 7 → ∀ x, x < 7 → (PyData.list [.tuple [.int (i : Nat), .int (x : Nat)], .tuple [.int (i : Nat), .int (x : Nat)]]).shown.length ≤ 1000 ∧ (PyData.list [.tuple [.int (i : Nat), .int (x : Nat)], .tuple [.int (i : Nat), .int (x : Nat)]]).showable = true := by decide +kernel
theorem cd_repr2 {K : PySem.W.Frag} {R : Dt → Prop} {ps qs : List Part} {d : Dt} (h : Parted (chain ps) (chain qs) d) (hR : ∀ z, (∀ R' : Dt → Prop, R' (.str z) → CD K (rReprD K) [.lst [d, d]] R') → R (.str z)) : CD K (rReprD K) [.lst [d, d]] R := by
  rcases parted_is h with rfl | ⟨i, x, hi, hx, rfl⟩
  · have k : ∀ R' : Dt → Prop, R' (.str (PyData.list [.none, .none]).shown) → CD K (rReprD K) [.lst [.non, .non]] R' := fun R' hr => cd_reprD rfl (by decide) (by decide) (by decide) (by decide +kernel) hr
    exact k R (hR _ k)
  · obtain ⟨h1, h2⟩ := shown_ok i hi x hx
    have k : ∀ R' : Dt → Prop, R' (.str (PyData.list [.tuple [.int (i : Nat), .int (x : Nat)], .tuple [.int (i : Nat), .int (x : Nat)]]).shown) → CD K (rReprD K) [.lst [.tup [.int i, .int x], .tup [.int i, .int x]]] R' := fun R' hr => cd_reprD rfl h2 rfl (by show 2 ≤ 60; decide) (sz_of (by omega)) hr
    exact k R (hR _ k)
theorem same_all {ps qs : List Part} (hp : ∀ p ∈ ps, p.ok) (hq : ∀ p ∈ qs, p.ok) (h : sameB ps qs = true) {n : Nat} (hn : 5 ≤ n) : chain ps n = chain qs n := by
  unfold sameB at h
  rw [Bool.and_eq_true, decide_eq_true_iff, decide_eq_true_iff, same_tabs] at h
  rw [chain_far hn hp, chain_far hn hq, h.2, h.1 5 (by omega)]
theorem cd_repr_bl {K : PySem.W.Frag} {R : Dt → Prop} (bs : List Bool) (hb : bs.length ≤ 3) (h : R (.str (PyData.list (bs.map .bool)).shown)) : CD K (rReprD K) [.lst (bs.map .bl)] R := by
  match bs, hb with
  | [], _ => exact cd_reprD rfl (by decide) (by decide) (by decide) (by decide +kernel) h
  | [a], _ => cases a <;> exact cd_reprD rfl (by decide) (by decide) (by decide) (by decide +kernel) h
  | [a, b], _ => cases a <;> cases b <;> exact cd_reprD rfl (by decide) (by decide) (by decide) (by decide +kernel) h
  | [a, b, c], _ => cases a <;> cases b <;> cases c <;> exact cd_reprD rfl (by decide) (by decide) (by decide) (by decide +kernel) h
end Nv

set_option Elab.async false
set_option linter.all false
set_option maxRecDepth 100000
set_option maxHeartbeats 4000000
namespace Nv
open PySem PySem.Spec PyProof.Rows L2
/-! ### exceptions of the text's own whose __init__ says super().__init__(x) and keeps x: made -/
section
open PySem.W PySem.Calls Builtin Builtin.ObjectAttr
variable {P : Program} {w : World} {A : Around} {R : Result → Shared → Prop} {hp : Heap} {g : Array GenState} {d : Drawn} {t : Nat} {os : OsState}
/-- self.nm = v, the first field of an exception -/
theorem own_store {K : W.Frag} {nm : Str} {tk : Tok} {v : Value} {x C : Addr} {fv : Array Value} {cd : ClassData} (X : K.In hp) (hx : hp.get? x = some { cls := .ref C, data := .fields fv }) (hcd : W.clsIn K C = some cd)
    (hps : ∀ y, refuseLoop y "__setattr__" cd.mro = pure ()) (hob : cd.mro.contains (.type "object") = true) (hh : cd.hasDict = true) (ha : W.findIn K (.ref C) nm = some none)
    (hq : ∀ h' tk' dx, (∀ b o, b ≠ x → hp.get? b = some o → h'.get? b = some o) → hp.objs.size ≤ dx → dx ≠ x → h'.get? x = some { cls := .ref C, dict := some dx, data := .fields fv } →
      h'.Ns1 dx (fun y => if y = nm then some v else none) → R (.ok (.ret .none)) ⟨h', g, d, tk', os⟩) :
    codeAny (model P w) A (.call (.builtin "object.__setattr__") ⟨[.ref x, .str nm tk, v], []⟩) R ⟨hp, g, d, t, os⟩ := by
  have Ia : W.InstAt hp x { cls := .ref C, data := .fields fv } C none := ⟨hx, rfl, rfl, trivial⟩
  have SF := F.store_object
  have ne : cd.mro.isEmpty = false := by
    cases c : cd.mro with
    | nil => rw [c] at hob; cases hob
    | cons _ _ => rfl
  have hxs : x ≠ hp.objs.size := Nat.ne_of_lt (Heap.lt_size hx)
  have isob : W.Looks (model P w) hp (isInstance (.ref x) (.type "object")) true := Ia.type.andThen (W.looks_mroIn X (by unfold W.mroIn; rw [hcd, Option.bind_some, if_neg (by rw [ne]; exact Bool.false_ne_true), hob]))
  refine codeAny_call_builtin SF.slot.plain SF.entry (@W.check_slot (model P w) _ _ ⟨hp, g, d, t, os⟩ "object.__setattr__" "object" "__setattr__" (.ref x) [.str nm tk, v] [] _ SF.kind SF.split isob (SF.args (.ref x) (.str nm tk) v) ?_)
  have lm : W.Looks (model P w) hp (mroOf (.ref C)) cd.mro := (W.looks_clsIn X hcd).andThen .now
  have l3 : W.Looks (model P w) hp (storeTaker? none) none := .now
  have lc : W.Looks (model P w) hp (classData C) cd := W.looks_clsIn X hcd
  rw [W.osa_eq, refuse_eq]
  refine wpAny_bind (wpAny_bind (Ia.type.at (wpAny_bind (lm.at ?_))))
  rw [hps]
  refine wpAny_pure (wpAny_bind (Ia.type.at (wpAny_bind ((W.looks_findIn X ha).at (wpAny_bind (l3.at ?_))))))
  show wpAny _ _ (storeInOwnDict (.ref x) (.ref C) (.str nm tk) nm v false) _ _ _
  obtain ⟨nm', bs, mro, ns, qn, hd, sn, sb, ab, col, del⟩ := cd
  dsimp only at hh
  subst hh
  unfold storeInOwnDict ownDictForStores
  repeat (first | with_reducible refine HandSPX.store_in_new ?_ ?_ | with_reducible refine wpAny_loadPart_at hx ?_ | with_reducible refine lc.at ?_ | wp_step)
  · exact ⟨_, #[], _, (Heap.get?_update_ne _ _ _ _ hxs.symm).trans (Heap.get?_push_at rfl rfl), rfl, fun e he => absurd he (by simp), fun _ => rfl⟩
  · intro h' tk' hn' hs
    have hx1 : (hp.push { cls := .type "dict", data := .dict #[] }).get? x = some { cls := .ref C, data := .fields fv } := Heap.get?_push_of_some _ hx
    refine hq h' tk' hp.objs.size (fun b o hb ho => ?_) (Nat.le_refl _) hxs.symm ((hs.2 x hxs).trans (Heap.get?_update_self _ hx1 rfl)) hn'
    exact (hs.2 b (Nat.ne_of_lt (Heap.lt_size ho))).trans ((Heap.get?_update_ne _ _ _ _ hb).trans (Heap.get?_push_of_some _ ho))
end
/-- what the text says of such a class: C its address, B its built-in base, fld the field, f its __init__, x its parameter -/
structure Xup (P : Program) (K : PySem.W.Frag) (mg : Str → Option Value) (C f : Addr) (B initId newId : String) (bmB : List Value) (px fld : Str) (st : Stmt) : Prop where
  kf : PySem.W.KxsFacts B initId
  fb : PySem.ExcBaseFacts B newId initId bmB
  cls : ∃ nm q N bs bm sn sub ab col dd k0 k1 k2 k3 k5, K.lookup C = some (excClassObj nm q C N bs bm true sn sub ab col dd k0 k1 k2 k3 k5 newId) ∧ (∀ X : String, bm.contains (.type X) = bmB.contains (.type X)) ∧ (∀ y, refuseLoop y "__setattr__" (.ref C :: bm) = pure ()) ∧
    PySem.W.alongIn K "__init__" bm = some (some (.builtin initId)) ∧ bm.contains (.type "object") = true
  sa : PySem.W.findIn K (.ref C) "__setattr__" = some (some (.builtin "object.__setattr__"))
  nf : PySem.W.findIn K (.ref C) fld = some none
  ini : PySem.W.findIn K (.ref C) "__init__" = some (some (.ref f))
  tyf : PySem.W.typeIn K (.ref f) = some (.type "function")
  subB : PySem.W.subIn K (.ref C) (.type B) = some true
  subC : PySem.W.subIn K (.ref C) (.ref C) = some true
  op : PySem.W.nsIn K cStatics "thirdparty.any" = some none
  sup : mg "super" = none
  fn : ∃ (oc : Value) (od : Option Addr) (doc pm : Value) (an : Option Addr) (cda : Addr) (ct kV : Value) (osl : Array (Option Value)) (cc : Addr) (qual : Str) (cl : Value) (cld : Option Addr) (csl : Array (Option Value)) (ccl : Value) (cdd : Option Addr) (vs : Array Value) (ccs : Array (Option Value)) (file : Str) (tf : Tok),
    K.lookup f = some ⟨oc, od, .func (PySem.W.ksFn "__init__" qual (defArgs st) (defBody st) (defScope st) .none kV doc pm an (.ref cda) ct cc), osl⟩ ∧ PySem.W.codeIn K (.ref cda) qual = true ∧
    K.lookup cda = some ⟨ccl, cdd, .fields vs, ccs⟩ ∧ vs[2]? = some (.str file tf) ∧ ((P.main.file : Str) == file) = true ∧ K.lookup cc = some ⟨cl, cld, .cell (some (.ref C)), csl⟩
  top : (P.main.scope.names.lookup ("super" : Str)).isSome = false

/-- its text -/
structure XupSt (px fld : Str) (st : Stmt) : Prop where
  body : ∃ p0 p1 p2 p3 p4 p5 p6 p7 p8 p9 : Pos, defBody st = [.Expr (.Call (.Attribute (.Call (.Name "super" p0) [] [] p1) "__init__" p2) [.Name px p3] [] p4) p5, .Assign [.Attribute (.Name "self" p6) fld p7] (.Name px p8) p9] ∧
    ∀ (qual : Str) (L f : Addr) (cd : Value) (cc : Addr), interactive (PySem.W.ksEnv qual (defScope st) L f cd cc) = false ∧ swapsWith (.Call (.Attribute (.Call (.Name "super" p0) [] [] p1) "__init__" p2) [.Name px p3] [] p4) none p5.line (PySem.W.ksEnv qual (defScope st) L f cd cc) = pure false ∧
      (∃ pl : Sem Bool, eval (.Call (.Attribute (.Call (.Name "super" p0) [] [] p1) "__init__" p2) [.Name px p3] [] p4) (PySem.W.ksEnv qual (defScope st) L f cd cc) = (do
        let ov ← attributeBase (.Call (.Name "super" p0) [] [] p1) "__init__" (PySem.W.ksEnv qual (defScope st) L f cd cc) (eval (.Call (.Name "super" p0) [] [] p1) (PySem.W.ksEnv qual (defScope st) L f cd cc))
        standAt p2.atName
        let (f', first) ← holding [ov] (getMethod ov "__init__" pl)
        callWith p4 f' first (backTo p4 (starEach [.Name px p3] (PySem.W.ksEnv qual (defScope st) L f cd cc))) [])) ∧
      starEach [.Name px p3] (PySem.W.ksEnv qual (defScope st) L f cd cc) = [(false, eval (.Name px p3) (PySem.W.ksEnv qual (defScope st) L f cd cc))] ∧
      swapsWith (.Name px p8) (some (.Attribute (.Name "self" p6) fld p7)) p9.line (PySem.W.ksEnv qual (defScope st) L f cd cc) = pure false
  args : ∃ ar : Arg, ((defArgs st).posonlyargs ++ (defArgs st).args).head? = some ar ∧ ar.arg = "self"
  hks : (defScope st).names.lookup ("super" : Str) = some .globalImplicit
  hkc : (defScope st).names.lookup ("__class__" : Str) = some .free
  hka : (defScope st).names.lookup ("self" : Str) = some .local
  hkx : (defScope st).names.lookup px = some .local
  hk : (defScope st).kind = .function
  hcell : ∀ x ∈ (defScope st).names, x.2 ≠ .cell
  hco : (defScope st).isCoroutine = false
  hgen : (defScope st).isGenerator = false
  npx : px ≠ "self"
  ndb : (px == ("__debug__" : Str)) = false
  bnd : ∀ (s : Shared) (qual : Str) (kV doc pm : Value) (an : Option Addr) (cdv ct : Value) (cc : Addr) (u v : Value), BindsTo s (PySem.W.ksFn "__init__" qual (defArgs st) (defBody st) (defScope st) .none kV doc pm an cdv ct cc) ⟨[u, v], []⟩ [("self", u), (px, v)]
section
open PySem.W PySem.Calls
variable {P : Program} {w : World} {A : Around} {R : Result → Shared → Prop} {K : W.Frag} {mg mb : Str → Option Value} {C f : Addr} {B initId newId : String} {bmB : List Value} {px fld : Str} {st : Stmt}
theorem run_init (T : Xup P K mg C f B initId newId bmB px fld st) (S : XupSt px fld st) {s : Shared} (hroom : A.depth < recursionLimit) (KX : K.In s.heap) (G : s.heap.Ns mainGlobals mg) (Bn : s.heap.Ns builtinsNs mb) (hbb : ∀ x : Str, x ≠ "__name__" → mb x = bootBuiltins x) (hlim : s.heap.NoLimit)
    {e t0 : Addr} {v : Value} (he : s.heap.get? e = some (HandSPX.excO C t0)) (hKe : K.lookup e = none)
    (hq : ∀ h' tk t1 dx, (∀ b o, b ≠ e → s.heap.get? b = some o → h'.get? b = some o) → s.heap.objs.size ≤ dx → h'.get? e = some { cls := .ref C, dict := some dx, data := .fields #[.ref t1, .none, .none, .none, .bool false, .none] } → h'.Ns1 dx (fun y => if y = fld then some v else none) → R (.ok (.ret .none)) { s with heap := h', toks := tk }) :
    codeAny (model P w) A (.call (.ref f) ⟨[.ref e, v], []⟩) R s := by
  obtain ⟨oc, od, doc, pm, an, cda, ct, kV, osl, cc, qual, cl, cld, csl, ccl, cdd, vs, ccs, file, tf, lf, hcd, lcda, hvs, hfile, lcc⟩ := T.fn
  obtain ⟨nm, q, N, bs, bm, sn, sub, ab, col, dd, k0, k1, k2, k3, k5, lC, hT, hps, hal, hob⟩ := T.cls
  obtain ⟨p0, p1, p2, p3, p4, p5, p6, p7, p8, p9, hb, hen⟩ := S.body
  obtain ⟨ar, har, hself⟩ := S.args
  refine ks_codeAny_call_defAt (binds := [("self", .ref e), (px, v)]) hroom (KX _ _ lf) rfl hlim (codeRec_of KX hcd) rfl (S.bnd s qual kV doc pm an _ ct cc _ _) S.hcell ?_ (fun h0 hns hk => ?_) S.hco S.hgen S.hk
  · intro x hx
    simp only [List.mem_cons, List.not_mem_nil, or_false] at hx
    rcases hx with rfl | rfl
    · exact S.hka
    · exact S.hkx
  obtain ⟨hi, hsw, ⟨pl, hev⟩, hst, hsw2⟩ := hen qual s.heap.objs.size f (.ref cda) cc
  rw [hb]
  have eL : e ≠ s.heap.objs.size := Nat.ne_of_lt (Heap.lt_size he)
  have vself : ([(("self" : Str), Value.ref e), (px, v)]).reverse.lookup ("self" : Str) = some (Value.ref e) := by
    show List.lookup ("self" : Str) [(px, v), (("self" : Str), Value.ref e)] = _
    rw [List.lookup_cons, show (("self" : Str) == px) = false by simpa using fun z => S.npx z.symm]
    rfl
  have vpx : ([(("self" : Str), Value.ref e), (px, v)]).reverse.lookup px = some v := by
    show List.lookup px [(px, v), (("self" : Str), Value.ref e)] = _
    rw [List.lookup_cons, beq_self_eq_true]
  have hC0 := hk _ _ (KX _ _ lC)
  have he0 := hk _ _ he
  have K0 : K.In h0 := KX.keeps hk
  refine ks_wpAt_execs_cons (ks_wpAt_Expr_any (ks_wpAt_MethodCall (pl := pl) ?_ hev) hi hsw)
  refine ks_wpAt_super_base (ar := ar) S.hks S.hkc (by decide) rfl (hk _ _ (KX _ _ lf)) rfl har rfl (hk _ _ (KX _ _ lcda)) rfl hvs hfile T.top ?_
  refine ks_loadName_global S.hk S.hks (loadGlobal_builtin (G.keeps hk) T.sup (Bn.keeps hk) ((hbb _ (by decide +kernel)).trans (show bootBuiltins "super" = some (.type "super") by decide +kernel)) ⟨rfl, ?_⟩)
  refine wpAny_loadName_free S.hk S.hkc (c := cc) rfl ⟨_, hk _ _ (KX _ _ lcc), rfl⟩ ?_
  rw [hself]
  refine wpAny_loadName_local S.hk S.hka hns vself ?_
  refine ks_wpAny_isType_cls hC0 rfl ⟨rfl, ?_⟩
  refine ks_wpAny_call_super hC0 rfl he0 rfl (fun c z => nomatch z) (looks_subIn K0 T.subC) (fun h1 e1 k1 => ?_)
  have kC1 := k1 _ _ hC0
  have he1 := k1 _ _ he0
  have K1 : K.In h1 := K0.keeps k1
  have lmro : Looks (model P w) h1 (mroOf (.ref C)) (.ref C :: bm) := (looks_clsIn K1 (show clsIn K C = some _ by unfold clsIn; rw [lC] <;> rfl)).andThen .now
  have linst : Looks (model P w) h1 (isInstance (.ref e) (.type B)) true := (show InstAt h1 e (HandSPX.excO C t0) C none from ⟨he1, rfl, rfl, trivial⟩).type.andThen (looks_subIn K1 T.subB)
  have heC : e ≠ C := fun z => by
    rw [z] at he1
    rw [kC1] at he1
    cases he1
  refine kxs_getMethod T.kf e1 (looks_opaque K1 T.op) (l₀ := .ref C :: bm) lmro (l := bm) (by simp [List.dropWhile_cons]) K1 hal linst heC (by decide) ?_
  have kp : ∀ b o, h1.get? b = some o → (h1.push (kxs_mw initId e)).get? b = some o := fun b o z => Heap.get?_push_of_some _ z
  have hns2 : (h1.push (kxs_mw initId e)).Ns s.heap.objs.size (fun x => ([(("self" : Str), Value.ref e), (px, v)]).reverse.lookup x) := (hns.keeps k1).keeps kp
  show wpAny _ _ (callWith p4 (Value.ref h1.objs.size) [] (backTo p4 (starEach [.Name px p3] (ksEnv qual (defScope st) s.heap.objs.size f (.ref cda) cc))) []) _ _ _
  rw [hst]
  refine kxs_callWith (i := initId) (x := e) rfl (evalArgs_plain (Calls.spliced_cons (wpAny_Name (wpAny_loadName_local S.hk S.hkx hns2 vpx ?_) S.ndb)))
  refine Calls.spliced_nil ⟨Heap.get?_push_at rfl rfl, ?_⟩
  have he2 := kp _ _ he1
  have kC2 := kp _ _ kC1
  refine wpAny_call (codeAny_of_tree ?_)
  show wpAny _ _ (callAny (.ref h1.objs.size) ⟨[v], []⟩) _ _ _
  simp only [callAny]
  refine wpAny_bind (wpAny_load (Heap.get?_push_at rfl rfl) ?_)
  simp only [show (Value.type "method-wrapper" == Value.type "method" || Value.type "method-wrapper" == Value.type "builtin_function_or_method" || Value.type "method-wrapper" == Value.type "method-wrapper") = true by decide, if_true]
  refine KFB.if_so (by decide) ?_
  refine wpAny_bind (check_bound_init T.fb.toExcCallFacts kC2 he2 rfl ?_)
  refine wpAny_bind (wpAny_pure (wpAny_pure ?_))
  refine ⟨plainId_quiet T.fb.init.plain _, codeAny_builtin T.fb.initEntry ?_⟩
  refine exc_init_tree (cls := .ref C) (t0 := t0) (dv := none) (c2 := .none) (c3 := .none) (b4 := .bool false) he2 (by show 1 ≤ sizeLine; decide) fun h3 k3 e3 _ => ?_
  have eL3 : s.heap.objs.size ≠ e := Ne.symm eL
  have hns3 : h3.Ns s.heap.objs.size (fun x => ([(("self" : Str), Value.ref e), (px, v)]).reverse.lookup x) := by
    obtain ⟨o, es, ep, e5, r5⟩ := hns2
    exact ⟨o, es, ep, k3 _ _ eL3 e5, r5⟩
  have K3 : K.In h3 := fun b o z => k3 b o (fun y => by
    subst y
    rw [hKe] at z
    cases z) (kp _ _ (k1 _ _ (hk _ _ (KX _ _ z))))
  refine ks_wpAt_execs_cons (wpAt_of_wpAny (plainObj_wpAny_Assign_Attribute (wpAny_Name (wpAny_loadName_local S.hk S.hkx hns3 vpx ?_) S.ndb) hsw2))
  refine wpAny_Name (wpAny_loadName_local S.hk S.hka hns3 vself ?_) (by decide)
  refine set_plain K3 (ox := { cls := .ref C, dict := none, data := .fields #[.ref (h1.push (kxs_mw initId e)).objs.size, .none, .none, .none, .bool false, .none] }) (od := none) ⟨e3, rfl, rfl, trivial⟩ T.sa ?_
  refine own_store K3 e3 (show clsIn K C = some _ by unfold clsIn; rw [lC] <;> rfl) hps (by show (Value.ref C :: bm).contains (.type "object") = true; rw [List.contains_cons, hob, Bool.or_true]) rfl T.nf fun h4 tk4 dx k4 hdx dxe e4 n4 => ?_
  refine wpAt_of_wpAny (wpAny_execs_nil ?_)
  have sz : s.heap.objs.size ≤ dx := Nat.le_trans (Nat.le_of_lt hns3.lt) hdx
  exact hq h4 _ _ dx (fun b o hb z => k4 b o hb (k3 b o hb (kp _ _ (k1 _ _ (hk _ _ z))))) sz e4 n4
theorem run_make (T : Xup P K mg C f B initId newId bmB px fld st) (S : XupSt px fld st) {s : Shared} {v : Value} (hroom : (A.under (.builtin "type.__call__" ⟨.ref C :: [v], []⟩)).depth < recursionLimit) (KX : K.In s.heap) (G : s.heap.Ns mainGlobals mg) (Bn : s.heap.Ns builtinsNs mb) (hbb : ∀ x : Str, x ≠ "__name__" → mb x = bootBuiltins x) (hlim : s.heap.NoLimit)
    (hq : ∀ h' tk t1 dx, (∀ b o, s.heap.get? b = some o → h'.get? b = some o) → s.heap.objs.size ≤ dx → dx ≠ s.heap.objs.size + 1 → h'.get? (s.heap.objs.size + 1) = some { cls := .ref C, dict := some dx, data := .fields #[.ref t1, .none, .none, .none, .bool false, .none] } → h'.Ns1 dx (fun y => if y = fld then some v else none) →
      R (.ok (.ret (.ref (s.heap.objs.size + 1)))) { s with heap := h', toks := tk }) :
    codeAny (model P w) A (.call (.ref C) ⟨[v], []⟩) R s := by
  obtain ⟨nm, q, N, bs, bm, sn, sub, ab, col, dd, k0, k1, k2, k3, k5, lC, hT, hps, hal, hob⟩ := T.cls
  obtain ⟨hp, g, d, t, os⟩ := s
  have up : ∀ b o, hp.get? b = some o → ((hp.push (W.kdv_tup [v])).push (HandSPX.excO C hp.objs.size)).get? b = some o := fun b o z => Heap.get?_push_of_some _ (Heap.get?_push_of_some _ z)
  refine HandSPX.call_own T.fb hT (KX _ _ lC) (looks_findIn KX T.ini) (fun self => bind_fn KX self T.tyf) (by show 1 ≤ sizeLine; decide) ?_
  have eg : ((hp.push (W.kdv_tup [v])).push (HandSPX.excO C hp.objs.size)).get? (hp.objs.size + 1) = some (HandSPX.excO C hp.objs.size) := Heap.get?_push_at (by rw [Heap.size_push]) rfl
  have hKe : K.lookup (hp.objs.size + 1) = none := by
    cases c : K.lookup (hp.objs.size + 1) with
    | none => rfl
    | some o => exact absurd (show hp.objs.size + 1 < hp.objs.size from Heap.lt_size (KX _ _ c)) (by omega)
  refine run_init T S hroom (KX.keeps up) (G.keeps up) (Bn.keeps up) hbb (hlim.keeps up) eg hKe fun h' tk t1 dx k hdx e2 n2 => ?_
  have hz : hp.objs.size + 2 ≤ dx := by
    have : ((hp.push (W.kdv_tup [v])).push (HandSPX.excO C hp.objs.size)).objs.size = hp.objs.size + 2 := by rw [Heap.size_push, Heap.size_push]
    rw [this] at hdx; exact hdx
  refine ⟨rfl, hq h' tk t1 dx (fun b o z => k b o (Nat.ne_of_lt (Nat.lt_succ_of_lt (Heap.lt_size z))) (up b o z)) (by show hp.objs.size ≤ dx; omega) (by show dx ≠ hp.objs.size + 1; omega) e2 n2⟩
end
/-- C(e): an exception that keeps the value of e -/
def tMkS (C : Addr) (fld : Str) (ta : TA) : L2.St → Hp → XK → Prop := fun σ H Q => ta σ H fun vs H1 => ∃ v, vs = [v] ∧ ∀ dx, H1 dx = none → Q (.ref C) (some dx) (upd H1 dx (.xd [(fld, v)]))
theorem pmk_sup {X : Cx} {C f : Addr} {B initId newId : String} {bmB : List Value} {px fld x : Str} {st : Stmt} {e : Expr} {ta : TA} {p pos : Pos} (T : Xup X.prog X.K X.mg C f B initId newId bmB px fld st) (S : XupSt px fld st) (hr : Room 1 X.A) (hg : Gl X x) (hm : X.mg x = some (.ref C))
    (kp : PySem.W.keepIn X.K (.ref C) = true) (rs : Raises X (.ref C)) (ha : PA X [e] ta) (hdb : (x == ("__debug__" : Str)) = false := by decide)
    (he : starEach [e] X.env = (false, eval e X.env) :: starEach [] X.env := by rfl) (hpl : (backTo pos (starEach [] X.env)).any (·.1) = false := by rfl) :
    PMk X (.Call (.Name x p) [e] [] pos) (tMkS C fld ta) := by
  intro pins s σ H Q I h
  refine wpAny_Call_Name_kw (ld_glob I hg hm (PySem.W.callWith_K (h₀ := X.base) I.ok.mod.kin kp (thn (ha.run pos pins s σ H _ I h) fun us s1 ⟨vs, H1, I1, r, v, ev, q⟩ => ⟨I1.kIn, ?_⟩) he hpl) hdb)
  subst ev
  obtain ⟨u, rfl, ru⟩ := vals1 r
  obtain ⟨mb, Bn, hbb⟩ := I1.mod.blt
  refine wpAny_call (run_make T S (by have := hr.dp; show X.A.depth + 1 < recursionLimit; omega) I1.kIn (I1.mod.glob.keeps I1.bk) (Bn.keeps I1.bk) hbb I1.nolimit fun h' tk t1 dx k hdx dne he2 n2 => ?_)
  have hd1 : H1 dx = none := I1.hok.fresh hdx
  have he1 : H1 (s1.heap.objs.size + 1) = none := I1.hok.fresh (Nat.le_succ _)
  obtain ⟨G, g1, g2⟩ := restrict h' fun b => decide (b ≠ s1.heap.objs.size + 1)
  have gk : ∀ b, b ≠ s1.heap.objs.size + 1 → G.get? b = h'.get? b := fun b hb => g1 b (decide_eq_true hb)
  have ge : G.get? (s1.heap.objs.size + 1) = none := g2 _ (by simp)
  have old : ∀ b o, s1.heap.get? b = some o → G.get? b = some o := fun b o z => (gk b (Nat.ne_of_lt (Nat.lt_succ_of_lt (Heap.lt_size z)))).trans (k b o z)
  have nd : ∀ {b : Addr} {o : Obj}, s1.heap.get? b = some o → b ≠ dx := fun {b o} z => Nat.ne_of_lt (Nat.lt_of_lt_of_le (Heap.lt_size z) hdx)
  have U : Un X.fs [] H1 (upd H1 dx (.xd [(fld, v)])) s1.heap G := {
    keep := fun b o z _ _ _ => old b o z
    slot := fun b o z _ _ _ => ⟨o.slots, old b o z⟩
    free := fun b o z n _ => by rw [upd_ne (nd z)]; exact n
    there := fun b o z _ => ⟨o, old b o z⟩
    tups := fun b xs z => by rw [upd_ne (ne_of_none z hd1)]; exact z
    frzs := fun b o y z => by rw [upd_ne (ne_of_none z hd1)]; exact z
    tbls := fun b ps z => ⟨#[], by rw [upd_ne (ne_of_none z hd1), z]; simp⟩ }
  have J : Inv X pins σ (upd H1 dx (.xd [(fld, v)])) { s1 with heap := G, toks := tk } := I1.un U fun b o z => by
    by_cases hb : b = dx
    · subst hb
      rw [upd_same] at z
      cases z
      exact ⟨_, n2.at fun o y => (gk b dne).trans y, relO_put (fs := []) ru fun _ => True.intro⟩
    · rw [upd_ne hb] at z
      exact (I1.hok b o z).stay (fun c y _ q => old c y q) (fun c hc => by rw [upd_ne (ne_of_none hc hd1)]; exact hc) (fun c xs hc => by rw [upd_ne (ne_of_none hc hd1)]; exact hc)
  exact ⟨s1.heap.objs.size + 1, _, _, { s1 with heap := G, toks := tk }, upd H1 dx (.xd [(fld, v)]), .ref C, some dx, rfl, J, fun b o z => by
      by_cases hb : b = s1.heap.objs.size + 1
      · subst hb
        rw [show ({ s1 with heap := G, toks := tk } : Shared).heap = G from rfl, ge] at z
        cases z
      · rw [← gk b hb]; exact z, ge, he2, ⟨rfl, rfl⟩, rfl, rfl, by rw [upd_ne (Ne.symm dne)]; exact he1, rfl, I1.bare, rs, q dx hd1⟩
end Nv

set_option Elab.async false
set_option linter.all false
set_option maxRecDepth 100000
set_option maxHeartbeats 4000000
namespace Nv
open PySem PySem.Spec PyProof.Rows L2
/-! ### a >> b by an own __rshift__ -/
section
open PySem.W
variable {P : Program} {w : World} {A : Around} {E : Value → Shared → Prop} {s : Shared} {K : W.Frag} {x C f : Addr} {ox : Obj} {od : Option Obj} {b tb : Value} {r : List Value}
/-- the class fills the operator's place -/
theorem fills_K {M : Model} {h : Heap} {nm : String} (X : K.In h) {cd : ClassData} (hc : clsIn K C = some cd) (hm : cd.mro = .ref C :: r) (hs : findIn K (.ref C) (dunder nm) = some (some (.ref f))) : Looks M h (fillsNumberSlot (.ref C) nm) true := by
  intro A Q E s k q
  have KX := X.keeps k
  have lm : Looks M s.heap (mroOf (.ref C)) (.ref C :: r) := by
    have := (looks_clsIn (M := M) KX hc)
    rw [← hm]
    exact this.andThen .now
  unfold fillsNumberSlot
  refine wpAny_bind (lm.here ?_)
  rw [List.anyM]
  refine wpAny_bind (wpAny_mono (Q := fun v s' => v = true ∧ s' = s) (E := E) ?_ (fun v s' hv => ?_) fun _ _ z => z)
  · show wpAny M A (List.anyM _ [PySem.dunder nm, PySem.dunderR nm]) _ E s
    rw [List.anyM]
    refine wpAny_bind (wpAny_bind ((looks_findIn KX hs).here ?_))
    exact wpAny_pure (wpAny_pure ⟨rfl, rfl⟩)
  · obtain ⟨rfl, rfl⟩ := hv
    exact wpAny_pure q
theorem binop_K {op : Operator} {sym nm : String} {Q : Value → Shared → Prop} (hop : op.info = (sym, nm)) (X : K.In s.heap) (I : InstAt s.heap x ox C od) {cd : ClassData} (hc : clsIn K C = some cd) (hm : cd.mro = .ref C :: r) (hs : findIn K (.ref C) (dunder nm) = some (some (.ref f))) (hf : isFn K (.ref f) = true)
    (hb : Looks (model P w) s.heap (typeOf b) tb) (hn : tb = .ref C ∨ Looks (model P w) s.heap (fillsNumberSlot tb nm) false)
    (hcall : wpAny (model P w) A (call (.ref f) [.ref x, b]) (fun v s' => v ≠ .notImplemented ∧ Q v s') E s) : wpAny (model P w) A (binaryOp op (.ref x) b) Q E s := by
  have one : wpAny (model P w) A (tryMethod (.ref x) (dunder nm) b) (fun r s' => ∃ v, r = some v ∧ Q v s') E s := by
    unfold tryMethod
    refine wpAny_bind (special_fn X I hs (beq_iff_eq.mp hf) (wpAny_mono hcall (fun v s' hv => ?_) fun _ _ z => z))
    obtain ⟨h1, h2⟩ := hv
    cases v <;> first | exact absurd rfl h1 | exact wpAny_pure ⟨_, rfl, h2⟩
  unfold binaryOp
  refine wpAny_holding ?_
  rw [hop]
  dsimp only
  refine wpAny_bind (wpAny_mono (Q := fun r s' => ∃ v, r = some v ∧ Q v s') ?_ (fun r s' hr => ?_) fun _ _ z => z)
  · have lf := fills_K (M := model P w) X hc hm hs
    have lt := I.type (M := model P w)
    cases c : (Value.ref C == tb) with
    | true =>
      unfold binaryOp1
      repeat (first
        | (with_reducible refine lt.at ?_) | (with_reducible refine hb.at ?_) | (with_reducible refine lf.at ?_)
        | (simp only [c, if_true, Bool.and_false, Bool.false_eq_true, if_false])
        | (refine wpAny_mono one (fun r s' hr => ?_) fun _ _ z => z)
        | wp_step)
      obtain ⟨v, rfl, hq⟩ := hr
      exact wpAny_pure ⟨v, rfl, hq⟩
    | false =>
      rcases hn with hn | hn
      · subst hn; simp at c
      · unfold binaryOp1
        repeat (first
          | (with_reducible refine lt.at ?_) | (with_reducible refine hb.at ?_) | (with_reducible refine lf.at ?_) | (with_reducible refine hn.at ?_)
          | (simp only [c, if_true, Bool.and_false, Bool.false_eq_true, if_false])
          | (refine wpAny_mono one (fun r s' hr => ?_) fun _ _ z => z)
          | wp_step)
        obtain ⟨v, rfl, hq⟩ := hr
        exact wpAny_pure ⟨v, rfl, hq⟩
  · obtain ⟨v, rfl, hq⟩ := hr
    exact wpAny_pure hq
end
/-! ### defs that may raise -/
/-- Pre: the arguments, what is wanted of what is returned, and of an exception: its class, its fields -/
abbrev PreX := List Dt → (Dt → Prop) → (Addr → List (Str × Dt) → Prop) → Prop
def spX (K : PySem.W.Frag) (Pre : PreX) : Sp := fun vs H Q E => ∃ (G : Hp) (ds : List Dt) (R : Dt → Prop) (XR : Addr → List (Str × Dt) → Prop), Ex G H ∧ Dats K G ds vs ∧ Pre ds R XR ∧
  (∀ v d G' H', Go G H G' H' → Dat K G' d v → R d → Q v H') ∧ ∀ C l od G' H', Go G H G' H' → XD K G' od l → XR C l → E (.ref C) od H'
/-- the callee runs, what is raised wished for at the caller's slots -/
theorem run_fnRS {X : Cx} {CX : CXT} {k : Nat} {f : Addr} {sp : Sp} {E : XK} {pins : List (Addr × Obj)} {σ : L2.St} {H : Hp} {s : Shared} {Q : VK} {us : List Value} {vs : List V} (F : FnR X.prog X.w X.K X.mg X.base CX k f sp) (hr : Room k X.A) (hx : PassesAt CX X σ E) (I : Inv X pins σ H s) (r : Vals vs us) (h : sp vs H Q E) :
    wpAny (model X.prog X.w) X.A (call (.ref f) us) (EP X pins σ Q) X.xe s := by
  refine wpAny_call (codeAny_mono (F X.A X.stack s H us vs Q E hr I.env0 r h) fun r s' hq => ?_)
  cases r with
  | error e => exact hx pins H s e s' I hq
  | ok fl =>
    cases fl with
    | ret u => exact I.after hq
    | next => exact False.elim hq
    | brk => exact False.elim hq
    | cont => exact False.elim hq
def Gfx (P : Program) (w : World) (K : PySem.W.Frag) (mg : Str → Option Value) (base : Heap) (x : Str) (k : Nat) (Pre : PreX) : Prop :=
  ∃ f, FnR P w K mg base (L2.CX P w) k f (spX K Pre) ∧ mg x = some (.ref f) ∧ PySem.W.keepIn K (.ref f) = true
def Gmx (P : Program) (w : World) (K : PySem.W.Frag) (mg : Str → Option Value) (base : Heap) (k : Nat) (f : Addr) (Pre : PreX) : Prop := FnR P w K mg base (L2.CX P w) k f (spX K Pre)
/-- the exception's wish in a def's body -/
abbrev xDef (E : XK) (XR : Addr → List (Str × Dt) → Prop) : XC := ⟨fun c od _ H => E c od H, fun _ C l => XR C l⟩
section
variable {P : Program} {w : World} {K : PySem.W.Frag} {mg : Str → Option Value} {base : Heap}
theorem frx_of {f : Addr} {fd : FuncData} {ps : List Str} {k : Nat} {sp : Sp} {CX : CXT} (F : FnOk P w K mg base CX k f fd ps sp) (b : Binds K fd ps []) : FnR P w K mg base CX k f sp :=
  (F.raw b .nil).imp fun vs H Q E h => by rw [List.append_nil]; exact h
theorem fokx_of {x qual : Str} {st : Stmt} {f : Addr} {fd : FuncData} {N ps : List Str} {k : Nat} {Pre : PreX} (F : Fun K x qual st f fd) (S : FnScope N ps (defScope st)) (len : ∀ ds R XR, Pre ds R XR → ds.length = ps.length)
    (hbody : ∀ (cdv : Value) (A : Around) (outer : List Env) (s : Shared) (H : Hp) (E : XK), Room k (A.deeper (envOfC qual (defScope st) s.heap.objs.size f cdv)) →
      ∃ t, PSs (cxOf (L2.CX P w) P w K mg base N qual (defScope st) f cdv A outer s H E) (defBody st) t ∧ ∀ ds R XR, Pre ds R XR → StD K (xDef E XR) t (startS N.length ds) (fun _ => R .non) (fun _ => False) (fun _ => False) R) :
    FnOk P w K mg base (L2.CX P w) (k + 1) f fd ps (spX K Pre) := by
  refine F.okX S (fun vs H Q E h => ?_) (fun cdv A outer s H vs Q E hr h => ?_)
  · obtain ⟨G, ds, R, XR, e, d, p, _⟩ := h
    rw [d.len]; exact len ds R XR p
  · obtain ⟨G, ds, R, XR, e, d, p, q, qx⟩ := h
    obtain ⟨t, ht, hs⟩ := hbody cdv A outer s H E hr
    exact ⟨t, ht, hs ds R XR p G H _ _ G H (Go.refl e) (sl_start e d) (fun σ' s' G' H' g' _ hn => q .non .non G' H' g' rfl hn) (fun σ' s' G' H' g' _ hn => hn.elim) (fun σ' s' G' H' g' _ hn => hn.elim) (fun v d G' H' g' dd hr => q v d G' H' g' dd hr) fun σ' s' C l od G' H' g' _ xd hx => qx C l od G' H' g' xd hx⟩
theorem gfx_of {x : Str} {st : Stmt} {N ps : List Str} {k : Nat} {Pre : PreX} (F : Df K mg x st ps) (S : FnScope N ps (defScope st)) (len : ∀ ds R XR, Pre ds R XR → ds.length = ps.length)
    (hbody : ∀ (f : Addr) (cdv : Value) (A : Around) (outer : List Env) (s : Shared) (H : Hp) (E : XK), Room k (A.deeper (envOfC x (defScope st) s.heap.objs.size f cdv)) →
      ∃ t, PSs (cxOf (L2.CX P w) P w K mg base N x (defScope st) f cdv A outer s H E) (defBody st) t ∧ ∀ ds R XR, Pre ds R XR → StD K (xDef E XR) t (startS N.length ds) (fun _ => R .non) (fun _ => False) (fun _ => False) R) :
    Gfx P w K mg base x (k + 1) Pre := by
  obtain ⟨f, fd, F, b, m⟩ := F
  exact ⟨f, frx_of (fokx_of F S len fun cdv A outer s H E hr => hbody f cdv A outer s H E hr) b, m, F.kp⟩
theorem gmx_of {C : Addr} {x qual : Str} {st : Stmt} {f : Addr} {N ps : List Str} {k : Nat} {Pre : PreX} (F : Dm K C x qual st ps f) (S : FnScope N ps (defScope st)) (len : ∀ ds R XR, Pre ds R XR → ds.length = ps.length)
    (hbody : ∀ (cdv : Value) (A : Around) (outer : List Env) (s : Shared) (H : Hp) (E : XK), Room k (A.deeper (envOfC qual (defScope st) s.heap.objs.size f cdv)) →
      ∃ t, PSs (cxOf (L2.CX P w) P w K mg base N qual (defScope st) f cdv A outer s H E) (defBody st) t ∧ ∀ ds R XR, Pre ds R XR → StD K (xDef E XR) t (startS N.length ds) (fun _ => R .non) (fun _ => False) (fun _ => False) R) :
    Gmx P w K mg base (k + 1) f Pre := by
  obtain ⟨fd, F, b⟩ := F
  exact frx_of (fokx_of F S len hbody) b
/-- a promise that raises nothing -/
theorem Gmx.calm {k : Nat} {f : Addr} {Pre : PreX} {Pre0 : List Dt → (Dt → Prop) → Prop} (F : Gmx P w K mg base k f Pre) (h : ∀ ds R, Pre0 ds R → Pre ds R fun _ _ => False) : Gm P w K mg base k f Pre0 := by
  intro A outer s H us vs Q E hr e0 rv sp
  obtain ⟨G, ds, R, e, d, p, q⟩ := sp
  refine codeAny_mono (F A outer s H us vs Q E0 hr e0 rv ⟨G, ds, R, fun _ _ => False, e, d, h ds R p, q, fun C l od G' H' _ _ z => z.elim⟩) fun r s' hq => ?_
  cases r with
  | error x =>
    obtain ⟨_, _, _, _, _, _, _, _, _, _, _, _, z⟩ := hq
    exact z.elim
  | ok fl => cases fl <;> exact hq
end
/-! calls, by a wish at the slots -/
section
variable {X : Cx} {P : Program} {w : World} {K : PySem.W.Frag} {mg : Str → Option Value} {base : Heap} {W : WX}
theorem pe_gxS {x : Str} {k : Nat} {Pre : PreX} {p pos : Pos} {e : Expr} {es : List Expr} {t : TA} (F : Gfx P w K mg base x k Pre) (hX : X.prog = P ∧ X.w = w ∧ X.K = K ∧ X.mg = mg ∧ X.base = base) (hr : Room k X.A) (hg : Gl X x) (tk : Takes X W) (ha : PA X (e :: es) t)
    (hdb : (x == ("__debug__" : Str)) = false := by decide) (he : starEach (e :: es) X.env = (false, eval e X.env) :: starEach es X.env := by rfl) (hpl : (backTo pos (starEach es X.env)).any (·.1) = false := by rfl) :
    PE X (.Call (.Name x p) (e :: es) [] pos) (tCallS (spX K Pre) (WE W) t) := by
  obtain ⟨rfl, rfl, rfl, rfl, rfl⟩ := hX
  obtain ⟨f, F, m, kp⟩ := F
  refine ⟨fun pins s σ H Q I h => ?_⟩
  refine wpAny_Call_Name_kw (ld_glob I hg m ?_ hdb)
  refine PySem.W.callWith_K (h₀ := X.base) I.ok.mod.kin kp (thn (ha.run pos pins s σ H _ I h) fun us s1 ⟨vs, H1, I1, r, q⟩ => ⟨I1.kIn, ?_⟩) he hpl
  exact run_fnRS F hr (passAt tk σ) I1 r q
/-- the same where nothing is raised -/
def tCallX (sp : Sp) (t : TA) : TE := fun σ H Q => t σ H fun vs H1 => sp vs H1 Q E0
theorem pe_gx0 {x : Str} {k : Nat} {Pre : PreX} {p pos : Pos} {e : Expr} {es : List Expr} {t : TA} (F : Gfx P w K mg base x k Pre) (hX : X.prog = P ∧ X.w = w ∧ X.K = K ∧ X.mg = mg ∧ X.base = base) (hr : Room k X.A) (hg : Gl X x) (ha : PA X (e :: es) t)
    (hdb : (x == ("__debug__" : Str)) = false := by decide) (he : starEach (e :: es) X.env = (false, eval e X.env) :: starEach es X.env := by rfl) (hpl : (backTo pos (starEach es X.env)).any (·.1) = false := by rfl) :
    PE X (.Call (.Name x p) (e :: es) [] pos) (tCallX (spX K Pre) t) := by
  obtain ⟨rfl, rfl, rfl, rfl, rfl⟩ := hX
  obtain ⟨f, F, m, kp⟩ := F
  refine ⟨fun pins s σ H Q I h => ?_⟩
  refine wpAny_Call_Name_kw (ld_glob I hg m ?_ hdb)
  refine PySem.W.callWith_K (h₀ := X.base) I.ok.mod.kin kp (thn (ha.run pos pins s σ H _ I h) fun us s1 ⟨vs, H1, I1, r, q⟩ => ⟨I1.kIn, ?_⟩) he hpl
  exact wpAny_call (run_fnR F hr passL I1 r q)
end
section
variable {K : PySem.W.Frag} {ξ : XC} {ss : List Sd} {R : Dt → Prop} {N B C : SP}
theorem ex_call {Pre : PreX} {ta : TA} (h : EvA K ta ss fun l => Pre l R (ξ.R ss)) : EvX K ξ (tCallS (spX K Pre) (WE ξ.W) ta) ss R := fun G σ H e s Q q x =>
  h G σ H e s _ fun vs l G1 H1 g1 d1 h2 => ⟨G1, l, R, ξ.R ss, g1.ink, d1, h2, fun v d G' H' g hd hr => q v d G' H' (g1.trans g) hd hr, fun C' fl od G' H' g xd hx => x C' fl od G' H' (g1.trans g) xd hx⟩
theorem ed_callX {Pre : PreX} {ta : TA} (h : EvA K ta ss fun l => Pre l R fun _ _ => False) : EvD K (tCallX (spX K Pre) ta) ss R := fun G σ H e s Q q =>
  h G σ H e s _ fun vs l G1 H1 g1 d1 h2 => ⟨G1, l, R, fun _ _ => False, g1.ink, d1, h2, fun v d G' H' g hd hr => q v d G' H' (g1.trans g) hd hr, fun C' fl od G' H' g xd hx => hx.elim⟩
/-! raise -/
def tRaise0 (C : Addr) (W : WX) : TS := fun _ σ H => W (.ref C) none σ H
theorem sd_raise0 {Cx : Addr} (h : ξ.R ss Cx []) : StD K ξ (tRaise0 Cx ξ.W) ss N B C R := fun G0 H0 D σ G H g s n b c r w => w σ ss Cx [] none G H g s (.inl ⟨rfl, rfl⟩) h
def tRaiseS (Cx : Addr) (fld : Str) (ta : TA) (W : WX) : TS := fun _ σ H => tMkS Cx fld ta σ H fun cls d H' => W cls d σ H'
theorem sd_raiseS {Cx : Addr} {fld : Str} {ta : TA} (h : EvA K ta ss fun l => ∃ d, l = [d] ∧ ξ.R ss Cx [(fld, d)]) : StD K ξ (tRaiseS Cx fld ta ξ.W) ss N B C R := fun G0 H0 D σ G H g s n b c r w =>
  h G σ H g.ink s.sv _ fun vs l G1 H1 g1 d1 ⟨d, e, hx⟩ => by
    subst e
    obtain ⟨v, r1, rfl, hv, hr⟩ := d1
    cases hr
    refine ⟨v, rfl, fun dx hdx => ?_⟩
    have gn : Go G1 H1 (upd G1 dx (.xd [(fld, v)])) (upd H1 dx (.xd [(fld, v)])) := Go.new g1.ink hdx
    exact w σ ss Cx [(fld, d)] (some dx) _ _ ((g.trans g1).trans gn) ((s.go g1).go gn) (.inr ⟨dx, _, rfl, upd_same, ⟨_, _, rfl, hv.up gn.kn, rfl⟩⟩) hx
end
section
variable {X : Cx} {C : Addr} {W : WX}
theorem ps_raise0 {bmB : List Value} {B newId initId : String} {x m : Str} {j : Nat} {p p2 pos pos' : Pos} (F : ExcBaseFacts B newId initId bmB) (q : PySem.W.excIn X.K C bmB newId = true) (gC : X.mg x = some (.ref C)) (kC : PySem.W.keepIn X.K (.ref C) = true) (r : Raises X (.ref C)) (hc : X.calm = true) (tk : Takes X W) (hg : Gl X x)
    (hdb : (x == ("__debug__" : Str)) = false := by decide) : PS X (.Raise (some (.Call (.Name x p) [.Constant (.str m) j p2] [] pos)) none pos') (tRaise0 C W) := ps_raise hc tk (pmk_own F q gC kC r hg hdb)
theorem ps_raiseS {f : Addr} {B initId newId : String} {bmB : List Value} {px fld x : Str} {st : Stmt} {e : Expr} {ta : TA} {p pos pos' : Pos} (T : Xup X.prog X.K X.mg C f B initId newId bmB px fld st) (S : XupSt px fld st) (hr : Room 1 X.A) (hm : X.mg x = some (.ref C))
    (kp : PySem.W.keepIn X.K (.ref C) = true) (rs : Raises X (.ref C)) (hc : X.calm = true) (tk : Takes X W) (hg : Gl X x) (ha : PA X [e] ta) (hdb : (x == ("__debug__" : Str)) = false := by decide)
    (he : starEach [e] X.env = (false, eval e X.env) :: starEach [] X.env := by rfl) (hpl : (backTo pos (starEach [] X.env)).any (·.1) = false := by rfl) :
    PS X (.Raise (some (.Call (.Name x p) [e] [] pos)) none pos') (tRaiseS C fld ta W) := ps_raise hc tk (pmk_sup T S hr hg hm kp rs ha hdb he hpl)
end
end Nv

set_option Elab.async false
set_option linter.all false
set_option maxRecDepth 100000
set_option maxHeartbeats 4000000
namespace Nv
open PySem PySem.Spec PyProof.Rows L2
/-! ### try .. except X as n -/
section
variable {K : PySem.W.Frag} {ξ : XC} {ss : List Sd} {R : Dt → Prop} {N B C : SP}
theorem Sl.forget {H0 G H : Hp} {σ : L2.St} (h : Sl K H0 G H σ ss) {j : Nat} {o : Option V} : Sl K H0 G H (σ.set j o) (ss.set j .no) := by
  refine ⟨h.sv.forget, fun i a l z => ?_, fun i k l m a z1 z2 => ?_⟩
  · obtain ⟨z', c⟩ := get_set_own (fun b m => Sd.noConfusion) z
    rw [List.getElem?_set_ne c]
    exact h.own i a l z'
  · exact h.sep i k l m a (get_set_own (fun b m => Sd.noConfusion) z1).1 (get_set_own (fun b m => Sd.noConfusion) z2).1
def tTryAs (K : PySem.W.Frag) (c : Value) (i : Nat) (tb : WX → TS) (ts : Addr → Value → Option Addr → TS) (Wout : WX) : TS := fun D σ H => tb (wAs K c i ts Wout D) D σ H
theorem psTryAs {X : Cx} {x n : Str} {c : Value} {i : Nat} {body suite : List Stmt} {b₀ : Stmt} {np pos pos' : Pos} {tb : WX → TS} {ts : Addr → Value → Option Addr → TS} {Wout : WX} {K : PySem.W.Frag} (hK : X.K = K) (hs : X.stack = X.env :: X.outer) (hf : X.env.frame = some X.env.locals) (hN : X.N.Nodup) (hi : X.N[i]? = some n) (hln : X.env.kindOf n = some .local) (hc : Names X x c) (tk : Takes X Wout)
    (hb : ∀ (W : WX) (pn : List (Addr × Obj)) (xe : Value → Shared → Prop), Takes (X.tr pn xe) W → PassesOwn (model X.prog X.w) X.A X.env xe → PSs (X.tr pn xe) body (tb W))
    (hsu : ∀ (a : Addr) (oe : Obj) (cls : Value) (d : Option Addr) (pn : List (Addr × Obj)), Zc cls d oe → (∃ vs, oe.data = .fields vs) → PSs (X.suite a ((a, oe) :: pn)) (b₀ :: suite) (ts a cls d)) :
    PS X (.Try body [.ExceptHandler (some (.Name x np)) (some n) (b₀ :: suite) pos'] [] [] pos) (tTryAs K c i tb ts Wout) := by
  subst hK
  exact ps_try_as hs hf hN hi hln hc tk hb hsu
theorem sd_try_as {c : Value} {i : Nat} {tb : WX → TS} {ts : Addr → Value → Option Addr → TS} (XR : List Sd → Addr → List (Str × Dt) → Prop) (hb : ∀ W, StD K ⟨W, XR⟩ (tb W) ss N B C R)
    (hx : ∀ ss' C' l, XR ss' C' l → ∃ b, PySem.W.exmOne K (.ref C') c = some b ∧ (b = true → ∀ a od, StD K x0 (ts a (.ref C') od) (ss'.set i (.dt (.exc a C' od l))) (fun s => N (s.set i .no)) (fun s => B (s.set i .no)) (fun s => C (s.set i .no)) R) ∧ (b = false → ξ.R ss' C' l)) :
    StD K ξ (tTryAs K c i tb ts ξ.W) ss N B C R := fun G0 H0 D σ G H g s n b cc r w =>
  hb (wAs K c i ts ξ.W D) G0 H0 D σ G H g s n b cc r fun σ' ss' C' l od G' H' g' s' xd hr => by
    obtain ⟨k, h1, h2, h3⟩ := hx ss' C' l hr
    refine ⟨k, h1, fun hk a ha => ?_, fun hk => w σ' ss' C' l od G' H' g' s' xd (h3 hk)⟩
    exact h2 hk a od G0 H0 _ _ G' H' g' (s'.set (d := .exc a C' od l) ⟨rfl, xd⟩) (fun σ4 s4 G4 H4 g4 l4 h4 => n _ _ G4 H4 g4 l4.forget h4) (fun σ4 s4 G4 H4 g4 l4 h4 => b _ _ G4 H4 g4 l4.forget h4) (fun σ4 s4 G4 H4 g4 l4 h4 => cc _ _ G4 H4 g4 l4.forget h4) r fun _ _ _ _ _ _ _ _ _ _ z => z.elim
/-- n.f, n the caught exception -/
theorem ed_xf {a Cc : Addr} {cls : Value} {od : Option Addr} {f : Str} {te : TE} (hc : cls = .ref Cc) (h : EvD K te ss fun d => ∃ C' l y, d = .exc a C' od l ∧ l.lookup f = some y ∧ R y) : EvD K (tXf a cls od Cc f te) ss R := fun G σ H e s Q q =>
  h G σ H e s _ fun v d G1 H1 g1 d1 ⟨C', l, y, h1, h2, h3⟩ => by
    subst h1
    obtain ⟨rfl, hd⟩ := d1
    rcases hd with ⟨_, rfl⟩ | ⟨dx, fs, rfl, hx, hf⟩
    · cases h2
    · obtain ⟨u, hu, du⟩ := hf.lookup h2
      exact ⟨rfl, hc, dx, fs, u, rfl, g1.ink _ _ hx, hu, q u y G1 H1 g1 du h3⟩
end
/-! ### a >> b, own -/
def rOpO (K : PySem.W.Frag) (C : Addr) (nm : String) (sp : Sp) (E : XK) : R2 := fun x y H Q => ∃ a dx fs t, x = .ref a ∧ H a = some (.ins C dx fs) ∧ TyX K H y t ∧ (t = .ref C ∨ (∃ n, t = .type n ∧ ∀ (M : Model) (h : Heap), PySem.W.Looks M h (fillsNumberSlot (.type n) nm) false)) ∧ sp [x, y] H Q E
section
variable {X : Cx} {C g : Addr} {n : Nat} {sp : Sp}
theorem not_ni {v : V} {u : Value} (r : RelV v u) : u ≠ .notImplemented := by
  intro e
  subst e
  cases v <;> first | exact nomatch r | (obtain ⟨_, z⟩ := r; exact nomatch z)
theorem run_opO {CX : CXT} {E : XK} {op : Operator} {sym nm : String} {K : PySem.W.Frag} {cd : ClassData} {r : List Value} {pins : List (Addr × Obj)} {σ : L2.St} {H : Hp} {s : Shared} {x y : V} {v u : Value} {Q : VK} (hK : X.K = K) (hop : op.info = (sym, nm)) (hc : PySem.W.clsIn K C = some cd) (hm : cd.mro = .ref C :: r)
    (hs : PySem.W.findIn K (.ref C) (PySem.dunder nm) = some (some (.ref g))) (hf : PySem.W.isFn K (.ref g) = true) (F : FnR X.prog X.w X.K X.mg X.base CX n g sp) (hr : Room n X.A) (hx : PassesAt CX X σ E) (I : Inv X pins σ H s) (rx : RelV x v) (ry : RelV y u) (h : rOpO K C nm sp E x y H Q) :
    wpAny (model X.prog X.w) X.A (binaryOp op v u) (EP X pins σ Q) X.xe s := by
  subst hK
  obtain ⟨a, dx, fs, t, rfl, ha, ty, hn, q⟩ := h
  cases (show v = Value.ref a from rx)
  obtain ⟨mA, O, _⟩ := ins_get I.hok ha
  obtain ⟨od, J, _⟩ := O.look
  obtain ⟨P, Z, p, _⟩ := kit_of I ry ty
  refine binop_K hop I.kIn J hc hm hs hf (Z.ty _ _ I.kIn p) (hn.imp id fun ⟨k, e, z⟩ => by subst e; exact z _ _) ?_
  refine wpAny_mono (run_fnRS (us := [.ref a, u]) (vs := [.ref a, y]) F hr hx I (.cons rfl (.cons ry .nil)) q) (fun w s' z => ?_) fun _ _ x => x
  obtain ⟨z', H', I', rz, qz⟩ := z
  exact ⟨not_ni rz, z', H', I', rz, qz⟩
theorem opOwn0 {op : Operator} {sym nm : String} {K : PySem.W.Frag} {cd : ClassData} {r : List Value} (hK : X.K = K) (hop : op.info = (sym, nm)) (hc : PySem.W.clsIn K C = some cd) (hm : cd.mro = .ref C :: r) (hs : PySem.W.findIn K (.ref C) (PySem.dunder nm) = some (some (.ref g))) (hf : PySem.W.isFn K (.ref g) = true)
    (F : FnR X.prog X.w X.K X.mg X.base (L2.CX X.prog X.w) n g sp) (hr : Room n X.A) : OpR X (binaryOp op) (rOpO K C nm sp E0) := fun pins s σ H x y v u Q I rx ry h =>
  run_opO hK hop hc hm hs hf F hr (fun pins H s e s' I c => passL pins σ H s e s' I c) I rx ry h
/-- .. what is raised wished for at the slots -/
def tOpS (K : PySem.W.Frag) (C : Addr) (nm : String) (sp : Sp) (W : WX) (ta tb : TE) : TE := fun σ H Q => ta σ H fun x H1 => tb σ H1 fun y H2 => rOpO K C nm sp (WE W σ) x y H2 Q
theorem pe_opS {op : Operator} {sym nm : String} {K : PySem.W.Frag} {cd : ClassData} {r : List Value} {W : WX} {a b : Expr} {ta tb : TE} {pos : Pos} (hK : X.K = K) (hop : op.info = (sym, nm)) (hc : PySem.W.clsIn K C = some cd) (hm : cd.mro = .ref C :: r) (hs : PySem.W.findIn K (.ref C) (PySem.dunder nm) = some (some (.ref g))) (hf : PySem.W.isFn K (.ref g) = true)
    (F : FnR X.prog X.w X.K X.mg X.base (L2.CX X.prog X.w) n g sp) (hr : Room n X.A) (tk : Takes X W) (ha : PE X a ta) (hb : PE X b tb) : PE X (.BinOp a op b pos) (tOpS K C nm sp W ta tb) := by
  refine ⟨fun pins s σ H Q I h => ?_⟩
  refine wpAny_BinOp (thn (ha.run pins s σ H _ I h) fun v s1 ⟨x, H1, I1, rx, q1⟩ => thn (hb.run pins s1 σ H1 _ I1 q1) fun u s2 ⟨y, H2, I2, ry, q2⟩ => ?_)
  exact run_opO hK hop hc hm hs hf F hr (passAt tk σ) I2 rx ry q2
end
section
variable {K : PySem.W.Frag} {ξ : XC} {ss : List Sd} {R : Dt → Prop}
def opTy (nm : String) (C : Addr) (t : Value) : Prop := t = .ref C ∨ (∃ n, t = .type n ∧ ∀ (M : Model) (h : Heap), PySem.W.Looks M h (fillsNumberSlot (.type n) nm) false)
theorem rd_opO {C : Addr} {nm : String} {l : List (Str × Dt)} {y : Dt} {t : Value} {Pre : PreX} (ht : tyV' y = some t) (hc : clsOk K y) (hn : opTy nm C t) (h : Pre [.ins C l, y] R fun _ _ => False) : RD K (rOpO K C nm (spX K Pre) E0) (.ins C l) y R := fun G H v w e d1 d2 Q k => by
  obtain ⟨a, dx, fs, rfl, ha, hf⟩ := d1
  exact ⟨a, dx, fs, t, rfl, e _ _ ha, tyx_of' (d2.up e) ht hc, hn, G, [.ins C l, y], R, fun _ _ => False, e, ⟨_, _, rfl, ⟨a, dx, fs, rfl, ha, hf⟩, _, _, rfl, d2, rfl⟩, h, k, fun _ _ _ _ _ _ _ z => z.elim⟩
theorem ex_op {C : Addr} {nm : String} {ta tb : TE} {Pre : PreX} (h : EvD K ta ss fun x => EvD K tb ss fun y => ∃ l t, x = .ins C l ∧ tyV' y = some t ∧ clsOk K y ∧ opTy nm C t ∧ Pre [x, y] R (ξ.R ss)) : EvX K ξ (tOpS K C nm (spX K Pre) ξ.W ta tb) ss R := fun G σ H e s Q q x =>
  h G σ H e s _ fun v dx G1 H1 g1 d1 h2 => h2 G1 σ H1 g1.ink (s.up g1.kn) _ fun u dy G2 H2 g2 d2 ⟨l, t, e1, ht, hc, hn, hp⟩ => by
    subst e1
    have d1' := d1.up g2.kn
    obtain ⟨a, dx, fs, rfl, ha, hf⟩ := d1'
    exact ⟨a, dx, fs, t, rfl, g2.ink _ _ ha, tyx_of' (d2.up g2.ink) ht hc, hn, G2, [.ins C l, dy], R, ξ.R ss, g2.ink, ⟨_, _, rfl, ⟨a, dx, fs, rfl, ha, hf⟩, _, _, rfl, d2, rfl⟩, hp, fun v d G' H' g hd hr => q v d G' H' ((g1.trans g2).trans g) hd hr, fun C' fl od G' H' g xd hx => x C' fl od G' H' ((g1.trans g2).trans g) xd hx⟩
end
end Nv

set_option Elab.async false
set_option linter.all false
set_option maxRecDepth 100000
set_option maxHeartbeats 4000000
namespace Nv
open PySem PySem.Spec PyProof.Rows L2
theorem psNox {X : Cx} {st : Stmt} {t : TS} (h : PS X.nox st t) : PS X st t := ⟨fun pins s σ H D I hw =>
  wpAny_mono (h.run pins s σ H D (I.wish _) hw) (fun _ _ z => z.unwish) fun _ _ z => False.elim z⟩
/-- an exception class of the text without an __init__ of its own -/
structure XoC (K : PySem.W.Frag) (mg : Str → Option Value) (nm : Str) (C : Addr) (bmB : List Value) (newId : String) : Prop where
  m : mg nm = some (.ref C)
  xi : PySem.W.excIn K C bmB newId = true
  kp : PySem.W.keepIn K (.ref C) = true
  sb : PySem.W.subIn K (.ref C) (.type "BaseException") = some true
  ty : PySem.W.typeIn K (.ref C) = some (.type "type")
  hd : PySem.W.hasDictIn K C = true
/-- one whose __init__ says super().__init__(x); self.fld = x -/
structure XsC (P : Program) (K : PySem.W.Frag) (mg : Str → Option Value) (nm : Str) (C f : Addr) (B initId newId : String) (bmB : List Value) (px fld : Str) (st : Stmt) : Prop where
  m : mg nm = some (.ref C)
  kp : PySem.W.keepIn K (.ref C) = true
  sb : PySem.W.subIn K (.ref C) (.type "BaseException") = some true
  ty : PySem.W.typeIn K (.ref C) = some (.type "type")
  hd : PySem.W.hasDictIn K C = true
  up : Xup P K mg C f B initId newId bmB px fld st
  xf : XfC K C
end Nv

set_option Elab.async false
set_option linter.all false
set_option maxRecDepth 100000
set_option maxHeartbeats 4000000
namespace Nv
open PySem PySem.Spec PyProof.Rows L2
/-! ### classes whose __new__ and __init__ come from two built-in classes (KeyError: __new__ of LookupError) -/
structure InitF (B initId : String) : Prop where
  init : Slot B (Str.ofString "__init__") initId
  initEntry : entryFor table initId = some Builtin.«BaseException.__init__»
  initKind : builtinKind initId = some Manifest.AttrKind.slot
  initRow : Manifest.signature? initId = some ⟨.positional, "*", B, .self, [⟨"args", .varPos, false⟩]⟩
  noStar : (B != "*") = true
theorem InitF.of {B newId initId : String} (F : ExcCallFacts B newId initId) : InitF B initId := ⟨F.init, F.initEntry, F.initKind, F.initRow, F.noStar⟩
theorem initF_KeyError : InitF "KeyError" "KeyError.__init__" where
  init := .of (owner := "KeyError") (n := "__init__") (by rw [typeLookup_type, builtinLookup_eq_fast]; kernel_rfl) (by decide +kernel) (by decide +kernel) (by decide +kernel)
    (by first | exact .inl (by decide +kernel) | exact .inr (by decide +kernel)) (by rw [isSubtype_type]; kernel_rfl)
  initEntry := entryFor_alias (id' := "BaseException.__init__") (by rw [fastTable_eq_tree]; kernel_rfl) (by first | rfl | decide +kernel) (by decide +kernel) (by rw [fastTable_eq_tree]; kernel_rfl)
  initKind := by kernel_rfl
  initRow := by kernel_rfl
  noStar := by decide +kernel
/-- newId is the __new__ of a built-in exception among bm -/
def NewF (bm : List Value) (newId : String) : Prop := ∃ (B initId : String) (bmB : List Value), ExcBaseFacts B newId initId bmB ∧ bm.contains (.type B) = true ∧ bm.contains (.type "AttributeError") = false ∧ bm.contains (.type "NameError") = false
section
variable {M : Model} {A : Around} {E : Value → Shared → Prop} {h : Heap} {g : Array GenState} {d : Drawn} {t : Nat} {os : OsState}
variable {nm q : Str} {C N : Addr} {bs bm bmB : List Value} {hdct : Bool} {sn : List Str} {sub : List Value} {ab : Bool} {col : Option Bool} {dd : Option Addr} {k0 k1 k2 k3 k5 : Option Value} {B newId initId : String}
theorem y_check_init (F : InitF B initId) {e : Addr} {oe : Obj} {rest : List Value} {Q : Unit → Shared → Prop} (hC : h.get? C = some (excClassObj nm q C N bs bm hdct sn sub ab col dd k0 k1 k2 k3 k5 newId)) (he : h.get? e = some oe) (hcls : oe.cls = .ref C) (hq : Q () ⟨h, g, d, t, os⟩) :
    wpAny M A (checkBoundCall initId ⟨.ref e :: rest, []⟩) Q E ⟨h, g, d, t, os⟩ := by
  have hshort := F.noStar
  simp only [checkBoundCall, F.initKind, F.initRow]
  repeat (first | (with_reducible refine wpAny_loadPart_at he ?_; rw [hcls]) | with_reducible refine wpAny_loadPart_at hC ?_ | wp_step)
  refine wpAny_onRaise ?_
  rw [show ∀ (a b : String) (n : Nat), Bind.check ⟨.positional, "*", B, .self, [⟨"args", .varPos, false⟩]⟩ a b n (List.map (fun x => x.fst) ({ pos := Value.ref e :: rest } : Args).kw) = pure () from fun a b n => check_star_args _ _ _ _ _ _]
  exact wpAny_pure hq
end
section
variable {prog : Program} {w : World} {A : Around} {E : Value → Shared → Prop} {R : Result → Shared → Prop} {h : Heap} {g : Array GenState} {d : Drawn} {t : Nat} {os : OsState}
variable {nm q : Str} {C N : Addr} {bs bm bmB : List Value} {hdct : Bool} {sn : List Str} {sub : List Value} {ab : Bool} {col : Option Bool} {dd : Option Addr} {k0 k1 k2 k3 k5 : Option Value} {newId : String}
theorem y_new {B initId : String} (F : ExcBaseFacts B newId initId bmB) {rest : List Value} (hC : h.get? C = some (excClassObj nm q C N bs bm hdct sn sub ab col dd k0 k1 k2 k3 k5 newId)) (hcB : (Value.ref C :: bm).contains (.type B) = true)
    (hcA : (Value.ref C :: bm).contains (.type "AttributeError") = false) (hcN : (Value.ref C :: bm).contains (.type "NameError") = false)
    (hq : R (.ok (.ret (.ref (h.objs.size + 1)))) ⟨(h.push { cls := .type "tuple", data := .seq rest.toArray }).push (HandSPX.excO C h.objs.size), g, d, t, os⟩) (hrest : rest.length ≤ sizeLine) :
    codeAny (model prog w) A (.builtin newId ⟨.ref C :: rest, []⟩) R ⟨h, g, d, t, os⟩ := by
  have hends := F.ends
  refine codeAny_builtinAt F.entry ?_
  unfold Builtin.«BaseException.__new__»
  refine PySem.wpAt_bind ?_
  show PySem.wpAt _ _ _ (stack >>= _) _ _ _
  refine PySem.wpAt_bind (PySem.wpAt_stack fun p below => PySem.wpAt_of_wpAny ?_)
  wp_walk
  refine PySem.wpAt_of_wpAny ?_
  rw [F.owner]
  repeat (first | with_reducible refine wpAny_madeHere_exc F.canon hC ?_ | with_reducible refine wpAny_loadPart_at hC ?_ | (with_reducible refine wpAny_isSubtype_exc hC ?_; first | rw [hcB] | rw [hcA] | rw [hcN]) | wp_step)
  show R _ _
  rw [Heap.size_push]
  exact hq
theorem y_call_own (F : NewF bm newId) {rest : List Value} {fI : Addr} (hC : h.get? C = some (excClassObj nm q C N bs bm hdct sn sub ab col dd k0 k1 k2 k3 k5 newId))
    (hi : PySem.W.Looks (model prog w) h (typeLookup (.ref C) "__init__") (some (.ref fI))) (hb : ∀ self, PySem.W.Looks (model prog w) h (bindSpecial (.ref fI) self) (.ref fI, [self])) (hrest : rest.length ≤ sizeLine)
    (hq : codeAny (model prog w) (A.under (.builtin "type.__call__" ⟨.ref C :: rest, []⟩)) (.call (.ref fI) ⟨.ref (h.objs.size + 1) :: rest, []⟩) (PySem.W.InitBack (h.objs.size + 1) R)
      ⟨(h.push (PySem.W.kdv_tup rest)).push (HandSPX.excO C h.objs.size), g, d, t, os⟩) :
    codeAny (model prog w) A (.call (.ref C) ⟨rest, []⟩) R ⟨h, g, d, t, os⟩ := by
  obtain ⟨B, initId, bmB, F, cB, cA, cN⟩ := F
  have f1 := tc_lookup
  have f2 := tc_bind (.ref C)
  have hTy : (⟨h, g, d, t, os⟩ : Shared).TypeIs (.ref C) "type" := ⟨_, hC, rfl⟩
  have hcB : (Value.ref C :: bm).contains (.type B) = true := by rw [List.contains_cons, cB, Bool.or_true]
  have hcA : (Value.ref C :: bm).contains (.type "AttributeError") = false := by rw [List.contains_cons, cA]; rfl
  have hcN : (Value.ref C :: bm).contains (.type "NameError") = false := by rw [List.contains_cons, cN]; rfl
  refine codeAny_of_tree ?_
  show wpAny _ _ (callAny (.ref C) _) _ _ _
  repeat (any_goals (first | assumption | with_reducible refine wpAny_loadPart_at hC ?_ | wp_step))
  refine ⟨rfl, ?_⟩
  refine codeAny_call_builtin_at (Code.quiet_builtin _ (by decide +kernel)) entry_typeCall (wpAny_check_type_call_sub hC ?_)
  repeat (first | with_reducible refine wpAny_loadPart_at hC ?_ | with_reducible refine wpAny_madeBy_exc hC ?_ | wp_step)
  have hstar := F.noStar
  refine codeAny_call_builtin_code (Code.quiet_builtin _ F.quiet) ?_
  simp only [checkBuiltinCall, F.newKind, F.newSplit, F.newRow]
  repeat (first | refine wpAny_loadPart_at hC ?_ | (refine wpAny_isSubtype_exc hC ?_; rw [hcB]) | refine wpAny_staticBase_exc hC ?_ | refine wpAny_madeBy_exc hC ?_ | simp only [bne_self_eq_false, Bool.false_eq_true, if_false] | wp_step)
  refine y_new F hC hcB hcA hcN ?_ hrest
  show wpAny _ _ _ _ _ _
  have k : ∀ b o, h.get? b = some o → ((h.push (PySem.W.kdv_tup rest)).push (HandSPX.excO C h.objs.size)).get? b = some o := fun b o e => Heap.get?_push_of_some _ (Heap.get?_push_of_some _ e)
  have hC₁ := k _ _ hC
  have hget : ((h.push (PySem.W.kdv_tup rest)).push (HandSPX.excO C h.objs.size)).get? (h.objs.size + 1) = some (HandSPX.excO C h.objs.size) := by heap_get
  have hcC : (Value.ref C :: bm).contains (.ref C) = true := by simp
  have i1 := hi.keeps k
  have b1 := (hb (.ref (h.objs.size + 1))).keeps k
  unfold isInstance
  repeat (first | with_reducible refine wpAny_loadPart_at hget ?_ | wp_step)
  show wpAny _ _ (isSubtype (.ref C) (.ref C)) _ _ _
  refine wpAny_isSubtype_exc hC₁ ?_
  rw [hcC]
  repeat (first | with_reducible refine wpAny_loadPart_at hget ?_ | wp_step)
  show wpAny _ _ (typeLookup (.ref C) _) _ _ _
  refine i1.at ?_
  refine wpAny_holding (wpAny_bind (b1.at ?_))
  refine wpAny_bind (wpAny_call (codeAny_mono hq fun r s' z => ?_))
  rcases r with e | (v | _ | _ | _) <;> first | exact z | exact z.elim | skip
  obtain ⟨rfl, z⟩ := z
  first
    | exact wpAny_pure (wpAny_pure z)
    | (wp_walk; exact z)
end
theorem passes_KeyError (y : Value) : refuseLoop y "__setattr__" [.type "KeyError", .type "LookupError", .type "Exception", .type "BaseException", .type "object"] = pure () := by kernel_rfl
theorem kxs_KeyError : PySem.W.KxsFacts "KeyError" "KeyError.__init__" := ⟨by show builtinType _ = _; rw [builtinType_eq_fast]; kernel_rfl, by first | kernel_rfl | rfl⟩
/-! ### {v} in a text, v of any kind -/
section
variable {P : Program} {w : World}
theorem Rq.fmt {A : Around} {E : Value → Shared → Prop} {s : Shared} {Q : Value → Shared → Prop} {v : Value} {d : PyData} (r : Rq s.heap v d) (hs : d.showable = true) (hg : A.guards = some []) (hu : A.units + (d.depth + 3) < cLine) {n : Nat} (hn : n ≤ sizeLine) (hzn : d.shown.length ≤ n)
    (hx : ∀ x t, v = .str x t → x.length ≤ n)
    (hQ : ∀ h' y u tk, (∀ b o, s.heap.get? b = some o → h'.get? b = some o) → y.length ≤ n → Q (.str y u) { s with heap := h', toks := tk }) : wpAny (model P w) A (formatField v Str.empty) Q E s := by
  have same : ∀ b o, s.heap.get? b = some o → s.heap.get? b = some o := fun _ _ e => e
  have hz : d.shown.length ≤ sizeLine := Nat.le_trans hzn hn
  cases r with
  | non => exact wpAny_formatField_none (hQ _ _ _ _ same hzn)
  | bl b => exact wpAny_formatField_bool (hQ _ _ _ _ same hzn)
  | num i t => exact wpAny_formatField_int (of_decide_eq_true hs) (hQ _ _ _ _ same hzn)
  | txt x t => exact wpAny_formatField_str (hQ _ _ _ _ same (hx _ _ rfl)) (hQ _ _ _ _ same (hx _ _ rfl)) (Nat.le_trans (hx _ _ rfl) hn)
  | @lst a o vs m xs h1 h2 h3 h4 =>
    have hz : (listText (PyData.shownAll xs)).length ≤ sizeLine := hz
    have hu : A.units + (PyData.depthAll xs + 1 + 3) < cLine := hu
    obtain ⟨bs, hb, hk⟩ := h4.sh (P := P) (w := w) hs fun t ht => Nat.le_trans (listText_mem_le ht) hz
    obtain ⟨_, r4⟩ := h4.rds
    have hnd := not_mem_of_deeper (Reads.list h1 h2 h3 r4) (Nat.lt_succ_self (PyData.depthAll xs)) hb
    refine wpAny_formatField_slot (fun _ _ => nofun) (by omega) ⟨o, h1, h2⟩ F.slot_list_format F.slot_list_str F.slot_list_repr.toG ?_
    obtain ⟨l⟩ := vs
    match l, h3, h4, hk with
    | [], h3, h4, _ =>
      cases h4.nilL
      exact call_list_repr_empty ⟨o, h1, h2⟩ h1 h3 ⟨_, _, rfl, hQ s.heap _ _ _ same hzn⟩
    | x :: l, h3, h4, hk => exact call_list_reprK h1 h2 h3 hnd (by simpa using hk.length_eq) (fun i y e => hk.item i y (by simpa using e)) hg (fun b _ => Clear.nil b) (by show A.units + 1 + 1 + _ < cLine; omega) same (fun h' u tk k => ⟨_, _, rfl, hQ h' _ u tk k hzn⟩) hz
  | @tup a o vs m xs h1 h2 h3 h4 =>
    have hz : (tupleText (PyData.shownAll xs)).length ≤ sizeLine := hz
    have hu : A.units + (PyData.depthAll xs + 1 + 3) < cLine := hu
    obtain ⟨bs, hb, hk⟩ := h4.sh (P := P) (w := w) hs fun t ht => Nat.le_trans (tupleText_mem_le ht) hz
    obtain ⟨_, r4⟩ := h4.rds
    have hnd := not_mem_of_deeper (Reads.tuple h1 h2 h3 r4) (Nat.lt_succ_self (PyData.depthAll xs)) hb
    exact wpAny_formatField_slot (fun _ _ => nofun) (by omega) ⟨o, h1, h2⟩ F.slot_tuple_format F.slot_tuple_str F.slot_tuple_repr (call_tuple_reprK h1 h2 h3 hnd hk hg (fun b _ => Clear.nil b) (by show A.units + 1 + 1 + _ < cLine; omega) same (fun h' u tk k => ⟨_, _, rfl, hQ h' _ u tk k hzn⟩) hz)
  | @dic a o es m kvs h1 h2 h3 hy h4 h5 =>
    have hz : (dictText (PyData.shownKv kvs)).length ≤ sizeLine := hz
    have hu : A.units + (PyData.depthKv kvs + 1 + 3) < cLine := hu
    obtain ⟨s1, s2⟩ := PyData.showableKv_split kvs hs
    obtain ⟨b1, hb1, k1⟩ := h4.sh (P := P) (w := w) s1 fun t ht => let ⟨p, hp, hl⟩ := PyData.shownKv_key_le kvs t ht; Nat.le_trans hl (Nat.le_trans (dictText_mem_le hp) hz)
    obtain ⟨b2, hb2, k2⟩ := h5.sh (P := P) (w := w) s2 fun t ht => let ⟨p, hp, hl⟩ := PyData.shownKv_val_le kvs t ht; Nat.le_trans hl (Nat.le_trans (dictText_mem_le hp) hz)
    obtain ⟨_, r4⟩ := h4.rds
    obtain ⟨_, r5⟩ := h5.rds
    have hb := (hb1.mono (PyData.depthAll_keys_le kvs)).append (hb2.mono (PyData.depthAll_vals_le kvs))
    have hnd := not_mem_of_deeper (Reads.dict h1 h2 h3 r4 r5) (Nat.lt_succ_self (PyData.depthKv kvs)) hb
    exact wpAny_formatField_slot (fun _ _ => nofun) (by omega) ⟨o, h1, h2⟩ F.slot_dict_format F.slot_dict_str F.slot_dict_repr (call_dict_reprK h1 h2 h3 hy hnd (ents k1 k2) hg (fun b _ => Clear.nil b) (by show A.units + 1 + 1 + _ < cLine; omega) same (fun h' u tk k => ⟨_, _, rfl, hQ h' _ u tk k hzn⟩) hz)
end
end Nv

set_option Elab.async false
set_option linter.all false
set_option maxRecDepth 100000
set_option maxHeartbeats 4000000
namespace Nv
open PySem PySem.Spec PyProof.Rows L2
/-! ### exceptions whose __init__ says super().__init__(e0), keeps the first thing, and goes on with tl -/
section
open PySem.W PySem.Calls Builtin Builtin.ObjectAttr
variable {P : Program} {w : World} {A : Around} {R : Result → Shared → Prop} {hp : Heap} {g : Array GenState} {d : Drawn} {t : Nat} {os : OsState}
/-- self.nm = v, a further field -/
theorem own_store2 {K : W.Frag} {nm : Str} {tk : Tok} {v : Value} {x C dx : Addr} {fv : Array Value} {cd : ClassData} {m0 : Str → Option Value} {nl : List Str} (X : K.In hp) (hx : hp.get? x = some { cls := .ref C, dict := some dx, data := .fields fv }) (hns : hp.Ns1 dx m0) (hw : Within m0 nl) (hz : nl.length ≤ 1000) (hcd : W.clsIn K C = some cd)
    (hps : ∀ y, refuseLoop y "__setattr__" cd.mro = pure ()) (hob : cd.mro.contains (.type "object") = true) (hh : cd.hasDict = true) (ha : W.findIn K (.ref C) nm = some none)
    (hq : ∀ h' tk', (∀ b o, b ≠ dx → hp.get? b = some o → h'.get? b = some o) → h'.Ns1 dx (fun y => if y = nm then some v else m0 y) → R (.ok (.ret .none)) ⟨h', g, d, tk', os⟩) :
    codeAny (model P w) A (.call (.builtin "object.__setattr__") ⟨[.ref x, .str nm tk, v], []⟩) R ⟨hp, g, d, t, os⟩ := by
  obtain ⟨oD, esD, epD, hoD, hdD, _⟩ := hns.count hw
  have Ia : W.InstAt hp x { cls := .ref C, dict := some dx, data := .fields fv } C (some oD) := ⟨hx, rfl, rfl, hoD⟩
  have SF := F.store_object
  have ne : cd.mro.isEmpty = false := by
    cases c : cd.mro with
    | nil => rw [c] at hob; cases hob
    | cons _ _ => rfl
  have isob : W.Looks (model P w) hp (isInstance (.ref x) (.type "object")) true := Ia.type.andThen (W.looks_mroIn X (by unfold W.mroIn; rw [hcd, Option.bind_some, if_neg (by rw [ne]; exact Bool.false_ne_true), hob]))
  refine codeAny_call_builtin SF.slot.plain SF.entry (@W.check_slot (model P w) _ _ ⟨hp, g, d, t, os⟩ "object.__setattr__" "object" "__setattr__" (.ref x) [.str nm tk, v] [] _ SF.kind SF.split isob (SF.args (.ref x) (.str nm tk) v) ?_)
  have lm : W.Looks (model P w) hp (mroOf (.ref C)) cd.mro := (W.looks_clsIn X hcd).andThen .now
  have l3 : W.Looks (model P w) hp (storeTaker? none) none := .now
  have lc : W.Looks (model P w) hp (classData C) cd := W.looks_clsIn X hcd
  rw [W.osa_eq, refuse_eq]
  refine wpAny_bind (wpAny_bind (Ia.type.at (wpAny_bind (lm.at ?_))))
  rw [hps]
  refine wpAny_pure (wpAny_bind (Ia.type.at (wpAny_bind ((W.looks_findIn X ha).at (wpAny_bind (l3.at ?_))))))
  show wpAny _ _ (storeInOwnDict (.ref x) (.ref C) (.str nm tk) nm v false) _ _ _
  obtain ⟨nm', bs, mro, ns, qn, hd, sn, sb, ab, col, del⟩ := cd
  dsimp only at hh
  subst hh
  unfold storeInOwnDict ownDictForStores
  repeat (first | with_reducible refine PySem.OEX.store_in_old hns hw hz ?_ | with_reducible refine wpAny_loadPart_at hx ?_ | with_reducible refine lc.at ?_ | wp_step)
  intro h' tk' hn' hs
  exact hq h' tk' (fun b o hb ho => (hs.2 b hb).trans ho) hn'
end
/-- what the text says of such a class -/
structure Yup (P : Program) (K : PySem.W.Frag) (mg : Str → Option Value) (C f : Addr) (B initId newId : String) (flds : List Str) (st : Stmt) : Prop where
  kf : PySem.W.KxsFacts B initId
  ib : InitF B initId
  cls : ∃ nm q N bs bm sn sub ab col dd k0 k1 k2 k3 k5, K.lookup C = some (excClassObj nm q C N bs bm true sn sub ab col dd k0 k1 k2 k3 k5 newId) ∧ NewF bm newId ∧ (∀ y, refuseLoop y "__setattr__" (.ref C :: bm) = pure ()) ∧
    PySem.W.alongIn K "__init__" bm = some (some (.builtin initId)) ∧ bm.contains (.type "object") = true
  sa : PySem.W.findIn K (.ref C) "__setattr__" = some (some (.builtin "object.__setattr__"))
  nf : ∀ fld ∈ flds, PySem.W.findIn K (.ref C) fld = some none
  ini : PySem.W.findIn K (.ref C) "__init__" = some (some (.ref f))
  tyf : PySem.W.typeIn K (.ref f) = some (.type "function")
  subB : PySem.W.subIn K (.ref C) (.type B) = some true
  subC : PySem.W.subIn K (.ref C) (.ref C) = some true
  op : PySem.W.nsIn K cStatics "thirdparty.any" = some none
  sup : mg "super" = none
  fn : ∃ (oc : Value) (od : Option Addr) (doc pm : Value) (an : Option Addr) (cda : Addr) (ct kV : Value) (osl : Array (Option Value)) (cc : Addr) (qual : Str) (cl : Value) (cld : Option Addr) (csl : Array (Option Value)) (ccl : Value) (cdd : Option Addr) (vs : Array Value) (ccs : Array (Option Value)) (file : Str) (tf : Tok),
    K.lookup f = some ⟨oc, od, .func (PySem.W.ksFn "__init__" qual (defArgs st) (defBody st) (defScope st) .none kV doc pm an (.ref cda) ct cc), osl⟩ ∧ PySem.W.codeIn K (.ref cda) qual = true ∧
    K.lookup cda = some ⟨ccl, cdd, .fields vs, ccs⟩ ∧ vs[2]? = some (.str file tf) ∧ ((P.main.file : Str) == file) = true ∧ K.lookup cc = some ⟨cl, cld, .cell (some (.ref C)), csl⟩
  top : (P.main.scope.names.lookup ("super" : Str)).isSome = false
/-- its text: e0 goes to super().__init__, tl comes behind the first field, ps are the parameters behind self -/
structure YSt (px fld : Str) (e0 : Expr) (tl : List Stmt) (ps : List Str) (st : Stmt) : Prop where
  body : ∃ p0 p1 p2 p4 p5 p6 p7 p8 p9 : Pos, defBody st = .Expr (.Call (.Attribute (.Call (.Name "super" p0) [] [] p1) "__init__" p2) [e0] [] p4) p5 :: .Assign [.Attribute (.Name "self" p6) fld p7] (.Name px p8) p9 :: tl ∧
    ∀ (qual : Str) (L f : Addr) (cd : Value) (cc : Addr), interactive (PySem.W.ksEnv qual (defScope st) L f cd cc) = false ∧ swapsWith (.Call (.Attribute (.Call (.Name "super" p0) [] [] p1) "__init__" p2) [e0] [] p4) none p5.line (PySem.W.ksEnv qual (defScope st) L f cd cc) = pure false ∧
      (∃ pl : Sem Bool, eval (.Call (.Attribute (.Call (.Name "super" p0) [] [] p1) "__init__" p2) [e0] [] p4) (PySem.W.ksEnv qual (defScope st) L f cd cc) = (do
        let ov ← attributeBase (.Call (.Name "super" p0) [] [] p1) "__init__" (PySem.W.ksEnv qual (defScope st) L f cd cc) (eval (.Call (.Name "super" p0) [] [] p1) (PySem.W.ksEnv qual (defScope st) L f cd cc))
        standAt p2.atName
        let (f', first) ← holding [ov] (getMethod ov "__init__" pl)
        callWith p4 f' first (backTo p4 (starEach [e0] (PySem.W.ksEnv qual (defScope st) L f cd cc))) [])) ∧
      starEach [e0] (PySem.W.ksEnv qual (defScope st) L f cd cc) = [(false, eval e0 (PySem.W.ksEnv qual (defScope st) L f cd cc))] ∧
      swapsWith (.Name px p8) (some (.Attribute (.Name "self" p6) fld p7)) p9.line (PySem.W.ksEnv qual (defScope st) L f cd cc) = pure false
  args : ∃ ar : Arg, ((defArgs st).posonlyargs ++ (defArgs st).args).head? = some ar ∧ ar.arg = "self"
  hks : (defScope st).names.lookup ("super" : Str) = some .globalImplicit
  hkc : (defScope st).names.lookup ("__class__" : Str) = some .free
  hka : (defScope st).names.lookup ("self" : Str) = some .local
  hkx : ∀ p ∈ ps, (defScope st).names.lookup p = some .local
  mem : px ∈ ps
  hk : (defScope st).kind = .function
  hcell : ∀ x ∈ (defScope st).names, x.2 ≠ .cell
  hco : (defScope st).isCoroutine = false
  hgen : (defScope st).isGenerator = false
  nself : ("self" : Str) ∉ ps
  ndb : (px == ("__debug__" : Str)) = false
  bnd : ∀ (s : Shared) (qual : Str) (kV doc pm : Value) (an : Option Addr) (cdv ct : Value) (cc : Addr) (u : Value) (vs : List Value), vs.length = ps.length → BindsTo s (PySem.W.ksFn "__init__" qual (defArgs st) (defBody st) (defScope st) .none kV doc pm an cdv ct cc) ⟨u :: vs, []⟩ ((("self" : Str), u) :: ps.zip vs)
abbrev bnds (e : Addr) (ps : List Str) (vs : List Value) : List (Str × Value) := ((("self" : Str), Value.ref e) :: ps.zip vs).reverse
theorem bnds_self {e : Addr} {ps : List Str} {vs : List Value} (h : ("self" : Str) ∉ ps) : (bnds e ps vs).lookup ("self" : Str) = some (Value.ref e) := by
  unfold bnds
  rw [List.reverse_cons, List.lookup_append]
  have : (ps.zip vs).reverse.lookup ("self" : Str) = none := by
    refine List.lookup_eq_none_iff.mpr fun p hp => ?_
    rw [List.mem_reverse] at hp
    simp only [beq_eq_false_iff_ne, ne_eq, bne_iff_ne]
    intro z
    exact h (z ▸ (List.of_mem_zip hp).1)
  rw [this]
  rfl
section
open PySem.W PySem.Calls
variable {P : Program} {w : World} {A : Around} {R : Result → Shared → Prop} {K : W.Frag} {mg mb : Str → Option Value} {C f : Addr} {B initId newId : String} {bmB : List Value} {px fld : Str} {st : Stmt} {e0 : Expr} {tl : List Stmt} {ps : List Str}
theorem run_front {flds : List Str} (T : Yup P K mg C f B initId newId flds st) (hfl : fld ∈ flds) (S : YSt px fld e0 tl ps st) {s : Shared} (hroom : A.depth < recursionLimit) (KX : K.In s.heap) (G : s.heap.Ns mainGlobals mg) (Bn : s.heap.Ns builtinsNs mb) (hbb : ∀ x : Str, x ≠ "__name__" → mb x = bootBuiltins x) (hlim : s.heap.NoLimit)
    {e t0 : Addr} {vs : List Value} {v : Value} (hvs : vs.length = ps.length) (vpx : (bnds e ps vs).lookup px = some v) (he : s.heap.get? e = some (HandSPX.excO C t0)) (hKe : K.lookup e = none)
    (harg : ∀ (env : Env) (E' : Value → Shared → Prop) (Q' : Value → Shared → Prop) (s1 : Shared) (L : Addr), env.scope = defScope st → env.locals = L → s1.heap.Ns L (fun x => (bnds e ps vs).lookup x) → (∀ b o, s.heap.get? b = some o → s1.heap.get? b = some o) → 
      (∀ u h2 tk, (∀ b o, s1.heap.get? b = some o → h2.get? b = some o) → Q' u { s1 with heap := h2, toks := tk }) → wpAny (model P w) (A.deeper env) (eval e0 env) Q' E' s1)
    (hq : ∀ (env : Env) (h' : Heap) (tk : Nat) (t1 dx : Addr) (E' : Value → Shared → Prop) (cc : Code), env.scope = defScope st → env.locals = s.heap.objs.size → (∀ b o, b ≠ e → s.heap.get? b = some o → h'.get? b = some o) → K.In h' → h'.Ns s.heap.objs.size (fun x => (bnds e ps vs).lookup x) → s.heap.objs.size < dx → dx ≠ e →
      h'.get? e = some { cls := .ref C, dict := some dx, data := .fields #[.ref t1, .none, .none, .none, .bool false, .none] } → h'.Ns1 dx (fun y => if y = fld then some v else none) →
      PySem.wpAt (model P w) (A.deeper env) cc (execs tl env) (fun f s' => R (.ok (.ret (match f with | .ret v => v | _ => .none))) s') E' { s with heap := h', toks := tk }) :
    codeAny (model P w) A (.call (.ref f) ⟨.ref e :: vs, []⟩) R s := by
  obtain ⟨oc, od, doc, pm, an, cda, ct, kV, osl, cc, qual, cl, cld, csl, ccl, cdd, vs', ccs, file, tf, lf, hcd, lcda, hvs', hfile, lcc⟩ := T.fn
  obtain ⟨nm, q, N, bs, bm, sn, sub, ab, col, dd, k0, k1, k2, k3, k5, lC, hN, hps, hal, hob⟩ := T.cls
  obtain ⟨p0, p1, p2, p4, p5, p6, p7, p8, p9, hb, hen⟩ := S.body
  obtain ⟨ar, har, hself⟩ := S.args
  refine ks_codeAny_call_defAt (binds := (("self" : Str), Value.ref e) :: ps.zip vs) hroom (KX _ _ lf) rfl hlim (codeRec_of KX hcd) rfl (S.bnd s qual kV doc pm an _ ct cc _ _ hvs) S.hcell ?_ (fun h0 hns hk => ?_) S.hco S.hgen S.hk
  · intro x hx
    rcases List.mem_cons.mp hx with rfl | hx
    · exact S.hka
    · exact S.hkx _ (List.of_mem_zip hx).1
  obtain ⟨hi, hsw, ⟨pl, hev⟩, hst, hsw2⟩ := hen qual s.heap.objs.size f (.ref cda) cc
  have hb' : (PySem.W.ksFn "__init__" qual (defArgs st) (defBody st) (defScope st) .none kV doc pm an (.ref cda) ct cc).body = .stmts (defBody st) := rfl
  rw [hb]
  have eL : e ≠ s.heap.objs.size := Nat.ne_of_lt (Heap.lt_size he)
  have vself := bnds_self (e := e) (ps := ps) (vs := vs) S.nself
  have hC0 := hk _ _ (KX _ _ lC)
  have he0 := hk _ _ he
  have K0 : K.In h0 := KX.keeps hk
  refine ks_wpAt_execs_cons (ks_wpAt_Expr_any (ks_wpAt_MethodCall (pl := pl) ?_ hev) hi hsw)
  refine ks_wpAt_super_base (ar := ar) S.hks S.hkc (by decide) rfl (hk _ _ (KX _ _ lf)) rfl har rfl (hk _ _ (KX _ _ lcda)) rfl hvs' hfile T.top ?_
  refine ks_loadName_global S.hk S.hks (loadGlobal_builtin (G.keeps hk) T.sup (Bn.keeps hk) ((hbb _ (by decide +kernel)).trans (show bootBuiltins "super" = some (.type "super") by decide +kernel)) ⟨rfl, ?_⟩)
  refine wpAny_loadName_free S.hk S.hkc (c := cc) rfl ⟨_, hk _ _ (KX _ _ lcc), rfl⟩ ?_
  rw [hself]
  refine wpAny_loadName_local S.hk S.hka hns vself ?_
  refine ks_wpAny_isType_cls hC0 rfl ⟨rfl, ?_⟩
  refine ks_wpAny_call_super hC0 rfl he0 rfl (fun c z => nomatch z) (looks_subIn K0 T.subC) (fun h1 e1 k1 => ?_)
  have kC1 := k1 _ _ hC0
  have he1 := k1 _ _ he0
  have K1 : K.In h1 := K0.keeps k1
  have lmro : Looks (model P w) h1 (mroOf (.ref C)) (.ref C :: bm) := (looks_clsIn K1 (show clsIn K C = some _ by unfold clsIn; rw [lC] <;> rfl)).andThen .now
  have linst : Looks (model P w) h1 (isInstance (.ref e) (.type B)) true := (show InstAt h1 e (HandSPX.excO C t0) C none from ⟨he1, rfl, rfl, trivial⟩).type.andThen (looks_subIn K1 T.subB)
  have heC : e ≠ C := fun z => by
    rw [z] at he1
    rw [kC1] at he1
    cases he1
  refine kxs_getMethod T.kf e1 (looks_opaque K1 T.op) (l₀ := .ref C :: bm) lmro (l := bm) (by simp [List.dropWhile_cons]) K1 hal linst heC (by decide) ?_
  have kp : ∀ b o, h1.get? b = some o → (h1.push (kxs_mw initId e)).get? b = some o := fun b o z => Heap.get?_push_of_some _ z
  have hns2 : (h1.push (kxs_mw initId e)).Ns s.heap.objs.size (fun x => (bnds e ps vs).lookup x) := (hns.keeps k1).keeps kp
  show wpAny _ _ (callWith p4 (Value.ref h1.objs.size) [] (backTo p4 (starEach [e0] (ksEnv qual (defScope st) s.heap.objs.size f (.ref cda) cc))) []) _ _ _
  rw [hst]
  refine kxs_callWith (i := initId) (x := e) rfl (evalArgs_plain (Calls.spliced_cons (harg (ksEnv qual (defScope st) s.heap.objs.size f (.ref cda) cc) _ _ _ _ rfl rfl hns2 (fun b o z => kp _ _ (k1 _ _ (hk _ _ z))) fun u h2 tk2 k2 => ?_)))
  have hmw : h2.get? h1.objs.size = some (kxs_mw initId e) := k2 _ _ (Heap.get?_push_at rfl rfl)
  refine Calls.spliced_nil ⟨hmw, ?_⟩
  have he2 := k2 _ _ (kp _ _ he1)
  have kC2 := k2 _ _ (kp _ _ kC1)
  refine wpAny_call (codeAny_of_tree ?_)
  show wpAny _ _ (callAny (.ref h1.objs.size) ⟨[u], []⟩) _ _ _
  simp only [callAny]
  refine wpAny_bind (wpAny_load hmw ?_)
  simp only [show (Value.type "method-wrapper" == Value.type "method" || Value.type "method-wrapper" == Value.type "builtin_function_or_method" || Value.type "method-wrapper" == Value.type "method-wrapper") = true by decide, if_true]
  refine KFB.if_so (by decide) ?_
  refine wpAny_bind (y_check_init T.ib kC2 he2 rfl ?_)
  refine wpAny_bind (wpAny_pure (wpAny_pure ?_))
  refine ⟨plainId_quiet T.ib.init.plain _, codeAny_builtin T.ib.initEntry ?_⟩
  refine exc_init_tree (cls := .ref C) (t0 := t0) (dv := none) (c2 := .none) (c3 := .none) (b4 := .bool false) he2 (by show 1 ≤ sizeLine; decide) fun h3 k3 e3 _ => ?_
  have eL3 : s.heap.objs.size ≠ e := Ne.symm eL
  have hns3 : h3.Ns s.heap.objs.size (fun x => (bnds e ps vs).lookup x) := by
    obtain ⟨o, es, ep, e5, r5⟩ := hns2
    exact ⟨o, es, ep, k3 _ _ eL3 (k2 _ _ e5), r5⟩
  have up3 : ∀ b o, b ≠ e → s.heap.get? b = some o → h3.get? b = some o := fun b o hb z => k3 b o hb (k2 _ _ (kp _ _ (k1 _ _ (hk _ _ z))))
  have K3 : K.In h3 := fun b o z => up3 b o (fun y => by
    subst y
    rw [hKe] at z
    cases z) (KX _ _ z)
  refine ks_wpAt_execs_cons (wpAt_of_wpAny (plainObj_wpAny_Assign_Attribute (wpAny_Name (wpAny_loadName_local S.hk (S.hkx _ S.mem) hns3 vpx ?_) S.ndb) hsw2))
  refine wpAny_Name (wpAny_loadName_local S.hk S.hka hns3 vself ?_) (by decide)
  refine set_plain K3 (ox := { cls := .ref C, dict := none, data := .fields #[.ref h2.objs.size, .none, .none, .none, .bool false, .none] }) (od := none) ⟨e3, rfl, rfl, trivial⟩ T.sa ?_
  refine own_store K3 e3 (show clsIn K C = some _ by unfold clsIn; rw [lC] <;> rfl) hps (by show (Value.ref C :: bm).contains (.type "object") = true; rw [List.contains_cons, hob, Bool.or_true]) rfl (T.nf _ hfl) fun h4 tk4 dx k4 hdx dxe e4 n4 => ?_
  have sz : s.heap.objs.size < dx := Nat.lt_of_lt_of_le hns3.lt hdx
  have up4 : ∀ b o, b ≠ e → s.heap.get? b = some o → h4.get? b = some o := fun b o hb z => k4 b o hb (up3 b o hb z)
  refine hq _ h4 _ _ dx _ _ rfl rfl up4 (fun b o z => up4 b o (fun y => by
    subst y
    rw [hKe] at z
    cases z) (KX _ _ z)) ?_ sz dxe e4 n4
  obtain ⟨o, es, ep, e5, r5⟩ := hns3
  exact ⟨o, es, ep, k4 _ _ eL3 e5, r5⟩
end
end Nv

set_option Elab.async false
set_option linter.all false
set_option maxRecDepth 100000
set_option maxHeartbeats 4000000
namespace Nv
open PySem PySem.Spec PyProof.Rows L2
mutual
theorem Rq.up {h h' : Heap} (k : ∀ b o, h.get? b = some o → h'.get? b = some o) : ∀ {v : Value} {d : PyData}, Rq h v d → Rq h' v d
  | _, _, .non => .non
  | _, _, .bl b => .bl b
  | _, _, .num i t => .num i t
  | _, _, .txt x t => .txt x t
  | _, _, .lst h1 h2 h3 h4 => .lst (k _ _ h1) h2 h3 (Rqs.up k h4)
  | _, _, .tup h1 h2 h3 h4 => .tup (k _ _ h1) h2 h3 (Rqs.up k h4)
  | _, _, .dic h1 h2 h3 hy h4 h5 => .dic (k _ _ h1) h2 h3 hy (Rqs.up k h4) (Rqs.up k h5)
theorem Rqs.up {h h' : Heap} (k : ∀ b o, h.get? b = some o → h'.get? b = some o) : ∀ {v : List Value} {d : List PyData}, Rqs h v d → Rqs h' v d
  | _, _, .nil => .nil
  | _, _, .cons h1 h2 => .cons (Rq.up k h1) (Rqs.up k h2)
end
section
open PySem.W PySem.Calls
variable {P : Program} {w : World} {A : Around} {R : Result → Shared → Prop} {K : W.Frag} {mg mb : Str → Option Value} {C f : Addr} {B initId newId : String} {px fld : Str} {st : Stmt} {e0 : Expr} {tl : List Stmt} {ps flds : List Str}
/-- what e0 does: it gives some value, and nothing that was there changes -/
def ArgOk (P : Program) (w : World) (st : Stmt) (e0 : Expr) (ps : List Str) (A : Around) (s : Shared) (vs : List Value) : Prop :=
  ∀ (e : Addr) (env : Env) (E' : Value → Shared → Prop) (Q' : Value → Shared → Prop) (s1 : Shared) (L : Addr), env.scope = defScope st → env.locals = L → s1.heap.Ns L (fun x => (bnds e ps vs).lookup x) → (∀ b o, s.heap.get? b = some o → s1.heap.get? b = some o) →
      (∀ u h2 tk, (∀ b o, s1.heap.get? b = some o → h2.get? b = some o) → Q' u { s1 with heap := h2, toks := tk }) → wpAny (model P w) (A.deeper env) (eval e0 env) Q' E' s1
theorem arg_name {p : Pos} {vs : List Value} {s : Shared} {v : Value} (hk : (defScope st).kind = .function) (hl : (defScope st).names.lookup px = some .local) (hv : ∀ e, (bnds e ps vs).lookup px = some v) (hdb : (px == ("__debug__" : Str)) = false) : ArgOk P w st (.Name px p) ps A s vs := by
  intro e env E' Q' s1 L hs hL hn hk1 h
  subst hL
  exact wpAny_Name (wpAny_loadName_local (by rw [hs]; exact hk) (by unfold Env.kindOf; rw [hs]; exact hl) hn (hv e) (h v s1.heap s1.toks fun _ _ z => z)) hdb
/-- f'a{x}b' -/
theorem arg_fmt {a b : Str} {i j : Nat} {p1 p2 p3 p4 p5 : Pos} {vs : List Value} {s : Shared} {v : Value} {d : PyData} (hk : (defScope st).kind = .function) (hl : (defScope st).names.lookup px = some .local) (hv : ∀ e, (bnds e ps vs).lookup px = some v) (hdb : (px == ("__debug__" : Str)) = false)
    (hrq : Rq s.heap v d) (hf : fitD d = true) (hg : A.guards = some []) (hu : A.units + (d.depth + 10) < cLine) (hz : szD d ≤ 1000000) (ha : a.length ≤ 1000) (hb : b.length ≤ 1000) :
    ArgOk P w st (.JoinedStr [.Constant (.str a) i p1, .FormattedValue (.Name px p2) (-1) none p3, .Constant (.str b) j p4] p5) ps A s vs := by
  intro e env E' Q' s1 L hs hL hn hk1 h
  subst hL
  have hsh := shown_le hf
  have hx : ∀ x t, v = .str x t → x.length ≤ szD d := fun x t z => by
    subst z
    cases hrq
    show x.length ≤ 10 * x.length + 2
    omega
  refine wpAny_JoinedStr ?_
  show Joins _ _ _ [_, _, _] _ _ _
  refine wpAny_Constant_str ⟨_, _, rfl, ?_, ?_⟩
  · show (Str.empty ++ a).length ≤ sizeLine
    rw [strLen_append, sizeLine_eq]; show 0 + a.length ≤ _; omega
  refine wpAny_FormattedValue_plain (wpAny_Name (wpAny_loadName_local (by rw [hs]; exact hk) (by unfold Env.kindOf; rw [hs]; exact hl) hn (hv e) ?_) hdb)
  have hrq1 : Rq s1.heap v d := hrq.up hk1
  refine Rq.fmt (P := P) (w := w) (s := { s1 with toks := s1.toks + 1 }) (A := A.deeper env) hrq1 (showable_of hf) hg (by show A.units + 3 + (d.depth + 3) < _; omega) (n := szD d) (by rw [sizeLine_eq]; omega) hsh hx fun h' y u tk k hy => ⟨_, _, rfl, ?_, ?_⟩
  · rw [strLen_append, strLen_append, sizeLine_eq]; show 0 + a.length + y.length ≤ _; omega
  refine wpAny_Constant_str ⟨_, _, rfl, ?_, ?_⟩
  · rw [strLen_append, strLen_append, strLen_append, sizeLine_eq]; show 0 + a.length + y.length + b.length ≤ _; omega
  refine ⟨?_, h _ h' _ k⟩
  rw [strLen_append, strLen_append, strLen_append, sizeLine_eq]; show 0 + a.length + y.length + b.length ≤ _; omega
/-- made: the fields' values -/
def Flds (m : Str → Option Value) (fs : List (Str × Value)) : Prop := ∀ y, m y = fs.lookup y
/-- what comes behind the first field: nothing, or one more field -/
inductive TlOk (st : Stmt) (ps : List Str) : List Stmt → Option (Str × Str) → Prop
  | nil : TlOk st ps [] none
  | one {fld px : Str} {p1 p2 p3 p4 : Pos} (hl : (defScope st).names.lookup px = some .local) (hdb : (px == ("__debug__" : Str)) = false) (hsw : ∀ env, swapsWith (.Name px p3) (some (.Attribute (.Name "self" p1) fld p2)) p4.line env = pure false) :
      TlOk st ps [.Assign [.Attribute (.Name "self" p1) fld p2] (.Name px p3) p4] (some (fld, px))
def yMap (o2 : Option (Str × Str)) (fld : Str) (v : Value) (v2 : Option Value) : Str → Option Value := fun y => match o2 with | some p => if y = p.1 then v2 else if y = fld then some v else none | none => if y = fld then some v else none
theorem run_y {o2 : Option (Str × Str)} (T : Yup P K mg C f B initId newId flds st) (hfl : fld ∈ flds) (S : YSt px fld e0 tl ps st) (hT : TlOk st ps tl o2) (hf2 : ∀ p, o2 = some p → p.1 ∈ flds) {s : Shared} (hroom : A.depth < recursionLimit) (KX : K.In s.heap) (G : s.heap.Ns mainGlobals mg) (Bn : s.heap.Ns builtinsNs mb) (hbb : ∀ x : Str, x ≠ "__name__" → mb x = bootBuiltins x) (hlim : s.heap.NoLimit)
    {e t0 : Addr} {vs : List Value} {v : Value} (hvs : vs.length = ps.length) (vpx : (bnds e ps vs).lookup px = some v) (he : s.heap.get? e = some (HandSPX.excO C t0)) (hKe : K.lookup e = none) (harg : ArgOk P w st e0 ps A s vs)
    (v2 : Option Value) (hv2 : ∀ p, o2 = some p → (bnds e ps vs).lookup p.2 = v2 ∧ v2.isSome = true)
    (hq : ∀ h' tk t1 dx, (∀ b o, b ≠ e → s.heap.get? b = some o → h'.get? b = some o) → s.heap.objs.size < dx → dx ≠ e → h'.get? e = some { cls := .ref C, dict := some dx, data := .fields #[.ref t1, .none, .none, .none, .bool false, .none] } →
      h'.Ns1 dx (yMap o2 fld v v2) → R (.ok (.ret .none)) { s with heap := h', toks := tk }) :
    codeAny (model P w) A (.call (.ref f) ⟨.ref e :: vs, []⟩) R s := by
  refine run_front T hfl S hroom KX G Bn hbb hlim hvs vpx he hKe (harg e) fun env h' tk t1 dx E' cc hs hL k KX' hn hdx dxe he' hd => ?_
  cases hT with
  | nil => exact PySem.wpAt_of_wpAny (wpAny_execs_nil (hq h' tk t1 dx k hdx dxe he' hd))
  | @one fld2 px2 p1 p2 p3 p4 hl hdb hsw =>
    obtain ⟨w1, w2⟩ := hv2 _ rfl
    obtain ⟨u2, rfl⟩ := Option.isSome_iff_exists.mp w2
    have hn' : h'.Ns env.locals (fun x => (bnds e ps vs).lookup x) := by rw [hL]; exact hn
    have kk : env.scope.kind = .function := by rw [hs]; exact S.hk
    obtain ⟨nm, q, N, bs, bm, sn, sub, ab, col, dd, k0, k1, k2, k3, k5, lC, hN, hps, hal, hob⟩ := T.cls
    refine ks_wpAt_execs_cons (PySem.wpAt_of_wpAny (plainObj_wpAny_Assign_Attribute (wpAny_Name (wpAny_loadName_local kk (by unfold Env.kindOf; rw [hs]; exact hl) hn' w1 ?_) hdb) (hsw env)))
    refine wpAny_Name (wpAny_loadName_local kk (by unfold Env.kindOf; rw [hs]; exact S.hka) hn' (bnds_self S.nself) ?_) (by decide)
    have hw : Within (fun y => if y = fld then some v else none) [fld] := fun y hy => by
      by_cases c : y = fld
      · exact List.mem_singleton.mpr c
      · exact absurd (show (if y = fld then some v else none) = none from if_neg c) hy
    obtain ⟨oD, esD, epD, hoD, hdD, _⟩ := hd.count hw
    refine set_plain KX' (ox := { cls := .ref C, dict := some dx, data := .fields #[.ref t1, .none, .none, .none, .bool false, .none] }) (od := some oD) ⟨he', rfl, rfl, hoD⟩ T.sa ?_
    refine own_store2 KX' he' hd hw (by show 1 ≤ 1000; decide) (show clsIn K C = some _ by unfold clsIn; rw [lC] <;> rfl) hps (by show (Value.ref C :: bm).contains (.type "object") = true; rw [List.contains_cons, hob, Bool.or_true]) rfl (T.nf _ (hf2 _ rfl)) fun h4 tk4 k4 n4 => ?_
    refine PySem.wpAt_of_wpAny (wpAny_execs_nil (hq h4 tk4 t1 dx (fun b o hb z => k4 b o (fun c => ?_) (k b o hb z)) hdx dxe (k4 _ _ dxe.symm he') n4))
    subst c
    exact absurd (Heap.lt_size z) (Nat.not_lt.mpr (Nat.le_of_lt hdx))
end
end Nv

set_option Elab.async false
set_option linter.all false
set_option maxRecDepth 100000
set_option maxHeartbeats 4000000
namespace Nv
open PySem PySem.Spec PyProof.Rows L2
section
open PySem.W PySem.Calls
variable {P : Program} {w : World} {A : Around} {R : Result → Shared → Prop} {K : W.Frag} {mg mb : Str → Option Value} {C f : Addr} {B initId newId : String} {px fld : Str} {st : Stmt} {e0 : Expr} {tl : List Stmt} {ps flds : List Str}
theorem run_makeY {o2 : Option (Str × Str)} (T : Yup P K mg C f B initId newId flds st) (hfl : fld ∈ flds) (S : YSt px fld e0 tl ps st) (hT : TlOk st ps tl o2) (hf2 : ∀ p, o2 = some p → p.1 ∈ flds) {s : Shared} {vs : List Value} {v : Value} (hroom : (A.under (.builtin "type.__call__" ⟨.ref C :: vs, []⟩)).depth < recursionLimit) (KX : K.In s.heap) (G : s.heap.Ns mainGlobals mg) (Bn : s.heap.Ns builtinsNs mb) (hbb : ∀ x : Str, x ≠ "__name__" → mb x = bootBuiltins x) (hlim : s.heap.NoLimit)
    (hvs : vs.length = ps.length) (hsz : vs.length ≤ sizeLine) (vpx : ∀ e, (bnds e ps vs).lookup px = some v) (harg : ∀ s' : Shared, (∀ b o, s.heap.get? b = some o → s'.heap.get? b = some o) → ArgOk P w st e0 ps (A.under (.builtin "type.__call__" ⟨.ref C :: vs, []⟩)) s' vs)
    (v2 : Option Value) (hv2 : ∀ p, o2 = some p → (∀ e, (bnds e ps vs).lookup p.2 = v2) ∧ v2.isSome = true)
    (hq : ∀ h' tk t1 dx, (∀ b o, s.heap.get? b = some o → h'.get? b = some o) → s.heap.objs.size ≤ dx → dx ≠ s.heap.objs.size + 1 → h'.get? (s.heap.objs.size + 1) = some { cls := .ref C, dict := some dx, data := .fields #[.ref t1, .none, .none, .none, .bool false, .none] } →
      h'.Ns1 dx (yMap o2 fld v v2) → R (.ok (.ret (.ref (s.heap.objs.size + 1)))) { s with heap := h', toks := tk }) :
    codeAny (model P w) A (.call (.ref C) ⟨vs, []⟩) R s := by
  obtain ⟨nm, q, N, bs, bm, sn, sub, ab, col, dd, k0, k1, k2, k3, k5, lC, hN, hps, hal, hob⟩ := T.cls
  obtain ⟨hp, g, d, t, os⟩ := s
  have up : ∀ b o, hp.get? b = some o → ((hp.push (W.kdv_tup vs)).push (HandSPX.excO C hp.objs.size)).get? b = some o := fun b o z => Heap.get?_push_of_some _ (Heap.get?_push_of_some _ z)
  refine y_call_own hN (KX _ _ lC) (looks_findIn KX T.ini) (fun self => bind_fn KX self T.tyf) hsz ?_
  have eg : ((hp.push (W.kdv_tup vs)).push (HandSPX.excO C hp.objs.size)).get? (hp.objs.size + 1) = some (HandSPX.excO C hp.objs.size) := Heap.get?_push_at (by rw [Heap.size_push]) rfl
  have hKe : K.lookup (hp.objs.size + 1) = none := by
    cases c : K.lookup (hp.objs.size + 1) with
    | none => rfl
    | some o => exact absurd (show hp.objs.size + 1 < hp.objs.size from Heap.lt_size (KX _ _ c)) (by omega)
  refine run_y T hfl S hT hf2 hroom (KX.keeps up) (G.keeps up) (Bn.keeps up) hbb (hlim.keeps up) hvs (vpx _) eg hKe (harg _ up) v2 (fun p hp => ⟨(hv2 p hp).1 _, (hv2 p hp).2⟩) fun h' tk t1 dx k hdx dxe e2 n2 => ?_
  have hz : hp.objs.size + 2 < dx := by
    have : ((hp.push (W.kdv_tup vs)).push (HandSPX.excO C hp.objs.size)).objs.size = hp.objs.size + 2 := by rw [Heap.size_push, Heap.size_push]
    rw [this] at hdx; exact hdx
  refine ⟨rfl, hq h' tk t1 dx (fun b o z => k b o (Nat.ne_of_lt (Nat.lt_succ_of_lt (Heap.lt_size z))) (up b o z)) (by show hp.objs.size ≤ dx; omega) dxe e2 n2⟩
end
/-- the value v can be shown in a text -/
def Fm (K : PySem.W.Frag) (H : Hp) (v : V) : Prop := ∃ (G : Hp) (d : Dt) (p : PyData), Ex G H ∧ Dat K G d v ∧ toPq d = some p ∧ fitD p = true ∧ p.depth ≤ 60 ∧ szD p ≤ 1000000
/-- C(e), C(e, e2): an exception as a value; fm: its first argument is shown in a text -/
def tYmk (K : PySem.W.Frag) (C : Addr) (fm : Bool) (fl : List V → List (Str × V)) (n : Nat) (ta : TA) : TE := fun σ H Q => ta σ H fun vs H1 => vs.length = n ∧ (fm = true → ∃ v r, vs = v :: r ∧ Fm K H1 v) ∧
  ∀ a dx, H1 a = none → H1 dx = none → a ≠ dx → Q (.ref a) (upd (upd H1 dx (.xd (fl vs))) a (.ext (XO C dx a)))
section
variable {X : Cx} {pins : List (Addr × Obj)} {σ : L2.St} {H : Hp} {s : Shared}
theorem y_track {h' : Heap} {tk : Nat} {a dx C : Addr} {t1 : Addr} {fs : List (Str × V)} {m : Str → Option Value} (I : Inv X pins σ H s) (k : ∀ b o, s.heap.get? b = some o → h'.get? b = some o) (ha : s.heap.objs.size ≤ a) (hdx : s.heap.objs.size ≤ dx) (ne : a ≠ dx)
    (he : h'.get? a = some { cls := .ref C, dict := some dx, data := .fields #[.ref t1, .none, .none, .none, .bool false, .none] }) (hn : h'.Ns1 dx m) (hr : ∀ f, RelO (fs.lookup f) (m f)) :
    Inv X pins σ (upd (upd H dx (.xd fs)) a (.ext (XO C dx a))) { s with heap := h', toks := tk } := by
  have na : H a = none := I.hok.fresh ha
  have nd : H dx = none := I.hok.fresh hdx
  have lt : ∀ {b : Addr} {o : Obj}, s.heap.get? b = some o → b ≠ a ∧ b ≠ dx := fun {b o} z => ⟨Nat.ne_of_lt (Nat.lt_of_lt_of_le (Heap.lt_size z) ha), Nat.ne_of_lt (Nat.lt_of_lt_of_le (Heap.lt_size z) hdx)⟩
  have at_ : ∀ {b}, b ≠ a → b ≠ dx → upd (upd H dx (.xd fs)) a (.ext (XO C dx a)) b = H b := fun h1 h2 => by rw [upd_ne h1, upd_ne h2]
  have keepH : ∀ {b o}, H b = some o → upd (upd H dx (.xd fs)) a (.ext (XO C dx a)) b = some o := fun {b o} z => by rw [at_ (ne_of_none z na) (ne_of_none z nd)]; exact z
  refine I.un { keep := fun b o z _ _ _ => k b o z, slot := fun b o z _ _ _ => ⟨o.slots, k b o z⟩, free := fun b o z n _ => by rw [at_ (lt z).1 (lt z).2]; exact n, there := fun b o z _ => ⟨o, k b o z⟩, tups := fun b xs z => keepH z, frzs := fun b o y z => keepH z, tbls := fun b ps z => ⟨#[], by rw [keepH z]; simp⟩ } fun b o z => ?_
  by_cases c : b = a
  · subst c
    rw [upd_same] at z
    cases z
    exact ⟨⟨t1, he⟩, ⟨_, he⟩, fun h1 h2 ⟨t2, q⟩ kk => ⟨t2, kk _ q⟩⟩
  · rw [upd_ne c] at z
    by_cases c2 : b = dx
    · subst c2
      rw [upd_same] at z
      cases z
      exact ⟨m, hn, hr⟩
    · rw [upd_ne c2] at z
      exact (I.hok b o z).stay (fun c y _ q => k c y q) (fun c hc => keepH hc) fun c xs hc => keepH hc
variable {C f : Addr} {B initId newId : String} {px fld x : Str} {st : Stmt} {e0 e : Expr} {es : List Expr} {tl : List Stmt} {ps flds : List Str} {ta : TA} {p pos : Pos}
/-- one field, of the name px; the text takes the name itself -/
theorem pe_y1 {K : PySem.W.Frag} {p0 : Pos} (hK : X.K = K) (T : Yup X.prog X.K X.mg C f B initId newId [fld] st) (S : YSt px fld (.Name px p0) [] [px] st) (hr : Room 1 X.A) (hg : Gl X x) (hm : X.mg x = some (.ref C))
    (kp : PySem.W.keepIn X.K (.ref C) = true) (ha : PA X [e] ta) (hdb : (x == ("__debug__" : Str)) = false := by decide)
    (he : starEach [e] X.env = (false, eval e X.env) :: starEach [] X.env := by rfl) (hpl : (backTo pos (starEach [] X.env)).any (·.1) = false := by rfl) :
    PE X (.Call (.Name x p) [e] [] pos) (tYmk K C false (fun vs => [(fld, vs.headD .non)]) 1 ta) := by
  refine ⟨fun pins s σ H Q I h => ?_⟩
  refine wpAny_Call_Name_kw (ld_glob I hg hm (PySem.W.callWith_K (h₀ := X.base) I.ok.mod.kin kp (thn (ha.run pos pins s σ H _ I h) fun us s1 ⟨vs, H1, I1, r, hl, _, q⟩ => ⟨I1.kIn, ?_⟩) he hpl) hdb)
  match vs, hl with
  | [v], _ =>
  obtain ⟨u, rfl, ru⟩ := vals1 r
  obtain ⟨mb, Bn, hbb⟩ := I1.mod.blt
  have vp : ∀ e, (bnds e [px] [u]).lookup px = some u := fun e => by
    show List.lookup px [(px, u), (("self" : Str), Value.ref e)] = _
    rw [List.lookup_cons, beq_self_eq_true]
  refine wpAny_call (run_makeY T (List.mem_singleton.mpr rfl) S .nil (fun p z => nomatch z) (by have := hr.dp; show X.A.depth + 1 < recursionLimit; omega) I1.kIn (I1.mod.glob.keeps I1.bk) (Bn.keeps I1.bk) hbb I1.nolimit rfl (by show 1 ≤ sizeLine; decide) vp (fun s' _ => arg_name S.hk (S.hkx _ S.mem) vp S.ndb) none (fun p z => nomatch z) fun h' tk t1 dx k hdx dne he2 n2 => ?_)
  exact ⟨.ref _, _, y_track I1 k (Nat.le_succ _) hdx (Ne.symm dne) he2 n2 (relO_put (fs := []) ru fun _ => True.intro), rfl, q _ dx (I1.hok.fresh (Nat.le_succ _)) (I1.hok.fresh hdx) (Ne.symm dne)⟩
/-- two fields, of both names; the text takes the first name -/
theorem pe_y2 {K : PySem.W.Frag} {e2 : Expr} {px2 fld2 : Str} {p0 : Pos} (hK : X.K = K) (T : Yup X.prog X.K X.mg C f B initId newId [fld, fld2] st) (S : YSt px fld (.Name px p0) tl [px, px2] st) (hT : TlOk st [px, px2] tl (some (fld2, px2))) (hne : px ≠ px2) (hr : Room 1 X.A) (hg : Gl X x) (hm : X.mg x = some (.ref C))
    (kp : PySem.W.keepIn X.K (.ref C) = true) (ha : PA X [e, e2] ta) (hdb : (x == ("__debug__" : Str)) = false := by decide)
    (he : starEach [e, e2] X.env = (false, eval e X.env) :: starEach [e2] X.env := by rfl) (hpl : (backTo pos (starEach [e2] X.env)).any (·.1) = false := by rfl) :
    PE X (.Call (.Name x p) [e, e2] [] pos) (tYmk K C false (fun vs => [(fld2, (vs.drop 1).headD .non), (fld, vs.headD .non)]) 2 ta) := by
  refine ⟨fun pins s σ H Q I h => ?_⟩
  refine wpAny_Call_Name_kw (ld_glob I hg hm (PySem.W.callWith_K (h₀ := X.base) I.ok.mod.kin kp (thn (ha.run pos pins s σ H _ I h) fun us s1 ⟨vs, H1, I1, r, hl, _, q⟩ => ⟨I1.kIn, ?_⟩) he hpl) hdb)
  match vs, hl with
  | [v, v'], _ =>
  cases r with
  | @cons _ u _ _ ru r2 =>
  obtain ⟨u', rfl, ru'⟩ := vals1 r2
  obtain ⟨mb, Bn, hbb⟩ := I1.mod.blt
  have vp : ∀ e, (bnds e [px, px2] [u, u']).lookup px = some u := fun e => by
    show List.lookup px [(px2, u'), (px, u), (("self" : Str), Value.ref e)] = _
    rw [List.lookup_cons, show (px == px2) = false by simpa using hne, List.lookup_cons, beq_self_eq_true]
  have vp2 : ∀ e, (bnds e [px, px2] [u, u']).lookup px2 = some u' := fun e => by
    show List.lookup px2 [(px2, u'), (px, u), (("self" : Str), Value.ref e)] = _
    rw [List.lookup_cons, beq_self_eq_true]
  refine wpAny_call (run_makeY T (by simp) S hT (fun p z => by cases z; simp) (by have := hr.dp; show X.A.depth + 1 < recursionLimit; omega) I1.kIn (I1.mod.glob.keeps I1.bk) (Bn.keeps I1.bk) hbb I1.nolimit rfl (by show 2 ≤ sizeLine; decide) vp (fun s' _ => arg_name S.hk (S.hkx _ S.mem) vp S.ndb) (some u') (fun p z => by cases z; exact ⟨vp2, rfl⟩) fun h' tk t1 dx k hdx dne he2 n2 => ?_)
  exact ⟨.ref _, _, y_track I1 k (Nat.le_succ _) hdx (Ne.symm dne) he2 n2 (relO_put ru' (relO_put (fs := []) ru fun _ => True.intro)), rfl, q _ dx (I1.hok.fresh (Nat.le_succ _)) (I1.hok.fresh hdx) (Ne.symm dne)⟩
/-- one field; the text shows the value -/
theorem pe_yf {K : PySem.W.Frag} {a b : Str} {i j : Nat} {q1 q2 q3 q4 q5 : Pos} (hK : X.K = K) (T : Yup X.prog X.K X.mg C f B initId newId [fld] st) (S : YSt px fld (.JoinedStr [.Constant (.str a) i q1, .FormattedValue (.Name px q2) (-1) none q3, .Constant (.str b) j q4] q5) [] [px] st) (hA : X.A.guards = some []) (hr : Room 1 X.A) (hg : Gl X x) (hm : X.mg x = some (.ref C))
    (kp : PySem.W.keepIn X.K (.ref C) = true) (ha : PA X [e] ta) (hla : a.length ≤ 1000) (hlb : b.length ≤ 1000) (hdb : (x == ("__debug__" : Str)) = false := by decide)
    (he : starEach [e] X.env = (false, eval e X.env) :: starEach [] X.env := by rfl) (hpl : (backTo pos (starEach [] X.env)).any (·.1) = false := by rfl) :
    PE X (.Call (.Name x p) [e] [] pos) (tYmk K C true (fun vs => [(fld, vs.headD .non)]) 1 ta) := by
  subst hK
  refine ⟨fun pins s σ H Q I h => ?_⟩
  refine wpAny_Call_Name_kw (ld_glob I hg hm (PySem.W.callWith_K (h₀ := X.base) I.ok.mod.kin kp (thn (ha.run pos pins s σ H _ I h) fun us s1 ⟨vs, H1, I1, r, hl, hf, q⟩ => ⟨I1.kIn, ?_⟩) he hpl) hdb)
  match vs, hl with
  | [v], _ =>
  obtain ⟨v', r', ev, G, d, pd, ex, dd, tp, fp, dp, zp⟩ := hf rfl
  cases ev
  obtain ⟨u, rfl, ru⟩ := vals1 r
  have hrq := rq_of I1 ex dd tp ru
  obtain ⟨mb, Bn, hbb⟩ := I1.mod.blt
  have vp : ∀ e, (bnds e [px] [u]).lookup px = some u := fun e => by
    show List.lookup px [(px, u), (("self" : Str), Value.ref e)] = _
    rw [List.lookup_cons, beq_self_eq_true]
  refine wpAny_call (run_makeY T (List.mem_singleton.mpr rfl) S .nil (fun p z => nomatch z) (by have := hr.dp; show X.A.depth + 1 < recursionLimit; omega) I1.kIn (I1.mod.glob.keeps I1.bk) (Bn.keeps I1.bk) hbb I1.nolimit rfl (by show 1 ≤ sizeLine; decide) vp
    (fun s' k' => arg_fmt S.hk (S.hkx _ S.mem) vp S.ndb (hrq.up k') fp hA (by have := hr.un; show X.A.units + 1 + (pd.depth + 10) < cLine; omega) zp hla hlb) none (fun p z => nomatch z) fun h' tk t1 dx k hdx dne he2 n2 => ?_)
  exact ⟨.ref _, _, y_track I1 k (Nat.le_succ _) hdx (Ne.symm dne) he2 n2 (relO_put (fs := []) ru fun _ => True.intro), rfl, q _ dx (I1.hok.fresh (Nat.le_succ _)) (I1.hok.fresh hdx) (Ne.symm dne)⟩
end
end Nv

set_option Elab.async false
set_option linter.all false
set_option maxRecDepth 100000
set_option maxHeartbeats 4000000
namespace Nv
open PySem PySem.Spec PyProof.Rows L2
section
variable {X : Cx}
/-- e.n, e an exception as a value -/
def tXvf (C : Addr) (n : Str) (te : TE) : TE := fun σ H Q => te σ H fun x H1 => ∃ a dx fs v, x = .ref a ∧ H1 a = some (.ext (XO C dx a)) ∧ H1 dx = some (.xd fs) ∧ fs.lookup n = some v ∧ Q v H1
theorem pe_xvf {C : Addr} {n : Str} {e : Expr} {te : TE} {pos : Pos} (T : XfC X.K C) (hno : PySem.W.findIn X.K (.ref C) n = some none) (he : PE X e te) (hb : attributeBase e n X.env (eval e X.env) = eval e X.env := by rfl) : PE X (.Attribute e n pos) (tXvf C n te) := by
  refine ⟨fun pins s σ H Q I h => ?_⟩
  refine attr_of hb (thn (he.run pins s σ H _ I h) fun u s1 hh => ?_)
  obtain ⟨x, H1, I1, rx, a, dd, fs, v, ex, eo, ea, l, q⟩ := hh
  subst ex
  obtain rfl : u = Value.ref a := rx
  obtain ⟨⟨t1, ho⟩, _, _⟩ := I1.hok a _ eo
  have hx : ObjOk X.prog X.w H1 s1.heap dd (.xd fs) := I1.hok dd _ ea
  obtain ⟨mA, hns, hr⟩ := hx
  obtain ⟨od, hod, hl⟩ := lookIn_ns hns
  obtain ⟨u, hu, ru⟩ := RelO.some_of (v := v) (o := mA n) (by rw [← l]; exact hr n)
  have J : PySem.W.InstAt s1.heap a { cls := .ref C, dict := some dd, data := .fields #[.ref t1, .none, .none, .none, .bool false, .none] } C (some od) := ⟨ho, rfl, rfl, hod⟩
  exact HandSPX.exc_get I1.kIn J T.ga T.gg T.exC (PySem.W.findObj_own T.hdC hno rfl (by rw [hl, hu])) (handed_of ru) ⟨v, H1, I1.tok _, ru, q⟩
/-- isinstance(e, c), e an exception as a value -/
def rIsX (K : PySem.W.Frag) : List V → Hp → VK → Prop := fun xs H Q => ∃ (a C : Addr) (c : V) (cv : Value) (b : Bool), xs = [.ref a, c] ∧ (H a = some (ExO (.ref C) a) ∨ ∃ dx fs, H a = some (.ext (XO C dx a)) ∧ H dx = some (.xd fs)) ∧ ExcC K C ∧ ClsV c cv ∧ PySem.W.kitOne K (.ref C) cv = some b ∧ Q (.bl b) H
theorem callIsX {K : PySem.W.Frag} (hK : X.K = K) : CallR X (.builtin "isinstance") (rIsX K) := by
  subst hK
  intro pins s σ H xs us Q I r h
  obtain ⟨a, C, c, cv, b, rfl, ho, E, hcv, e, q⟩ := h
  cases r with
  | cons rx rr =>
    cases rr with
    | cons rt rr =>
      cases rr
      cases rx
      have ec := hcv.eq rt
      subst ec
      obtain ⟨cdD, hcD, _⟩ := PySem.W.any_some E.hd
      have hcl : (PySem.W.clsIn X.K C).isSome = true := by rw [hcD]; rfl
      rcases ho with ho | ⟨dx, fs, ho, hd⟩
      · obtain ⟨⟨oe, vs, h1, hz, h3, _⟩, _, _⟩ := I.hok a _ ho
        have J : PySem.W.InstAt s.heap a oe C none := by
          obtain ⟨oc, od, oda, osl⟩ := oe
          obtain ⟨z1, z2⟩ := hz
          dsimp only at z1 z2 h3
          subst z1 z2 h3
          exact ⟨h1, rfl, rfl, trivial⟩
        exact PySem.W.kia_one (PySem.W.kitx_exc hcl E.hg E.hk E.hs E.ha E.hn E.ht E.hm) I.kIn J e (fun z => nomatch z) fun tk => ⟨.bl b, H, I.kept (t' := tk) fun _ _ z => z, rfl, q⟩
      · obtain ⟨⟨t1, h1⟩, _, _⟩ := I.hok a _ ho
        have hx : ObjOk X.prog X.w H s.heap dx (.xd fs) := I.hok dx _ hd
        obtain ⟨mA, ⟨od, es, ep, hod, _⟩, hr⟩ := hx
        have J : PySem.W.InstAt s.heap a { cls := .ref C, dict := some dx, data := .fields #[.ref t1, .none, .none, .none, .bool false, .none] } C (some od) := ⟨h1, rfl, rfl, hod⟩
        exact PySem.W.kia_one (PySem.W.kitx_exc hcl E.hg E.hk E.hs E.ha E.hn E.ht E.hm) I.kIn J e (fun z => nomatch z) fun tk => ⟨.bl b, H, I.kept (t' := tk) fun _ _ z => z, rfl, q⟩
end
/-- X(e), no __init__ of its own -/
def tExc1 (C : Addr) (ta : TE) : TE := fun σ H Q => ta σ H fun _ H1 => ∀ a, H1 a = none → Q (.ref a) (upd H1 a (ExO (.ref C) a))
section
variable {K : PySem.W.Frag} {ss : List Sd} {R : Dt → Prop}
theorem ed_exc1 {C : Addr} {ta : TE} (h : EvD K ta ss fun _ => R (.xv C [])) : EvD K (tExc1 C ta) ss R := fun G σ H e s Q q =>
  h G σ H e s _ fun v d G1 H1 g hd hr a ha => q _ (.xv C []) _ _ (g.trans (Go.new g.ink ha)) ⟨a, rfl, .inl ⟨rfl, upd_same⟩⟩ hr
theorem ed_ymk {C : Addr} {fm : Bool} {fl : List V → List (Str × V)} {n : Nat} {ta : TA} (flD : List Dt → List (Str × Dt)) (hfl : ∀ G ds vs, ds.length = n → Dats K G ds vs → Datf K G (flD ds) (fl vs))
    (h : EvA K ta ss fun ds => ds.length = n ∧ (fm = true → ∃ d r p, ds = d :: r ∧ toPq d = some p ∧ fitD p = true ∧ p.depth ≤ 60 ∧ szD p ≤ 1000000) ∧ R (.xv C (flD ds))) : EvD K (tYmk K C fm fl n ta) ss R := fun G σ H e s Q q =>
  h G σ H e s _ fun vs ds G1 H1 g hd ⟨hn, hf, hr⟩ => ⟨by rw [hd.len]; exact hn, fun z => by
    obtain ⟨d, r, p, rfl, h1, h2, h3, h4⟩ := hf z
    obtain ⟨x, xs, rfl, hx, _⟩ := hd
    exact ⟨x, xs, rfl, G1, d, p, g.ink, hx, h1, h2, h3, h4⟩, fun a dx ha hdx ne => by
    have hd2 : Ex G1 (upd G1 dx (.xd (fl vs))) := Ex.new (g.ink.free hdx)
    have na : upd H1 dx (.xd (fl vs)) a = none := by rw [upd_ne ne]; exact ha
    have g2 := (g.trans (Go.new (o := .xd (fl vs)) g.ink hdx))
    have g3 := g2.trans (Go.new (o := .ext (XO C dx a)) g2.ink na)
    have up3 : Ex G1 (upd (upd G1 dx (.xd (fl vs))) a (.ext (XO C dx a))) := hd2.trans (Ex.new (g2.ink.free na))
    refine q _ (.xv C (flD ds)) _ _ g3 ⟨a, rfl, .inr ⟨dx, fl vs, upd_same, ?_, (hfl _ _ _ hn hd).up up3⟩⟩ hr
    rw [upd_ne ne.symm, upd_same]⟩
theorem ed_xvf {C : Addr} {n : Str} {te : TE} (h : EvD K te ss fun d => ∃ l y, d = .xv C l ∧ l.lookup n = some y ∧ R y) : EvD K (tXvf C n te) ss R := fun G σ H e s Q q =>
  h G σ H e s _ fun v d G1 H1 g hd ⟨l, y, ed, hl, hr⟩ => by
    subst ed
    obtain ⟨a, rfl, ⟨rfl, _⟩ | ⟨dx, fs, h1, h2, h3⟩⟩ := hd
    · cases hl
    obtain ⟨x, hx, hy⟩ := h3.lookup hl
    exact ⟨a, dx, fs, x, rfl, g.ink _ _ h1, g.ink _ _ h2, hx, q x y G1 H1 g hy hr⟩
theorem cd_isX {C : Addr} {l : List (Str × Dt)} {c : Dt} {cv : Value} {b : Bool} (E : ExcC K C) (hc : (∃ D, c = .obj D ∧ cv = .ref D) ∨ ∃ n, c = .ty n ∧ cv = .type n) (hk : PySem.W.kitOne K (.ref C) cv = some b) (h : R (.bl b)) : CD K (rIsX K) [.xv C l, c] R := fun G H vs e dd Q k => by
  obtain ⟨x, r, rfl, hx, y, r2, rfl, hy, hr⟩ := dd
  cases hr
  obtain ⟨a, rfl, ho⟩ := hx
  refine ⟨a, C, y, cv, b, rfl, ?_, E, ?_, hk, k _ (.bl b) G H (Go.refl e) rfl h⟩
  · rcases ho with ⟨_, ho⟩ | ⟨dx, fs, h1, h2, _⟩
    · exact .inl (e _ _ ho)
    · exact .inr ⟨dx, fs, e _ _ h1, e _ _ h2⟩
  · rcases hc with ⟨D, rfl, rfl⟩ | ⟨n, rfl, rfl⟩
    · cases hy; exact .own D
    · cases hy; exact .ty n
end
end Nv

set_option Elab.async false
set_option linter.all false
set_option maxRecDepth 100000
set_option maxHeartbeats 4000000
namespace Nv
open PySem PySem.Spec PyProof.Rows L2
structure YC (P : Program) (K : PySem.W.Frag) (mg : Str → Option Value) (nm : Str) (C f : Addr) (B initId newId : String) (flds : List Str) (st : Stmt) : Prop where
  m : mg nm = some (.ref C)
  kp : PySem.W.keepIn K (.ref C) = true
  up : Yup P K mg C f B initId newId flds st
  xf : XfC K C
theorem along_of {K : PySem.W.Frag} {L : Addr} {c : Value} {d : Option Addr} {cd : ClassData} {sl : Array (Option Value)} {bm : List Value} {n : Str} {r : Option Value} (lk : K.lookup L = some ⟨c, d, .cls cd, sl⟩) (hm : cd.mro = bm) (fi : PySem.W.findIn K (.ref L) n = some r) : PySem.W.alongIn K n bm = some r := by
  unfold PySem.W.findIn at fi
  simp only [lk] at fi
  rw [← hm]; exact fi
theorem kit_own {K : PySem.W.Frag} {t : Value} {D : Addr} {b : Bool} (hd : PySem.W.hasDictIn K D = true) (ty : PySem.W.typeIn K (.ref D) = some (.type "type")) (sc : PySem.W.subIn K (.ref D) (.ref D) = some true) (su : PySem.W.subIn K t (.ref D) = some b) : PySem.W.kitOne K t (.ref D) = some b := by
  obtain ⟨cd, hc, _⟩ := PySem.W.any_some hd
  unfold PySem.W.kitOne
  by_cases c : t = .ref D
  · subst c
    rw [sc] at su
    cases su
    rw [if_pos (by simp)]
  · rw [if_neg (by simpa using c)]
    show (if ((PySem.W.clsIn K D).isSome && PySem.W.typeIn K (.ref D) == some (.type "type")) = true then PySem.W.subIn K t (.ref D) else none) = some b
    rw [if_pos (by rw [ty, hc]; simp)]
    exact su
theorem kit_blt {K : PySem.W.Frag} {C : Addr} {n : String} {b : Bool} (hm : PySem.W.kitMeta n = true) (su : PySem.W.subIn K (.ref C) (.type n) = some b) : PySem.W.kitOne K (.ref C) (.type n) = some b := by
  unfold PySem.W.kitOne
  rw [if_neg (by simp)]
  show (if PySem.W.kitMeta n = true then PySem.W.subIn K (.ref C) (.type n) else none) = some b
  rw [if_pos hm]
  exact su
def kitL (K : PySem.W.Frag) (t : Value) : List (Value × Bool) → Prop
  | [] => True
  | (c, b) :: r => PySem.W.kitOne K t c = some b ∧ kitL K t r
section
variable {X : Cx} {P : Program} {K : PySem.W.Frag} {mg : Str → Option Value} {C f : Addr} {B initId newId : String} {px fld nm : Str} {st : Stmt} {e : Expr} {ta : TA} {p pos : Pos}
abbrev fl1 (fld : Str) : List V → List (Str × V) := fun vs => [(fld, vs.headD .non)]
abbrev fl2 (fld fld2 : Str) : List V → List (Str × V) := fun vs => [(fld2, (vs.drop 1).headD .non), (fld, vs.headD .non)]
theorem pe_Y1 (hX : X.prog = P ∧ X.K = K ∧ X.mg = mg) (Y : YC P K mg nm C f B initId newId [fld] st) (S : ∃ p0, YSt px fld (.Name px p0) [] [px] st) (hr : Room 1 X.A) (hg : Gl X nm) (ha : PA X [e] ta) (hdb : (nm == ("__debug__" : Str)) = false := by decide)
    (he : starEach [e] X.env = (false, eval e X.env) :: starEach [] X.env := by rfl) (hpl : (backTo pos (starEach [] X.env)).any (·.1) = false := by rfl) : PE X (.Call (.Name nm p) [e] [] pos) (tYmk K C false (fl1 fld) 1 ta) := by
  obtain ⟨rfl, rfl, rfl⟩ := hX
  obtain ⟨p0, S⟩ := S
  exact pe_y1 rfl Y.up S hr hg Y.m Y.kp ha hdb he hpl
theorem pe_YF (hX : X.prog = P ∧ X.K = K ∧ X.mg = mg) (hA : X.A.guards = some []) (Y : YC P K mg nm C f B initId newId [fld] st) (S : ∃ a b i j q1 q2 q3 q4 q5, YSt px fld (.JoinedStr [.Constant (.str a) i q1, .FormattedValue (.Name px q2) (-1) none q3, .Constant (.str b) j q4] q5) [] [px] st ∧ a.length ≤ 1000 ∧ b.length ≤ 1000)
    (hr : Room 1 X.A) (hg : Gl X nm) (ha : PA X [e] ta) (hdb : (nm == ("__debug__" : Str)) = false := by decide)
    (he : starEach [e] X.env = (false, eval e X.env) :: starEach [] X.env := by rfl) (hpl : (backTo pos (starEach [] X.env)).any (·.1) = false := by rfl) : PE X (.Call (.Name nm p) [e] [] pos) (tYmk K C true (fl1 fld) 1 ta) := by
  obtain ⟨rfl, rfl, rfl⟩ := hX
  obtain ⟨a, b, i, j, q1, q2, q3, q4, q5, S, la, lb⟩ := S
  exact pe_yf rfl Y.up S hA hr hg Y.m Y.kp ha la lb hdb he hpl
theorem pe_Y2 {e2 : Expr} {px2 fld2 : Str} (hX : X.prog = P ∧ X.K = K ∧ X.mg = mg) (Y : YC P K mg nm C f B initId newId [fld, fld2] st) (S : ∃ p0 tl, YSt px fld (.Name px p0) tl [px, px2] st ∧ TlOk st [px, px2] tl (some (fld2, px2)) ∧ px ≠ px2) (hr : Room 1 X.A) (hg : Gl X nm) (ha : PA X [e, e2] ta) (hdb : (nm == ("__debug__" : Str)) = false := by decide)
    (he : starEach [e, e2] X.env = (false, eval e X.env) :: starEach [e2] X.env := by rfl) (hpl : (backTo pos (starEach [e2] X.env)).any (·.1) = false := by rfl) : PE X (.Call (.Name nm p) [e, e2] [] pos) (tYmk K C false (fl2 fld fld2) 2 ta) := by
  obtain ⟨rfl, rfl, rfl⟩ := hX
  obtain ⟨p0, tl, S, hT, hne⟩ := S
  exact pe_y2 rfl Y.up S hT hne hr hg Y.m Y.kp ha hdb he hpl
theorem pe_E1 {bmB : List Value} {te : TE} (hX : X.K = K ∧ X.mg = mg) (F : ExcBaseFacts B newId initId bmB) (x : XoC K mg nm C bmB newId) (hg : Gl X nm) (he : PE X e te) (hs : starEach [e] X.env = (false, eval e X.env) :: starEach [] X.env := by rfl) (hdb : (nm == ("__debug__" : Str)) = false := by decide) :
    PE X (.Call (.Name nm p) [e] [] pos) (tExc1 C te) := by
  obtain ⟨rfl, rfl⟩ := hX
  exact pe_exc1 F x.xi x.m x.kp hg he hs hdb
end
section
variable {K : PySem.W.Frag} {ss : List Sd} {R : Dt → Prop} {C : Addr} {fld fld2 : Str} {ta : TA}
/-! enumerate(list) -/
def enumL (l : List Dt) : List Dt := l.mapIdx fun i d => .tup [.int (i : Nat), d]
theorem wd_enum {G : Hp} {a : Addr} {l : List Dt} {xs : List V} (hs : SqL K G a xs) (d : Dats K G l xs) : WalkD K (Ite K a) (enumL l) G := by
  have w := walk_enum (K := K) (a := a) (xs := xs)
  have e : (enumL l).length = xs.length := by simp [enumL, d.len]
  unfold WalkD
  rw [e]
  refine w.mono (fun H e => e.seq hs) fun i H x H' hi e y G2 e2 e3 => ?_
  obtain ⟨T, x1, x2, rfl, hT, rfl, h1, h2⟩ := y
  cases h1
  obtain ⟨dd, q1, q2⟩ := d.getV h2
  refine ⟨.tup [.int (i : Nat), dd], upd G2 T (.tup [.int (i : Nat), x2]), ?_, Go.new e3 hT, dat_newT (show Dats K G2 [.int (i : Nat), dd] _ from ⟨_, _, rfl, rfl, _, _, rfl, q2.up e2, rfl⟩) (e3.free hT)⟩
  simp [enumL, List.getElem?_mapIdx, q1]
theorem ei_enum {S : List Dt → Prop} (h : EvA K ta ss fun m => ∃ l, m = [.lst l] ∧ S (enumL l)) : EvI K (iEnum K ta) ss S := fun G σ H e s Q q =>
  h G σ H e s _ fun vs m G1 H1 g1 d1 ⟨l, h2, h3⟩ => by
    subst h2
    obtain ⟨x, r, rfl, ⟨a, xs, rfl, hs, hd⟩, hr⟩ := d1
    cases hr
    exact ⟨a, xs, rfl, .inl (.inl (g1.ink _ _ hs)), q _ _ G1 H1 g1 (wd_enum (.inl (.inl hs)) hd) h3⟩
theorem sd_par3 {ξ : XC} {N B C : SP} {i j k : Nat} (h : EvA K ta ss fun l => ∃ x y z, l = [x, y, z] ∧ N (((ss.set i (.dt x)).set j (.dt y)).set k (.dt z))) : StD K ξ (tPar3 i j k ta) ss N B C R := fun G0 H0 D σ G H g s n b c r w =>
  h G σ H g.ink s.sv _ fun vs l G1 H1 g1 d1 ⟨x, y, z, h1, h2⟩ => by
    subst h1
    obtain ⟨v, r1, rfl, e1, w, r2, rfl, e2, u, r3, rfl, e3, e4⟩ := d1
    cases e4
    exact ⟨v, w, u, rfl, n _ _ G1 H1 (g.trans g1) ((((s.go g1).set e1).set e2).set e3) h2⟩
theorem EvA.imp {R R' : List Dt → Prop} (h : EvA K ta ss R) (f : ∀ d, R d → R' d) : EvA K ta ss R' := fun G σ H e s Q q => h G σ H e s Q fun vs ds G' H' g hd hr => q vs ds G' H' g hd (f ds hr)
theorem ed_Y1 (h : EvA K ta ss fun ds => ∃ d, ds = [d] ∧ R (.xv C [(fld, d)])) : EvD K (tYmk K C false (fl1 fld) 1 ta) ss R := by
  refine ed_ymk (fun ds => [(fld, ds.headD .non)]) (fun G ds vs hn hd => ?_) (EvA.imp h fun ds ⟨d, hd, hr⟩ => ?_)
  · match ds, hn with
    | [d], _ =>
    obtain ⟨x, r, rfl, hx, hr⟩ := hd
    exact ⟨x, [], rfl, hx, rfl⟩
  · subst hd; exact ⟨rfl, (fun z => nomatch z), hr⟩
theorem ed_YF (h : EvA K ta ss fun ds => ∃ d p, ds = [d] ∧ toPq d = some p ∧ fitD p = true ∧ p.depth ≤ 60 ∧ szD p ≤ 1000000 ∧ R (.xv C [(fld, d)])) : EvD K (tYmk K C true (fl1 fld) 1 ta) ss R := by
  refine ed_ymk (fun ds => [(fld, ds.headD .non)]) (fun G ds vs hn hd => ?_) (EvA.imp h fun ds ⟨d, p, hd, h1, h2, h3, h4, hr⟩ => ?_)
  · match ds, hn with
    | [d], _ =>
    obtain ⟨x, r, rfl, hx, hr⟩ := hd
    exact ⟨x, [], rfl, hx, rfl⟩
  · subst hd; exact ⟨rfl, fun _ => ⟨d, [], p, rfl, h1, h2, h3, h4⟩, hr⟩
theorem ed_Y2 (h : EvA K ta ss fun ds => ∃ d d2, ds = [d, d2] ∧ R (.xv C [(fld2, d2), (fld, d)])) : EvD K (tYmk K C false (fl2 fld fld2) 2 ta) ss R := by
  refine ed_ymk (fun ds => [(fld2, (ds.drop 1).headD .non), (fld, ds.headD .non)]) (fun G ds vs hn hd => ?_) (EvA.imp h fun ds ⟨d, d2, hd, hr⟩ => ?_)
  · match ds, hn with
    | [d, d2], _ =>
    obtain ⟨x, r, rfl, hx, y, r2, rfl, hy, hr⟩ := hd
    exact ⟨y, _, rfl, hy, x, [], rfl, hx, rfl⟩
  · subst hd; exact ⟨rfl, (fun z => nomatch z), hr⟩
end
end Nv

set_option Elab.async false
set_option linter.all false
set_option maxRecDepth 100000
set_option maxHeartbeats 4000000
namespace Nv
open PySem PySem.Spec PyProof.Rows L2
def top (i : Nat) : Stmt := PySem.Challenge.pw_namedabove_k00_errors_and_what_they_keep.main.body.getD i (.Pass ⟨0, 0, 0, 0⟩)
abbrev s_ParseError___init__ : Stmt := inClass (top 11) 0
theorem yst_ParseError : ∃ a b i j q1 q2 q3 q4 q5, YSt "line" "line" (.JoinedStr [.Constant (.str a) i q1, .FormattedValue (.Name "line" q2) (-1) none q3, .Constant (.str b) j q4] q5) [] ["line"] s_ParseError___init__ ∧ a.length ≤ 1000 ∧ b.length ≤ 1000 := ⟨_, _, _, _, _, _, _, _, _, ⟨⟨_, _, _, _, _, _, _, _, _, rfl, fun _ _ _ _ _ => ⟨rfl, rfl, ⟨_, rfl⟩, rfl, rfl⟩⟩, ⟨_, rfl, rfl⟩, rfl, rfl, rfl, (by decide +kernel), (by decide), rfl, (by decide +kernel), rfl, rfl, (by decide), (by decide), fun _ _ _ _ _ _ _ _ _ _ vs hv => by match vs, hv with | [_], _ => exact .of_eq rfl⟩, by decide +kernel, by decide +kernel⟩
abbrev s_UnknownName___init__ : Stmt := inClass (top 12) 0
theorem yst_UnknownName : ∃ p0, YSt "name" "name" (.Name "name" p0) [] ["name"] s_UnknownName___init__ := ⟨_, ⟨⟨_, _, _, _, _, _, _, _, _, rfl, fun _ _ _ _ _ => ⟨rfl, rfl, ⟨_, rfl⟩, rfl, rfl⟩⟩, ⟨_, rfl, rfl⟩, rfl, rfl, rfl, (by decide +kernel), (by decide), rfl, (by decide +kernel), rfl, rfl, (by decide), (by decide), fun _ _ _ _ _ _ _ _ _ _ vs hv => by match vs, hv with | [_], _ => exact .of_eq rfl⟩⟩
abbrev s_InvalidNumber___init__ : Stmt := inClass (top 13) 0
theorem yst_InvalidNumber : ∃ p0, YSt "value" "value" (.Name "value" p0) [] ["value"] s_InvalidNumber___init__ := ⟨_, ⟨⟨_, _, _, _, _, _, _, _, _, rfl, fun _ _ _ _ _ => ⟨rfl, rfl, ⟨_, rfl⟩, rfl, rfl⟩⟩, ⟨_, rfl, rfl⟩, rfl, rfl, rfl, (by decide +kernel), (by decide), rfl, (by decide +kernel), rfl, rfl, (by decide), (by decide), fun _ _ _ _ _ _ _ _ _ _ vs hv => by match vs, hv with | [_], _ => exact .of_eq rfl⟩⟩
abbrev s_TooMany___init__ : Stmt := inClass (top 14) 0
theorem yst_TooMany : ∃ p0, YSt "limit" "limit" (.Name "limit" p0) [] ["limit"] s_TooMany___init__ := ⟨_, ⟨⟨_, _, _, _, _, _, _, _, _, rfl, fun _ _ _ _ _ => ⟨rfl, rfl, ⟨_, rfl⟩, rfl, rfl⟩⟩, ⟨_, rfl, rfl⟩, rfl, rfl, rfl, (by decide +kernel), (by decide), rfl, (by decide +kernel), rfl, rfl, (by decide), (by decide), fun _ _ _ _ _ _ _ _ _ _ vs hv => by match vs, hv with | [_], _ => exact .of_eq rfl⟩⟩
abbrev s_NothingToUndo___init__ : Stmt := inClass (top 15) 0
theorem yst_NothingToUndo : ∃ p0, YSt "many" "many" (.Name "many" p0) [] ["many"] s_NothingToUndo___init__ := ⟨_, ⟨⟨_, _, _, _, _, _, _, _, _, rfl, fun _ _ _ _ _ => ⟨rfl, rfl, ⟨_, rfl⟩, rfl, rfl⟩⟩, ⟨_, rfl, rfl⟩, rfl, rfl, rfl, (by decide +kernel), (by decide), rfl, (by decide +kernel), rfl, rfl, (by decide), (by decide), fun _ _ _ _ _ _ _ _ _ _ vs hv => by match vs, hv with | [_], _ => exact .of_eq rfl⟩⟩
abbrev s_Broken___init__ : Stmt := inClass (top 16) 0
theorem yst_Broken : ∃ p0 tl, YSt "name" "name" (.Name "name" p0) tl ["name", "reason"] s_Broken___init__ ∧ TlOk s_Broken___init__ ["name", "reason"] tl (some ("reason", "reason")) ∧ ("name" : Str) ≠ "reason" := ⟨_, _, ⟨⟨_, _, _, _, _, _, _, _, _, rfl, fun _ _ _ _ _ => ⟨rfl, rfl, ⟨_, rfl⟩, rfl, rfl⟩⟩, ⟨_, rfl, rfl⟩, rfl, rfl, rfl, (by decide +kernel), (by decide), rfl, (by decide +kernel), rfl, rfl, (by decide), (by decide), fun _ _ _ _ _ _ _ _ _ _ vs hv => by match vs, hv with | [_, _], _ => exact .of_eq rfl⟩, .one rfl (by decide) (fun _ => rfl), by decide⟩
abbrev s__law_dice : Stmt := top 18
theorem sc__law_dice : FnScope ["_law_script", "_law_at", "_law_cell", "_law_great", "_law_mixed"] ["_law_script", "_law_at"] (defScope s__law_dice) := ⟨rfl, rfl, rfl, by decide +kernel, rfl, by decide +kernel, by decide +kernel⟩
abbrev s__law_roll : Stmt := top 19
theorem sc__law_roll : FnScope ["_law_dice_here", "_law_total", "_law_one", "_law_two", "_law_found"] ["_law_dice_here", "_law_total"] (defScope s__law_roll) := ⟨rfl, rfl, rfl, by decide +kernel, rfl, by decide +kernel, by decide +kernel⟩
abbrev s__law_one_of : Stmt := top 20
theorem sc__law_one_of : FnScope ["_law_dice_here", "_law_items"] ["_law_dice_here", "_law_items"] (defScope s__law_one_of) := ⟨rfl, rfl, rfl, by decide +kernel, rfl, by decide +kernel, by decide +kernel⟩
abbrev s__law_kinds_of : Stmt := top 21
theorem sc__law_kinds_of : FnScope ["_law_error", "_law_rows", "_law_at", "_law_told"] ["_law_error"] (defScope s__law_kinds_of) := ⟨rfl, rfl, rfl, by decide +kernel, rfl, by decide +kernel, by decide +kernel⟩
abbrev s__law_right : Stmt := top 22
theorem sc__law_right : FnScope ["_law_value", "_law_other", "_law_kept", "_law_found", "_law_line", "_law_name", "_law_number", "_law_many", "_law_none", "_law_broken", "_law_error"] ["_law_value", "_law_other"] (defScope s__law_right) := ⟨rfl, rfl, rfl, by decide +kernel, rfl, by decide +kernel, by decide +kernel⟩
abbrev s_law : Stmt := top 23
theorem sc_law : FnScope ["_law_script", "_law_at", "_law_plain", "_law_dice_here", "_law_number", "_law_rows", "_law_value", "_law_error"] ["_law_script"] (defScope s_law) := ⟨rfl, rfl, rfl, by decide +kernel, rfl, by decide +kernel, by decide +kernel⟩
structure EA where
  (C_LetterError C_InvalidCutter C_InvalidCompany C_InvalidBundle C_InvalidRule C_InvalidLot C_InvalidState C_InvalidLetter C_InvalidPledge C_InvalidOperation C_ParseError f_ParseError C_UnknownName f_UnknownName C_InvalidNumber f_InvalidNumber C_TooMany f_TooMany C_NothingToUndo f_NothingToUndo C_Broken f_Broken : Addr)
structure Tx (P : Program) (K : PySem.W.Frag) (mg : Str → Option Value) (ea : EA) : Prop where
  m_int : mg "int" = none
  m_max : mg "max" = none
  m_len : mg "len" = none
  m_abs : mg "abs" = none
  m_isinstance : mg "isinstance" = none
  m_ValueError : mg "ValueError" = none
  m_KeyError : mg "KeyError" = none
  m_RuntimeError : mg "RuntimeError" = none
  m_OverflowError : mg "OverflowError" = none
  m_IndexError : mg "IndexError" = none
  m_ArithmeticError : mg "ArithmeticError" = none
  m_LookupError : mg "LookupError" = none
  m_enumerate : mg "enumerate" = none
  m_repr : mg "repr" = none
  m_range : mg "range" = none
  m_min : mg "min" = none
  m_str : mg "str" = none
  D__law_dice : Df K mg "_law_dice" s__law_dice ["_law_script", "_law_at"]
  D__law_roll : Df K mg "_law_roll" s__law_roll ["_law_dice_here", "_law_total"]
  D__law_one_of : Df K mg "_law_one_of" s__law_one_of ["_law_dice_here", "_law_items"]
  D__law_kinds_of : Df K mg "_law_kinds_of" s__law_kinds_of ["_law_error"]
  D__law_right : Df K mg "_law_right" s__law_right ["_law_value", "_law_other"]
  D_law : Df K mg "law" s_law ["_law_script"]
  x_LetterError : XoC K mg "LetterError" ea.C_LetterError [.type "ValueError", .type "Exception", .type "BaseException", .type "object"] "ValueError.__new__"
  m_LetterError : mg "LetterError" = some (.ref ea.C_LetterError)
  ev_LetterError : ExcC K ea.C_LetterError
  x_InvalidCutter : XoC K mg "InvalidCutter" ea.C_InvalidCutter [.type "ValueError", .type "Exception", .type "BaseException", .type "object"] "ValueError.__new__"
  m_InvalidCutter : mg "InvalidCutter" = some (.ref ea.C_InvalidCutter)
  ev_InvalidCutter : ExcC K ea.C_InvalidCutter
  x_InvalidCompany : XoC K mg "InvalidCompany" ea.C_InvalidCompany [.type "ValueError", .type "Exception", .type "BaseException", .type "object"] "ValueError.__new__"
  m_InvalidCompany : mg "InvalidCompany" = some (.ref ea.C_InvalidCompany)
  ev_InvalidCompany : ExcC K ea.C_InvalidCompany
  x_InvalidBundle : XoC K mg "InvalidBundle" ea.C_InvalidBundle [.type "ValueError", .type "Exception", .type "BaseException", .type "object"] "ValueError.__new__"
  m_InvalidBundle : mg "InvalidBundle" = some (.ref ea.C_InvalidBundle)
  ev_InvalidBundle : ExcC K ea.C_InvalidBundle
  x_InvalidRule : XoC K mg "InvalidRule" ea.C_InvalidRule [.type "ValueError", .type "Exception", .type "BaseException", .type "object"] "ValueError.__new__"
  m_InvalidRule : mg "InvalidRule" = some (.ref ea.C_InvalidRule)
  ev_InvalidRule : ExcC K ea.C_InvalidRule
  x_InvalidLot : XoC K mg "InvalidLot" ea.C_InvalidLot [.type "ValueError", .type "Exception", .type "BaseException", .type "object"] "ValueError.__new__"
  m_InvalidLot : mg "InvalidLot" = some (.ref ea.C_InvalidLot)
  ev_InvalidLot : ExcC K ea.C_InvalidLot
  x_InvalidState : XoC K mg "InvalidState" ea.C_InvalidState [.type "ValueError", .type "Exception", .type "BaseException", .type "object"] "ValueError.__new__"
  m_InvalidState : mg "InvalidState" = some (.ref ea.C_InvalidState)
  ev_InvalidState : ExcC K ea.C_InvalidState
  x_InvalidLetter : XoC K mg "InvalidLetter" ea.C_InvalidLetter [.type "ValueError", .type "Exception", .type "BaseException", .type "object"] "ValueError.__new__"
  m_InvalidLetter : mg "InvalidLetter" = some (.ref ea.C_InvalidLetter)
  ev_InvalidLetter : ExcC K ea.C_InvalidLetter
  x_InvalidPledge : XoC K mg "InvalidPledge" ea.C_InvalidPledge [.type "ValueError", .type "Exception", .type "BaseException", .type "object"] "ValueError.__new__"
  m_InvalidPledge : mg "InvalidPledge" = some (.ref ea.C_InvalidPledge)
  ev_InvalidPledge : ExcC K ea.C_InvalidPledge
  x_InvalidOperation : XoC K mg "InvalidOperation" ea.C_InvalidOperation [.type "ValueError", .type "Exception", .type "BaseException", .type "object"] "ValueError.__new__"
  m_InvalidOperation : mg "InvalidOperation" = some (.ref ea.C_InvalidOperation)
  ev_InvalidOperation : ExcC K ea.C_InvalidOperation
  y_ParseError : YC P K mg "ParseError" ea.C_ParseError ea.f_ParseError "ValueError" "ValueError.__init__" "ValueError.__new__" ["line"] s_ParseError___init__
  m_ParseError : mg "ParseError" = some (.ref ea.C_ParseError)
  ev_ParseError : ExcC K ea.C_ParseError
  n_ParseError_line : PySem.W.findIn K (.ref ea.C_ParseError) "line" = some none
  y_UnknownName : YC P K mg "UnknownName" ea.C_UnknownName ea.f_UnknownName "KeyError" "KeyError.__init__" "LookupError.__new__" ["name"] s_UnknownName___init__
  m_UnknownName : mg "UnknownName" = some (.ref ea.C_UnknownName)
  ev_UnknownName : ExcC K ea.C_UnknownName
  n_UnknownName_name : PySem.W.findIn K (.ref ea.C_UnknownName) "name" = some none
  y_InvalidNumber : YC P K mg "InvalidNumber" ea.C_InvalidNumber ea.f_InvalidNumber "RuntimeError" "RuntimeError.__init__" "RuntimeError.__new__" ["value"] s_InvalidNumber___init__
  m_InvalidNumber : mg "InvalidNumber" = some (.ref ea.C_InvalidNumber)
  ev_InvalidNumber : ExcC K ea.C_InvalidNumber
  n_InvalidNumber_value : PySem.W.findIn K (.ref ea.C_InvalidNumber) "value" = some none
  y_TooMany : YC P K mg "TooMany" ea.C_TooMany ea.f_TooMany "OverflowError" "OverflowError.__init__" "OverflowError.__new__" ["limit"] s_TooMany___init__
  m_TooMany : mg "TooMany" = some (.ref ea.C_TooMany)
  ev_TooMany : ExcC K ea.C_TooMany
  n_TooMany_limit : PySem.W.findIn K (.ref ea.C_TooMany) "limit" = some none
  y_NothingToUndo : YC P K mg "NothingToUndo" ea.C_NothingToUndo ea.f_NothingToUndo "IndexError" "IndexError.__init__" "IndexError.__new__" ["many"] s_NothingToUndo___init__
  m_NothingToUndo : mg "NothingToUndo" = some (.ref ea.C_NothingToUndo)
  ev_NothingToUndo : ExcC K ea.C_NothingToUndo
  n_NothingToUndo_many : PySem.W.findIn K (.ref ea.C_NothingToUndo) "many" = some none
  y_Broken : YC P K mg "Broken" ea.C_Broken ea.f_Broken "ArithmeticError" "ArithmeticError.__init__" "ArithmeticError.__new__" ["name", "reason"] s_Broken___init__
  m_Broken : mg "Broken" = some (.ref ea.C_Broken)
  ev_Broken : ExcC K ea.C_Broken
  n_Broken_name : PySem.W.findIn K (.ref ea.C_Broken) "name" = some none
  n_Broken_reason : PySem.W.findIn K (.ref ea.C_Broken) "reason" = some none
  iv_LetterError : kitL K (.ref ea.C_LetterError) [(.ref ea.C_LetterError, true), (.ref ea.C_InvalidCutter, false), (.ref ea.C_InvalidCompany, false), (.ref ea.C_InvalidBundle, false), (.ref ea.C_InvalidRule, false), (.ref ea.C_InvalidLot, false), (.ref ea.C_InvalidState, false), (.ref ea.C_InvalidLetter, false), (.ref ea.C_InvalidPledge, false), (.ref ea.C_InvalidOperation, false), (.ref ea.C_ParseError, false), (.ref ea.C_UnknownName, false), (.ref ea.C_InvalidNumber, false), (.ref ea.C_TooMany, false), (.ref ea.C_NothingToUndo, false), (.ref ea.C_Broken, false), (.type "ValueError", true), (.type "KeyError", false), (.type "RuntimeError", false), (.type "OverflowError", false), (.type "IndexError", false), (.type "ArithmeticError", false), (.type "LookupError", false)]
  iv_InvalidCutter : kitL K (.ref ea.C_InvalidCutter) [(.ref ea.C_LetterError, true), (.ref ea.C_InvalidCutter, true), (.ref ea.C_InvalidCompany, false), (.ref ea.C_InvalidBundle, false), (.ref ea.C_InvalidRule, false), (.ref ea.C_InvalidLot, false), (.ref ea.C_InvalidState, false), (.ref ea.C_InvalidLetter, false), (.ref ea.C_InvalidPledge, false), (.ref ea.C_InvalidOperation, false), (.ref ea.C_ParseError, false), (.ref ea.C_UnknownName, false), (.ref ea.C_InvalidNumber, false), (.ref ea.C_TooMany, false), (.ref ea.C_NothingToUndo, false), (.ref ea.C_Broken, false), (.type "ValueError", true), (.type "KeyError", false), (.type "RuntimeError", false), (.type "OverflowError", false), (.type "IndexError", false), (.type "ArithmeticError", false), (.type "LookupError", false)]
  iv_InvalidCompany : kitL K (.ref ea.C_InvalidCompany) [(.ref ea.C_LetterError, true), (.ref ea.C_InvalidCutter, false), (.ref ea.C_InvalidCompany, true), (.ref ea.C_InvalidBundle, false), (.ref ea.C_InvalidRule, false), (.ref ea.C_InvalidLot, false), (.ref ea.C_InvalidState, false), (.ref ea.C_InvalidLetter, false), (.ref ea.C_InvalidPledge, false), (.ref ea.C_InvalidOperation, false), (.ref ea.C_ParseError, false), (.ref ea.C_UnknownName, false), (.ref ea.C_InvalidNumber, false), (.ref ea.C_TooMany, false), (.ref ea.C_NothingToUndo, false), (.ref ea.C_Broken, false), (.type "ValueError", true), (.type "KeyError", false), (.type "RuntimeError", false), (.type "OverflowError", false), (.type "IndexError", false), (.type "ArithmeticError", false), (.type "LookupError", false)]
  iv_InvalidBundle : kitL K (.ref ea.C_InvalidBundle) [(.ref ea.C_LetterError, true), (.ref ea.C_InvalidCutter, false), (.ref ea.C_InvalidCompany, false), (.ref ea.C_InvalidBundle, true), (.ref ea.C_InvalidRule, false), (.ref ea.C_InvalidLot, false), (.ref ea.C_InvalidState, false), (.ref ea.C_InvalidLetter, false), (.ref ea.C_InvalidPledge, false), (.ref ea.C_InvalidOperation, false), (.ref ea.C_ParseError, false), (.ref ea.C_UnknownName, false), (.ref ea.C_InvalidNumber, false), (.ref ea.C_TooMany, false), (.ref ea.C_NothingToUndo, false), (.ref ea.C_Broken, false), (.type "ValueError", true), (.type "KeyError", false), (.type "RuntimeError", false), (.type "OverflowError", false), (.type "IndexError", false), (.type "ArithmeticError", false), (.type "LookupError", false)]
  iv_InvalidRule : kitL K (.ref ea.C_InvalidRule) [(.ref ea.C_LetterError, true), (.ref ea.C_InvalidCutter, false), (.ref ea.C_InvalidCompany, false), (.ref ea.C_InvalidBundle, false), (.ref ea.C_InvalidRule, true), (.ref ea.C_InvalidLot, false), (.ref ea.C_InvalidState, false), (.ref ea.C_InvalidLetter, false), (.ref ea.C_InvalidPledge, false), (.ref ea.C_InvalidOperation, false), (.ref ea.C_ParseError, false), (.ref ea.C_UnknownName, false), (.ref ea.C_InvalidNumber, false), (.ref ea.C_TooMany, false), (.ref ea.C_NothingToUndo, false), (.ref ea.C_Broken, false), (.type "ValueError", true), (.type "KeyError", false), (.type "RuntimeError", false), (.type "OverflowError", false), (.type "IndexError", false), (.type "ArithmeticError", false), (.type "LookupError", false)]
  iv_InvalidLot : kitL K (.ref ea.C_InvalidLot) [(.ref ea.C_LetterError, true), (.ref ea.C_InvalidCutter, false), (.ref ea.C_InvalidCompany, false), (.ref ea.C_InvalidBundle, false), (.ref ea.C_InvalidRule, false), (.ref ea.C_InvalidLot, true), (.ref ea.C_InvalidState, false), (.ref ea.C_InvalidLetter, false), (.ref ea.C_InvalidPledge, false), (.ref ea.C_InvalidOperation, false), (.ref ea.C_ParseError, false), (.ref ea.C_UnknownName, false), (.ref ea.C_InvalidNumber, false), (.ref ea.C_TooMany, false), (.ref ea.C_NothingToUndo, false), (.ref ea.C_Broken, false), (.type "ValueError", true), (.type "KeyError", false), (.type "RuntimeError", false), (.type "OverflowError", false), (.type "IndexError", false), (.type "ArithmeticError", false), (.type "LookupError", false)]
  iv_InvalidState : kitL K (.ref ea.C_InvalidState) [(.ref ea.C_LetterError, true), (.ref ea.C_InvalidCutter, false), (.ref ea.C_InvalidCompany, false), (.ref ea.C_InvalidBundle, false), (.ref ea.C_InvalidRule, false), (.ref ea.C_InvalidLot, false), (.ref ea.C_InvalidState, true), (.ref ea.C_InvalidLetter, false), (.ref ea.C_InvalidPledge, false), (.ref ea.C_InvalidOperation, false), (.ref ea.C_ParseError, false), (.ref ea.C_UnknownName, false), (.ref ea.C_InvalidNumber, false), (.ref ea.C_TooMany, false), (.ref ea.C_NothingToUndo, false), (.ref ea.C_Broken, false), (.type "ValueError", true), (.type "KeyError", false), (.type "RuntimeError", false), (.type "OverflowError", false), (.type "IndexError", false), (.type "ArithmeticError", false), (.type "LookupError", false)]
  iv_InvalidLetter : kitL K (.ref ea.C_InvalidLetter) [(.ref ea.C_LetterError, true), (.ref ea.C_InvalidCutter, false), (.ref ea.C_InvalidCompany, false), (.ref ea.C_InvalidBundle, false), (.ref ea.C_InvalidRule, false), (.ref ea.C_InvalidLot, false), (.ref ea.C_InvalidState, false), (.ref ea.C_InvalidLetter, true), (.ref ea.C_InvalidPledge, false), (.ref ea.C_InvalidOperation, false), (.ref ea.C_ParseError, false), (.ref ea.C_UnknownName, false), (.ref ea.C_InvalidNumber, false), (.ref ea.C_TooMany, false), (.ref ea.C_NothingToUndo, false), (.ref ea.C_Broken, false), (.type "ValueError", true), (.type "KeyError", false), (.type "RuntimeError", false), (.type "OverflowError", false), (.type "IndexError", false), (.type "ArithmeticError", false), (.type "LookupError", false)]
  iv_InvalidPledge : kitL K (.ref ea.C_InvalidPledge) [(.ref ea.C_LetterError, true), (.ref ea.C_InvalidCutter, false), (.ref ea.C_InvalidCompany, false), (.ref ea.C_InvalidBundle, false), (.ref ea.C_InvalidRule, false), (.ref ea.C_InvalidLot, false), (.ref ea.C_InvalidState, false), (.ref ea.C_InvalidLetter, false), (.ref ea.C_InvalidPledge, true), (.ref ea.C_InvalidOperation, false), (.ref ea.C_ParseError, false), (.ref ea.C_UnknownName, false), (.ref ea.C_InvalidNumber, false), (.ref ea.C_TooMany, false), (.ref ea.C_NothingToUndo, false), (.ref ea.C_Broken, false), (.type "ValueError", true), (.type "KeyError", false), (.type "RuntimeError", false), (.type "OverflowError", false), (.type "IndexError", false), (.type "ArithmeticError", false), (.type "LookupError", false)]
  iv_InvalidOperation : kitL K (.ref ea.C_InvalidOperation) [(.ref ea.C_LetterError, true), (.ref ea.C_InvalidCutter, false), (.ref ea.C_InvalidCompany, false), (.ref ea.C_InvalidBundle, false), (.ref ea.C_InvalidRule, false), (.ref ea.C_InvalidLot, false), (.ref ea.C_InvalidState, false), (.ref ea.C_InvalidLetter, false), (.ref ea.C_InvalidPledge, false), (.ref ea.C_InvalidOperation, true), (.ref ea.C_ParseError, false), (.ref ea.C_UnknownName, false), (.ref ea.C_InvalidNumber, false), (.ref ea.C_TooMany, false), (.ref ea.C_NothingToUndo, false), (.ref ea.C_Broken, false), (.type "ValueError", true), (.type "KeyError", false), (.type "RuntimeError", false), (.type "OverflowError", false), (.type "IndexError", false), (.type "ArithmeticError", false), (.type "LookupError", false)]
  iv_ParseError : kitL K (.ref ea.C_ParseError) [(.ref ea.C_LetterError, true), (.ref ea.C_InvalidCutter, false), (.ref ea.C_InvalidCompany, false), (.ref ea.C_InvalidBundle, false), (.ref ea.C_InvalidRule, false), (.ref ea.C_InvalidLot, false), (.ref ea.C_InvalidState, false), (.ref ea.C_InvalidLetter, false), (.ref ea.C_InvalidPledge, false), (.ref ea.C_InvalidOperation, false), (.ref ea.C_ParseError, true), (.ref ea.C_UnknownName, false), (.ref ea.C_InvalidNumber, false), (.ref ea.C_TooMany, false), (.ref ea.C_NothingToUndo, false), (.ref ea.C_Broken, false), (.type "ValueError", true), (.type "KeyError", false), (.type "RuntimeError", false), (.type "OverflowError", false), (.type "IndexError", false), (.type "ArithmeticError", false), (.type "LookupError", false)]
  iv_UnknownName : kitL K (.ref ea.C_UnknownName) [(.ref ea.C_LetterError, false), (.ref ea.C_InvalidCutter, false), (.ref ea.C_InvalidCompany, false), (.ref ea.C_InvalidBundle, false), (.ref ea.C_InvalidRule, false), (.ref ea.C_InvalidLot, false), (.ref ea.C_InvalidState, false), (.ref ea.C_InvalidLetter, false), (.ref ea.C_InvalidPledge, false), (.ref ea.C_InvalidOperation, false), (.ref ea.C_ParseError, false), (.ref ea.C_UnknownName, true), (.ref ea.C_InvalidNumber, false), (.ref ea.C_TooMany, false), (.ref ea.C_NothingToUndo, false), (.ref ea.C_Broken, false), (.type "ValueError", false), (.type "KeyError", true), (.type "RuntimeError", false), (.type "OverflowError", false), (.type "IndexError", false), (.type "ArithmeticError", false), (.type "LookupError", true)]
  iv_InvalidNumber : kitL K (.ref ea.C_InvalidNumber) [(.ref ea.C_LetterError, false), (.ref ea.C_InvalidCutter, false), (.ref ea.C_InvalidCompany, false), (.ref ea.C_InvalidBundle, false), (.ref ea.C_InvalidRule, false), (.ref ea.C_InvalidLot, false), (.ref ea.C_InvalidState, false), (.ref ea.C_InvalidLetter, false), (.ref ea.C_InvalidPledge, false), (.ref ea.C_InvalidOperation, false), (.ref ea.C_ParseError, false), (.ref ea.C_UnknownName, false), (.ref ea.C_InvalidNumber, true), (.ref ea.C_TooMany, false), (.ref ea.C_NothingToUndo, false), (.ref ea.C_Broken, false), (.type "ValueError", false), (.type "KeyError", false), (.type "RuntimeError", true), (.type "OverflowError", false), (.type "IndexError", false), (.type "ArithmeticError", false), (.type "LookupError", false)]
  iv_TooMany : kitL K (.ref ea.C_TooMany) [(.ref ea.C_LetterError, false), (.ref ea.C_InvalidCutter, false), (.ref ea.C_InvalidCompany, false), (.ref ea.C_InvalidBundle, false), (.ref ea.C_InvalidRule, false), (.ref ea.C_InvalidLot, false), (.ref ea.C_InvalidState, false), (.ref ea.C_InvalidLetter, false), (.ref ea.C_InvalidPledge, false), (.ref ea.C_InvalidOperation, false), (.ref ea.C_ParseError, false), (.ref ea.C_UnknownName, false), (.ref ea.C_InvalidNumber, false), (.ref ea.C_TooMany, true), (.ref ea.C_NothingToUndo, false), (.ref ea.C_Broken, false), (.type "ValueError", false), (.type "KeyError", false), (.type "RuntimeError", false), (.type "OverflowError", true), (.type "IndexError", false), (.type "ArithmeticError", true), (.type "LookupError", false)]
  iv_NothingToUndo : kitL K (.ref ea.C_NothingToUndo) [(.ref ea.C_LetterError, false), (.ref ea.C_InvalidCutter, false), (.ref ea.C_InvalidCompany, false), (.ref ea.C_InvalidBundle, false), (.ref ea.C_InvalidRule, false), (.ref ea.C_InvalidLot, false), (.ref ea.C_InvalidState, false), (.ref ea.C_InvalidLetter, false), (.ref ea.C_InvalidPledge, false), (.ref ea.C_InvalidOperation, false), (.ref ea.C_ParseError, false), (.ref ea.C_UnknownName, false), (.ref ea.C_InvalidNumber, false), (.ref ea.C_TooMany, false), (.ref ea.C_NothingToUndo, true), (.ref ea.C_Broken, false), (.type "ValueError", false), (.type "KeyError", false), (.type "RuntimeError", false), (.type "OverflowError", false), (.type "IndexError", true), (.type "ArithmeticError", false), (.type "LookupError", true)]
  iv_Broken : kitL K (.ref ea.C_Broken) [(.ref ea.C_LetterError, false), (.ref ea.C_InvalidCutter, false), (.ref ea.C_InvalidCompany, false), (.ref ea.C_InvalidBundle, false), (.ref ea.C_InvalidRule, false), (.ref ea.C_InvalidLot, false), (.ref ea.C_InvalidState, false), (.ref ea.C_InvalidLetter, false), (.ref ea.C_InvalidPledge, false), (.ref ea.C_InvalidOperation, false), (.ref ea.C_ParseError, false), (.ref ea.C_UnknownName, false), (.ref ea.C_InvalidNumber, false), (.ref ea.C_TooMany, false), (.ref ea.C_NothingToUndo, false), (.ref ea.C_Broken, true), (.type "ValueError", false), (.type "KeyError", false), (.type "RuntimeError", false), (.type "OverflowError", false), (.type "IndexError", false), (.type "ArithmeticError", true), (.type "LookupError", false)]
end Nv

set_option Elab.async false
set_option linter.all false
set_option maxRecDepth 100000
set_option maxHeartbeats 4000000
namespace Nv
open PySem PySem.Spec PyProof.Rows L2
open SX (S)
local macro_rules | `(tactic| walk_at "nv1") => `(tactic| first
  | ((with_reducible apply ed_var); exact rfl)
  | (with_reducible refine sd_seq ?_)
  | (with_reducible refine sd_ret ?_)
  | (with_reducible refine sd_if ?_)
  | (with_reducible refine sd_asg ?_)
  | (with_reducible refine sd_next ?_)
  | (with_reducible refine sd_unl ?_)
  | (with_reducible refine ed_makeR ?_)
  | (with_reducible refine ed_methR ?_)
  | (with_reducible refine ed_propR ?_)
  | (with_reducible refine ed_cmeth ?_)
  | (with_reducible refine ed_fld ?_)
  | (with_reducible refine ed_lstRg ?_)
  | (with_reducible refine ed_tupRg ?_)
  | (with_reducible refine ea_star ?_)
  | (with_reducible refine ed_op ?_)
  | (with_reducible refine ed_and ?_)
  | (with_reducible refine ed_or ?_)
  | (with_reducible refine ed_not ?_)
  | (with_reducible refine ed_if ?_)
  | (with_reducible refine ed_cb ?_)
  | (with_reducible refine ed_call ?_)
  | (with_reducible refine ed_lst ?_)
  | (with_reducible refine ed_tup ?_)
  | (with_reducible refine ed_un ?_)
  | (with_reducible refine ed_sl ?_)
  | (with_reducible refine ea_cons ?_)
  | (with_reducible refine ea_nil ?_)
  | (with_reducible refine eo_none ?_)
  | (with_reducible refine eo_some ?_)
  | (with_reducible refine et_test ?_)
  | (with_reducible refine et_B ?_)
  | (with_reducible refine et_and ?_)
  | (with_reducible refine et_or ?_)
  | (with_reducible refine et_not ?_)
  | (with_reducible refine et_yes ?_)
  | (with_reducible refine ed_int ?_)
  | (with_reducible refine ed_str ?_)
  | (with_reducible refine ed_bl ?_)
  | (with_reducible refine ed_non ?_)
  | (with_reducible refine ed_ty ?_)
  | (with_reducible refine ed_obj ?_))
local macro_rules | `(tactic| walk_at "nv2") => `(tactic| first
  | (with_reducible refine rd_add_i ?_)
  | (with_reducible refine rd_I0i ?_)
  | (with_reducible refine rd_I0b ?_)
  | (with_reducible refine rd_eq_i ?_)
  | (with_reducible refine rd_ne_i ?_)
  | (with_reducible refine rd_eq_s ?_)
  | (with_reducible refine rd_ne_s ?_)
  | (with_reducible refine rd_notB ?_)
  | (with_reducible refine cd_tup_l ?_)
  | (with_reducible refine cd_tup_t ?_)
  | (with_reducible refine cd_lst_l ?_)
  | (with_reducible refine cd_lst_t ?_)
  | (with_reducible refine rd_in_l ?_)
  | (with_reducible refine rd_in_t ?_)
  | (with_reducible refine rd_ni_t ?_)
  | (with_reducible refine rd_eq_b ?_)
  | (with_reducible refine rd_ne_b ?_)
  | (with_reducible refine rd_isB ?_)
  | (with_reducible refine rd_isN ?_)
  | (with_reducible refine rd_notN ?_)
  | (with_reducible refine rd_in_sign ?_)
  | (with_reducible refine cd_len_l ?_)
  | (with_reducible refine cd_len_sq ?_)
  | (with_reducible refine cd_len_t ?_)
  | (with_reducible refine cd_int_i ?_)
  | (with_reducible refine cd_int_b ?_)
  | (with_reducible refine cd_abs ?_)
  | (with_reducible refine cd_max ?_)
  | (with_reducible refine cd_min ?_)
  | (with_reducible refine cd_str_s ?_)
  | (with_reducible refine cd_repr_b ?_)
  | (with_reducible refine ud_neg ?_)
  | ((with_reducible refine And.intro ?_ ?_); exact Nat.le_of_ble_eq_true rfl) | (with_reducible refine ed_dnew ?_) | (with_reducible refine ed_disp1 ?_) | ((with_reducible refine rd_mul_l ?_ ?_ ?_ ?_); decide; decide; exact Nat.le_of_ble_eq_true rfl) | ((with_reducible refine rd_add_l ?_ ?_); exact Nat.le_of_ble_eq_true rfl)
  | (with_reducible refine ⟨_, rfl, ?_⟩) | (with_reducible refine ⟨_, Or.inl rfl, ?_⟩))
local macro_rules | `(tactic| walk_at "nv") => `(tactic| first | walk_at "nv1" | walk_at "nv2")
local macro_rules | `(tactic| walk_at "cx") => `(tactic| dsimp only [cxOf, Cx.nox, Cx.wish, Cx.blk, List.length_cons, List.length_nil])
section
variable {P : Program} {w : World} {K : PySem.W.Frag} {mg : Str → Option Value} {base : Heap} {ea : EA}
theorem gf__law_roll (T : Tx P K mg ea) : Gf P w K mg base "_law_roll" 1 ["_law_dice_here", "_law_total"] PreRoll := by
  obtain ⟨f, fd, F, b, m⟩ := T.D__law_roll
  refine ⟨f, fd, roll_hide (F.ok sc__law_roll (fun vs H Q E h => ?_) (fun cdv A outer s H vs Q E hr h => ⟨_, (pss_cons (ps_if (pt_cmpR op_gt (pe_ix (ixA (K := K) rfl) (pv 0) pe_int (fun _ _ => rfl)) pe_int (nomark _)) (pss_cons (ps_set (i := 4) sc__law_roll.nd rfl (by first | exact Or.inl rfl | exact Or.inr rfl) (pe_op op_mod (pe_callTy call_int1 (by rfl) T.m_int (by decide +kernel) (pa_cons (pe_ix (ixA (K := K) rfl) (pv 0) pe_int (fun _ _ => rfl)) pa_nil)) (pv 1))) (pss_cons (ps_asg (pe_op op_fdivW (pe_ix (ixA (K := K) rfl) (pv 0) pe_int (fun _ _ => rfl)) (pv 1)) (pg_sub (pv 0) pe_int set_list)) (pss_one (ps_ret (pv 4))))) pss_nil) (pss_cons (ps_asg (pe_op (opAdd (K := K) rfl) (pe_ix (ixA (K := K) rfl) (pv 0) pe_int (fun _ _ => rfl)) pe_int) (pg_sub (pv 0) pe_int set_list)) (pss_cons (ps_set (i := 2) sc__law_roll.nd rfl (by first | exact Or.inl rfl | exact Or.inr rfl) (pe_op op_mod (pe_callTy call_int1 (by rfl) T.m_int (by decide +kernel) (pa_cons (pe_op (opAdd (K := K) rfl) (pe_ix (ixA (K := K) rfl) (pv 0) pe_int (fun _ _ => rfl)) (pe_op (opMul (K := K) rfl) pe_int (pe_ix (ixA (K := K) rfl) (pv 0) pe_int (fun _ _ => rfl)))) pa_nil)) pe_int)) (pss_cons (ps_set (i := 3) sc__law_roll.nd rfl (by first | exact Or.inl rfl | exact Or.inr rfl) (pe_op (opAdd (K := K) rfl) (pe_op (opMul (K := K) rfl) (pe_op op_mod (pe_callTy call_int1 (by rfl) T.m_int (by decide +kernel) (pa_cons (pe_op (opMul (K := K) rfl) (pv 2) (pv 2)) pa_nil)) pe_int) (pv 2)) (pe_op (opMul (K := K) rfl) pe_int (pe_ix (ixA (K := K) rfl) (pv 0) pe_int (fun _ _ => rfl))))) (pss_cons (ps_set (i := 3) sc__law_roll.nd rfl (by first | exact Or.inl rfl | exact Or.inr rfl) (pe_op op_mod (pe_callTy call_int1 (by rfl) T.m_int (by decide +kernel) (pa_cons (pv 3) pa_nil)) pe_int)) (pss_one (ps_ret (pe_op op_mod (pe_callTy call_int1 (by rfl) T.m_int (by decide +kernel) (pa_cons (pe_op op_fdivW (pv 3) pe_int) pa_nil)) (pv 1))))))))), ?_⟩)), b, m, F.kp, lk_of F⟩
  · obtain ⟨d, n, x, y, z, rfl, _⟩ := h; rfl
  · obtain ⟨d, n, x, y, z, rfl, hd, h0, h1, k⟩ := h
    refine ⟨_, rfl, .inl ⟨d, _, _, _, rfl, rfl, .inl (.inl hd), rfl, _, _, rfl, rfl, _, rfl, ifb (fun h2 => ?_) fun h2 => ?_⟩⟩
    · refine ⟨_, rfl, .inl ⟨d, _, _, _, rfl, rfl, .inl (.inl hd), rfl, .inl ⟨_, rfl, _, rfl, _, _, rfl, rfl, h0, ?_⟩⟩⟩
      refine ⟨_, rfl, .inl ⟨d, _, _, _, rfl, rfl, .inl (.inl hd), rfl, _, rfl, _, _, rfl, rfl, divw h0 h1, _, rfl, d, _, _, _, rfl, rfl, hd, rfl, ?_⟩⟩
      exact ⟨_, rfl, k _ _ y z (Int.emod_nonneg _ (by omega)) (Int.emod_lt_of_pos _ h0)⟩
    · refine ⟨_, rfl, .inl ⟨d, _, _, _, rfl, rfl, .inl (.inl hd), rfl, .inl ⟨_, _, rfl, rfl, _, rfl, d, _, _, _, rfl, rfl, hd, rfl, ?_⟩⟩⟩
      refine ⟨_, rfl, .inl ⟨d, _, _, _, rfl, rfl, .inl (.inl upd_same), rfl, _, rfl, .inl ⟨d, _, _, _, rfl, rfl, .inl (.inl upd_same), rfl, .inl ⟨_, _, rfl, rfl, .inl ⟨by decide, by decide⟩, .inl ⟨_, _, rfl, rfl, .inl ⟨_, rfl, _, _, rfl, rfl, (by show (0 : Int) < _; decide), ?_⟩⟩⟩⟩⟩⟩
      refine ⟨_, rfl, _, rfl, .inl ⟨_, _, rfl, rfl, modm (by decide) (by decide), .inl ⟨_, rfl, _, _, rfl, rfl, (by show (0 : Int) < _; decide), _, rfl, .inl ⟨_, _, rfl, rfl, modm (by decide) (by decide), _, rfl, .inl ⟨d, _, _, _, rfl, rfl, .inl (.inl upd_same), rfl, .inl ⟨_, _, rfl, rfl, .inl ⟨by decide, by decide⟩, .inl ⟨_, _, rfl, rfl, ?_⟩⟩⟩⟩⟩⟩⟩
      refine ⟨_, rfl, .inl ⟨_, rfl, _, _, rfl, rfl, (by show (0 : Int) < _; decide), ?_⟩⟩
      exact ⟨_, rfl, _, _, rfl, rfl, divw (by decide) (by decide), .inl ⟨_, rfl, _, rfl, _, _, rfl, rfl, h0, k _ x y _ (Int.emod_nonneg _ (by omega)) (Int.emod_lt_of_pos _ h0)⟩⟩
theorem gf__law_dice (T : Tx P K mg ea) : Gf P w K mg base "_law_dice" 1 ["_law_script", "_law_at"] PreDice := by
  obtain ⟨f, fd, F, b, m⟩ := T.D__law_dice
  refine ⟨f, fd, dice_hide (F.ok sc__law_dice (fun vs H Q E h => ?_) (fun cdv A outer s H vs Q E hr h => ⟨_, (pss_cons (ps_set (i := 2) sc__law_dice.nd rfl (by first | exact Or.inl rfl | exact Or.inr rfl) (pe_ifExp (pt_cmpR op_lt (pv 1) (pe_callB (callLen (K := K) rfl) (by rfl) T.m_len (by decide +kernel) (pa_cons (pv 0) pa_nil)) (nomark _)) (pe_ix (ixA (K := K) rfl) (pv 0) (pv 1) (fun _ _ => rfl)) (pe_op (opAdd (K := K) rfl) (pe_op (opMul (K := K) rfl) pe_int (pv 1)) pe_int))) (pss_cons (ps_set (i := 3) sc__law_dice.nd rfl (by first | exact Or.inl rfl | exact Or.inr rfl) (pe_op op_mod (pe_callTy call_int1 (by rfl) T.m_int (by decide +kernel) (pa_cons (pe_callB call_abs (by rfl) T.m_abs (by decide +kernel) (pa_cons (pv 2) pa_nil)) pa_nil)) (pe_op op_powW (pe_op op_powW pe_int pe_int) pe_int))) (pss_cons (ps_set (i := 4) sc__law_dice.nd rfl (by first | exact Or.inl rfl | exact Or.inr rfl) (pe_op (opAdd (K := K) rfl) (pe_op (opAdd (K := K) rfl) (pe_op (opAdd (K := K) rfl) (pe_op (opMul (K := K) rfl) (pe_op op_mod (pe_callTy call_int1 (by rfl) T.m_int (by decide +kernel) (pa_cons (pv 3) pa_nil)) pe_int) pe_int) (pe_op (opMul (K := K) rfl) pe_int (pv 1))) (pe_op (opMul (K := K) rfl) pe_int (pe_callTy call_int1 (by rfl) T.m_int (by decide +kernel) (pa_cons (pe_cmpR op_lt (pv 2) pe_int (nomark _)) pa_nil)))) pe_int)) (pss_one (ps_ret (pe_lst (pa_cons (pe_callB (call_max2 rfl) (by rfl) T.m_max (by decide +kernel) (pa_cons pe_int (pa_cons (pe_op op_sub (pv 3) (pe_op op_powW pe_int pe_int)) pa_nil))) (pa_cons (pe_op op_mod (pe_callTy call_int1 (by rfl) T.m_int (by decide +kernel) (pa_cons (pv 4) pa_nil)) pe_int) (pa_cons pe_int pa_nil))))))))), ?_⟩)), b, m, F.kp, lk_of F⟩
  · obtain ⟨a, ns, i, rfl, _⟩ := h; rfl
  · obtain ⟨a, ns, i, rfl, hs, k⟩ := h
    have d0 : ∀ {ns : List Int}, Dats K H (ns.map .int) (ns.map V.int) := fun {ns} => by
      induction ns with
      | nil => rfl
      | cons n ns ih => exact ⟨.int n, _, rfl, rfl, ih⟩
    have sv : Sv K H (L2.start ["_law_script", "_law_at", "_law_cell", "_law_great", "_law_mixed"] [V.ref a, V.int i]) (startS 5 [.sq (ns.map .int), .int i]) :=
      (sl_start (N := ["_law_script", "_law_at", "_law_cell", "_law_great", "_law_mixed"]) (Same.refl H) (show Dats K H [.sq (ns.map .int), .int i] [.ref a, .int i] from ⟨_, _, rfl, ⟨a, _, rfl, hs, d0⟩, _, _, rfl, rfl, rfl⟩)).sv
    refine st_asg_raw (R := fun d => ∃ j, d = .int j) ?_ (Same.refl H) sv fun v1 c1 G1 H1 g1 e1 ⟨j1, q1⟩ => ?_
    · repeat walk_at "nv"
      refine ifb (fun h1 => ?_) fun h1 => ?_
      · repeat walk_at "nv"
        have hi : i < ns.length := by have := of_decide_eq_true h1; simp at this; exact this
        exact rd_ix_sq (d := .int ns[i]) (atI_nat (by simp [hi])) ⟨_, rfl⟩
      · repeat walk_at "nv"
        refine rd_mul_i (.inl ⟨by decide, by decide⟩) ?_
        repeat walk_at "nv"
        exact ⟨_, rfl⟩
    subst q1
    have sv1 := (sv.up g1.kn).set (j := 2) e1
    refine st_asg_raw (R := fun d => ∃ j, d = .int j) ?_ g1.ink sv1 fun v2 c2 G2 H2 g2 e2 ⟨j2, q2⟩ => ?_
    · repeat walk_at "nv"
      refine rd_I ⟨by decide, by decide +kernel⟩ ?_
      repeat walk_at "nv"
      refine rd_I ⟨by decide, by decide +kernel⟩ ?_
      exact rd_I (Int.pow_pos (Int.pow_pos (by decide))) ⟨_, rfl⟩
    subst q2
    have sv2 := (sv1.up g2.kn).set (j := 3) e2
    refine st_asg_raw (R := fun d => ∃ j, d = .int j) ?_ g2.ink sv2 fun v3 c3 G3 H3 g3 e3 ⟨j3, q3⟩ => ?_
    · repeat walk_at "nv"
      refine rd_I (by show (0 : Int) < _; decide) ?_
      repeat walk_at "nv"
      refine rd_mul_i (modm (by decide) (by decide)) ?_
      repeat walk_at "nv"
      refine rd_mul_i (.inl ⟨by decide, by decide⟩) ?_
      repeat walk_at "nv"
      refine rd_mul_i (.inl ⟨by decide, by decide⟩) ?_
      repeat walk_at "nv"
      exact ⟨_, rfl⟩
    subst q3
    have sv3 := (sv2.up g3.kn).set (j := 4) e3
    refine ret_new_raw (R := fun ds => ∃ x y z, ds = [.int x, .int y, .int z]) ?_ g3.ink sv3 fun vs ds G4 H4 g4 e4 ⟨x, y, z, q4⟩ => ?_
    · repeat walk_at "nv"
      refine rd_I ⟨by decide, by decide +kernel⟩ ?_
      repeat walk_at "nv"
      refine rd_I (by show (0 : Int) < _; decide) ?_
      repeat walk_at "nv"
      exact ⟨_, _, _, rfl⟩
    subst q4
    obtain ⟨_, _, rfl, z1, _, _, rfl, z2, _, _, rfl, z3, z4⟩ := e4
    cases z1; cases z2; cases z3; cases z4
    refine ⟨(by show 3 ≤ 1000; decide), fun p hp => k p x y z _ ?_ ?_ upd_same⟩
    · exact ((g1.trans (g2.trans (g3.trans g4))).up).trans (Ex.new hp)
    · exact (g1.trans (g2.trans (g3.trans g4))).up.free hp
theorem gf__law_one_of (T : Tx P K mg ea) (g__law_roll : Gf P w K mg base "_law_roll" 1 ["_law_dice_here", "_law_total"] PreRoll) :
    Gf P w K mg base "_law_one_of" 2 ["_law_dice_here", "_law_items"] PreOneOf := by
  refine gf_of T.D__law_one_of sc__law_one_of (fun ds R ⟨it, l, h, _⟩ => by rw [h]; rfl) fun f cdv A outer s H E hr => ⟨_, (pss_one (ps_ret (pe_ix (ixA (K := K) rfl) (pv 1) (pe_gf g__law_roll ⟨rfl, rfl, rfl, rfl, rfl⟩ (hr.mono (by decide)) rfl (pa_cons (pv 0) (pa_cons (pe_callB (callLen (K := K) rfl) (by rfl) T.m_len (by decide +kernel) (pa_cons (pv 1) pa_nil)) pa_nil))) (fun _ _ => rfl)))), fun ds R ⟨it, l, h, hi, hn, hl, hR⟩ => ?_⟩
  subst h
  repeat walk_at "nv"
  refine cd_len_items hi hl ?_
  repeat walk_at "nv"
  have h0 : 0 < l.length := List.length_pos_iff.mpr hn
  refine ⟨_, rfl, by omega, by omega, fun r h1 h2 => ?_⟩
  obtain ⟨i, rfl⟩ : ∃ i : Nat, r = i := ⟨r.toNat, by omega⟩
  have hi' : i < l.length := by omega
  exact rd_ix_items hi hl (List.getElem?_eq_getElem hi') (hR _ (List.getElem_mem hi'))
end
end Nv

set_option Elab.async false
set_option linter.all false
set_option maxRecDepth 100000
set_option maxHeartbeats 4000000
namespace Nv
open PySem PySem.Spec PyProof.Rows L2
open SX (S)
local macro_rules | `(tactic| walk_at "nv1") => `(tactic| first
  | ((with_reducible apply ed_var); exact rfl)
  | (with_reducible refine sd_seq ?_)
  | (with_reducible refine sd_ret ?_)
  | (with_reducible refine sd_if ?_)
  | (with_reducible refine sd_asg ?_)
  | (with_reducible refine sd_next ?_)
  | (with_reducible refine sd_unl ?_)
  | (with_reducible refine ed_makeR ?_)
  | (with_reducible refine ed_methR ?_)
  | (with_reducible refine ed_propR ?_)
  | (with_reducible refine ed_cmeth ?_)
  | (with_reducible refine ed_fld ?_)
  | (with_reducible refine ed_lstRg ?_)
  | (with_reducible refine ed_tupRg ?_)
  | (with_reducible refine ea_star ?_)
  | (with_reducible refine ed_op ?_)
  | (with_reducible refine ed_and ?_)
  | (with_reducible refine ed_or ?_)
  | (with_reducible refine ed_not ?_)
  | (with_reducible refine ed_if ?_)
  | (with_reducible refine ed_cb ?_)
  | (with_reducible refine ed_call ?_)
  | (with_reducible refine ed_lst ?_)
  | (with_reducible refine ed_tup ?_)
  | (with_reducible refine ed_un ?_)
  | (with_reducible refine ed_sl ?_)
  | (with_reducible refine ea_cons ?_)
  | (with_reducible refine ea_nil ?_)
  | (with_reducible refine eo_none ?_)
  | (with_reducible refine eo_some ?_)
  | (with_reducible refine et_test ?_)
  | (with_reducible refine et_B ?_)
  | (with_reducible refine et_and ?_)
  | (with_reducible refine et_or ?_)
  | (with_reducible refine et_not ?_)
  | (with_reducible refine et_yes ?_)
  | (with_reducible refine ed_int ?_)
  | (with_reducible refine ed_str ?_)
  | (with_reducible refine ed_bl ?_)
  | (with_reducible refine ed_non ?_)
  | (with_reducible refine ed_ty ?_)
  | (with_reducible refine ed_obj ?_))
local macro_rules | `(tactic| walk_at "nv2") => `(tactic| first
  | (with_reducible refine rd_add_i ?_)
  | (with_reducible refine rd_I0i ?_)
  | (with_reducible refine rd_I0b ?_)
  | (with_reducible refine rd_eq_i ?_)
  | (with_reducible refine rd_ne_i ?_)
  | (with_reducible refine rd_eq_s ?_)
  | (with_reducible refine rd_ne_s ?_)
  | (with_reducible refine rd_notB ?_)
  | (with_reducible refine cd_tup_l ?_)
  | (with_reducible refine cd_tup_t ?_)
  | (with_reducible refine cd_lst_l ?_)
  | (with_reducible refine cd_lst_t ?_)
  | (with_reducible refine rd_in_l ?_)
  | (with_reducible refine rd_in_t ?_)
  | (with_reducible refine rd_ni_t ?_)
  | (with_reducible refine rd_eq_b ?_)
  | (with_reducible refine rd_ne_b ?_)
  | (with_reducible refine rd_isB ?_)
  | (with_reducible refine rd_isN ?_)
  | (with_reducible refine rd_notN ?_)
  | (with_reducible refine rd_in_sign ?_)
  | (with_reducible refine cd_len_l ?_)
  | (with_reducible refine cd_len_sq ?_)
  | (with_reducible refine cd_len_t ?_)
  | (with_reducible refine cd_int_i ?_)
  | (with_reducible refine cd_int_b ?_)
  | (with_reducible refine cd_abs ?_)
  | (with_reducible refine cd_max ?_)
  | (with_reducible refine cd_min ?_)
  | (with_reducible refine cd_str_s ?_)
  | (with_reducible refine cd_repr_b ?_)
  | (with_reducible refine ud_neg ?_)
  | ((with_reducible refine And.intro ?_ ?_); exact Nat.le_of_ble_eq_true rfl) | (with_reducible refine ed_dnew ?_) | (with_reducible refine ed_disp1 ?_) | ((with_reducible refine rd_mul_l ?_ ?_ ?_ ?_); decide; decide; exact Nat.le_of_ble_eq_true rfl) | ((with_reducible refine rd_add_l ?_ ?_); exact Nat.le_of_ble_eq_true rfl)
  | (with_reducible refine ⟨_, rfl, ?_⟩) | (with_reducible refine ⟨_, Or.inl rfl, ?_⟩))
local macro_rules | `(tactic| walk_at "nv") => `(tactic| first | walk_at "nv1" | walk_at "nv2")
local macro_rules | `(tactic| walk_at "cx") => `(tactic| dsimp only [cxOf, Cx.nox, Cx.wish, Cx.blk, List.length_cons, List.length_nil])
section
variable {P : Program} {w : World} {K : PySem.W.Frag} {mg : Str → Option Value} {base : Heap} {ea : EA}
/-- the classes that are asked for, in their order -/
abbrev askV (ea : EA) : List Value := [.ref ea.C_LetterError, .ref ea.C_InvalidCutter, .ref ea.C_InvalidCompany, .ref ea.C_InvalidBundle, .ref ea.C_InvalidRule, .ref ea.C_InvalidLot, .ref ea.C_InvalidState, .ref ea.C_InvalidLetter, .ref ea.C_InvalidPledge, .ref ea.C_InvalidOperation, .ref ea.C_ParseError, .ref ea.C_UnknownName, .ref ea.C_InvalidNumber, .ref ea.C_TooMany, .ref ea.C_NothingToUndo, .ref ea.C_Broken, .type "ValueError", .type "KeyError", .type "RuntimeError", .type "OverflowError", .type "IndexError", .type "ArithmeticError", .type "LookupError"]
def isT : Dt → Bool
  | .tup [_, .bl b] => b
  | _ => false
def fstD : Dt → Dt
  | .tup (x :: _) => x
  | _ => .non
def told (bs : List Bool) : List Dt := ((enumL (bs.map .bl)).filter isT).map fstD
theorem pairL_gd {K : PySem.W.Frag} {ss : List Sd} {i j : Nat} {l : List Dt} (hij : i ≠ j) : ∀ d ∈ enumL l, GD K (gTup K 2 (gCons (gName i) (gCons (gName j) gNil))) [i, j] ss d (pairS i j ss d) := fun d hd => by
  obtain ⟨k, hk, rfl⟩ := List.mem_mapIdx.mp hd
  exact gd_pair hij
def PreKinds (K : PySem.W.Frag) (ea : EA) : List Dt → (Dt → Prop) → Prop := fun ds R => ∃ (C : Addr) (l : List (Str × Dt)) (b0 b1 b2 b3 b4 b5 b6 b7 b8 b9 b10 b11 b12 b13 b14 b15 b16 b17 b18 b19 b20 b21 b22 : Bool), ds = [.xv C l] ∧ ExcC K C ∧ kitL K (.ref C) ((askV ea).zip [b0, b1, b2, b3, b4, b5, b6, b7, b8, b9, b10, b11, b12, b13, b14, b15, b16, b17, b18, b19, b20, b21, b22]) ∧ R (.lst (told [b0, b1, b2, b3, b4, b5, b6, b7, b8, b9, b10, b11, b12, b13, b14, b15, b16, b17, b18, b19, b20, b21, b22]))
theorem gf__law_kinds_of (T : Tx P K mg ea) : Gf P w K mg base "_law_kinds_of" 1 ["_law_error"] (PreKinds K ea) := by
  refine gf_of T.D__law_kinds_of sc__law_kinds_of (fun ds R ⟨C, l, b0, b1, b2, b3, b4, b5, b6, b7, b8, b9, b10, b11, b12, b13, b14, b15, b16, b17, b18, b19, b20, b21, b22, h, _⟩ => by rw [h]; rfl) fun f cdv A outer s H E hr => ⟨_, (pss_cons (ps_set (i := 1) sc__law_kinds_of.nd rfl (by first | exact Or.inl rfl | exact Or.inr rfl) (pe_lst (pa_cons (pe_callB (callIsX (K := K) rfl) (by rfl) T.m_isinstance (by decide +kernel) (pa_cons (pv 0) (pa_cons (pe_cl rfl T.m_LetterError) pa_nil))) (pa_cons (pe_callB (callIsX (K := K) rfl) (by rfl) T.m_isinstance (by decide +kernel) (pa_cons (pv 0) (pa_cons (pe_cl rfl T.m_InvalidCutter) pa_nil))) (pa_cons (pe_callB (callIsX (K := K) rfl) (by rfl) T.m_isinstance (by decide +kernel) (pa_cons (pv 0) (pa_cons (pe_cl rfl T.m_InvalidCompany) pa_nil))) pa_nil))))) (pss_cons (ps_set (i := 1) sc__law_kinds_of.nd rfl (by first | exact Or.inl rfl | exact Or.inr rfl) (pe_op (opAdd (K := K) rfl) (pv 1) (pe_lst (pa_cons (pe_callB (callIsX (K := K) rfl) (by rfl) T.m_isinstance (by decide +kernel) (pa_cons (pv 0) (pa_cons (pe_cl rfl T.m_InvalidBundle) pa_nil))) (pa_cons (pe_callB (callIsX (K := K) rfl) (by rfl) T.m_isinstance (by decide +kernel) (pa_cons (pv 0) (pa_cons (pe_cl rfl T.m_InvalidRule) pa_nil))) (pa_cons (pe_callB (callIsX (K := K) rfl) (by rfl) T.m_isinstance (by decide +kernel) (pa_cons (pv 0) (pa_cons (pe_cl rfl T.m_InvalidLot) pa_nil))) pa_nil)))))) (pss_cons (ps_set (i := 1) sc__law_kinds_of.nd rfl (by first | exact Or.inl rfl | exact Or.inr rfl) (pe_op (opAdd (K := K) rfl) (pv 1) (pe_lst (pa_cons (pe_callB (callIsX (K := K) rfl) (by rfl) T.m_isinstance (by decide +kernel) (pa_cons (pv 0) (pa_cons (pe_cl rfl T.m_InvalidState) pa_nil))) (pa_cons (pe_callB (callIsX (K := K) rfl) (by rfl) T.m_isinstance (by decide +kernel) (pa_cons (pv 0) (pa_cons (pe_cl rfl T.m_InvalidLetter) pa_nil))) (pa_cons (pe_callB (callIsX (K := K) rfl) (by rfl) T.m_isinstance (by decide +kernel) (pa_cons (pv 0) (pa_cons (pe_cl rfl T.m_InvalidPledge) pa_nil))) pa_nil)))))) (pss_cons (ps_set (i := 1) sc__law_kinds_of.nd rfl (by first | exact Or.inl rfl | exact Or.inr rfl) (pe_op (opAdd (K := K) rfl) (pv 1) (pe_lst (pa_cons (pe_callB (callIsX (K := K) rfl) (by rfl) T.m_isinstance (by decide +kernel) (pa_cons (pv 0) (pa_cons (pe_cl rfl T.m_InvalidOperation) pa_nil))) (pa_cons (pe_callB (callIsX (K := K) rfl) (by rfl) T.m_isinstance (by decide +kernel) (pa_cons (pv 0) (pa_cons (pe_cl rfl T.m_ParseError) pa_nil))) (pa_cons (pe_callB (callIsX (K := K) rfl) (by rfl) T.m_isinstance (by decide +kernel) (pa_cons (pv 0) (pa_cons (pe_cl rfl T.m_UnknownName) pa_nil))) pa_nil)))))) (pss_cons (ps_set (i := 1) sc__law_kinds_of.nd rfl (by first | exact Or.inl rfl | exact Or.inr rfl) (pe_op (opAdd (K := K) rfl) (pv 1) (pe_lst (pa_cons (pe_callB (callIsX (K := K) rfl) (by rfl) T.m_isinstance (by decide +kernel) (pa_cons (pv 0) (pa_cons (pe_cl rfl T.m_InvalidNumber) pa_nil))) (pa_cons (pe_callB (callIsX (K := K) rfl) (by rfl) T.m_isinstance (by decide +kernel) (pa_cons (pv 0) (pa_cons (pe_cl rfl T.m_TooMany) pa_nil))) (pa_cons (pe_callB (callIsX (K := K) rfl) (by rfl) T.m_isinstance (by decide +kernel) (pa_cons (pv 0) (pa_cons (pe_cl rfl T.m_NothingToUndo) pa_nil))) pa_nil)))))) (pss_cons (ps_set (i := 1) sc__law_kinds_of.nd rfl (by first | exact Or.inl rfl | exact Or.inr rfl) (pe_op (opAdd (K := K) rfl) (pv 1) (pe_lst (pa_cons (pe_callB (callIsX (K := K) rfl) (by rfl) T.m_isinstance (by decide +kernel) (pa_cons (pv 0) (pa_cons (pe_cl rfl T.m_Broken) pa_nil))) (pa_cons (pe_callB (callIsX (K := K) rfl) (by rfl) T.m_isinstance (by decide +kernel) (pa_cons (pv 0) (pa_cons (pe_bty "ValueError" rfl T.m_ValueError (by decide +kernel)) pa_nil))) (pa_cons (pe_callB (callIsX (K := K) rfl) (by rfl) T.m_isinstance (by decide +kernel) (pa_cons (pv 0) (pa_cons (pe_bty "KeyError" rfl T.m_KeyError (by decide +kernel)) pa_nil))) pa_nil)))))) (pss_cons (ps_set (i := 1) sc__law_kinds_of.nd rfl (by first | exact Or.inl rfl | exact Or.inr rfl) (pe_op (opAdd (K := K) rfl) (pv 1) (pe_lst (pa_cons (pe_callB (callIsX (K := K) rfl) (by rfl) T.m_isinstance (by decide +kernel) (pa_cons (pv 0) (pa_cons (pe_bty "RuntimeError" rfl T.m_RuntimeError (by decide +kernel)) pa_nil))) (pa_cons (pe_callB (callIsX (K := K) rfl) (by rfl) T.m_isinstance (by decide +kernel) (pa_cons (pv 0) (pa_cons (pe_bty "OverflowError" rfl T.m_OverflowError (by decide +kernel)) pa_nil))) (pa_cons (pe_callB (callIsX (K := K) rfl) (by rfl) T.m_isinstance (by decide +kernel) (pa_cons (pv 0) (pa_cons (pe_bty "IndexError" rfl T.m_IndexError (by decide +kernel)) pa_nil))) pa_nil)))))) (pss_cons (ps_set (i := 1) sc__law_kinds_of.nd rfl (by first | exact Or.inl rfl | exact Or.inr rfl) (pe_op (opAdd (K := K) rfl) (pv 1) (pe_lst (pa_cons (pe_callB (callIsX (K := K) rfl) (by rfl) T.m_isinstance (by decide +kernel) (pa_cons (pv 0) (pa_cons (pe_bty "ArithmeticError" rfl T.m_ArithmeticError (by decide +kernel)) pa_nil))) (pa_cons (pe_callB (callIsX (K := K) rfl) (by rfl) T.m_isinstance (by decide +kernel) (pa_cons (pv 0) (pa_cons (pe_bty "LookupError" rfl T.m_LookupError (by decide +kernel)) pa_nil))) pa_nil))))) (pss_one (ps_ret (pe_lc (own := [("_law_at", 2), ("_law_told", 3)]) rfl sc__law_kinds_of.nd (pi_enum (by rfl) T.m_enumerate (pa_cons (pv 1) pa_nil)) (blkOk_by (own := [("_law_at", 2), ("_law_told", 3)]) (N := ["_law_error", "_law_rows", "_law_at", "_law_told"]) (sc := defScope s__law_kinds_of) (by decide +kernel)) (fun _ _ _ _ _ => (pgTup (K := K) (n := 2) rfl rfl (pgs_cons (pg_name (i := 2) sc__law_kinds_of.nd rfl (by first | exact Or.inl rfl | exact Or.inr rfl)) (pgs_cons (pg_name (i := 3) sc__law_kinds_of.nd rfl (by first | exact Or.inl rfl | exact Or.inr rfl)) pgs_nil)))) (fun _ _ _ _ _ => pts_one (pt_val (pv 3))) (fun _ _ _ _ _ => (pv 2))))))))))))), fun ds R ⟨C, l, b0, b1, b2, b3, b4, b5, b6, b7, b8, b9, b10, b11, b12, b13, b14, b15, b16, b17, b18, b19, b20, b21, b22, h, hE, hk, hR⟩ => ?_⟩
  subst h
  obtain ⟨k0, k1, k2, k3, k4, k5, k6, k7, k8, k9, k10, k11, k12, k13, k14, k15, k16, k17, k18, k19, k20, k21, k22, _⟩ := hk
  repeat walk_at "nv"
  refine cd_isX hE (.inl ⟨_, rfl, rfl⟩) k0 ?_
  repeat walk_at "nv"
  refine cd_isX hE (.inl ⟨_, rfl, rfl⟩) k1 ?_
  repeat walk_at "nv"
  refine cd_isX hE (.inl ⟨_, rfl, rfl⟩) k2 ?_
  repeat walk_at "nv"
  refine cd_isX hE (.inl ⟨_, rfl, rfl⟩) k3 ?_
  repeat walk_at "nv"
  refine cd_isX hE (.inl ⟨_, rfl, rfl⟩) k4 ?_
  repeat walk_at "nv"
  refine cd_isX hE (.inl ⟨_, rfl, rfl⟩) k5 ?_
  repeat walk_at "nv"
  refine cd_isX hE (.inl ⟨_, rfl, rfl⟩) k6 ?_
  repeat walk_at "nv"
  refine cd_isX hE (.inl ⟨_, rfl, rfl⟩) k7 ?_
  repeat walk_at "nv"
  refine cd_isX hE (.inl ⟨_, rfl, rfl⟩) k8 ?_
  repeat walk_at "nv"
  refine cd_isX hE (.inl ⟨_, rfl, rfl⟩) k9 ?_
  repeat walk_at "nv"
  refine cd_isX hE (.inl ⟨_, rfl, rfl⟩) k10 ?_
  repeat walk_at "nv"
  refine cd_isX hE (.inl ⟨_, rfl, rfl⟩) k11 ?_
  repeat walk_at "nv"
  refine cd_isX hE (.inl ⟨_, rfl, rfl⟩) k12 ?_
  repeat walk_at "nv"
  refine cd_isX hE (.inl ⟨_, rfl, rfl⟩) k13 ?_
  repeat walk_at "nv"
  refine cd_isX hE (.inl ⟨_, rfl, rfl⟩) k14 ?_
  repeat walk_at "nv"
  refine cd_isX hE (.inl ⟨_, rfl, rfl⟩) k15 ?_
  repeat walk_at "nv"
  refine cd_isX hE (.inr ⟨_, rfl, rfl⟩) k16 ?_
  repeat walk_at "nv"
  refine cd_isX hE (.inr ⟨_, rfl, rfl⟩) k17 ?_
  repeat walk_at "nv"
  refine cd_isX hE (.inr ⟨_, rfl, rfl⟩) k18 ?_
  repeat walk_at "nv"
  refine cd_isX hE (.inr ⟨_, rfl, rfl⟩) k19 ?_
  repeat walk_at "nv"
  refine cd_isX hE (.inr ⟨_, rfl, rfl⟩) k20 ?_
  repeat walk_at "nv"
  refine cd_isX hE (.inr ⟨_, rfl, rfl⟩) k21 ?_
  repeat walk_at "nv"
  refine cd_isX hE (.inr ⟨_, rfl, rfl⟩) k22 ?_
  repeat walk_at "nv"
  refine ed_lc_filterG ?_
  refine ei_enum ?_
  repeat walk_at "nv"
  refine ⟨_, pairL_gd (by decide), by simp [enumL], isT, fstD, fun x hx => ?_, fun x hx _ => ?_, hR⟩
  · have hx : x ∈ enumL (([b0, b1, b2, b3, b4, b5, b6, b7, b8, b9, b10, b11, b12, b13, b14, b15, b16, b17, b18, b19, b20, b21, b22] : List Bool).map Dt.bl) := hx
    obtain ⟨k, hk, rfl⟩ := List.mem_mapIdx.mp hx
    simp only [List.getElem_map]
    repeat walk_at "nv"
    rfl
  · have hx : x ∈ enumL (([b0, b1, b2, b3, b4, b5, b6, b7, b8, b9, b10, b11, b12, b13, b14, b15, b16, b17, b18, b19, b20, b21, b22] : List Bool).map Dt.bl) := hx
    obtain ⟨k, hk, rfl⟩ := List.mem_mapIdx.mp hx
    repeat walk_at "nv"
    rfl
def valD (d : Dt) : Prop := ∃ p, toPq d = some p ∧ fitD p = true ∧ p.depth ≤ 5 ∧ szD p ≤ 1000
def PreRight : List Dt → (Dt → Prop) → Prop := fun ds R => ∃ v o, ds = [v, o] ∧ valD v ∧ valD o ∧ R (.bl true)
theorem gg__law_right (T : Tx P K mg ea) (g__law_kinds_of : Gf P w K mg base "_law_kinds_of" 1 ["_law_error"] (PreKinds K ea)) : Gg P w K mg base "_law_right" 3 ["_law_value", "_law_other"] PreRight := by
  refine gg_of T.D__law_right sc__law_right (fun ds R ⟨v, o, h, _⟩ => by rw [h]; rfl) fun f cdv A outer s H E hA hr => ⟨_, (pss_cons (ps_par3 (i := 4) (j := 5) (l := 6) rfl sc__law_right.nd rfl rfl rfl (by decide) (by decide) (by decide) rfl rfl rfl (pa_cons (pe_YF (K := K) ⟨rfl, rfl, rfl⟩ hA T.y_ParseError yst_ParseError (hr.mono (by decide)) (by rfl) (pa_cons (pv 0) pa_nil)) (pa_cons (pe_Y1 (K := K) ⟨rfl, rfl, rfl⟩ T.y_UnknownName yst_UnknownName (hr.mono (by decide)) (by rfl) (pa_cons (pv 0) pa_nil)) (pa_cons (pe_Y1 (K := K) ⟨rfl, rfl, rfl⟩ T.y_InvalidNumber yst_InvalidNumber (hr.mono (by decide)) (by rfl) (pa_cons (pv 0) pa_nil)) pa_nil))) (by rfl)) (pss_cons (ps_par3 (i := 7) (j := 8) (l := 9) rfl sc__law_right.nd rfl rfl rfl (by decide) (by decide) (by decide) rfl rfl rfl (pa_cons (pe_Y1 (K := K) ⟨rfl, rfl, rfl⟩ T.y_TooMany yst_TooMany (hr.mono (by decide)) (by rfl) (pa_cons (pv 0) pa_nil)) (pa_cons (pe_Y1 (K := K) ⟨rfl, rfl, rfl⟩ T.y_NothingToUndo yst_NothingToUndo (hr.mono (by decide)) (by rfl) (pa_cons (pv 0) pa_nil)) (pa_cons (pe_Y2 (K := K) ⟨rfl, rfl, rfl⟩ T.y_Broken yst_Broken (hr.mono (by decide)) (by rfl) (pa_cons (pv 0) (pa_cons (pv 1) pa_nil))) pa_nil))) (by rfl)) (pss_cons (ps_set (i := 2) sc__law_right.nd rfl (by first | exact Or.inl rfl | exact Or.inr rfl) (pe_lst (pa_cons (pe_xvf T.y_ParseError.xf T.n_ParseError_line (pv 4)) (pa_cons (pe_xvf T.y_UnknownName.xf T.n_UnknownName_name (pv 5)) (pa_cons (pe_xvf T.y_InvalidNumber.xf T.n_InvalidNumber_value (pv 6)) (pa_cons (pe_xvf T.y_TooMany.xf T.n_TooMany_limit (pv 7)) (pa_cons (pe_xvf T.y_NothingToUndo.xf T.n_NothingToUndo_many (pv 8)) (pa_cons (pe_xvf T.y_Broken.xf T.n_Broken_name (pv 9)) (pa_cons (pe_xvf T.y_Broken.xf T.n_Broken_reason (pv 9)) pa_nil))))))))) (pss_cons (ps_if (pt_cmpR (opNe (K := K) rfl hr.units) (pe_callB (callReprQ (K := K) rfl hA hr.units) (by rfl) T.m_repr (by decide +kernel) (pa_cons (pv 2) pa_nil)) (pe_callB (callReprQ (K := K) rfl hA hr.units) (by rfl) T.m_repr (by decide +kernel) (pa_cons (pe_op (opAdd (K := K) rfl) (pe_op (opMul (K := K) rfl) (pe_lst (pa_cons (pv 0) pa_nil)) pe_int) (pe_lst (pa_cons (pv 1) pa_nil))) pa_nil)) (nomark _)) (pss_one (ps_ret pe_bl)) pss_nil) (pss_cons (ps_setLc (i := 3) (own := [("_law_error", 10)]) (g := gName 10) rfl sc__law_right.nd rfl rfl (sw_true rfl rfl rfl (by decide +kernel)) (piTup (K := K) rfl (pe_tup (pa_cons (pv 4) (pa_cons (pv 5) (pa_cons (pv 6) (pa_cons (pv 7) (pa_cons (pv 8) (pa_cons (pv 9) pa_nil)))))))) (blkOk_by (own := [("_law_error", 10)]) (N := ["_law_value", "_law_other", "_law_kept", "_law_found", "_law_line", "_law_name", "_law_number", "_law_many", "_law_none", "_law_broken", "_law_error"]) (sc := defScope s__law_right) (by decide +kernel)) (fun _ _ _ _ _ => (pg_name (i := 10) sc__law_right.nd rfl (by first | exact Or.inl rfl | exact Or.inr rfl))) (fun _ _ _ _ _ => pts_nil) (fun _ _ _ _ _ => (pe_gf g__law_kinds_of ⟨rfl, rfl, rfl, rfl, rfl⟩ (hr.mono (by decide)) rfl (pa_cons (pv 10) pa_nil)))) (pss_one (ps_ret (pe_cmpR (opEq (K := K) rfl hr.units) (pv 3) (pe_lst (pa_cons (pe_lst (pa_cons pe_int (pa_cons pe_int (pa_cons pe_int pa_nil)))) (pa_cons (pe_lst (pa_cons pe_int (pa_cons pe_int (pa_cons pe_int pa_nil)))) (pa_cons (pe_lst (pa_cons pe_int (pa_cons pe_int pa_nil))) (pa_cons (pe_lst (pa_cons pe_int (pa_cons pe_int (pa_cons pe_int pa_nil)))) (pa_cons (pe_lst (pa_cons pe_int (pa_cons pe_int (pa_cons pe_int pa_nil)))) (pa_cons (pe_lst (pa_cons pe_int (pa_cons pe_int pa_nil))) pa_nil))))))) (nomark _))))))))), fun ds R ⟨v, o, h, hv, ho, hR⟩ => ?_⟩
  subst h
  obtain ⟨pv, v1, v2, v3, v4⟩ := hv
  obtain ⟨po, o1, o2, o3, o4⟩ := ho
  refine sd_seq (sd_par3 ?_)
  repeat walk_at "nv"
  refine ed_YF ?_
  repeat walk_at "nv"
  refine ⟨_, pv, rfl, v1, v2, by omega, by omega, ?_⟩
  repeat walk_at "nv"
  refine ed_Y1 ?_
  repeat walk_at "nv"
  refine ed_Y1 ?_
  repeat walk_at "nv"
  refine ⟨_, _, _, rfl, ?_⟩
  refine sd_seq (sd_par3 ?_)
  repeat walk_at "nv"
  refine ed_Y1 ?_
  repeat walk_at "nv"
  refine ed_Y1 ?_
  repeat walk_at "nv"
  refine ed_Y2 ?_
  repeat walk_at "nv"
  refine ⟨_, _, rfl, ?_⟩
  repeat walk_at "nv"
  refine ⟨_, _, _, rfl, ?_⟩
  repeat walk_at "nv"
  refine ed_xvf ?_
  repeat walk_at "nv"
  refine ⟨_, _, rfl, rfl, ?_⟩
  repeat walk_at "nv"
  refine ed_xvf ?_
  repeat walk_at "nv"
  refine ⟨_, _, rfl, rfl, ?_⟩
  repeat walk_at "nv"
  refine ed_xvf ?_
  repeat walk_at "nv"
  refine ⟨_, _, rfl, rfl, ?_⟩
  repeat walk_at "nv"
  refine ed_xvf ?_
  repeat walk_at "nv"
  refine ⟨_, _, rfl, rfl, ?_⟩
  repeat walk_at "nv"
  refine ed_xvf ?_
  repeat walk_at "nv"
  refine ⟨_, _, rfl, rfl, ?_⟩
  repeat walk_at "nv"
  refine ed_xvf ?_
  repeat walk_at "nv"
  refine ⟨_, _, rfl, rfl, ?_⟩
  repeat walk_at "nv"
  refine ed_xvf ?_
  repeat walk_at "nv"
  refine ⟨_, _, rfl, rfl, ?_⟩
  repeat walk_at "nv"
  have q1 : toPq (.lst [v, v, v, v, v, v, o]) = some (.list [pv, pv, pv, pv, pv, pv, po]) := by simp [toPq, toPqs, v1, o1]
  have q2 : fitD (.list [pv, pv, pv, pv, pv, pv, po]) = true := by simp [fitD, fitAll, v2, o2]
  have q3 : (PyData.list [pv, pv, pv, pv, pv, pv, po]).depth ≤ 60 := by simp [PyData.depth, PyData.depthAll]; omega
  have q4 : szD (.list [pv, pv, pv, pv, pv, pv, po]) ≤ 1000000 := by simp [szD, szAll]; omega
  refine cd_reprQ q1 q2 q3 q4 ?_
  repeat walk_at "nv"
  refine cd_reprQ (d := .lst [v, v, v, v, v, v, o]) q1 q2 q3 q4 ?_
  repeat walk_at "nv"
  refine ifF (by simp) ?_
  repeat walk_at "nv"
  refine ed_lc (fun d => gd_name) ?_
  refine ei_tup ?_
  repeat walk_at "nv"
  refine ⟨fun i acc => acc = ([.lst [.int 0, .int 10, .int 16], .lst [.int 11, .int 17, .int 22], .lst [.int 12, .int 18], .lst [.int 13, .int 19, .int 21], .lst [.int 14, .int 20, .int 22], .lst [.int 15, .int 21]] : List Dt).take i, rfl, by show 6 < 1000000; decide, fun i x acc hx ha => ?_, fun acc ha => ?_⟩
  · subst ha
    match i, hx with
    | 0, hx =>
      cases hx
      walk_at "nv"
      rw [if_pos rfl]
      repeat walk_at "nv"
      exact ⟨_, _, _, _, _, _, _, _, _, _, _, _, _, _, _, _, _, _, _, _, _, _, _, _, _, rfl, T.ev_ParseError, T.iv_ParseError, rfl⟩
    | 1, hx =>
      cases hx
      walk_at "nv"
      rw [if_pos rfl]
      repeat walk_at "nv"
      exact ⟨_, _, _, _, _, _, _, _, _, _, _, _, _, _, _, _, _, _, _, _, _, _, _, _, _, rfl, T.ev_UnknownName, T.iv_UnknownName, rfl⟩
    | 2, hx =>
      cases hx
      walk_at "nv"
      rw [if_pos rfl]
      repeat walk_at "nv"
      exact ⟨_, _, _, _, _, _, _, _, _, _, _, _, _, _, _, _, _, _, _, _, _, _, _, _, _, rfl, T.ev_InvalidNumber, T.iv_InvalidNumber, rfl⟩
    | 3, hx =>
      cases hx
      walk_at "nv"
      rw [if_pos rfl]
      repeat walk_at "nv"
      exact ⟨_, _, _, _, _, _, _, _, _, _, _, _, _, _, _, _, _, _, _, _, _, _, _, _, _, rfl, T.ev_TooMany, T.iv_TooMany, rfl⟩
    | 4, hx =>
      cases hx
      walk_at "nv"
      rw [if_pos rfl]
      repeat walk_at "nv"
      exact ⟨_, _, _, _, _, _, _, _, _, _, _, _, _, _, _, _, _, _, _, _, _, _, _, _, _, rfl, T.ev_NothingToUndo, T.iv_NothingToUndo, rfl⟩
    | 5, hx =>
      cases hx
      walk_at "nv"
      rw [if_pos rfl]
      repeat walk_at "nv"
      exact ⟨_, _, _, _, _, _, _, _, _, _, _, _, _, _, _, _, _, _, _, _, _, _, _, _, _, rfl, T.ev_Broken, T.iv_Broken, rfl⟩
    | n + 6, hx => cases hx
  have ha : acc = [.lst [.int 0, .int 10, .int 16], .lst [.int 11, .int 17, .int 22], .lst [.int 12, .int 18], .lst [.int 13, .int 19, .int 21], .lst [.int 14, .int 20, .int 22], .lst [.int 15, .int 21]] := ha
  subst ha
  repeat walk_at "nv"
  refine rd_eq_d (p := .list [.list [.int 0, .int 10, .int 16], .list [.int 11, .int 17, .int 22], .list [.int 12, .int 18], .list [.int 13, .int 19, .int 21], .list [.int 14, .int 20, .int 22], .list [.int 15, .int 21]]) (q := .list [.list [.int 0, .int 10, .int 16], .list [.int 11, .int 17, .int 22], .list [.int 12, .int 18], .list [.int 13, .int 19, .int 21], .list [.int 14, .int 20, .int 22], .list [.int 15, .int 21]]) rfl rfl (by decide +kernel) (by decide +kernel) ?_
  exact hR
end
end Nv

set_option Elab.async false
set_option linter.all false
set_option maxRecDepth 100000
set_option maxHeartbeats 4000000
namespace Nv
open PySem PySem.Spec PyProof.Rows L2
open SX (S)
local macro_rules | `(tactic| walk_at "nv1") => `(tactic| first
  | ((with_reducible apply ed_var); exact rfl)
  | (with_reducible refine sd_seq ?_)
  | (with_reducible refine sd_ret ?_)
  | (with_reducible refine sd_if ?_)
  | (with_reducible refine sd_asg ?_)
  | (with_reducible refine sd_next ?_)
  | (with_reducible refine sd_unl ?_)
  | (with_reducible refine ed_makeR ?_)
  | (with_reducible refine ed_methR ?_)
  | (with_reducible refine ed_propR ?_)
  | (with_reducible refine ed_cmeth ?_)
  | (with_reducible refine ed_fld ?_)
  | (with_reducible refine ed_lstRg ?_)
  | (with_reducible refine ed_tupRg ?_)
  | (with_reducible refine ea_star ?_)
  | (with_reducible refine ed_op ?_)
  | (with_reducible refine ed_and ?_)
  | (with_reducible refine ed_or ?_)
  | (with_reducible refine ed_not ?_)
  | (with_reducible refine ed_if ?_)
  | (with_reducible refine ed_cb ?_)
  | (with_reducible refine ed_call ?_)
  | (with_reducible refine ed_lst ?_)
  | (with_reducible refine ed_tup ?_)
  | (with_reducible refine ed_un ?_)
  | (with_reducible refine ed_sl ?_)
  | (with_reducible refine ea_cons ?_)
  | (with_reducible refine ea_nil ?_)
  | (with_reducible refine eo_none ?_)
  | (with_reducible refine eo_some ?_)
  | (with_reducible refine et_test ?_)
  | (with_reducible refine et_B ?_)
  | (with_reducible refine et_and ?_)
  | (with_reducible refine et_or ?_)
  | (with_reducible refine et_not ?_)
  | (with_reducible refine et_yes ?_)
  | (with_reducible refine ed_int ?_)
  | (with_reducible refine ed_str ?_)
  | (with_reducible refine ed_bl ?_)
  | (with_reducible refine ed_non ?_)
  | (with_reducible refine ed_ty ?_)
  | (with_reducible refine ed_obj ?_))
local macro_rules | `(tactic| walk_at "nv2") => `(tactic| first
  | (with_reducible refine rd_add_i ?_)
  | (with_reducible refine rd_I0i ?_)
  | (with_reducible refine rd_I0b ?_)
  | (with_reducible refine rd_eq_i ?_)
  | (with_reducible refine rd_ne_i ?_)
  | (with_reducible refine rd_eq_s ?_)
  | (with_reducible refine rd_ne_s ?_)
  | (with_reducible refine rd_notB ?_)
  | (with_reducible refine cd_tup_l ?_)
  | (with_reducible refine cd_tup_t ?_)
  | (with_reducible refine cd_lst_l ?_)
  | (with_reducible refine cd_lst_t ?_)
  | (with_reducible refine rd_in_l ?_)
  | (with_reducible refine rd_in_t ?_)
  | (with_reducible refine rd_ni_t ?_)
  | (with_reducible refine rd_eq_b ?_)
  | (with_reducible refine rd_ne_b ?_)
  | (with_reducible refine rd_isB ?_)
  | (with_reducible refine rd_isN ?_)
  | (with_reducible refine rd_notN ?_)
  | (with_reducible refine rd_in_sign ?_)
  | (with_reducible refine cd_len_l ?_)
  | (with_reducible refine cd_len_sq ?_)
  | (with_reducible refine cd_len_t ?_)
  | (with_reducible refine cd_int_i ?_)
  | (with_reducible refine cd_int_b ?_)
  | (with_reducible refine cd_abs ?_)
  | (with_reducible refine cd_max ?_)
  | (with_reducible refine cd_min ?_)
  | (with_reducible refine cd_str_s ?_)
  | (with_reducible refine cd_repr_b ?_)
  | (with_reducible refine ud_neg ?_)
  | ((with_reducible refine And.intro ?_ ?_); exact Nat.le_of_ble_eq_true rfl) | (with_reducible refine ed_dnew ?_) | (with_reducible refine ed_disp1 ?_) | ((with_reducible refine rd_mul_l ?_ ?_ ?_ ?_); decide; decide; exact Nat.le_of_ble_eq_true rfl) | ((with_reducible refine rd_add_l ?_ ?_); exact Nat.le_of_ble_eq_true rfl)
  | (with_reducible refine ⟨_, rfl, ?_⟩) | (with_reducible refine ⟨_, Or.inl rfl, ?_⟩))
local macro_rules | `(tactic| walk_at "nv") => `(tactic| first | walk_at "nv1" | walk_at "nv2")
local macro_rules | `(tactic| walk_at "cx") => `(tactic| dsimp only [cxOf, Cx.nox, Cx.wish, Cx.blk, List.length_cons, List.length_nil])
theorem fit_txt (n : Int) : fitD (.str (toString n)) = true := by
  refine List.all_eq_true.mpr fun c hc => decide_eq_true ?_
  by_cases h : c ≤ 57
  · exact Nat.lt_of_le_of_lt h (by decide)
  · exact absurd hc (int_text_free' c ⟨by omega, .inr (by omega)⟩ n)
theorem val_int {n : Int} (h : n.natAbs < 2 ^ 200) : valD (.int n) := by
  have hl : n.natAbs.log2 < 200 := by
    by_cases c : n.natAbs = 0
    · rw [c]; decide
    · exact (Nat.log2_lt c).mpr h
  exact ⟨.int n, rfl, decide_eq_true (by omega), by show 0 ≤ 5; decide, by show n.natAbs.log2 + 3 ≤ 1000; omega⟩
theorem val_txt {n : Int} (h : n.natAbs < 2 ^ 50) : valD (.str (toString n)) := by
  have hl : n.natAbs.log2 < 50 := by
    by_cases c : n.natAbs = 0
    · rw [c]; decide
    · exact (Nat.log2_lt c).mpr h
  have hz := shown_le (d := .int n) (decide_eq_true (by omega))
  have hz : (Str.ofString (toString n)).length ≤ n.natAbs.log2 + 3 := hz
  exact ⟨.str (toString n), rfl, fit_txt n, by show 0 ≤ 5; decide, by show 10 * (Str.ofString (toString n)).length + 2 ≤ 1000; omega⟩
theorem val_small {n : Int} (h : n.natAbs < 2 ^ 50) : ∀ x ∈ ([.int n, .int (0 - n), .str (toString n), .tup [.int n, .non], .non, .bl true, .lst [.int n], .dic [(.inr "a", .int n)], .str "", .int (10 ^ 39)] : List Dt), valD x := by
  have hl : n.natAbs.log2 < 50 := by
    by_cases c : n.natAbs = 0
    · rw [c]; decide
    · exact (Nat.log2_lt c).mpr h
  have hf : fitD (.int n) = true := decide_eq_true (by omega)
  have hz : szD (.int n) = n.natAbs.log2 + 3 := rfl
  intro x hx
  simp only [List.mem_cons, List.not_mem_nil, or_false] at hx
  rcases hx with rfl | rfl | rfl | rfl | rfl | rfl | rfl | rfl | rfl | rfl
  · exact val_int (by omega)
  · exact val_int (by omega)
  · exact val_txt h
  · exact ⟨.tuple [.int n, .none], rfl, by simp [fitD, fitAll, hl]; omega, by show 1 ≤ 5; decide, by simp [szD, szAll]; omega⟩
  · exact ⟨.none, rfl, rfl, by show 0 ≤ 5; decide, by show 4 ≤ 1000; decide⟩
  · exact ⟨.bool true, rfl, rfl, by show 0 ≤ 5; decide, by show 5 ≤ 1000; decide⟩
  · exact ⟨.list [.int n], rfl, by simp [fitD, fitAll, hl]; omega, by show 1 ≤ 5; decide, by simp [szD, szAll]; omega⟩
  · have la : (Str.ofString "a").length = 1 := by decide +kernel
    have fa : fitD (.str (Str.ofString "a")) = true := by decide +kernel
    have z : szD (.dict [(.str "a", .int n)]) ≤ 1000 := by simp only [szD, szKv, la]; omega
    have ff : fitD (.dict [(.str "a", .int n)]) = true := by simp only [fitD, fitKv] at fa hf ⊢; rw [fa, hf]; rfl
    exact ⟨.dict [(.str "a", .int n)], rfl, ff, by show 1 ≤ 5; decide, z⟩
  · exact ⟨.str "", rfl, by decide +kernel, by show 0 ≤ 5; decide, by decide +kernel⟩
  · exact val_int (by decide +kernel)
theorem val_other {v : Dt} (hv : valD v) : ∀ x ∈ ([.non, .tup [.str "lot", .int 1], v, .dic []] : List Dt), valD x := by
  intro x hx
  simp only [List.mem_cons, List.not_mem_nil, or_false] at hx
  rcases hx with rfl | rfl | rfl | rfl
  · exact ⟨.none, rfl, rfl, by show 0 ≤ 5; decide, by show 4 ≤ 1000; decide⟩
  · exact ⟨.tuple [.str "lot", .int 1], rfl, by decide +kernel, by show 1 ≤ 5; decide, by decide +kernel⟩
  · exact hv
  · exact ⟨.dict [], rfl, rfl, by show 1 ≤ 5; decide, by decide +kernel⟩
section
variable {P : Program} {w : World} {K : PySem.W.Frag} {mg : Str → Option Value} {base : Heap} {ea : EA}
def PreLaw : List Dt → (Dt → Prop) → Prop := fun ds R => ∃ ns : List Int, ds = [.sq (ns.map .int)] ∧ ns.length ≤ 63 ∧ R (.bl true)
theorem gg_law (T : Tx P K mg ea) (g__law_dice : Gf P w K mg base "_law_dice" 1 ["_law_script", "_law_at"] PreDice) (g__law_roll : Gf P w K mg base "_law_roll" 1 ["_law_dice_here", "_law_total"] PreRoll) (g__law_one_of : Gf P w K mg base "_law_one_of" 2 ["_law_dice_here", "_law_items"] PreOneOf)
    (g__law_kinds_of : Gf P w K mg base "_law_kinds_of" 1 ["_law_error"] (PreKinds K ea)) (g__law_right : Gg P w K mg base "_law_right" 3 ["_law_value", "_law_other"] PreRight) :
    Gg P w K mg base "law" 4 ["_law_script"] PreLaw := by
  refine gg_of T.D_law sc_law (fun ds R ⟨ns, h, _⟩ => by rw [h]; rfl) fun f cdv A outer s H E hA hr => ⟨_, (pss_cons (ps_for PassesOwn.never rfl (pi_range1 rfl T.m_range (pa_cons (pe_callB (call_max2 rfl) (by rfl) T.m_max (by decide +kernel) (pa_cons pe_int (pa_cons (pe_callB (call_min2 rfl) (by rfl) T.m_min (by decide +kernel) (pa_cons pe_int (pa_cons (pe_callB (callLen (K := K) rfl) (by rfl) T.m_len (by decide +kernel) (pa_cons (pv 0) pa_nil)) pa_nil))) pa_nil))) pa_nil)) (pg_name (i := 1) sc_law.nd rfl (by first | exact Or.inl rfl | exact Or.inr rfl)) (pss_cons (ps_set (i := 3) sc_law.nd rfl (by first | exact Or.inl rfl | exact Or.inr rfl) (pe_gf g__law_dice ⟨rfl, rfl, rfl, rfl, rfl⟩ (hr.mono (by decide)) rfl (pa_cons (pv 0) (pa_cons (pv 1) pa_nil)))) (pss_cons (ps_set (i := 4) sc_law.nd rfl (by first | exact Or.inl rfl | exact Or.inr rfl) (pe_op op_sub (pe_gf g__law_roll ⟨rfl, rfl, rfl, rfl, rfl⟩ (hr.mono (by decide)) rfl (pa_cons (pv 3) (pa_cons (pe_op op_powW pe_int pe_int) pa_nil))) pe_int)) (pss_cons (ps_set (i := 5) sc_law.nd rfl (by first | exact Or.inl rfl | exact Or.inr rfl) (pe_lst (pa_cons (pv 4) (pa_cons (pe_op op_sub pe_int (pv 4)) (pa_cons (pe_callTy callStr (by rfl) T.m_str (by decide +kernel) (pa_cons (pv 4) pa_nil)) (pa_cons (pe_tup (pa_cons (pv 4) (pa_cons pe_non pa_nil))) (pa_cons pe_non (pa_cons pe_bl (pa_cons (pe_lst (pa_cons (pv 4) pa_nil)) (pa_cons (pe_disp (pps_cons pe_str (pv 4) pps_nil) (by rfl) (by rfl) (fun z => by cases z) (by decide)) (pa_cons pe_str (pa_cons (pe_op op_powW pe_int pe_int) pa_nil)))))))))))) (pss_one (ps_for PassesOwn.never rfl (piList (K := K) rfl (pv 5)) (pg_name (i := 6) sc_law.nd rfl (by first | exact Or.inl rfl | exact Or.inr rfl)) (pss_one (ps_if (pt_not (pt_val (pe_gg g__law_right ⟨rfl, rfl, rfl, rfl, rfl⟩ hA (hr.mono (by decide)) rfl (pa_cons (pv 6) (pa_cons (pe_gf g__law_one_of ⟨rfl, rfl, rfl, rfl, rfl⟩ (hr.mono (by decide)) rfl (pa_cons (pv 3) (pa_cons (pe_lst (pa_cons pe_non (pa_cons (pe_tup (pa_cons pe_str (pa_cons pe_int pa_nil))) (pa_cons (pv 6) (pa_cons pe_dnewK pa_nil))))) pa_nil))) pa_nil))))) (pss_one (ps_ret pe_bl)) pss_nil)))))))) (pss_cons (ps_set (i := 2) sc_law.nd rfl (by first | exact Or.inl rfl | exact Or.inr rfl) (pe_lst (pa_cons (pe_E1 ⟨rfl, rfl⟩ PySem.F.excBase_ValueError T.x_InvalidCutter (by rfl) pe_str) (pa_cons (pe_E1 ⟨rfl, rfl⟩ PySem.F.excBase_ValueError T.x_InvalidCompany (by rfl) pe_str) (pa_cons (pe_E1 ⟨rfl, rfl⟩ PySem.F.excBase_ValueError T.x_InvalidBundle (by rfl) pe_str) (pa_cons (pe_E1 ⟨rfl, rfl⟩ PySem.F.excBase_ValueError T.x_InvalidRule (by rfl) pe_str) (pa_cons (pe_E1 ⟨rfl, rfl⟩ PySem.F.excBase_ValueError T.x_InvalidLot (by rfl) pe_str) pa_nil))))))) (pss_cons (ps_set (i := 2) sc_law.nd rfl (by first | exact Or.inl rfl | exact Or.inr rfl) (pe_op (opAdd (K := K) rfl) (pv 2) (pe_lst (pa_cons (pe_E1 ⟨rfl, rfl⟩ PySem.F.excBase_ValueError T.x_InvalidState (by rfl) pe_str) (pa_cons (pe_E1 ⟨rfl, rfl⟩ PySem.F.excBase_ValueError T.x_InvalidLetter (by rfl) pe_str) (pa_cons (pe_E1 ⟨rfl, rfl⟩ PySem.F.excBase_ValueError T.x_InvalidPledge (by rfl) pe_str) (pa_cons (pe_E1 ⟨rfl, rfl⟩ PySem.F.excBase_ValueError T.x_InvalidOperation (by rfl) pe_str) pa_nil))))))) (pss_cons (ps_if (pt_cmpR (opNe (K := K) rfl hr.units) (pe_lc (own := [("_law_error", 7)]) (g := gName 7) rfl sc_law.nd (piList (K := K) rfl (pv 2)) (blkOk_by (own := [("_law_error", 7)]) (N := ["_law_script", "_law_at", "_law_plain", "_law_dice_here", "_law_number", "_law_rows", "_law_value", "_law_error"]) (sc := defScope s_law) (by decide +kernel)) (fun _ _ _ _ _ => (pg_name (i := 7) sc_law.nd rfl (by first | exact Or.inl rfl | exact Or.inr rfl))) (fun _ _ _ _ _ => pts_nil) (fun _ _ _ _ _ => (pe_gf g__law_kinds_of ⟨rfl, rfl, rfl, rfl, rfl⟩ (hr.mono (by decide)) rfl (pa_cons (pv 7) pa_nil)))) (pe_lc (own := [("_law_at", 1)]) (g := gName 1) rfl sc_law.nd (pi_range1 rfl T.m_range (pa_cons pe_int pa_nil)) (blkOk_by (own := [("_law_at", 1)]) (N := ["_law_script", "_law_at", "_law_plain", "_law_dice_here", "_law_number", "_law_rows", "_law_value", "_law_error"]) (sc := defScope s_law) (by decide +kernel)) (fun _ _ _ _ _ => (pg_name (i := 1) sc_law.nd rfl (by first | exact Or.inl rfl | exact Or.inr rfl))) (fun _ _ _ _ _ => pts_nil) (fun _ _ _ _ _ => (pe_lst (pa_cons pe_int (pa_cons (pe_op (opAdd (K := K) rfl) (pv 1) pe_int) (pa_cons pe_int pa_nil)))))) (nomark _)) (pss_one (ps_ret pe_bl)) pss_nil) (pss_one (ps_ret (pe_cmpR (opEq (K := K) rfl hr.units) (pe_gf g__law_kinds_of ⟨rfl, rfl, rfl, rfl, rfl⟩ (hr.mono (by decide)) rfl (pa_cons (pe_E1 ⟨rfl, rfl⟩ PySem.F.excBase_ValueError T.x_LetterError (by rfl) pe_str) pa_nil)) (pe_lst (pa_cons pe_int (pa_cons pe_int pa_nil))) (nomark _)))))))), fun ds R ⟨ns, h, hl, hR⟩ => ?_⟩
  subst h
  repeat walk_at "nv"
  refine sd_for ?_
  refine ei_rng1 ?_
  repeat walk_at "nv"
  have hb : ∀ z : Int, 0 ≤ z → z ≤ 63 → (if (if z < 6 then z else 6) > 1 then (if z < 6 then z else 6) else 1) < 2 ^ 62 ∧ -(2 ^ 62) ≤ (if (if z < 6 then z else 6) > 1 then (if z < 6 then z else 6) else (1 : Int)) := fun z h0 h1 => by
    split <;> split <;> omega
  refine ⟨hb _ (by omega) (by simp; omega), fun i s1 => ∃ x1 x2 x3 x4 x5 x6 x7, s1 = [.dt (.sq (ns.map .int)), x1, x2, x3, x4, x5, x6, x7], ⟨_, _, _, _, _, _, _, rfl⟩, fun i x s1 hx ⟨x1, x2, x3, x4, x5, x6, x7, h⟩ => ?_, fun s1 ⟨x1, x2, x3, x4, x5, x6, x7, h⟩ => ?_⟩
  · subst h
    obtain ⟨_, rfl⟩ := range_at hx
    repeat walk_at "nv"
    refine ⟨ns, i, rfl, ?_⟩
    repeat walk_at "nv"
    refine rd_I ⟨by decide, by decide +kernel⟩ ?_
    repeat walk_at "nv"
    refine ⟨_, rfl, by decide, by decide, fun r h0 h1 => ?_⟩
    have hn : (r - 7).natAbs < 2 ^ 50 := by
      have h1 : r < 1000000000000 := h1
      omega
    generalize hnn : r - 7 = n at hn ⊢
    have hl2 : n.natAbs.log2 < 50 := by
      by_cases c : n.natAbs = 0
      · rw [c]; decide
      · exact (Nat.log2_lt c).mpr hn
    repeat walk_at "nv"
    rw [hnn]
    repeat walk_at "nv"
    refine cd_str_i (by omega) ?_
    repeat walk_at "nv"
    refine ⟨.inr "a", rfl, ?_⟩
    repeat walk_at "nv"
    refine rd_I ⟨by decide, by decide +kernel⟩ ?_
    repeat walk_at "nv"
    have hvs := val_small hn
    refine sd_for ?_
    refine ei_list ?_
    repeat walk_at "nv"
    refine ⟨fun j s2 => ∃ x2 x6 x7, s2 = [.dt (.sq (ns.map .int)), .dt (.int i), x2, .dt dice, .dt (.int n), .dt (.lst [.int n, .int (0 - n), .str (toString n), .tup [.int n, .non], .non, .bl true, .lst [.int n], .dic [(.inr "a", .int n)], .str "", .int (10 ^ 39)]), x6, x7], ⟨_, _, _, rfl⟩, fun j x s2 hx ⟨x2, x6, x7, h⟩ => ?_, fun s2 ⟨x2, x6, x7, h⟩ => ⟨_, _, _, _, _, _, _, h⟩⟩
    have hv : valD x := hvs x (List.mem_of_getElem? hx)
    subst h
    repeat walk_at "nv"
    refine ⟨_, _, rfl, rfl, by simp, by simp, fun y hy => ?_⟩
    repeat walk_at "nv"
    refine ⟨x, y, rfl, hv, val_other hv y hy, _, rfl, ifF rfl ?_⟩
    walk_at "nv"
    exact ⟨_, _, _, rfl⟩
  · subst h
    repeat walk_at "nv"
    refine ed_exc1 ?_
    repeat walk_at "nv"
    refine ed_exc1 ?_
    repeat walk_at "nv"
    refine ed_exc1 ?_
    repeat walk_at "nv"
    refine ed_exc1 ?_
    repeat walk_at "nv"
    refine ed_exc1 ?_
    repeat walk_at "nv"
    refine ed_exc1 ?_
    repeat walk_at "nv"
    refine ed_exc1 ?_
    repeat walk_at "nv"
    refine ed_exc1 ?_
    repeat walk_at "nv"
    refine ed_exc1 ?_
    repeat walk_at "nv"
    refine ed_lc (fun d => gd_name) ?_
    refine ei_list ?_
    repeat walk_at "nv"
    refine ⟨fun i acc => acc = ([.lst [.int 0, .int 1, .int 16], .lst [.int 0, .int 2, .int 16], .lst [.int 0, .int 3, .int 16], .lst [.int 0, .int 4, .int 16], .lst [.int 0, .int 5, .int 16], .lst [.int 0, .int 6, .int 16], .lst [.int 0, .int 7, .int 16], .lst [.int 0, .int 8, .int 16], .lst [.int 0, .int 9, .int 16]] : List Dt).take i, rfl, by show 9 < 1000000; decide, fun i x acc hx ha => ?_, fun acc ha => ?_⟩
    · subst ha
      match i, hx with
      | 0, hx =>
        cases hx
        walk_at "nv"
        rw [if_pos rfl]
        repeat walk_at "nv"
        exact ⟨_, _, _, _, _, _, _, _, _, _, _, _, _, _, _, _, _, _, _, _, _, _, _, _, _, rfl, T.ev_InvalidCutter, T.iv_InvalidCutter, rfl⟩
      | 1, hx =>
        cases hx
        walk_at "nv"
        rw [if_pos rfl]
        repeat walk_at "nv"
        exact ⟨_, _, _, _, _, _, _, _, _, _, _, _, _, _, _, _, _, _, _, _, _, _, _, _, _, rfl, T.ev_InvalidCompany, T.iv_InvalidCompany, rfl⟩
      | 2, hx =>
        cases hx
        walk_at "nv"
        rw [if_pos rfl]
        repeat walk_at "nv"
        exact ⟨_, _, _, _, _, _, _, _, _, _, _, _, _, _, _, _, _, _, _, _, _, _, _, _, _, rfl, T.ev_InvalidBundle, T.iv_InvalidBundle, rfl⟩
      | 3, hx =>
        cases hx
        walk_at "nv"
        rw [if_pos rfl]
        repeat walk_at "nv"
        exact ⟨_, _, _, _, _, _, _, _, _, _, _, _, _, _, _, _, _, _, _, _, _, _, _, _, _, rfl, T.ev_InvalidRule, T.iv_InvalidRule, rfl⟩
      | 4, hx =>
        cases hx
        walk_at "nv"
        rw [if_pos rfl]
        repeat walk_at "nv"
        exact ⟨_, _, _, _, _, _, _, _, _, _, _, _, _, _, _, _, _, _, _, _, _, _, _, _, _, rfl, T.ev_InvalidLot, T.iv_InvalidLot, rfl⟩
      | 5, hx =>
        cases hx
        walk_at "nv"
        rw [if_pos rfl]
        repeat walk_at "nv"
        exact ⟨_, _, _, _, _, _, _, _, _, _, _, _, _, _, _, _, _, _, _, _, _, _, _, _, _, rfl, T.ev_InvalidState, T.iv_InvalidState, rfl⟩
      | 6, hx =>
        cases hx
        walk_at "nv"
        rw [if_pos rfl]
        repeat walk_at "nv"
        exact ⟨_, _, _, _, _, _, _, _, _, _, _, _, _, _, _, _, _, _, _, _, _, _, _, _, _, rfl, T.ev_InvalidLetter, T.iv_InvalidLetter, rfl⟩
      | 7, hx =>
        cases hx
        walk_at "nv"
        rw [if_pos rfl]
        repeat walk_at "nv"
        exact ⟨_, _, _, _, _, _, _, _, _, _, _, _, _, _, _, _, _, _, _, _, _, _, _, _, _, rfl, T.ev_InvalidPledge, T.iv_InvalidPledge, rfl⟩
      | 8, hx =>
        cases hx
        walk_at "nv"
        rw [if_pos rfl]
        repeat walk_at "nv"
        exact ⟨_, _, _, _, _, _, _, _, _, _, _, _, _, _, _, _, _, _, _, _, _, _, _, _, _, rfl, T.ev_InvalidOperation, T.iv_InvalidOperation, rfl⟩
      | n + 9, hx => cases hx
    have ha : acc = [.lst [.int 0, .int 1, .int 16], .lst [.int 0, .int 2, .int 16], .lst [.int 0, .int 3, .int 16], .lst [.int 0, .int 4, .int 16], .lst [.int 0, .int 5, .int 16], .lst [.int 0, .int 6, .int 16], .lst [.int 0, .int 7, .int 16], .lst [.int 0, .int 8, .int 16], .lst [.int 0, .int 9, .int 16]] := ha
    subst ha
    repeat walk_at "nv"
    refine ed_lc_map (fun d => gd_name) ?_
    refine ei_rng1 ?_
    repeat walk_at "nv"
    refine ⟨by decide, by decide, fun d => .lst [.int 0, .int ((atN d : Int) + 1), .int 16], fun x hx => ?_, ?_⟩
    · obtain ⟨k, hk, rfl⟩ := nat_of hx
      repeat walk_at "nv"
      rfl
    repeat walk_at "nv"
    refine rd_ne_d (p := .list [.list [.int 0, .int 1, .int 16], .list [.int 0, .int 2, .int 16], .list [.int 0, .int 3, .int 16], .list [.int 0, .int 4, .int 16], .list [.int 0, .int 5, .int 16], .list [.int 0, .int 6, .int 16], .list [.int 0, .int 7, .int 16], .list [.int 0, .int 8, .int 16], .list [.int 0, .int 9, .int 16]]) (q := .list [.list [.int 0, .int 1, .int 16], .list [.int 0, .int 2, .int 16], .list [.int 0, .int 3, .int 16], .list [.int 0, .int 4, .int 16], .list [.int 0, .int 5, .int 16], .list [.int 0, .int 6, .int 16], .list [.int 0, .int 7, .int 16], .list [.int 0, .int 8, .int 16], .list [.int 0, .int 9, .int 16]]) rfl rfl (by decide +kernel) (by decide +kernel) ?_
    refine ⟨_, rfl, ifF (by decide +kernel) ?_⟩
    repeat walk_at "nv"
    refine ed_exc1 ?_
    repeat walk_at "nv"
    refine ⟨_, _, _, _, _, _, _, _, _, _, _, _, _, _, _, _, _, _, _, _, _, _, _, _, _, rfl, T.ev_LetterError, T.iv_LetterError, ?_⟩
    repeat walk_at "nv"
    refine rd_eq_d (p := .list [.int 0, .int 16]) (q := .list [.int 0, .int 16]) rfl rfl (by decide +kernel) (by decide +kernel) ?_
    exact hR
end
end Nv

set_option Elab.async false
set_option linter.all false
set_option maxRecDepth 100000
set_option maxHeartbeats 4000000
namespace Nv
open PySem PySem.Spec PyProof.Rows L2
theorem all_mk {l : PySem.W.OpenLaw} {w : World} {K : PySem.W.Frag} {h : Heap} {mg : Str → Option Value} {fa : Addr} (X : K.In h) (G : h.Ns mainGlobals mg) (hfa : mg "law" = some (.ref fa))
    (z_int : PySem.W.nsIn K mainGlobals "int" = some none)
    (z_max : PySem.W.nsIn K mainGlobals "max" = some none)
    (z_len : PySem.W.nsIn K mainGlobals "len" = some none)
    (z_abs : PySem.W.nsIn K mainGlobals "abs" = some none)
    (z_isinstance : PySem.W.nsIn K mainGlobals "isinstance" = some none)
    (z_ValueError : PySem.W.nsIn K mainGlobals "ValueError" = some none)
    (z_KeyError : PySem.W.nsIn K mainGlobals "KeyError" = some none)
    (z_RuntimeError : PySem.W.nsIn K mainGlobals "RuntimeError" = some none)
    (z_OverflowError : PySem.W.nsIn K mainGlobals "OverflowError" = some none)
    (z_IndexError : PySem.W.nsIn K mainGlobals "IndexError" = some none)
    (z_ArithmeticError : PySem.W.nsIn K mainGlobals "ArithmeticError" = some none)
    (z_LookupError : PySem.W.nsIn K mainGlobals "LookupError" = some none)
    (z_enumerate : PySem.W.nsIn K mainGlobals "enumerate" = some none)
    (z_repr : PySem.W.nsIn K mainGlobals "repr" = some none)
    (z_range : PySem.W.nsIn K mainGlobals "range" = some none)
    (z_min : PySem.W.nsIn K mainGlobals "min" = some none)
    (z_str : PySem.W.nsIn K mainGlobals "str" = some none)
    {f__law_dice : Addr} {od__law_dice an__law_dice : Option Addr} {sl__law_dice : Array (Option Value)} {oc__law_dice kV__law_dice dc__law_dice pm__law_dice cd__law_dice ct__law_dice : Value} (a__law_dice : PySem.W.nsIn K mainGlobals "_law_dice" = some (some (.ref f__law_dice))) (l__law_dice : K.lookup f__law_dice = some ⟨oc__law_dice, od__law_dice, .func (PySem.W.fnOf "_law_dice" "_law_dice" (defArgs s__law_dice) (defBody s__law_dice) (defScope s__law_dice) .none kV__law_dice dc__law_dice pm__law_dice an__law_dice cd__law_dice ct__law_dice), sl__law_dice⟩) (c__law_dice : PySem.W.codeIn K cd__law_dice "_law_dice" = true) (k__law_dice : PySem.W.keepIn K (.ref f__law_dice) = true)
    {f__law_roll : Addr} {od__law_roll an__law_roll : Option Addr} {sl__law_roll : Array (Option Value)} {oc__law_roll kV__law_roll dc__law_roll pm__law_roll cd__law_roll ct__law_roll : Value} (a__law_roll : PySem.W.nsIn K mainGlobals "_law_roll" = some (some (.ref f__law_roll))) (l__law_roll : K.lookup f__law_roll = some ⟨oc__law_roll, od__law_roll, .func (PySem.W.fnOf "_law_roll" "_law_roll" (defArgs s__law_roll) (defBody s__law_roll) (defScope s__law_roll) .none kV__law_roll dc__law_roll pm__law_roll an__law_roll cd__law_roll ct__law_roll), sl__law_roll⟩) (c__law_roll : PySem.W.codeIn K cd__law_roll "_law_roll" = true) (k__law_roll : PySem.W.keepIn K (.ref f__law_roll) = true)
    {f__law_one_of : Addr} {od__law_one_of an__law_one_of : Option Addr} {sl__law_one_of : Array (Option Value)} {oc__law_one_of kV__law_one_of dc__law_one_of pm__law_one_of cd__law_one_of ct__law_one_of : Value} (a__law_one_of : PySem.W.nsIn K mainGlobals "_law_one_of" = some (some (.ref f__law_one_of))) (l__law_one_of : K.lookup f__law_one_of = some ⟨oc__law_one_of, od__law_one_of, .func (PySem.W.fnOf "_law_one_of" "_law_one_of" (defArgs s__law_one_of) (defBody s__law_one_of) (defScope s__law_one_of) .none kV__law_one_of dc__law_one_of pm__law_one_of an__law_one_of cd__law_one_of ct__law_one_of), sl__law_one_of⟩) (c__law_one_of : PySem.W.codeIn K cd__law_one_of "_law_one_of" = true) (k__law_one_of : PySem.W.keepIn K (.ref f__law_one_of) = true)
    {f__law_kinds_of : Addr} {od__law_kinds_of an__law_kinds_of : Option Addr} {sl__law_kinds_of : Array (Option Value)} {oc__law_kinds_of kV__law_kinds_of dc__law_kinds_of pm__law_kinds_of cd__law_kinds_of ct__law_kinds_of : Value} (a__law_kinds_of : PySem.W.nsIn K mainGlobals "_law_kinds_of" = some (some (.ref f__law_kinds_of))) (l__law_kinds_of : K.lookup f__law_kinds_of = some ⟨oc__law_kinds_of, od__law_kinds_of, .func (PySem.W.fnOf "_law_kinds_of" "_law_kinds_of" (defArgs s__law_kinds_of) (defBody s__law_kinds_of) (defScope s__law_kinds_of) .none kV__law_kinds_of dc__law_kinds_of pm__law_kinds_of an__law_kinds_of cd__law_kinds_of ct__law_kinds_of), sl__law_kinds_of⟩) (c__law_kinds_of : PySem.W.codeIn K cd__law_kinds_of "_law_kinds_of" = true) (k__law_kinds_of : PySem.W.keepIn K (.ref f__law_kinds_of) = true)
    {f__law_right : Addr} {od__law_right an__law_right : Option Addr} {sl__law_right : Array (Option Value)} {oc__law_right kV__law_right dc__law_right pm__law_right cd__law_right ct__law_right : Value} (a__law_right : PySem.W.nsIn K mainGlobals "_law_right" = some (some (.ref f__law_right))) (l__law_right : K.lookup f__law_right = some ⟨oc__law_right, od__law_right, .func (PySem.W.fnOf "_law_right" "_law_right" (defArgs s__law_right) (defBody s__law_right) (defScope s__law_right) .none kV__law_right dc__law_right pm__law_right an__law_right cd__law_right ct__law_right), sl__law_right⟩) (c__law_right : PySem.W.codeIn K cd__law_right "_law_right" = true) (k__law_right : PySem.W.keepIn K (.ref f__law_right) = true)
    {f_law : Addr} {od_law an_law : Option Addr} {sl_law : Array (Option Value)} {oc_law kV_law dc_law pm_law cd_law ct_law : Value} (a_law : PySem.W.nsIn K mainGlobals "law" = some (some (.ref f_law))) (l_law : K.lookup f_law = some ⟨oc_law, od_law, .func (PySem.W.fnOf "law" "law" (defArgs s_law) (defBody s_law) (defScope s_law) .none kV_law dc_law pm_law an_law cd_law ct_law), sl_law⟩) (c_law : PySem.W.codeIn K cd_law "law" = true) (k_law : PySem.W.keepIn K (.ref f_law) = true)
    {C_LetterError : Addr} (aC_LetterError : PySem.W.nsIn K mainGlobals "LetterError" = some (some (.ref C_LetterError)))
    (kp_LetterError : PySem.W.keepIn K (.ref C_LetterError) = true)
    (sb_LetterError : PySem.W.subIn K (.ref C_LetterError) (.type "BaseException") = some true)
    (ty_LetterError : PySem.W.typeIn K (.ref C_LetterError) = some (.type "type"))
    (hd_LetterError : PySem.W.hasDictIn K C_LetterError = true)
    (ga_LetterError : PySem.W.findIn K (.ref C_LetterError) "__getattribute__" = some (some (.builtin "BaseException.__getattribute__")))
    (gg_LetterError : PySem.W.findIn K (.ref C_LetterError) "__getattr__" = some none)
    (ca_LetterError : PySem.W.findIn K (.ref C_LetterError) "__class__" = some (some (.builtin "object.__class__")))
    (cn_LetterError : PySem.W.specialIn K (.builtin "object.__class__") "__get__" = some (some (.builtin "getset_descriptor.__get__")))
    (ctk_LetterError : PySem.W.takesIn K (.builtin "object.__class__") = some true)
    (sc_LetterError : PySem.W.subIn K (.ref C_LetterError) (.ref C_LetterError) = some true)
    (cm_LetterError : PySem.W.mroIn K C_LetterError (.type "object") = some true)
    (xi_LetterError : PySem.W.excIn K C_LetterError [.type "ValueError", .type "Exception", .type "BaseException", .type "object"] "ValueError.__new__" = true)
    {C_InvalidCutter : Addr} (aC_InvalidCutter : PySem.W.nsIn K mainGlobals "InvalidCutter" = some (some (.ref C_InvalidCutter)))
    (kp_InvalidCutter : PySem.W.keepIn K (.ref C_InvalidCutter) = true)
    (sb_InvalidCutter : PySem.W.subIn K (.ref C_InvalidCutter) (.type "BaseException") = some true)
    (ty_InvalidCutter : PySem.W.typeIn K (.ref C_InvalidCutter) = some (.type "type"))
    (hd_InvalidCutter : PySem.W.hasDictIn K C_InvalidCutter = true)
    (ga_InvalidCutter : PySem.W.findIn K (.ref C_InvalidCutter) "__getattribute__" = some (some (.builtin "BaseException.__getattribute__")))
    (gg_InvalidCutter : PySem.W.findIn K (.ref C_InvalidCutter) "__getattr__" = some none)
    (ca_InvalidCutter : PySem.W.findIn K (.ref C_InvalidCutter) "__class__" = some (some (.builtin "object.__class__")))
    (cn_InvalidCutter : PySem.W.specialIn K (.builtin "object.__class__") "__get__" = some (some (.builtin "getset_descriptor.__get__")))
    (ctk_InvalidCutter : PySem.W.takesIn K (.builtin "object.__class__") = some true)
    (sc_InvalidCutter : PySem.W.subIn K (.ref C_InvalidCutter) (.ref C_InvalidCutter) = some true)
    (cm_InvalidCutter : PySem.W.mroIn K C_InvalidCutter (.type "object") = some true)
    (xi_InvalidCutter : PySem.W.excIn K C_InvalidCutter [.type "ValueError", .type "Exception", .type "BaseException", .type "object"] "ValueError.__new__" = true)
    {C_InvalidCompany : Addr} (aC_InvalidCompany : PySem.W.nsIn K mainGlobals "InvalidCompany" = some (some (.ref C_InvalidCompany)))
    (kp_InvalidCompany : PySem.W.keepIn K (.ref C_InvalidCompany) = true)
    (sb_InvalidCompany : PySem.W.subIn K (.ref C_InvalidCompany) (.type "BaseException") = some true)
    (ty_InvalidCompany : PySem.W.typeIn K (.ref C_InvalidCompany) = some (.type "type"))
    (hd_InvalidCompany : PySem.W.hasDictIn K C_InvalidCompany = true)
    (ga_InvalidCompany : PySem.W.findIn K (.ref C_InvalidCompany) "__getattribute__" = some (some (.builtin "BaseException.__getattribute__")))
    (gg_InvalidCompany : PySem.W.findIn K (.ref C_InvalidCompany) "__getattr__" = some none)
    (ca_InvalidCompany : PySem.W.findIn K (.ref C_InvalidCompany) "__class__" = some (some (.builtin "object.__class__")))
    (cn_InvalidCompany : PySem.W.specialIn K (.builtin "object.__class__") "__get__" = some (some (.builtin "getset_descriptor.__get__")))
    (ctk_InvalidCompany : PySem.W.takesIn K (.builtin "object.__class__") = some true)
    (sc_InvalidCompany : PySem.W.subIn K (.ref C_InvalidCompany) (.ref C_InvalidCompany) = some true)
    (cm_InvalidCompany : PySem.W.mroIn K C_InvalidCompany (.type "object") = some true)
    (xi_InvalidCompany : PySem.W.excIn K C_InvalidCompany [.type "ValueError", .type "Exception", .type "BaseException", .type "object"] "ValueError.__new__" = true)
    {C_InvalidBundle : Addr} (aC_InvalidBundle : PySem.W.nsIn K mainGlobals "InvalidBundle" = some (some (.ref C_InvalidBundle)))
    (kp_InvalidBundle : PySem.W.keepIn K (.ref C_InvalidBundle) = true)
    (sb_InvalidBundle : PySem.W.subIn K (.ref C_InvalidBundle) (.type "BaseException") = some true)
    (ty_InvalidBundle : PySem.W.typeIn K (.ref C_InvalidBundle) = some (.type "type"))
    (hd_InvalidBundle : PySem.W.hasDictIn K C_InvalidBundle = true)
    (ga_InvalidBundle : PySem.W.findIn K (.ref C_InvalidBundle) "__getattribute__" = some (some (.builtin "BaseException.__getattribute__")))
    (gg_InvalidBundle : PySem.W.findIn K (.ref C_InvalidBundle) "__getattr__" = some none)
    (ca_InvalidBundle : PySem.W.findIn K (.ref C_InvalidBundle) "__class__" = some (some (.builtin "object.__class__")))
    (cn_InvalidBundle : PySem.W.specialIn K (.builtin "object.__class__") "__get__" = some (some (.builtin "getset_descriptor.__get__")))
    (ctk_InvalidBundle : PySem.W.takesIn K (.builtin "object.__class__") = some true)
    (sc_InvalidBundle : PySem.W.subIn K (.ref C_InvalidBundle) (.ref C_InvalidBundle) = some true)
    (cm_InvalidBundle : PySem.W.mroIn K C_InvalidBundle (.type "object") = some true)
    (xi_InvalidBundle : PySem.W.excIn K C_InvalidBundle [.type "ValueError", .type "Exception", .type "BaseException", .type "object"] "ValueError.__new__" = true)
    {C_InvalidRule : Addr} (aC_InvalidRule : PySem.W.nsIn K mainGlobals "InvalidRule" = some (some (.ref C_InvalidRule)))
    (kp_InvalidRule : PySem.W.keepIn K (.ref C_InvalidRule) = true)
    (sb_InvalidRule : PySem.W.subIn K (.ref C_InvalidRule) (.type "BaseException") = some true)
    (ty_InvalidRule : PySem.W.typeIn K (.ref C_InvalidRule) = some (.type "type"))
    (hd_InvalidRule : PySem.W.hasDictIn K C_InvalidRule = true)
    (ga_InvalidRule : PySem.W.findIn K (.ref C_InvalidRule) "__getattribute__" = some (some (.builtin "BaseException.__getattribute__")))
    (gg_InvalidRule : PySem.W.findIn K (.ref C_InvalidRule) "__getattr__" = some none)
    (ca_InvalidRule : PySem.W.findIn K (.ref C_InvalidRule) "__class__" = some (some (.builtin "object.__class__")))
    (cn_InvalidRule : PySem.W.specialIn K (.builtin "object.__class__") "__get__" = some (some (.builtin "getset_descriptor.__get__")))
    (ctk_InvalidRule : PySem.W.takesIn K (.builtin "object.__class__") = some true)
    (sc_InvalidRule : PySem.W.subIn K (.ref C_InvalidRule) (.ref C_InvalidRule) = some true)
    (cm_InvalidRule : PySem.W.mroIn K C_InvalidRule (.type "object") = some true)
    (xi_InvalidRule : PySem.W.excIn K C_InvalidRule [.type "ValueError", .type "Exception", .type "BaseException", .type "object"] "ValueError.__new__" = true)
    {C_InvalidLot : Addr} (aC_InvalidLot : PySem.W.nsIn K mainGlobals "InvalidLot" = some (some (.ref C_InvalidLot)))
    (kp_InvalidLot : PySem.W.keepIn K (.ref C_InvalidLot) = true)
    (sb_InvalidLot : PySem.W.subIn K (.ref C_InvalidLot) (.type "BaseException") = some true)
    (ty_InvalidLot : PySem.W.typeIn K (.ref C_InvalidLot) = some (.type "type"))
    (hd_InvalidLot : PySem.W.hasDictIn K C_InvalidLot = true)
    (ga_InvalidLot : PySem.W.findIn K (.ref C_InvalidLot) "__getattribute__" = some (some (.builtin "BaseException.__getattribute__")))
    (gg_InvalidLot : PySem.W.findIn K (.ref C_InvalidLot) "__getattr__" = some none)
    (ca_InvalidLot : PySem.W.findIn K (.ref C_InvalidLot) "__class__" = some (some (.builtin "object.__class__")))
    (cn_InvalidLot : PySem.W.specialIn K (.builtin "object.__class__") "__get__" = some (some (.builtin "getset_descriptor.__get__")))
    (ctk_InvalidLot : PySem.W.takesIn K (.builtin "object.__class__") = some true)
    (sc_InvalidLot : PySem.W.subIn K (.ref C_InvalidLot) (.ref C_InvalidLot) = some true)
    (cm_InvalidLot : PySem.W.mroIn K C_InvalidLot (.type "object") = some true)
    (xi_InvalidLot : PySem.W.excIn K C_InvalidLot [.type "ValueError", .type "Exception", .type "BaseException", .type "object"] "ValueError.__new__" = true)
    {C_InvalidState : Addr} (aC_InvalidState : PySem.W.nsIn K mainGlobals "InvalidState" = some (some (.ref C_InvalidState)))
    (kp_InvalidState : PySem.W.keepIn K (.ref C_InvalidState) = true)
    (sb_InvalidState : PySem.W.subIn K (.ref C_InvalidState) (.type "BaseException") = some true)
    (ty_InvalidState : PySem.W.typeIn K (.ref C_InvalidState) = some (.type "type"))
    (hd_InvalidState : PySem.W.hasDictIn K C_InvalidState = true)
    (ga_InvalidState : PySem.W.findIn K (.ref C_InvalidState) "__getattribute__" = some (some (.builtin "BaseException.__getattribute__")))
    (gg_InvalidState : PySem.W.findIn K (.ref C_InvalidState) "__getattr__" = some none)
    (ca_InvalidState : PySem.W.findIn K (.ref C_InvalidState) "__class__" = some (some (.builtin "object.__class__")))
    (cn_InvalidState : PySem.W.specialIn K (.builtin "object.__class__") "__get__" = some (some (.builtin "getset_descriptor.__get__")))
    (ctk_InvalidState : PySem.W.takesIn K (.builtin "object.__class__") = some true)
    (sc_InvalidState : PySem.W.subIn K (.ref C_InvalidState) (.ref C_InvalidState) = some true)
    (cm_InvalidState : PySem.W.mroIn K C_InvalidState (.type "object") = some true)
    (xi_InvalidState : PySem.W.excIn K C_InvalidState [.type "ValueError", .type "Exception", .type "BaseException", .type "object"] "ValueError.__new__" = true)
    {C_InvalidLetter : Addr} (aC_InvalidLetter : PySem.W.nsIn K mainGlobals "InvalidLetter" = some (some (.ref C_InvalidLetter)))
    (kp_InvalidLetter : PySem.W.keepIn K (.ref C_InvalidLetter) = true)
    (sb_InvalidLetter : PySem.W.subIn K (.ref C_InvalidLetter) (.type "BaseException") = some true)
    (ty_InvalidLetter : PySem.W.typeIn K (.ref C_InvalidLetter) = some (.type "type"))
    (hd_InvalidLetter : PySem.W.hasDictIn K C_InvalidLetter = true)
    (ga_InvalidLetter : PySem.W.findIn K (.ref C_InvalidLetter) "__getattribute__" = some (some (.builtin "BaseException.__getattribute__")))
    (gg_InvalidLetter : PySem.W.findIn K (.ref C_InvalidLetter) "__getattr__" = some none)
    (ca_InvalidLetter : PySem.W.findIn K (.ref C_InvalidLetter) "__class__" = some (some (.builtin "object.__class__")))
    (cn_InvalidLetter : PySem.W.specialIn K (.builtin "object.__class__") "__get__" = some (some (.builtin "getset_descriptor.__get__")))
    (ctk_InvalidLetter : PySem.W.takesIn K (.builtin "object.__class__") = some true)
    (sc_InvalidLetter : PySem.W.subIn K (.ref C_InvalidLetter) (.ref C_InvalidLetter) = some true)
    (cm_InvalidLetter : PySem.W.mroIn K C_InvalidLetter (.type "object") = some true)
    (xi_InvalidLetter : PySem.W.excIn K C_InvalidLetter [.type "ValueError", .type "Exception", .type "BaseException", .type "object"] "ValueError.__new__" = true)
    {C_InvalidPledge : Addr} (aC_InvalidPledge : PySem.W.nsIn K mainGlobals "InvalidPledge" = some (some (.ref C_InvalidPledge)))
    (kp_InvalidPledge : PySem.W.keepIn K (.ref C_InvalidPledge) = true)
    (sb_InvalidPledge : PySem.W.subIn K (.ref C_InvalidPledge) (.type "BaseException") = some true)
    (ty_InvalidPledge : PySem.W.typeIn K (.ref C_InvalidPledge) = some (.type "type"))
    (hd_InvalidPledge : PySem.W.hasDictIn K C_InvalidPledge = true)
    (ga_InvalidPledge : PySem.W.findIn K (.ref C_InvalidPledge) "__getattribute__" = some (some (.builtin "BaseException.__getattribute__")))
    (gg_InvalidPledge : PySem.W.findIn K (.ref C_InvalidPledge) "__getattr__" = some none)
    (ca_InvalidPledge : PySem.W.findIn K (.ref C_InvalidPledge) "__class__" = some (some (.builtin "object.__class__")))
    (cn_InvalidPledge : PySem.W.specialIn K (.builtin "object.__class__") "__get__" = some (some (.builtin "getset_descriptor.__get__")))
    (ctk_InvalidPledge : PySem.W.takesIn K (.builtin "object.__class__") = some true)
    (sc_InvalidPledge : PySem.W.subIn K (.ref C_InvalidPledge) (.ref C_InvalidPledge) = some true)
    (cm_InvalidPledge : PySem.W.mroIn K C_InvalidPledge (.type "object") = some true)
    (xi_InvalidPledge : PySem.W.excIn K C_InvalidPledge [.type "ValueError", .type "Exception", .type "BaseException", .type "object"] "ValueError.__new__" = true)
    {C_InvalidOperation : Addr} (aC_InvalidOperation : PySem.W.nsIn K mainGlobals "InvalidOperation" = some (some (.ref C_InvalidOperation)))
    (kp_InvalidOperation : PySem.W.keepIn K (.ref C_InvalidOperation) = true)
    (sb_InvalidOperation : PySem.W.subIn K (.ref C_InvalidOperation) (.type "BaseException") = some true)
    (ty_InvalidOperation : PySem.W.typeIn K (.ref C_InvalidOperation) = some (.type "type"))
    (hd_InvalidOperation : PySem.W.hasDictIn K C_InvalidOperation = true)
    (ga_InvalidOperation : PySem.W.findIn K (.ref C_InvalidOperation) "__getattribute__" = some (some (.builtin "BaseException.__getattribute__")))
    (gg_InvalidOperation : PySem.W.findIn K (.ref C_InvalidOperation) "__getattr__" = some none)
    (ca_InvalidOperation : PySem.W.findIn K (.ref C_InvalidOperation) "__class__" = some (some (.builtin "object.__class__")))
    (cn_InvalidOperation : PySem.W.specialIn K (.builtin "object.__class__") "__get__" = some (some (.builtin "getset_descriptor.__get__")))
    (ctk_InvalidOperation : PySem.W.takesIn K (.builtin "object.__class__") = some true)
    (sc_InvalidOperation : PySem.W.subIn K (.ref C_InvalidOperation) (.ref C_InvalidOperation) = some true)
    (cm_InvalidOperation : PySem.W.mroIn K C_InvalidOperation (.type "object") = some true)
    (xi_InvalidOperation : PySem.W.excIn K C_InvalidOperation [.type "ValueError", .type "Exception", .type "BaseException", .type "object"] "ValueError.__new__" = true)
    {C_ParseError : Addr} (aC_ParseError : PySem.W.nsIn K mainGlobals "ParseError" = some (some (.ref C_ParseError)))
    {f_ParseError : Addr} {nm_ParseError q_ParseError : Str} {N_ParseError : Addr} {bs_ParseError : List Value} {sn_ParseError : List Str} {su_ParseError : List Value} {ab_ParseError : Bool} {co_ParseError : Option Bool} {dd_ParseError : Option Addr} {k0_ParseError k1_ParseError k2_ParseError k3_ParseError k5_ParseError : Option Value} {oc_ParseError dc_ParseError pm_ParseError ct_ParseError kV_ParseError cl_ParseError ccl_ParseError : Value} {od_ParseError an_ParseError cld_ParseError cdd_ParseError : Option Addr} {cda_ParseError cc_ParseError : Addr} {osl_ParseError csl_ParseError ccs_ParseError : Array (Option Value)} {vs_ParseError : Array Value} {file_ParseError : Str} {tf_ParseError : Tok} {Lc_ParseError : Value} {Ld_ParseError : Option Addr} {Lcd_ParseError : ClassData} {Lsl_ParseError : Array (Option Value)}
    (lk_ParseError : K.lookup C_ParseError = some (excClassObj nm_ParseError q_ParseError C_ParseError N_ParseError bs_ParseError [.ref C_LetterError, .type "ValueError", .type "Exception", .type "BaseException", .type "object"] true sn_ParseError su_ParseError ab_ParseError co_ParseError dd_ParseError k0_ParseError k1_ParseError k2_ParseError k3_ParseError k5_ParseError "ValueError.__new__"))
    (kp_ParseError : PySem.W.keepIn K (.ref C_ParseError) = true)
    (sb_ParseError : PySem.W.subIn K (.ref C_ParseError) (.type "BaseException") = some true)
    (ty_ParseError : PySem.W.typeIn K (.ref C_ParseError) = some (.type "type"))
    (hd_ParseError : PySem.W.hasDictIn K C_ParseError = true)
    (ga_ParseError : PySem.W.findIn K (.ref C_ParseError) "__getattribute__" = some (some (.builtin "BaseException.__getattribute__")))
    (gg_ParseError : PySem.W.findIn K (.ref C_ParseError) "__getattr__" = some none)
    (ca_ParseError : PySem.W.findIn K (.ref C_ParseError) "__class__" = some (some (.builtin "object.__class__")))
    (cn_ParseError : PySem.W.specialIn K (.builtin "object.__class__") "__get__" = some (some (.builtin "getset_descriptor.__get__")))
    (ctk_ParseError : PySem.W.takesIn K (.builtin "object.__class__") = some true)
    (sc_ParseError : PySem.W.subIn K (.ref C_ParseError) (.ref C_ParseError) = some true)
    (cm_ParseError : PySem.W.mroIn K C_ParseError (.type "object") = some true)
    (sa_ParseError : PySem.W.findIn K (.ref C_ParseError) "__setattr__" = some (some (.builtin "object.__setattr__")))
    (nf0_ParseError : PySem.W.findIn K (.ref C_ParseError) "line" = some none)
    (fiL_ParseError : PySem.W.findIn K (.ref C_LetterError) "__init__" = some (some (.builtin "ValueError.__init__")))
    (lkL_ParseError : K.lookup C_LetterError = some ⟨Lc_ParseError, Ld_ParseError, .cls Lcd_ParseError, Lsl_ParseError⟩)
    (mL_ParseError : Lcd_ParseError.mro = [.ref C_LetterError, .type "ValueError", .type "Exception", .type "BaseException", .type "object"])
    (ini_ParseError : PySem.W.findIn K (.ref C_ParseError) "__init__" = some (some (.ref f_ParseError)))
    (tyf_ParseError : PySem.W.typeIn K (.ref f_ParseError) = some (.type "function"))
    (subB_ParseError : PySem.W.subIn K (.ref C_ParseError) (.type "ValueError") = some true)
    (subC_ParseError : PySem.W.subIn K (.ref C_ParseError) (.ref C_ParseError) = some true)
    (op_ParseError : PySem.W.nsIn K cStatics "thirdparty.any" = some none)
    (sup_ParseError : PySem.W.nsIn K mainGlobals "super" = some none)
    (lf_ParseError : K.lookup f_ParseError = some ⟨oc_ParseError, od_ParseError, .func (PySem.W.ksFn "__init__" "ParseError.__init__" (defArgs s_ParseError___init__) (defBody s_ParseError___init__) (defScope s_ParseError___init__) .none kV_ParseError dc_ParseError pm_ParseError an_ParseError (.ref cda_ParseError) ct_ParseError cc_ParseError), osl_ParseError⟩)
    (cd_ParseError : PySem.W.codeIn K (.ref cda_ParseError) "ParseError.__init__" = true)
    (lcd_ParseError : K.lookup cda_ParseError = some ⟨ccl_ParseError, cdd_ParseError, .fields vs_ParseError, ccs_ParseError⟩)
    (vs2_ParseError : vs_ParseError[2]? = some (.str file_ParseError tf_ParseError))
    (fi_ParseError : ((l.prog.main.file : Str) == file_ParseError) = true)
    (lcc_ParseError : K.lookup cc_ParseError = some ⟨cl_ParseError, cld_ParseError, .cell (some (.ref C_ParseError)), csl_ParseError⟩)
    (top_ParseError : (l.prog.main.scope.names.lookup ("super" : Str)).isSome = false)
    {C_UnknownName : Addr} (aC_UnknownName : PySem.W.nsIn K mainGlobals "UnknownName" = some (some (.ref C_UnknownName)))
    {f_UnknownName : Addr} {nm_UnknownName q_UnknownName : Str} {N_UnknownName : Addr} {bs_UnknownName : List Value} {sn_UnknownName : List Str} {su_UnknownName : List Value} {ab_UnknownName : Bool} {co_UnknownName : Option Bool} {dd_UnknownName : Option Addr} {k0_UnknownName k1_UnknownName k2_UnknownName k3_UnknownName k5_UnknownName : Option Value} {oc_UnknownName dc_UnknownName pm_UnknownName ct_UnknownName kV_UnknownName cl_UnknownName ccl_UnknownName : Value} {od_UnknownName an_UnknownName cld_UnknownName cdd_UnknownName : Option Addr} {cda_UnknownName cc_UnknownName : Addr} {osl_UnknownName csl_UnknownName ccs_UnknownName : Array (Option Value)} {vs_UnknownName : Array Value} {file_UnknownName : Str} {tf_UnknownName : Tok}
    (lk_UnknownName : K.lookup C_UnknownName = some (excClassObj nm_UnknownName q_UnknownName C_UnknownName N_UnknownName bs_UnknownName [.type "KeyError", .type "LookupError", .type "Exception", .type "BaseException", .type "object"] true sn_UnknownName su_UnknownName ab_UnknownName co_UnknownName dd_UnknownName k0_UnknownName k1_UnknownName k2_UnknownName k3_UnknownName k5_UnknownName "LookupError.__new__"))
    (kp_UnknownName : PySem.W.keepIn K (.ref C_UnknownName) = true)
    (sb_UnknownName : PySem.W.subIn K (.ref C_UnknownName) (.type "BaseException") = some true)
    (ty_UnknownName : PySem.W.typeIn K (.ref C_UnknownName) = some (.type "type"))
    (hd_UnknownName : PySem.W.hasDictIn K C_UnknownName = true)
    (ga_UnknownName : PySem.W.findIn K (.ref C_UnknownName) "__getattribute__" = some (some (.builtin "BaseException.__getattribute__")))
    (gg_UnknownName : PySem.W.findIn K (.ref C_UnknownName) "__getattr__" = some none)
    (ca_UnknownName : PySem.W.findIn K (.ref C_UnknownName) "__class__" = some (some (.builtin "object.__class__")))
    (cn_UnknownName : PySem.W.specialIn K (.builtin "object.__class__") "__get__" = some (some (.builtin "getset_descriptor.__get__")))
    (ctk_UnknownName : PySem.W.takesIn K (.builtin "object.__class__") = some true)
    (sc_UnknownName : PySem.W.subIn K (.ref C_UnknownName) (.ref C_UnknownName) = some true)
    (cm_UnknownName : PySem.W.mroIn K C_UnknownName (.type "object") = some true)
    (sa_UnknownName : PySem.W.findIn K (.ref C_UnknownName) "__setattr__" = some (some (.builtin "object.__setattr__")))
    (nf0_UnknownName : PySem.W.findIn K (.ref C_UnknownName) "name" = some none)
    (ini_UnknownName : PySem.W.findIn K (.ref C_UnknownName) "__init__" = some (some (.ref f_UnknownName)))
    (tyf_UnknownName : PySem.W.typeIn K (.ref f_UnknownName) = some (.type "function"))
    (subB_UnknownName : PySem.W.subIn K (.ref C_UnknownName) (.type "KeyError") = some true)
    (subC_UnknownName : PySem.W.subIn K (.ref C_UnknownName) (.ref C_UnknownName) = some true)
    (op_UnknownName : PySem.W.nsIn K cStatics "thirdparty.any" = some none)
    (sup_UnknownName : PySem.W.nsIn K mainGlobals "super" = some none)
    (lf_UnknownName : K.lookup f_UnknownName = some ⟨oc_UnknownName, od_UnknownName, .func (PySem.W.ksFn "__init__" "UnknownName.__init__" (defArgs s_UnknownName___init__) (defBody s_UnknownName___init__) (defScope s_UnknownName___init__) .none kV_UnknownName dc_UnknownName pm_UnknownName an_UnknownName (.ref cda_UnknownName) ct_UnknownName cc_UnknownName), osl_UnknownName⟩)
    (cd_UnknownName : PySem.W.codeIn K (.ref cda_UnknownName) "UnknownName.__init__" = true)
    (lcd_UnknownName : K.lookup cda_UnknownName = some ⟨ccl_UnknownName, cdd_UnknownName, .fields vs_UnknownName, ccs_UnknownName⟩)
    (vs2_UnknownName : vs_UnknownName[2]? = some (.str file_UnknownName tf_UnknownName))
    (fi_UnknownName : ((l.prog.main.file : Str) == file_UnknownName) = true)
    (lcc_UnknownName : K.lookup cc_UnknownName = some ⟨cl_UnknownName, cld_UnknownName, .cell (some (.ref C_UnknownName)), csl_UnknownName⟩)
    (top_UnknownName : (l.prog.main.scope.names.lookup ("super" : Str)).isSome = false)
    {C_InvalidNumber : Addr} (aC_InvalidNumber : PySem.W.nsIn K mainGlobals "InvalidNumber" = some (some (.ref C_InvalidNumber)))
    {f_InvalidNumber : Addr} {nm_InvalidNumber q_InvalidNumber : Str} {N_InvalidNumber : Addr} {bs_InvalidNumber : List Value} {sn_InvalidNumber : List Str} {su_InvalidNumber : List Value} {ab_InvalidNumber : Bool} {co_InvalidNumber : Option Bool} {dd_InvalidNumber : Option Addr} {k0_InvalidNumber k1_InvalidNumber k2_InvalidNumber k3_InvalidNumber k5_InvalidNumber : Option Value} {oc_InvalidNumber dc_InvalidNumber pm_InvalidNumber ct_InvalidNumber kV_InvalidNumber cl_InvalidNumber ccl_InvalidNumber : Value} {od_InvalidNumber an_InvalidNumber cld_InvalidNumber cdd_InvalidNumber : Option Addr} {cda_InvalidNumber cc_InvalidNumber : Addr} {osl_InvalidNumber csl_InvalidNumber ccs_InvalidNumber : Array (Option Value)} {vs_InvalidNumber : Array Value} {file_InvalidNumber : Str} {tf_InvalidNumber : Tok}
    (lk_InvalidNumber : K.lookup C_InvalidNumber = some (excClassObj nm_InvalidNumber q_InvalidNumber C_InvalidNumber N_InvalidNumber bs_InvalidNumber [.type "RuntimeError", .type "Exception", .type "BaseException", .type "object"] true sn_InvalidNumber su_InvalidNumber ab_InvalidNumber co_InvalidNumber dd_InvalidNumber k0_InvalidNumber k1_InvalidNumber k2_InvalidNumber k3_InvalidNumber k5_InvalidNumber "RuntimeError.__new__"))
    (kp_InvalidNumber : PySem.W.keepIn K (.ref C_InvalidNumber) = true)
    (sb_InvalidNumber : PySem.W.subIn K (.ref C_InvalidNumber) (.type "BaseException") = some true)
    (ty_InvalidNumber : PySem.W.typeIn K (.ref C_InvalidNumber) = some (.type "type"))
    (hd_InvalidNumber : PySem.W.hasDictIn K C_InvalidNumber = true)
    (ga_InvalidNumber : PySem.W.findIn K (.ref C_InvalidNumber) "__getattribute__" = some (some (.builtin "BaseException.__getattribute__")))
    (gg_InvalidNumber : PySem.W.findIn K (.ref C_InvalidNumber) "__getattr__" = some none)
    (ca_InvalidNumber : PySem.W.findIn K (.ref C_InvalidNumber) "__class__" = some (some (.builtin "object.__class__")))
    (cn_InvalidNumber : PySem.W.specialIn K (.builtin "object.__class__") "__get__" = some (some (.builtin "getset_descriptor.__get__")))
    (ctk_InvalidNumber : PySem.W.takesIn K (.builtin "object.__class__") = some true)
    (sc_InvalidNumber : PySem.W.subIn K (.ref C_InvalidNumber) (.ref C_InvalidNumber) = some true)
    (cm_InvalidNumber : PySem.W.mroIn K C_InvalidNumber (.type "object") = some true)
    (sa_InvalidNumber : PySem.W.findIn K (.ref C_InvalidNumber) "__setattr__" = some (some (.builtin "object.__setattr__")))
    (nf0_InvalidNumber : PySem.W.findIn K (.ref C_InvalidNumber) "value" = some none)
    (ini_InvalidNumber : PySem.W.findIn K (.ref C_InvalidNumber) "__init__" = some (some (.ref f_InvalidNumber)))
    (tyf_InvalidNumber : PySem.W.typeIn K (.ref f_InvalidNumber) = some (.type "function"))
    (subB_InvalidNumber : PySem.W.subIn K (.ref C_InvalidNumber) (.type "RuntimeError") = some true)
    (subC_InvalidNumber : PySem.W.subIn K (.ref C_InvalidNumber) (.ref C_InvalidNumber) = some true)
    (op_InvalidNumber : PySem.W.nsIn K cStatics "thirdparty.any" = some none)
    (sup_InvalidNumber : PySem.W.nsIn K mainGlobals "super" = some none)
    (lf_InvalidNumber : K.lookup f_InvalidNumber = some ⟨oc_InvalidNumber, od_InvalidNumber, .func (PySem.W.ksFn "__init__" "InvalidNumber.__init__" (defArgs s_InvalidNumber___init__) (defBody s_InvalidNumber___init__) (defScope s_InvalidNumber___init__) .none kV_InvalidNumber dc_InvalidNumber pm_InvalidNumber an_InvalidNumber (.ref cda_InvalidNumber) ct_InvalidNumber cc_InvalidNumber), osl_InvalidNumber⟩)
    (cd_InvalidNumber : PySem.W.codeIn K (.ref cda_InvalidNumber) "InvalidNumber.__init__" = true)
    (lcd_InvalidNumber : K.lookup cda_InvalidNumber = some ⟨ccl_InvalidNumber, cdd_InvalidNumber, .fields vs_InvalidNumber, ccs_InvalidNumber⟩)
    (vs2_InvalidNumber : vs_InvalidNumber[2]? = some (.str file_InvalidNumber tf_InvalidNumber))
    (fi_InvalidNumber : ((l.prog.main.file : Str) == file_InvalidNumber) = true)
    (lcc_InvalidNumber : K.lookup cc_InvalidNumber = some ⟨cl_InvalidNumber, cld_InvalidNumber, .cell (some (.ref C_InvalidNumber)), csl_InvalidNumber⟩)
    (top_InvalidNumber : (l.prog.main.scope.names.lookup ("super" : Str)).isSome = false)
    {C_TooMany : Addr} (aC_TooMany : PySem.W.nsIn K mainGlobals "TooMany" = some (some (.ref C_TooMany)))
    {f_TooMany : Addr} {nm_TooMany q_TooMany : Str} {N_TooMany : Addr} {bs_TooMany : List Value} {sn_TooMany : List Str} {su_TooMany : List Value} {ab_TooMany : Bool} {co_TooMany : Option Bool} {dd_TooMany : Option Addr} {k0_TooMany k1_TooMany k2_TooMany k3_TooMany k5_TooMany : Option Value} {oc_TooMany dc_TooMany pm_TooMany ct_TooMany kV_TooMany cl_TooMany ccl_TooMany : Value} {od_TooMany an_TooMany cld_TooMany cdd_TooMany : Option Addr} {cda_TooMany cc_TooMany : Addr} {osl_TooMany csl_TooMany ccs_TooMany : Array (Option Value)} {vs_TooMany : Array Value} {file_TooMany : Str} {tf_TooMany : Tok}
    (lk_TooMany : K.lookup C_TooMany = some (excClassObj nm_TooMany q_TooMany C_TooMany N_TooMany bs_TooMany [.type "OverflowError", .type "ArithmeticError", .type "Exception", .type "BaseException", .type "object"] true sn_TooMany su_TooMany ab_TooMany co_TooMany dd_TooMany k0_TooMany k1_TooMany k2_TooMany k3_TooMany k5_TooMany "OverflowError.__new__"))
    (kp_TooMany : PySem.W.keepIn K (.ref C_TooMany) = true)
    (sb_TooMany : PySem.W.subIn K (.ref C_TooMany) (.type "BaseException") = some true)
    (ty_TooMany : PySem.W.typeIn K (.ref C_TooMany) = some (.type "type"))
    (hd_TooMany : PySem.W.hasDictIn K C_TooMany = true)
    (ga_TooMany : PySem.W.findIn K (.ref C_TooMany) "__getattribute__" = some (some (.builtin "BaseException.__getattribute__")))
    (gg_TooMany : PySem.W.findIn K (.ref C_TooMany) "__getattr__" = some none)
    (ca_TooMany : PySem.W.findIn K (.ref C_TooMany) "__class__" = some (some (.builtin "object.__class__")))
    (cn_TooMany : PySem.W.specialIn K (.builtin "object.__class__") "__get__" = some (some (.builtin "getset_descriptor.__get__")))
    (ctk_TooMany : PySem.W.takesIn K (.builtin "object.__class__") = some true)
    (sc_TooMany : PySem.W.subIn K (.ref C_TooMany) (.ref C_TooMany) = some true)
    (cm_TooMany : PySem.W.mroIn K C_TooMany (.type "object") = some true)
    (sa_TooMany : PySem.W.findIn K (.ref C_TooMany) "__setattr__" = some (some (.builtin "object.__setattr__")))
    (nf0_TooMany : PySem.W.findIn K (.ref C_TooMany) "limit" = some none)
    (ini_TooMany : PySem.W.findIn K (.ref C_TooMany) "__init__" = some (some (.ref f_TooMany)))
    (tyf_TooMany : PySem.W.typeIn K (.ref f_TooMany) = some (.type "function"))
    (subB_TooMany : PySem.W.subIn K (.ref C_TooMany) (.type "OverflowError") = some true)
    (subC_TooMany : PySem.W.subIn K (.ref C_TooMany) (.ref C_TooMany) = some true)
    (op_TooMany : PySem.W.nsIn K cStatics "thirdparty.any" = some none)
    (sup_TooMany : PySem.W.nsIn K mainGlobals "super" = some none)
    (lf_TooMany : K.lookup f_TooMany = some ⟨oc_TooMany, od_TooMany, .func (PySem.W.ksFn "__init__" "TooMany.__init__" (defArgs s_TooMany___init__) (defBody s_TooMany___init__) (defScope s_TooMany___init__) .none kV_TooMany dc_TooMany pm_TooMany an_TooMany (.ref cda_TooMany) ct_TooMany cc_TooMany), osl_TooMany⟩)
    (cd_TooMany : PySem.W.codeIn K (.ref cda_TooMany) "TooMany.__init__" = true)
    (lcd_TooMany : K.lookup cda_TooMany = some ⟨ccl_TooMany, cdd_TooMany, .fields vs_TooMany, ccs_TooMany⟩)
    (vs2_TooMany : vs_TooMany[2]? = some (.str file_TooMany tf_TooMany))
    (fi_TooMany : ((l.prog.main.file : Str) == file_TooMany) = true)
    (lcc_TooMany : K.lookup cc_TooMany = some ⟨cl_TooMany, cld_TooMany, .cell (some (.ref C_TooMany)), csl_TooMany⟩)
    (top_TooMany : (l.prog.main.scope.names.lookup ("super" : Str)).isSome = false)
    {C_NothingToUndo : Addr} (aC_NothingToUndo : PySem.W.nsIn K mainGlobals "NothingToUndo" = some (some (.ref C_NothingToUndo)))
    {f_NothingToUndo : Addr} {nm_NothingToUndo q_NothingToUndo : Str} {N_NothingToUndo : Addr} {bs_NothingToUndo : List Value} {sn_NothingToUndo : List Str} {su_NothingToUndo : List Value} {ab_NothingToUndo : Bool} {co_NothingToUndo : Option Bool} {dd_NothingToUndo : Option Addr} {k0_NothingToUndo k1_NothingToUndo k2_NothingToUndo k3_NothingToUndo k5_NothingToUndo : Option Value} {oc_NothingToUndo dc_NothingToUndo pm_NothingToUndo ct_NothingToUndo kV_NothingToUndo cl_NothingToUndo ccl_NothingToUndo : Value} {od_NothingToUndo an_NothingToUndo cld_NothingToUndo cdd_NothingToUndo : Option Addr} {cda_NothingToUndo cc_NothingToUndo : Addr} {osl_NothingToUndo csl_NothingToUndo ccs_NothingToUndo : Array (Option Value)} {vs_NothingToUndo : Array Value} {file_NothingToUndo : Str} {tf_NothingToUndo : Tok}
    (lk_NothingToUndo : K.lookup C_NothingToUndo = some (excClassObj nm_NothingToUndo q_NothingToUndo C_NothingToUndo N_NothingToUndo bs_NothingToUndo [.type "IndexError", .type "LookupError", .type "Exception", .type "BaseException", .type "object"] true sn_NothingToUndo su_NothingToUndo ab_NothingToUndo co_NothingToUndo dd_NothingToUndo k0_NothingToUndo k1_NothingToUndo k2_NothingToUndo k3_NothingToUndo k5_NothingToUndo "IndexError.__new__"))
    (kp_NothingToUndo : PySem.W.keepIn K (.ref C_NothingToUndo) = true)
    (sb_NothingToUndo : PySem.W.subIn K (.ref C_NothingToUndo) (.type "BaseException") = some true)
    (ty_NothingToUndo : PySem.W.typeIn K (.ref C_NothingToUndo) = some (.type "type"))
    (hd_NothingToUndo : PySem.W.hasDictIn K C_NothingToUndo = true)
    (ga_NothingToUndo : PySem.W.findIn K (.ref C_NothingToUndo) "__getattribute__" = some (some (.builtin "BaseException.__getattribute__")))
    (gg_NothingToUndo : PySem.W.findIn K (.ref C_NothingToUndo) "__getattr__" = some none)
    (ca_NothingToUndo : PySem.W.findIn K (.ref C_NothingToUndo) "__class__" = some (some (.builtin "object.__class__")))
    (cn_NothingToUndo : PySem.W.specialIn K (.builtin "object.__class__") "__get__" = some (some (.builtin "getset_descriptor.__get__")))
    (ctk_NothingToUndo : PySem.W.takesIn K (.builtin "object.__class__") = some true)
    (sc_NothingToUndo : PySem.W.subIn K (.ref C_NothingToUndo) (.ref C_NothingToUndo) = some true)
    (cm_NothingToUndo : PySem.W.mroIn K C_NothingToUndo (.type "object") = some true)
    (sa_NothingToUndo : PySem.W.findIn K (.ref C_NothingToUndo) "__setattr__" = some (some (.builtin "object.__setattr__")))
    (nf0_NothingToUndo : PySem.W.findIn K (.ref C_NothingToUndo) "many" = some none)
    (ini_NothingToUndo : PySem.W.findIn K (.ref C_NothingToUndo) "__init__" = some (some (.ref f_NothingToUndo)))
    (tyf_NothingToUndo : PySem.W.typeIn K (.ref f_NothingToUndo) = some (.type "function"))
    (subB_NothingToUndo : PySem.W.subIn K (.ref C_NothingToUndo) (.type "IndexError") = some true)
    (subC_NothingToUndo : PySem.W.subIn K (.ref C_NothingToUndo) (.ref C_NothingToUndo) = some true)
    (op_NothingToUndo : PySem.W.nsIn K cStatics "thirdparty.any" = some none)
    (sup_NothingToUndo : PySem.W.nsIn K mainGlobals "super" = some none)
    (lf_NothingToUndo : K.lookup f_NothingToUndo = some ⟨oc_NothingToUndo, od_NothingToUndo, .func (PySem.W.ksFn "__init__" "NothingToUndo.__init__" (defArgs s_NothingToUndo___init__) (defBody s_NothingToUndo___init__) (defScope s_NothingToUndo___init__) .none kV_NothingToUndo dc_NothingToUndo pm_NothingToUndo an_NothingToUndo (.ref cda_NothingToUndo) ct_NothingToUndo cc_NothingToUndo), osl_NothingToUndo⟩)
    (cd_NothingToUndo : PySem.W.codeIn K (.ref cda_NothingToUndo) "NothingToUndo.__init__" = true)
    (lcd_NothingToUndo : K.lookup cda_NothingToUndo = some ⟨ccl_NothingToUndo, cdd_NothingToUndo, .fields vs_NothingToUndo, ccs_NothingToUndo⟩)
    (vs2_NothingToUndo : vs_NothingToUndo[2]? = some (.str file_NothingToUndo tf_NothingToUndo))
    (fi_NothingToUndo : ((l.prog.main.file : Str) == file_NothingToUndo) = true)
    (lcc_NothingToUndo : K.lookup cc_NothingToUndo = some ⟨cl_NothingToUndo, cld_NothingToUndo, .cell (some (.ref C_NothingToUndo)), csl_NothingToUndo⟩)
    (top_NothingToUndo : (l.prog.main.scope.names.lookup ("super" : Str)).isSome = false)
    {C_Broken : Addr} (aC_Broken : PySem.W.nsIn K mainGlobals "Broken" = some (some (.ref C_Broken)))
    {f_Broken : Addr} {nm_Broken q_Broken : Str} {N_Broken : Addr} {bs_Broken : List Value} {sn_Broken : List Str} {su_Broken : List Value} {ab_Broken : Bool} {co_Broken : Option Bool} {dd_Broken : Option Addr} {k0_Broken k1_Broken k2_Broken k3_Broken k5_Broken : Option Value} {oc_Broken dc_Broken pm_Broken ct_Broken kV_Broken cl_Broken ccl_Broken : Value} {od_Broken an_Broken cld_Broken cdd_Broken : Option Addr} {cda_Broken cc_Broken : Addr} {osl_Broken csl_Broken ccs_Broken : Array (Option Value)} {vs_Broken : Array Value} {file_Broken : Str} {tf_Broken : Tok}
    (lk_Broken : K.lookup C_Broken = some (excClassObj nm_Broken q_Broken C_Broken N_Broken bs_Broken [.type "ArithmeticError", .type "Exception", .type "BaseException", .type "object"] true sn_Broken su_Broken ab_Broken co_Broken dd_Broken k0_Broken k1_Broken k2_Broken k3_Broken k5_Broken "ArithmeticError.__new__"))
    (kp_Broken : PySem.W.keepIn K (.ref C_Broken) = true)
    (sb_Broken : PySem.W.subIn K (.ref C_Broken) (.type "BaseException") = some true)
    (ty_Broken : PySem.W.typeIn K (.ref C_Broken) = some (.type "type"))
    (hd_Broken : PySem.W.hasDictIn K C_Broken = true)
    (ga_Broken : PySem.W.findIn K (.ref C_Broken) "__getattribute__" = some (some (.builtin "BaseException.__getattribute__")))
    (gg_Broken : PySem.W.findIn K (.ref C_Broken) "__getattr__" = some none)
    (ca_Broken : PySem.W.findIn K (.ref C_Broken) "__class__" = some (some (.builtin "object.__class__")))
    (cn_Broken : PySem.W.specialIn K (.builtin "object.__class__") "__get__" = some (some (.builtin "getset_descriptor.__get__")))
    (ctk_Broken : PySem.W.takesIn K (.builtin "object.__class__") = some true)
    (sc_Broken : PySem.W.subIn K (.ref C_Broken) (.ref C_Broken) = some true)
    (cm_Broken : PySem.W.mroIn K C_Broken (.type "object") = some true)
    (sa_Broken : PySem.W.findIn K (.ref C_Broken) "__setattr__" = some (some (.builtin "object.__setattr__")))
    (nf0_Broken : PySem.W.findIn K (.ref C_Broken) "name" = some none)
    (nf1_Broken : PySem.W.findIn K (.ref C_Broken) "reason" = some none)
    (ini_Broken : PySem.W.findIn K (.ref C_Broken) "__init__" = some (some (.ref f_Broken)))
    (tyf_Broken : PySem.W.typeIn K (.ref f_Broken) = some (.type "function"))
    (subB_Broken : PySem.W.subIn K (.ref C_Broken) (.type "ArithmeticError") = some true)
    (subC_Broken : PySem.W.subIn K (.ref C_Broken) (.ref C_Broken) = some true)
    (op_Broken : PySem.W.nsIn K cStatics "thirdparty.any" = some none)
    (sup_Broken : PySem.W.nsIn K mainGlobals "super" = some none)
    (lf_Broken : K.lookup f_Broken = some ⟨oc_Broken, od_Broken, .func (PySem.W.ksFn "__init__" "Broken.__init__" (defArgs s_Broken___init__) (defBody s_Broken___init__) (defScope s_Broken___init__) .none kV_Broken dc_Broken pm_Broken an_Broken (.ref cda_Broken) ct_Broken cc_Broken), osl_Broken⟩)
    (cd_Broken : PySem.W.codeIn K (.ref cda_Broken) "Broken.__init__" = true)
    (lcd_Broken : K.lookup cda_Broken = some ⟨ccl_Broken, cdd_Broken, .fields vs_Broken, ccs_Broken⟩)
    (vs2_Broken : vs_Broken[2]? = some (.str file_Broken tf_Broken))
    (fi_Broken : ((l.prog.main.file : Str) == file_Broken) = true)
    (lcc_Broken : K.lookup cc_Broken = some ⟨cl_Broken, cld_Broken, .cell (some (.ref C_Broken)), csl_Broken⟩)
    (top_Broken : (l.prog.main.scope.names.lookup ("super" : Str)).isSome = false)
    (iv_LetterError_InvalidCutter : PySem.W.subIn K (.ref C_LetterError) (.ref C_InvalidCutter) = some false)
    (iv_LetterError_InvalidCompany : PySem.W.subIn K (.ref C_LetterError) (.ref C_InvalidCompany) = some false)
    (iv_LetterError_InvalidBundle : PySem.W.subIn K (.ref C_LetterError) (.ref C_InvalidBundle) = some false)
    (iv_LetterError_InvalidRule : PySem.W.subIn K (.ref C_LetterError) (.ref C_InvalidRule) = some false)
    (iv_LetterError_InvalidLot : PySem.W.subIn K (.ref C_LetterError) (.ref C_InvalidLot) = some false)
    (iv_LetterError_InvalidState : PySem.W.subIn K (.ref C_LetterError) (.ref C_InvalidState) = some false)
    (iv_LetterError_InvalidLetter : PySem.W.subIn K (.ref C_LetterError) (.ref C_InvalidLetter) = some false)
    (iv_LetterError_InvalidPledge : PySem.W.subIn K (.ref C_LetterError) (.ref C_InvalidPledge) = some false)
    (iv_LetterError_InvalidOperation : PySem.W.subIn K (.ref C_LetterError) (.ref C_InvalidOperation) = some false)
    (iv_LetterError_ParseError : PySem.W.subIn K (.ref C_LetterError) (.ref C_ParseError) = some false)
    (iv_LetterError_UnknownName : PySem.W.subIn K (.ref C_LetterError) (.ref C_UnknownName) = some false)
    (iv_LetterError_InvalidNumber : PySem.W.subIn K (.ref C_LetterError) (.ref C_InvalidNumber) = some false)
    (iv_LetterError_TooMany : PySem.W.subIn K (.ref C_LetterError) (.ref C_TooMany) = some false)
    (iv_LetterError_NothingToUndo : PySem.W.subIn K (.ref C_LetterError) (.ref C_NothingToUndo) = some false)
    (iv_LetterError_Broken : PySem.W.subIn K (.ref C_LetterError) (.ref C_Broken) = some false)
    (iv_LetterError_ValueError : PySem.W.subIn K (.ref C_LetterError) (.type "ValueError") = some true)
    (iv_LetterError_KeyError : PySem.W.subIn K (.ref C_LetterError) (.type "KeyError") = some false)
    (iv_LetterError_RuntimeError : PySem.W.subIn K (.ref C_LetterError) (.type "RuntimeError") = some false)
    (iv_LetterError_OverflowError : PySem.W.subIn K (.ref C_LetterError) (.type "OverflowError") = some false)
    (iv_LetterError_IndexError : PySem.W.subIn K (.ref C_LetterError) (.type "IndexError") = some false)
    (iv_LetterError_ArithmeticError : PySem.W.subIn K (.ref C_LetterError) (.type "ArithmeticError") = some false)
    (iv_LetterError_LookupError : PySem.W.subIn K (.ref C_LetterError) (.type "LookupError") = some false)
    (iv_InvalidCutter_LetterError : PySem.W.subIn K (.ref C_InvalidCutter) (.ref C_LetterError) = some true)
    (iv_InvalidCutter_InvalidCompany : PySem.W.subIn K (.ref C_InvalidCutter) (.ref C_InvalidCompany) = some false)
    (iv_InvalidCutter_InvalidBundle : PySem.W.subIn K (.ref C_InvalidCutter) (.ref C_InvalidBundle) = some false)
    (iv_InvalidCutter_InvalidRule : PySem.W.subIn K (.ref C_InvalidCutter) (.ref C_InvalidRule) = some false)
    (iv_InvalidCutter_InvalidLot : PySem.W.subIn K (.ref C_InvalidCutter) (.ref C_InvalidLot) = some false)
    (iv_InvalidCutter_InvalidState : PySem.W.subIn K (.ref C_InvalidCutter) (.ref C_InvalidState) = some false)
    (iv_InvalidCutter_InvalidLetter : PySem.W.subIn K (.ref C_InvalidCutter) (.ref C_InvalidLetter) = some false)
    (iv_InvalidCutter_InvalidPledge : PySem.W.subIn K (.ref C_InvalidCutter) (.ref C_InvalidPledge) = some false)
    (iv_InvalidCutter_InvalidOperation : PySem.W.subIn K (.ref C_InvalidCutter) (.ref C_InvalidOperation) = some false)
    (iv_InvalidCutter_ParseError : PySem.W.subIn K (.ref C_InvalidCutter) (.ref C_ParseError) = some false)
    (iv_InvalidCutter_UnknownName : PySem.W.subIn K (.ref C_InvalidCutter) (.ref C_UnknownName) = some false)
    (iv_InvalidCutter_InvalidNumber : PySem.W.subIn K (.ref C_InvalidCutter) (.ref C_InvalidNumber) = some false)
    (iv_InvalidCutter_TooMany : PySem.W.subIn K (.ref C_InvalidCutter) (.ref C_TooMany) = some false)
    (iv_InvalidCutter_NothingToUndo : PySem.W.subIn K (.ref C_InvalidCutter) (.ref C_NothingToUndo) = some false)
    (iv_InvalidCutter_Broken : PySem.W.subIn K (.ref C_InvalidCutter) (.ref C_Broken) = some false)
    (iv_InvalidCutter_ValueError : PySem.W.subIn K (.ref C_InvalidCutter) (.type "ValueError") = some true)
    (iv_InvalidCutter_KeyError : PySem.W.subIn K (.ref C_InvalidCutter) (.type "KeyError") = some false)
    (iv_InvalidCutter_RuntimeError : PySem.W.subIn K (.ref C_InvalidCutter) (.type "RuntimeError") = some false)
    (iv_InvalidCutter_OverflowError : PySem.W.subIn K (.ref C_InvalidCutter) (.type "OverflowError") = some false)
    (iv_InvalidCutter_IndexError : PySem.W.subIn K (.ref C_InvalidCutter) (.type "IndexError") = some false)
    (iv_InvalidCutter_ArithmeticError : PySem.W.subIn K (.ref C_InvalidCutter) (.type "ArithmeticError") = some false)
    (iv_InvalidCutter_LookupError : PySem.W.subIn K (.ref C_InvalidCutter) (.type "LookupError") = some false)
    (iv_InvalidCompany_LetterError : PySem.W.subIn K (.ref C_InvalidCompany) (.ref C_LetterError) = some true)
    (iv_InvalidCompany_InvalidCutter : PySem.W.subIn K (.ref C_InvalidCompany) (.ref C_InvalidCutter) = some false)
    (iv_InvalidCompany_InvalidBundle : PySem.W.subIn K (.ref C_InvalidCompany) (.ref C_InvalidBundle) = some false)
    (iv_InvalidCompany_InvalidRule : PySem.W.subIn K (.ref C_InvalidCompany) (.ref C_InvalidRule) = some false)
    (iv_InvalidCompany_InvalidLot : PySem.W.subIn K (.ref C_InvalidCompany) (.ref C_InvalidLot) = some false)
    (iv_InvalidCompany_InvalidState : PySem.W.subIn K (.ref C_InvalidCompany) (.ref C_InvalidState) = some false)
    (iv_InvalidCompany_InvalidLetter : PySem.W.subIn K (.ref C_InvalidCompany) (.ref C_InvalidLetter) = some false)
    (iv_InvalidCompany_InvalidPledge : PySem.W.subIn K (.ref C_InvalidCompany) (.ref C_InvalidPledge) = some false)
    (iv_InvalidCompany_InvalidOperation : PySem.W.subIn K (.ref C_InvalidCompany) (.ref C_InvalidOperation) = some false)
    (iv_InvalidCompany_ParseError : PySem.W.subIn K (.ref C_InvalidCompany) (.ref C_ParseError) = some false)
    (iv_InvalidCompany_UnknownName : PySem.W.subIn K (.ref C_InvalidCompany) (.ref C_UnknownName) = some false)
    (iv_InvalidCompany_InvalidNumber : PySem.W.subIn K (.ref C_InvalidCompany) (.ref C_InvalidNumber) = some false)
    (iv_InvalidCompany_TooMany : PySem.W.subIn K (.ref C_InvalidCompany) (.ref C_TooMany) = some false)
    (iv_InvalidCompany_NothingToUndo : PySem.W.subIn K (.ref C_InvalidCompany) (.ref C_NothingToUndo) = some false)
    (iv_InvalidCompany_Broken : PySem.W.subIn K (.ref C_InvalidCompany) (.ref C_Broken) = some false)
    (iv_InvalidCompany_ValueError : PySem.W.subIn K (.ref C_InvalidCompany) (.type "ValueError") = some true)
    (iv_InvalidCompany_KeyError : PySem.W.subIn K (.ref C_InvalidCompany) (.type "KeyError") = some false)
    (iv_InvalidCompany_RuntimeError : PySem.W.subIn K (.ref C_InvalidCompany) (.type "RuntimeError") = some false)
    (iv_InvalidCompany_OverflowError : PySem.W.subIn K (.ref C_InvalidCompany) (.type "OverflowError") = some false)
    (iv_InvalidCompany_IndexError : PySem.W.subIn K (.ref C_InvalidCompany) (.type "IndexError") = some false)
    (iv_InvalidCompany_ArithmeticError : PySem.W.subIn K (.ref C_InvalidCompany) (.type "ArithmeticError") = some false)
    (iv_InvalidCompany_LookupError : PySem.W.subIn K (.ref C_InvalidCompany) (.type "LookupError") = some false)
    (iv_InvalidBundle_LetterError : PySem.W.subIn K (.ref C_InvalidBundle) (.ref C_LetterError) = some true)
    (iv_InvalidBundle_InvalidCutter : PySem.W.subIn K (.ref C_InvalidBundle) (.ref C_InvalidCutter) = some false)
    (iv_InvalidBundle_InvalidCompany : PySem.W.subIn K (.ref C_InvalidBundle) (.ref C_InvalidCompany) = some false)
    (iv_InvalidBundle_InvalidRule : PySem.W.subIn K (.ref C_InvalidBundle) (.ref C_InvalidRule) = some false)
    (iv_InvalidBundle_InvalidLot : PySem.W.subIn K (.ref C_InvalidBundle) (.ref C_InvalidLot) = some false)
    (iv_InvalidBundle_InvalidState : PySem.W.subIn K (.ref C_InvalidBundle) (.ref C_InvalidState) = some false)
    (iv_InvalidBundle_InvalidLetter : PySem.W.subIn K (.ref C_InvalidBundle) (.ref C_InvalidLetter) = some false)
    (iv_InvalidBundle_InvalidPledge : PySem.W.subIn K (.ref C_InvalidBundle) (.ref C_InvalidPledge) = some false)
    (iv_InvalidBundle_InvalidOperation : PySem.W.subIn K (.ref C_InvalidBundle) (.ref C_InvalidOperation) = some false)
    (iv_InvalidBundle_ParseError : PySem.W.subIn K (.ref C_InvalidBundle) (.ref C_ParseError) = some false)
    (iv_InvalidBundle_UnknownName : PySem.W.subIn K (.ref C_InvalidBundle) (.ref C_UnknownName) = some false)
    (iv_InvalidBundle_InvalidNumber : PySem.W.subIn K (.ref C_InvalidBundle) (.ref C_InvalidNumber) = some false)
    (iv_InvalidBundle_TooMany : PySem.W.subIn K (.ref C_InvalidBundle) (.ref C_TooMany) = some false)
    (iv_InvalidBundle_NothingToUndo : PySem.W.subIn K (.ref C_InvalidBundle) (.ref C_NothingToUndo) = some false)
    (iv_InvalidBundle_Broken : PySem.W.subIn K (.ref C_InvalidBundle) (.ref C_Broken) = some false)
    (iv_InvalidBundle_ValueError : PySem.W.subIn K (.ref C_InvalidBundle) (.type "ValueError") = some true)
    (iv_InvalidBundle_KeyError : PySem.W.subIn K (.ref C_InvalidBundle) (.type "KeyError") = some false)
    (iv_InvalidBundle_RuntimeError : PySem.W.subIn K (.ref C_InvalidBundle) (.type "RuntimeError") = some false)
    (iv_InvalidBundle_OverflowError : PySem.W.subIn K (.ref C_InvalidBundle) (.type "OverflowError") = some false)
    (iv_InvalidBundle_IndexError : PySem.W.subIn K (.ref C_InvalidBundle) (.type "IndexError") = some false)
    (iv_InvalidBundle_ArithmeticError : PySem.W.subIn K (.ref C_InvalidBundle) (.type "ArithmeticError") = some false)
    (iv_InvalidBundle_LookupError : PySem.W.subIn K (.ref C_InvalidBundle) (.type "LookupError") = some false)
    (iv_InvalidRule_LetterError : PySem.W.subIn K (.ref C_InvalidRule) (.ref C_LetterError) = some true)
    (iv_InvalidRule_InvalidCutter : PySem.W.subIn K (.ref C_InvalidRule) (.ref C_InvalidCutter) = some false)
    (iv_InvalidRule_InvalidCompany : PySem.W.subIn K (.ref C_InvalidRule) (.ref C_InvalidCompany) = some false)
    (iv_InvalidRule_InvalidBundle : PySem.W.subIn K (.ref C_InvalidRule) (.ref C_InvalidBundle) = some false)
    (iv_InvalidRule_InvalidLot : PySem.W.subIn K (.ref C_InvalidRule) (.ref C_InvalidLot) = some false)
    (iv_InvalidRule_InvalidState : PySem.W.subIn K (.ref C_InvalidRule) (.ref C_InvalidState) = some false)
    (iv_InvalidRule_InvalidLetter : PySem.W.subIn K (.ref C_InvalidRule) (.ref C_InvalidLetter) = some false)
    (iv_InvalidRule_InvalidPledge : PySem.W.subIn K (.ref C_InvalidRule) (.ref C_InvalidPledge) = some false)
    (iv_InvalidRule_InvalidOperation : PySem.W.subIn K (.ref C_InvalidRule) (.ref C_InvalidOperation) = some false)
    (iv_InvalidRule_ParseError : PySem.W.subIn K (.ref C_InvalidRule) (.ref C_ParseError) = some false)
    (iv_InvalidRule_UnknownName : PySem.W.subIn K (.ref C_InvalidRule) (.ref C_UnknownName) = some false)
    (iv_InvalidRule_InvalidNumber : PySem.W.subIn K (.ref C_InvalidRule) (.ref C_InvalidNumber) = some false)
    (iv_InvalidRule_TooMany : PySem.W.subIn K (.ref C_InvalidRule) (.ref C_TooMany) = some false)
    (iv_InvalidRule_NothingToUndo : PySem.W.subIn K (.ref C_InvalidRule) (.ref C_NothingToUndo) = some false)
    (iv_InvalidRule_Broken : PySem.W.subIn K (.ref C_InvalidRule) (.ref C_Broken) = some false)
    (iv_InvalidRule_ValueError : PySem.W.subIn K (.ref C_InvalidRule) (.type "ValueError") = some true)
    (iv_InvalidRule_KeyError : PySem.W.subIn K (.ref C_InvalidRule) (.type "KeyError") = some false)
    (iv_InvalidRule_RuntimeError : PySem.W.subIn K (.ref C_InvalidRule) (.type "RuntimeError") = some false)
    (iv_InvalidRule_OverflowError : PySem.W.subIn K (.ref C_InvalidRule) (.type "OverflowError") = some false)
    (iv_InvalidRule_IndexError : PySem.W.subIn K (.ref C_InvalidRule) (.type "IndexError") = some false)
    (iv_InvalidRule_ArithmeticError : PySem.W.subIn K (.ref C_InvalidRule) (.type "ArithmeticError") = some false)
    (iv_InvalidRule_LookupError : PySem.W.subIn K (.ref C_InvalidRule) (.type "LookupError") = some false)
    (iv_InvalidLot_LetterError : PySem.W.subIn K (.ref C_InvalidLot) (.ref C_LetterError) = some true)
    (iv_InvalidLot_InvalidCutter : PySem.W.subIn K (.ref C_InvalidLot) (.ref C_InvalidCutter) = some false)
    (iv_InvalidLot_InvalidCompany : PySem.W.subIn K (.ref C_InvalidLot) (.ref C_InvalidCompany) = some false)
    (iv_InvalidLot_InvalidBundle : PySem.W.subIn K (.ref C_InvalidLot) (.ref C_InvalidBundle) = some false)
    (iv_InvalidLot_InvalidRule : PySem.W.subIn K (.ref C_InvalidLot) (.ref C_InvalidRule) = some false)
    (iv_InvalidLot_InvalidState : PySem.W.subIn K (.ref C_InvalidLot) (.ref C_InvalidState) = some false)
    (iv_InvalidLot_InvalidLetter : PySem.W.subIn K (.ref C_InvalidLot) (.ref C_InvalidLetter) = some false)
    (iv_InvalidLot_InvalidPledge : PySem.W.subIn K (.ref C_InvalidLot) (.ref C_InvalidPledge) = some false)
    (iv_InvalidLot_InvalidOperation : PySem.W.subIn K (.ref C_InvalidLot) (.ref C_InvalidOperation) = some false)
    (iv_InvalidLot_ParseError : PySem.W.subIn K (.ref C_InvalidLot) (.ref C_ParseError) = some false)
    (iv_InvalidLot_UnknownName : PySem.W.subIn K (.ref C_InvalidLot) (.ref C_UnknownName) = some false)
    (iv_InvalidLot_InvalidNumber : PySem.W.subIn K (.ref C_InvalidLot) (.ref C_InvalidNumber) = some false)
    (iv_InvalidLot_TooMany : PySem.W.subIn K (.ref C_InvalidLot) (.ref C_TooMany) = some false)
    (iv_InvalidLot_NothingToUndo : PySem.W.subIn K (.ref C_InvalidLot) (.ref C_NothingToUndo) = some false)
    (iv_InvalidLot_Broken : PySem.W.subIn K (.ref C_InvalidLot) (.ref C_Broken) = some false)
    (iv_InvalidLot_ValueError : PySem.W.subIn K (.ref C_InvalidLot) (.type "ValueError") = some true)
    (iv_InvalidLot_KeyError : PySem.W.subIn K (.ref C_InvalidLot) (.type "KeyError") = some false)
    (iv_InvalidLot_RuntimeError : PySem.W.subIn K (.ref C_InvalidLot) (.type "RuntimeError") = some false)
    (iv_InvalidLot_OverflowError : PySem.W.subIn K (.ref C_InvalidLot) (.type "OverflowError") = some false)
    (iv_InvalidLot_IndexError : PySem.W.subIn K (.ref C_InvalidLot) (.type "IndexError") = some false)
    (iv_InvalidLot_ArithmeticError : PySem.W.subIn K (.ref C_InvalidLot) (.type "ArithmeticError") = some false)
    (iv_InvalidLot_LookupError : PySem.W.subIn K (.ref C_InvalidLot) (.type "LookupError") = some false)
    (iv_InvalidState_LetterError : PySem.W.subIn K (.ref C_InvalidState) (.ref C_LetterError) = some true)
    (iv_InvalidState_InvalidCutter : PySem.W.subIn K (.ref C_InvalidState) (.ref C_InvalidCutter) = some false)
    (iv_InvalidState_InvalidCompany : PySem.W.subIn K (.ref C_InvalidState) (.ref C_InvalidCompany) = some false)
    (iv_InvalidState_InvalidBundle : PySem.W.subIn K (.ref C_InvalidState) (.ref C_InvalidBundle) = some false)
    (iv_InvalidState_InvalidRule : PySem.W.subIn K (.ref C_InvalidState) (.ref C_InvalidRule) = some false)
    (iv_InvalidState_InvalidLot : PySem.W.subIn K (.ref C_InvalidState) (.ref C_InvalidLot) = some false)
    (iv_InvalidState_InvalidLetter : PySem.W.subIn K (.ref C_InvalidState) (.ref C_InvalidLetter) = some false)
    (iv_InvalidState_InvalidPledge : PySem.W.subIn K (.ref C_InvalidState) (.ref C_InvalidPledge) = some false)
    (iv_InvalidState_InvalidOperation : PySem.W.subIn K (.ref C_InvalidState) (.ref C_InvalidOperation) = some false)
    (iv_InvalidState_ParseError : PySem.W.subIn K (.ref C_InvalidState) (.ref C_ParseError) = some false)
    (iv_InvalidState_UnknownName : PySem.W.subIn K (.ref C_InvalidState) (.ref C_UnknownName) = some false)
    (iv_InvalidState_InvalidNumber : PySem.W.subIn K (.ref C_InvalidState) (.ref C_InvalidNumber) = some false)
    (iv_InvalidState_TooMany : PySem.W.subIn K (.ref C_InvalidState) (.ref C_TooMany) = some false)
    (iv_InvalidState_NothingToUndo : PySem.W.subIn K (.ref C_InvalidState) (.ref C_NothingToUndo) = some false)
    (iv_InvalidState_Broken : PySem.W.subIn K (.ref C_InvalidState) (.ref C_Broken) = some false)
    (iv_InvalidState_ValueError : PySem.W.subIn K (.ref C_InvalidState) (.type "ValueError") = some true)
    (iv_InvalidState_KeyError : PySem.W.subIn K (.ref C_InvalidState) (.type "KeyError") = some false)
    (iv_InvalidState_RuntimeError : PySem.W.subIn K (.ref C_InvalidState) (.type "RuntimeError") = some false)
    (iv_InvalidState_OverflowError : PySem.W.subIn K (.ref C_InvalidState) (.type "OverflowError") = some false)
    (iv_InvalidState_IndexError : PySem.W.subIn K (.ref C_InvalidState) (.type "IndexError") = some false)
    (iv_InvalidState_ArithmeticError : PySem.W.subIn K (.ref C_InvalidState) (.type "ArithmeticError") = some false)
    (iv_InvalidState_LookupError : PySem.W.subIn K (.ref C_InvalidState) (.type "LookupError") = some false)
    (iv_InvalidLetter_LetterError : PySem.W.subIn K (.ref C_InvalidLetter) (.ref C_LetterError) = some true)
    (iv_InvalidLetter_InvalidCutter : PySem.W.subIn K (.ref C_InvalidLetter) (.ref C_InvalidCutter) = some false)
    (iv_InvalidLetter_InvalidCompany : PySem.W.subIn K (.ref C_InvalidLetter) (.ref C_InvalidCompany) = some false)
    (iv_InvalidLetter_InvalidBundle : PySem.W.subIn K (.ref C_InvalidLetter) (.ref C_InvalidBundle) = some false)
    (iv_InvalidLetter_InvalidRule : PySem.W.subIn K (.ref C_InvalidLetter) (.ref C_InvalidRule) = some false)
    (iv_InvalidLetter_InvalidLot : PySem.W.subIn K (.ref C_InvalidLetter) (.ref C_InvalidLot) = some false)
    (iv_InvalidLetter_InvalidState : PySem.W.subIn K (.ref C_InvalidLetter) (.ref C_InvalidState) = some false)
    (iv_InvalidLetter_InvalidPledge : PySem.W.subIn K (.ref C_InvalidLetter) (.ref C_InvalidPledge) = some false)
    (iv_InvalidLetter_InvalidOperation : PySem.W.subIn K (.ref C_InvalidLetter) (.ref C_InvalidOperation) = some false)
    (iv_InvalidLetter_ParseError : PySem.W.subIn K (.ref C_InvalidLetter) (.ref C_ParseError) = some false)
    (iv_InvalidLetter_UnknownName : PySem.W.subIn K (.ref C_InvalidLetter) (.ref C_UnknownName) = some false)
    (iv_InvalidLetter_InvalidNumber : PySem.W.subIn K (.ref C_InvalidLetter) (.ref C_InvalidNumber) = some false)
    (iv_InvalidLetter_TooMany : PySem.W.subIn K (.ref C_InvalidLetter) (.ref C_TooMany) = some false)
    (iv_InvalidLetter_NothingToUndo : PySem.W.subIn K (.ref C_InvalidLetter) (.ref C_NothingToUndo) = some false)
    (iv_InvalidLetter_Broken : PySem.W.subIn K (.ref C_InvalidLetter) (.ref C_Broken) = some false)
    (iv_InvalidLetter_ValueError : PySem.W.subIn K (.ref C_InvalidLetter) (.type "ValueError") = some true)
    (iv_InvalidLetter_KeyError : PySem.W.subIn K (.ref C_InvalidLetter) (.type "KeyError") = some false)
    (iv_InvalidLetter_RuntimeError : PySem.W.subIn K (.ref C_InvalidLetter) (.type "RuntimeError") = some false)
    (iv_InvalidLetter_OverflowError : PySem.W.subIn K (.ref C_InvalidLetter) (.type "OverflowError") = some false)
    (iv_InvalidLetter_IndexError : PySem.W.subIn K (.ref C_InvalidLetter) (.type "IndexError") = some false)
    (iv_InvalidLetter_ArithmeticError : PySem.W.subIn K (.ref C_InvalidLetter) (.type "ArithmeticError") = some false)
    (iv_InvalidLetter_LookupError : PySem.W.subIn K (.ref C_InvalidLetter) (.type "LookupError") = some false)
    (iv_InvalidPledge_LetterError : PySem.W.subIn K (.ref C_InvalidPledge) (.ref C_LetterError) = some true)
    (iv_InvalidPledge_InvalidCutter : PySem.W.subIn K (.ref C_InvalidPledge) (.ref C_InvalidCutter) = some false)
    (iv_InvalidPledge_InvalidCompany : PySem.W.subIn K (.ref C_InvalidPledge) (.ref C_InvalidCompany) = some false)
    (iv_InvalidPledge_InvalidBundle : PySem.W.subIn K (.ref C_InvalidPledge) (.ref C_InvalidBundle) = some false)
    (iv_InvalidPledge_InvalidRule : PySem.W.subIn K (.ref C_InvalidPledge) (.ref C_InvalidRule) = some false)
    (iv_InvalidPledge_InvalidLot : PySem.W.subIn K (.ref C_InvalidPledge) (.ref C_InvalidLot) = some false)
    (iv_InvalidPledge_InvalidState : PySem.W.subIn K (.ref C_InvalidPledge) (.ref C_InvalidState) = some false)
    (iv_InvalidPledge_InvalidLetter : PySem.W.subIn K (.ref C_InvalidPledge) (.ref C_InvalidLetter) = some false)
    (iv_InvalidPledge_InvalidOperation : PySem.W.subIn K (.ref C_InvalidPledge) (.ref C_InvalidOperation) = some false)
    (iv_InvalidPledge_ParseError : PySem.W.subIn K (.ref C_InvalidPledge) (.ref C_ParseError) = some false)
    (iv_InvalidPledge_UnknownName : PySem.W.subIn K (.ref C_InvalidPledge) (.ref C_UnknownName) = some false)
    (iv_InvalidPledge_InvalidNumber : PySem.W.subIn K (.ref C_InvalidPledge) (.ref C_InvalidNumber) = some false)
    (iv_InvalidPledge_TooMany : PySem.W.subIn K (.ref C_InvalidPledge) (.ref C_TooMany) = some false)
    (iv_InvalidPledge_NothingToUndo : PySem.W.subIn K (.ref C_InvalidPledge) (.ref C_NothingToUndo) = some false)
    (iv_InvalidPledge_Broken : PySem.W.subIn K (.ref C_InvalidPledge) (.ref C_Broken) = some false)
    (iv_InvalidPledge_ValueError : PySem.W.subIn K (.ref C_InvalidPledge) (.type "ValueError") = some true)
    (iv_InvalidPledge_KeyError : PySem.W.subIn K (.ref C_InvalidPledge) (.type "KeyError") = some false)
    (iv_InvalidPledge_RuntimeError : PySem.W.subIn K (.ref C_InvalidPledge) (.type "RuntimeError") = some false)
    (iv_InvalidPledge_OverflowError : PySem.W.subIn K (.ref C_InvalidPledge) (.type "OverflowError") = some false)
    (iv_InvalidPledge_IndexError : PySem.W.subIn K (.ref C_InvalidPledge) (.type "IndexError") = some false)
    (iv_InvalidPledge_ArithmeticError : PySem.W.subIn K (.ref C_InvalidPledge) (.type "ArithmeticError") = some false)
    (iv_InvalidPledge_LookupError : PySem.W.subIn K (.ref C_InvalidPledge) (.type "LookupError") = some false)
    (iv_InvalidOperation_LetterError : PySem.W.subIn K (.ref C_InvalidOperation) (.ref C_LetterError) = some true)
    (iv_InvalidOperation_InvalidCutter : PySem.W.subIn K (.ref C_InvalidOperation) (.ref C_InvalidCutter) = some false)
    (iv_InvalidOperation_InvalidCompany : PySem.W.subIn K (.ref C_InvalidOperation) (.ref C_InvalidCompany) = some false)
    (iv_InvalidOperation_InvalidBundle : PySem.W.subIn K (.ref C_InvalidOperation) (.ref C_InvalidBundle) = some false)
    (iv_InvalidOperation_InvalidRule : PySem.W.subIn K (.ref C_InvalidOperation) (.ref C_InvalidRule) = some false)
    (iv_InvalidOperation_InvalidLot : PySem.W.subIn K (.ref C_InvalidOperation) (.ref C_InvalidLot) = some false)
    (iv_InvalidOperation_InvalidState : PySem.W.subIn K (.ref C_InvalidOperation) (.ref C_InvalidState) = some false)
    (iv_InvalidOperation_InvalidLetter : PySem.W.subIn K (.ref C_InvalidOperation) (.ref C_InvalidLetter) = some false)
    (iv_InvalidOperation_InvalidPledge : PySem.W.subIn K (.ref C_InvalidOperation) (.ref C_InvalidPledge) = some false)
    (iv_InvalidOperation_ParseError : PySem.W.subIn K (.ref C_InvalidOperation) (.ref C_ParseError) = some false)
    (iv_InvalidOperation_UnknownName : PySem.W.subIn K (.ref C_InvalidOperation) (.ref C_UnknownName) = some false)
    (iv_InvalidOperation_InvalidNumber : PySem.W.subIn K (.ref C_InvalidOperation) (.ref C_InvalidNumber) = some false)
    (iv_InvalidOperation_TooMany : PySem.W.subIn K (.ref C_InvalidOperation) (.ref C_TooMany) = some false)
    (iv_InvalidOperation_NothingToUndo : PySem.W.subIn K (.ref C_InvalidOperation) (.ref C_NothingToUndo) = some false)
    (iv_InvalidOperation_Broken : PySem.W.subIn K (.ref C_InvalidOperation) (.ref C_Broken) = some false)
    (iv_InvalidOperation_ValueError : PySem.W.subIn K (.ref C_InvalidOperation) (.type "ValueError") = some true)
    (iv_InvalidOperation_KeyError : PySem.W.subIn K (.ref C_InvalidOperation) (.type "KeyError") = some false)
    (iv_InvalidOperation_RuntimeError : PySem.W.subIn K (.ref C_InvalidOperation) (.type "RuntimeError") = some false)
    (iv_InvalidOperation_OverflowError : PySem.W.subIn K (.ref C_InvalidOperation) (.type "OverflowError") = some false)
    (iv_InvalidOperation_IndexError : PySem.W.subIn K (.ref C_InvalidOperation) (.type "IndexError") = some false)
    (iv_InvalidOperation_ArithmeticError : PySem.W.subIn K (.ref C_InvalidOperation) (.type "ArithmeticError") = some false)
    (iv_InvalidOperation_LookupError : PySem.W.subIn K (.ref C_InvalidOperation) (.type "LookupError") = some false)
    (iv_ParseError_LetterError : PySem.W.subIn K (.ref C_ParseError) (.ref C_LetterError) = some true)
    (iv_ParseError_InvalidCutter : PySem.W.subIn K (.ref C_ParseError) (.ref C_InvalidCutter) = some false)
    (iv_ParseError_InvalidCompany : PySem.W.subIn K (.ref C_ParseError) (.ref C_InvalidCompany) = some false)
    (iv_ParseError_InvalidBundle : PySem.W.subIn K (.ref C_ParseError) (.ref C_InvalidBundle) = some false)
    (iv_ParseError_InvalidRule : PySem.W.subIn K (.ref C_ParseError) (.ref C_InvalidRule) = some false)
    (iv_ParseError_InvalidLot : PySem.W.subIn K (.ref C_ParseError) (.ref C_InvalidLot) = some false)
    (iv_ParseError_InvalidState : PySem.W.subIn K (.ref C_ParseError) (.ref C_InvalidState) = some false)
    (iv_ParseError_InvalidLetter : PySem.W.subIn K (.ref C_ParseError) (.ref C_InvalidLetter) = some false)
    (iv_ParseError_InvalidPledge : PySem.W.subIn K (.ref C_ParseError) (.ref C_InvalidPledge) = some false)
    (iv_ParseError_InvalidOperation : PySem.W.subIn K (.ref C_ParseError) (.ref C_InvalidOperation) = some false)
    (iv_ParseError_UnknownName : PySem.W.subIn K (.ref C_ParseError) (.ref C_UnknownName) = some false)
    (iv_ParseError_InvalidNumber : PySem.W.subIn K (.ref C_ParseError) (.ref C_InvalidNumber) = some false)
    (iv_ParseError_TooMany : PySem.W.subIn K (.ref C_ParseError) (.ref C_TooMany) = some false)
    (iv_ParseError_NothingToUndo : PySem.W.subIn K (.ref C_ParseError) (.ref C_NothingToUndo) = some false)
    (iv_ParseError_Broken : PySem.W.subIn K (.ref C_ParseError) (.ref C_Broken) = some false)
    (iv_ParseError_ValueError : PySem.W.subIn K (.ref C_ParseError) (.type "ValueError") = some true)
    (iv_ParseError_KeyError : PySem.W.subIn K (.ref C_ParseError) (.type "KeyError") = some false)
    (iv_ParseError_RuntimeError : PySem.W.subIn K (.ref C_ParseError) (.type "RuntimeError") = some false)
    (iv_ParseError_OverflowError : PySem.W.subIn K (.ref C_ParseError) (.type "OverflowError") = some false)
    (iv_ParseError_IndexError : PySem.W.subIn K (.ref C_ParseError) (.type "IndexError") = some false)
    (iv_ParseError_ArithmeticError : PySem.W.subIn K (.ref C_ParseError) (.type "ArithmeticError") = some false)
    (iv_ParseError_LookupError : PySem.W.subIn K (.ref C_ParseError) (.type "LookupError") = some false)
    (iv_UnknownName_LetterError : PySem.W.subIn K (.ref C_UnknownName) (.ref C_LetterError) = some false)
    (iv_UnknownName_InvalidCutter : PySem.W.subIn K (.ref C_UnknownName) (.ref C_InvalidCutter) = some false)
    (iv_UnknownName_InvalidCompany : PySem.W.subIn K (.ref C_UnknownName) (.ref C_InvalidCompany) = some false)
    (iv_UnknownName_InvalidBundle : PySem.W.subIn K (.ref C_UnknownName) (.ref C_InvalidBundle) = some false)
    (iv_UnknownName_InvalidRule : PySem.W.subIn K (.ref C_UnknownName) (.ref C_InvalidRule) = some false)
    (iv_UnknownName_InvalidLot : PySem.W.subIn K (.ref C_UnknownName) (.ref C_InvalidLot) = some false)
    (iv_UnknownName_InvalidState : PySem.W.subIn K (.ref C_UnknownName) (.ref C_InvalidState) = some false)
    (iv_UnknownName_InvalidLetter : PySem.W.subIn K (.ref C_UnknownName) (.ref C_InvalidLetter) = some false)
    (iv_UnknownName_InvalidPledge : PySem.W.subIn K (.ref C_UnknownName) (.ref C_InvalidPledge) = some false)
    (iv_UnknownName_InvalidOperation : PySem.W.subIn K (.ref C_UnknownName) (.ref C_InvalidOperation) = some false)
    (iv_UnknownName_ParseError : PySem.W.subIn K (.ref C_UnknownName) (.ref C_ParseError) = some false)
    (iv_UnknownName_InvalidNumber : PySem.W.subIn K (.ref C_UnknownName) (.ref C_InvalidNumber) = some false)
    (iv_UnknownName_TooMany : PySem.W.subIn K (.ref C_UnknownName) (.ref C_TooMany) = some false)
    (iv_UnknownName_NothingToUndo : PySem.W.subIn K (.ref C_UnknownName) (.ref C_NothingToUndo) = some false)
    (iv_UnknownName_Broken : PySem.W.subIn K (.ref C_UnknownName) (.ref C_Broken) = some false)
    (iv_UnknownName_ValueError : PySem.W.subIn K (.ref C_UnknownName) (.type "ValueError") = some false)
    (iv_UnknownName_KeyError : PySem.W.subIn K (.ref C_UnknownName) (.type "KeyError") = some true)
    (iv_UnknownName_RuntimeError : PySem.W.subIn K (.ref C_UnknownName) (.type "RuntimeError") = some false)
    (iv_UnknownName_OverflowError : PySem.W.subIn K (.ref C_UnknownName) (.type "OverflowError") = some false)
    (iv_UnknownName_IndexError : PySem.W.subIn K (.ref C_UnknownName) (.type "IndexError") = some false)
    (iv_UnknownName_ArithmeticError : PySem.W.subIn K (.ref C_UnknownName) (.type "ArithmeticError") = some false)
    (iv_UnknownName_LookupError : PySem.W.subIn K (.ref C_UnknownName) (.type "LookupError") = some true)
    (iv_InvalidNumber_LetterError : PySem.W.subIn K (.ref C_InvalidNumber) (.ref C_LetterError) = some false)
    (iv_InvalidNumber_InvalidCutter : PySem.W.subIn K (.ref C_InvalidNumber) (.ref C_InvalidCutter) = some false)
    (iv_InvalidNumber_InvalidCompany : PySem.W.subIn K (.ref C_InvalidNumber) (.ref C_InvalidCompany) = some false)
    (iv_InvalidNumber_InvalidBundle : PySem.W.subIn K (.ref C_InvalidNumber) (.ref C_InvalidBundle) = some false)
    (iv_InvalidNumber_InvalidRule : PySem.W.subIn K (.ref C_InvalidNumber) (.ref C_InvalidRule) = some false)
    (iv_InvalidNumber_InvalidLot : PySem.W.subIn K (.ref C_InvalidNumber) (.ref C_InvalidLot) = some false)
    (iv_InvalidNumber_InvalidState : PySem.W.subIn K (.ref C_InvalidNumber) (.ref C_InvalidState) = some false)
    (iv_InvalidNumber_InvalidLetter : PySem.W.subIn K (.ref C_InvalidNumber) (.ref C_InvalidLetter) = some false)
    (iv_InvalidNumber_InvalidPledge : PySem.W.subIn K (.ref C_InvalidNumber) (.ref C_InvalidPledge) = some false)
    (iv_InvalidNumber_InvalidOperation : PySem.W.subIn K (.ref C_InvalidNumber) (.ref C_InvalidOperation) = some false)
    (iv_InvalidNumber_ParseError : PySem.W.subIn K (.ref C_InvalidNumber) (.ref C_ParseError) = some false)
    (iv_InvalidNumber_UnknownName : PySem.W.subIn K (.ref C_InvalidNumber) (.ref C_UnknownName) = some false)
    (iv_InvalidNumber_TooMany : PySem.W.subIn K (.ref C_InvalidNumber) (.ref C_TooMany) = some false)
    (iv_InvalidNumber_NothingToUndo : PySem.W.subIn K (.ref C_InvalidNumber) (.ref C_NothingToUndo) = some false)
    (iv_InvalidNumber_Broken : PySem.W.subIn K (.ref C_InvalidNumber) (.ref C_Broken) = some false)
    (iv_InvalidNumber_ValueError : PySem.W.subIn K (.ref C_InvalidNumber) (.type "ValueError") = some false)
    (iv_InvalidNumber_KeyError : PySem.W.subIn K (.ref C_InvalidNumber) (.type "KeyError") = some false)
    (iv_InvalidNumber_RuntimeError : PySem.W.subIn K (.ref C_InvalidNumber) (.type "RuntimeError") = some true)
    (iv_InvalidNumber_OverflowError : PySem.W.subIn K (.ref C_InvalidNumber) (.type "OverflowError") = some false)
    (iv_InvalidNumber_IndexError : PySem.W.subIn K (.ref C_InvalidNumber) (.type "IndexError") = some false)
    (iv_InvalidNumber_ArithmeticError : PySem.W.subIn K (.ref C_InvalidNumber) (.type "ArithmeticError") = some false)
    (iv_InvalidNumber_LookupError : PySem.W.subIn K (.ref C_InvalidNumber) (.type "LookupError") = some false)
    (iv_TooMany_LetterError : PySem.W.subIn K (.ref C_TooMany) (.ref C_LetterError) = some false)
    (iv_TooMany_InvalidCutter : PySem.W.subIn K (.ref C_TooMany) (.ref C_InvalidCutter) = some false)
    (iv_TooMany_InvalidCompany : PySem.W.subIn K (.ref C_TooMany) (.ref C_InvalidCompany) = some false)
    (iv_TooMany_InvalidBundle : PySem.W.subIn K (.ref C_TooMany) (.ref C_InvalidBundle) = some false)
    (iv_TooMany_InvalidRule : PySem.W.subIn K (.ref C_TooMany) (.ref C_InvalidRule) = some false)
    (iv_TooMany_InvalidLot : PySem.W.subIn K (.ref C_TooMany) (.ref C_InvalidLot) = some false)
    (iv_TooMany_InvalidState : PySem.W.subIn K (.ref C_TooMany) (.ref C_InvalidState) = some false)
    (iv_TooMany_InvalidLetter : PySem.W.subIn K (.ref C_TooMany) (.ref C_InvalidLetter) = some false)
    (iv_TooMany_InvalidPledge : PySem.W.subIn K (.ref C_TooMany) (.ref C_InvalidPledge) = some false)
    (iv_TooMany_InvalidOperation : PySem.W.subIn K (.ref C_TooMany) (.ref C_InvalidOperation) = some false)
    (iv_TooMany_ParseError : PySem.W.subIn K (.ref C_TooMany) (.ref C_ParseError) = some false)
    (iv_TooMany_UnknownName : PySem.W.subIn K (.ref C_TooMany) (.ref C_UnknownName) = some false)
    (iv_TooMany_InvalidNumber : PySem.W.subIn K (.ref C_TooMany) (.ref C_InvalidNumber) = some false)
    (iv_TooMany_NothingToUndo : PySem.W.subIn K (.ref C_TooMany) (.ref C_NothingToUndo) = some false)
    (iv_TooMany_Broken : PySem.W.subIn K (.ref C_TooMany) (.ref C_Broken) = some false)
    (iv_TooMany_ValueError : PySem.W.subIn K (.ref C_TooMany) (.type "ValueError") = some false)
    (iv_TooMany_KeyError : PySem.W.subIn K (.ref C_TooMany) (.type "KeyError") = some false)
    (iv_TooMany_RuntimeError : PySem.W.subIn K (.ref C_TooMany) (.type "RuntimeError") = some false)
    (iv_TooMany_OverflowError : PySem.W.subIn K (.ref C_TooMany) (.type "OverflowError") = some true)
    (iv_TooMany_IndexError : PySem.W.subIn K (.ref C_TooMany) (.type "IndexError") = some false)
    (iv_TooMany_ArithmeticError : PySem.W.subIn K (.ref C_TooMany) (.type "ArithmeticError") = some true)
    (iv_TooMany_LookupError : PySem.W.subIn K (.ref C_TooMany) (.type "LookupError") = some false)
    (iv_NothingToUndo_LetterError : PySem.W.subIn K (.ref C_NothingToUndo) (.ref C_LetterError) = some false)
    (iv_NothingToUndo_InvalidCutter : PySem.W.subIn K (.ref C_NothingToUndo) (.ref C_InvalidCutter) = some false)
    (iv_NothingToUndo_InvalidCompany : PySem.W.subIn K (.ref C_NothingToUndo) (.ref C_InvalidCompany) = some false)
    (iv_NothingToUndo_InvalidBundle : PySem.W.subIn K (.ref C_NothingToUndo) (.ref C_InvalidBundle) = some false)
    (iv_NothingToUndo_InvalidRule : PySem.W.subIn K (.ref C_NothingToUndo) (.ref C_InvalidRule) = some false)
    (iv_NothingToUndo_InvalidLot : PySem.W.subIn K (.ref C_NothingToUndo) (.ref C_InvalidLot) = some false)
    (iv_NothingToUndo_InvalidState : PySem.W.subIn K (.ref C_NothingToUndo) (.ref C_InvalidState) = some false)
    (iv_NothingToUndo_InvalidLetter : PySem.W.subIn K (.ref C_NothingToUndo) (.ref C_InvalidLetter) = some false)
    (iv_NothingToUndo_InvalidPledge : PySem.W.subIn K (.ref C_NothingToUndo) (.ref C_InvalidPledge) = some false)
    (iv_NothingToUndo_InvalidOperation : PySem.W.subIn K (.ref C_NothingToUndo) (.ref C_InvalidOperation) = some false)
    (iv_NothingToUndo_ParseError : PySem.W.subIn K (.ref C_NothingToUndo) (.ref C_ParseError) = some false)
    (iv_NothingToUndo_UnknownName : PySem.W.subIn K (.ref C_NothingToUndo) (.ref C_UnknownName) = some false)
    (iv_NothingToUndo_InvalidNumber : PySem.W.subIn K (.ref C_NothingToUndo) (.ref C_InvalidNumber) = some false)
    (iv_NothingToUndo_TooMany : PySem.W.subIn K (.ref C_NothingToUndo) (.ref C_TooMany) = some false)
    (iv_NothingToUndo_Broken : PySem.W.subIn K (.ref C_NothingToUndo) (.ref C_Broken) = some false)
    (iv_NothingToUndo_ValueError : PySem.W.subIn K (.ref C_NothingToUndo) (.type "ValueError") = some false)
    (iv_NothingToUndo_KeyError : PySem.W.subIn K (.ref C_NothingToUndo) (.type "KeyError") = some false)
    (iv_NothingToUndo_RuntimeError : PySem.W.subIn K (.ref C_NothingToUndo) (.type "RuntimeError") = some false)
    (iv_NothingToUndo_OverflowError : PySem.W.subIn K (.ref C_NothingToUndo) (.type "OverflowError") = some false)
    (iv_NothingToUndo_IndexError : PySem.W.subIn K (.ref C_NothingToUndo) (.type "IndexError") = some true)
    (iv_NothingToUndo_ArithmeticError : PySem.W.subIn K (.ref C_NothingToUndo) (.type "ArithmeticError") = some false)
    (iv_NothingToUndo_LookupError : PySem.W.subIn K (.ref C_NothingToUndo) (.type "LookupError") = some true)
    (iv_Broken_LetterError : PySem.W.subIn K (.ref C_Broken) (.ref C_LetterError) = some false)
    (iv_Broken_InvalidCutter : PySem.W.subIn K (.ref C_Broken) (.ref C_InvalidCutter) = some false)
    (iv_Broken_InvalidCompany : PySem.W.subIn K (.ref C_Broken) (.ref C_InvalidCompany) = some false)
    (iv_Broken_InvalidBundle : PySem.W.subIn K (.ref C_Broken) (.ref C_InvalidBundle) = some false)
    (iv_Broken_InvalidRule : PySem.W.subIn K (.ref C_Broken) (.ref C_InvalidRule) = some false)
    (iv_Broken_InvalidLot : PySem.W.subIn K (.ref C_Broken) (.ref C_InvalidLot) = some false)
    (iv_Broken_InvalidState : PySem.W.subIn K (.ref C_Broken) (.ref C_InvalidState) = some false)
    (iv_Broken_InvalidLetter : PySem.W.subIn K (.ref C_Broken) (.ref C_InvalidLetter) = some false)
    (iv_Broken_InvalidPledge : PySem.W.subIn K (.ref C_Broken) (.ref C_InvalidPledge) = some false)
    (iv_Broken_InvalidOperation : PySem.W.subIn K (.ref C_Broken) (.ref C_InvalidOperation) = some false)
    (iv_Broken_ParseError : PySem.W.subIn K (.ref C_Broken) (.ref C_ParseError) = some false)
    (iv_Broken_UnknownName : PySem.W.subIn K (.ref C_Broken) (.ref C_UnknownName) = some false)
    (iv_Broken_InvalidNumber : PySem.W.subIn K (.ref C_Broken) (.ref C_InvalidNumber) = some false)
    (iv_Broken_TooMany : PySem.W.subIn K (.ref C_Broken) (.ref C_TooMany) = some false)
    (iv_Broken_NothingToUndo : PySem.W.subIn K (.ref C_Broken) (.ref C_NothingToUndo) = some false)
    (iv_Broken_ValueError : PySem.W.subIn K (.ref C_Broken) (.type "ValueError") = some false)
    (iv_Broken_KeyError : PySem.W.subIn K (.ref C_Broken) (.type "KeyError") = some false)
    (iv_Broken_RuntimeError : PySem.W.subIn K (.ref C_Broken) (.type "RuntimeError") = some false)
    (iv_Broken_OverflowError : PySem.W.subIn K (.ref C_Broken) (.type "OverflowError") = some false)
    (iv_Broken_IndexError : PySem.W.subIn K (.ref C_Broken) (.type "IndexError") = some false)
    (iv_Broken_ArithmeticError : PySem.W.subIn K (.ref C_Broken) (.type "ArithmeticError") = some true)
    (iv_Broken_LookupError : PySem.W.subIn K (.ref C_Broken) (.type "LookupError") = some false) :
    ∃ fd : FuncData, (∀ (s : Shared) (v : Value), BindsTo s fd ⟨[v], []⟩ [("_law_script", v)]) ∧ ∀ base : Heap, FnG l.prog w K mg base 4 fa fd ["_law_script"] (spD K PreLaw) := by
  have e := hfa.symm.trans (PySem.W.mg_of X G a_law)
  cases e
  have T : Tx l.prog K mg { C_LetterError := C_LetterError, C_InvalidCutter := C_InvalidCutter, C_InvalidCompany := C_InvalidCompany, C_InvalidBundle := C_InvalidBundle, C_InvalidRule := C_InvalidRule, C_InvalidLot := C_InvalidLot, C_InvalidState := C_InvalidState, C_InvalidLetter := C_InvalidLetter, C_InvalidPledge := C_InvalidPledge, C_InvalidOperation := C_InvalidOperation, C_ParseError := C_ParseError, f_ParseError := f_ParseError, C_UnknownName := C_UnknownName, f_UnknownName := f_UnknownName, C_InvalidNumber := C_InvalidNumber, f_InvalidNumber := f_InvalidNumber, C_TooMany := C_TooMany, f_TooMany := f_TooMany, C_NothingToUndo := C_NothingToUndo, f_NothingToUndo := f_NothingToUndo, C_Broken := C_Broken, f_Broken := f_Broken } :=
    {
      m_int := PySem.W.mg_none_of X G z_int
      m_max := PySem.W.mg_none_of X G z_max
      m_len := PySem.W.mg_none_of X G z_len
      m_abs := PySem.W.mg_none_of X G z_abs
      m_isinstance := PySem.W.mg_none_of X G z_isinstance
      m_ValueError := PySem.W.mg_none_of X G z_ValueError
      m_KeyError := PySem.W.mg_none_of X G z_KeyError
      m_RuntimeError := PySem.W.mg_none_of X G z_RuntimeError
      m_OverflowError := PySem.W.mg_none_of X G z_OverflowError
      m_IndexError := PySem.W.mg_none_of X G z_IndexError
      m_ArithmeticError := PySem.W.mg_none_of X G z_ArithmeticError
      m_LookupError := PySem.W.mg_none_of X G z_LookupError
      m_enumerate := PySem.W.mg_none_of X G z_enumerate
      m_repr := PySem.W.mg_none_of X G z_repr
      m_range := PySem.W.mg_none_of X G z_range
      m_min := PySem.W.mg_none_of X G z_min
      m_str := PySem.W.mg_none_of X G z_str
      D__law_dice := ⟨_, _, fun_mk (st := s__law_dice) l__law_dice c__law_dice k__law_dice, (fun_mk (st := s__law_dice) l__law_dice c__law_dice k__law_dice).binds fun _ _ _ _ _ _ us hl => match us, hl with | [_, _], _ => rfl, PySem.W.mg_of X G a__law_dice⟩
      D__law_roll := ⟨_, _, fun_mk (st := s__law_roll) l__law_roll c__law_roll k__law_roll, (fun_mk (st := s__law_roll) l__law_roll c__law_roll k__law_roll).binds fun _ _ _ _ _ _ us hl => match us, hl with | [_, _], _ => rfl, PySem.W.mg_of X G a__law_roll⟩
      D__law_one_of := ⟨_, _, fun_mk (st := s__law_one_of) l__law_one_of c__law_one_of k__law_one_of, (fun_mk (st := s__law_one_of) l__law_one_of c__law_one_of k__law_one_of).binds fun _ _ _ _ _ _ us hl => match us, hl with | [_, _], _ => rfl, PySem.W.mg_of X G a__law_one_of⟩
      D__law_kinds_of := ⟨_, _, fun_mk (st := s__law_kinds_of) l__law_kinds_of c__law_kinds_of k__law_kinds_of, (fun_mk (st := s__law_kinds_of) l__law_kinds_of c__law_kinds_of k__law_kinds_of).binds fun _ _ _ _ _ _ us hl => match us, hl with | [_], _ => rfl, PySem.W.mg_of X G a__law_kinds_of⟩
      D__law_right := ⟨_, _, fun_mk (st := s__law_right) l__law_right c__law_right k__law_right, (fun_mk (st := s__law_right) l__law_right c__law_right k__law_right).binds fun _ _ _ _ _ _ us hl => match us, hl with | [_, _], _ => rfl, PySem.W.mg_of X G a__law_right⟩
      D_law := ⟨_, _, fun_mk (st := s_law) l_law c_law k_law, (fun_mk (st := s_law) l_law c_law k_law).binds fun _ _ _ _ _ _ us hl => match us, hl with | [_], _ => rfl, PySem.W.mg_of X G a_law⟩
      x_LetterError := ⟨PySem.W.mg_of X G aC_LetterError, xi_LetterError, kp_LetterError, sb_LetterError, ty_LetterError, hd_LetterError⟩
      m_LetterError := PySem.W.mg_of X G aC_LetterError
      ev_LetterError := ⟨ga_LetterError, gg_LetterError, sb_LetterError, hd_LetterError, ca_LetterError, cn_LetterError, ctk_LetterError, cm_LetterError⟩
      x_InvalidCutter := ⟨PySem.W.mg_of X G aC_InvalidCutter, xi_InvalidCutter, kp_InvalidCutter, sb_InvalidCutter, ty_InvalidCutter, hd_InvalidCutter⟩
      m_InvalidCutter := PySem.W.mg_of X G aC_InvalidCutter
      ev_InvalidCutter := ⟨ga_InvalidCutter, gg_InvalidCutter, sb_InvalidCutter, hd_InvalidCutter, ca_InvalidCutter, cn_InvalidCutter, ctk_InvalidCutter, cm_InvalidCutter⟩
      x_InvalidCompany := ⟨PySem.W.mg_of X G aC_InvalidCompany, xi_InvalidCompany, kp_InvalidCompany, sb_InvalidCompany, ty_InvalidCompany, hd_InvalidCompany⟩
      m_InvalidCompany := PySem.W.mg_of X G aC_InvalidCompany
      ev_InvalidCompany := ⟨ga_InvalidCompany, gg_InvalidCompany, sb_InvalidCompany, hd_InvalidCompany, ca_InvalidCompany, cn_InvalidCompany, ctk_InvalidCompany, cm_InvalidCompany⟩
      x_InvalidBundle := ⟨PySem.W.mg_of X G aC_InvalidBundle, xi_InvalidBundle, kp_InvalidBundle, sb_InvalidBundle, ty_InvalidBundle, hd_InvalidBundle⟩
      m_InvalidBundle := PySem.W.mg_of X G aC_InvalidBundle
      ev_InvalidBundle := ⟨ga_InvalidBundle, gg_InvalidBundle, sb_InvalidBundle, hd_InvalidBundle, ca_InvalidBundle, cn_InvalidBundle, ctk_InvalidBundle, cm_InvalidBundle⟩
      x_InvalidRule := ⟨PySem.W.mg_of X G aC_InvalidRule, xi_InvalidRule, kp_InvalidRule, sb_InvalidRule, ty_InvalidRule, hd_InvalidRule⟩
      m_InvalidRule := PySem.W.mg_of X G aC_InvalidRule
      ev_InvalidRule := ⟨ga_InvalidRule, gg_InvalidRule, sb_InvalidRule, hd_InvalidRule, ca_InvalidRule, cn_InvalidRule, ctk_InvalidRule, cm_InvalidRule⟩
      x_InvalidLot := ⟨PySem.W.mg_of X G aC_InvalidLot, xi_InvalidLot, kp_InvalidLot, sb_InvalidLot, ty_InvalidLot, hd_InvalidLot⟩
      m_InvalidLot := PySem.W.mg_of X G aC_InvalidLot
      ev_InvalidLot := ⟨ga_InvalidLot, gg_InvalidLot, sb_InvalidLot, hd_InvalidLot, ca_InvalidLot, cn_InvalidLot, ctk_InvalidLot, cm_InvalidLot⟩
      x_InvalidState := ⟨PySem.W.mg_of X G aC_InvalidState, xi_InvalidState, kp_InvalidState, sb_InvalidState, ty_InvalidState, hd_InvalidState⟩
      m_InvalidState := PySem.W.mg_of X G aC_InvalidState
      ev_InvalidState := ⟨ga_InvalidState, gg_InvalidState, sb_InvalidState, hd_InvalidState, ca_InvalidState, cn_InvalidState, ctk_InvalidState, cm_InvalidState⟩
      x_InvalidLetter := ⟨PySem.W.mg_of X G aC_InvalidLetter, xi_InvalidLetter, kp_InvalidLetter, sb_InvalidLetter, ty_InvalidLetter, hd_InvalidLetter⟩
      m_InvalidLetter := PySem.W.mg_of X G aC_InvalidLetter
      ev_InvalidLetter := ⟨ga_InvalidLetter, gg_InvalidLetter, sb_InvalidLetter, hd_InvalidLetter, ca_InvalidLetter, cn_InvalidLetter, ctk_InvalidLetter, cm_InvalidLetter⟩
      x_InvalidPledge := ⟨PySem.W.mg_of X G aC_InvalidPledge, xi_InvalidPledge, kp_InvalidPledge, sb_InvalidPledge, ty_InvalidPledge, hd_InvalidPledge⟩
      m_InvalidPledge := PySem.W.mg_of X G aC_InvalidPledge
      ev_InvalidPledge := ⟨ga_InvalidPledge, gg_InvalidPledge, sb_InvalidPledge, hd_InvalidPledge, ca_InvalidPledge, cn_InvalidPledge, ctk_InvalidPledge, cm_InvalidPledge⟩
      x_InvalidOperation := ⟨PySem.W.mg_of X G aC_InvalidOperation, xi_InvalidOperation, kp_InvalidOperation, sb_InvalidOperation, ty_InvalidOperation, hd_InvalidOperation⟩
      m_InvalidOperation := PySem.W.mg_of X G aC_InvalidOperation
      ev_InvalidOperation := ⟨ga_InvalidOperation, gg_InvalidOperation, sb_InvalidOperation, hd_InvalidOperation, ca_InvalidOperation, cn_InvalidOperation, ctk_InvalidOperation, cm_InvalidOperation⟩
      y_ParseError := ⟨PySem.W.mg_of X G aC_ParseError, kp_ParseError, ⟨PySem.W.kxs_ValueError, (.of PySem.F.excBase_ValueError.toExcCallFacts), ⟨_, _, _, _, _, _, _, _, _, _, _, _, _, _, _, lk_ParseError, ⟨_, _, _, PySem.F.excBase_ValueError, (by rfl), (by rfl), (by rfl)⟩, (fun y => by rw [refuseLoop_ref]; rw [refuseLoop_ref]; exact PySem.F.store_ValueError.passes y), along_of lkL_ParseError mL_ParseError fiL_ParseError, (by rfl)⟩, sa_ParseError, (by intro f hf; cases List.mem_singleton.mp hf; exact nf0_ParseError), ini_ParseError, tyf_ParseError, subB_ParseError, subC_ParseError, op_ParseError, PySem.W.mg_none_of X G sup_ParseError, ⟨_, _, _, _, _, _, _, _, _, _, _, _, _, _, _, _, _, _, _, _, lf_ParseError, cd_ParseError, lcd_ParseError, vs2_ParseError, fi_ParseError, lcc_ParseError⟩, top_ParseError⟩, ⟨ga_ParseError, gg_ParseError, sb_ParseError, hd_ParseError⟩⟩
      m_ParseError := PySem.W.mg_of X G aC_ParseError
      ev_ParseError := ⟨ga_ParseError, gg_ParseError, sb_ParseError, hd_ParseError, ca_ParseError, cn_ParseError, ctk_ParseError, cm_ParseError⟩
      n_ParseError_line := nf0_ParseError
      y_UnknownName := ⟨PySem.W.mg_of X G aC_UnknownName, kp_UnknownName, ⟨kxs_KeyError, initF_KeyError, ⟨_, _, _, _, _, _, _, _, _, _, _, _, _, _, _, lk_UnknownName, ⟨_, _, _, PySem.F.excBase_LookupError, (by rfl), (by rfl), (by rfl)⟩, (fun y => by rw [refuseLoop_ref]; exact passes_KeyError y), (by kernel_rfl), (by rfl)⟩, sa_UnknownName, (by intro f hf; cases List.mem_singleton.mp hf; exact nf0_UnknownName), ini_UnknownName, tyf_UnknownName, subB_UnknownName, subC_UnknownName, op_UnknownName, PySem.W.mg_none_of X G sup_UnknownName, ⟨_, _, _, _, _, _, _, _, _, _, _, _, _, _, _, _, _, _, _, _, lf_UnknownName, cd_UnknownName, lcd_UnknownName, vs2_UnknownName, fi_UnknownName, lcc_UnknownName⟩, top_UnknownName⟩, ⟨ga_UnknownName, gg_UnknownName, sb_UnknownName, hd_UnknownName⟩⟩
      m_UnknownName := PySem.W.mg_of X G aC_UnknownName
      ev_UnknownName := ⟨ga_UnknownName, gg_UnknownName, sb_UnknownName, hd_UnknownName, ca_UnknownName, cn_UnknownName, ctk_UnknownName, cm_UnknownName⟩
      n_UnknownName_name := nf0_UnknownName
      y_InvalidNumber := ⟨PySem.W.mg_of X G aC_InvalidNumber, kp_InvalidNumber, ⟨PySem.W.kxs_RuntimeError, (.of PySem.F.excBase_RuntimeError.toExcCallFacts), ⟨_, _, _, _, _, _, _, _, _, _, _, _, _, _, _, lk_InvalidNumber, ⟨_, _, _, PySem.F.excBase_RuntimeError, (by rfl), (by rfl), (by rfl)⟩, (fun y => by rw [refuseLoop_ref]; exact PySem.F.store_RuntimeError.passes y), (by kernel_rfl), (by rfl)⟩, sa_InvalidNumber, (by intro f hf; cases List.mem_singleton.mp hf; exact nf0_InvalidNumber), ini_InvalidNumber, tyf_InvalidNumber, subB_InvalidNumber, subC_InvalidNumber, op_InvalidNumber, PySem.W.mg_none_of X G sup_InvalidNumber, ⟨_, _, _, _, _, _, _, _, _, _, _, _, _, _, _, _, _, _, _, _, lf_InvalidNumber, cd_InvalidNumber, lcd_InvalidNumber, vs2_InvalidNumber, fi_InvalidNumber, lcc_InvalidNumber⟩, top_InvalidNumber⟩, ⟨ga_InvalidNumber, gg_InvalidNumber, sb_InvalidNumber, hd_InvalidNumber⟩⟩
      m_InvalidNumber := PySem.W.mg_of X G aC_InvalidNumber
      ev_InvalidNumber := ⟨ga_InvalidNumber, gg_InvalidNumber, sb_InvalidNumber, hd_InvalidNumber, ca_InvalidNumber, cn_InvalidNumber, ctk_InvalidNumber, cm_InvalidNumber⟩
      n_InvalidNumber_value := nf0_InvalidNumber
      y_TooMany := ⟨PySem.W.mg_of X G aC_TooMany, kp_TooMany, ⟨PySem.W.kxs_OverflowError, (.of PySem.F.excBase_OverflowError.toExcCallFacts), ⟨_, _, _, _, _, _, _, _, _, _, _, _, _, _, _, lk_TooMany, ⟨_, _, _, PySem.F.excBase_OverflowError, (by rfl), (by rfl), (by rfl)⟩, (fun y => by rw [refuseLoop_ref]; exact PySem.F.store_OverflowError.passes y), (by kernel_rfl), (by rfl)⟩, sa_TooMany, (by intro f hf; cases List.mem_singleton.mp hf; exact nf0_TooMany), ini_TooMany, tyf_TooMany, subB_TooMany, subC_TooMany, op_TooMany, PySem.W.mg_none_of X G sup_TooMany, ⟨_, _, _, _, _, _, _, _, _, _, _, _, _, _, _, _, _, _, _, _, lf_TooMany, cd_TooMany, lcd_TooMany, vs2_TooMany, fi_TooMany, lcc_TooMany⟩, top_TooMany⟩, ⟨ga_TooMany, gg_TooMany, sb_TooMany, hd_TooMany⟩⟩
      m_TooMany := PySem.W.mg_of X G aC_TooMany
      ev_TooMany := ⟨ga_TooMany, gg_TooMany, sb_TooMany, hd_TooMany, ca_TooMany, cn_TooMany, ctk_TooMany, cm_TooMany⟩
      n_TooMany_limit := nf0_TooMany
      y_NothingToUndo := ⟨PySem.W.mg_of X G aC_NothingToUndo, kp_NothingToUndo, ⟨PySem.W.kxs_IndexError, (.of PySem.F.excBase_IndexError.toExcCallFacts), ⟨_, _, _, _, _, _, _, _, _, _, _, _, _, _, _, lk_NothingToUndo, ⟨_, _, _, PySem.F.excBase_IndexError, (by rfl), (by rfl), (by rfl)⟩, (fun y => by rw [refuseLoop_ref]; exact PySem.F.store_IndexError.passes y), (by kernel_rfl), (by rfl)⟩, sa_NothingToUndo, (by intro f hf; cases List.mem_singleton.mp hf; exact nf0_NothingToUndo), ini_NothingToUndo, tyf_NothingToUndo, subB_NothingToUndo, subC_NothingToUndo, op_NothingToUndo, PySem.W.mg_none_of X G sup_NothingToUndo, ⟨_, _, _, _, _, _, _, _, _, _, _, _, _, _, _, _, _, _, _, _, lf_NothingToUndo, cd_NothingToUndo, lcd_NothingToUndo, vs2_NothingToUndo, fi_NothingToUndo, lcc_NothingToUndo⟩, top_NothingToUndo⟩, ⟨ga_NothingToUndo, gg_NothingToUndo, sb_NothingToUndo, hd_NothingToUndo⟩⟩
      m_NothingToUndo := PySem.W.mg_of X G aC_NothingToUndo
      ev_NothingToUndo := ⟨ga_NothingToUndo, gg_NothingToUndo, sb_NothingToUndo, hd_NothingToUndo, ca_NothingToUndo, cn_NothingToUndo, ctk_NothingToUndo, cm_NothingToUndo⟩
      n_NothingToUndo_many := nf0_NothingToUndo
      y_Broken := ⟨PySem.W.mg_of X G aC_Broken, kp_Broken, ⟨PySem.W.kxs_ArithmeticError, (.of PySem.F.excBase_ArithmeticError.toExcCallFacts), ⟨_, _, _, _, _, _, _, _, _, _, _, _, _, _, _, lk_Broken, ⟨_, _, _, PySem.F.excBase_ArithmeticError, (by rfl), (by rfl), (by rfl)⟩, (fun y => by rw [refuseLoop_ref]; exact PySem.F.store_ArithmeticError.passes y), (by kernel_rfl), (by rfl)⟩, sa_Broken, (by intro f hf; simp only [List.mem_cons, List.not_mem_nil, or_false] at hf; rcases hf with rfl | rfl <;> assumption), ini_Broken, tyf_Broken, subB_Broken, subC_Broken, op_Broken, PySem.W.mg_none_of X G sup_Broken, ⟨_, _, _, _, _, _, _, _, _, _, _, _, _, _, _, _, _, _, _, _, lf_Broken, cd_Broken, lcd_Broken, vs2_Broken, fi_Broken, lcc_Broken⟩, top_Broken⟩, ⟨ga_Broken, gg_Broken, sb_Broken, hd_Broken⟩⟩
      m_Broken := PySem.W.mg_of X G aC_Broken
      ev_Broken := ⟨ga_Broken, gg_Broken, sb_Broken, hd_Broken, ca_Broken, cn_Broken, ctk_Broken, cm_Broken⟩
      n_Broken_name := nf0_Broken
      n_Broken_reason := nf1_Broken
      iv_LetterError := ⟨kit_self, kit_own hd_InvalidCutter ty_InvalidCutter sc_InvalidCutter iv_LetterError_InvalidCutter, kit_own hd_InvalidCompany ty_InvalidCompany sc_InvalidCompany iv_LetterError_InvalidCompany, kit_own hd_InvalidBundle ty_InvalidBundle sc_InvalidBundle iv_LetterError_InvalidBundle, kit_own hd_InvalidRule ty_InvalidRule sc_InvalidRule iv_LetterError_InvalidRule, kit_own hd_InvalidLot ty_InvalidLot sc_InvalidLot iv_LetterError_InvalidLot, kit_own hd_InvalidState ty_InvalidState sc_InvalidState iv_LetterError_InvalidState, kit_own hd_InvalidLetter ty_InvalidLetter sc_InvalidLetter iv_LetterError_InvalidLetter, kit_own hd_InvalidPledge ty_InvalidPledge sc_InvalidPledge iv_LetterError_InvalidPledge, kit_own hd_InvalidOperation ty_InvalidOperation sc_InvalidOperation iv_LetterError_InvalidOperation, kit_own hd_ParseError ty_ParseError sc_ParseError iv_LetterError_ParseError, kit_own hd_UnknownName ty_UnknownName sc_UnknownName iv_LetterError_UnknownName, kit_own hd_InvalidNumber ty_InvalidNumber sc_InvalidNumber iv_LetterError_InvalidNumber, kit_own hd_TooMany ty_TooMany sc_TooMany iv_LetterError_TooMany, kit_own hd_NothingToUndo ty_NothingToUndo sc_NothingToUndo iv_LetterError_NothingToUndo, kit_own hd_Broken ty_Broken sc_Broken iv_LetterError_Broken, kit_blt (by decide +kernel) iv_LetterError_ValueError, kit_blt (by decide +kernel) iv_LetterError_KeyError, kit_blt (by decide +kernel) iv_LetterError_RuntimeError, kit_blt (by decide +kernel) iv_LetterError_OverflowError, kit_blt (by decide +kernel) iv_LetterError_IndexError, kit_blt (by decide +kernel) iv_LetterError_ArithmeticError, kit_blt (by decide +kernel) iv_LetterError_LookupError, trivial⟩
      iv_InvalidCutter := ⟨kit_own hd_LetterError ty_LetterError sc_LetterError iv_InvalidCutter_LetterError, kit_self, kit_own hd_InvalidCompany ty_InvalidCompany sc_InvalidCompany iv_InvalidCutter_InvalidCompany, kit_own hd_InvalidBundle ty_InvalidBundle sc_InvalidBundle iv_InvalidCutter_InvalidBundle, kit_own hd_InvalidRule ty_InvalidRule sc_InvalidRule iv_InvalidCutter_InvalidRule, kit_own hd_InvalidLot ty_InvalidLot sc_InvalidLot iv_InvalidCutter_InvalidLot, kit_own hd_InvalidState ty_InvalidState sc_InvalidState iv_InvalidCutter_InvalidState, kit_own hd_InvalidLetter ty_InvalidLetter sc_InvalidLetter iv_InvalidCutter_InvalidLetter, kit_own hd_InvalidPledge ty_InvalidPledge sc_InvalidPledge iv_InvalidCutter_InvalidPledge, kit_own hd_InvalidOperation ty_InvalidOperation sc_InvalidOperation iv_InvalidCutter_InvalidOperation, kit_own hd_ParseError ty_ParseError sc_ParseError iv_InvalidCutter_ParseError, kit_own hd_UnknownName ty_UnknownName sc_UnknownName iv_InvalidCutter_UnknownName, kit_own hd_InvalidNumber ty_InvalidNumber sc_InvalidNumber iv_InvalidCutter_InvalidNumber, kit_own hd_TooMany ty_TooMany sc_TooMany iv_InvalidCutter_TooMany, kit_own hd_NothingToUndo ty_NothingToUndo sc_NothingToUndo iv_InvalidCutter_NothingToUndo, kit_own hd_Broken ty_Broken sc_Broken iv_InvalidCutter_Broken, kit_blt (by decide +kernel) iv_InvalidCutter_ValueError, kit_blt (by decide +kernel) iv_InvalidCutter_KeyError, kit_blt (by decide +kernel) iv_InvalidCutter_RuntimeError, kit_blt (by decide +kernel) iv_InvalidCutter_OverflowError, kit_blt (by decide +kernel) iv_InvalidCutter_IndexError, kit_blt (by decide +kernel) iv_InvalidCutter_ArithmeticError, kit_blt (by decide +kernel) iv_InvalidCutter_LookupError, trivial⟩
      iv_InvalidCompany := ⟨kit_own hd_LetterError ty_LetterError sc_LetterError iv_InvalidCompany_LetterError, kit_own hd_InvalidCutter ty_InvalidCutter sc_InvalidCutter iv_InvalidCompany_InvalidCutter, kit_self, kit_own hd_InvalidBundle ty_InvalidBundle sc_InvalidBundle iv_InvalidCompany_InvalidBundle, kit_own hd_InvalidRule ty_InvalidRule sc_InvalidRule iv_InvalidCompany_InvalidRule, kit_own hd_InvalidLot ty_InvalidLot sc_InvalidLot iv_InvalidCompany_InvalidLot, kit_own hd_InvalidState ty_InvalidState sc_InvalidState iv_InvalidCompany_InvalidState, kit_own hd_InvalidLetter ty_InvalidLetter sc_InvalidLetter iv_InvalidCompany_InvalidLetter, kit_own hd_InvalidPledge ty_InvalidPledge sc_InvalidPledge iv_InvalidCompany_InvalidPledge, kit_own hd_InvalidOperation ty_InvalidOperation sc_InvalidOperation iv_InvalidCompany_InvalidOperation, kit_own hd_ParseError ty_ParseError sc_ParseError iv_InvalidCompany_ParseError, kit_own hd_UnknownName ty_UnknownName sc_UnknownName iv_InvalidCompany_UnknownName, kit_own hd_InvalidNumber ty_InvalidNumber sc_InvalidNumber iv_InvalidCompany_InvalidNumber, kit_own hd_TooMany ty_TooMany sc_TooMany iv_InvalidCompany_TooMany, kit_own hd_NothingToUndo ty_NothingToUndo sc_NothingToUndo iv_InvalidCompany_NothingToUndo, kit_own hd_Broken ty_Broken sc_Broken iv_InvalidCompany_Broken, kit_blt (by decide +kernel) iv_InvalidCompany_ValueError, kit_blt (by decide +kernel) iv_InvalidCompany_KeyError, kit_blt (by decide +kernel) iv_InvalidCompany_RuntimeError, kit_blt (by decide +kernel) iv_InvalidCompany_OverflowError, kit_blt (by decide +kernel) iv_InvalidCompany_IndexError, kit_blt (by decide +kernel) iv_InvalidCompany_ArithmeticError, kit_blt (by decide +kernel) iv_InvalidCompany_LookupError, trivial⟩
      iv_InvalidBundle := ⟨kit_own hd_LetterError ty_LetterError sc_LetterError iv_InvalidBundle_LetterError, kit_own hd_InvalidCutter ty_InvalidCutter sc_InvalidCutter iv_InvalidBundle_InvalidCutter, kit_own hd_InvalidCompany ty_InvalidCompany sc_InvalidCompany iv_InvalidBundle_InvalidCompany, kit_self, kit_own hd_InvalidRule ty_InvalidRule sc_InvalidRule iv_InvalidBundle_InvalidRule, kit_own hd_InvalidLot ty_InvalidLot sc_InvalidLot iv_InvalidBundle_InvalidLot, kit_own hd_InvalidState ty_InvalidState sc_InvalidState iv_InvalidBundle_InvalidState, kit_own hd_InvalidLetter ty_InvalidLetter sc_InvalidLetter iv_InvalidBundle_InvalidLetter, kit_own hd_InvalidPledge ty_InvalidPledge sc_InvalidPledge iv_InvalidBundle_InvalidPledge, kit_own hd_InvalidOperation ty_InvalidOperation sc_InvalidOperation iv_InvalidBundle_InvalidOperation, kit_own hd_ParseError ty_ParseError sc_ParseError iv_InvalidBundle_ParseError, kit_own hd_UnknownName ty_UnknownName sc_UnknownName iv_InvalidBundle_UnknownName, kit_own hd_InvalidNumber ty_InvalidNumber sc_InvalidNumber iv_InvalidBundle_InvalidNumber, kit_own hd_TooMany ty_TooMany sc_TooMany iv_InvalidBundle_TooMany, kit_own hd_NothingToUndo ty_NothingToUndo sc_NothingToUndo iv_InvalidBundle_NothingToUndo, kit_own hd_Broken ty_Broken sc_Broken iv_InvalidBundle_Broken, kit_blt (by decide +kernel) iv_InvalidBundle_ValueError, kit_blt (by decide +kernel) iv_InvalidBundle_KeyError, kit_blt (by decide +kernel) iv_InvalidBundle_RuntimeError, kit_blt (by decide +kernel) iv_InvalidBundle_OverflowError, kit_blt (by decide +kernel) iv_InvalidBundle_IndexError, kit_blt (by decide +kernel) iv_InvalidBundle_ArithmeticError, kit_blt (by decide +kernel) iv_InvalidBundle_LookupError, trivial⟩
      iv_InvalidRule := ⟨kit_own hd_LetterError ty_LetterError sc_LetterError iv_InvalidRule_LetterError, kit_own hd_InvalidCutter ty_InvalidCutter sc_InvalidCutter iv_InvalidRule_InvalidCutter, kit_own hd_InvalidCompany ty_InvalidCompany sc_InvalidCompany iv_InvalidRule_InvalidCompany, kit_own hd_InvalidBundle ty_InvalidBundle sc_InvalidBundle iv_InvalidRule_InvalidBundle, kit_self, kit_own hd_InvalidLot ty_InvalidLot sc_InvalidLot iv_InvalidRule_InvalidLot, kit_own hd_InvalidState ty_InvalidState sc_InvalidState iv_InvalidRule_InvalidState, kit_own hd_InvalidLetter ty_InvalidLetter sc_InvalidLetter iv_InvalidRule_InvalidLetter, kit_own hd_InvalidPledge ty_InvalidPledge sc_InvalidPledge iv_InvalidRule_InvalidPledge, kit_own hd_InvalidOperation ty_InvalidOperation sc_InvalidOperation iv_InvalidRule_InvalidOperation, kit_own hd_ParseError ty_ParseError sc_ParseError iv_InvalidRule_ParseError, kit_own hd_UnknownName ty_UnknownName sc_UnknownName iv_InvalidRule_UnknownName, kit_own hd_InvalidNumber ty_InvalidNumber sc_InvalidNumber iv_InvalidRule_InvalidNumber, kit_own hd_TooMany ty_TooMany sc_TooMany iv_InvalidRule_TooMany, kit_own hd_NothingToUndo ty_NothingToUndo sc_NothingToUndo iv_InvalidRule_NothingToUndo, kit_own hd_Broken ty_Broken sc_Broken iv_InvalidRule_Broken, kit_blt (by decide +kernel) iv_InvalidRule_ValueError, kit_blt (by decide +kernel) iv_InvalidRule_KeyError, kit_blt (by decide +kernel) iv_InvalidRule_RuntimeError, kit_blt (by decide +kernel) iv_InvalidRule_OverflowError, kit_blt (by decide +kernel) iv_InvalidRule_IndexError, kit_blt (by decide +kernel) iv_InvalidRule_ArithmeticError, kit_blt (by decide +kernel) iv_InvalidRule_LookupError, trivial⟩
      iv_InvalidLot := ⟨kit_own hd_LetterError ty_LetterError sc_LetterError iv_InvalidLot_LetterError, kit_own hd_InvalidCutter ty_InvalidCutter sc_InvalidCutter iv_InvalidLot_InvalidCutter, kit_own hd_InvalidCompany ty_InvalidCompany sc_InvalidCompany iv_InvalidLot_InvalidCompany, kit_own hd_InvalidBundle ty_InvalidBundle sc_InvalidBundle iv_InvalidLot_InvalidBundle, kit_own hd_InvalidRule ty_InvalidRule sc_InvalidRule iv_InvalidLot_InvalidRule, kit_self, kit_own hd_InvalidState ty_InvalidState sc_InvalidState iv_InvalidLot_InvalidState, kit_own hd_InvalidLetter ty_InvalidLetter sc_InvalidLetter iv_InvalidLot_InvalidLetter, kit_own hd_InvalidPledge ty_InvalidPledge sc_InvalidPledge iv_InvalidLot_InvalidPledge, kit_own hd_InvalidOperation ty_InvalidOperation sc_InvalidOperation iv_InvalidLot_InvalidOperation, kit_own hd_ParseError ty_ParseError sc_ParseError iv_InvalidLot_ParseError, kit_own hd_UnknownName ty_UnknownName sc_UnknownName iv_InvalidLot_UnknownName, kit_own hd_InvalidNumber ty_InvalidNumber sc_InvalidNumber iv_InvalidLot_InvalidNumber, kit_own hd_TooMany ty_TooMany sc_TooMany iv_InvalidLot_TooMany, kit_own hd_NothingToUndo ty_NothingToUndo sc_NothingToUndo iv_InvalidLot_NothingToUndo, kit_own hd_Broken ty_Broken sc_Broken iv_InvalidLot_Broken, kit_blt (by decide +kernel) iv_InvalidLot_ValueError, kit_blt (by decide +kernel) iv_InvalidLot_KeyError, kit_blt (by decide +kernel) iv_InvalidLot_RuntimeError, kit_blt (by decide +kernel) iv_InvalidLot_OverflowError, kit_blt (by decide +kernel) iv_InvalidLot_IndexError, kit_blt (by decide +kernel) iv_InvalidLot_ArithmeticError, kit_blt (by decide +kernel) iv_InvalidLot_LookupError, trivial⟩
      iv_InvalidState := ⟨kit_own hd_LetterError ty_LetterError sc_LetterError iv_InvalidState_LetterError, kit_own hd_InvalidCutter ty_InvalidCutter sc_InvalidCutter iv_InvalidState_InvalidCutter, kit_own hd_InvalidCompany ty_InvalidCompany sc_InvalidCompany iv_InvalidState_InvalidCompany, kit_own hd_InvalidBundle ty_InvalidBundle sc_InvalidBundle iv_InvalidState_InvalidBundle, kit_own hd_InvalidRule ty_InvalidRule sc_InvalidRule iv_InvalidState_InvalidRule, kit_own hd_InvalidLot ty_InvalidLot sc_InvalidLot iv_InvalidState_InvalidLot, kit_self, kit_own hd_InvalidLetter ty_InvalidLetter sc_InvalidLetter iv_InvalidState_InvalidLetter, kit_own hd_InvalidPledge ty_InvalidPledge sc_InvalidPledge iv_InvalidState_InvalidPledge, kit_own hd_InvalidOperation ty_InvalidOperation sc_InvalidOperation iv_InvalidState_InvalidOperation, kit_own hd_ParseError ty_ParseError sc_ParseError iv_InvalidState_ParseError, kit_own hd_UnknownName ty_UnknownName sc_UnknownName iv_InvalidState_UnknownName, kit_own hd_InvalidNumber ty_InvalidNumber sc_InvalidNumber iv_InvalidState_InvalidNumber, kit_own hd_TooMany ty_TooMany sc_TooMany iv_InvalidState_TooMany, kit_own hd_NothingToUndo ty_NothingToUndo sc_NothingToUndo iv_InvalidState_NothingToUndo, kit_own hd_Broken ty_Broken sc_Broken iv_InvalidState_Broken, kit_blt (by decide +kernel) iv_InvalidState_ValueError, kit_blt (by decide +kernel) iv_InvalidState_KeyError, kit_blt (by decide +kernel) iv_InvalidState_RuntimeError, kit_blt (by decide +kernel) iv_InvalidState_OverflowError, kit_blt (by decide +kernel) iv_InvalidState_IndexError, kit_blt (by decide +kernel) iv_InvalidState_ArithmeticError, kit_blt (by decide +kernel) iv_InvalidState_LookupError, trivial⟩
      iv_InvalidLetter := ⟨kit_own hd_LetterError ty_LetterError sc_LetterError iv_InvalidLetter_LetterError, kit_own hd_InvalidCutter ty_InvalidCutter sc_InvalidCutter iv_InvalidLetter_InvalidCutter, kit_own hd_InvalidCompany ty_InvalidCompany sc_InvalidCompany iv_InvalidLetter_InvalidCompany, kit_own hd_InvalidBundle ty_InvalidBundle sc_InvalidBundle iv_InvalidLetter_InvalidBundle, kit_own hd_InvalidRule ty_InvalidRule sc_InvalidRule iv_InvalidLetter_InvalidRule, kit_own hd_InvalidLot ty_InvalidLot sc_InvalidLot iv_InvalidLetter_InvalidLot, kit_own hd_InvalidState ty_InvalidState sc_InvalidState iv_InvalidLetter_InvalidState, kit_self, kit_own hd_InvalidPledge ty_InvalidPledge sc_InvalidPledge iv_InvalidLetter_InvalidPledge, kit_own hd_InvalidOperation ty_InvalidOperation sc_InvalidOperation iv_InvalidLetter_InvalidOperation, kit_own hd_ParseError ty_ParseError sc_ParseError iv_InvalidLetter_ParseError, kit_own hd_UnknownName ty_UnknownName sc_UnknownName iv_InvalidLetter_UnknownName, kit_own hd_InvalidNumber ty_InvalidNumber sc_InvalidNumber iv_InvalidLetter_InvalidNumber, kit_own hd_TooMany ty_TooMany sc_TooMany iv_InvalidLetter_TooMany, kit_own hd_NothingToUndo ty_NothingToUndo sc_NothingToUndo iv_InvalidLetter_NothingToUndo, kit_own hd_Broken ty_Broken sc_Broken iv_InvalidLetter_Broken, kit_blt (by decide +kernel) iv_InvalidLetter_ValueError, kit_blt (by decide +kernel) iv_InvalidLetter_KeyError, kit_blt (by decide +kernel) iv_InvalidLetter_RuntimeError, kit_blt (by decide +kernel) iv_InvalidLetter_OverflowError, kit_blt (by decide +kernel) iv_InvalidLetter_IndexError, kit_blt (by decide +kernel) iv_InvalidLetter_ArithmeticError, kit_blt (by decide +kernel) iv_InvalidLetter_LookupError, trivial⟩
      iv_InvalidPledge := ⟨kit_own hd_LetterError ty_LetterError sc_LetterError iv_InvalidPledge_LetterError, kit_own hd_InvalidCutter ty_InvalidCutter sc_InvalidCutter iv_InvalidPledge_InvalidCutter, kit_own hd_InvalidCompany ty_InvalidCompany sc_InvalidCompany iv_InvalidPledge_InvalidCompany, kit_own hd_InvalidBundle ty_InvalidBundle sc_InvalidBundle iv_InvalidPledge_InvalidBundle, kit_own hd_InvalidRule ty_InvalidRule sc_InvalidRule iv_InvalidPledge_InvalidRule, kit_own hd_InvalidLot ty_InvalidLot sc_InvalidLot iv_InvalidPledge_InvalidLot, kit_own hd_InvalidState ty_InvalidState sc_InvalidState iv_InvalidPledge_InvalidState, kit_own hd_InvalidLetter ty_InvalidLetter sc_InvalidLetter iv_InvalidPledge_InvalidLetter, kit_self, kit_own hd_InvalidOperation ty_InvalidOperation sc_InvalidOperation iv_InvalidPledge_InvalidOperation, kit_own hd_ParseError ty_ParseError sc_ParseError iv_InvalidPledge_ParseError, kit_own hd_UnknownName ty_UnknownName sc_UnknownName iv_InvalidPledge_UnknownName, kit_own hd_InvalidNumber ty_InvalidNumber sc_InvalidNumber iv_InvalidPledge_InvalidNumber, kit_own hd_TooMany ty_TooMany sc_TooMany iv_InvalidPledge_TooMany, kit_own hd_NothingToUndo ty_NothingToUndo sc_NothingToUndo iv_InvalidPledge_NothingToUndo, kit_own hd_Broken ty_Broken sc_Broken iv_InvalidPledge_Broken, kit_blt (by decide +kernel) iv_InvalidPledge_ValueError, kit_blt (by decide +kernel) iv_InvalidPledge_KeyError, kit_blt (by decide +kernel) iv_InvalidPledge_RuntimeError, kit_blt (by decide +kernel) iv_InvalidPledge_OverflowError, kit_blt (by decide +kernel) iv_InvalidPledge_IndexError, kit_blt (by decide +kernel) iv_InvalidPledge_ArithmeticError, kit_blt (by decide +kernel) iv_InvalidPledge_LookupError, trivial⟩
      iv_InvalidOperation := ⟨kit_own hd_LetterError ty_LetterError sc_LetterError iv_InvalidOperation_LetterError, kit_own hd_InvalidCutter ty_InvalidCutter sc_InvalidCutter iv_InvalidOperation_InvalidCutter, kit_own hd_InvalidCompany ty_InvalidCompany sc_InvalidCompany iv_InvalidOperation_InvalidCompany, kit_own hd_InvalidBundle ty_InvalidBundle sc_InvalidBundle iv_InvalidOperation_InvalidBundle, kit_own hd_InvalidRule ty_InvalidRule sc_InvalidRule iv_InvalidOperation_InvalidRule, kit_own hd_InvalidLot ty_InvalidLot sc_InvalidLot iv_InvalidOperation_InvalidLot, kit_own hd_InvalidState ty_InvalidState sc_InvalidState iv_InvalidOperation_InvalidState, kit_own hd_InvalidLetter ty_InvalidLetter sc_InvalidLetter iv_InvalidOperation_InvalidLetter, kit_own hd_InvalidPledge ty_InvalidPledge sc_InvalidPledge iv_InvalidOperation_InvalidPledge, kit_self, kit_own hd_ParseError ty_ParseError sc_ParseError iv_InvalidOperation_ParseError, kit_own hd_UnknownName ty_UnknownName sc_UnknownName iv_InvalidOperation_UnknownName, kit_own hd_InvalidNumber ty_InvalidNumber sc_InvalidNumber iv_InvalidOperation_InvalidNumber, kit_own hd_TooMany ty_TooMany sc_TooMany iv_InvalidOperation_TooMany, kit_own hd_NothingToUndo ty_NothingToUndo sc_NothingToUndo iv_InvalidOperation_NothingToUndo, kit_own hd_Broken ty_Broken sc_Broken iv_InvalidOperation_Broken, kit_blt (by decide +kernel) iv_InvalidOperation_ValueError, kit_blt (by decide +kernel) iv_InvalidOperation_KeyError, kit_blt (by decide +kernel) iv_InvalidOperation_RuntimeError, kit_blt (by decide +kernel) iv_InvalidOperation_OverflowError, kit_blt (by decide +kernel) iv_InvalidOperation_IndexError, kit_blt (by decide +kernel) iv_InvalidOperation_ArithmeticError, kit_blt (by decide +kernel) iv_InvalidOperation_LookupError, trivial⟩
      iv_ParseError := ⟨kit_own hd_LetterError ty_LetterError sc_LetterError iv_ParseError_LetterError, kit_own hd_InvalidCutter ty_InvalidCutter sc_InvalidCutter iv_ParseError_InvalidCutter, kit_own hd_InvalidCompany ty_InvalidCompany sc_InvalidCompany iv_ParseError_InvalidCompany, kit_own hd_InvalidBundle ty_InvalidBundle sc_InvalidBundle iv_ParseError_InvalidBundle, kit_own hd_InvalidRule ty_InvalidRule sc_InvalidRule iv_ParseError_InvalidRule, kit_own hd_InvalidLot ty_InvalidLot sc_InvalidLot iv_ParseError_InvalidLot, kit_own hd_InvalidState ty_InvalidState sc_InvalidState iv_ParseError_InvalidState, kit_own hd_InvalidLetter ty_InvalidLetter sc_InvalidLetter iv_ParseError_InvalidLetter, kit_own hd_InvalidPledge ty_InvalidPledge sc_InvalidPledge iv_ParseError_InvalidPledge, kit_own hd_InvalidOperation ty_InvalidOperation sc_InvalidOperation iv_ParseError_InvalidOperation, kit_self, kit_own hd_UnknownName ty_UnknownName sc_UnknownName iv_ParseError_UnknownName, kit_own hd_InvalidNumber ty_InvalidNumber sc_InvalidNumber iv_ParseError_InvalidNumber, kit_own hd_TooMany ty_TooMany sc_TooMany iv_ParseError_TooMany, kit_own hd_NothingToUndo ty_NothingToUndo sc_NothingToUndo iv_ParseError_NothingToUndo, kit_own hd_Broken ty_Broken sc_Broken iv_ParseError_Broken, kit_blt (by decide +kernel) iv_ParseError_ValueError, kit_blt (by decide +kernel) iv_ParseError_KeyError, kit_blt (by decide +kernel) iv_ParseError_RuntimeError, kit_blt (by decide +kernel) iv_ParseError_OverflowError, kit_blt (by decide +kernel) iv_ParseError_IndexError, kit_blt (by decide +kernel) iv_ParseError_ArithmeticError, kit_blt (by decide +kernel) iv_ParseError_LookupError, trivial⟩
      iv_UnknownName := ⟨kit_own hd_LetterError ty_LetterError sc_LetterError iv_UnknownName_LetterError, kit_own hd_InvalidCutter ty_InvalidCutter sc_InvalidCutter iv_UnknownName_InvalidCutter, kit_own hd_InvalidCompany ty_InvalidCompany sc_InvalidCompany iv_UnknownName_InvalidCompany, kit_own hd_InvalidBundle ty_InvalidBundle sc_InvalidBundle iv_UnknownName_InvalidBundle, kit_own hd_InvalidRule ty_InvalidRule sc_InvalidRule iv_UnknownName_InvalidRule, kit_own hd_InvalidLot ty_InvalidLot sc_InvalidLot iv_UnknownName_InvalidLot, kit_own hd_InvalidState ty_InvalidState sc_InvalidState iv_UnknownName_InvalidState, kit_own hd_InvalidLetter ty_InvalidLetter sc_InvalidLetter iv_UnknownName_InvalidLetter, kit_own hd_InvalidPledge ty_InvalidPledge sc_InvalidPledge iv_UnknownName_InvalidPledge, kit_own hd_InvalidOperation ty_InvalidOperation sc_InvalidOperation iv_UnknownName_InvalidOperation, kit_own hd_ParseError ty_ParseError sc_ParseError iv_UnknownName_ParseError, kit_self, kit_own hd_InvalidNumber ty_InvalidNumber sc_InvalidNumber iv_UnknownName_InvalidNumber, kit_own hd_TooMany ty_TooMany sc_TooMany iv_UnknownName_TooMany, kit_own hd_NothingToUndo ty_NothingToUndo sc_NothingToUndo iv_UnknownName_NothingToUndo, kit_own hd_Broken ty_Broken sc_Broken iv_UnknownName_Broken, kit_blt (by decide +kernel) iv_UnknownName_ValueError, kit_blt (by decide +kernel) iv_UnknownName_KeyError, kit_blt (by decide +kernel) iv_UnknownName_RuntimeError, kit_blt (by decide +kernel) iv_UnknownName_OverflowError, kit_blt (by decide +kernel) iv_UnknownName_IndexError, kit_blt (by decide +kernel) iv_UnknownName_ArithmeticError, kit_blt (by decide +kernel) iv_UnknownName_LookupError, trivial⟩
      iv_InvalidNumber := ⟨kit_own hd_LetterError ty_LetterError sc_LetterError iv_InvalidNumber_LetterError, kit_own hd_InvalidCutter ty_InvalidCutter sc_InvalidCutter iv_InvalidNumber_InvalidCutter, kit_own hd_InvalidCompany ty_InvalidCompany sc_InvalidCompany iv_InvalidNumber_InvalidCompany, kit_own hd_InvalidBundle ty_InvalidBundle sc_InvalidBundle iv_InvalidNumber_InvalidBundle, kit_own hd_InvalidRule ty_InvalidRule sc_InvalidRule iv_InvalidNumber_InvalidRule, kit_own hd_InvalidLot ty_InvalidLot sc_InvalidLot iv_InvalidNumber_InvalidLot, kit_own hd_InvalidState ty_InvalidState sc_InvalidState iv_InvalidNumber_InvalidState, kit_own hd_InvalidLetter ty_InvalidLetter sc_InvalidLetter iv_InvalidNumber_InvalidLetter, kit_own hd_InvalidPledge ty_InvalidPledge sc_InvalidPledge iv_InvalidNumber_InvalidPledge, kit_own hd_InvalidOperation ty_InvalidOperation sc_InvalidOperation iv_InvalidNumber_InvalidOperation, kit_own hd_ParseError ty_ParseError sc_ParseError iv_InvalidNumber_ParseError, kit_own hd_UnknownName ty_UnknownName sc_UnknownName iv_InvalidNumber_UnknownName, kit_self, kit_own hd_TooMany ty_TooMany sc_TooMany iv_InvalidNumber_TooMany, kit_own hd_NothingToUndo ty_NothingToUndo sc_NothingToUndo iv_InvalidNumber_NothingToUndo, kit_own hd_Broken ty_Broken sc_Broken iv_InvalidNumber_Broken, kit_blt (by decide +kernel) iv_InvalidNumber_ValueError, kit_blt (by decide +kernel) iv_InvalidNumber_KeyError, kit_blt (by decide +kernel) iv_InvalidNumber_RuntimeError, kit_blt (by decide +kernel) iv_InvalidNumber_OverflowError, kit_blt (by decide +kernel) iv_InvalidNumber_IndexError, kit_blt (by decide +kernel) iv_InvalidNumber_ArithmeticError, kit_blt (by decide +kernel) iv_InvalidNumber_LookupError, trivial⟩
      iv_TooMany := ⟨kit_own hd_LetterError ty_LetterError sc_LetterError iv_TooMany_LetterError, kit_own hd_InvalidCutter ty_InvalidCutter sc_InvalidCutter iv_TooMany_InvalidCutter, kit_own hd_InvalidCompany ty_InvalidCompany sc_InvalidCompany iv_TooMany_InvalidCompany, kit_own hd_InvalidBundle ty_InvalidBundle sc_InvalidBundle iv_TooMany_InvalidBundle, kit_own hd_InvalidRule ty_InvalidRule sc_InvalidRule iv_TooMany_InvalidRule, kit_own hd_InvalidLot ty_InvalidLot sc_InvalidLot iv_TooMany_InvalidLot, kit_own hd_InvalidState ty_InvalidState sc_InvalidState iv_TooMany_InvalidState, kit_own hd_InvalidLetter ty_InvalidLetter sc_InvalidLetter iv_TooMany_InvalidLetter, kit_own hd_InvalidPledge ty_InvalidPledge sc_InvalidPledge iv_TooMany_InvalidPledge, kit_own hd_InvalidOperation ty_InvalidOperation sc_InvalidOperation iv_TooMany_InvalidOperation, kit_own hd_ParseError ty_ParseError sc_ParseError iv_TooMany_ParseError, kit_own hd_UnknownName ty_UnknownName sc_UnknownName iv_TooMany_UnknownName, kit_own hd_InvalidNumber ty_InvalidNumber sc_InvalidNumber iv_TooMany_InvalidNumber, kit_self, kit_own hd_NothingToUndo ty_NothingToUndo sc_NothingToUndo iv_TooMany_NothingToUndo, kit_own hd_Broken ty_Broken sc_Broken iv_TooMany_Broken, kit_blt (by decide +kernel) iv_TooMany_ValueError, kit_blt (by decide +kernel) iv_TooMany_KeyError, kit_blt (by decide +kernel) iv_TooMany_RuntimeError, kit_blt (by decide +kernel) iv_TooMany_OverflowError, kit_blt (by decide +kernel) iv_TooMany_IndexError, kit_blt (by decide +kernel) iv_TooMany_ArithmeticError, kit_blt (by decide +kernel) iv_TooMany_LookupError, trivial⟩
      iv_NothingToUndo := ⟨kit_own hd_LetterError ty_LetterError sc_LetterError iv_NothingToUndo_LetterError, kit_own hd_InvalidCutter ty_InvalidCutter sc_InvalidCutter iv_NothingToUndo_InvalidCutter, kit_own hd_InvalidCompany ty_InvalidCompany sc_InvalidCompany iv_NothingToUndo_InvalidCompany, kit_own hd_InvalidBundle ty_InvalidBundle sc_InvalidBundle iv_NothingToUndo_InvalidBundle, kit_own hd_InvalidRule ty_InvalidRule sc_InvalidRule iv_NothingToUndo_InvalidRule, kit_own hd_InvalidLot ty_InvalidLot sc_InvalidLot iv_NothingToUndo_InvalidLot, kit_own hd_InvalidState ty_InvalidState sc_InvalidState iv_NothingToUndo_InvalidState, kit_own hd_InvalidLetter ty_InvalidLetter sc_InvalidLetter iv_NothingToUndo_InvalidLetter, kit_own hd_InvalidPledge ty_InvalidPledge sc_InvalidPledge iv_NothingToUndo_InvalidPledge, kit_own hd_InvalidOperation ty_InvalidOperation sc_InvalidOperation iv_NothingToUndo_InvalidOperation, kit_own hd_ParseError ty_ParseError sc_ParseError iv_NothingToUndo_ParseError, kit_own hd_UnknownName ty_UnknownName sc_UnknownName iv_NothingToUndo_UnknownName, kit_own hd_InvalidNumber ty_InvalidNumber sc_InvalidNumber iv_NothingToUndo_InvalidNumber, kit_own hd_TooMany ty_TooMany sc_TooMany iv_NothingToUndo_TooMany, kit_self, kit_own hd_Broken ty_Broken sc_Broken iv_NothingToUndo_Broken, kit_blt (by decide +kernel) iv_NothingToUndo_ValueError, kit_blt (by decide +kernel) iv_NothingToUndo_KeyError, kit_blt (by decide +kernel) iv_NothingToUndo_RuntimeError, kit_blt (by decide +kernel) iv_NothingToUndo_OverflowError, kit_blt (by decide +kernel) iv_NothingToUndo_IndexError, kit_blt (by decide +kernel) iv_NothingToUndo_ArithmeticError, kit_blt (by decide +kernel) iv_NothingToUndo_LookupError, trivial⟩
      iv_Broken := ⟨kit_own hd_LetterError ty_LetterError sc_LetterError iv_Broken_LetterError, kit_own hd_InvalidCutter ty_InvalidCutter sc_InvalidCutter iv_Broken_InvalidCutter, kit_own hd_InvalidCompany ty_InvalidCompany sc_InvalidCompany iv_Broken_InvalidCompany, kit_own hd_InvalidBundle ty_InvalidBundle sc_InvalidBundle iv_Broken_InvalidBundle, kit_own hd_InvalidRule ty_InvalidRule sc_InvalidRule iv_Broken_InvalidRule, kit_own hd_InvalidLot ty_InvalidLot sc_InvalidLot iv_Broken_InvalidLot, kit_own hd_InvalidState ty_InvalidState sc_InvalidState iv_Broken_InvalidState, kit_own hd_InvalidLetter ty_InvalidLetter sc_InvalidLetter iv_Broken_InvalidLetter, kit_own hd_InvalidPledge ty_InvalidPledge sc_InvalidPledge iv_Broken_InvalidPledge, kit_own hd_InvalidOperation ty_InvalidOperation sc_InvalidOperation iv_Broken_InvalidOperation, kit_own hd_ParseError ty_ParseError sc_ParseError iv_Broken_ParseError, kit_own hd_UnknownName ty_UnknownName sc_UnknownName iv_Broken_UnknownName, kit_own hd_InvalidNumber ty_InvalidNumber sc_InvalidNumber iv_Broken_InvalidNumber, kit_own hd_TooMany ty_TooMany sc_TooMany iv_Broken_TooMany, kit_own hd_NothingToUndo ty_NothingToUndo sc_NothingToUndo iv_Broken_NothingToUndo, kit_self, kit_blt (by decide +kernel) iv_Broken_ValueError, kit_blt (by decide +kernel) iv_Broken_KeyError, kit_blt (by decide +kernel) iv_Broken_RuntimeError, kit_blt (by decide +kernel) iv_Broken_OverflowError, kit_blt (by decide +kernel) iv_Broken_IndexError, kit_blt (by decide +kernel) iv_Broken_ArithmeticError, kit_blt (by decide +kernel) iv_Broken_LookupError, trivial⟩ }
  refine ⟨PySem.W.fnOf "law" "law" (defArgs s_law) (defBody s_law) (defScope s_law) .none kV_law dc_law pm_law an_law cd_law ct_law, fun s v => .of_eq rfl, fun base => ?_⟩
  have g__law_roll := gf__law_roll (P := l.prog) (w := w) (base := base) T 
  have g__law_dice := gf__law_dice (P := l.prog) (w := w) (base := base) T 
  have g__law_one_of := gf__law_one_of (P := l.prog) (w := w) (base := base) T g__law_roll
  have g__law_kinds_of := gf__law_kinds_of (P := l.prog) (w := w) (base := base) T 
  have g__law_right := gg__law_right (P := l.prog) (w := w) (base := base) T g__law_kinds_of
  obtain ⟨f', fd', F', _, m', _, oc', od', osl', lk'⟩ := gg_law (P := l.prog) (w := w) (base := base) T g__law_dice g__law_roll g__law_one_of g__law_kinds_of g__law_right
  rw [hfa] at m'
  cases m'
  rw [l_law] at lk'
  cases lk'
  exact F'
theorem dats_scr {K : PySem.W.Frag} {H : Hp} : ∀ {ns : List Int}, Dats K H (ns.map .int) (ns.map V.int)
  | [] => rfl
  | n :: ns => ⟨.int n, _, rfl, rfl, dats_scr⟩
theorem walk {l : PySem.W.OpenLaw} {q : Program} {loose : List Str} {XP : (Str → Option Value) → Heap → Prop} {YP : World → Heap → Prop} {d : DefRec} {K : Params → PySem.W.Frag} (hn : l.most = some 63) (hdf : d.params.defaults = [])
    (hY : ∀ (w : World) (h : Heap), YP w h → (K w.params).In h)
    (F : ∀ (w : World) (mg : Str → Option Value) (fa : Addr) (h : Heap), (K w.params).In h → h.Ns mainGlobals mg → mg d.name = some (.ref fa) →
      ∃ fd : FuncData, (∀ (s : Shared) (u : Value), BindsTo s fd ⟨[u], []⟩ [("_law_script", u)]) ∧ ∀ base : Heap, FnG l.prog w (K w.params) mg base 4 fa fd ["_law_script"] (spD (K w.params) PreLaw)) :
    PySem.W.WalkO q loose XP YP l.row.toRowW d [] (fun f vs => PySem.call f vs) :=
  walk_ofG (n := 63) (k := 4) (x := "_law_script") (sp := fun w => spD (K w.params) PreLaw) hn (by decide) hdf ⟨rfl, by decide, by decide⟩ hY F
    (fun w H a ns hl hS => ⟨H, [.sq (ns.map .int)], fun d => d = .bl true, Same.refl H, ⟨.ref a, [], rfl, ⟨a, _, rfl, hS, dats_scr⟩, rfl⟩, ⟨ns, rfl, hl, rfl⟩, fun v d G' H' _ hd hr => by subst hr; exact hd⟩)
end Nv
open PySem PySem.W PyProof.Rows
set_option maxRecDepth 100000 in
set_option maxHeartbeats 0 in
theorem PySem.Challenge.cw_namedabove_k00_errors_and_what_they_keep_holds : PySem.Challenge.rw_namedabove_k00_errors_and_what_they_keep.Holds := by
  w_on; o_law; k_head; (case hw => w_witness2)
  k_fill
  refine Nv.walk (l := PySem.Challenge.rw_namedabove_k00_errors_and_what_they_keep) rfl rfl (fun w h Y => PySem.W.kIn_of Y) ?F
  case F =>
    intro w mg fa h KX G hmg
    refine' Nv.all_mk KX G hmg ?z_int ?z_max ?z_len ?z_abs ?z_isinstance ?z_ValueError ?z_KeyError ?z_RuntimeError ?z_OverflowError ?z_IndexError ?z_ArithmeticError ?z_LookupError ?z_enumerate ?z_repr ?z_range ?z_min ?z_str ?a__law_dice ?l__law_dice ?c__law_dice ?k__law_dice ?a__law_roll ?l__law_roll ?c__law_roll ?k__law_roll ?a__law_one_of ?l__law_one_of ?c__law_one_of ?k__law_one_of ?a__law_kinds_of ?l__law_kinds_of ?c__law_kinds_of ?k__law_kinds_of ?a__law_right ?l__law_right ?c__law_right ?k__law_right ?a_law ?l_law ?c_law ?k_law ?aC_LetterError ?kp_LetterError ?sb_LetterError ?ty_LetterError ?hd_LetterError ?ga_LetterError ?gg_LetterError ?ca_LetterError ?cn_LetterError ?ctk_LetterError ?sc_LetterError ?cm_LetterError ?xi_LetterError ?aC_InvalidCutter ?kp_InvalidCutter ?sb_InvalidCutter ?ty_InvalidCutter ?hd_InvalidCutter ?ga_InvalidCutter ?gg_InvalidCutter ?ca_InvalidCutter ?cn_InvalidCutter ?ctk_InvalidCutter ?sc_InvalidCutter ?cm_InvalidCutter ?xi_InvalidCutter ?aC_InvalidCompany ?kp_InvalidCompany ?sb_InvalidCompany ?ty_InvalidCompany ?hd_InvalidCompany ?ga_InvalidCompany ?gg_InvalidCompany ?ca_InvalidCompany ?cn_InvalidCompany ?ctk_InvalidCompany ?sc_InvalidCompany ?cm_InvalidCompany ?xi_InvalidCompany ?aC_InvalidBundle ?kp_InvalidBundle ?sb_InvalidBundle ?ty_InvalidBundle ?hd_InvalidBundle ?ga_InvalidBundle ?gg_InvalidBundle ?ca_InvalidBundle ?cn_InvalidBundle ?ctk_InvalidBundle ?sc_InvalidBundle ?cm_InvalidBundle ?xi_InvalidBundle ?aC_InvalidRule ?kp_InvalidRule ?sb_InvalidRule ?ty_InvalidRule ?hd_InvalidRule ?ga_InvalidRule ?gg_InvalidRule ?ca_InvalidRule ?cn_InvalidRule ?ctk_InvalidRule ?sc_InvalidRule ?cm_InvalidRule ?xi_InvalidRule ?aC_InvalidLot ?kp_InvalidLot ?sb_InvalidLot ?ty_InvalidLot ?hd_InvalidLot ?ga_InvalidLot ?gg_InvalidLot ?ca_InvalidLot ?cn_InvalidLot ?ctk_InvalidLot ?sc_InvalidLot ?cm_InvalidLot ?xi_InvalidLot ?aC_InvalidState ?kp_InvalidState ?sb_InvalidState ?ty_InvalidState ?hd_InvalidState ?ga_InvalidState ?gg_InvalidState ?ca_InvalidState ?cn_InvalidState ?ctk_InvalidState ?sc_InvalidState ?cm_InvalidState ?xi_InvalidState ?aC_InvalidLetter ?kp_InvalidLetter ?sb_InvalidLetter ?ty_InvalidLetter ?hd_InvalidLetter ?ga_InvalidLetter ?gg_InvalidLetter ?ca_InvalidLetter ?cn_InvalidLetter ?ctk_InvalidLetter ?sc_InvalidLetter ?cm_InvalidLetter ?xi_InvalidLetter ?aC_InvalidPledge ?kp_InvalidPledge ?sb_InvalidPledge ?ty_InvalidPledge ?hd_InvalidPledge ?ga_InvalidPledge ?gg_InvalidPledge ?ca_InvalidPledge ?cn_InvalidPledge ?ctk_InvalidPledge ?sc_InvalidPledge ?cm_InvalidPledge ?xi_InvalidPledge ?aC_InvalidOperation ?kp_InvalidOperation ?sb_InvalidOperation ?ty_InvalidOperation ?hd_InvalidOperation ?ga_InvalidOperation ?gg_InvalidOperation ?ca_InvalidOperation ?cn_InvalidOperation ?ctk_InvalidOperation ?sc_InvalidOperation ?cm_InvalidOperation ?xi_InvalidOperation ?aC_ParseError ?lk_ParseError ?kp_ParseError ?sb_ParseError ?ty_ParseError ?hd_ParseError ?ga_ParseError ?gg_ParseError ?ca_ParseError ?cn_ParseError ?ctk_ParseError ?sc_ParseError ?cm_ParseError ?sa_ParseError ?nf0_ParseError ?fiL_ParseError ?lkL_ParseError ?mL_ParseError ?ini_ParseError ?tyf_ParseError ?subB_ParseError ?subC_ParseError ?op_ParseError ?sup_ParseError ?lf_ParseError ?cd_ParseError ?lcd_ParseError ?vs2_ParseError ?fi_ParseError ?lcc_ParseError ?top_ParseError ?aC_UnknownName ?lk_UnknownName ?kp_UnknownName ?sb_UnknownName ?ty_UnknownName ?hd_UnknownName ?ga_UnknownName ?gg_UnknownName ?ca_UnknownName ?cn_UnknownName ?ctk_UnknownName ?sc_UnknownName ?cm_UnknownName ?sa_UnknownName ?nf0_UnknownName ?ini_UnknownName ?tyf_UnknownName ?subB_UnknownName ?subC_UnknownName ?op_UnknownName ?sup_UnknownName ?lf_UnknownName ?cd_UnknownName ?lcd_UnknownName ?vs2_UnknownName ?fi_UnknownName ?lcc_UnknownName ?top_UnknownName ?aC_InvalidNumber ?lk_InvalidNumber ?kp_InvalidNumber ?sb_InvalidNumber ?ty_InvalidNumber ?hd_InvalidNumber ?ga_InvalidNumber ?gg_InvalidNumber ?ca_InvalidNumber ?cn_InvalidNumber ?ctk_InvalidNumber ?sc_InvalidNumber ?cm_InvalidNumber ?sa_InvalidNumber ?nf0_InvalidNumber ?ini_InvalidNumber ?tyf_InvalidNumber ?subB_InvalidNumber ?subC_InvalidNumber ?op_InvalidNumber ?sup_InvalidNumber ?lf_InvalidNumber ?cd_InvalidNumber ?lcd_InvalidNumber ?vs2_InvalidNumber ?fi_InvalidNumber ?lcc_InvalidNumber ?top_InvalidNumber ?aC_TooMany ?lk_TooMany ?kp_TooMany ?sb_TooMany ?ty_TooMany ?hd_TooMany ?ga_TooMany ?gg_TooMany ?ca_TooMany ?cn_TooMany ?ctk_TooMany ?sc_TooMany ?cm_TooMany ?sa_TooMany ?nf0_TooMany ?ini_TooMany ?tyf_TooMany ?subB_TooMany ?subC_TooMany ?op_TooMany ?sup_TooMany ?lf_TooMany ?cd_TooMany ?lcd_TooMany ?vs2_TooMany ?fi_TooMany ?lcc_TooMany ?top_TooMany ?aC_NothingToUndo ?lk_NothingToUndo ?kp_NothingToUndo ?sb_NothingToUndo ?ty_NothingToUndo ?hd_NothingToUndo ?ga_NothingToUndo ?gg_NothingToUndo ?ca_NothingToUndo ?cn_NothingToUndo ?ctk_NothingToUndo ?sc_NothingToUndo ?cm_NothingToUndo ?sa_NothingToUndo ?nf0_NothingToUndo ?ini_NothingToUndo ?tyf_NothingToUndo ?subB_NothingToUndo ?subC_NothingToUndo ?op_NothingToUndo ?sup_NothingToUndo ?lf_NothingToUndo ?cd_NothingToUndo ?lcd_NothingToUndo ?vs2_NothingToUndo ?fi_NothingToUndo ?lcc_NothingToUndo ?top_NothingToUndo ?aC_Broken ?lk_Broken ?kp_Broken ?sb_Broken ?ty_Broken ?hd_Broken ?ga_Broken ?gg_Broken ?ca_Broken ?cn_Broken ?ctk_Broken ?sc_Broken ?cm_Broken ?sa_Broken ?nf0_Broken ?nf1_Broken ?ini_Broken ?tyf_Broken ?subB_Broken ?subC_Broken ?op_Broken ?sup_Broken ?lf_Broken ?cd_Broken ?lcd_Broken ?vs2_Broken ?fi_Broken ?lcc_Broken ?top_Broken ?iv_LetterError_InvalidCutter ?iv_LetterError_InvalidCompany ?iv_LetterError_InvalidBundle ?iv_LetterError_InvalidRule ?iv_LetterError_InvalidLot ?iv_LetterError_InvalidState ?iv_LetterError_InvalidLetter ?iv_LetterError_InvalidPledge ?iv_LetterError_InvalidOperation ?iv_LetterError_ParseError ?iv_LetterError_UnknownName ?iv_LetterError_InvalidNumber ?iv_LetterError_TooMany ?iv_LetterError_NothingToUndo ?iv_LetterError_Broken ?iv_LetterError_ValueError ?iv_LetterError_KeyError ?iv_LetterError_RuntimeError ?iv_LetterError_OverflowError ?iv_LetterError_IndexError ?iv_LetterError_ArithmeticError ?iv_LetterError_LookupError ?iv_InvalidCutter_LetterError ?iv_InvalidCutter_InvalidCompany ?iv_InvalidCutter_InvalidBundle ?iv_InvalidCutter_InvalidRule ?iv_InvalidCutter_InvalidLot ?iv_InvalidCutter_InvalidState ?iv_InvalidCutter_InvalidLetter ?iv_InvalidCutter_InvalidPledge ?iv_InvalidCutter_InvalidOperation ?iv_InvalidCutter_ParseError ?iv_InvalidCutter_UnknownName ?iv_InvalidCutter_InvalidNumber ?iv_InvalidCutter_TooMany ?iv_InvalidCutter_NothingToUndo ?iv_InvalidCutter_Broken ?iv_InvalidCutter_ValueError ?iv_InvalidCutter_KeyError ?iv_InvalidCutter_RuntimeError ?iv_InvalidCutter_OverflowError ?iv_InvalidCutter_IndexError ?iv_InvalidCutter_ArithmeticError ?iv_InvalidCutter_LookupError ?iv_InvalidCompany_LetterError ?iv_InvalidCompany_InvalidCutter ?iv_InvalidCompany_InvalidBundle ?iv_InvalidCompany_InvalidRule ?iv_InvalidCompany_InvalidLot ?iv_InvalidCompany_InvalidState ?iv_InvalidCompany_InvalidLetter ?iv_InvalidCompany_InvalidPledge ?iv_InvalidCompany_InvalidOperation ?iv_InvalidCompany_ParseError ?iv_InvalidCompany_UnknownName ?iv_InvalidCompany_InvalidNumber ?iv_InvalidCompany_TooMany ?iv_InvalidCompany_NothingToUndo ?iv_InvalidCompany_Broken ?iv_InvalidCompany_ValueError ?iv_InvalidCompany_KeyError ?iv_InvalidCompany_RuntimeError ?iv_InvalidCompany_OverflowError ?iv_InvalidCompany_IndexError ?iv_InvalidCompany_ArithmeticError ?iv_InvalidCompany_LookupError ?iv_InvalidBundle_LetterError ?iv_InvalidBundle_InvalidCutter ?iv_InvalidBundle_InvalidCompany ?iv_InvalidBundle_InvalidRule ?iv_InvalidBundle_InvalidLot ?iv_InvalidBundle_InvalidState ?iv_InvalidBundle_InvalidLetter ?iv_InvalidBundle_InvalidPledge ?iv_InvalidBundle_InvalidOperation ?iv_InvalidBundle_ParseError ?iv_InvalidBundle_UnknownName ?iv_InvalidBundle_InvalidNumber ?iv_InvalidBundle_TooMany ?iv_InvalidBundle_NothingToUndo ?iv_InvalidBundle_Broken ?iv_InvalidBundle_ValueError ?iv_InvalidBundle_KeyError ?iv_InvalidBundle_RuntimeError ?iv_InvalidBundle_OverflowError ?iv_InvalidBundle_IndexError ?iv_InvalidBundle_ArithmeticError ?iv_InvalidBundle_LookupError ?iv_InvalidRule_LetterError ?iv_InvalidRule_InvalidCutter ?iv_InvalidRule_InvalidCompany ?iv_InvalidRule_InvalidBundle ?iv_InvalidRule_InvalidLot ?iv_InvalidRule_InvalidState ?iv_InvalidRule_InvalidLetter ?iv_InvalidRule_InvalidPledge ?iv_InvalidRule_InvalidOperation ?iv_InvalidRule_ParseError ?iv_InvalidRule_UnknownName ?iv_InvalidRule_InvalidNumber ?iv_InvalidRule_TooMany ?iv_InvalidRule_NothingToUndo ?iv_InvalidRule_Broken ?iv_InvalidRule_ValueError ?iv_InvalidRule_KeyError ?iv_InvalidRule_RuntimeError ?iv_InvalidRule_OverflowError ?iv_InvalidRule_IndexError ?iv_InvalidRule_ArithmeticError ?iv_InvalidRule_LookupError ?iv_InvalidLot_LetterError ?iv_InvalidLot_InvalidCutter ?iv_InvalidLot_InvalidCompany ?iv_InvalidLot_InvalidBundle ?iv_InvalidLot_InvalidRule ?iv_InvalidLot_InvalidState ?iv_InvalidLot_InvalidLetter ?iv_InvalidLot_InvalidPledge ?iv_InvalidLot_InvalidOperation ?iv_InvalidLot_ParseError ?iv_InvalidLot_UnknownName ?iv_InvalidLot_InvalidNumber ?iv_InvalidLot_TooMany ?iv_InvalidLot_NothingToUndo ?iv_InvalidLot_Broken ?iv_InvalidLot_ValueError ?iv_InvalidLot_KeyError ?iv_InvalidLot_RuntimeError ?iv_InvalidLot_OverflowError ?iv_InvalidLot_IndexError ?iv_InvalidLot_ArithmeticError ?iv_InvalidLot_LookupError ?iv_InvalidState_LetterError ?iv_InvalidState_InvalidCutter ?iv_InvalidState_InvalidCompany ?iv_InvalidState_InvalidBundle ?iv_InvalidState_InvalidRule ?iv_InvalidState_InvalidLot ?iv_InvalidState_InvalidLetter ?iv_InvalidState_InvalidPledge ?iv_InvalidState_InvalidOperation ?iv_InvalidState_ParseError ?iv_InvalidState_UnknownName ?iv_InvalidState_InvalidNumber ?iv_InvalidState_TooMany ?iv_InvalidState_NothingToUndo ?iv_InvalidState_Broken ?iv_InvalidState_ValueError ?iv_InvalidState_KeyError ?iv_InvalidState_RuntimeError ?iv_InvalidState_OverflowError ?iv_InvalidState_IndexError ?iv_InvalidState_ArithmeticError ?iv_InvalidState_LookupError ?iv_InvalidLetter_LetterError ?iv_InvalidLetter_InvalidCutter ?iv_InvalidLetter_InvalidCompany ?iv_InvalidLetter_InvalidBundle ?iv_InvalidLetter_InvalidRule ?iv_InvalidLetter_InvalidLot ?iv_InvalidLetter_InvalidState ?iv_InvalidLetter_InvalidPledge ?iv_InvalidLetter_InvalidOperation ?iv_InvalidLetter_ParseError ?iv_InvalidLetter_UnknownName ?iv_InvalidLetter_InvalidNumber ?iv_InvalidLetter_TooMany ?iv_InvalidLetter_NothingToUndo ?iv_InvalidLetter_Broken ?iv_InvalidLetter_ValueError ?iv_InvalidLetter_KeyError ?iv_InvalidLetter_RuntimeError ?iv_InvalidLetter_OverflowError ?iv_InvalidLetter_IndexError ?iv_InvalidLetter_ArithmeticError ?iv_InvalidLetter_LookupError ?iv_InvalidPledge_LetterError ?iv_InvalidPledge_InvalidCutter ?iv_InvalidPledge_InvalidCompany ?iv_InvalidPledge_InvalidBundle ?iv_InvalidPledge_InvalidRule ?iv_InvalidPledge_InvalidLot ?iv_InvalidPledge_InvalidState ?iv_InvalidPledge_InvalidLetter ?iv_InvalidPledge_InvalidOperation ?iv_InvalidPledge_ParseError ?iv_InvalidPledge_UnknownName ?iv_InvalidPledge_InvalidNumber ?iv_InvalidPledge_TooMany ?iv_InvalidPledge_NothingToUndo ?iv_InvalidPledge_Broken ?iv_InvalidPledge_ValueError ?iv_InvalidPledge_KeyError ?iv_InvalidPledge_RuntimeError ?iv_InvalidPledge_OverflowError ?iv_InvalidPledge_IndexError ?iv_InvalidPledge_ArithmeticError ?iv_InvalidPledge_LookupError ?iv_InvalidOperation_LetterError ?iv_InvalidOperation_InvalidCutter ?iv_InvalidOperation_InvalidCompany ?iv_InvalidOperation_InvalidBundle ?iv_InvalidOperation_InvalidRule ?iv_InvalidOperation_InvalidLot ?iv_InvalidOperation_InvalidState ?iv_InvalidOperation_InvalidLetter ?iv_InvalidOperation_InvalidPledge ?iv_InvalidOperation_ParseError ?iv_InvalidOperation_UnknownName ?iv_InvalidOperation_InvalidNumber ?iv_InvalidOperation_TooMany ?iv_InvalidOperation_NothingToUndo ?iv_InvalidOperation_Broken ?iv_InvalidOperation_ValueError ?iv_InvalidOperation_KeyError ?iv_InvalidOperation_RuntimeError ?iv_InvalidOperation_OverflowError ?iv_InvalidOperation_IndexError ?iv_InvalidOperation_ArithmeticError ?iv_InvalidOperation_LookupError ?iv_ParseError_LetterError ?iv_ParseError_InvalidCutter ?iv_ParseError_InvalidCompany ?iv_ParseError_InvalidBundle ?iv_ParseError_InvalidRule ?iv_ParseError_InvalidLot ?iv_ParseError_InvalidState ?iv_ParseError_InvalidLetter ?iv_ParseError_InvalidPledge ?iv_ParseError_InvalidOperation ?iv_ParseError_UnknownName ?iv_ParseError_InvalidNumber ?iv_ParseError_TooMany ?iv_ParseError_NothingToUndo ?iv_ParseError_Broken ?iv_ParseError_ValueError ?iv_ParseError_KeyError ?iv_ParseError_RuntimeError ?iv_ParseError_OverflowError ?iv_ParseError_IndexError ?iv_ParseError_ArithmeticError ?iv_ParseError_LookupError ?iv_UnknownName_LetterError ?iv_UnknownName_InvalidCutter ?iv_UnknownName_InvalidCompany ?iv_UnknownName_InvalidBundle ?iv_UnknownName_InvalidRule ?iv_UnknownName_InvalidLot ?iv_UnknownName_InvalidState ?iv_UnknownName_InvalidLetter ?iv_UnknownName_InvalidPledge ?iv_UnknownName_InvalidOperation ?iv_UnknownName_ParseError ?iv_UnknownName_InvalidNumber ?iv_UnknownName_TooMany ?iv_UnknownName_NothingToUndo ?iv_UnknownName_Broken ?iv_UnknownName_ValueError ?iv_UnknownName_KeyError ?iv_UnknownName_RuntimeError ?iv_UnknownName_OverflowError ?iv_UnknownName_IndexError ?iv_UnknownName_ArithmeticError ?iv_UnknownName_LookupError ?iv_InvalidNumber_LetterError ?iv_InvalidNumber_InvalidCutter ?iv_InvalidNumber_InvalidCompany ?iv_InvalidNumber_InvalidBundle ?iv_InvalidNumber_InvalidRule ?iv_InvalidNumber_InvalidLot ?iv_InvalidNumber_InvalidState ?iv_InvalidNumber_InvalidLetter ?iv_InvalidNumber_InvalidPledge ?iv_InvalidNumber_InvalidOperation ?iv_InvalidNumber_ParseError ?iv_InvalidNumber_UnknownName ?iv_InvalidNumber_TooMany ?iv_InvalidNumber_NothingToUndo ?iv_InvalidNumber_Broken ?iv_InvalidNumber_ValueError ?iv_InvalidNumber_KeyError ?iv_InvalidNumber_RuntimeError ?iv_InvalidNumber_OverflowError ?iv_InvalidNumber_IndexError ?iv_InvalidNumber_ArithmeticError ?iv_InvalidNumber_LookupError ?iv_TooMany_LetterError ?iv_TooMany_InvalidCutter ?iv_TooMany_InvalidCompany ?iv_TooMany_InvalidBundle ?iv_TooMany_InvalidRule ?iv_TooMany_InvalidLot ?iv_TooMany_InvalidState ?iv_TooMany_InvalidLetter ?iv_TooMany_InvalidPledge ?iv_TooMany_InvalidOperation ?iv_TooMany_ParseError ?iv_TooMany_UnknownName ?iv_TooMany_InvalidNumber ?iv_TooMany_NothingToUndo ?iv_TooMany_Broken ?iv_TooMany_ValueError ?iv_TooMany_KeyError ?iv_TooMany_RuntimeError ?iv_TooMany_OverflowError ?iv_TooMany_IndexError ?iv_TooMany_ArithmeticError ?iv_TooMany_LookupError ?iv_NothingToUndo_LetterError ?iv_NothingToUndo_InvalidCutter ?iv_NothingToUndo_InvalidCompany ?iv_NothingToUndo_InvalidBundle ?iv_NothingToUndo_InvalidRule ?iv_NothingToUndo_InvalidLot ?iv_NothingToUndo_InvalidState ?iv_NothingToUndo_InvalidLetter ?iv_NothingToUndo_InvalidPledge ?iv_NothingToUndo_InvalidOperation ?iv_NothingToUndo_ParseError ?iv_NothingToUndo_UnknownName ?iv_NothingToUndo_InvalidNumber ?iv_NothingToUndo_TooMany ?iv_NothingToUndo_Broken ?iv_NothingToUndo_ValueError ?iv_NothingToUndo_KeyError ?iv_NothingToUndo_RuntimeError ?iv_NothingToUndo_OverflowError ?iv_NothingToUndo_IndexError ?iv_NothingToUndo_ArithmeticError ?iv_NothingToUndo_LookupError ?iv_Broken_LetterError ?iv_Broken_InvalidCutter ?iv_Broken_InvalidCompany ?iv_Broken_InvalidBundle ?iv_Broken_InvalidRule ?iv_Broken_InvalidLot ?iv_Broken_InvalidState ?iv_Broken_InvalidLetter ?iv_Broken_InvalidPledge ?iv_Broken_InvalidOperation ?iv_Broken_ParseError ?iv_Broken_UnknownName ?iv_Broken_InvalidNumber ?iv_Broken_TooMany ?iv_Broken_NothingToUndo ?iv_Broken_ValueError ?iv_Broken_KeyError ?iv_Broken_RuntimeError ?iv_Broken_OverflowError ?iv_Broken_IndexError ?iv_Broken_ArithmeticError ?iv_Broken_LookupError
    (case z_int => k_is)
    (case z_max => k_is)
    (case z_len => k_is)
    (case z_abs => k_is)
    (case z_isinstance => k_is)
    (case z_ValueError => k_is)
    (case z_KeyError => k_is)
    (case z_RuntimeError => k_is)
    (case z_OverflowError => k_is)
    (case z_IndexError => k_is)
    (case z_ArithmeticError => k_is)
    (case z_LookupError => k_is)
    (case z_enumerate => k_is)
    (case z_repr => k_is)
    (case z_range => k_is)
    (case z_min => k_is)
    (case z_str => k_is)
    (case a__law_dice => k_is)
    (case l__law_dice => k_is)
    (case c__law_dice => k_is)
    (case k__law_dice => k_is)
    (case a__law_roll => k_is)
    (case l__law_roll => k_is)
    (case c__law_roll => k_is)
    (case k__law_roll => k_is)
    (case a__law_one_of => k_is)
    (case l__law_one_of => k_is)
    (case c__law_one_of => k_is)
    (case k__law_one_of => k_is)
    (case a__law_kinds_of => k_is)
    (case l__law_kinds_of => k_is)
    (case c__law_kinds_of => k_is)
    (case k__law_kinds_of => k_is)
    (case a__law_right => k_is)
    (case l__law_right => k_is)
    (case c__law_right => k_is)
    (case k__law_right => k_is)
    (case a_law => k_is)
    (case l_law => k_is)
    (case c_law => k_is)
    (case k_law => k_is)
    (case aC_LetterError => k_is)
    (case kp_LetterError => k_is)
    (case sb_LetterError => k_is)
    (case ty_LetterError => k_is)
    (case hd_LetterError => k_is)
    (case ga_LetterError => k_is)
    (case gg_LetterError => k_is)
    (case ca_LetterError => k_is)
    (case cn_LetterError => k_is)
    (case ctk_LetterError => k_is)
    (case sc_LetterError => k_is)
    (case cm_LetterError => k_is)
    (case xi_LetterError => k_exc)
    (case aC_InvalidCutter => k_is)
    (case kp_InvalidCutter => k_is)
    (case sb_InvalidCutter => k_is)
    (case ty_InvalidCutter => k_is)
    (case hd_InvalidCutter => k_is)
    (case ga_InvalidCutter => k_is)
    (case gg_InvalidCutter => k_is)
    (case ca_InvalidCutter => k_is)
    (case cn_InvalidCutter => k_is)
    (case ctk_InvalidCutter => k_is)
    (case sc_InvalidCutter => k_is)
    (case cm_InvalidCutter => k_is)
    (case xi_InvalidCutter => k_exc)
    (case aC_InvalidCompany => k_is)
    (case kp_InvalidCompany => k_is)
    (case sb_InvalidCompany => k_is)
    (case ty_InvalidCompany => k_is)
    (case hd_InvalidCompany => k_is)
    (case ga_InvalidCompany => k_is)
    (case gg_InvalidCompany => k_is)
    (case ca_InvalidCompany => k_is)
    (case cn_InvalidCompany => k_is)
    (case ctk_InvalidCompany => k_is)
    (case sc_InvalidCompany => k_is)
    (case cm_InvalidCompany => k_is)
    (case xi_InvalidCompany => k_exc)
    (case aC_InvalidBundle => k_is)
    (case kp_InvalidBundle => k_is)
    (case sb_InvalidBundle => k_is)
    (case ty_InvalidBundle => k_is)
    (case hd_InvalidBundle => k_is)
    (case ga_InvalidBundle => k_is)
    (case gg_InvalidBundle => k_is)
    (case ca_InvalidBundle => k_is)
    (case cn_InvalidBundle => k_is)
    (case ctk_InvalidBundle => k_is)
    (case sc_InvalidBundle => k_is)
    (case cm_InvalidBundle => k_is)
    (case xi_InvalidBundle => k_exc)
    (case aC_InvalidRule => k_is)
    (case kp_InvalidRule => k_is)
    (case sb_InvalidRule => k_is)
    (case ty_InvalidRule => k_is)
    (case hd_InvalidRule => k_is)
    (case ga_InvalidRule => k_is)
    (case gg_InvalidRule => k_is)
    (case ca_InvalidRule => k_is)
    (case cn_InvalidRule => k_is)
    (case ctk_InvalidRule => k_is)
    (case sc_InvalidRule => k_is)
    (case cm_InvalidRule => k_is)
    (case xi_InvalidRule => k_exc)
    (case aC_InvalidLot => k_is)
    (case kp_InvalidLot => k_is)
    (case sb_InvalidLot => k_is)
    (case ty_InvalidLot => k_is)
    (case hd_InvalidLot => k_is)
    (case ga_InvalidLot => k_is)
    (case gg_InvalidLot => k_is)
    (case ca_InvalidLot => k_is)
    (case cn_InvalidLot => k_is)
    (case ctk_InvalidLot => k_is)
    (case sc_InvalidLot => k_is)
    (case cm_InvalidLot => k_is)
    (case xi_InvalidLot => k_exc)
    (case aC_InvalidState => k_is)
    (case kp_InvalidState => k_is)
    (case sb_InvalidState => k_is)
    (case ty_InvalidState => k_is)
    (case hd_InvalidState => k_is)
    (case ga_InvalidState => k_is)
    (case gg_InvalidState => k_is)
    (case ca_InvalidState => k_is)
    (case cn_InvalidState => k_is)
    (case ctk_InvalidState => k_is)
    (case sc_InvalidState => k_is)
    (case cm_InvalidState => k_is)
    (case xi_InvalidState => k_exc)
    (case aC_InvalidLetter => k_is)
    (case kp_InvalidLetter => k_is)
    (case sb_InvalidLetter => k_is)
    (case ty_InvalidLetter => k_is)
    (case hd_InvalidLetter => k_is)
    (case ga_InvalidLetter => k_is)
    (case gg_InvalidLetter => k_is)
    (case ca_InvalidLetter => k_is)
    (case cn_InvalidLetter => k_is)
    (case ctk_InvalidLetter => k_is)
    (case sc_InvalidLetter => k_is)
    (case cm_InvalidLetter => k_is)
    (case xi_InvalidLetter => k_exc)
    (case aC_InvalidPledge => k_is)
    (case kp_InvalidPledge => k_is)
    (case sb_InvalidPledge => k_is)
    (case ty_InvalidPledge => k_is)
    (case hd_InvalidPledge => k_is)
    (case ga_InvalidPledge => k_is)
    (case gg_InvalidPledge => k_is)
    (case ca_InvalidPledge => k_is)
    (case cn_InvalidPledge => k_is)
    (case ctk_InvalidPledge => k_is)
    (case sc_InvalidPledge => k_is)
    (case cm_InvalidPledge => k_is)
    (case xi_InvalidPledge => k_exc)
    (case aC_InvalidOperation => k_is)
    (case kp_InvalidOperation => k_is)
    (case sb_InvalidOperation => k_is)
    (case ty_InvalidOperation => k_is)
    (case hd_InvalidOperation => k_is)
    (case ga_InvalidOperation => k_is)
    (case gg_InvalidOperation => k_is)
    (case ca_InvalidOperation => k_is)
    (case cn_InvalidOperation => k_is)
    (case ctk_InvalidOperation => k_is)
    (case sc_InvalidOperation => k_is)
    (case cm_InvalidOperation => k_is)
    (case xi_InvalidOperation => k_exc)
    (case aC_ParseError => k_is)
    (case lk_ParseError => k_is)
    (case kp_ParseError => k_is)
    (case sb_ParseError => k_is)
    (case ty_ParseError => k_is)
    (case hd_ParseError => k_is)
    (case ga_ParseError => k_is)
    (case gg_ParseError => k_is)
    (case ca_ParseError => k_is)
    (case cn_ParseError => k_is)
    (case ctk_ParseError => k_is)
    (case sc_ParseError => k_is)
    (case cm_ParseError => k_is)
    (case sa_ParseError => k_is)
    (case nf0_ParseError => k_is)
    (case fiL_ParseError => k_is)
    (case lkL_ParseError => k_is)
    (case mL_ParseError => rfl)
    (case ini_ParseError => k_is)
    (case tyf_ParseError => k_is)
    (case subB_ParseError => k_is)
    (case subC_ParseError => k_is)
    (case op_ParseError => k_is)
    (case sup_ParseError => k_is)
    (case lf_ParseError => k_is)
    (case cd_ParseError => k_is)
    (case lcd_ParseError => k_is)
    (case vs2_ParseError => rfl)
    (case fi_ParseError => first | decide | rfl | decide +kernel)
    (case lcc_ParseError => k_is)
    (case top_ParseError => first | decide | rfl | decide +kernel)
    (case aC_UnknownName => k_is)
    (case lk_UnknownName => k_is)
    (case kp_UnknownName => k_is)
    (case sb_UnknownName => k_is)
    (case ty_UnknownName => k_is)
    (case hd_UnknownName => k_is)
    (case ga_UnknownName => k_is)
    (case gg_UnknownName => k_is)
    (case ca_UnknownName => k_is)
    (case cn_UnknownName => k_is)
    (case ctk_UnknownName => k_is)
    (case sc_UnknownName => k_is)
    (case cm_UnknownName => k_is)
    (case sa_UnknownName => k_is)
    (case nf0_UnknownName => k_is)
    (case ini_UnknownName => k_is)
    (case tyf_UnknownName => k_is)
    (case subB_UnknownName => k_is)
    (case subC_UnknownName => k_is)
    (case op_UnknownName => k_is)
    (case sup_UnknownName => k_is)
    (case lf_UnknownName => k_is)
    (case cd_UnknownName => k_is)
    (case lcd_UnknownName => k_is)
    (case vs2_UnknownName => rfl)
    (case fi_UnknownName => first | decide | rfl | decide +kernel)
    (case lcc_UnknownName => k_is)
    (case top_UnknownName => first | decide | rfl | decide +kernel)
    (case aC_InvalidNumber => k_is)
    (case lk_InvalidNumber => k_is)
    (case kp_InvalidNumber => k_is)
    (case sb_InvalidNumber => k_is)
    (case ty_InvalidNumber => k_is)
    (case hd_InvalidNumber => k_is)
    (case ga_InvalidNumber => k_is)
    (case gg_InvalidNumber => k_is)
    (case ca_InvalidNumber => k_is)
    (case cn_InvalidNumber => k_is)
    (case ctk_InvalidNumber => k_is)
    (case sc_InvalidNumber => k_is)
    (case cm_InvalidNumber => k_is)
    (case sa_InvalidNumber => k_is)
    (case nf0_InvalidNumber => k_is)
    (case ini_InvalidNumber => k_is)
    (case tyf_InvalidNumber => k_is)
    (case subB_InvalidNumber => k_is)
    (case subC_InvalidNumber => k_is)
    (case op_InvalidNumber => k_is)
    (case sup_InvalidNumber => k_is)
    (case lf_InvalidNumber => k_is)
    (case cd_InvalidNumber => k_is)
    (case lcd_InvalidNumber => k_is)
    (case vs2_InvalidNumber => rfl)
    (case fi_InvalidNumber => first | decide | rfl | decide +kernel)
    (case lcc_InvalidNumber => k_is)
    (case top_InvalidNumber => first | decide | rfl | decide +kernel)
    (case aC_TooMany => k_is)
    (case lk_TooMany => k_is)
    (case kp_TooMany => k_is)
    (case sb_TooMany => k_is)
    (case ty_TooMany => k_is)
    (case hd_TooMany => k_is)
    (case ga_TooMany => k_is)
    (case gg_TooMany => k_is)
    (case ca_TooMany => k_is)
    (case cn_TooMany => k_is)
    (case ctk_TooMany => k_is)
    (case sc_TooMany => k_is)
    (case cm_TooMany => k_is)
    (case sa_TooMany => k_is)
    (case nf0_TooMany => k_is)
    (case ini_TooMany => k_is)
    (case tyf_TooMany => k_is)
    (case subB_TooMany => k_is)
    (case subC_TooMany => k_is)
    (case op_TooMany => k_is)
    (case sup_TooMany => k_is)
    (case lf_TooMany => k_is)
    (case cd_TooMany => k_is)
    (case lcd_TooMany => k_is)
    (case vs2_TooMany => rfl)
    (case fi_TooMany => first | decide | rfl | decide +kernel)
    (case lcc_TooMany => k_is)
    (case top_TooMany => first | decide | rfl | decide +kernel)
    (case aC_NothingToUndo => k_is)
    (case lk_NothingToUndo => k_is)
    (case kp_NothingToUndo => k_is)
    (case sb_NothingToUndo => k_is)
    (case ty_NothingToUndo => k_is)
    (case hd_NothingToUndo => k_is)
    (case ga_NothingToUndo => k_is)
    (case gg_NothingToUndo => k_is)
    (case ca_NothingToUndo => k_is)
    (case cn_NothingToUndo => k_is)
    (case ctk_NothingToUndo => k_is)
    (case sc_NothingToUndo => k_is)
    (case cm_NothingToUndo => k_is)
    (case sa_NothingToUndo => k_is)
    (case nf0_NothingToUndo => k_is)
    (case ini_NothingToUndo => k_is)
    (case tyf_NothingToUndo => k_is)
    (case subB_NothingToUndo => k_is)
    (case subC_NothingToUndo => k_is)
    (case op_NothingToUndo => k_is)
    (case sup_NothingToUndo => k_is)
    (case lf_NothingToUndo => k_is)
    (case cd_NothingToUndo => k_is)
    (case lcd_NothingToUndo => k_is)
    (case vs2_NothingToUndo => rfl)
    (case fi_NothingToUndo => first | decide | rfl | decide +kernel)
    (case lcc_NothingToUndo => k_is)
    (case top_NothingToUndo => first | decide | rfl | decide +kernel)
    (case aC_Broken => k_is)
    (case lk_Broken => k_is)
    (case kp_Broken => k_is)
    (case sb_Broken => k_is)
    (case ty_Broken => k_is)
    (case hd_Broken => k_is)
    (case ga_Broken => k_is)
    (case gg_Broken => k_is)
    (case ca_Broken => k_is)
    (case cn_Broken => k_is)
    (case ctk_Broken => k_is)
    (case sc_Broken => k_is)
    (case cm_Broken => k_is)
    (case sa_Broken => k_is)
    (case nf0_Broken => k_is)
    (case nf1_Broken => k_is)
    (case ini_Broken => k_is)
    (case tyf_Broken => k_is)
    (case subB_Broken => k_is)
    (case subC_Broken => k_is)
    (case op_Broken => k_is)
    (case sup_Broken => k_is)
    (case lf_Broken => k_is)
    (case cd_Broken => k_is)
    (case lcd_Broken => k_is)
    (case vs2_Broken => rfl)
    (case fi_Broken => first | decide | rfl | decide +kernel)
    (case lcc_Broken => k_is)
    (case top_Broken => first | decide | rfl | decide +kernel)
    (case iv_LetterError_InvalidCutter => k_is)
    (case iv_LetterError_InvalidCompany => k_is)
    (case iv_LetterError_InvalidBundle => k_is)
    (case iv_LetterError_InvalidRule => k_is)
    (case iv_LetterError_InvalidLot => k_is)
    (case iv_LetterError_InvalidState => k_is)
    (case iv_LetterError_InvalidLetter => k_is)
    (case iv_LetterError_InvalidPledge => k_is)
    (case iv_LetterError_InvalidOperation => k_is)
    (case iv_LetterError_ParseError => k_is)
    (case iv_LetterError_UnknownName => k_is)
    (case iv_LetterError_InvalidNumber => k_is)
    (case iv_LetterError_TooMany => k_is)
    (case iv_LetterError_NothingToUndo => k_is)
    (case iv_LetterError_Broken => k_is)
    (case iv_LetterError_ValueError => k_is)
    (case iv_LetterError_KeyError => k_is)
    (case iv_LetterError_RuntimeError => k_is)
    (case iv_LetterError_OverflowError => k_is)
    (case iv_LetterError_IndexError => k_is)
    (case iv_LetterError_ArithmeticError => k_is)
    (case iv_LetterError_LookupError => k_is)
    (case iv_InvalidCutter_LetterError => k_is)
    (case iv_InvalidCutter_InvalidCompany => k_is)
    (case iv_InvalidCutter_InvalidBundle => k_is)
    (case iv_InvalidCutter_InvalidRule => k_is)
    (case iv_InvalidCutter_InvalidLot => k_is)
    (case iv_InvalidCutter_InvalidState => k_is)
    (case iv_InvalidCutter_InvalidLetter => k_is)
    (case iv_InvalidCutter_InvalidPledge => k_is)
    (case iv_InvalidCutter_InvalidOperation => k_is)
    (case iv_InvalidCutter_ParseError => k_is)
    (case iv_InvalidCutter_UnknownName => k_is)
    (case iv_InvalidCutter_InvalidNumber => k_is)
    (case iv_InvalidCutter_TooMany => k_is)
    (case iv_InvalidCutter_NothingToUndo => k_is)
    (case iv_InvalidCutter_Broken => k_is)
    (case iv_InvalidCutter_ValueError => k_is)
    (case iv_InvalidCutter_KeyError => k_is)
    (case iv_InvalidCutter_RuntimeError => k_is)
    (case iv_InvalidCutter_OverflowError => k_is)
    (case iv_InvalidCutter_IndexError => k_is)
    (case iv_InvalidCutter_ArithmeticError => k_is)
    (case iv_InvalidCutter_LookupError => k_is)
    (case iv_InvalidCompany_LetterError => k_is)
    (case iv_InvalidCompany_InvalidCutter => k_is)
    (case iv_InvalidCompany_InvalidBundle => k_is)
    (case iv_InvalidCompany_InvalidRule => k_is)
    (case iv_InvalidCompany_InvalidLot => k_is)
    (case iv_InvalidCompany_InvalidState => k_is)
    (case iv_InvalidCompany_InvalidLetter => k_is)
    (case iv_InvalidCompany_InvalidPledge => k_is)
    (case iv_InvalidCompany_InvalidOperation => k_is)
    (case iv_InvalidCompany_ParseError => k_is)
    (case iv_InvalidCompany_UnknownName => k_is)
    (case iv_InvalidCompany_InvalidNumber => k_is)
    (case iv_InvalidCompany_TooMany => k_is)
    (case iv_InvalidCompany_NothingToUndo => k_is)
    (case iv_InvalidCompany_Broken => k_is)
    (case iv_InvalidCompany_ValueError => k_is)
    (case iv_InvalidCompany_KeyError => k_is)
    (case iv_InvalidCompany_RuntimeError => k_is)
    (case iv_InvalidCompany_OverflowError => k_is)
    (case iv_InvalidCompany_IndexError => k_is)
    (case iv_InvalidCompany_ArithmeticError => k_is)
    (case iv_InvalidCompany_LookupError => k_is)
    (case iv_InvalidBundle_LetterError => k_is)
    (case iv_InvalidBundle_InvalidCutter => k_is)
    (case iv_InvalidBundle_InvalidCompany => k_is)
    (case iv_InvalidBundle_InvalidRule => k_is)
    (case iv_InvalidBundle_InvalidLot => k_is)
    (case iv_InvalidBundle_InvalidState => k_is)
    (case iv_InvalidBundle_InvalidLetter => k_is)
    (case iv_InvalidBundle_InvalidPledge => k_is)
    (case iv_InvalidBundle_InvalidOperation => k_is)
    (case iv_InvalidBundle_ParseError => k_is)
    (case iv_InvalidBundle_UnknownName => k_is)
    (case iv_InvalidBundle_InvalidNumber => k_is)
    (case iv_InvalidBundle_TooMany => k_is)
    (case iv_InvalidBundle_NothingToUndo => k_is)
    (case iv_InvalidBundle_Broken => k_is)
    (case iv_InvalidBundle_ValueError => k_is)
    (case iv_InvalidBundle_KeyError => k_is)
    (case iv_InvalidBundle_RuntimeError => k_is)
    (case iv_InvalidBundle_OverflowError => k_is)
    (case iv_InvalidBundle_IndexError => k_is)
    (case iv_InvalidBundle_ArithmeticError => k_is)
    (case iv_InvalidBundle_LookupError => k_is)
    (case iv_InvalidRule_LetterError => k_is)
    (case iv_InvalidRule_InvalidCutter => k_is)
    (case iv_InvalidRule_InvalidCompany => k_is)
    (case iv_InvalidRule_InvalidBundle => k_is)
    (case iv_InvalidRule_InvalidLot => k_is)
    (case iv_InvalidRule_InvalidState => k_is)
    (case iv_InvalidRule_InvalidLetter => k_is)
    (case iv_InvalidRule_InvalidPledge => k_is)
    (case iv_InvalidRule_InvalidOperation => k_is)
    (case iv_InvalidRule_ParseError => k_is)
    (case iv_InvalidRule_UnknownName => k_is)
    (case iv_InvalidRule_InvalidNumber => k_is)
    (case iv_InvalidRule_TooMany => k_is)
    (case iv_InvalidRule_NothingToUndo => k_is)
    (case iv_InvalidRule_Broken => k_is)
    (case iv_InvalidRule_ValueError => k_is)
    (case iv_InvalidRule_KeyError => k_is)
    (case iv_InvalidRule_RuntimeError => k_is)
    (case iv_InvalidRule_OverflowError => k_is)
    (case iv_InvalidRule_IndexError => k_is)
    (case iv_InvalidRule_ArithmeticError => k_is)
    (case iv_InvalidRule_LookupError => k_is)
    (case iv_InvalidLot_LetterError => k_is)
    (case iv_InvalidLot_InvalidCutter => k_is)
    (case iv_InvalidLot_InvalidCompany => k_is)
    (case iv_InvalidLot_InvalidBundle => k_is)
    (case iv_InvalidLot_InvalidRule => k_is)
    (case iv_InvalidLot_InvalidState => k_is)
    (case iv_InvalidLot_InvalidLetter => k_is)
    (case iv_InvalidLot_InvalidPledge => k_is)
    (case iv_InvalidLot_InvalidOperation => k_is)
    (case iv_InvalidLot_ParseError => k_is)
    (case iv_InvalidLot_UnknownName => k_is)
    (case iv_InvalidLot_InvalidNumber => k_is)
    (case iv_InvalidLot_TooMany => k_is)
    (case iv_InvalidLot_NothingToUndo => k_is)
    (case iv_InvalidLot_Broken => k_is)
    (case iv_InvalidLot_ValueError => k_is)
    (case iv_InvalidLot_KeyError => k_is)
    (case iv_InvalidLot_RuntimeError => k_is)
    (case iv_InvalidLot_OverflowError => k_is)
    (case iv_InvalidLot_IndexError => k_is)
    (case iv_InvalidLot_ArithmeticError => k_is)
    (case iv_InvalidLot_LookupError => k_is)
    (case iv_InvalidState_LetterError => k_is)
    (case iv_InvalidState_InvalidCutter => k_is)
    (case iv_InvalidState_InvalidCompany => k_is)
    (case iv_InvalidState_InvalidBundle => k_is)
    (case iv_InvalidState_InvalidRule => k_is)
    (case iv_InvalidState_InvalidLot => k_is)
    (case iv_InvalidState_InvalidLetter => k_is)
    (case iv_InvalidState_InvalidPledge => k_is)
    (case iv_InvalidState_InvalidOperation => k_is)
    (case iv_InvalidState_ParseError => k_is)
    (case iv_InvalidState_UnknownName => k_is)
    (case iv_InvalidState_InvalidNumber => k_is)
    (case iv_InvalidState_TooMany => k_is)
    (case iv_InvalidState_NothingToUndo => k_is)
    (case iv_InvalidState_Broken => k_is)
    (case iv_InvalidState_ValueError => k_is)
    (case iv_InvalidState_KeyError => k_is)
    (case iv_InvalidState_RuntimeError => k_is)
    (case iv_InvalidState_OverflowError => k_is)
    (case iv_InvalidState_IndexError => k_is)
    (case iv_InvalidState_ArithmeticError => k_is)
    (case iv_InvalidState_LookupError => k_is)
    (case iv_InvalidLetter_LetterError => k_is)
    (case iv_InvalidLetter_InvalidCutter => k_is)
    (case iv_InvalidLetter_InvalidCompany => k_is)
    (case iv_InvalidLetter_InvalidBundle => k_is)
    (case iv_InvalidLetter_InvalidRule => k_is)
    (case iv_InvalidLetter_InvalidLot => k_is)
    (case iv_InvalidLetter_InvalidState => k_is)
    (case iv_InvalidLetter_InvalidPledge => k_is)
    (case iv_InvalidLetter_InvalidOperation => k_is)
    (case iv_InvalidLetter_ParseError => k_is)
    (case iv_InvalidLetter_UnknownName => k_is)
    (case iv_InvalidLetter_InvalidNumber => k_is)
    (case iv_InvalidLetter_TooMany => k_is)
    (case iv_InvalidLetter_NothingToUndo => k_is)
    (case iv_InvalidLetter_Broken => k_is)
    (case iv_InvalidLetter_ValueError => k_is)
    (case iv_InvalidLetter_KeyError => k_is)
    (case iv_InvalidLetter_RuntimeError => k_is)
    (case iv_InvalidLetter_OverflowError => k_is)
    (case iv_InvalidLetter_IndexError => k_is)
    (case iv_InvalidLetter_ArithmeticError => k_is)
    (case iv_InvalidLetter_LookupError => k_is)
    (case iv_InvalidPledge_LetterError => k_is)
    (case iv_InvalidPledge_InvalidCutter => k_is)
    (case iv_InvalidPledge_InvalidCompany => k_is)
    (case iv_InvalidPledge_InvalidBundle => k_is)
    (case iv_InvalidPledge_InvalidRule => k_is)
    (case iv_InvalidPledge_InvalidLot => k_is)
    (case iv_InvalidPledge_InvalidState => k_is)
    (case iv_InvalidPledge_InvalidLetter => k_is)
    (case iv_InvalidPledge_InvalidOperation => k_is)
    (case iv_InvalidPledge_ParseError => k_is)
    (case iv_InvalidPledge_UnknownName => k_is)
    (case iv_InvalidPledge_InvalidNumber => k_is)
    (case iv_InvalidPledge_TooMany => k_is)
    (case iv_InvalidPledge_NothingToUndo => k_is)
    (case iv_InvalidPledge_Broken => k_is)
    (case iv_InvalidPledge_ValueError => k_is)
    (case iv_InvalidPledge_KeyError => k_is)
    (case iv_InvalidPledge_RuntimeError => k_is)
    (case iv_InvalidPledge_OverflowError => k_is)
    (case iv_InvalidPledge_IndexError => k_is)
    (case iv_InvalidPledge_ArithmeticError => k_is)
    (case iv_InvalidPledge_LookupError => k_is)
    (case iv_InvalidOperation_LetterError => k_is)
    (case iv_InvalidOperation_InvalidCutter => k_is)
    (case iv_InvalidOperation_InvalidCompany => k_is)
    (case iv_InvalidOperation_InvalidBundle => k_is)
    (case iv_InvalidOperation_InvalidRule => k_is)
    (case iv_InvalidOperation_InvalidLot => k_is)
    (case iv_InvalidOperation_InvalidState => k_is)
    (case iv_InvalidOperation_InvalidLetter => k_is)
    (case iv_InvalidOperation_InvalidPledge => k_is)
    (case iv_InvalidOperation_ParseError => k_is)
    (case iv_InvalidOperation_UnknownName => k_is)
    (case iv_InvalidOperation_InvalidNumber => k_is)
    (case iv_InvalidOperation_TooMany => k_is)
    (case iv_InvalidOperation_NothingToUndo => k_is)
    (case iv_InvalidOperation_Broken => k_is)
    (case iv_InvalidOperation_ValueError => k_is)
    (case iv_InvalidOperation_KeyError => k_is)
    (case iv_InvalidOperation_RuntimeError => k_is)
    (case iv_InvalidOperation_OverflowError => k_is)
    (case iv_InvalidOperation_IndexError => k_is)
    (case iv_InvalidOperation_ArithmeticError => k_is)
    (case iv_InvalidOperation_LookupError => k_is)
    (case iv_ParseError_LetterError => k_is)
    (case iv_ParseError_InvalidCutter => k_is)
    (case iv_ParseError_InvalidCompany => k_is)
    (case iv_ParseError_InvalidBundle => k_is)
    (case iv_ParseError_InvalidRule => k_is)
    (case iv_ParseError_InvalidLot => k_is)
    (case iv_ParseError_InvalidState => k_is)
    (case iv_ParseError_InvalidLetter => k_is)
    (case iv_ParseError_InvalidPledge => k_is)
    (case iv_ParseError_InvalidOperation => k_is)
    (case iv_ParseError_UnknownName => k_is)
    (case iv_ParseError_InvalidNumber => k_is)
    (case iv_ParseError_TooMany => k_is)
    (case iv_ParseError_NothingToUndo => k_is)
    (case iv_ParseError_Broken => k_is)
    (case iv_ParseError_ValueError => k_is)
    (case iv_ParseError_KeyError => k_is)
    (case iv_ParseError_RuntimeError => k_is)
    (case iv_ParseError_OverflowError => k_is)
    (case iv_ParseError_IndexError => k_is)
    (case iv_ParseError_ArithmeticError => k_is)
    (case iv_ParseError_LookupError => k_is)
    (case iv_UnknownName_LetterError => k_is)
    (case iv_UnknownName_InvalidCutter => k_is)
    (case iv_UnknownName_InvalidCompany => k_is)
    (case iv_UnknownName_InvalidBundle => k_is)
    (case iv_UnknownName_InvalidRule => k_is)
    (case iv_UnknownName_InvalidLot => k_is)
    (case iv_UnknownName_InvalidState => k_is)
    (case iv_UnknownName_InvalidLetter => k_is)
    (case iv_UnknownName_InvalidPledge => k_is)
    (case iv_UnknownName_InvalidOperation => k_is)
    (case iv_UnknownName_ParseError => k_is)
    (case iv_UnknownName_InvalidNumber => k_is)
    (case iv_UnknownName_TooMany => k_is)
    (case iv_UnknownName_NothingToUndo => k_is)
    (case iv_UnknownName_Broken => k_is)
    (case iv_UnknownName_ValueError => k_is)
    (case iv_UnknownName_KeyError => k_is)
    (case iv_UnknownName_RuntimeError => k_is)
    (case iv_UnknownName_OverflowError => k_is)
    (case iv_UnknownName_IndexError => k_is)
    (case iv_UnknownName_ArithmeticError => k_is)
    (case iv_UnknownName_LookupError => k_is)
    (case iv_InvalidNumber_LetterError => k_is)
    (case iv_InvalidNumber_InvalidCutter => k_is)
    (case iv_InvalidNumber_InvalidCompany => k_is)
    (case iv_InvalidNumber_InvalidBundle => k_is)
    (case iv_InvalidNumber_InvalidRule => k_is)
    (case iv_InvalidNumber_InvalidLot => k_is)
    (case iv_InvalidNumber_InvalidState => k_is)
    (case iv_InvalidNumber_InvalidLetter => k_is)
    (case iv_InvalidNumber_InvalidPledge => k_is)
    (case iv_InvalidNumber_InvalidOperation => k_is)
    (case iv_InvalidNumber_ParseError => k_is)
    (case iv_InvalidNumber_UnknownName => k_is)
    (case iv_InvalidNumber_TooMany => k_is)
    (case iv_InvalidNumber_NothingToUndo => k_is)
    (case iv_InvalidNumber_Broken => k_is)
    (case iv_InvalidNumber_ValueError => k_is)
    (case iv_InvalidNumber_KeyError => k_is)
    (case iv_InvalidNumber_RuntimeError => k_is)
    (case iv_InvalidNumber_OverflowError => k_is)
    (case iv_InvalidNumber_IndexError => k_is)
    (case iv_InvalidNumber_ArithmeticError => k_is)
    (case iv_InvalidNumber_LookupError => k_is)
    (case iv_TooMany_LetterError => k_is)
    (case iv_TooMany_InvalidCutter => k_is)
    (case iv_TooMany_InvalidCompany => k_is)
    (case iv_TooMany_InvalidBundle => k_is)
    (case iv_TooMany_InvalidRule => k_is)
    (case iv_TooMany_InvalidLot => k_is)
    (case iv_TooMany_InvalidState => k_is)
    (case iv_TooMany_InvalidLetter => k_is)
    (case iv_TooMany_InvalidPledge => k_is)
    (case iv_TooMany_InvalidOperation => k_is)
    (case iv_TooMany_ParseError => k_is)
    (case iv_TooMany_UnknownName => k_is)
    (case iv_TooMany_InvalidNumber => k_is)
    (case iv_TooMany_NothingToUndo => k_is)
    (case iv_TooMany_Broken => k_is)
    (case iv_TooMany_ValueError => k_is)
    (case iv_TooMany_KeyError => k_is)
    (case iv_TooMany_RuntimeError => k_is)
    (case iv_TooMany_OverflowError => k_is)
    (case iv_TooMany_IndexError => k_is)
    (case iv_TooMany_ArithmeticError => k_is)
    (case iv_TooMany_LookupError => k_is)
    (case iv_NothingToUndo_LetterError => k_is)
    (case iv_NothingToUndo_InvalidCutter => k_is)
    (case iv_NothingToUndo_InvalidCompany => k_is)
    (case iv_NothingToUndo_InvalidBundle => k_is)
    (case iv_NothingToUndo_InvalidRule => k_is)
    (case iv_NothingToUndo_InvalidLot => k_is)
    (case iv_NothingToUndo_InvalidState => k_is)
    (case iv_NothingToUndo_InvalidLetter => k_is)
    (case iv_NothingToUndo_InvalidPledge => k_is)
    (case iv_NothingToUndo_InvalidOperation => k_is)
    (case iv_NothingToUndo_ParseError => k_is)
    (case iv_NothingToUndo_UnknownName => k_is)
    (case iv_NothingToUndo_InvalidNumber => k_is)
    (case iv_NothingToUndo_TooMany => k_is)
    (case iv_NothingToUndo_Broken => k_is)
    (case iv_NothingToUndo_ValueError => k_is)
    (case iv_NothingToUndo_KeyError => k_is)
    (case iv_NothingToUndo_RuntimeError => k_is)
    (case iv_NothingToUndo_OverflowError => k_is)
    (case iv_NothingToUndo_IndexError => k_is)
    (case iv_NothingToUndo_ArithmeticError => k_is)
    (case iv_NothingToUndo_LookupError => k_is)
    (case iv_Broken_LetterError => k_is)
    (case iv_Broken_InvalidCutter => k_is)
    (case iv_Broken_InvalidCompany => k_is)
    (case iv_Broken_InvalidBundle => k_is)
    (case iv_Broken_InvalidRule => k_is)
    (case iv_Broken_InvalidLot => k_is)
    (case iv_Broken_InvalidState => k_is)
    (case iv_Broken_InvalidLetter => k_is)
    (case iv_Broken_InvalidPledge => k_is)
    (case iv_Broken_InvalidOperation => k_is)
    (case iv_Broken_ParseError => k_is)
    (case iv_Broken_UnknownName => k_is)
    (case iv_Broken_InvalidNumber => k_is)
    (case iv_Broken_TooMany => k_is)
    (case iv_Broken_NothingToUndo => k_is)
    (case iv_Broken_ValueError => k_is)
    (case iv_Broken_KeyError => k_is)
    (case iv_Broken_RuntimeError => k_is)
    (case iv_Broken_OverflowError => k_is)
    (case iv_Broken_IndexError => k_is)
    (case iv_Broken_ArithmeticError => k_is)
    (case iv_Broken_LookupError => k_is)
#print axioms PySem.Challenge.cw_namedabove_k00_errors_and_what_they_keep_holds
