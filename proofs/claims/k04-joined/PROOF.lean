import PyProof.Rows.All
import Wide.All
import OpenK.AllK
import Wide.FinOn
import HandS.ForMost
import HandS.Walk
import HandS.IsInst
import HandS.Wide
import HandS.Style
import HandS.Exc
import HandS.TupAny
import HandS.TupMul
import HandS.TupLe
import HandS.RaiseMore
import HandS.Codes
import HandS.Star
import PyProof.ReprRoads
import HandS.ClsMeth
import HandS.Property
import HandS.NoneIn
import KE.KCallOwn
import PyProof.InstNe
import HandS.SlotsOwn
import HandS.Conv
import HandS.Comp
import PyProof.StrLawsRepr
import HandS.Defaults
import KE.KExcSuper
import HandS.ExcInit
import HandS.WordsExc
import HandS.TryMany
import HandS.ExcField
import HandS.ExcIs
import PyProof.EqAt
import PySem.Challenge.RW_namedabove_k04_cutters_one_after_another
set_option Elab.async false
set_option linter.all false
set_option maxRecDepth 100000
set_option maxHeartbeats 4000000
/-! Nv: pure data in place of heaps. G is what is known of the heap, H what is there. -/
namespace Nv
open PySem PySem.Spec PyProof.Rows L2

/-! ### heaps -/
abbrev Ex (G H : Hp) : Prop := L2.Same G H
theorem Ex.new {H : Hp} {p : Addr} {o : HO} (h : H p = none) : Ex H (upd H p o) := fun a u e => by
  rw [upd_ne (ne_of_none e h)]; exact e
theorem Ex.tup {K : PySem.W.Frag} {H H' : Hp} {a : Addr} {xs : List V} (e : Ex H H') (h : SqT K H a xs) : SqT K H' a xs := by
  rcases h with (h | ⟨o, h⟩) | h
  · exact .inl (.inl (e _ _ h))
  · exact .inl (.inr ⟨o, e _ _ h⟩)
  · exact .inr h
/-- from the known G in the heap H to the known G' in the heap H': what was known is known, what is new was free -/
structure Go (G H G' H' : Hp) : Prop where
  kn : Ex G G'
  nw : ∀ a, G a = none → H a ≠ none → G' a = none
  ink : Ex G' H'
  up : Ex H H'
theorem Go.refl {G H : Hp} (e : Ex G H) : Go G H G H := ⟨Same.refl G, fun _ h _ => h, e, Same.refl H⟩
theorem ne_up {H H' : Hp} (e : Ex H H') {a : Addr} (h : H a ≠ none) : H' a ≠ none := fun z => by
  cases q : H a with
  | none => exact h q
  | some o => rw [e a o q] at z; cases z
theorem Go.trans {G H G1 H1 G2 H2 : Hp} (a : Go G H G1 H1) (b : Go G1 H1 G2 H2) : Go G H G2 H2 :=
  ⟨a.kn.trans b.kn, fun x h1 h2 => b.nw x (a.nw x h1 h2) (ne_up a.up h2), b.ink, a.up.trans b.up⟩
theorem upd_mono {G H : Hp} (e : Ex G H) (p : Addr) (o : HO) : Ex (upd G p o) (upd H p o) := fun a u h => by
  by_cases c : a = p
  · subst c; rw [upd_same] at h ⊢; exact h
  · rw [upd_ne c] at h ⊢; exact e a u h
theorem Go.new {G H : Hp} {p : Addr} {o : HO} (e : Ex G H) (h : H p = none) : Go G H (upd G p o) (upd H p o) :=
  ⟨Ex.new (e.free h), fun a h1 h2 => by rw [upd_ne (fun c => h2 (by rw [c]; exact h))]; exact h1, upd_mono e p o, Ex.new h⟩
/-- an unknown new object changes nothing of what is known -/
theorem Go.put {G H : Hp} {p : Addr} {o : HO} (e : Ex G H) (h : H p = none) : Go G H G (upd H p o) :=
  ⟨Same.refl G, fun _ h _ => h, e.trans (Ex.new h), Ex.new h⟩

/-! ### data -/
inductive Dt where
  | non | bl (b : Bool) | int (i : Int) | str (x : Str) | ty (n : String)
  | lst (l : List Dt) | sq (l : List Dt) | tup (l : List Dt)
  | dic (l : List (Key × Dt))
  | ins (C : Addr) (l : List (Str × Dt))
  | ext (φ : Addr → Heap → Prop)
  | obj (a : Addr)
  | exc (a C : Addr) (od : Option Addr) (l : List (Str × Dt))
mutual
def Dat (K : PySem.W.Frag) (G : Hp) : Dt → V → Prop
  | .non, v => v = .non
  | .bl b, v => v = .bl b
  | .int i, v => v = .int i
  | .str x, v => v = .str x
  | .ty n, v => v = .ty n
  | .lst l, v => ∃ a xs, v = .ref a ∧ G a = some (.lst xs) ∧ Dats K G l xs
  | .sq l, v => ∃ a xs, v = .ref a ∧ SqL K G a xs ∧ Dats K G l xs
  | .tup l, v => ∃ a xs, v = .ref a ∧ SqT K G a xs ∧ Dats K G l xs
  | .dic l, v => ∃ a kvs, v = .ref a ∧ G a = some (.dK kvs) ∧ Datk K G l kvs
  | .ins C l, v => ∃ a dx fs, v = .ref a ∧ G a = some (.ins C dx fs) ∧ Datf K G l fs
  | .ext φ, v => ∃ a, v = .ref a ∧ G a = some (.ext (φ a))
  | .obj a, v => v = .ref a
  | .exc a _ od l, v => v = .ref a ∧ ((od = none ∧ l = []) ∨ ∃ dx fs, od = some dx ∧ G dx = some (.xd fs) ∧ Datf K G l fs)
def Dats (K : PySem.W.Frag) (G : Hp) : List Dt → List V → Prop
  | [], xs => xs = []
  | d :: l, xs => ∃ x r, xs = x :: r ∧ Dat K G d x ∧ Dats K G l r
def Datk (K : PySem.W.Frag) (G : Hp) : List (Key × Dt) → List (Key × V) → Prop
  | [], xs => xs = []
  | (k, d) :: l, xs => ∃ x r, xs = (k, x) :: r ∧ Dat K G d x ∧ Datk K G l r
def Datf (K : PySem.W.Frag) (G : Hp) : List (Str × Dt) → List (Str × V) → Prop
  | [], xs => xs = []
  | (k, d) :: l, xs => ∃ x r, xs = (k, x) :: r ∧ Dat K G d x ∧ Datf K G l r
end
section
variable {K : PySem.W.Frag} {G G' : Hp}
mutual
theorem Dat.up (e : Ex G G') : ∀ {d : Dt} {v : V}, Dat K G d v → Dat K G' d v
  | .non, _, h => h
  | .bl _, _, h => h
  | .int _, _, h => h
  | .str _, _, h => h
  | .ty _, _, h => h
  | .obj _, _, h => h
  | .lst _, _, ⟨a, xs, h1, h2, h3⟩ => ⟨a, xs, h1, e _ _ h2, Dats.up e h3⟩
  | .sq _, _, ⟨a, xs, h1, h2, h3⟩ => ⟨a, xs, h1, e.seq h2, Dats.up e h3⟩
  | .tup _, _, ⟨a, xs, h1, h2, h3⟩ => ⟨a, xs, h1, Ex.tup e h2, Dats.up e h3⟩
  | .dic _, _, ⟨a, xs, h1, h2, h3⟩ => ⟨a, xs, h1, e _ _ h2, Datk.up e h3⟩
  | .ins _ _, _, ⟨a, dx, fs, h1, h2, h3⟩ => ⟨a, dx, fs, h1, e _ _ h2, Datf.up e h3⟩
  | .ext _, _, ⟨a, h1, h2⟩ => ⟨a, h1, e _ _ h2⟩
  | .exc _ _ _ _, _, ⟨h1, .inl h2⟩ => ⟨h1, .inl h2⟩
  | .exc _ _ _ _, _, ⟨h1, .inr ⟨dx, fs, h2, h3, h4⟩⟩ => ⟨h1, .inr ⟨dx, fs, h2, e _ _ h3, Datf.up e h4⟩⟩
theorem Dats.up (e : Ex G G') : ∀ {l : List Dt} {xs : List V}, Dats K G l xs → Dats K G' l xs
  | [], _, h => h
  | _ :: _, _, ⟨x, r, h1, h2, h3⟩ => ⟨x, r, h1, Dat.up e h2, Dats.up e h3⟩
theorem Datk.up (e : Ex G G') : ∀ {l : List (Key × Dt)} {xs : List (Key × V)}, Datk K G l xs → Datk K G' l xs
  | [], _, h => h
  | (_, _) :: _, _, ⟨x, r, h1, h2, h3⟩ => ⟨x, r, h1, Dat.up e h2, Datk.up e h3⟩
theorem Datf.up (e : Ex G G') : ∀ {l : List (Str × Dt)} {xs : List (Str × V)}, Datf K G l xs → Datf K G' l xs
  | [], _, h => h
  | (_, _) :: _, _, ⟨x, r, h1, h2, h3⟩ => ⟨x, r, h1, Dat.up e h2, Datf.up e h3⟩
end
theorem Dats.len : ∀ {l : List Dt} {xs : List V}, Dats K G l xs → xs.length = l.length
  | [], _, h => by cases h; rfl
  | _ :: _, _, ⟨x, r, h1, _, h3⟩ => by subst h1; simp [Dats.len h3]
theorem Dats.get : ∀ {l : List Dt} {xs : List V} {i : Nat} {d : Dt}, Dats K G l xs → l[i]? = some d → ∃ x, xs[i]? = some x ∧ Dat K G d x
  | [], _, _, _, _, h => by simp at h
  | _ :: _, _, 0, _, ⟨x, r, h1, h2, _⟩, h => by
    simp at h; subst h; subst h1; exact ⟨x, rfl, h2⟩
  | _ :: _, _, i + 1, d, ⟨x, r, h1, _, h3⟩, h => by
    subst h1
    obtain ⟨y, q1, q2⟩ := Dats.get (i := i) (d := d) h3 (by simpa using h)
    exact ⟨y, by simpa using q1, q2⟩
theorem Dats.getV : ∀ {l : List Dt} {xs : List V} {i : Nat} {x : V}, Dats K G l xs → xs[i]? = some x → ∃ d, l[i]? = some d ∧ Dat K G d x
  | [], _, _, _, h, q => by cases h; simp at q
  | d :: _, _, 0, _, ⟨x, r, h1, h2, _⟩, h => by
    subst h1; simp at h; subst h; exact ⟨d, rfl, h2⟩
  | _ :: _, _, i + 1, y, ⟨x, r, h1, _, h3⟩, h => by
    subst h1
    obtain ⟨d, q1, q2⟩ := Dats.getV (i := i) (x := y) h3 (by simpa using h)
    exact ⟨d, by simpa using q1, q2⟩
theorem Dats.snoc : ∀ {l : List Dt} {xs : List V} {d : Dt} {x : V}, Dats K G l xs → Dat K G d x → Dats K G (l ++ [d]) (xs ++ [x])
  | [], _, _, x, h, q => by cases h; exact ⟨x, [], rfl, q, rfl⟩
  | _ :: _, _, _, _, ⟨y, r, h1, h2, h3⟩, q => by subst h1; exact ⟨y, r ++ [_], rfl, h2, Dats.snoc h3 q⟩
theorem Dats.app : ∀ {l m : List Dt} {xs ys : List V}, Dats K G l xs → Dats K G m ys → Dats K G (l ++ m) (xs ++ ys)
  | [], _, _, _, h, q => by cases h; exact q
  | _ :: _, _, _, _, ⟨y, r, h1, h2, h3⟩, q => by subst h1; exact ⟨y, r ++ _, rfl, h2, Dats.app h3 q⟩
theorem Dats.take : ∀ {l : List Dt} {xs : List V} (n : Nat), Dats K G l xs → Dats K G (l.take n) (xs.take n)
  | _, _, 0, _ => by simp [Dats]
  | [], _, _ + 1, h => by cases h; simp [Dats]
  | _ :: _, _, n + 1, ⟨y, r, h1, h2, h3⟩ => by subst h1; exact ⟨y, r.take n, rfl, h2, Dats.take n h3⟩
theorem Dats.drop : ∀ {l : List Dt} {xs : List V} (n : Nat), Dats K G l xs → Dats K G (l.drop n) (xs.drop n)
  | _, _, 0, h => h
  | [], _, _ + 1, h => by cases h; simp [Dats]
  | _ :: _, _, n + 1, ⟨y, r, h1, h2, h3⟩ => by subst h1; exact Dats.drop n h3
end

/-! ### slots -/
inductive Sd where
  | no | dt (d : Dt) | own (a : Addr) (d : Dt)
/-- an object of a def's own: d, as the heap has it -/
def OwnD (K : PySem.W.Frag) (G : Hp) : Dt → HO → Prop
  | .lst l, o => ∃ xs, o = .lst xs ∧ Dats K G l xs
  | .dic l, o => ∃ xs, o = .dK xs ∧ Datk K G l xs
  | .ins C l, o => ∃ dx fs, o = .ins C dx fs ∧ Datf K G l fs
  | _, _ => False
theorem OwnD.up {K : PySem.W.Frag} {G G' : Hp} (e : Ex G G') : ∀ {d : Dt} {o : HO}, OwnD K G d o → OwnD K G' d o
  | .lst _, _, ⟨xs, h1, h2⟩ => ⟨xs, h1, h2.up e⟩
  | .dic _, _, ⟨xs, h1, h2⟩ => ⟨xs, h1, h2.up e⟩
  | .ins _ _, _, ⟨dx, fs, h1, h2⟩ => ⟨dx, fs, h1, h2.up e⟩
/-- told: it is data -/
theorem OwnD.dat {K : PySem.W.Frag} {G : Hp} {a : Addr} (hn : G a = none) : ∀ {d : Dt} {o : HO}, OwnD K G d o → Dat K (upd G a o) d (.ref a)
  | .lst _, _, ⟨xs, h1, h2⟩ => by subst h1; exact ⟨a, xs, rfl, upd_same, h2.up (Ex.new hn)⟩
  | .dic _, _, ⟨xs, h1, h2⟩ => by subst h1; exact ⟨a, xs, rfl, upd_same, h2.up (Ex.new hn)⟩
  | .ins _ _, _, ⟨dx, fs, h1, h2⟩ => by subst h1; exact ⟨a, dx, fs, rfl, upd_same, h2.up (Ex.new hn)⟩
/-- the values of the slots that hold data -/
structure Sv (K : PySem.W.Frag) (G : Hp) (σ : L2.St) (ss : List Sd) : Prop where
  len : σ.length = ss.length
  dat : ∀ (i : Nat) (d : Dt), ss[i]? = some (.dt d) → ∃ v, σ[i]? = some (some v) ∧ Dat K G d v
/-- and of those that hold lists of their own: H0 is the heap at the def's entry -/
structure Sl (K : PySem.W.Frag) (H0 G H : Hp) (σ : L2.St) (ss : List Sd) : Prop where
  sv : Sv K G σ ss
  own : ∀ (i : Nat) (a : Addr) (l : Dt), ss[i]? = some (.own a l) → σ[i]? = some (some (.ref a)) ∧ H0 a = none ∧ G a = none ∧ ∃ o, H a = some o ∧ OwnD K G l o
  sep : ∀ (i j : Nat) (l m : Dt) (a : Addr), ss[i]? = some (.own a l) → ss[j]? = some (.own a m) → i = j
section
variable {K : PySem.W.Frag} {G G' H H' H0 : Hp} {σ : L2.St} {ss : List Sd}
theorem Sv.up (h : Sv K G σ ss) (e : Ex G G') : Sv K G' σ ss := ⟨h.len, fun i d q => let ⟨v, h1, h2⟩ := h.dat i d q; ⟨v, h1, h2.up e⟩⟩
theorem Sv.set (h : Sv K G σ ss) {j : Nat} {d : Dt} {v : V} (q : Dat K G d v) : Sv K G (σ.set j (some v)) (ss.set j (.dt d)) := by
  refine ⟨by simp [h.len], fun i e z => ?_⟩
  by_cases c : j = i
  · subst c
    by_cases b : j < ss.length
    · rw [List.getElem?_set_self b] at z
      cases z
      exact ⟨v, by rw [List.getElem?_set_self (by rw [h.len]; exact b)], q⟩
    · rw [List.getElem?_eq_none (by simpa using b)] at z; cases z
  · rw [List.getElem?_set_ne c] at z ⊢
    exact h.dat i e z
theorem Sv.forget (h : Sv K G σ ss) {j : Nat} {o : Option V} : Sv K G (σ.set j o) (ss.set j .no) := by
  refine ⟨by simp [h.len], fun i e z => ?_⟩
  by_cases c : j = i
  · subst c
    by_cases b : j < ss.length
    · rw [List.getElem?_set_self b] at z; cases z
    · rw [List.getElem?_eq_none (by simpa using b)] at z; cases z
  · rw [List.getElem?_set_ne c] at z ⊢
    exact h.dat i e z
theorem Sl.go (h : Sl K H0 G H σ ss) (g : Go G H G' H') : Sl K H0 G' H' σ ss :=
  ⟨h.sv.up g.kn, fun i a l q => let ⟨h1, h2, h3, o, h4, h5⟩ := h.own i a l q; ⟨h1, h2, g.nw a h3 (by rw [h4]; exact fun z => nomatch z), o, g.up a _ h4, h5.up g.kn⟩, h.sep⟩
theorem get_set_own {j i : Nat} {x : Sd} {a : Addr} {l : Dt} (hx : ∀ b m, x ≠ .own b m) (z : (ss.set j x)[i]? = some (.own a l)) : ss[i]? = some (.own a l) ∧ j ≠ i := by
  by_cases c : j = i
  · subst c
    by_cases b : j < ss.length
    · rw [List.getElem?_set_self b] at z; exact absurd (Option.some.inj z) (hx a l)
    · rw [List.getElem?_eq_none (by simpa using b)] at z; cases z
  · rw [List.getElem?_set_ne c] at z
    exact ⟨z, c⟩
theorem Sl.set (h : Sl K H0 G H σ ss) {j : Nat} {d : Dt} {v : V} (q : Dat K G d v) : Sl K H0 G H (σ.set j (some v)) (ss.set j (.dt d)) := by
  refine ⟨h.sv.set q, fun i a l z => ?_, fun i k l m a z1 z2 => ?_⟩
  · obtain ⟨z', c⟩ := get_set_own (fun b m => Sd.noConfusion) z
    rw [List.getElem?_set_ne c]
    exact h.own i a l z'
  · exact h.sep i k l m a (get_set_own (fun b m => Sd.noConfusion) z1).1 (get_set_own (fun b m => Sd.noConfusion) z2).1
end

/-! ### what an expression, a test, arguments come to: R is what is wanted of the data -/
def EvD (K : PySem.W.Frag) (te : TE) (ss : List Sd) (R : Dt → Prop) : Prop := ∀ (G : Hp) (σ : L2.St) (H : Hp), Ex G H → Sv K G σ ss → ∀ Q : VK, (∀ v d G' H', Go G H G' H' → Dat K G' d v → R d → Q v H') → te σ H Q
def EvT (K : PySem.W.Frag) (tt : TT) (ss : List Sd) (R : Bool → Prop) : Prop := ∀ (G : Hp) (σ : L2.St) (H : Hp), Ex G H → Sv K G σ ss → ∀ Q : Bool → Hp → Prop, (∀ b G' H', Go G H G' H' → R b → Q b H') → tt σ H Q
def EvA (K : PySem.W.Frag) (ta : TA) (ss : List Sd) (R : List Dt → Prop) : Prop := ∀ (G : Hp) (σ : L2.St) (H : Hp), Ex G H → Sv K G σ ss → ∀ Q : List V → Hp → Prop, (∀ vs ds G' H', Go G H G' H' → Dats K G' ds vs → R ds → Q vs H') → ta σ H Q
def EvO (K : PySem.W.Frag) (to : TO) (ss : List Sd) (R : Option Int → Prop) : Prop := ∀ (G : Hp) (σ : L2.St) (H : Hp), Ex G H → Sv K G σ ss → ∀ Q : Option Int → Hp → Prop, (∀ o G' H', Go G H G' H' → R o → Q o H') → to σ H Q
/-- an operator, a one-place operator, a call, by data -/
def RD (K : PySem.W.Frag) (r : R2) (x y : Dt) (R : Dt → Prop) : Prop := ∀ (G H : Hp) (v w : V), Ex G H → Dat K G x v → Dat K G y w → ∀ Q : VK, (∀ z d G' H', Go G H G' H' → Dat K G' d z → R d → Q z H') → r v w H Q
def UD (K : PySem.W.Frag) (r : V → Hp → VK → Prop) (x : Dt) (R : Dt → Prop) : Prop := ∀ (G H : Hp) (v : V), Ex G H → Dat K G x v → ∀ Q : VK, (∀ z d G' H', Go G H G' H' → Dat K G' d z → R d → Q z H') → r v H Q
def CD (K : PySem.W.Frag) (r : List V → Hp → VK → Prop) (ds : List Dt) (R : Dt → Prop) : Prop := ∀ (G H : Hp) (vs : List V), Ex G H → Dats K G ds vs → ∀ Q : VK, (∀ z d G' H', Go G H G' H' → Dat K G' d z → R d → Q z H') → r vs H Q
section
variable {K : PySem.W.Frag} {ss : List Sd} {R R' : Dt → Prop} {ta tb te : TE} {t u : TT} {r : R2}
theorem EvD.imp (h : EvD K te ss R) (f : ∀ d, R d → R' d) : EvD K te ss R' := fun G σ H e s Q q => h G σ H e s Q fun v d G' H' g hd hr => q v d G' H' g hd (f d hr)
theorem EvT.imp {R R' : Bool → Prop} (h : EvT K t ss R) (f : ∀ d, R d → R' d) : EvT K t ss R' := fun G σ H e s Q q => h G σ H e s Q fun b G' H' g hr => q b G' H' g (f b hr)
theorem ed_var {i : Nat} {d : Dt} (h : ss[i]? = some (.dt d)) (hr : R d) : EvD K (tVar i) ss R := fun G σ H e s Q q => by
  obtain ⟨v, h1, h2⟩ := s.dat i d h
  exact ⟨v, h1, q v d G H (Go.refl e) h2 hr⟩
theorem ed_c {v : V} {d : Dt} (hd : ∀ G, Dat K G d v) (hr : R d) : EvD K (tC v) ss R := fun G σ H e s Q q => q v d G H (Go.refl e) (hd G) hr
theorem ed_int {i : Int} (hr : R (.int i)) : EvD K (tC (.int i)) ss R := ed_c (d := .int i) (fun _ => rfl) hr
theorem ed_bl {i : Bool} (hr : R (.bl i)) : EvD K (tC (.bl i)) ss R := ed_c (d := .bl i) (fun _ => rfl) hr
theorem ed_str {i : Str} (hr : R (.str i)) : EvD K (tC (.str i)) ss R := ed_c (d := .str i) (fun _ => rfl) hr
theorem ed_non (hr : R .non) : EvD K (tC .non) ss R := ed_c (d := .non) (fun _ => rfl) hr
theorem ed_ty {n : String} (hr : R (.ty n)) : EvD K (tC (.ty n)) ss R := ed_c (d := .ty n) (fun _ => rfl) hr
theorem ed_obj {a : Addr} (hr : R (.obj a)) : EvD K (tC (.ref a)) ss R := ed_c (d := .obj a) (fun _ => rfl) hr
theorem ed_op (h : EvD K ta ss fun x => EvD K tb ss fun y => RD K r x y R) : EvD K (tOp r ta tb) ss R := fun G σ H e s Q q =>
  h G σ H e s _ fun v x G1 H1 g1 d1 h2 => h2 G1 σ H1 g1.ink (s.up g1.kn) _ fun w y G2 H2 g2 d2 h3 =>
    h3 G2 H2 v w g2.ink (d1.up g2.kn) d2 Q fun z d G3 H3 g3 d3 hr => q z d G3 H3 (g1.trans (g2.trans g3)) d3 hr
theorem ed_un {r : V → Hp → VK → Prop} (h : EvD K ta ss fun x => UD K r x R) : EvD K (tUn r ta) ss R := fun G σ H e s Q q =>
  h G σ H e s _ fun v x G1 H1 g1 d1 h2 => h2 G1 H1 v g1.ink d1 Q fun z d G3 H3 g3 d3 hr => q z d G3 H3 (g1.trans g3) d3 hr
theorem ea_nil {R : List Dt → Prop} (h : R []) : EvA K tNil ss R := fun G σ H e s Q q => q [] [] G H (Go.refl e) rfl h
theorem ea_cons {tr : TA} {R : List Dt → Prop} (h : EvD K ta ss fun x => EvA K tr ss fun l => R (x :: l)) : EvA K (tCons ta tr) ss R := fun G σ H e s Q q =>
  h G σ H e s _ fun v x G1 H1 g1 d1 h2 => h2 G1 σ H1 g1.ink (s.up g1.kn) _ fun vs l G2 H2 g2 d2 h3 => q (v :: vs) (x :: l) G2 H2 (g1.trans g2) ⟨v, vs, rfl, d1.up g2.kn, d2⟩ h3
theorem ed_cb {r : List V → Hp → VK → Prop} {ta : TA} (h : EvA K ta ss fun l => CD K r l R) : EvD K (tCB r ta) ss R := fun G σ H e s Q q =>
  h G σ H e s _ fun vs l G1 H1 g1 d1 h2 => h2 G1 H1 vs g1.ink d1 Q fun z d G3 H3 g3 d3 hr => q z d G3 H3 (g1.trans g3) d3 hr
theorem sz_of {n : Nat} (h : n ≤ 1000000) : n ≤ sizeLine := Nat.le_trans h (by decide)
theorem sz_lt {n : Nat} (h : n < 1000000) : n < sizeLine := Nat.lt_of_lt_of_le h (by decide)
theorem dat_newL {G : Hp} {p : Addr} {l : List Dt} {xs : List V} (d : Dats K G l xs) (h : G p = none) : Dat K (upd G p (.lst xs)) (.lst l) (.ref p) := ⟨p, xs, rfl, upd_same, d.up (Ex.new h)⟩
theorem dat_newT {G : Hp} {p : Addr} {l : List Dt} {xs : List V} (d : Dats K G l xs) (h : G p = none) : Dat K (upd G p (.tup xs)) (.tup l) (.ref p) := ⟨p, xs, rfl, .inl (.inl upd_same), d.up (Ex.new h)⟩
theorem ed_lst {ta : TA} (h : EvA K ta ss fun l => l.length ≤ 1000000 ∧ R (.lst l)) : EvD K (tLst ta) ss R := fun G σ H e s Q q =>
  h G σ H e s _ fun vs l G1 H1 g1 d1 h2 => ⟨by rw [d1.len]; exact sz_of h2.1, fun p hp => q (.ref p) (.lst l) _ _ (g1.trans (Go.new g1.ink hp)) (dat_newL d1 (g1.ink.free hp)) h2.2⟩
theorem ed_tup {ta : TA} (h : EvA K ta ss fun l => l.length ≤ 1000000 ∧ R (.tup l)) : EvD K (tTup ta) ss R := fun G σ H e s Q q =>
  h G σ H e s _ fun vs l G1 H1 g1 d1 h2 => ⟨by rw [d1.len]; exact sz_of h2.1, fun p hp => q (.ref p) (.tup l) _ _ (g1.trans (Go.new g1.ink hp)) (dat_newT d1 (g1.ink.free hp)) h2.2⟩
/-! tests -/
theorem et_test {S : Bool → Prop} (h : EvD K te ss fun d => ∃ b, d = .bl b ∧ S b) : EvT K (tTest te) ss S := fun G σ H e s Q q =>
  h G σ H e s _ fun v d G1 H1 g1 d1 ⟨b, h2, h3⟩ => by subst h2; exact ⟨b, d1, q b G1 H1 g1 h3⟩
theorem et_B {S : Bool → Prop} (h : EvD K te ss fun d => ∃ b, d = .bl b ∧ S b) : EvT K (tB te) ss S := fun G σ H e s Q q =>
  h G σ H e s _ fun v d G1 H1 g1 d1 ⟨b, h2, h3⟩ => by subst h2; exact ⟨b, d1, q b G1 H1 g1 h3⟩
theorem et_and {S : Bool → Prop} (h : EvT K t ss fun b => if b = true then EvT K u ss S else S false) : EvT K (tAnd t u) ss S := fun G σ H e s Q q =>
  h G σ H e s _ fun b G1 H1 g1 h2 => by
    cases b with
    | true => exact h2 G1 σ H1 g1.ink (s.up g1.kn) Q fun b G2 H2 g2 h3 => q b G2 H2 (g1.trans g2) h3
    | false => exact q false G1 H1 g1 h2
theorem et_or {S : Bool → Prop} (h : EvT K t ss fun b => if b = true then S true else EvT K u ss S) : EvT K (tOr t u) ss S := fun G σ H e s Q q =>
  h G σ H e s _ fun b G1 H1 g1 h2 => by
    cases b with
    | true => exact q true G1 H1 g1 h2
    | false => exact h2 G1 σ H1 g1.ink (s.up g1.kn) Q fun b G2 H2 g2 h3 => q b G2 H2 (g1.trans g2) h3
theorem et_not {S : Bool → Prop} (h : EvT K t ss fun b => S (!b)) : EvT K (tNot t) ss S := fun G σ H e s Q q =>
  h G σ H e s _ fun b G1 H1 g1 h2 => q (!b) G1 H1 g1 h2
theorem et_yes {S : Bool → Prop} (h : S true) : EvT K tYes ss S := fun G σ H e s Q q => q true G H (Go.refl e) h
theorem ed_and (h : EvD K ta ss fun d => ∃ b, d = .bl b ∧ if b = true then EvD K tb ss R else R (.bl false)) : EvD K (tAndV ta tb) ss R := fun G σ H e s Q q =>
  h G σ H e s _ fun v d G1 H1 g1 d1 ⟨b, h2, h3⟩ => by
    subst h2
    refine ⟨b, d1, ?_⟩
    cases b with
    | true => exact h3 G1 σ H1 g1.ink (s.up g1.kn) Q fun z d G2 H2 g2 d2 h4 => q z d G2 H2 (g1.trans g2) d2 h4
    | false => exact q (.bl false) (.bl false) G1 H1 g1 rfl h3
theorem ed_or (h : EvD K ta ss fun d => ∃ b, d = .bl b ∧ if b = true then R (.bl true) else EvD K tb ss R) : EvD K (tOrV ta tb) ss R := fun G σ H e s Q q =>
  h G σ H e s _ fun v d G1 H1 g1 d1 ⟨b, h2, h3⟩ => by
    subst h2
    refine ⟨b, d1, ?_⟩
    cases b with
    | true => exact q (.bl true) (.bl true) G1 H1 g1 rfl h3
    | false => exact h3 G1 σ H1 g1.ink (s.up g1.kn) Q fun z d G2 H2 g2 d2 h4 => q z d G2 H2 (g1.trans g2) d2 h4
theorem ed_not (h : EvD K ta ss fun d => ∃ b, d = .bl b ∧ R (.bl (!b))) : EvD K (tNotV ta) ss R := fun G σ H e s Q q =>
  h G σ H e s _ fun v d G1 H1 g1 d1 ⟨b, h2, h3⟩ => by subst h2; exact ⟨b, d1, q (.bl (!b)) (.bl (!b)) G1 H1 g1 rfl h3⟩
theorem ed_if (h : EvT K t ss fun b => if b = true then EvD K ta ss R else EvD K tb ss R) : EvD K (tIf t ta tb) ss R := fun G σ H e s Q q =>
  h G σ H e s _ fun b G1 H1 g1 h2 => by
    cases b with
    | true => exact h2 G1 σ H1 g1.ink (s.up g1.kn) Q fun z d G2 H2 g2 d2 h4 => q z d G2 H2 (g1.trans g2) d2 h4
    | false => exact h2 G1 σ H1 g1.ink (s.up g1.kn) Q fun z d G2 H2 g2 d2 h4 => q z d G2 H2 (g1.trans g2) d2 h4
theorem ed_chain {r' : R2} {tc : TE} (h : EvD K ta ss fun x => EvD K tb ss fun y => RD K r x y fun d => ∃ b, d = .bl b ∧ if b = true then EvD K tc ss fun z => RD K r' y z R else R (.bl false)) : EvD K (tChain r r' ta tb tc) ss R := fun G σ H e s Q q =>
  h G σ H e s _ fun v x G1 H1 g1 d1 h2 => h2 G1 σ H1 g1.ink (s.up g1.kn) _ fun w y G2 H2 g2 d2 h3 =>
    h3 G2 H2 v w g2.ink (d1.up g2.kn) d2 _ fun z d G3 H3 g3 d3 ⟨b, h4, h5⟩ => by
      subst h4
      refine ⟨b, d3, ?_⟩
      cases b with
      | true => exact h5 G3 σ H3 g3.ink (((s.up g1.kn).up g2.kn).up g3.kn) _ fun z' d' G4 H4 g4 d4 h6 => h6 G4 H4 w z' g4.ink ((d2.up g3.kn).up g4.kn) d4 Q fun z d G5 H5 g5 d5 hr => q z d G5 H5 (g1.trans (g2.trans (g3.trans (g4.trans g5)))) d5 hr
      | false => exact q (.bl false) (.bl false) G3 H3 (g1.trans (g2.trans g3)) rfl h5
/-! slices -/
theorem eo_none {S : Option Int → Prop} (h : S none) : EvO K tNoPart ss S := fun G σ H e s Q q => q none G H (Go.refl e) h
theorem eo_some {S : Option Int → Prop} (h : EvD K te ss fun d => ∃ i, d = .int i ∧ S (some i)) : EvO K (tPart te) ss S := fun G σ H e s Q q =>
  h G σ H e s _ fun v d G1 H1 g1 d1 ⟨i, h2, h3⟩ => by subst h2; exact ⟨i, d1, q (some i) G1 H1 g1 h3⟩
def SD (K : PySem.W.Frag) (r : V → Option Int → Option Int → Hp → VK → Prop) (x : Dt) (lo hi : Option Int) (R : Dt → Prop) : Prop := ∀ (G H : Hp) (v : V), Ex G H → Dat K G x v → ∀ Q : VK, (∀ z d G' H', Go G H G' H' → Dat K G' d z → R d → Q z H') → r v lo hi H Q
theorem ed_sl {r : V → Option Int → Option Int → Hp → VK → Prop} {tl th : TO} (h : EvD K te ss fun x => EvO K tl ss fun lo => EvO K th ss fun hi => SD K r x lo hi R) : EvD K (tSl r te tl th) ss R := fun G σ H e s Q q =>
  h G σ H e s _ fun v x G1 H1 g1 d1 h2 => h2 G1 σ H1 g1.ink (s.up g1.kn) _ fun lo G2 H2 g2 h3 => h3 G2 σ H2 g2.ink ((s.up g1.kn).up g2.kn) _ fun hi G3 H3 g3 h4 =>
    h4 G3 H3 v g3.ink ((d1.up g2.kn).up g3.kn) Q fun z d G4 H4 g4 d4 hr => q z d G4 H4 (g1.trans (g2.trans (g3.trans g4))) d4 hr
/-! methods of built-in types -/
def MD (K : PySem.W.Frag) (T : String) (r : V → List V → Hp → VK → Prop) (x : Dt) (ds : List Dt) (R : Dt → Prop) : Prop := ∀ (G H : Hp) (v : V) (vs : List V), Ex G H → Dat K G x v → Dats K G ds vs → ∀ Q : VK, (∀ z d G' H', Go G H G' H' → Dat K G' d z → R d → Q z H') → r v vs H Q
theorem ed_bm {T : String} {r : V → List V → Hp → VK → Prop} {ta : TA} (h : EvD K te ss fun x => (∀ (G H : Hp) (v : V), Ex G H → Dat K G x v → tyV K T v H) ∧ EvA K ta ss fun l => MD K T r x l R) : EvD K (tBM K T r te ta) ss R := fun G σ H e s Q q =>
  h G σ H e s _ fun v x G1 H1 g1 d1 h2 => ⟨h2.1 G1 H1 v g1.ink d1, h2.2 G1 σ H1 g1.ink (s.up g1.kn) _ fun vs l G2 H2 g2 d2 h3 =>
    h3 G2 H2 v vs g2.ink (d1.up g2.kn) d2 Q fun z d G4 H4 g4 d4 hr => q z d G4 H4 (g1.trans (g2.trans g4)) d4 hr⟩
theorem ed_bm0 {T : String} {r : V → List V → Hp → VK → Prop} (h : EvD K te ss fun x => (∀ (G H : Hp) (v : V), Ex G H → Dat K G x v → tyV K T v H) ∧ MD K T r x [] R) : EvD K (tBM0 K T r te) ss R := fun G σ H e s Q q =>
  h G σ H e s _ fun v x G1 H1 g1 d1 h2 => ⟨h2.1 G1 H1 v g1.ink d1, h2.2 G1 H1 v [] g1.ink d1 rfl Q fun z d G4 H4 g4 d4 hr => q z d G4 H4 (g1.trans g4) d4 hr⟩
/-! calls of defs: Pre is what the def asks of its arguments and of R -/
def spD (K : PySem.W.Frag) (Pre : List Dt → (Dt → Prop) → Prop) : Sp := fun vs H Q _ => ∃ (G : Hp) (ds : List Dt) (R : Dt → Prop), Ex G H ∧ Dats K G ds vs ∧ Pre ds R ∧ ∀ v d G' H', Go G H G' H' → Dat K G' d v → R d → Q v H'
theorem ed_call {Pre : List Dt → (Dt → Prop) → Prop} {E : XK} {ta : TA} (h : EvA K ta ss fun l => Pre l R) : EvD K (tCall (spD K Pre) [] E ta) ss R := fun G σ H e s Q q =>
  h G σ H e s _ fun vs l G1 H1 g1 d1 h2 => by
    rw [List.append_nil]
    exact ⟨G1, l, R, g1.ink, d1, h2, fun v d G' H' g hd hr => q v d G' H' (g1.trans g) hd hr⟩
/-! what is walked -/
/-- J gives the data of l, one by one, while G0 stands -/
def WalkD (K : PySem.W.Frag) (J : It) (l : List Dt) (G0 : Hp) : Prop := Walk J l.length (fun H => Ex G0 H) (fun i H x H' => ∀ G : Hp, Ex G0 G → Ex G H → ∃ d G2, l[i]? = some d ∧ Go G H G2 H' ∧ Dat K G2 d x)
def EvI (K : PySem.W.Frag) (wi : TI) (ss : List Sd) (R : List Dt → Prop) : Prop := ∀ (G : Hp) (σ : L2.St) (H : Hp), Ex G H → Sv K G σ ss → ∀ Q : It → Hp → Prop, (∀ J l G' H', Go G H G' H' → WalkD K J l G' → R l → Q J H') → wi σ H Q
theorem wd_list {G : Hp} {a : Addr} {l : List Dt} {xs : List V} (hs : SqL K G a xs) (d : Dats K G l xs) : WalkD K (Itl K a) l G := by
  have w := walk_list (K := K) (a := a) (xs := xs)
  rw [d.len] at w
  refine w.mono (fun H e => e.seq hs) fun i H x H' hi e y G2 e2 e3 => ?_
  obtain ⟨rfl, y⟩ := y
  obtain ⟨dd, h1, h2⟩ := d.getV y
  exact ⟨dd, G2, h1, Go.refl e3, h2.up e2⟩
theorem wd_tup {G : Hp} {a : Addr} {l : List Dt} {xs : List V} (hs : SqT K G a xs) (d : Dats K G l xs) : WalkD K (Itt K a) l G := by
  have w := walk_tup (K := K) (a := a) (xs := xs)
  rw [d.len] at w
  refine w.mono (fun H e => Ex.tup e hs) fun i H x H' hi e y G2 e2 e3 => ?_
  obtain ⟨rfl, y⟩ := y
  obtain ⟨dd, h1, h2⟩ := d.getV y
  exact ⟨dd, G2, h1, Go.refl e3, h2.up e2⟩
def rangeD (lo : Int) (n : Nat) : List Dt := (List.range n).map fun i : Nat => .int (lo + (i : Int))
theorem wd_range {G : Hp} {lo : Int} {n : Nat} : WalkD K (Itr lo n) (rangeD lo n) G := by
  have w := walk_range (lo := lo) (n := n)
  have e : (rangeD lo n).length = n := by simp [rangeD]
  unfold WalkD
  rw [e]
  refine w.mono (fun H e => True.intro) fun i H x H' hi e y G2 e2 e3 => ?_
  obtain ⟨rfl, rfl⟩ := y
  exact ⟨.int (lo + (i : Int)), G2, by simp [rangeD, hi], Go.refl e3, rfl⟩
def signsD (z : Str) : List Dt := z.cps.toList.map fun c => .str ⟨#[c]⟩
theorem wd_str {G : Hp} {z : Str} : WalkD K (Its z) (signsD z) G := by
  have w := walk_str (z := z)
  have e : (signsD z).length = z.cps.size := by simp [signsD]
  unfold WalkD
  rw [e]
  refine w.mono (fun H e => True.intro) fun i H x H' hi e y G2 e2 e3 => ?_
  obtain ⟨rfl, c, h1, rfl⟩ := y
  have h2 : z.cps.toList[i]? = some c := by simpa using h1
  exact ⟨.str ⟨#[c]⟩, G2, by simp [signsD, h2], Go.refl e3, rfl⟩
theorem ei_list {S : List Dt → Prop} (h : EvD K te ss fun d => ∃ l, (d = .lst l ∨ d = .sq l) ∧ S l) : EvI K (iList K te) ss S := fun G σ H e s Q q =>
  h G σ H e s _ fun v d G1 H1 g1 d1 ⟨l, h2, h3⟩ => by
    rcases h2 with rfl | rfl
    · obtain ⟨a, xs, rfl, hs, hd⟩ := d1
      exact ⟨a, rfl, ⟨xs, .inl (.inl (g1.ink _ _ hs))⟩, q _ l G1 H1 g1 (wd_list (.inl (.inl hs)) hd) h3⟩
    · obtain ⟨a, xs, rfl, hs, hd⟩ := d1
      exact ⟨a, rfl, ⟨xs, g1.ink.seq hs⟩, q _ l G1 H1 g1 (wd_list hs hd) h3⟩
theorem ei_tup {S : List Dt → Prop} (h : EvD K te ss fun d => ∃ l, d = .tup l ∧ S l) : EvI K (iTup K te) ss S := fun G σ H e s Q q =>
  h G σ H e s _ fun v d G1 H1 g1 d1 ⟨l, h2, h3⟩ => by
    subst h2
    obtain ⟨a, xs, rfl, hs, hd⟩ := d1
    exact ⟨a, rfl, ⟨xs, Ex.tup g1.ink hs⟩, q _ l G1 H1 g1 (wd_tup hs hd) h3⟩
theorem ei_rng1 {ta : TA} {S : List Dt → Prop} (h : EvA K ta ss fun l => ∃ j : Int, l = [.int j] ∧ (j < 2 ^ 62 ∧ -(2 ^ 62) ≤ j) ∧ S (rangeD 0 j.toNat)) : EvI K (iRng1 ta) ss S := fun G σ H e s Q q =>
  h G σ H e s _ fun vs l G1 H1 g1 d1 ⟨j, h2, h3, h4⟩ => by
    subst h2
    obtain ⟨x, r, rfl, hx, hr⟩ := d1
    cases hx; cases hr
    exact ⟨j, rfl, h3.2, h3.1, q _ _ G1 H1 g1 wd_range h4⟩
theorem ei_str {S : List Dt → Prop} (h : EvD K te ss fun d => ∃ z, d = .str z ∧ S (signsD z)) : EvI K (iStr te) ss S := fun G σ H e s Q q =>
  h G σ H e s _ fun v d G1 H1 g1 d1 ⟨l, h2, h3⟩ => by
    subst h2
    cases d1
    exact ⟨l, rfl, q _ _ G1 H1 g1 wd_str h3⟩
/-! targets: what the slots hold behind it -/
def GD (K : PySem.W.Frag) (g : TG) (vs : List Nat) (ss : List Sd) (d : Dt) (ss' : List Sd) : Prop := ∀ (G H : Hp) (σ : L2.St) (x : V), Ex G H → Sv K G σ ss → Dat K G d x → ∀ Q : L2.St → Hp → Prop, (∀ σ', Sv K G σ' ss' → wipe σ' vs = wipe σ vs → Q σ' H) → g x (wipe σ vs) H Q
theorem wipe1 (σ : L2.St) (j : Nat) : wipe σ [j] = σ.set j none := rfl
theorem gd_name {j : Nat} {d : Dt} : GD K (gName j) [j] ss d (ss.set j (.dt d)) := fun G H σ x e s hd Q q => by
  refine q _ ?_ ?_
  · rw [wipe1]
    have := (s.forget (j := j) (o := none)).set (j := j) hd
    rw [List.set_set] at this ⊢
    rw [List.set_set] at this
    exact this
  · simp [wipe]
/-- [e for x in .. if ..]: I, what holds of the list so far behind i items -/
theorem ed_lcG {wi : TI} {g : TG} {vs : List Nat}
    (h : EvI K wi ss fun l => ∃ sx : Dt → List Sd, (∀ d ∈ l, GD K g vs ss d (sx d)) ∧ ∃ I : Nat → List Dt → Prop, I 0 [] ∧ l.length < 1000000 ∧ (∀ i x acc, l[i]? = some x → I i acc → EvT K t (sx x) fun b => if b = true then EvD K te (sx x) fun y => I (i + 1) (acc ++ [y]) else I (i + 1) acc) ∧ ∀ acc, I l.length acc → R (.lst acc)) :
    EvD K (tLc wi g t te vs) ss R := fun G σ H e s Q q =>
  h G σ H e s _ fun J l G1 H1 g1 w ⟨sx, hg, I, h0, hl, hs, hd⟩ => by
    have s1 := s.up g1.kn
    intro D nD
    have nG : G1 D = none := g1.ink.free nD
    refine lc_it w (fun i H' => ∃ (G' : Hp) (acc : List Dt) (xs : List V), Go G1 H1 G' H' ∧ G' D = none ∧ H' D = some (.lst xs) ∧ Dats K G' acc xs ∧ acc.length ≤ i ∧ I i acc) ?_ ?_ ?_ ?_
    · exact ⟨G1, [], [], Go.put g1.ink nD, nG, upd_same, rfl, Nat.le_refl _, h0⟩
    · rintro i H' _ ⟨G', acc, xs, g2, _⟩
      exact g2.kn.trans g2.ink
    · rintro i x H2 H3 hi ⟨G2, acc, xs, g2, n2, e2, d2, l2, i2⟩ y
      obtain ⟨d, G3, hd3, g3, dx⟩ := y G2 g2.kn g2.ink
      have e3 : H3 D = some (.lst xs) := g3.up D _ e2
      have n3 : G3 D = none := g3.nw D n2 (by rw [e2]; exact fun z => nomatch z)
      refine hg d (List.mem_of_getElem? hd3) G3 H3 σ x g3.ink ((s1.up g2.kn).up g3.kn) dx _ fun σ4 s4 w4 => ⟨w4, ?_⟩
      refine hs i d acc hd3 i2 G3 σ4 H3 g3.ink s4 _ fun b G5 H5 g5 h5 => ?_
      have e5 : H5 D = some (.lst xs) := g5.up D _ e3
      have n5 : G5 D = none := g5.nw D n3 (by rw [e3]; exact fun z => nomatch z)
      cases b with
      | false => exact ⟨G5, acc, xs, (g2.trans g3).trans g5, n5, e5, (d2.up g3.kn).up g5.kn, by omega, h5⟩
      | true =>
        refine h5 G5 σ4 H5 g5.ink (s4.up g5.kn) _ fun y dy G6 H6 g6 d6 h6 => ?_
        have e6 : H6 D = some (.lst xs) := g6.up D _ e5
        have n6 : G6 D = none := g6.nw D n5 (by rw [e5]; exact fun z => nomatch z)
        have d7 : Dats K G6 (acc ++ [dy]) (xs ++ [y]) := Dats.snoc (((d2.up g3.kn).up g5.kn).up g6.kn) d6
        have g7 := ((g2.trans g3).trans g5).trans g6
        refine ⟨xs, e6, ?_, G6, acc ++ [dy], xs ++ [y], ⟨g7.kn, g7.nw, fun a u z => ?_, fun a u z => ?_⟩, n6, upd_same, d7, by simp; omega, h6⟩
        · rw [d2.len]; exact sz_lt (by omega)
        · rw [upd_ne (ne_of_none z n6)]; exact g7.ink a u z
        · rw [upd_ne (ne_of_none z nD)]; exact g7.up a u z
    · rintro H2 ⟨G2, acc, xs, g2, n2, e2, d2, l2, i2⟩
      refine q (.ref D) (.lst acc) (upd G2 D (.lst xs)) H2 (g1.trans ⟨g2.kn.trans (Ex.new n2), fun a h1 h2 => ?_, fun a u z => ?_, g2.up⟩) (dat_newL d2 n2) (hd acc i2)
      · rw [upd_ne (fun c => h2 (by rw [c]; exact nD))]; exact g2.nw a h1 h2
      · by_cases c : a = D
        · subst c; rw [upd_same] at z; rw [e2]; exact z
        · rw [upd_ne c] at z; exact g2.ink a u z
theorem ed_lc {wi : TI} {g : TG} {vs : List Nat} {sx : Dt → List Sd} (hg : ∀ d, GD K g vs ss d (sx d))
    (h : EvI K wi ss fun l => ∃ I : Nat → List Dt → Prop, I 0 [] ∧ l.length < 1000000 ∧ (∀ i x acc, l[i]? = some x → I i acc → EvT K t (sx x) fun b => if b = true then EvD K te (sx x) fun y => I (i + 1) (acc ++ [y]) else I (i + 1) acc) ∧ ∀ acc, I l.length acc → R (.lst acc)) :
    EvD K (tLc wi g t te vs) ss R := ed_lcG fun G σ H e s Q q => h G σ H e s Q fun J l G' H' g' w hh => q J l G' H' g' w ⟨sx, fun d _ => hg d, hh⟩
end
/-- the list of what is made, one by one -/
theorem ed_lc_map {K : PySem.W.Frag} {ss : List Sd} {R : Dt → Prop} {te : TE} {wi : TI} {g : TG} {vs : List Nat} {sx : Dt → List Sd} (hg : ∀ d, GD K g vs ss d (sx d))
    (h : EvI K wi ss fun l => l.length < 1000000 ∧ ∃ f : Dt → Dt, (∀ x ∈ l, EvD K te (sx x) fun y => y = f x) ∧ R (.lst (l.map f))) : EvD K (tLc wi g tYes te vs) ss R :=
  ed_lc hg fun G σ H e s Q q => h G σ H e s Q fun J l G' H' g' w ⟨h1, f, h2, h3⟩ => q J l G' H' g' w
    ⟨fun i acc => acc = (l.take i).map f, by simp, h1, fun i x acc hx ha => et_yes (by
      rw [if_pos rfl]
      refine (h2 x (List.mem_of_getElem? hx)).imp fun y hy => ?_
      subst hy ha
      rw [List.take_add_one, hx]; simp), fun acc ha => by
      subst ha
      rw [List.take_length]; exact h3⟩
theorem ed_lc_filter {K : PySem.W.Frag} {ss : List Sd} {R : Dt → Prop} {tt : TT} {te : TE} {wi : TI} {g : TG} {vs : List Nat} {sx : Dt → List Sd} (hg : ∀ d, GD K g vs ss d (sx d))
    (h : EvI K wi ss fun l => l.length < 1000000 ∧ ∃ (p : Dt → Bool) (f : Dt → Dt), (∀ x ∈ l, EvT K tt (sx x) fun b => b = p x) ∧ (∀ x ∈ l, p x = true → EvD K te (sx x) fun y => y = f x) ∧ R (.lst ((l.filter p).map f))) : EvD K (tLc wi g tt te vs) ss R :=
  ed_lc hg fun G σ H e s Q q => h G σ H e s Q fun J l G' H' g' w ⟨h1, p, f, h2, h3, h4⟩ => q J l G' H' g' w
    ⟨fun i acc => acc = ((l.take i).filter p).map f, by simp, h1, fun i x acc hx ha => (h2 x (List.mem_of_getElem? hx)).imp fun b hb => by
      have ht : l.take (i + 1) = l.take i ++ [x] := by rw [List.take_add_one, hx]; simp
      subst hb ha
      cases hp : p x with
      | true =>
        rw [if_pos rfl]
        refine (h3 x (List.mem_of_getElem? hx) hp).imp fun y hy => ?_
        subst hy
        rw [ht]; simp [hp]
      | false =>
        rw [if_neg (by simp)]
        show _ = _
        rw [ht]; simp [hp], fun acc ha => by
      subst ha
      rw [List.take_length]; exact h4⟩

theorem ed_lc_mapG {K : PySem.W.Frag} {ss : List Sd} {R : Dt → Prop} {te : TE} {wi : TI} {g : TG} {vs : List Nat}
    (h : EvI K wi ss fun l => ∃ sx : Dt → List Sd, (∀ d ∈ l, GD K g vs ss d (sx d)) ∧ l.length < 1000000 ∧ ∃ f : Dt → Dt, (∀ x ∈ l, EvD K te (sx x) fun y => y = f x) ∧ R (.lst (l.map f))) : EvD K (tLc wi g tYes te vs) ss R :=
  ed_lcG fun G σ H e s Q q => h G σ H e s Q fun J l G' H' g' w ⟨sx, hg, h1, f, h2, h3⟩ => q J l G' H' g' w
    ⟨sx, hg, fun i acc => acc = (l.take i).map f, by simp, h1, fun i x acc hx ha => et_yes (by
      rw [if_pos rfl]
      refine (h2 x (List.mem_of_getElem? hx)).imp fun y hy => ?_
      subst hy ha
      rw [List.take_add_one, hx]; simp), fun acc ha => by
      subst ha
      rw [List.take_length]; exact h3⟩
theorem ed_lc_filterG {K : PySem.W.Frag} {ss : List Sd} {R : Dt → Prop} {tt : TT} {te : TE} {wi : TI} {g : TG} {vs : List Nat}
    (h : EvI K wi ss fun l => ∃ sx : Dt → List Sd, (∀ d ∈ l, GD K g vs ss d (sx d)) ∧ l.length < 1000000 ∧ ∃ (p : Dt → Bool) (f : Dt → Dt), (∀ x ∈ l, EvT K tt (sx x) fun b => b = p x) ∧ (∀ x ∈ l, p x = true → EvD K te (sx x) fun y => y = f x) ∧ R (.lst ((l.filter p).map f))) : EvD K (tLc wi g tt te vs) ss R :=
  ed_lcG fun G σ H e s Q q => h G σ H e s Q fun J l G' H' g' w ⟨sx, hg, h1, p, f, h2, h3, h4⟩ => q J l G' H' g' w
    ⟨sx, hg, fun i acc => acc = ((l.take i).filter p).map f, by simp, h1, fun i x acc hx ha => (h2 x (List.mem_of_getElem? hx)).imp fun b hb => by
      have ht : l.take (i + 1) = l.take i ++ [x] := by rw [List.take_add_one, hx]; simp
      subst hb ha
      cases hp : p x with
      | true =>
        rw [if_pos rfl]
        refine (h3 x (List.mem_of_getElem? hx) hp).imp fun y hy => ?_
        subst hy
        rw [ht]; simp [hp]
      | false =>
        rw [if_neg (by simp)]
        show _ = _
        rw [ht]; simp [hp], fun acc ha => by
      subst ha
      rw [List.take_length]; exact h4⟩

/-! ### statements: N, B, C what is wanted of the slots behind it, at a break, at a continue; R of what is returned -/
abbrev SP := List Sd → Prop
/-- what is wished of an exception (W), and what is known of it: the slots, its class, its fields (R) -/
structure XC where
  W : L2.WX
  R : List Sd → Addr → List (Str × Dt) → Prop
abbrev x0 : XC := ⟨fun _ _ _ _ => False, fun _ _ _ => False⟩
/-- the exception's own dict -/
def XD (K : PySem.W.Frag) (G : Hp) (od : Option Addr) (l : List (Str × Dt)) : Prop := (od = none ∧ l = []) ∨ ∃ dx fs, od = some dx ∧ G dx = some (.xd fs) ∧ Datf K G l fs
def StD (K : PySem.W.Frag) (ξ : XC) (ts : TS) (ss : List Sd) (N B C : SP) (R : Dt → Prop) : Prop := ∀ (G0 H0 : Hp) (D : Ends) (σ : L2.St) (G H : Hp), Go G0 H0 G H → Sl K H0 G H σ ss →
  (∀ σ' ss' G' H', Go G0 H0 G' H' → Sl K H0 G' H' σ' ss' → N ss' → D.nx σ' H') → (∀ σ' ss' G' H', Go G0 H0 G' H' → Sl K H0 G' H' σ' ss' → B ss' → D.bk σ' H') →
  (∀ σ' ss' G' H', Go G0 H0 G' H' → Sl K H0 G' H' σ' ss' → C ss' → D.ct σ' H') → (∀ v d G' H', Go G0 H0 G' H' → Dat K G' d v → R d → D.rt v H') →
  (∀ σ' ss' C' l od G' H', Go G0 H0 G' H' → Sl K H0 G' H' σ' ss' → XD K G' od l → ξ.R ss' C' l → ξ.W (.ref C') od σ' H') → ts D σ H
section
variable {K : PySem.W.Frag} {ξ : XC} {ss : List Sd} {R : Dt → Prop} {N B C : SP} {te : TE} {tt : TT} {t u : TS}
theorem sd_next (h : N ss) : StD K ξ tNext ss N B C R := fun G0 H0 D σ G H g s n b c r w => n σ ss G H g s h
theorem sd_seq (h : StD K ξ t ss (fun s1 => StD K ξ u s1 N B C R) B C R) : StD K ξ (tSeq t u) ss N B C R := fun G0 H0 D σ G H g s n b c r w =>
  h G0 H0 { D with nx := u D } σ G H g s (fun σ1 s1 G1 H1 g1 l1 h1 => h1 G0 H0 D σ1 G1 H1 g1 l1 n b c r w) b c r w
theorem sd_brk (h : B ss) : StD K ξ tBreak ss N B C R := fun G0 H0 D σ G H g s n b c r w => b σ ss G H g s h
theorem sd_cont (h : C ss) : StD K ξ tCont ss N B C R := fun G0 H0 D σ G H g s n b c r w => c σ ss G H g s h
theorem sd_drop (h : EvD K te ss fun _ => N ss) : StD K ξ (tDrop te) ss N B C R := fun G0 H0 D σ G H g s n b c r w =>
  h G σ H g.ink s.sv _ fun v d G1 H1 g1 _ h1 => n σ ss G1 H1 (g.trans g1) (s.go g1) h1
theorem sd_ret (h : EvD K te ss R) : StD K ξ (tRet te) ss N B C R := fun G0 H0 D σ G H g s n b c r w =>
  h G σ H g.ink s.sv _ fun v d G1 H1 g1 d1 h1 => r v d G1 H1 (g.trans g1) d1 h1
theorem sd_retN (h : R .non) : StD K ξ tRetN ss N B C R := fun G0 H0 D σ G H g s n b c r w => r .non .non G H g rfl h
theorem sd_if (h : EvT K tt ss fun b => if b = true then StD K ξ t ss N B C R else StD K ξ u ss N B C R) : StD K ξ (tIfS tt t u) ss N B C R := fun G0 H0 D σ G H g s n b c r w =>
  h G σ H g.ink s.sv _ fun k G1 H1 g1 h1 => by
    cases k with
    | true => exact h1 G0 H0 D σ G1 H1 (g.trans g1) (s.go g1) n b c r w
    | false => exact h1 G0 H0 D σ G1 H1 (g.trans g1) (s.go g1) n b c r w
theorem sd_asg {i : Nat} (h : EvD K te ss fun d => N (ss.set i (.dt d))) : StD K ξ (tAsg te (gName i)) ss N B C R := fun G0 H0 D σ G H g s n b c r w =>
  h G σ H g.ink s.sv _ fun v d G1 H1 g1 d1 h1 => n _ _ G1 H1 (g.trans g1) ((s.go g1).set d1) h1
/-- a for: I by the turn and the slots -/
theorem sd_for {wi : TI} {j : Nat} (h : EvI K wi ss fun l => ∃ I : Nat → SP, I 0 ss ∧ (∀ i x s1, l[i]? = some x → I i s1 → StD K ξ t (s1.set j (.dt x)) (I (i + 1)) N (I (i + 1)) R) ∧ ∀ s1, I l.length s1 → N s1) :
    StD K ξ (tFor wi (gName j) t) ss N B C R := fun G0 H0 D σ G H g s n b c r w =>
  h G σ H g.ink s.sv _ fun J l G1 H1 g1 wk ⟨I, h0, hs, hd⟩ => by
    have gg : Go G0 H0 G1 H1 := g.trans g1
    have back : ∀ {G' H' : Hp}, Go G1 H0 G' H' → Go G0 H0 G' H' := fun {G' H'} z => ⟨gg.kn.trans z.kn, fun a h1 h2 => z.nw a (gg.nw a h1 h2) h2, z.ink, z.up⟩
    refine for_it wk (fun i σ' H' => ∃ G' s', Go G1 H0 G' H' ∧ Sl K H0 G' H' σ' s' ∧ I i s') ⟨G1, ss, ⟨Same.refl _, fun _ h _ => h, gg.ink, gg.up⟩, s.go g1, h0⟩ ?_ ?_ ?_
    · rintro i σ' H' _ ⟨G', s', g2, _⟩
      exact g2.kn.trans g2.ink
    · rintro i x σ' H' H2 hi ⟨G', s', g2, l2, i2⟩ y
      obtain ⟨d, G3, hd3, g3, dx⟩ := y G' g2.kn g2.ink
      refine hs i d s' hd3 i2 G1 H0 { D with nx := _, ct := _, bk := D.nx } _ G3 H2 (g2.trans g3) ((l2.go g3).set dx) (fun σ4 s4 G4 H4 g4 l4 h4 => ⟨G4, s4, g4, l4, h4⟩)
        (fun σ4 s4 G4 H4 g4 l4 h4 => n σ4 s4 G4 H4 (back g4) l4 h4) (fun σ4 s4 G4 H4 g4 l4 h4 => ⟨G4, s4, g4, l4, h4⟩) (fun v d G' H' z1 z2 z3 => r v d G' H' (back z1) z2 z3) fun σ4 s4 C4 f4 o4 G4 H4 z1 z2 z3 z4 => w σ4 s4 C4 f4 o4 G4 H4 (back z1) z2 z3 z4
    · rintro σ' H' ⟨G', s', g2, l2, i2⟩
      exact n σ' s' G' H' (back g2) l2 (hd s' i2)
/-! expressions that may raise -/
def EvX (K : PySem.W.Frag) (ξ : XC) (te : TE) (ss : List Sd) (R : Dt → Prop) : Prop := ∀ (G : Hp) (σ : L2.St) (H : Hp), Ex G H → Sv K G σ ss → ∀ Q : VK, (∀ v d G' H', Go G H G' H' → Dat K G' d v → R d → Q v H') →
  (∀ C' l od G' H', Go G H G' H' → XD K G' od l → ξ.R ss C' l → ξ.W (.ref C') od σ H') → te σ H Q
theorem ex_of (h : EvD K te ss R) : EvX K ξ te ss R := fun G σ H e s Q q _ => h G σ H e s Q q
theorem sd_retX (h : EvX K ξ te ss R) : StD K ξ (tRet te) ss N B C R := fun G0 H0 D σ G H g s n b c r w =>
  h G σ H g.ink s.sv _ (fun v d G1 H1 g1 d1 h1 => r v d G1 H1 (g.trans g1) d1 h1) fun C' l od G1 H1 g1 xd hx => w σ ss C' l od G1 H1 (g.trans g1) (s.go g1) xd hx
theorem sd_dropX (h : EvX K ξ te ss fun _ => N ss) : StD K ξ (tDrop te) ss N B C R := fun G0 H0 D σ G H g s n b c r w =>
  h G σ H g.ink s.sv _ (fun v d G1 H1 g1 _ h1 => n σ ss G1 H1 (g.trans g1) (s.go g1) h1) fun C' l od G1 H1 g1 xd hx => w σ ss C' l od G1 H1 (g.trans g1) (s.go g1) xd hx
theorem sd_asgX {i : Nat} (h : EvX K ξ te ss fun d => N (ss.set i (.dt d))) : StD K ξ (tAsg te (gName i)) ss N B C R := fun G0 H0 D σ G H g s n b c r w =>
  h G σ H g.ink s.sv _ (fun v d G1 H1 g1 d1 h1 => n _ _ G1 H1 (g.trans g1) ((s.go g1).set d1) h1) fun C' l od G1 H1 g1 xd hx => w σ ss C' l od G1 H1 (g.trans g1) (s.go g1) xd hx
end

/-! ### defs -/
def startS (n : Nat) (ds : List Dt) : List Sd := ds.map .dt ++ List.replicate (n - ds.length) .no
theorem noown {n : Nat} {ds : List Dt} (i : Nat) (a : Addr) (l : Dt) : (startS n ds)[i]? ≠ some (.own a l) := fun z => by
  unfold startS at z
  by_cases c : i < (ds.map Sd.dt).length
  · rw [List.getElem?_append_left c, List.getElem?_map] at z
    cases q : ds[i]? with
    | none => rw [q] at z; cases z
    | some x => rw [q] at z; cases z
  · rw [List.getElem?_append_right (by omega), List.getElem?_replicate] at z
    split at z <;> cases z
theorem sl_start {K : PySem.W.Frag} {G H : Hp} {ds : List Dt} {vs : List V} {N : List Str} (e : Ex G H) (d : Dats K G ds vs) : Sl K H G H (L2.start N vs) (startS N.length ds) := by
  have hl := d.len
  refine ⟨⟨by simp [L2.start, startS, hl], fun i x z => ?_⟩, fun i a l z => absurd z (noown i a l), fun i j l m a z => absurd z (noown i a l)⟩
  unfold startS at z
  unfold L2.start
  by_cases c : i < ds.length
  · rw [List.getElem?_append_left (by simpa using c), List.getElem?_map] at z
    cases q : ds[i]? with
    | none => rw [q] at z; cases z
    | some y =>
      rw [q] at z
      cases z
      obtain ⟨v, h1, h2⟩ := d.get q
      exact ⟨v, by rw [List.getElem?_append_left (by simpa [hl] using c), List.getElem?_map, h1]; rfl, h2⟩
  · rw [List.getElem?_append_right (by simpa using c), List.getElem?_replicate] at z
    split at z <;> cases z
/-- a def of the text that keeps the promise Pre by level k: with all that a caller asks -/
def Gf (P : Program) (w : World) (K : PySem.W.Frag) (mg : Str → Option Value) (base : Heap) (x : Str) (k : Nat) (ps : List Str) (Pre : List Dt → (Dt → Prop) → Prop) : Prop :=
  ∃ f fd, FnOk P w K mg base CX0 k f fd ps (spD K Pre) ∧ Binds K fd ps [] ∧ mg x = some (.ref f) ∧ PySem.W.keepIn K (.ref f) = true ∧ ∃ oc od osl, K.lookup f = some ⟨oc, od, .func fd, osl⟩
/-- a def's object, and its name -/
def Df (K : PySem.W.Frag) (mg : Str → Option Value) (x : Str) (st : Stmt) (ps : List Str) : Prop :=
  ∃ f fd, Fun K x x st f fd ∧ Binds K fd ps [] ∧ mg x = some (.ref f)
section
variable {P : Program} {w : World} {K : PySem.W.Frag} {mg : Str → Option Value} {base : Heap}
theorem lk_of {x q : Str} {st : Stmt} {f : Addr} {fd : FuncData} (F : Fun K x q st f fd) : ∃ oc od osl, K.lookup f = some ⟨oc, od, .func fd, osl⟩ := by
  obtain ⟨oc, od, kV, doc, pm, an, cdv, ct, osl, _, lk, _⟩ := F.ex
  exact ⟨oc, od, osl, lk⟩
/-- the same def, by any of its names -/
theorem Gf.at {x : Str} {k : Nat} {ps : List Str} {Pre : List Dt → (Dt → Prop) → Prop} (g : Gf P w K mg base x k ps Pre) {f : Addr} {fd : FuncData} (m : mg x = some (.ref f)) (l : ∃ oc od osl, K.lookup f = some ⟨oc, od, .func fd, osl⟩) : FnOk P w K mg base CX0 k f fd ps (spD K Pre) := by
  obtain ⟨f', fd', F, _, m', _, oc, od, osl, l'⟩ := g
  rw [m] at m'
  cases m'
  obtain ⟨_, _, _, l⟩ := l
  rw [l] at l'
  cases l'
  exact F
theorem gf_of {x : Str} {st : Stmt} {N ps : List Str} {k : Nat} {Pre : List Dt → (Dt → Prop) → Prop} (F : Df K mg x st ps) (S : FnScope N ps (defScope st)) (len : ∀ ds R, Pre ds R → ds.length = ps.length)
    (hbody : ∀ (f : Addr) (cdv : Value) (A : Around) (outer : List Env) (s : Shared) (H : Hp) (E : XK), Room k (A.deeper (envOfC x (defScope st) s.heap.objs.size f cdv)) →
      ∃ t, PSs (cxOf CX0 P w K mg base N x (defScope st) f cdv A outer s H E).nox (defBody st) t ∧ ∀ ds R, Pre ds R → StD K x0 t (startS N.length ds) (fun _ => R .non) (fun _ => False) (fun _ => False) R) :
    Gf P w K mg base x (k + 1) ps Pre := by
  obtain ⟨f, fd, F, b, m⟩ := F
  refine ⟨f, fd, F.ok S (fun vs H Q E h => ?_) (fun cdv A outer s H vs Q E hr h => ?_), b, m, F.kp, lk_of F⟩
  · obtain ⟨G, ds, R, e, d, p, _⟩ := h
    rw [d.len]; exact len ds R p
  · obtain ⟨G, ds, R, e, d, p, q⟩ := h
    obtain ⟨t, ht, hs⟩ := hbody f cdv A outer s H E hr
    exact ⟨t, ht, hs ds R p G H _ _ G H (Go.refl e) (sl_start e d) (fun σ' s' G' H' g' _ hn => q .non .non G' H' g' rfl hn) (fun σ' s' G' H' g' _ hn => hn.elim) (fun σ' s' G' H' g' _ hn => hn.elim) (fun v d G' H' g' dd hr => q v d G' H' g' dd hr) fun _ _ _ _ _ _ _ _ _ _ hx => hx.elim⟩
theorem pe_gf {X : Cx} {x : Str} {k : Nat} {ps : List Str} {Pre : List Dt → (Dt → Prop) → Prop} {p pos : Pos} {e : Expr} {es : List Expr} {t : TA} (F : Gf P w K mg base x k ps Pre) (hX : X.prog = P ∧ X.w = w ∧ X.K = K ∧ X.mg = mg ∧ X.base = base) (hr : Room k X.A) (hg : Gl X x) (ha : PA X (e :: es) t)
    (hdb : (x == ("__debug__" : Str)) = false := by decide) (he : starEach (e :: es) X.env = (false, eval e X.env) :: starEach es X.env := by rfl) (hpl : (backTo pos (starEach es X.env)).any (·.1) = false := by rfl) :
    PE X (.Call (.Name x p) (e :: es) [] pos) (tCall (spD K Pre) [] E0 t) := by
  obtain ⟨rfl, rfl, rfl, rfl, rfl⟩ := hX
  obtain ⟨f, fd, F, b, m, kp, _⟩ := F
  exact pe_call F hr hg m kp b .nil pass0 ha hdb he hpl
end
end Nv

set_option Elab.async false
set_option linter.all false
set_option maxRecDepth 100000
set_option maxHeartbeats 4000000
namespace Nv
open PySem PySem.Spec PyProof.Rows L2
/-! ### operators, any kind of data -/
def CPowW (i j : Int) : Prop := 0 ≤ j ∧ (Builtin.Int.intBits i : Int) * j ≤ 2 ^ 27
section
variable {X : Cx}
theorem op_powW : OpR X (binaryOp .Pow) (rI CPowW fun i j => .int (i ^ j.toNat)) := opI fun _ _ _ _ _ _ _ hc q => pow_int hc.1 hc.2 q
abbrev rAddS : R2 := fun x y H Q => ∃ i j, x = .str i ∧ y = .str j ∧ i.length + j.length ≤ sizeLine ∧ Q (.str (i ++ j)) H
def rAddA (K : PySem.W.Frag) : R2 := fun x y H Q => (rI0 fun i j => .int (i + j)) x y H Q ∨ (rAddS x y H Q ∨ (rCat x y H Q ∨ rCatA K x y H Q))
theorem opAdd {K : PySem.W.Frag} (hK : X.K = K) : OpR X (binaryOp .Add) (rAddA K) := by subst hK; exact op_add.or (op_add_str.or (op_cat.or op_catA))
def rMulS : R2 := fun x y H Q => ∃ z n, x = .str z ∧ y = .int n ∧ PySem.MulOk z n ∧ Q (.str (Txt.mul z n)) H
theorem op_mulS : OpR X (binaryOp .Mult) rMulS := by
  intro pins s σ H x y v u Q I rx ry h
  obtain ⟨z, n, rfl, rfl, ok, q⟩ := h
  obtain ⟨t, rfl⟩ := rx
  obtain ⟨t', rfl⟩ := ry
  exact PySem.SB.mul ok fun t' k => ⟨.str _, H, I.tok _, ⟨_, rfl⟩, q⟩
def rMulA (K : PySem.W.Frag) : R2 := fun x y H Q => (rI CMul fun i j => .int (i * j)) x y H Q ∨ ((rI CMulW fun i j => .int (i * j)) x y H Q ∨ (rRep x y H Q ∨ (rRepT K x y H Q ∨ rMulS x y H Q)))
theorem opMul {K : PySem.W.Frag} (hK : X.K = K) : OpR X (binaryOp .Mult) (rMulA K) := by subst hK; exact op_mul.or (op_mulW.or (op_rep.or (op_repT.or op_mulS)))
def rEqA (K : PySem.W.Frag) : R2 := fun x y H Q => rEq x y H Q ∨ rEqD K x y H Q
theorem opEq {K : PySem.W.Frag} (hK : X.K = K) (hu : X.A.units + 64 < cLine) : OpR X (compareOp .Eq) (rEqA K) := by subst hK; exact op_eq.or (op_eqD hu)
def rNeA (K : PySem.W.Frag) : R2 := fun x y H Q => rNe x y H Q ∨ rNeD K x y H Q
theorem opNe {K : PySem.W.Frag} (hK : X.K = K) (hu : X.A.units + 64 < cLine) : OpR X (compareOp .NotEq) (rNeA K) := by subst hK; exact op_ne.or (op_neD hu)
abbrev rIsNA : R2 := fun x y H Q => y = .non ∧ Q (.bl (decide (x = .non))) H
abbrev rIsBA : R2 := fun x y H Q => ∃ a b, x = .bl a ∧ y = .bl b ∧ Q (.bl (decide (a = b))) H
def rIsA : R2 := fun x y H Q => rIsNA x y H Q ∨ rIsBA x y H Q
theorem opIs : OpR X (compareOp .Is) rIsA := op_isN.or op_is_bl
abbrev rNotNA : R2 := fun x y H Q => y = .non ∧ Q (.bl (!decide (x = .non))) H
abbrev rNotBA : R2 := fun x y H Q => ∃ a b, x = .bl a ∧ y = .bl b ∧ Q (.bl (!decide (a = b))) H
def rNotA : R2 := fun x y H Q => rNotNA x y H Q ∨ rNotBA x y H Q
theorem opIsNot : OpR X (compareOp .IsNot) rNotA := op_notN.or op_isnot_bl
abbrev rInS : R2 := fun x y H Q => ∃ (c : Nat) (z : Str), x = .str ⟨#[c]⟩ ∧ y = .str z ∧ Q (.bl (decide (c ∈ z.cps.toList))) H
def rInA (K : PySem.W.Frag) : R2 := fun x y H Q => rInS x y H Q ∨ rIn K false x y H Q
theorem opIn {K : PySem.W.Frag} (hK : X.K = K) : OpR X (compareOp .In) (rInA K) := by subst hK; exact op_in_sign.or op_in_seq
abbrev rNiS : R2 := fun x y H Q => ∃ (c : Nat) (z : Str), x = .str ⟨#[c]⟩ ∧ y = .str z ∧ Q (.bl (!decide (c ∈ z.cps.toList))) H
def rNiA (K : PySem.W.Frag) : R2 := fun x y H Q => rNiS x y H Q ∨ rIn K true x y H Q
theorem opNotIn {K : PySem.W.Frag} (hK : X.K = K) : OpR X (compareOp .NotIn) (rNiA K) := by subst hK; exact op_notIn_sign.or op_notIn_seq
/-! names -/
theorem pe_g {x : Str} {v : V} {pos : Pos} (hg : Gl X x) (h : ∃ u, X.mg x = some u ∧ RelV v u) (hd : (x == ("__debug__" : Str)) = false := by decide) : PE X (.Name x pos) (tC v) :=
  let ⟨_, h1, h2⟩ := h
  pe_glob hg h1 h2 hd
theorem pe_bty (n : String) {x : Str} {pos : Pos} (hg : Gl X x) (hm : X.mg x = none) (hv : bootBuiltins x = some (.type n)) (hn : x ≠ "__name__" := by decide) (hd : (x == ("__debug__" : Str)) = false := by decide) : PE X (.Name x pos) (tC (.ty n)) :=
  pe_bltn hg hm hv rfl hn hd
/-! calls -/
def rRepr1 : List V → Hp → VK → Prop := fun xs H Q => (xs = [.non] ∧ Q (.str "None") H) ∨ (∃ b, xs = [.bl b] ∧ Q (.str (if b then "True" else "False")) H)
theorem call_repr1 : CallR X (.builtin "repr") rRepr1 := by
  intro pins s σ H xs us Q I r h
  rcases h with ⟨rfl, q⟩ | ⟨b, rfl, q⟩
  · obtain ⟨u, rfl, rx⟩ := vals1 r
    cases rx
    exact PySem.P.repr_of_none ⟨.str _, H, I.tok _, ⟨_, rfl⟩, q⟩
  · obtain ⟨u, rfl, rx⟩ := vals1 r
    cases rx
    exact PySem.P.repr_of_bool ⟨.str _, H, I.tok _, ⟨_, rfl⟩, q⟩
abbrev rStrI : List V → Hp → VK → Prop := fun xs H Q => ∃ i, xs = [.int i] ∧ i.natAbs.log2 < 1920 ∧ Q (.str (toString i)) H
abbrev rStrS : List V → Hp → VK → Prop := fun xs H Q => ∃ a, xs = [.str a] ∧ Q (.str a) H
def rStrA : List V → Hp → VK → Prop := fun xs H Q => rStrI xs H Q ∨ rStrS xs H Q
theorem callStr : CallR X (.type "str") rStrA := call_str_int.or SkE.call_str_str
abbrev rLenV (K : PySem.W.Frag) : List V → Hp → VK → Prop := fun xs H Q => ∃ x n, xs = [x] ∧ LenV K x H n ∧ Q (.int n) H
abbrev rLenD : List V → Hp → VK → Prop := fun xs H Q => ∃ a kvs, xs = [V.ref a] ∧ H a = some (.dK kvs) ∧ Q (.int kvs.length) H
def rLenA (K : PySem.W.Frag) : List V → Hp → VK → Prop := fun xs H Q => rLenV K xs H Q ∨ rLenD xs H Q
theorem callLen {K : PySem.W.Frag} (hK : X.K = K) : CallR X (.builtin "len") (rLenA K) := by subst hK; exact call_len.or call_lenD
theorem callAll {K : PySem.W.Frag} (hK : X.K = K) (hc : X.calm = true) : CallR X (.builtin "all") (rAll K) := by subst hK; exact cr_all hc
theorem callIsi {K : PySem.W.Frag} (hK : X.K = K) : CallR X (.builtin "isinstance") (rIsi K) := by subst hK; exact call_isi
theorem ixA {K : PySem.W.Frag} (hK : X.K = K) : IxR X (rIx K) := by subst hK; exact ix_seq
theorem piList {K : PySem.W.Frag} (hK : X.K = K) {tg e : Expr} {te : TE} (he : PE X e te) : PI X tg e (iList K te) := by subst hK; exact pi_list he
theorem piTup {K : PySem.W.Frag} (hK : X.K = K) {tg e : Expr} {te : TE} (he : PE X e te) : PI X tg e (iTup K te) := by subst hK; exact pi_tup he
theorem mtJoin {K : PySem.W.Frag} (hK : X.K = K) : MtR X "str.join" (fun x xs H Q => ∃ a p, ∃ ys : List Str, x = .str a ∧ xs = [.ref p] ∧ (SqL K H p (ys.map V.str) ∨ SqT K H p (ys.map V.str)) ∧ (ys.map (·.length)).sum + ys.length * a.length ≤ 16777216 ∧ Q (.str (Txt.join a ys)) H) := by
  subst hK
  exact mt_join
theorem peBm {K : PySem.W.Frag} (hK : X.K = K) {o e : Expr} {es : List Expr} {to : TE} {t : TA} {name : Str} {apos cpos : Pos} {T id : String} {r : V → List V → Hp → VK → Prop} (pa : PlainAttrs T) (slot : Slot T name id) (hty : typeOf (.builtin id) = pure (.type "method_descriptor")) (hm : MtR X id r) (ho : PE X o to) (ha : PA X (e :: es) t)
    (hbase : attributeBase o name X.env (eval o X.env) = eval o X.env := by rfl)
    (hfew : ((backTo cpos (starEach (e :: es) X.env)).all (fun x => !x.1) && (backToKw cpos (keywordEach [] X.env)).all (fun x => x.1.isSome) && decide ((e :: es).length + ([] : List Keyword).length + (if ([] : List Keyword).isEmpty then 0 else 1) < 30)) = true := by rfl)
    (hline : (apos.endLine == cpos.line) = true := by rfl) (hs : starEach (e :: es) X.env = (false, eval e X.env) :: starEach es X.env := by rfl) (hplain : (backTo cpos (starEach es X.env)).any (·.1) = false := by rfl) :
    PE X (.Call (.Attribute o name apos) (e :: es) [] cpos) (tBM K T r to t) := by
  subst hK
  exact pe_bm pa slot hty hm ho ha hbase hfew hline hs hplain
end

/-! ### the same by data -/
section
variable {K : PySem.W.Frag} {R : Dt → Prop} {i j : Int} {x y : Str}
theorem rd_add_i (h : R (.int (i + j))) : RD K (rAddA K) (.int i) (.int j) R := fun G H v w e d1 d2 Q q => by
  cases d1; cases d2
  exact .inl ⟨i, j, rfl, rfl, q _ (.int (i + j)) G H (Go.refl e) rfl h⟩
theorem rd_add_s (hl : x.length + y.length ≤ 1000000) (h : R (.str (x ++ y))) : RD K (rAddA K) (.str x) (.str y) R := fun G H v w e d1 d2 Q q => by
  cases d1; cases d2
  exact .inr (.inl ⟨x, y, rfl, rfl, sz_of hl, q _ (.str (x ++ y)) G H (Go.refl e) rfl h⟩)
theorem rd_add_l {l m : List Dt} (hl : l.length + m.length ≤ 1000000) (h : R (.lst (l ++ m))) : RD K (rAddA K) (.lst l) (.lst m) R := fun G H v w e d1 d2 Q q => by
  obtain ⟨a, xs, rfl, h1, h2⟩ := d1
  obtain ⟨b, ys, rfl, h3, h4⟩ := d2
  exact .inr (.inr (.inl ⟨a, b, xs, ys, rfl, rfl, e _ _ h1, e _ _ h3, by rw [h2.len, h4.len]; exact sz_of hl, fun p hp => q _ (.lst (l ++ m)) _ _ (Go.new e hp) (dat_newL (h2.app h4) (e.free hp)) h⟩))
theorem rd_add_t {l m : List Dt} (hl : l.length + m.length ≤ 1000000) (h : R (.tup (l ++ m))) : RD K (rAddA K) (.tup l) (.tup m) R := fun G H v w e d1 d2 Q q => by
  obtain ⟨a, xs, rfl, h1, h2⟩ := d1
  obtain ⟨b, ys, rfl, h3, h4⟩ := d2
  have l1 := h2.len
  have l2 := h4.len
  refine .inr (.inr (.inr ⟨a, b, xs, ys, rfl, rfl, Ex.tup e h1, Ex.tup e h3, by rw [l1, l2]; exact sz_of hl, fun z => ?_, fun _ z => ?_, fun _ _ p hp => q _ (.tup (l ++ m)) _ _ (Go.new e hp) (dat_newT (h2.app h4) (e.free hp)) h⟩))
  · subst z
    have z : l = [] := List.length_eq_zero_iff.mp (by rw [← l1]; rfl)
    subst z
    exact q _ (.tup m) G H (Go.refl e) ⟨b, ys, rfl, h3, h4⟩ h
  · subst z
    have z : m = [] := List.length_eq_zero_iff.mp (by rw [← l2]; rfl)
    subst z
    rw [List.append_nil] at h
    exact q _ (.tup l) G H (Go.refl e) ⟨a, xs, rfl, h1, h2⟩ h
theorem rd_I0i {g : Int → Int → Int} (h : R (.int (g i j))) : RD K (rI0 fun i j => .int (g i j)) (.int i) (.int j) R := fun G H v w e d1 d2 Q q => by
  cases d1; cases d2
  exact ⟨i, j, rfl, rfl, q _ (.int (g i j)) G H (Go.refl e) rfl h⟩
theorem rd_I0b {g : Int → Int → Bool} (h : R (.bl (g i j))) : RD K (rI0 fun i j => .bl (g i j)) (.int i) (.int j) R := fun G H v w e d1 d2 Q q => by
  cases d1; cases d2
  exact ⟨i, j, rfl, rfl, q _ (.bl (g i j)) G H (Go.refl e) rfl h⟩
theorem rd_I {g : Int → Int → Int} {C : Int → Int → Prop} (hc : C i j) (h : R (.int (g i j))) : RD K (rI C fun i j => .int (g i j)) (.int i) (.int j) R := fun G H v w e d1 d2 Q q => by
  cases d1; cases d2
  exact ⟨i, j, rfl, rfl, hc, q _ (.int (g i j)) G H (Go.refl e) rfl h⟩
theorem rd_mul_i (hc : CMul i j) (h : R (.int (i * j))) : RD K (rMulA K) (.int i) (.int j) R := fun G H v w e d1 d2 Q q => by
  cases d1; cases d2
  exact .inl ⟨i, j, rfl, rfl, hc, q _ (.int (i * j)) G H (Go.refl e) rfl h⟩
theorem Dats.rep {G : Hp} {l : List Dt} {xs : List V} (d : Dats K G l xs) : ∀ n : Nat, Dats K G (List.replicate n l).flatten (List.replicate n xs).flatten
  | 0 => rfl
  | n + 1 => by
    rw [List.replicate_succ, List.replicate_succ, List.flatten_cons, List.flatten_cons]
    exact d.app (Dats.rep d n)
theorem rd_mul_l {l : List Dt} (h0 : 0 ≤ j) (hj : j ≤ 1000) (hl : l.length ≤ 1000) (h : R (.lst (List.replicate j.toNat l).flatten)) : RD K (rMulA K) (.lst l) (.int j) R := fun G H v w e d1 d2 Q q => by
  obtain ⟨a, xs, rfl, h1, h2⟩ := d1
  cases d2
  have hz : l.length * j.toNat ≤ 1000 * 1000 := Nat.mul_le_mul hl (by omega)
  exact .inr (.inr (.inl ⟨a, j, xs, rfl, rfl, e _ _ h1, by omega, by omega, by rw [h2.len]; exact sz_of hz, fun p hp => q _ (.lst _) _ _ (Go.new e hp) (dat_newL (h2.rep j.toNat) (e.free hp)) h⟩))
theorem rd_mul_s (hok : PySem.MulOk x j) (h : R (.str (Txt.mul x j))) : RD K (rMulA K) (.str x) (.int j) R := fun G H v w e d1 d2 Q q => by
  cases d1; cases d2
  exact .inr (.inr (.inr (.inr ⟨x, j, rfl, rfl, hok, q _ (.str _) G H (Go.refl e) rfl h⟩)))
/-- what is read as data of the library's own kind -/
def toPy : Dt → Option PyData
  | .non => some .none
  | .bl b => some (.bool b)
  | .int i => some (.int i)
  | .str x => some (.str x)
  | .lst l => (toPys l).map .list
  | .sq l => (toPys l).map .list
  | .tup l => (toPys l).map .tuple
  | _ => none
where toPys : List Dt → Option (List PyData)
  | [] => some []
  | d :: l => match toPy d, toPys l with
    | some p, some q => some (p :: q)
    | _, _ => none
mutual
theorem dp_of {G : Hp} : ∀ {d : Dt} {p : PyData} {v : V}, Dat K G d v → toPy d = some p → Dp K G v p
  | .non, _, _, h, e => by cases h; cases e; exact .non
  | .bl _, _, _, h, e => by cases h; cases e; exact .bl _
  | .int _, _, _, h, e => by cases h; cases e; exact .int _
  | .str _, _, _, h, e => by cases h; cases e; exact .str _
  | .lst l, _, _, ⟨a, xs, h1, h2, h3⟩, e => by
    subst h1
    unfold toPy at e
    cases q : toPy.toPys l with
    | none => rw [q] at e; cases e
    | some ps => rw [q] at e; cases e; exact .lst (.inl (.inl h2)) (dps_of h3 q)
  | .sq l, _, _, ⟨a, xs, h1, h2, h3⟩, e => by
    subst h1
    unfold toPy at e
    cases q : toPy.toPys l with
    | none => rw [q] at e; cases e
    | some ps => rw [q] at e; cases e; exact .lst h2 (dps_of h3 q)
  | .tup l, _, _, ⟨a, xs, h1, h2, h3⟩, e => by
    subst h1
    unfold toPy at e
    cases q : toPy.toPys l with
    | none => rw [q] at e; cases e
    | some ps => rw [q] at e; cases e; exact .tup h2 (dps_of h3 q)
  | .ty _, _, _, _, e => by cases e
  | .dic _, _, _, _, e => by cases e
  | .ins _ _, _, _, _, e => by cases e
  | .ext _, _, _, _, e => by cases e
  | .obj _, _, _, _, e => by cases e
  | .exc _ _ _ _, _, _, _, e => by cases e
theorem dps_of {G : Hp} : ∀ {l : List Dt} {ps : List PyData} {xs : List V}, Dats K G l xs → toPy.toPys l = some ps → DpAll K G xs ps
  | [], _, _, h, e => by cases h; cases e; exact .nil
  | d :: l, _, _, ⟨x, r, h1, h2, h3⟩, e => by
    subst h1
    unfold toPy.toPys at e
    cases q1 : toPy d with
    | none => rw [q1] at e; cases e
    | some p =>
      cases q2 : toPy.toPys l with
      | none => rw [q1, q2] at e; cases e
      | some ps => rw [q1, q2] at e; cases e; exact .cons (dp_of h2 q1) (dps_of h3 q2)
end
theorem Dp.up {G H : Hp} {v : V} {p : PyData} (e : Ex G H) {d : Dt} (h : Dat K G d v) (q : toPy d = some p) : Dp K H v p := dp_of (h.up e) q
theorem rd_eq_d {x y : Dt} {p q : PyData} (hx : toPy x = some p) (hy : toPy y = some q) (sp : SeqAt.shaped p = true) (sq : SeqAt.shaped q = true) (h : R (.bl (PyData.eqv p q))) : RD K (rEqA K) x y R := fun G H v w e d1 d2 Q k =>
  .inr ⟨p, q, Dp.up e d1 hx, Dp.up e d2 hy, sp, sq, k _ (.bl _) G H (Go.refl e) rfl h⟩
theorem rd_ne_d {x y : Dt} {p q : PyData} (hx : toPy x = some p) (hy : toPy y = some q) (sp : SeqAt.shaped p = true) (sq : SeqAt.shaped q = true) (h : R (.bl (!PyData.eqv p q))) : RD K (rNeA K) x y R := fun G H v w e d1 d2 Q k =>
  .inr ⟨p, q, Dp.up e d1 hx, Dp.up e d2 hy, sp, sq, k _ (.bl _) G H (Go.refl e) rfl h⟩
theorem rd_ne_s (h : R (.bl (!decide (x = y)))) : RD K (rNeA K) (.str x) (.str y) R := fun G H v w e d1 d2 Q k => by
  cases d1; cases d2
  refine .inl ⟨rfl, k _ (.bl _) G H (Go.refl e) rfl ?_⟩
  have z : decide ((V.str x) = V.str y) = decide (x = y) := by simp
  rw [z]; exact h
theorem rd_eq_s (h : R (.bl (decide (x = y)))) : RD K (rEqA K) (.str x) (.str y) R := fun G H v w e d1 d2 Q k => by
  cases d1; cases d2
  refine .inl ⟨rfl, k _ (.bl _) G H (Go.refl e) rfl ?_⟩
  have z : decide ((V.str x) = V.str y) = decide (x = y) := by simp
  rw [z]; exact h
theorem rd_eq_i (h : R (.bl (decide (i = j)))) : RD K (rEqA K) (.int i) (.int j) R := fun G H v w e d1 d2 Q k => by
  cases d1; cases d2
  refine .inl ⟨rfl, k _ (.bl _) G H (Go.refl e) rfl ?_⟩
  have z : decide ((V.int i) = V.int j) = decide (i = j) := by simp
  rw [z]; exact h
theorem rd_ne_i (h : R (.bl (!decide (i = j)))) : RD K (rNeA K) (.int i) (.int j) R := fun G H v w e d1 d2 Q k => by
  cases d1; cases d2
  refine .inl ⟨rfl, k _ (.bl _) G H (Go.refl e) rfl ?_⟩
  have z : decide ((V.int i) = V.int j) = decide (i = j) := by simp
  rw [z]; exact h
theorem rd_notB {a b : Bool} (h : R (.bl (!decide (a = b)))) : RD K rNotA (.bl a) (.bl b) R := fun G H v w e d1 d2 Q k => by
  cases d1; cases d2
  exact .inr ⟨a, b, rfl, rfl, k _ (.bl _) G H (Go.refl e) rfl h⟩
theorem rd_isB {a b : Bool} (h : R (.bl (decide (a = b)))) : RD K rIsA (.bl a) (.bl b) R := fun G H v w e d1 d2 Q k => by
  cases d1; cases d2
  exact .inr ⟨a, b, rfl, rfl, k _ (.bl _) G H (Go.refl e) rfl h⟩
def isN : Dt → Bool
  | .non => true
  | _ => false
theorem dat_non {G : Hp} {d : Dt} {v : V} (h : Dat K G d v) : decide (v = .non) = isN d := by
  cases d with
  | non => cases h; rfl
  | bl _ => cases h; rfl
  | int _ => cases h; rfl
  | str _ => cases h; rfl
  | ty _ => cases h; rfl
  | obj _ => cases h; rfl
  | lst _ => obtain ⟨_, _, rfl, _⟩ := h; rfl
  | sq _ => obtain ⟨_, _, rfl, _⟩ := h; rfl
  | tup _ => obtain ⟨_, _, rfl, _⟩ := h; rfl
  | dic _ => obtain ⟨_, _, rfl, _⟩ := h; rfl
  | ins _ _ => obtain ⟨_, _, _, rfl, _⟩ := h; rfl
  | ext _ => obtain ⟨_, rfl, _⟩ := h; rfl
  | exc _ _ _ _ => obtain ⟨rfl, _⟩ := h; rfl
theorem rd_isN {x : Dt} (h : R (.bl (isN x))) : RD K rIsA x .non R := fun G H v w e d1 d2 Q k => by
  cases d2
  rw [← dat_non d1] at h
  exact .inl ⟨rfl, k _ (.bl _) G H (Go.refl e) rfl h⟩
theorem rd_notN {x : Dt} (h : R (.bl (!isN x))) : RD K rNotA x .non R := fun G H v w e d1 d2 Q k => by
  cases d2
  rw [← dat_non d1] at h
  exact .inl ⟨rfl, k _ (.bl _) G H (Go.refl e) rfl h⟩
theorem rd_in_sign {c : Nat} {z : Str} (h : R (.bl (decide (c ∈ z.cps.toList)))) : RD K (rInA K) (.str ⟨#[c]⟩) (.str z) R := fun G H v w e d1 d2 Q k => by
  cases d1; cases d2
  exact .inl ⟨c, z, rfl, rfl, k _ (.bl _) G H (Go.refl e) rfl h⟩
theorem ud_neg (h : R (.int (-i))) : UD K (rU fun i => .int (-i)) (.int i) R := fun G H v e d Q k => by
  cases d
  exact ⟨i, rfl, k _ (.int _) G H (Go.refl e) rfl h⟩
/-! calls -/
theorem cd_len_s (hl : x.length ≤ 1000000) (h : R (.int x.length)) : CD K (rLenA K) [.str x] R := fun G H vs e d Q k => by
  obtain ⟨v, r, rfl, d1, d2⟩ := d
  cases d1; cases d2
  exact .inl ⟨_, _, rfl, ⟨sz_of hl, rfl⟩, k _ (.int _) G H (Go.refl e) rfl h⟩
theorem cd_len_l {l : List Dt} (h : R (.int l.length)) : CD K (rLenA K) [.lst l] R := fun G H vs e d Q k => by
  obtain ⟨v, r, rfl, ⟨a, xs, rfl, h1, h2⟩, d2⟩ := d
  cases d2
  rw [← h2.len] at h
  exact .inl ⟨_, _, rfl, .inl ⟨xs, .inl (.inl (e _ _ h1)), rfl⟩, k _ (.int _) G H (Go.refl e) rfl h⟩
theorem cd_len_sq {l : List Dt} (h : R (.int l.length)) : CD K (rLenA K) [.sq l] R := fun G H vs e d Q k => by
  obtain ⟨v, r, rfl, ⟨a, xs, rfl, h1, h2⟩, d2⟩ := d
  cases d2
  rw [← h2.len] at h
  exact .inl ⟨_, _, rfl, .inl ⟨xs, e.seq h1, rfl⟩, k _ (.int _) G H (Go.refl e) rfl h⟩
theorem cd_len_t {l : List Dt} (h : R (.int l.length)) : CD K (rLenA K) [.tup l] R := fun G H vs e d Q k => by
  obtain ⟨v, r, rfl, ⟨a, xs, rfl, h1, h2⟩, d2⟩ := d
  cases d2
  rw [← h2.len] at h
  exact .inl ⟨_, _, rfl, .inr ⟨xs, Ex.tup e h1, rfl⟩, k _ (.int _) G H (Go.refl e) rfl h⟩
abbrev rInt1 : List V → Hp → VK → Prop := fun xs H Q => (∃ i, xs = [.int i] ∧ Q (.int i) H) ∨ ∃ k, xs = [.bl k] ∧ Q (.int (if k then 1 else 0)) H
abbrev rAbs : List V → Hp → VK → Prop := fun xs H Q => ∃ i, xs = [.int i] ∧ Q (.int (if i < 0 then -i else i)) H
abbrev rMax2 : List V → Hp → VK → Prop := fun xs H Q => ∃ i j, xs = [.int i, .int j] ∧ Q (.int (if j > i then j else i)) H
abbrev rMin2 : List V → Hp → VK → Prop := fun xs H Q => ∃ i j, xs = [.int i, .int j] ∧ Q (.int (if j < i then j else i)) H
theorem cd_int_i (h : R (.int i)) : CD K rInt1 [.int i] R := fun G H vs e d Q k => by
  obtain ⟨v, r, rfl, d1, d2⟩ := d
  cases d1; cases d2
  exact .inl ⟨i, rfl, k _ (.int _) G H (Go.refl e) rfl h⟩
theorem cd_int_b {b : Bool} (h : R (.int (if b then 1 else 0))) : CD K rInt1 [.bl b] R := fun G H vs e d Q k => by
  obtain ⟨v, r, rfl, d1, d2⟩ := d
  cases d1; cases d2
  exact .inr ⟨b, rfl, k _ (.int _) G H (Go.refl e) rfl h⟩
theorem cd_abs (h : R (.int (if i < 0 then -i else i))) : CD K rAbs [.int i] R := fun G H vs e d Q k => by
  obtain ⟨v, r, rfl, d1, d2⟩ := d
  cases d1; cases d2
  exact ⟨i, rfl, k _ (.int _) G H (Go.refl e) rfl h⟩
theorem cd_max (h : R (.int (if j > i then j else i))) : CD K rMax2 [.int i, .int j] R := fun G H vs e d Q k => by
  obtain ⟨v, r, rfl, d1, v2, r2, rfl, d2, d3⟩ := d
  cases d1; cases d2; cases d3
  exact ⟨i, j, rfl, k _ (.int _) G H (Go.refl e) rfl h⟩
theorem cd_min (h : R (.int (if j < i then j else i))) : CD K rMin2 [.int i, .int j] R := fun G H vs e d Q k => by
  obtain ⟨v, r, rfl, d1, v2, r2, rfl, d2, d3⟩ := d
  cases d1; cases d2; cases d3
  exact ⟨i, j, rfl, k _ (.int _) G H (Go.refl e) rfl h⟩
theorem dats_bl {G : Hp} : ∀ {bs : List Bool} {xs : List V}, Dats K G (bs.map .bl) xs → xs = bs.map V.bl
  | [], _, h => h
  | _ :: _, _, ⟨x, r, h1, h2, h3⟩ => by cases h2; rw [h1, dats_bl h3]; rfl
theorem cd_all {bs : List Bool} (h : R (.bl (bs.all id))) : CD K (rAll K) [.lst (bs.map .bl)] R := fun G H vs e d Q k => by
  obtain ⟨v, r, rfl, ⟨a, xs, rfl, h1, h2⟩, d2⟩ := d
  cases d2
  rw [dats_bl h2] at h1
  exact ⟨a, bs, rfl, .inl (.inl (e _ _ h1)), k _ (.bl _) G H (Go.refl e) rfl h⟩
theorem cd_str_i (hl : i.natAbs.log2 < 1920) (h : R (.str (toString i))) : CD K rStrA [.int i] R := fun G H vs e d Q k => by
  obtain ⟨v, r, rfl, d1, d2⟩ := d
  cases d1; cases d2
  exact .inl ⟨i, rfl, hl, k _ (.str _) G H (Go.refl e) rfl h⟩
theorem cd_str_s (h : R (.str x)) : CD K rStrA [.str x] R := fun G H vs e d Q k => by
  obtain ⟨v, r, rfl, d1, d2⟩ := d
  cases d1; cases d2
  exact .inr ⟨x, rfl, k _ (.str _) G H (Go.refl e) rfl h⟩
theorem cd_repr_b {b : Bool} (h : R (.str (if b then "True" else "False"))) : CD K rRepr1 [.bl b] R := fun G H vs e d Q k => by
  obtain ⟨v, r, rfl, d1, d2⟩ := d
  cases d1; cases d2
  exact .inr ⟨b, rfl, k _ (.str _) G H (Go.refl e) rfl h⟩
/-! isinstance -/
def tyD : Dt → Option String
  | .non => some "NoneType"
  | .bl _ => some "bool"
  | .int _ => some "int"
  | .str _ => some "str"
  | .lst _ => some "list"
  | .tup _ => some "tuple"
  | .dic _ => some "dict"
  | _ => none
theorem tyx_of {G : Hp} {d : Dt} {v : V} {T : String} (h : Dat K G d v) (e : tyD d = some T) : TyX K G v (.type T) := by
  cases d with
  | non => cases h; cases e; exact .base .non
  | bl _ => cases h; cases e; exact .base (.bl _)
  | int _ => cases h; cases e; exact .base (.int _)
  | str _ => cases h; cases e; exact .base (.str _)
  | lst _ => obtain ⟨_, _, rfl, h, _⟩ := h; cases e; exact .base (.lst h)
  | tup _ =>
    obtain ⟨_, _, rfl, h, _⟩ := h
    cases e
    rcases h with (h | ⟨o, h⟩) | ⟨o, _, _, h, c, _⟩
    · exact .base (.tup h)
    · exact .fTuple h
    · exact .kTuple h c
  | dic _ => obtain ⟨_, _, rfl, h, _⟩ := h; cases e; exact .base (.dK h)
  | _ => cases e
theorem cd_isi {d : Dt} {T n : String} {b : Bool} (ht : tyD d = some T) (hk : kitB T n = some b) (h : R (.bl b)) : CD K (rIsi K) [d, .ty n] R := fun G H vs e dd Q k => by
  obtain ⟨v, r, rfl, d1, v2, r2, rfl, d2, d3⟩ := dd
  cases d2; cases d3
  exact ⟨v, .ty n, .type T, .type n, b, rfl, .ty n, tyx_of (d1.up e) ht, kit_ty hk, k _ (.bl _) G H (Go.refl e) rfl h⟩
/-! items, slices -/
theorem atI_map {α β : Type} {l : List α} {m : List β} (h : l.length = m.length) {i : Int} {b : β} (e : atI m i = some b) : ∃ (j : Nat) (a : α), atI l i = some a ∧ l[j]? = some a ∧ m[j]? = some b := by
  unfold atI at e ⊢
  rw [h]
  cases q : ixN m.length i with
  | none => rw [q] at e; cases e
  | some j =>
    rw [q] at e
    have e' : m[j]? = some b := e
    have hj : j < m.length := (List.getElem?_eq_some_iff.mp e').1
    exact ⟨j, l[j]'(by omega), by simp [h, hj], by simp [h, hj], e'⟩
theorem rd_ix_l {l : List Dt} {d : Dt} (ha : atI l i = some d) (h : R d) : RD K (rIx K) (.lst l) (.int i) R := fun G H v w e d1 d2 Q k => by
  obtain ⟨a, xs, rfl, h1, h2⟩ := d1
  cases d2
  obtain ⟨j, z, z1, z2, z3⟩ := atI_map h2.len ha
  obtain ⟨y, y1, y2⟩ := h2.get z3
  rw [z2] at y1; cases y1
  exact .inl ⟨a, xs, i, z, rfl, rfl, .inl (.inl (e _ _ h1)), z1, k z d G H (Go.refl e) y2 h⟩
theorem rd_ix_sq {l : List Dt} {d : Dt} (ha : atI l i = some d) (h : R d) : RD K (rIx K) (.sq l) (.int i) R := fun G H v w e d1 d2 Q k => by
  obtain ⟨a, xs, rfl, h1, h2⟩ := d1
  cases d2
  obtain ⟨j, z, z1, z2, z3⟩ := atI_map h2.len ha
  obtain ⟨y, y1, y2⟩ := h2.get z3
  rw [z2] at y1; cases y1
  exact .inl ⟨a, xs, i, z, rfl, rfl, e.seq h1, z1, k z d G H (Go.refl e) y2 h⟩
theorem rd_ix_t {l : List Dt} {d : Dt} (ha : atI l i = some d) (h : R d) : RD K (rIx K) (.tup l) (.int i) R := fun G H v w e d1 d2 Q k => by
  obtain ⟨a, xs, rfl, h1, h2⟩ := d1
  cases d2
  obtain ⟨j, z, z1, z2, z3⟩ := atI_map h2.len ha
  obtain ⟨y, y1, y2⟩ := h2.get z3
  rw [z2] at y1; cases y1
  exact .inr (.inl ⟨a, xs, i, z, rfl, rfl, Ex.tup e h1, z1, k z d G H (Go.refl e) y2 h⟩)
theorem rd_ix_s {c : Nat} (hl : x.length ≤ 1000000) (ha : atI x.cps.toList i = some c) (h : R (.str ⟨#[c]⟩)) : RD K (rIx K) (.str x) (.int i) R := fun G H v w e d1 d2 Q k => by
  cases d1; cases d2
  exact .inr (.inr ⟨x, i, c, rfl, rfl, sz_of hl, ha, k _ (.str _) G H (Go.refl e) rfl h⟩)
theorem sd_sl_s {lo hi : Option Int} (hl : x.length ≤ 1000000) (h : R (.str (cutS x lo hi))) : SD K rSlS (.str x) lo hi R := fun G H v e d Q k => by
  cases d
  exact ⟨x, rfl, sz_of hl, k _ (.str _) G H (Go.refl e) rfl h⟩
/-! join -/
theorem dats_str {G : Hp} : ∀ {bs : List Str} {xs : List V}, Dats K G (bs.map .str) xs → xs = bs.map V.str
  | [], _, h => h
  | _ :: _, _, ⟨x, r, h1, h2, h3⟩ => by cases h2; rw [h1, dats_str h3]; rfl
abbrev rJoin (K : PySem.W.Frag) : V → List V → Hp → VK → Prop := fun x xs H Q => ∃ a p, ∃ ys : List Str, x = .str a ∧ xs = [.ref p] ∧ (SqL K H p (ys.map V.str) ∨ SqT K H p (ys.map V.str)) ∧
    (ys.map (·.length)).sum + ys.length * a.length ≤ 16777216 ∧ Q (.str (Txt.join a ys)) H
theorem ty_s {G H : Hp} {v : V} (_ : Ex G H) (d : Dat K G (.str x) v) : tyV K "str" v H := by cases d; rfl
theorem md_join_l {ys : List Str} (hz : (ys.map (·.length)).sum + ys.length * x.length ≤ 16777216) (h : R (.str (Txt.join x ys))) : MD K "str" (rJoin K) (.str x) [.lst (ys.map .str)] R := fun G H v vs e d1 d2 Q k => by
  obtain ⟨v, r, rfl, ⟨a, xs, rfl, h1, h2⟩, d3⟩ := d2
  cases d1; cases d3
  rw [dats_str h2] at h1
  exact ⟨x, a, ys, rfl, rfl, .inl (.inl (.inl (e _ _ h1))), hz, k _ (.str _) G H (Go.refl e) rfl h⟩
end
end Nv

set_option Elab.async false
set_option linter.all false
set_option maxRecDepth 100000
set_option maxHeartbeats 4000000
namespace Nv
open PySem PySem.Spec PyProof.Rows L2
/-! ### dice: a list of three ints, hidden: a roll leaves what is known of the heap as it was -/
def DiceH : Addr → Heap → Prop := fun a h => ∃ (x y z : Int) (its : List Value) (n : Nat), Vals [.int x, .int y, .int z] its ∧ h.get? a = some { cls := .type "list", data := .seq its.toArray n }
abbrev dice : Dt := .ext DiceH
/-- the def's own promise, with the list in sight -/
def spRoll0 : Sp := fun vs H Q _ => ∃ (d : Addr) (n x y z : Int), vs = [.ref d, .int n] ∧ H d = some (.lst [.int x, .int y, .int z]) ∧ 0 < n ∧ n < 2 ^ 64 ∧
  ∀ r x' y' z', 0 ≤ r → r < n → Q (.int r) (upd H d (.lst [.int x', .int y', .int z']))
def PreRoll : List Dt → (Dt → Prop) → Prop := fun ds R => ∃ n, ds = [dice, .int n] ∧ 0 < n ∧ n < 2 ^ 64 ∧ ∀ r, 0 ≤ r → r < n → R (.int r)
def spDice0 (K : PySem.W.Frag) : Sp := fun vs H Q _ => ∃ (a : Addr) (ns : List Int) (i : Nat), vs = [.ref a, .int i] ∧ SqL K H a (ns.map V.int) ∧
  ∀ p x y z H', Ex H H' → H p = none → H' p = some (.lst [.int x, .int y, .int z]) → Q (.ref p) H'
def PreDice : List Dt → (Dt → Prop) → Prop := fun ds R => ∃ (ns : List Int) (i : Nat), ds = [.sq (ns.map .int), .int i] ∧ R dice
section
variable {P : Program} {w : World} {K : PySem.W.Frag} {mg : Str → Option Value} {base : Heap}
theorem ok_ext {H' : Hp} {h : Heap} {a : Addr} {x y z : Int} (ok : ObjOk P w H' h a (.lst [.int x, .int y, .int z])) : ∀ H : Hp, ObjOk P w H h a (.ext (DiceH a)) := fun H => by
  obtain ⟨_, its, n, r, e⟩ := ok
  exact ⟨⟨x, y, z, its, n, r, e⟩, ⟨_, e⟩, fun h1 h2 ⟨x, y, z, its, n, r, e⟩ k => ⟨x, y, z, its, n, r, k _ e⟩⟩
/-- other objects do not ask how a list or a hidden thing is told -/
theorem ok_turn {H H' : Hp} {h : Heap} {a b : Addr} {u o : HO} (ok : ObjOk P w H h b u) (ha : H a = some o) (h1 : ∀ c, o ≠ .own c) (h2 : ∀ xs, o ≠ .tup xs) (hb : ∀ c, c ≠ a → H' c = H c) : ObjOk P w H' h b u := by
  refine ok.stay (fun _ _ _ q => q) (fun c q => ?_) fun c xs q => ?_
  · rw [hb c (fun z => by subst z; rw [ha] at q; exact h1 b (Option.some.inj q))]; exact q
  · rw [hb c (fun z => by subst z; rw [ha] at q; exact h2 xs (Option.some.inj q))]; exact q
theorem roll_hide {k : Nat} {f : Addr} {fd : FuncData} {ps : List Str} (F : FnOk P w K mg base CX0 k f fd ps spRoll0) : FnOk P w K mg base CX0 k f fd ps (spD K PreRoll) := by
  refine ⟨fun vs H Q E h => ?_, fun A outer s H args us vs Q E hr e0 hb hv h => ?_⟩
  · obtain ⟨G, ds, R, e, d, ⟨n, rfl, h0, h1, hR⟩, q⟩ := h
    obtain ⟨v, r, rfl, ⟨a, rfl, ha⟩, v2, r2, rfl, d2, d3⟩ := d
    cases d2; cases d3
    exact F.len _ (upd H a (.lst [.int 0, .int 0, .int 0])) (fun _ _ => True) E ⟨a, n, 0, 0, 0, rfl, upd_same, h0, h1, fun _ _ _ _ _ _ => trivial⟩
  · obtain ⟨G, ds, R, e, d, ⟨n, rfl, h0, h1, hR⟩, q⟩ := h
    obtain ⟨v, r, rfl, ⟨a, rfl, ha⟩, v2, r2, rfl, d2, d3⟩ := d
    cases d2; cases d3
    have hH : H a = some (.ext (DiceH a)) := e _ _ ha
    obtain ⟨⟨x, y, z, its, m, rv, eo⟩, _, _⟩ := e0.hok a _ hH
    have e1 : Env0 P w K mg base A outer s (upd H a (.lst [.int x, .int y, .int z])) := by
      refine ⟨e0.frames, e0.mod, fun b o hb => ⟨(e0.bs b o hb).1, ?_⟩, e0.bsz, e0.funs, fun b hb => ?_, fun b u hb => ?_, e0.bare⟩
      · rw [upd_ne (fun z => by subst z; rw [(e0.bs _ o hb).2] at hH; cases hH)]; exact (e0.bs b o hb).2
      · rw [upd_ne (fun z => by subst z; rw [e0.frf _ hb] at hH; cases hH)]; exact e0.frf b hb
      · by_cases c : b = a
        · subst c
          rw [upd_same] at hb
          cases hb
          exact ⟨by show 3 ≤ sizeLine; decide, its, m, rv, eo⟩
        · rw [upd_ne c] at hb
          exact ok_turn (e0.hok b u hb) hH (fun _ z => nomatch z) (fun _ z => nomatch z) fun c' hc => upd_ne hc
    refine codeAny_mono (F.run A outer s _ args us _ (fun v H' => ∃ r x' y' z', v = .int r ∧ 0 ≤ r ∧ r < n ∧ H' = upd H a (.lst [.int x', .int y', .int z'])) E hr e1 hb hv
      ⟨a, n, x, y, z, rfl, upd_same, h0, h1, fun r x' y' z' hr0 hr1 => ⟨r, x', y', z', rfl, hr0, hr1, upd_upd⟩⟩) fun r s' hq => ?_
    cases r with
    | error _ => exact hq
    | ok fl =>
      cases fl with
      | next => exact hq
      | brk => exact hq
      | cont => exact hq
      | ret u =>
        obtain ⟨v, H', os, bare, un, hok, rl, r, x', y', z', rfl, hr0, hr1, rfl⟩ := hq
        have ne : ∀ {b}, H b = none → b ≠ a := fun {b} q z => by rw [z, hH] at q; cases q
        refine ⟨.int r, H, os, bare, ⟨fun b o q n1 n2 n3 => un.keep b o q (by rw [upd_ne (ne n1)]; exact n1) n2 n3, fun b o q n1 n2 n3 => un.slot b o q (by rw [upd_ne (ne n1)]; exact n1) n2 n3,
          fun b o q n1 n2 => n1, un.there, fun b xs q => q, fun b o u q => q, fun b ps q => ⟨#[], by rw [q]; simp⟩⟩, fun b u hb => ?_, rl, q _ (.int r) G H (Go.refl e) rfl (hR r hr0 hr1)⟩
        by_cases c : b = a
        · subst c
          rw [hH] at hb
          cases hb
          exact ok_ext (hok b _ upd_same) H
        · exact ok_turn (hok b u (by rw [upd_ne c]; exact hb)) (a := a) upd_same (fun _ z => nomatch z) (fun _ z => nomatch z) fun c' hc => (upd_ne hc).symm
theorem dice_hide {k : Nat} {f : Addr} {fd : FuncData} {ps : List Str} (F : FnOk P w K mg base CX0 k f fd ps (spDice0 K)) : FnOk P w K mg base CX0 k f fd ps (spD K PreDice) := by
  have itsOf : ∀ {G : Hp} {ns : List Int} {xs : List V}, Dats K G (ns.map .int) xs → xs = ns.map V.int := fun {G} {ns} => by
    induction ns with
    | nil => intro xs h; exact h
    | cons n ns ih => rintro xs ⟨x, r, h1, h2, h3⟩; cases h2; rw [h1, ih h3]; rfl
  have pre : ∀ {vs H Q E}, spD K PreDice vs H Q E → spDice0 K vs H (fun v H' => ∃ p, v = .ref p ∧ Ex H H' ∧ H p = none ∧ (∃ x y z, H' p = some (.lst [.int x, .int y, .int z])) ∧ Q (.ref p) (upd H' p (.ext (DiceH p)))) E := fun {vs H Q E} h => by
    obtain ⟨G, ds, R, e, d, ⟨ns, i, rfl, hR⟩, q⟩ := h
    obtain ⟨v, r, rfl, ⟨a, xs, rfl, ha, hd⟩, v2, r2, rfl, d2, d3⟩ := d
    cases d2; cases d3
    refine ⟨a, ns, i, rfl, by rw [← itsOf hd]; exact e.seq ha, fun p x y z H' e' hp hl => ⟨p, rfl, e', hp, ⟨x, y, z, hl⟩, q _ dice (upd G p (.ext (DiceH p))) _ ⟨Ex.new (e.free hp), fun b h1 h2 => ?_, upd_mono (e.trans e') p _, fun b o z => ?_⟩ ⟨p, rfl, upd_same⟩ hR⟩⟩
    · rw [upd_ne (fun c => h2 (by rw [c]; exact hp))]; exact h1
    · rw [upd_ne (ne_of_none z hp)]; exact e' b o z
  refine ⟨fun vs H Q E h => F.len _ _ _ _ (pre h), fun A outer s H args us vs Q E hr e0 hb hv h => ?_⟩
  refine codeAny_mono (F.run A outer s H args us vs _ E hr e0 hb hv (pre h)) fun r s' hq => ?_
  cases r with
  | error _ => exact hq
  | ok fl =>
    cases fl with
    | next => exact hq
    | brk => exact hq
    | cont => exact hq
    | ret u =>
      obtain ⟨v, H', os, bare, un, hok, rl, p, rfl, e', hp, ⟨x, y, z, hl⟩, q⟩ := hq
      have np : ∀ {b}, H' b = none → b ≠ p := fun {b} q z => by rw [z, hl] at q; cases q
      refine ⟨.ref p, _, os, bare, ⟨un.keep, un.slot, fun b o q1 n1 n2 => ?_, un.there, fun b xs q => ?_, fun b o u q => ?_, fun b ps q => ?_⟩, fun b u hb => ?_, rl, q⟩
      · have := un.free b o q1 n1 n2
        rw [upd_ne (np this)]; exact this
      · rw [upd_ne (ne_of_none q hp)]; exact un.tups b xs q
      · rw [upd_ne (ne_of_none q hp)]; exact un.frzs b o u q
      · rw [upd_ne (ne_of_none q hp)]; exact un.tbls b ps q
      · by_cases c : b = p
        · subst c
          rw [upd_same] at hb
          cases hb
          exact ok_ext (hok b _ hl) _
        · rw [upd_ne c] at hb
          exact ok_turn (hok b u hb) (a := p) hl (fun _ z => nomatch z) (fun _ z => nomatch z) fun c' hc => by rw [upd_ne hc]
end
section
variable {K : PySem.W.Frag}
theorem st_asg_raw {te : TE} {i : Nat} {ss : List Sd} {R : Dt → Prop} {D : Ends} {σ : L2.St} {G H : Hp} {u : TS} (h : EvD K te ss R) (e : Ex G H) (sv : Sv K G σ ss)
    (k : ∀ v d G' H', Go G H G' H' → Dat K G' d v → R d → u D (σ.set i (some v)) H') : tSeq (tAsg te (gName i)) u D σ H := h G σ H e sv _ fun v d G' H' g dv hr => k v d G' H' g dv hr
theorem ret_new_raw {ta : TA} {ss : List Sd} {R : List Dt → Prop} {D : Ends} {σ : L2.St} {G H : Hp} (h : EvA K ta ss R) (e : Ex G H) (sv : Sv K G σ ss)
    (k : ∀ vs ds G' H', Go G H G' H' → Dats K G' ds vs → R ds → vs.length ≤ 1000 ∧ ∀ p, H' p = none → D.rt (.ref p) (upd H' p (.lst vs))) : tRet (tLst ta) D σ H := h G σ H e sv _ fun vs ds G' H' g dv hr => let ⟨k1, k2⟩ := k vs ds G' H' g dv hr; ⟨sz_of (by omega), k2⟩
theorem modb {e m : Int} (h : 0 < m) (h2 : m < 2 ^ 64) : -(2 ^ 64) < e % m ∧ e % m < 2 ^ 64 := by
  have h3 := Int.emod_nonneg e (by omega : m ≠ 0)
  have h4 := Int.emod_lt_of_pos e h
  omega
theorem modm {e m j : Int} (h : 0 < m) (h2 : m < 2 ^ 64) : CMul (e % m) j := .inl (modb h h2)
theorem divw {i n : Int} (h0 : 0 < n) (h1 : n < 2 ^ 64) : CDivW i n := wide_div h0 (b := 64) (by omega) (by decide) (by decide)
end
end Nv

set_option Elab.async false
set_option linter.all false
set_option maxRecDepth 100000
set_option maxHeartbeats 4000000
namespace Nv
open PySem PySem.Spec PyProof.Rows L2
/-! ### dicts that are written -/
section
variable {K : PySem.W.Frag} {R : Dt → Prop} {ss : List Sd}
def keyD : Key → Dt
  | .inl i => .int i
  | .inr x => .str x
theorem dat_key {G : Hp} {k : Key} {v : V} (h : Dat K G (keyD k) v) : v = kV k := by cases k <;> exact h
theorem dat_newK {G : Hp} {p : Addr} {l : List (Key × Dt)} {xs : List (Key × V)} (d : Datk K G l xs) (h : G p = none) : Dat K (upd G p (.dK xs)) (.dic l) (.ref p) := ⟨p, xs, rfl, upd_same, d.up (Ex.new h)⟩
theorem ed_dnew (h : R (.dic [])) : EvD K tDNewK ss R := fun G σ H e s Q q p hp => q (.ref p) (.dic []) _ _ (Go.new e hp) (dat_newK (show Datk K G [] [] from rfl) (e.free hp)) h
theorem ed_disp1 {tk tv : TE} (h : EvD K tk ss fun dk => ∃ k, dk = keyD k ∧ EvD K tv ss fun dv => R (.dic [(k, dv)])) : EvD K (tDisp [(tk, tv)]) ss R := fun G σ H e s Q q p hp => by
  have g0 : Go G H G (upd H p (.dK [])) := Go.put e hp
  have nG : G p = none := e.free hp
  refine h G σ _ g0.ink s _ fun x dk G1 H1 g1 d1 ⟨k, hk, h2⟩ => ?_
  subst hk
  refine h2 G1 σ H1 g1.ink (s.up g1.kn) _ fun y dv G2 H2 g2 d2 h3 => ?_
  have g12 := g1.trans g2
  have eH : H2 p = some (.dK []) := g12.up p _ upd_same
  have n2 : G2 p = none := g12.nw p nG (by rw [upd_same]; exact fun z => nomatch z)
  refine ⟨eH, [(k, y)], by rw [dat_key d1]; rfl, by show 1 ≤ 15; decide, ?_⟩
  have g02 := g0.trans g12
  refine q (.ref p) (.dic [(k, dv)]) (upd G2 p (.dK [(k, y)])) _ ⟨g02.kn.trans (Ex.new n2), fun a h1 h2 => ?_, upd_mono g02.ink p _, fun a u z => ?_⟩ (dat_newK (show Datk K G2 [(k, dv)] [(k, y)] from ⟨y, [], rfl, d2, rfl⟩) n2) h3
  · rw [upd_ne (fun c => h2 (by rw [c]; exact hp))]; exact g02.nw a h1 h2
  · rw [upd_ne (ne_of_none z hp)]; exact g02.up a u z
end
/-! ### texts by their codes -/
open SX (S)
theorem str_S (x : Str) : x = S x.cps.toList := (SX.S_tl x).symm
theorem cut_to {l : List Nat} {n : Nat} : cutS (S l) none (some (n : Int)) = S (l.take n) := by
  unfold cutS
  rw [HT.sIx_none, HT.sIx_nat, SX.S_len]
  simp
theorem cut_from {l : List Nat} {n : Nat} : cutS (S l) (some (n : Int)) none = S (l.drop n) := by
  unfold cutS
  rw [HT.sIx_none, HT.sIx_nat, SX.S_len]
  simp
  show List.take (l.length - min n l.length) (List.drop (min n l.length) l) = List.drop n l
  by_cases h : n ≤ l.length
  · rw [Nat.min_eq_left h, List.take_of_length_le (by simp)]
  · rw [Nat.min_eq_right (by omega), List.drop_length, List.drop_of_length_le (by omega)]; simp
theorem joinE : ∀ ys : List (List Nat), TL.joinL [] ys = ys.flatten
  | [] => rfl
  | [p] => by simp [TL.joinL]
  | p :: q :: r => by
    show p ++ ([] ++ TL.joinL [] (q :: r)) = _
    rw [joinE (q :: r)]; simp
theorem joinOnes (cs : List Nat) : TL.joinL [] (cs.map fun c => [c]) = cs := by
  rw [joinE]
  induction cs with
  | nil => rfl
  | cons c cs ih => simpa using ih
/-! ### one of the items -/
def itemsOf : Dt → Option (List Dt)
  | .lst l => some l
  | .tup l => some l
  | .str z => some (signsD z)
  | _ => none
def PreOneOf : List Dt → (Dt → Prop) → Prop := fun ds R => ∃ it l, ds = [dice, it] ∧ itemsOf it = some l ∧ l ≠ [] ∧ l.length ≤ 100000 ∧ ∀ x ∈ l, R x
theorem cd_len_items {K : PySem.W.Frag} {R : Dt → Prop} {it : Dt} {l : List Dt} (h : itemsOf it = some l) (hl : l.length ≤ 100000) (hR : R (.int l.length)) : CD K (rLenA K) [it] R := by
  cases it with
  | lst m => cases h; exact cd_len_l hR
  | tup m => cases h; exact cd_len_t hR
  | str z =>
    cases h
    have e : (signsD z).length = z.length := by simp [signsD]; rfl
    rw [e] at hR hl
    exact cd_len_s (by omega) hR
  | _ => cases h
theorem rd_ix_items {K : PySem.W.Frag} {R : Dt → Prop} {it : Dt} {l : List Dt} {i : Nat} {x : Dt} (h : itemsOf it = some l) (hl : l.length ≤ 100000) (hx : l[i]? = some x) (hR : R x) : RD K (rIx K) it (.int i) R := by
  cases it with
  | lst m => cases h; exact rd_ix_l (atI_nat hx) hR
  | tup m => cases h; exact rd_ix_t (atI_nat hx) hR
  | str z =>
    cases h
    have e : (signsD z).length = z.length := by simp [signsD]; rfl
    rw [e] at hl
    unfold signsD at hx
    rw [List.getElem?_map] at hx
    cases q : z.cps.toList[i]? with
    | none => rw [q] at hx; cases hx
    | some c => rw [q] at hx; cases hx; exact rd_ix_s (by omega) (atI_nat q) hR
  | _ => cases h
end Nv

set_option Elab.async false
set_option linter.all false
set_option maxRecDepth 100000
set_option maxHeartbeats 4000000
namespace Nv
open PySem PySem.Spec PyProof.Rows L2
/-! ### enumerate(text): pairs of a number and a sign -/
/-- n turns over the text z, each a new pair -/
def ItEs (z : Str) : It :=
  ⟨fun i _ => i < z.cps.size, fun i H v H' => ∃ T c, v = .ref T ∧ H T = none ∧ z.cps[i]? = some c ∧ H' = upd H T (.tup [.int (i : Nat), .str ⟨#[c]⟩]), fun i _ => z.cps.size = i⟩
theorem draws_str {prog : Program} {w : World} {A : Around} (hh : A.handled = none) (it : Addr) (x : Str) (t : Tok) :
    Draws prog w A it [it] x.cps.size (fun i v => ∃ c u, x.cps[i]? = some c ∧ v = .str ⟨#[c]⟩ u) (fun i h => h.IsStrIter it (strIterType x) x t i) := by
  unfold strIterType
  cases x.cps.all (· < 128)
  · exact Draws.strWide hh it x t
  · exact Draws.strAscii hh it x t
theorem turn_es {P : Program} {w : World} {K : PySem.W.Frag} {elts : List Expr} {kk : Nat} {tpos : Pos} (z : Str) (t : Tok) (e it : Addr) (hne : e ≠ it) :
    Turn P w K (.Tuple elts kk tpos) (ItEs z) [e, it] e (fun i h => (∃ old, IsEnum h e it ((i : Nat) : Int) old) ∧ h.IsStrIter it (strIterType z) z t i) := by
  have two : ∀ {b : Addr}, b ∈ [e, it] → b = e ∨ b = it := fun hb => by simpa using hb
  refine ⟨by simp, fun i h st b hb => ?_, fun i h h' st k => ?_, ?_, ?_, fun A i s Q E st h => let ⟨⟨_, he⟩, _⟩ := st; wpAny_pyIter_enum he h⟩
  · obtain ⟨⟨old, he⟩, o, ho, _, hd⟩ := st
    rcases two hb with rfl | rfl
    · exact ⟨_, he, fun v q => nomatch q⟩
    · exact ⟨o, ho, fun v q => by rw [hd] at q; cases q⟩
  · obtain ⟨⟨old, he⟩, o, ho, r⟩ := st
    exact ⟨⟨old, k e (by simp) _ he⟩, o, k it (by simp) o ho, r⟩
  · rintro X rfl rfl rfl hc i pins s σ H E I hf ⟨⟨old, he⟩, hst⟩ (hg : i < z.cps.size)
    have le : e < s.heap.objs.size := Heap.lt_size he
    have li : it < s.heap.objs.size := let ⟨_, q, _⟩ := hst; Heap.lt_size q
    have D := draws_str (prog := X.prog) (w := X.w) (A := X.A.in1) (I.ok.hd hc) it z t
    refine wpAny_pyNext_enum_itemD D he hst hg hne (by simpa using hne) fun u h1 tk pu ho hst' hT hsz hk => ?_
    obtain ⟨c, tu, hcz, rfl⟩ := pu
    refine ⟨_, rfl, wpAny_letOwnedTupleGo_enum (s := { s with heap := h1, toks := tk + 1 }) ho fun h2 he' sb => ?_⟩
    have hT2 := (sb.2 s.heap.objs.size (Nat.ne_of_gt le)).trans hT
    have fr : H s.heap.objs.size = none := I.hok.fresh (Nat.le_refl _)
    have I1 : Inv X pins σ (upd H s.heap.objs.size (.tup [.int (i : Nat), .str ⟨#[c]⟩])) { s with heap := h2, toks := tk + 1 } :=
      I.turnedNew (ch := [e, it]) (fun b ob hb q => (sb.2 b (fun y => hb (by simp [y]))).trans (hk b ob (fun y => hb (by simp [y])) (fun y => hb (by simp [y])) q)) hf (Nat.le_refl _)
        ⟨by show 2 ≤ sizeLine; decide, [Value.int i tk, Value.str ⟨#[c]⟩ tu], .cons ⟨_, rfl⟩ (.cons ⟨_, rfl⟩ .nil), ⟨_, hT2, rfl, _, rfl⟩⟩
    refine ⟨.ref s.heap.objs.size, _, I1, rfl, ⟨_, c, rfl, fr, hcz, rfl⟩, ⟨⟨Value.str ⟨#[c]⟩ tu, ?_⟩, ?_⟩, fun b hb => ?_⟩
    · have e1 : ((i + 1 : Nat) : Int) = (i : Int) + 1 := by omega
      rw [e1]; exact he'
    · obtain ⟨o, q, r⟩ := hst'
      exact ⟨o, (sb.2 it (Ne.symm hne)).trans q, r⟩
    · have lb : b < s.heap.objs.size := by rcases two hb with rfl | rfl <;> assumption
      rw [upd_ne (Nat.ne_of_lt lb)]
      exact (hf b hb).1
  · rintro X rfl rfl rfl hc i pins s σ H E I hf ⟨⟨old, he⟩, hst⟩ (hg : z.cps.size = i)
    subst hg
    obtain ⟨f0, f1, f2, f3, f4, f5⟩ := hf it (by simp)
    have D := draws_str (prog := X.prog) (w := X.w) (A := X.A.in1) (I.ok.hd hc) it z t
    exact wpAny_pyNext_enum_endD D he hst fun h' eb => ⟨rfl, I.turned (t' := s.toks) (fun b o hb q => eb b o hb q) f0 f1 f3 f4 f5⟩
def iEnumS (ta : TA) : TI := fun σ H R => ta σ H fun vs H1 => ∃ z, vs = [.str z] ∧ R (ItEs z) H1
theorem pi_enumS {X : Cx} {e : Expr} {ta : TA} {p pos tpos : Pos} {elts : List Expr} {kk : Nat} (hg : Gl X "enumerate") (hm : X.mg "enumerate" = none) (ha : PA X [e] ta) (hs : starEach [e] X.env = [(false, eval e X.env)] := by rfl) :
    PI X (.Tuple elts kk tpos) (.Call (.Name "enumerate" p) [e] [] pos) (iEnumS ta) := by
  constructor
  intro pins s σ H R I h
  refine Call_ (ld_blt I hg hm boot_enumerate (PyProof.Rows.callWith_type1 (thn (ha.run pos pins s σ H _ I h) fun us s1 ⟨vs, H1, I1, r1, z, ez, q⟩ => ?_) hs rfl))
  subst ez
  obtain ⟨u, rfl, t, rfl⟩ := vals1 r1
  refine call_enumerate_str fun h1 he hit hsz hk => wpAny_pyIter_enum he ?_
  refine ⟨_, [s1.heap.objs.size + 1, s1.heap.objs.size], _, _, H1, rfl, I1.kept (t' := s1.toks) hk, turn_es z t (s1.heap.objs.size + 1) s1.heap.objs.size (Nat.succ_ne_self _), ⟨⟨.none, he⟩, hit⟩, fun b hb => ?_, q⟩
  have lb : s1.heap.objs.size ≤ b := by
    have e2 : b = s1.heap.objs.size + 1 ∨ b = s1.heap.objs.size := by simpa using hb
    rcases e2 with rfl | rfl
    · exact Nat.le_succ _
    · exact Nat.le_refl _
  exact I1.fpOk lb (I1.hok.fresh lb)
section
variable {K : PySem.W.Frag} {ss : List Sd}
def enumD (z : Str) : List Dt := z.cps.toList.mapIdx fun i c => .tup [.int (i : Nat), .str ⟨#[c]⟩]
theorem wd_es {G : Hp} {z : Str} : WalkD K (ItEs z) (enumD z) G := by
  have e : (enumD z).length = z.cps.size := by simp [enumD]
  unfold WalkD
  rw [e]
  refine ⟨fun i H hi _ => hi, fun H _ => rfl, fun i H x H' hi _ y G2 e2 e3 => ?_⟩
  obtain ⟨T, c, rfl, hT, hc, rfl⟩ := y
  have hc2 : z.cps.toList[i]? = some c := by simpa using hc
  refine ⟨.tup [.int (i : Nat), .str ⟨#[c]⟩], upd G2 T (.tup [.int (i : Nat), .str ⟨#[c]⟩]), ?_, Go.new e3 hT, dat_newT (show Dats K G2 [.int (i : Nat), .str ⟨#[c]⟩] _ from ⟨_, _, rfl, rfl, _, _, rfl, rfl, rfl⟩) (e3.free hT)⟩
  simp [enumD, List.getElem?_mapIdx, hc2]
theorem ei_enumS {ta : TA} {S : List Dt → Prop} (h : EvA K ta ss fun l => ∃ z, l = [.str z] ∧ S (enumD z)) : EvI K (iEnumS ta) ss S := fun G σ H e s Q q =>
  h G σ H e s _ fun vs l G1 H1 g1 d1 ⟨z, h2, h3⟩ => by
    subst h2
    obtain ⟨x, r, rfl, hx, hr⟩ := d1
    cases hx; cases hr
    exact ⟨z, rfl, q _ _ G1 H1 g1 wd_es h3⟩
/-- a target of two names, of a pair -/
theorem wipe2 (σ : L2.St) (i j : Nat) : wipe σ [i, j] = (σ.set j none).set i none := rfl
theorem gd_pair {i j : Nat} {a b : Dt} (hij : i ≠ j) : GD K (gTup K 2 (gCons (gName i) (gCons (gName j) gNil))) [i, j] ss (.tup [a, b]) ((ss.set i (.dt a)).set j (.dt b)) := fun G H σ x e s hd Q q => by
  obtain ⟨p, xs, rfl, hs, hxs⟩ := hd
  obtain ⟨x1, r1, rfl, d1, x2, r2, rfl, d2, rfl⟩ := hxs
  refine ⟨p, _, rfl, Ex.tup e hs, rfl, x1, _, rfl, x2, _, rfl, rfl, q _ ?_ ?_⟩
  · rw [wipe2]
    have h1 := (((s.forget (j := j) (o := none)).forget (j := i) (o := none)).set (j := i) d1).set (j := j) d2
    rw [List.set_set, List.set_set] at h1
    rw [List.set_set]
    refine ⟨by have := h1.len; simpa using this, fun k d z => h1.dat k d ?_⟩
    by_cases c : j = k
    · subst c
      by_cases hl : j < ss.length
      · rw [List.getElem?_set_self (by simpa using hl)] at z ⊢; exact z
      · rw [List.getElem?_eq_none (by simpa using hl)] at z; cases z
    · rw [List.getElem?_set_ne c] at z ⊢
      by_cases c2 : i = k
      · subst c2
        by_cases hl : i < ss.length
        · rw [List.getElem?_set_self (by simpa using hl)] at z ⊢; exact z
        · rw [List.getElem?_eq_none (by simpa using hl)] at z; cases z
      · rw [List.getElem?_set_ne c2] at z ⊢
        rw [List.getElem?_set_ne c]; exact z
  · simp only [wipe2]
    refine List.ext_getElem? fun k => ?_
    by_cases c2 : i = k
    · subst c2
      simp [List.getElem?_set, Ne.symm hij, hij]
    · by_cases c : j = k
      · subst c
        simp [List.getElem?_set, hij, Ne.symm hij, c2]
      · simp [List.getElem?_set, c, c2]
end
end Nv

set_option Elab.async false
set_option linter.all false
set_option maxRecDepth 100000
set_option maxHeartbeats 4000000
namespace Nv
open PySem PySem.Spec PyProof.Rows L2
/-! ### defs that may call repr of lists and tuples: they run where no repr is under way -/
/-- a def that keeps the promise wherever no repr is under way -/
structure FnG (P : Program) (w : World) (K : PySem.W.Frag) (mg : Str → Option Value) (base : Heap) (k : Nat) (f : Addr) (fd : FuncData) (ps : List Str) (sp : Sp) : Prop where
  len : ∀ vs H Q E, sp vs H Q E → vs.length = ps.length
  run : ∀ (A : Around) (outer : List Env) (s : Shared) (H : Hp) (args : Args) (us : List Value) (vs : List V) (Q : VK) (E : XK), A.guards = some [] → Room k A → Env0 P w K mg base A outer s H → BindsTo s fd args (ps.zip us) → Vals vs us → sp vs H Q E →
    codeAny (model P w) A (.call (.ref f) args) (CR CX0 outer P w H s Q E) s
def Gg (P : Program) (w : World) (K : PySem.W.Frag) (mg : Str → Option Value) (base : Heap) (x : Str) (k : Nat) (ps : List Str) (Pre : List Dt → (Dt → Prop) → Prop) : Prop :=
  ∃ f fd, FnG P w K mg base k f fd ps (spD K Pre) ∧ Binds K fd ps [] ∧ mg x = some (.ref f) ∧ PySem.W.keepIn K (.ref f) = true ∧ ∃ oc od osl, K.lookup f = some ⟨oc, od, .func fd, osl⟩
section
variable {P : Program} {w : World} {K : PySem.W.Frag} {mg : Str → Option Value} {base : Heap}
theorem gg_of {x : Str} {st : Stmt} {N ps : List Str} {k : Nat} {Pre : List Dt → (Dt → Prop) → Prop} (F : Df K mg x st ps) (S : FnScope N ps (defScope st)) (len : ∀ ds R, Pre ds R → ds.length = ps.length)
    (hbody : ∀ (f : Addr) (cdv : Value) (A : Around) (outer : List Env) (s : Shared) (H : Hp) (E : XK), A.guards = some [] → Room k (A.deeper (envOfC x (defScope st) s.heap.objs.size f cdv)) →
      ∃ t, PSs (cxOf CX0 P w K mg base N x (defScope st) f cdv A outer s H E).nox (defBody st) t ∧ ∀ ds R, Pre ds R → StD K x0 t (startS N.length ds) (fun _ => R .non) (fun _ => False) (fun _ => False) R) :
    Gg P w K mg base x (k + 1) ps Pre := by
  obtain ⟨f, fd, F, b, m⟩ := F
  refine ⟨f, fd, ⟨fun vs H Q E h => ?_, fun A outer s H args us vs Q E hg hr e0 hb hv h => ?_⟩, b, m, F.kp, lk_of F⟩
  · obtain ⟨G, ds, R, e, d, p, _⟩ := h
    rw [d.len]; exact len ds R p
  · obtain ⟨oc, od, kV, doc, pm, an, cdv, ct, osl, rfl, lk, hcd⟩ := F.ex
    obtain ⟨G, ds, R, e, d, p, q⟩ := h
    have hl : vs.length = ps.length := by rw [d.len]; exact len ds R p
    refine StX.run_bnd (G := fun xs H2 => xs = vs ∧ H2 = H) lk hcd S hr e0 (fun A' Ex' Q' h' => hb _ A' Ex' Q' (h' s H vs us e0 Un.refl rfl (fun _ _ z => z) hv hl ⟨rfl, rfl⟩)) fun s2 H2 xs hx hr' => ?_
    obtain ⟨rfl, rfl⟩ := hx
    obtain ⟨t, ht, hs⟩ := hbody f cdv A outer s2 H2 E hg hr'
    exact ⟨t, ht.nox, hs ds R p G H2 _ _ G H2 (Go.refl e) (sl_start e d) (fun σ' s' G' H' g' _ hn => q .non .non G' H' g' rfl hn) (fun σ' s' G' H' g' _ hn => hn.elim) (fun σ' s' G' H' g' _ hn => hn.elim) (fun v d G' H' g' dd hr => q v d G' H' g' dd hr) fun _ _ _ _ _ _ _ _ _ _ hx => hx.elim⟩
theorem pe_gg {X : Cx} {x : Str} {k : Nat} {ps : List Str} {Pre : List Dt → (Dt → Prop) → Prop} {p pos : Pos} {e : Expr} {es : List Expr} {t : TA} (F : Gg P w K mg base x k ps Pre) (hX : X.prog = P ∧ X.w = w ∧ X.K = K ∧ X.mg = mg ∧ X.base = base) (hA : X.A.guards = some []) (hr : Room k X.A) (hg : Gl X x) (ha : PA X (e :: es) t)
    (hdb : (x == ("__debug__" : Str)) = false := by decide) (he : starEach (e :: es) X.env = (false, eval e X.env) :: starEach es X.env := by rfl) (hpl : (backTo pos (starEach es X.env)).any (·.1) = false := by rfl) :
    PE X (.Call (.Name x p) (e :: es) [] pos) (tCall (spD K Pre) [] E0 t) := by
  obtain ⟨rfl, rfl, rfl, rfl, rfl⟩ := hX
  obtain ⟨f, fd, F, b, m, kp, _⟩ := F
  constructor
  intro pins s σ H Q I h
  refine wpAny_Call_Name_kw (ld_glob I hg m (PySem.W.callWith_K (h₀ := X.base) I.ok.mod.kin kp ?_ he hpl) hdb)
  refine thn (ha.run pos pins s σ H _ I h) fun us s1 ⟨vs, H1, I1, r, q⟩ => ⟨I1.kIn, wpAny_call ?_⟩
  have q : spD X.K Pre (vs ++ []) H1 Q E0 := q
  rw [List.append_nil] at q
  have hl : us.length = ps.length := by rw [← r.length]; exact F.len _ _ _ _ q
  have hb := b s1 us I1.kIn (by rw [List.append_nil]; exact hl)
  rw [List.append_nil] at hb
  refine codeAny_mono (F.run X.A X.stack s1 H1 _ us vs Q E0 hA hr I1.env0 hb r q) fun rr s2 hq => ?_
  cases rr with
  | error _ => exact hq.elim
  | ok fl => cases fl with
    | ret u => exact I1.after hq
    | _ => exact hq.elim
end
/-! ### repr of data -/
section
variable {X : Cx}
def rReprD (K : PySem.W.Frag) : List V → Hp → VK → Prop := fun xs H Q => ∃ x d, xs = [x] ∧ Dp K H x d ∧ d.showable = true ∧ d.hasDict = false ∧ d.depth ≤ 60 ∧ d.shown.length ≤ sizeLine ∧ Q (.str d.shown) H
theorem callReprD {K : PySem.W.Frag} (hK : X.K = K) (hA : X.A.guards = some []) (hu : X.A.units + 64 < cLine) : CallR X (.builtin "repr") (rReprD K) := by
  subst hK
  intro pins s σ H xs us Q I r h
  obtain ⟨x, d, rfl, hd, hs, hdd, hdp, hz, q⟩ := h
  obtain ⟨u, rfl, rx⟩ := vals1 r
  obtain ⟨as, rd⟩ := Dp.reads I d x u hd rx
  have fin : ∀ (h' : Heap) (t : Tok) (tk : Nat), (∀ b o, s.heap.get? b = some o → h'.get? b = some o) → EP X pins σ Q (.str d.shown t) { s with heap := h', toks := tk } := fun h' t tk k => ⟨.str d.shown, H, I.kept k, ⟨_, rfl⟩, q⟩
  cases hd with
  | non => cases rx; exact PySem.P.repr_of_none (fin _ _ _ fun _ _ z => z)
  | bl b => cases rx; exact PySem.P.repr_of_bool (fin _ _ _ fun _ _ z => z)
  | int i =>
    obtain ⟨t, rfl⟩ := rx
    exact PySem.P.repr_of_int (by simpa [PyData.showable] using hs) (fin _ _ _ fun _ _ z => z)
  | str y =>
    obtain ⟨t, rfl⟩ := rx
    exact PySem.P.repr_of_str (fin _ _ _ fun _ _ z => z) hz
  | lst h1 h2 => cases rx; exact repr_of_reads' rd hs (fun z => by rw [hdd] at z; cases z) hA (by omega) (fun _ _ z => z) (fun h' u tk k => fin h' u tk k) hz
  | tup h1 h2 => cases rx; exact repr_of_reads' rd hs (fun z => by rw [hdd] at z; cases z) hA (by omega) (fun _ _ z => z) (fun h' u tk k => fin h' u tk k) hz
theorem cd_reprD {K : PySem.W.Frag} {R : Dt → Prop} {d : Dt} {p : PyData} (hp : toPy d = some p) (hs : p.showable = true) (hdd : p.hasDict = false) (hdp : p.depth ≤ 60) (hz : p.shown.length ≤ sizeLine) (h : R (.str p.shown)) : CD K (rReprD K) [d] R := fun G H vs e dd Q k => by
  obtain ⟨v, r, rfl, d1, d2⟩ := dd
  cases d2
  exact ⟨v, p, rfl, Dp.up e d1 hp, hs, hdd, hdp, hz, k _ (.str _) G H (Go.refl e) rfl h⟩
end
end Nv

set_option Elab.async false
set_option linter.all false
set_option maxRecDepth 100000
set_option maxHeartbeats 4000000
namespace Nv
open PySem PySem.Spec PyProof.Rows L2
/-! ### objects of a def's own: made, changed, told -/
section
variable {K : PySem.W.Frag} {G G' H H' H0 : Hp} {σ : L2.St} {ss : List Sd}
theorem get_set_own' {j i : Nat} {x : Sd} {a : Addr} {l : Dt} (z : (ss.set j x)[i]? = some (.own a l)) : (j = i ∧ x = .own a l ∧ j < ss.length) ∨ (ss[i]? = some (.own a l) ∧ j ≠ i) := by
  by_cases c : j = i
  · subst c
    by_cases b : j < ss.length
    · rw [List.getElem?_set_self b] at z; exact .inl ⟨rfl, Option.some.inj z, b⟩
    · rw [List.getElem?_eq_none (by simpa using b)] at z; cases z
  · rw [List.getElem?_set_ne c] at z
    exact .inr ⟨z, c⟩
theorem Sv.own (h : Sv K G σ ss) {j : Nat} {a : Addr} {d : Dt} {v : V} : Sv K G (σ.set j (some v)) (ss.set j (.own a d)) := by
  refine ⟨by simp [h.len], fun i e z => ?_⟩
  by_cases c : j = i
  · subst c
    by_cases b : j < ss.length
    · rw [List.getElem?_set_self b] at z; cases z
    · rw [List.getElem?_eq_none (by simpa using b)] at z; cases z
  · rw [List.getElem?_set_ne c] at z ⊢
    exact h.dat i e z
/-- a slot takes an object that no slot has: what the others have stands in H' as in H -/
theorem Sl.takeOwn (h : Sl K H0 G H σ ss) {j : Nat} {d : Dt} {a : Addr} {o : HO} (hn : ∀ (i : Nat) (l : Dt), ss[i]? ≠ some (Sd.own a l)) (h0 : H0 a = none) (hg : G a = none) (ha : H' a = some o) (hH : ∀ b, b ≠ a → H' b = H b) (ho : OwnD K G d o) : Sl K H0 G H' (σ.set j (some (.ref a))) (ss.set j (.own a d)) := by
  refine ⟨h.sv.own, fun i b l z => ?_, fun i k l m b z1 z2 => ?_⟩
  · rcases get_set_own' z with ⟨rfl, hx, hl⟩ | ⟨z', c⟩
    · cases hx
      exact ⟨by rw [List.getElem?_set_self (by rw [h.sv.len]; exact hl)], h0, hg, o, ha, ho⟩
    · obtain ⟨h1, h2, h3, o, h4, h5⟩ := h.own i b l z'
      have ne : b ≠ a := fun e => by subst e; exact hn i l z'
      exact ⟨by rw [List.getElem?_set_ne c]; exact h1, h2, h3, o, by rw [hH b ne]; exact h4, h5⟩
  · rcases get_set_own' z1 with ⟨rfl, hx, hl⟩ | ⟨z1', c1⟩
    · rcases get_set_own' z2 with ⟨rfl, hy, _⟩ | ⟨z2', c2⟩
      · rfl
      · cases hx; exact absurd z2' (hn k m)
    · rcases get_set_own' z2 with ⟨rfl, hy, hl⟩ | ⟨z2', c2⟩
      · cases hy; exact absurd z1' (hn i l)
      · exact h.sep i k l m b z1' z2'
theorem Sl.newOwn (h : Sl K H0 G H σ ss) {j : Nat} {d : Dt} {a : Addr} {o : HO} (hn : H a = none) (h0 : H0 a = none) (hg : G a = none) (ho : OwnD K G d o) : Sl K H0 G (upd H a o) (σ.set j (some (.ref a))) (ss.set j (.own a d)) :=
  h.takeOwn (fun i l z => by
    obtain ⟨_, _, _, o, h4, _⟩ := h.own i a l z
    rw [hn] at h4; cases h4) h0 hg upd_same (fun b ne => upd_ne ne) ho
theorem set_self {α : Type} : ∀ {l : List α} {i : Nat} {x : α}, l[i]? = some x → l.set i x = l
  | [], _, _, h => by simp at h
  | _ :: _, 0, _, h => by simp at h; subst h; rfl
  | y :: l, i + 1, x, h => by
    have := set_self (l := l) (i := i) (x := x) (by simpa using h)
    simp [this]
/-- the object of a slot is changed -/
theorem Sl.turnOwn (h : Sl K H0 G H σ ss) {j : Nat} {d d' : Dt} {a : Addr} {o : HO} (hs : ss[j]? = some (.own a d)) (ho : OwnD K G d' o) : Sl K H0 G (upd H a o) σ (ss.set j (.own a d')) := by
  obtain ⟨h1, h2, h3, o', h4, h5⟩ := h.own j a d hs
  have hl : j < ss.length := by rcases List.getElem?_eq_some_iff.mp hs with ⟨x, _⟩; exact x
  refine ⟨⟨by rw [h.sv.len]; simp, fun i e z => ?_⟩, fun i b l z => ?_, fun i k l m b z1 z2 => ?_⟩
  · by_cases c : j = i
    · subst c; rw [List.getElem?_set_self hl] at z; cases z
    · rw [List.getElem?_set_ne c] at z; exact h.sv.dat i e z
  · rcases get_set_own' z with ⟨rfl, hx, hl⟩ | ⟨z', c⟩
    · cases hx
      exact ⟨h1, h2, h3, o, upd_same, ho⟩
    · obtain ⟨g1, g2, g3, o', g4, g5⟩ := h.own i b l z'
      have ne : b ≠ a := fun e => by subst e; exact c (h.sep j i d l b hs z')
      exact ⟨g1, g2, g3, o', by rw [upd_ne ne]; exact g4, g5⟩
  · have w : ∀ {i : Nat} {b : Addr} {l : Dt}, (ss.set j (.own a d'))[i]? = some (.own b l) → ∃ l', ss[i]? = some (.own b l') := fun {i b l} z => by
      rcases get_set_own' z with ⟨rfl, hx, _⟩ | ⟨z', _⟩
      · cases hx; exact ⟨_, hs⟩
      · exact ⟨_, z'⟩
    obtain ⟨l', y1⟩ := w z1
    obtain ⟨m', y2⟩ := w z2
    exact h.sep i k l' m' b y1 y2
theorem Go.turn {G0 H0 : Hp} {a : Addr} {o : HO} (g : Go G0 H0 G H) (hG : G a = none) (h0 : H0 a = none) : Go G0 H0 G (upd H a o) :=
  ⟨g.kn, g.nw, fun b u z => by rw [upd_ne (ne_of_none z hG)]; exact g.ink b u z, fun b u z => by rw [upd_ne (ne_of_none z h0)]; exact g.up b u z⟩
/-- .. is told: data from here on -/
theorem Sl.tell (h : Sl K H0 G H σ ss) {j : Nat} {d : Dt} {a : Addr} {o : HO} (hs : ss[j]? = some (.own a d)) (hG : G a = none) (ho : OwnD K G d o) : Sl K H0 (upd G a o) H σ (ss.set j (.dt d)) := by
  have e := Ex.new (o := o) hG
  have hl : j < ss.length := by rcases List.getElem?_eq_some_iff.mp hs with ⟨x, _⟩; exact x
  obtain ⟨ha, _⟩ := h.own j a d hs
  refine ⟨?_, fun i b l z => ?_, fun i k l m b z1 z2 => ?_⟩
  · have := (h.sv.up e).set (j := j) (OwnD.dat hG ho)
    rwa [set_self ha] at this
  · obtain ⟨z', c⟩ := get_set_own (fun b m => Sd.noConfusion) z
    obtain ⟨g1, g2, g3, o', g4, g5⟩ := h.own i b l z'
    have ne : b ≠ a := fun e => by subst e; exact c (h.sep j i d l b hs z')
    exact ⟨g1, g2, by rw [upd_ne ne]; exact g3, o', g4, g5.up e⟩
  · exact h.sep i k l m b (get_set_own (fun b m => Sd.noConfusion) z1).1 (get_set_own (fun b m => Sd.noConfusion) z2).1
theorem Go.tell {G0 H0 : Hp} {a : Addr} {o : HO} (g : Go G0 H0 G H) (hG : G a = none) (h0 : H0 a = none) (hH : H a = some o) : Go G0 H0 (upd G a o) H :=
  ⟨g.kn.trans (Ex.new hG), fun b h1 h2 => by rw [upd_ne (fun c => h2 (by rw [c]; exact h0))]; exact g.nw b h1 h2, fun b u z => by
    by_cases c : b = a
    · subst c; rw [upd_same] at z; rw [hH]; exact z
    · rw [upd_ne c] at z; exact g.ink b u z, g.up⟩
variable {R : Dt → Prop} {N B C : SP} {ξ : XC} {te : TE} {tt : TT} {t u : TS}
theorem sd_tell {j : Nat} {a : Addr} {d : Dt} (hs : ss[j]? = some (.own a d)) (h : StD K ξ t (ss.set j (.dt d)) N B C R) : StD K ξ t ss N B C R := fun G0 H0 D σ G H g s n b c r w => by
  obtain ⟨h1, h2, h3, o, h4, h5⟩ := s.own j a d hs
  exact h G0 H0 D σ (upd G a o) H (g.tell h3 h2 h4) (s.tell hs h3 h5) n b c r w
/-- x = [..], a list of its own -/
theorem sd_newL {i : Nat} {ta : TA} (h : EvA K ta ss fun l => l.length ≤ 1000000 ∧ ∀ a, N (ss.set i (.own a (.lst l)))) : StD K ξ (tAsg (tLst ta) (gName i)) ss N B C R := fun G0 H0 D σ G H g s n b c r w =>
  h G σ H g.ink s.sv _ fun vs l G1 H1 g1 d1 h1 => ⟨by rw [d1.len]; exact sz_of h1.1, fun p hp => by
    have gg := g.trans g1
    have h0 : H0 p = none := gg.up.free hp
    have hG : G1 p = none := gg.ink.free hp
    exact n _ _ G1 (upd H1 p (.lst vs)) (gg.turn hG h0) ((s.go g1).newOwn (d := .lst l) hp h0 hG ⟨vs, rfl, d1⟩) (h1.2 p)⟩
/-- xs.append(e) -/
theorem sd_append {i : Nat} {a : Addr} {l : List Dt} {ta : TA} (hs : ss[i]? = some (.own a (.lst l))) (h : EvA K ta ss fun ds => ∃ y, ds = [y] ∧ l.length < 1000000 ∧ N (ss.set i (.own a (.lst (l ++ [y]))))) :
    StD K ξ (tDrop (tBM K "list" rAppend (tVar i) ta)) ss N B C R := fun G0 H0 D σ G H g s n b c r w => by
  obtain ⟨h1, h2, h3, o, h4, xs, rfl, h6⟩ := s.own i a _ hs
  refine ⟨.ref a, h1, .inl ⟨rfl, xs, .inl (.inl h4)⟩, h G σ H g.ink s.sv _ fun vs ds G1 H1 g1 d1 ⟨y, e1, hl, h7⟩ => ?_⟩
  subst e1
  obtain ⟨v, r1, rfl, e1, e2⟩ := d1
  cases e2
  have s1 := s.go g1
  obtain ⟨k1, k2, k3, o, k4, xs, rfl, k6⟩ := s1.own i a _ hs
  exact ⟨a, xs, v, rfl, rfl, k4, by rw [k6.len]; exact sz_lt hl, n σ _ G1 _ ((g.trans g1).turn k3 k2) (s1.turnOwn (d' := .lst (l ++ [y])) hs ⟨_, rfl, k6.snoc e1⟩) h7⟩
/-- a, b = x, y -/
theorem sd_par {i j : Nat} {ta : TA} (h : EvA K ta ss fun l => ∃ x y, l = [x, y] ∧ N ((ss.set i (.dt x)).set j (.dt y))) : StD K ξ (tPar i j ta) ss N B C R := fun G0 H0 D σ G H g s n b c r w =>
  h G σ H g.ink s.sv _ fun vs l G1 H1 g1 d1 ⟨x, y, h1, h2⟩ => by
    subst h1
    obtain ⟨v, r1, rfl, e1, w, r2, rfl, e2, e3⟩ := d1
    cases e3
    exact ⟨v, w, rfl, n _ _ G1 H1 (g.trans g1) (((s.go g1).set e1).set e2) h2⟩
/-- a, b = x, [..]: the second a list of its own -/
theorem sd_parL {i j : Nat} {ta : TA} {tx : TE} (h : EvD K tx ss fun x => EvA K ta ss fun l => l.length ≤ 1000000 ∧ ∀ a, N ((ss.set i (.dt x)).set j (.own a (.lst l)))) : StD K ξ (tPar i j (tCons tx (tCons (tLst ta) tNil))) ss N B C R := fun G0 H0 D σ G H g s n b c r w =>
  h G σ H g.ink s.sv _ fun v x G1 H1 g1 d1 h1 => h1 G1 σ H1 g1.ink (s.sv.up g1.kn) _ fun vs l G2 H2 g2 d2 h2 => ⟨by rw [d2.len]; exact sz_of h2.1, fun p hp => by
    have gg := (g.trans g1).trans g2
    have h0 : H0 p = none := gg.up.free hp
    have hG : G2 p = none := gg.ink.free hp
    exact ⟨v, _, rfl, n _ _ G2 (upd H2 p (.lst vs)) (gg.turn hG h0) ((((s.go g1).go g2).set (d1.up g2.kn)).newOwn (d := .lst l) hp h0 hG ⟨vs, rfl, d2⟩) (h2.2 p)⟩⟩
end
/-! ### fields -/
section
variable {K : PySem.W.Frag} {ss : List Sd} {R : Dt → Prop} {N B C : SP} {ξ : XC} {te tv : TE}
theorem Datf.lookup {G : Hp} {f : Str} : ∀ {l : List (Str × Dt)} {fs : List (Str × V)} {d : Dt}, Datf K G l fs → l.lookup f = some d → ∃ v, fs.lookup f = some v ∧ Dat K G d v
  | [], _, _, _, h => by simp at h
  | (g, x) :: l, _, d, ⟨v, r, h1, h2, h3⟩, h => by
    subst h1
    simp only [List.lookup] at h ⊢
    cases c : (f == g) with
    | true => rw [c] at h; cases h; exact ⟨v, rfl, h2⟩
    | false => rw [c] at h; exact Datf.lookup h3 h
theorem Datf.lookup_none {G : Hp} {f : Str} : ∀ {l : List (Str × Dt)} {fs : List (Str × V)}, Datf K G l fs → l.lookup f = none → fs.lookup f = none
  | [], _, h, _ => by cases h; rfl
  | (g, x) :: l, _, ⟨v, r, h1, h2, h3⟩, h => by
    subst h1
    simp only [List.lookup] at h ⊢
    cases c : (f == g) with
    | true => rw [c] at h; cases h
    | false => rw [c] at h; exact Datf.lookup_none h3 h
theorem Datf.len {G : Hp} : ∀ {l : List (Str × Dt)} {fs : List (Str × V)}, Datf K G l fs → fs.length = l.length
  | [], _, h => by cases h; rfl
  | (_, _) :: _, _, ⟨x, r, h1, _, h3⟩ => by subst h1; simp [Datf.len h3]
def putD (f : Str) (d : Dt) : List (Str × Dt) → List (Str × Dt)
  | [] => [(f, d)]
  | (g, x) :: r => if g = f then (g, d) :: r else (g, x) :: putD f d r
theorem Datf.put {G : Hp} {f : Str} {d : Dt} {v : V} (hd : Dat K G d v) : ∀ {l : List (Str × Dt)} {fs : List (Str × V)}, Datf K G l fs → Datf K G (putD f d l) (putF f v fs)
  | [], _, h => by cases h; exact ⟨v, [], rfl, hd, rfl⟩
  | (g, x) :: l, _, ⟨y, r, h1, h2, h3⟩ => by
    subst h1
    unfold putD putF
    by_cases c : g = f
    · rw [if_pos c, if_pos c]; exact ⟨v, r, rfl, hd, h3⟩
    · rw [if_neg c, if_neg c]; exact ⟨y, _, rfl, h2, Datf.put hd h3⟩
theorem ed_fld {f : Str} (h : EvD K te ss fun d => ∃ C l y, d = .ins C l ∧ Cls K C ∧ NoAttr K C f ∧ l.lookup f = some y ∧ R y) : EvD K (tFld K te f) ss R := fun G σ H e s Q q =>
  h G σ H e s _ fun v d G1 H1 g1 d1 ⟨C, l, y, h2, hc, hn, hl, hr⟩ => by
    subst h2
    obtain ⟨a, dx, fs, rfl, ha, hf⟩ := d1
    obtain ⟨z, hz, dz⟩ := hf.lookup hl
    exact ⟨a, C, dx, fs, z, rfl, g1.ink _ _ ha, hc, hn, hz, q z y G1 H1 g1 dz hr⟩
/-- self.f = e, self of the def's own -/
theorem sd_fld {i : Nat} {f : Str} {Cc a : Addr} {l : List (Str × Dt)} (hs : ss[i]? = some (.own a (.ins Cc l))) (hc : Cls K Cc) (hn : NoAttr K Cc f) (hl : l.length < 1000) (h : EvD K tv ss fun y => N (ss.set i (.own a (.ins Cc (putD f y l))))) :
    StD K ξ (sFld K (tVar i) tv f) ss N B C R := fun G0 H0 D σ G H g s n b c r w =>
  h G σ H g.ink s.sv _ fun v d G1 H1 g1 d1 h1 => by
    have s1 := s.go g1
    obtain ⟨h2, h3, h4, o, h5, dx, fs, rfl, h7⟩ := s1.own i a _ hs
    refine ⟨.ref a, h2, a, Cc, dx, fs, rfl, h5, hc, hn, by rw [h7.len]; exact hl, ?_⟩
    exact n σ _ G1 _ ((g.trans g1).turn h4 h3) (s1.turnOwn (d' := .ins Cc (putD f d l)) hs ⟨dx, _, rfl, h7.put d1⟩) h1
end
end Nv

set_option Elab.async false
set_option linter.all false
set_option maxRecDepth 100000
set_option maxHeartbeats 4000000
namespace Nv
open PySem PySem.Spec PyProof.Rows L2
/-! ### own __eq__: ==, and != by object.__ne__ -/
section
variable {prog : Program} {w : World} {A : Around} {E : Value → Shared → Prop} {s : Shared} {K : PySem.W.Frag} {x C f : Addr} {ox : Obj} {od : Option Obj} {b tb : Value}
theorem ifBound_B {M : Model} {name : Str} {id B : String} {args : List Value} {Q : Option Value → Shared → Prop} (S : PySem.Slot B name id) (X : K.In s.heap) (I : PySem.W.InstAt s.heap x ox C od) (hs : PySem.W.findIn K (.ref C) name = some (some (.builtin id)))
    (h : wpAny M A (call (.builtin id) (.ref x :: args)) (fun v => Q (some v)) E s) : wpAny M A (callSpecialIfBound? (.ref x) name args) Q E s := by
  simp only [callSpecialIfBound?, bindSpecialIfBound?]
  refine wpAny_holding (wpAny_bind (wpAny_bind (wpAny_bind (I.type.here ((PySem.W.looks_findIn X hs).here ?_)))))
  simp only [S.bind]
  refine wpAny_bind (wpAny_askSetting (wpAny_ite ?_))
  have fin : wpAny M A (call (.builtin id) ([.ref x] ++ args) >>= fun v => pure (some v)) Q E s := wpAny_bind (wpAny_mono h (fun v s' h' => wpAny_pure h') fun _ _ h' => h')
  split
  · exact wpAny_bind (wpAny_pure (wpAny_pure fin))
  · exact wpAny_tryCatch (wpAny_bind (wpAny_pure (wpAny_pure fin)))
theorem objNe_entryK (X : K.In s.heap) (I : PySem.W.InstAt s.heap x ox C od) (hs : PySem.W.findIn K (.ref C) "__eq__" = some (some (.ref f))) (hf : PySem.W.isFn K (.ref f) = true) (hu : A.units < cLine) {Q : Fin → Shared → Prop}
    (hcall : wpAny (model prog w) A (call (.ref f) [.ref x, b]) (fun v s' => ∃ r, v = .bool r ∧ Q (.done (.ret (.bool (!r)))) s') E s) :
    wpAny (model prog w) A (Builtin.«object.__ne__» ⟨[.ref x, b], []⟩) Q E s := by
  unfold Builtin.«object.__ne__»
  repeat (first
    | with_reducible refine wpAny_cRoomFor hu ?_
    | (refine wpAny_bind (m := callSpecialIfBound? (.ref x) (Str.ofString "__eq__") [b])
        (PySem.W.ifBound_K X I hs hf (wpAny_mono hcall (fun r s' hr => by
          obtain ⟨b, rfl, hq⟩ := hr
          repeat (first | exact hq | exact wpAny_pure hq | exact wpAny_truthy_bool hq | (refine wpAny_bind (m := truthy (.bool _)) (wpAny_truthy_bool ?_)) | wp_step)) fun _ _ e => e)))
    | wp_step)
theorem tryNe_K (X : K.In s.heap) (I : PySem.W.InstAt s.heap x ox C od) (hn : PySem.W.findIn K (.ref C) "__ne__" = some (some (.builtin "object.__ne__"))) (ho : PySem.W.subIn K (.ref C) (.type "object") = some true)
    (hs : PySem.W.findIn K (.ref C) "__eq__" = some (some (.ref f))) (hf : PySem.W.isFn K (.ref f) = true) (hu : A.units + 1 < cLine) {Q : Option Value → Shared → Prop}
    (hcall : wpAny (model prog w) A.in1 (call (.ref f) [.ref x, b]) (fun v s' => ∃ r, v = .bool r ∧ Q (some (.bool (!r))) s') E s) :
    wpAny (model prog w) A (tryCompare (.ref x) "__ne__" b) Q E s := by
  simp only [tryCompare]
  refine wpAny_bind (ifBound_B F.cmp_object.ne X I hn (wpAny_call (codeAny_call_builtin F.cmp_object.ne.plain F.cmpEntry_ne
    (PySem.W.check_slot F.cmpKind_ne F.cmpSplit_ne (I.type.andThen (PySem.W.looks_subIn X ho)) (F.cmpArgs_ne _ _)
      (objNe_entryK (A := A.in1) X I hs hf hu (wpAny_mono hcall (fun v s' hv => ?_) fun _ _ e => e))))))
  obtain ⟨r, rfl, hq⟩ := hv
  first | exact ⟨r, rfl, wpAny_pure hq⟩ | exact ⟨r, rfl, wpAny_pure (wpAny_pure hq)⟩ | exact ⟨r, rfl, hq⟩
theorem ne_K {Q : Value → Shared → Prop} (X : K.In s.heap) (I : PySem.W.InstAt s.heap x ox C od) (hb : PySem.W.Looks (model prog w) s.heap (typeOf b) tb) (hn : PySem.W.notFirst K C tb = true)
    (hne : PySem.W.findIn K (.ref C) "__ne__" = some (some (.builtin "object.__ne__"))) (ho : PySem.W.subIn K (.ref C) (.type "object") = some true)
    (hs : PySem.W.findIn K (.ref C) "__eq__" = some (some (.ref f))) (hf : PySem.W.isFn K (.ref f) = true) (hu : A.units + 1 < cLine)
    (hcall : wpAny (model prog w) A.in1 (call (.ref f) [.ref x, b]) (fun v s' => ∃ r, v = .bool r ∧ Q (.bool (!r)) s') E s) : wpAny (model prog w) A (richCompare .NotEq (.ref x) b) Q E s := by
  have one : wpAny (model prog w) A (tryCompare (.ref x) "__ne__" b) (fun r s' => ∃ v, r = some v ∧ Q v s') E s :=
    tryNe_K X I hne ho hs hf hu (wpAny_mono hcall (fun v s' ⟨r, h1, h2⟩ => ⟨r, h1, _, rfl, h2⟩) fun _ _ e => e)
  unfold richCompare
  simp only [oneThing_ref]
  refine wpAny_holding (wpAny_bind (wpAny_cRoomFor (Nat.lt_of_succ_lt hu) ?_))
  rw [cmpInfo_NotEq]
  dsimp only
  refine wpAny_bind (I.type.here (wpAny_bind (hb.here ?_)))
  split
  · rename_i q
    have e : PySem.W.subIn K tb (.ref C) = some false := by
      rcases Bool.or_eq_true_iff.mp hn with e | e
      · rw [beq_iff_eq.mp e] at q; simp at q
      · exact beq_iff_eq.mp e
    refine wpAny_bind ((PySem.W.looks_subIn X e).here ?_)
    simp only [Bool.false_eq_true, if_false]
    refine wpAny_bind (wpAny_mono one (fun r s' z => ?_) fun _ _ e => e)
    obtain ⟨v, rfl, hq⟩ := z
    exact wpAny_pure hq
  · refine wpAny_bind (wpAny_pure ?_)
    simp only [Bool.false_eq_true, if_false]
    refine wpAny_bind (wpAny_mono one (fun r s' z => ?_) fun _ _ e => e)
    obtain ⟨v, rfl, hq⟩ := z
    exact wpAny_pure hq
end
/-- x == y, x an instance of C whose __eq__ is at g, y of any type that does not come first -/
def rEqO (K : PySem.W.Frag) (C : Addr) (sp : Sp) : R2 := fun x y H Q => ∃ a dx fs t, x = .ref a ∧ H a = some (.ins C dx fs) ∧ TyX K H y t ∧ PySem.W.notFirst K C t = true ∧ sp [x, y] H Q E0
def rNeO (K : PySem.W.Frag) (C : Addr) (sp : Sp) : R2 := fun x y H Q => ∃ a dx fs t, x = .ref a ∧ H a = some (.ins C dx fs) ∧ TyX K H y t ∧ PySem.W.notFirst K C t = true ∧ sp [x, y] H (fun z H' => ∃ b, z = .bl b ∧ Q (.bl (!b)) H') E0
section
variable {X : Cx} {C g : Addr} {n : Nat} {sp : Sp}
theorem opEqO {K : PySem.W.Frag} (hK : X.K = K) (hs : PySem.W.findIn K (.ref C) "__eq__" = some (some (.ref g))) (hf : PySem.W.isFn K (.ref g) = true) (F : FnR X.prog X.w X.K X.mg X.base CX0 n g sp) (hr : Room n X.A) : OpR X (compareOp .Eq) (rEqO K C sp) := by
  subst hK
  intro pins s σ H x y v u Q I rx ry h
  obtain ⟨a, dx, fs, t, rfl, ha, ty, hn, q⟩ := h
  cases (show v = Value.ref a from rx)
  obtain ⟨mA, O, _⟩ := ins_get I.hok ha
  obtain ⟨od, J, _⟩ := O.look
  obtain ⟨P, Z, p, _⟩ := kit_of I ry ty
  obtain ⟨m, hF⟩ := I.fr
  show wpAny _ _ (richCompare .Eq _ _) _ _ _
  refine PySem.W.cmp_K (op := .Eq) (tb := t) hr.units0 hF I.ok.mod.kin J (Z.ty _ _ I.kIn p) hn hs hf ?_
  refine wpAny_mono (wpAny_call (run_fnR (us := [.ref a, u]) (vs := [.ref a, y]) F hr pass0 I (.cons rfl (.cons ry .nil)) q)) (fun w s' z => ?_) fun _ _ x => x
  obtain ⟨z', H', I', rz, qz⟩ := z
  exact SlX.cmpback rz ⟨z', H', I', rz, qz⟩
theorem opNeO {K : PySem.W.Frag} (hK : X.K = K) (hs : PySem.W.findIn K (.ref C) "__eq__" = some (some (.ref g))) (hf : PySem.W.isFn K (.ref g) = true)
    (hne : PySem.W.findIn K (.ref C) "__ne__" = some (some (.builtin "object.__ne__"))) (ho : PySem.W.subIn K (.ref C) (.type "object") = some true) (F : FnR X.prog X.w X.K X.mg X.base CX0 n g sp) (hr : Room (n + 1) X.A) : OpR X (compareOp .NotEq) (rNeO K C sp) := by
  subst hK
  intro pins s σ H x y v u Q I rx ry h
  obtain ⟨a, dx, fs, t, rfl, ha, ty, hn, q⟩ := h
  cases (show v = Value.ref a from rx)
  obtain ⟨mA, O, _⟩ := ins_get I.hok ha
  obtain ⟨od, J, _⟩ := O.look
  obtain ⟨P, Z, p, _⟩ := kit_of I ry ty
  show wpAny _ _ (richCompare .NotEq _ _) _ _ _
  refine ne_K (tb := t) I.kIn J (Z.ty _ _ I.kIn p) hn hne ho hs hf (Nat.lt_of_le_of_lt (Nat.add_le_add_left (by decide) _) hr.units) ?_
  refine wpAny_mono (wpAny_call (SlX.run_at (us := [.ref a, u]) (ws := [.ref a, y]) F hr.in1 I.env0.in1 pass0 I (.cons rfl (.cons ry .nil)) q)) (fun w s' z => ?_) fun _ _ x => x
  obtain ⟨z', H', I', rz, b, rfl, qz⟩ := z
  cases (show w = Value.bool b from rz)
  exact ⟨b, rfl, .bl (!b), H', I', rfl, qz⟩
end
end Nv

set_option Elab.async false
set_option linter.all false
set_option maxRecDepth 100000
set_option maxHeartbeats 4000000
namespace Nv
open PySem PySem.Spec PyProof.Rows L2
/-! ### classes: what == and isinstance ask of the class at C -/
structure ClsI (K : PySem.W.Frag) (C : Addr) : Prop where
  cls : Cls K C
  si : SlX.SIsi K C
def tyV' : Dt → Option Value
  | .ins C _ => some (.ref C)
  | d => (tyD d).map .type
section
variable {K : PySem.W.Frag} {ss : List Sd} {R : Dt → Prop}
/-- instances that it has are of classes that are known -/
def clsOk (K : PySem.W.Frag) : Dt → Prop
  | .ins C _ => ClsI K C
  | _ => True
theorem tyx_of' {G : Hp} {d : Dt} {v : V} {t : Value} (h : Dat K G d v) (e : tyV' d = some t) (hc : clsOk K d) : TyX K G v t := by
  cases d with
  | ins C l =>
    obtain ⟨a, dx, fs, rfl, ha, _⟩ := h
    cases e
    exact .base (.ins ha hc.cls hc.si.ca hc.si.cn hc.si.ct hc.si.cm)
  | ext _ => cases e
  | obj _ => cases e
  | exc _ _ _ _ => cases e
  | ty _ => cases e
  | sq _ => cases e
  | _ =>
    unfold tyV' at e
    obtain ⟨T, e1, rfl⟩ := Option.map_eq_some_iff.mp e
    exact tyx_of h e1
theorem rd_eqO {C : Addr} {l : List (Str × Dt)} {y : Dt} {t : Value} {Pre : List Dt → (Dt → Prop) → Prop} (ht : tyV' y = some t) (hc : clsOk K y) (hn : PySem.W.notFirst K C t = true) (h : Pre [.ins C l, y] R) : RD K (rEqO K C (spD K Pre)) (.ins C l) y R := fun G H v w e d1 d2 Q k => by
  obtain ⟨a, dx, fs, rfl, ha, hf⟩ := d1
  exact ⟨a, dx, fs, t, rfl, e _ _ ha, tyx_of' (d2.up e) ht hc, hn, G, [.ins C l, y], R, e, ⟨_, _, rfl, ⟨a, dx, fs, rfl, ha, hf⟩, _, _, rfl, d2, rfl⟩, h, k⟩
theorem rd_neO {C : Addr} {l : List (Str × Dt)} {y : Dt} {t : Value} {Pre : List Dt → (Dt → Prop) → Prop} (ht : tyV' y = some t) (hc : clsOk K y) (hn : PySem.W.notFirst K C t = true) (h : Pre [.ins C l, y] fun d => ∃ b, d = .bl b ∧ R (.bl (!b))) : RD K (rNeO K C (spD K Pre)) (.ins C l) y R := fun G H v w e d1 d2 Q k => by
  obtain ⟨a, dx, fs, rfl, ha, hf⟩ := d1
  refine ⟨a, dx, fs, t, rfl, e _ _ ha, tyx_of' (d2.up e) ht hc, hn, G, [.ins C l, y], _, e, ⟨_, _, rfl, ⟨a, dx, fs, rfl, ha, hf⟩, _, _, rfl, d2, rfl⟩, h, fun z d G' H' g hd ⟨b, h1, h2⟩ => ?_⟩
  subst h1
  cases hd
  exact ⟨b, rfl, k _ (.bl _) G' H' g rfl h2⟩
/-- isinstance(x, C) -/
theorem cd_isO {C : Addr} {y : Dt} {t : Value} {b : Bool} (ht : tyV' y = some t) (hc : clsOk K y) (hk : PySem.W.kitOne K t (.ref C) = some b) (h : R (.bl b)) : CD K (rIsi K) [y, .obj C] R := fun G H vs e dd Q k => by
  obtain ⟨v, r, rfl, d1, v2, r2, rfl, d2, d3⟩ := dd
  cases d2; cases d3
  exact ⟨v, .ref C, t, .ref C, b, rfl, .own C, tyx_of' (d1.up e) ht hc, hk, k _ (.bl _) G H (Go.refl e) rfl h⟩
theorem cd_isT {y : Dt} {t : Value} {b : Bool} {n : String} (ht : tyV' y = some t) (hc : clsOk K y) (hk : PySem.W.kitOne K t (.type n) = some b) (h : R (.bl b)) : CD K (rIsi K) [y, .ty n] R := fun G H vs e dd Q k => by
  obtain ⟨v, r, rfl, d1, v2, r2, rfl, d2, d3⟩ := dd
  cases d2; cases d3
  exact ⟨v, .ty n, t, .type n, b, rfl, .ty n, tyx_of' (d1.up e) ht hc, hk, k _ (.bl _) G H (Go.refl e) rfl h⟩
end
/-! ### str(x) by an own __str__, len(x) by an own __len__ -/
def rStrO (K : PySem.W.Frag) (C : Addr) (sp : Sp) : List V → Hp → VK → Prop := fun xs H Q => ∃ a dx fs, xs = [.ref a] ∧ H a = some (.ins C dx fs) ∧ sp xs H (fun z H' => ∃ y, z = .str y ∧ Q z H') E0
section
variable {X : Cx} {C g : Addr} {n : Nat} {sp : Sp}
theorem callStrO {K : PySem.W.Frag} (hK : X.K = K) (hs : PySem.W.findIn K (.ref C) "__str__" = some (some (.ref g))) (hf : PySem.W.isFn K (.ref g) = true) (F : FnR X.prog X.w X.K X.mg X.base CX0 n g sp) (hr : Room (n + 2) X.A) : CallR X (.type "str") (rStrO K C sp) := by
  subst hK
  intro pins s σ H xs us Q I r h
  obtain ⟨a, dx, fs, rfl, ha, q⟩ := h
  obtain ⟨u, rfl, ru⟩ := r.one
  cases (show u = Value.ref a from ru)
  obtain ⟨mA, O, _⟩ := ins_get I.hok ha
  obtain ⟨od, J, _⟩ := O.look
  have hr2 : Room n X.A.in1.in1 := (show Room (n + 1) X.A.in1 from Room.in1 hr).in1
  refine PySem.W.kso_call hr2.units0 I.kIn J hs hf (wpAny_mono (wpAny_call (SlX.run_at (us := [.ref a]) (ws := [.ref a]) F hr2 I.env0.in1.in1 pass0 I (.cons rfl .nil) q)) (fun w s' z => ?_) fun _ _ x => x)
  obtain ⟨z', H', I', rz, y, rfl, qz⟩ := z
  obtain ⟨t, e⟩ := (show ∃ t, w = Value.str y t from rz)
  cases e
  exact ⟨.str y, H', I', ⟨t, rfl⟩, qz⟩
end
theorem cd_strO {K : PySem.W.Frag} {R : Dt → Prop} {C : Addr} {l : List (Str × Dt)} {Pre : List Dt → (Dt → Prop) → Prop} (h : Pre [.ins C l] fun d => ∃ y, d = .str y ∧ R d) : CD K (rStrO K C (spD K Pre)) [.ins C l] R := fun G H vs e dd Q k => by
  obtain ⟨v, r, rfl, ⟨a, dx, fs, rfl, ha, hf⟩, d3⟩ := dd
  cases d3
  refine ⟨a, dx, fs, rfl, e _ _ ha, G, [.ins C l], _, e, ⟨_, _, rfl, ⟨a, dx, fs, rfl, ha, hf⟩, rfl⟩, h, fun z d G' H' g hd ⟨y, h1, h2⟩ => ?_⟩
  subst h1
  cases hd
  exact ⟨y, rfl, k _ (.str y) G' H' g rfl h2⟩
/-! ### makes -/
def spI (K : PySem.W.Frag) (C : Addr) (Pre : List Dt → (List (Str × Dt) → Prop) → Prop) : Sp := fun vs H Q _ => ∃ (G0 H0 G : Hp) (x : Addr) (rest : List V) (ds : List Dt) (R : List (Str × Dt) → Prop), vs = .ref x :: rest ∧ H0 x = none ∧ Go G0 H0 G H ∧ G x = none ∧ (∃ dx, H x = some (.ins C dx [])) ∧ Dats K G ds rest ∧ Pre ds R ∧
  ∀ fl G' H', Go G0 H0 G' H' → Dat K G' (.ins C fl) (.ref x) → R fl → Q .non H'
theorem spI_new {K : PySem.W.Frag} {C : Addr} {Pre : List Dt → (List (Str × Dt) → Prop) → Prop} {G H : Hp} {vs : List V} {ds : List Dt} {R : List (Str × Dt) → Prop} {Q : VK} {E : XK} {x dx : Addr} (e : Ex G H) (hx : H x = none) (hdx : H dx = none) (hne : dx ≠ x) (d : Dats K G ds vs) (h : Pre ds R)
    (q : ∀ fl G' H', Go G H G' H' → Dat K G' (.ins C fl) (.ref x) → R fl → Q .non H') : spI K C Pre (.ref x :: vs) (upd (upd H dx (.own x)) x (.ins C dx [])) Q E := by
  have h1 : (upd H dx (.own x)) x = none := by rw [upd_ne (Ne.symm hne)]; exact hx
  have g1 : Go G H G (upd H dx (.own x)) := Go.put e hdx
  exact ⟨G, H, G, x, vs, ds, R, rfl, hx, g1.trans (Go.put g1.ink h1), e.free hx, ⟨dx, upd_same⟩, d, h, q⟩
section
variable {K : PySem.W.Frag} {ss : List Sd} {R : Dt → Prop} {C : Addr} {Pre : List Dt → (List (Str × Dt) → Prop) → Prop}
theorem ed_makeR {E : XK} {ta : TA} (h : EvA K ta ss fun l => Pre l fun fl => R (.ins C fl)) : EvD K (StX.tMakeR C (spI K C Pre) E ta) ss R := fun G σ H e s Q q =>
  h G σ H e s _ fun vs l G1 H1 g1 d1 h2 => fun x dx hx hdx hne => spI_new g1.ink hx hdx hne d1 h2 fun fl G' H' g' d hr => ⟨rfl, q (.ref x) (.ins C fl) G' H' (g1.trans g') d hr⟩
/-- cls( *e), cls a local that has the class at C -/
def tMakeS (K : PySem.W.Frag) (C : Addr) (sp : Sp) (E : XK) (tf te : TE) : TE := fun σ H Q => tf σ H fun c H1 => c = .ref C ∧ te σ H1 fun y H2 => ∃ p xs, y = .ref p ∧ (SqT K H2 p xs ∨ SqL K H2 p xs) ∧ ∀ x dx, H2 x = none → H2 dx = none → dx ≠ x →
  sp (.ref x :: xs) (upd (upd H2 dx (.own x)) x (.ins C dx [])) (fun v H3 => v = .non ∧ Q (.ref x) H3) E
theorem ed_makeS {E : XK} {tf te : TE} (h : EvD K tf ss fun c => c = .obj C ∧ EvD K te ss fun d => ∃ l, (d = .tup l ∨ d = .lst l) ∧ Pre l fun fl => R (.ins C fl)) : EvD K (tMakeS K C (spI K C Pre) E tf te) ss R := fun G σ H e s Q q =>
  h G σ H e s _ fun c dc G1 H1 g1 d1 ⟨h1, h2⟩ => by
    subst h1
    refine ⟨d1, h2 G1 σ H1 g1.ink (s.up g1.kn) _ fun v d G2 H2 g2 d2 ⟨l, h3, h4⟩ => ?_⟩
    have key : ∀ xs, Dats K G2 l xs → ∀ x dx, H2 x = none → H2 dx = none → dx ≠ x → spI K C Pre (.ref x :: xs) (upd (upd H2 dx (.own x)) x (.ins C dx [])) (fun v H3 => v = .non ∧ Q (.ref x) H3) E := fun xs hd x dx hx hdx hne =>
      spI_new g2.ink hx hdx hne hd h4 fun fl G' H' g' d hr => ⟨rfl, q (.ref x) (.ins C fl) G' H' ((g1.trans g2).trans g') d hr⟩
    rcases h3 with rfl | rfl
    · obtain ⟨a, xs, rfl, hs, hd⟩ := d2
      exact ⟨a, xs, rfl, .inl (Ex.tup g2.ink hs), key xs hd⟩
    · obtain ⟨a, xs, rfl, hs, hd⟩ := d2
      exact ⟨a, xs, rfl, .inr (.inl (.inl (g2.ink _ _ hs))), key xs hd⟩
theorem ea_star {te : TE} {ta : TA} {R : List Dt → Prop} (h : EvD K te ss fun d => ∃ l, (d = .tup l ∨ d = .lst l) ∧ EvA K ta ss fun m => R (l ++ m)) : EvA K (StX.tStar K te ta) ss R := fun G σ H e s Q q =>
  h G σ H e s _ fun v d G1 H1 g1 d1 ⟨l, h1, h2⟩ => by
    rcases h1 with rfl | rfl
    · obtain ⟨a, xs, rfl, hs, hd⟩ := d1
      exact ⟨a, xs, rfl, .inl (Ex.tup g1.ink hs), h2 G1 σ H1 g1.ink (s.up g1.kn) _ fun ys m G2 H2 g2 d2 hr => q _ _ G2 H2 (g1.trans g2) ((hd.up g2.kn).app d2) hr⟩
    · obtain ⟨a, xs, rfl, hs, hd⟩ := d1
      exact ⟨a, xs, rfl, .inr (.inl (.inl (g1.ink _ _ hs))), h2 G1 σ H1 g1.ink (s.up g1.kn) _ fun ys m G2 H2 g2 d2 hr => q _ _ G2 H2 (g1.trans g2) ((hd.up g2.kn).app d2) hr⟩
end
section
variable {X : Cx} {CX : CXT} {k : Nat} {f C : Addr} {sp : Sp} {E : XK} {x : Str} {e fe : Expr} {te tf : TE} {p sp_ pos : Pos}
theorem pe_makeR0 (M : Mk X.K C f) (F : FnR X.prog X.w X.K X.mg X.base CX k f sp) (hr : Room (k + 1) X.A) (hg : Gl X x) (hm : X.mg x = some (.ref C)) (hx : Passes CX X E) (hdb : (x == ("__debug__" : Str)) = false := by decide) :
    PE X (.Call (.Name x p) [] [] pos) (StX.tMakeR C sp E tNil) := by
  refine ⟨fun pins s σ H Q I h => ?_⟩
  refine wpAny_Call_Name_kw (ld_glob I hg hm ?_ hdb)
  exact PySem.W.callWith_K0 I.kIn M.kp (StX.run_makeR (us := []) (vs := []) M F hr hx I .nil h)
theorem pe_makeS {K : PySem.W.Frag} (hK : X.K = K) (M : Mk X.K C f) (F : FnR X.prog X.w X.K X.mg X.base CX k f sp) (hr : Room (k + 1) X.A) (hx : Passes CX X E) (hf : PE X fe tf) (he : PE X e te)
    (hst : starEach [.Starred e sp_] X.env = [(true, eval e X.env)] := by rfl)
    (ht : eval (.Call fe [.Starred e sp_] [] pos) X.env = (do callWith pos (← eval fe X.env) [] (backTo pos (starEach [.Starred e sp_] X.env)) (backToKw pos (keywordEach [] X.env))) := by rfl) :
    PE X (.Call fe [.Starred e sp_] [] pos) (tMakeS K C sp E tf te) := by
  subst hK
  refine ⟨fun pins s σ H Q I h => ?_⟩
  refine Call_ (thn (hf.run pins s σ H _ I h) fun u s1 ⟨y, H1, I1, ry, ey, q⟩ => ?_) ht
  subst ey
  obtain rfl : u = Value.ref C := ry
  refine PySem.W.callWith_S (h₀ := X.base) I.ok.mod.kin M.kp (thn (he.run pins s1 σ H1 _ I1 q) fun v s2 ⟨z, H2, I2, rz, a, xs, ez, hxs, q2⟩ => ?_) hst
  subst ez
  obtain rfl : v = Value.ref a := rz
  exact StX.star_any I2 hxs fun us s3 I3 rv => ⟨I3.kIn, StX.run_makeR M F hr hx I3 rv q2⟩
end
/-! ### __init__ -/
def startI (n : Nat) (x C : Addr) (ds : List Dt) : List Sd := (startS n (.obj x :: ds)).set 0 (.own x (.ins C []))
theorem sl_startI {K : PySem.W.Frag} {H0 G H : Hp} {x C dx : Addr} {ds : List Dt} {vs : List V} {N : List Str} (e : Ex G H) (h0 : H0 x = none) (hG : G x = none) (hH : H x = some (.ins C dx [])) (d : Dats K G ds vs) : Sl K H0 G H (L2.start N (.ref x :: vs)) (startI N.length x C ds) := by
  have d' : Dats K G (.obj x :: ds) (.ref x :: vs) := ⟨_, _, rfl, rfl, d⟩
  have s := sl_start (N := N) e d'
  have s' : Sl K H0 G H (L2.start N (.ref x :: vs)) (startS N.length (.obj x :: ds)) := ⟨s.sv, fun i a l z => absurd z (noown i a l), fun i j l m a z => absurd z (noown i a l)⟩
  have := s'.takeOwn (H' := H) (j := 0) (d := .ins C []) (fun i l z => noown i x l z) h0 hG hH (fun b _ => rfl) ⟨dx, [], rfl, rfl⟩
  exact this
section
variable {P : Program} {w : World} {K : PySem.W.Frag} {mg : Str → Option Value} {base : Heap} {C : Addr} {Pre : List Dt → (List (Str × Dt) → Prop) → Prop}
def initN (x C : Addr) (R : List (Str × Dt) → Prop) : SP := fun s1 => ∃ fl, s1[0]? = some (.own x (.ins C fl)) ∧ R fl
theorem init_end {N : List Str} {t : TS} {vs : List V} {H : Hp} {Q : VK} {E : XK} (h : spI K C Pre vs H Q E) (hb : ∀ x ds R, Pre ds R → StD K x0 t (startI N.length x C ds) (initN x C R) (fun _ => False) (fun _ => False) (fun _ => False)) :
    t { nx := fun _ H' => Q .non H', rt := Q } (L2.start N vs) H := by
  obtain ⟨G0, H0, G, x, rest, ds, R, rfl, h0, g, hG, ⟨dx, hH⟩, d, p, q⟩ := h
  refine hb x ds R p G0 H0 _ _ G H g (sl_startI g.ink h0 hG hH d) (fun σ' s' G' H' g' sl hn => ?_) (fun σ' s' G' H' g' _ hn => hn.elim) (fun σ' s' G' H' g' _ hn => hn.elim) (fun v d G' H' g' dd hr => hr.elim) (fun _ _ _ _ _ _ _ _ _ _ hx => hx.elim)
  obtain ⟨fl, h1, h2⟩ := hn
  obtain ⟨k1, k2, k3, o, k4, k5⟩ := sl.own 0 x _ h1
  exact q fl _ H' (g'.tell k3 k2 k4) (OwnD.dat k3 k5) h2
theorem gi_of {x qual : Str} {st : Stmt} {f : Addr} {fd : FuncData} {N ps : List Str} {k : Nat} (F : Fun K x qual st f fd) (S : FnScope N ps (defScope st)) (b : Binds K fd ps []) (len : ∀ ds R, Pre ds R → ds.length + 1 = ps.length)
    (hbody : ∀ (cdv : Value) (A : Around) (outer : List Env) (s : Shared) (H : Hp) (E : XK), Room k (A.deeper (envOfC qual (defScope st) s.heap.objs.size f cdv)) →
      ∃ t, PSs (cxOf CX0 P w K mg base N qual (defScope st) f cdv A outer s H E).nox (defBody st) t ∧ ∀ x ds R, Pre ds R → StD K x0 t (startI N.length x C ds) (initN x C R) (fun _ => False) (fun _ => False) (fun _ => False)) :
    FnR P w K mg base CX0 (k + 1) f (spI K C Pre) := by
  refine ((F.ok S (fun vs H Q E h => ?_) (fun cdv A outer s H vs Q E hr h => ?_) : FnOk P w K mg base CX0 (k + 1) f fd ps (spI K C Pre)).raw b .nil).imp fun vs H Q E h => by rw [List.append_nil]; exact h
  · obtain ⟨G0, H0, G, x, rest, ds, R, rfl, h0, g, hG, _, d, p, q⟩ := h
    have := len ds R p
    simp [d.len]; omega
  · obtain ⟨t, ht, hs⟩ := hbody cdv A outer s H E hr
    exact ⟨t, ht, init_end h hs⟩
/-- __init__(self, *parts) -/
theorem gi_star {x qual : Str} {st : Stmt} {f : Addr} {fd : FuncData} {N : List Str} {p1 pv : Str} {k : Nat} (F : Fun K x qual st f fd) (S : FnScope N [p1, pv] (defScope st))
    (hb : ∀ (us rest : List Value), us.length = [p1].length → bindArgs fd ⟨us ++ rest, []⟩ = (newTuple rest >>= fun t => pure ([p1].zip us ++ [(pv, t)])))
    (hbody : ∀ (cdv : Value) (A : Around) (outer : List Env) (s : Shared) (H : Hp) (E : XK), Room k (A.deeper (envOfC qual (defScope st) s.heap.objs.size f cdv)) →
      ∃ t, PSs (cxOf CX0 P w K mg base N qual (defScope st) f cdv A outer s H E).nox (defBody st) t ∧ ∀ x ds R, ds.length ≤ 1000000 ∧ Pre ds R → StD K x0 t (startI N.length x C [.tup ds]) (initN x C R) (fun _ => False) (fun _ => False) (fun _ => False)) :
    FnR P w K mg base CX0 (k + 1) f (spI K C fun ds R => ds.length ≤ 1000000 ∧ Pre ds R) := by
  obtain ⟨oc, od, kV, doc, pm, an, cdv, ct, osl, rfl, lk, hcd⟩ := F.ex
  refine (StX.fn_star (ps := [p1]) (pv := pv) (sp := spI K C fun ds R => ∃ ds', ds = [.tup ds'] ∧ ds'.length ≤ 1000000 ∧ Pre ds' R) lk hcd S StX.cxUp_none hb (fun A outer s H vs Q E hr h => ?_)).imp fun vs H Q E h => ?_
  · obtain ⟨t, ht, hs⟩ := hbody cdv A outer s H E hr
    exact ⟨t, ht.nox, init_end h fun x ds R ⟨ds', e, h1⟩ => by subst e; exact hs x ds' R h1⟩
  · obtain ⟨G0, H0, G, x, rest, ds, R, rfl, h0, g, hG, ⟨dx, hH⟩, d, ⟨hl, p⟩, q⟩ := h
    refine ⟨[.ref x], rest, rfl, rfl, by rw [d.len]; exact sz_of hl, fun p' hp => ?_⟩
    have hp0 : G p' = none := g.ink.free hp
    have hxp : x ≠ p' := fun c => by subst c; rw [hH] at hp; cases hp
    refine ⟨G0, H0, upd G p' (.tup rest), x, [.ref p'], [.tup ds], R, rfl, h0, g.trans (Go.new g.ink hp), by rw [upd_ne hxp]; exact hG, ⟨dx, by rw [upd_ne hxp]; exact hH⟩, ⟨_, _, rfl, dat_newT d hp0, rfl⟩, ⟨ds, rfl, hl, p⟩, q⟩
/-! ### methods, getters, classmethods -/
theorem fok_of {x qual : Str} {st : Stmt} {f : Addr} {fd : FuncData} {N ps : List Str} {k : Nat} {Pre : List Dt → (Dt → Prop) → Prop} (F : Fun K x qual st f fd) (S : FnScope N ps (defScope st)) (len : ∀ ds R, Pre ds R → ds.length = ps.length)
    (hbody : ∀ (cdv : Value) (A : Around) (outer : List Env) (s : Shared) (H : Hp) (E : XK), Room k (A.deeper (envOfC qual (defScope st) s.heap.objs.size f cdv)) →
      ∃ t, PSs (cxOf CX0 P w K mg base N qual (defScope st) f cdv A outer s H E).nox (defBody st) t ∧ ∀ ds R, Pre ds R → StD K x0 t (startS N.length ds) (fun _ => R .non) (fun _ => False) (fun _ => False) R) :
    FnOk P w K mg base CX0 (k + 1) f fd ps (spD K Pre) := by
  refine F.ok S (fun vs H Q E h => ?_) (fun cdv A outer s H vs Q E hr h => ?_)
  · obtain ⟨G, ds, R, e, d, p, _⟩ := h
    rw [d.len]; exact len ds R p
  · obtain ⟨G, ds, R, e, d, p, q⟩ := h
    obtain ⟨t, ht, hs⟩ := hbody cdv A outer s H E hr
    exact ⟨t, ht, hs ds R p G H _ _ G H (Go.refl e) (sl_start e d) (fun σ' s' G' H' g' _ hn => q .non .non G' H' g' rfl hn) (fun σ' s' G' H' g' _ hn => hn.elim) (fun σ' s' G' H' g' _ hn => hn.elim) (fun v d G' H' g' dd hr => q v d G' H' g' dd hr) fun _ _ _ _ _ _ _ _ _ _ hx => hx.elim⟩
theorem fr_of {f : Addr} {fd : FuncData} {ps : List Str} {k : Nat} {sp : Sp} (F : FnOk P w K mg base CX0 k f fd ps sp) (b : Binds K fd ps []) : FnR P w K mg base CX0 k f sp :=
  (F.raw b .nil).imp fun vs H Q E h => by rw [List.append_nil]; exact h
/-- the def of a class, by its name in it -/
def Dm (K : PySem.W.Frag) (C : Addr) (x qual : Str) (st : Stmt) (ps : List Str) (f : Addr) : Prop := ∃ fd, Fun K x qual st f fd ∧ Binds K fd ps []
def Gm (P : Program) (w : World) (K : PySem.W.Frag) (mg : Str → Option Value) (base : Heap) (k : Nat) (f : Addr) (Pre : List Dt → (Dt → Prop) → Prop) : Prop := FnR P w K mg base CX0 k f (spD K Pre)
theorem gm_of {x qual : Str} {st : Stmt} {f : Addr} {N ps : List Str} {k : Nat} {Pre : List Dt → (Dt → Prop) → Prop} (F : Dm K C x qual st ps f) (S : FnScope N ps (defScope st)) (len : ∀ ds R, Pre ds R → ds.length = ps.length)
    (hbody : ∀ (cdv : Value) (A : Around) (outer : List Env) (s : Shared) (H : Hp) (E : XK), Room k (A.deeper (envOfC qual (defScope st) s.heap.objs.size f cdv)) →
      ∃ t, PSs (cxOf CX0 P w K mg base N qual (defScope st) f cdv A outer s H E).nox (defBody st) t ∧ ∀ ds R, Pre ds R → StD K x0 t (startS N.length ds) (fun _ => R .non) (fun _ => False) (fun _ => False) R) :
    Gm P w K mg base (k + 1) f Pre := by
  obtain ⟨fd, F, b⟩ := F
  exact fr_of (fok_of F S len hbody) b
end
section
variable {X : Cx} {CX : CXT} {k : Nat} {C f p g : Addr} {m : Str} {sp : Sp} {E : XK} {o e : Expr} {ta : TE} {apos pos : Pos} {pl : Sem Bool}
/-- o.m() by a positional promise -/
theorem pe_methR0 (he : PE X o ta) (c : Cls X.K C) (hm : Meth X.K C m f) (F : FnR X.prog X.w X.K X.mg X.base CX k f sp) (hr : Room k X.A) (hx : Passes CX X E)
    (ht : eval (.Call (.Attribute o m apos) [] [] pos) X.env = (do
      let ov ← eval o X.env
      standAt apos.atName
      let (f, first) ← holding [ov] (getMethod ov m pl)
      callWith pos f first (backTo pos (starEach [] X.env)) (backToKw pos (keywordEach [] X.env))) := by rfl) :
    PE X (.Call (.Attribute o m apos) [] [] pos) (tMethR C m sp E ta tNil) := by
  refine ⟨fun pins s σ H Q I h => ?_⟩
  refine PySem.W.methodCall_KW (pl := pl) (thn (he.run pins s σ H _ I h) fun u s1 ⟨x, H1, I1, rx, a, dx, fs, ex, ea, l, q⟩ => ?_) ht
  subst ex
  obtain rfl : u = Value.ref a := rx
  refine getmeth_ok I1 ea c hm l ?_
  exact PySem.W.callWith_K0 (first := [.ref a]) I1.kIn hm.kp (wpAny_call (run_fnR (us := [.ref a]) (vs := [.ref a]) F hr hx I1 (.cons rfl .nil) q))
/-- e.f, a property, by a positional promise -/
theorem pe_propR (he : PE X o ta) (c : Cls X.K C) (hp : PropOf X.K C m p g) (F : FnR X.prog X.w X.K X.mg X.base CX0 k g sp) (hr : Room (k + 1) X.A)
    (hab : attributeBase o m X.env (eval o X.env) = eval o X.env := by rfl) : PE X (.Attribute o m pos) (tProp C sp [] E0 ta) := by
  refine ⟨fun pins s σ H Q I h => ?_⟩
  refine attr_of hab (thn (he.run pins s σ H _ I h) fun u s1 ⟨x, H1, I1, rx, a, dx, fs, ex, ea, q⟩ => ?_)
  subst ex
  obtain rfl : u = Value.ref a := rx
  obtain ⟨mA, O, _, _, _, _⟩ := ins_get I1.hok ea
  obtain ⟨od, J, _⟩ := O.look
  obtain ⟨rest, hrec⟩ := hp.rec_
  have I2 := I1.tok (s1.toks + 1)
  have hc : (PySem.W.clsIn X.K C).isSome = true := by
    obtain ⟨cd, hc, _⟩ := PySem.W.any_some c.hd
    rw [hc]
    rfl
  refine PySem.W.get_bind I1.kIn J (PySem.W.plainGet_of (c.get m)).1 (PySem.W.findObj_data hc hp.at_ hp.get hp.tak) (PySem.W.plainGet_of (c.get m)).2 (wpAny_call (PySem.W.prop_get (s := { s1 with toks := s1.toks + 1 }) I1.kIn hrec ?_))
  refine codeAny_mono (F X.A.in1 X.stack { s1 with toks := s1.toks + 1 } H1 [.ref a] [.ref a] Q E0 hr.in1 I2.env0.in1 (.cons rfl .nil) q) fun r s' hq => ?_
  cases r with
  | error er => exact False.elim hq
  | ok fl =>
    cases fl with
    | ret u =>
      obtain ⟨v, H', I3, rv, q3⟩ := I2.after hq
      exact wpAny_of_eq (PySem.W.handedOut_of (handed_of rv)) ⟨v, H', I3, rv, q3⟩
    | next => exact False.elim hq
    | brk => exact False.elim hq
    | cont => exact False.elim hq
end
section
variable {K : PySem.W.Frag} {ss : List Sd} {R : Dt → Prop} {C : Addr} {m : Str} {Pre : List Dt → (Dt → Prop) → Prop} {E : XK} {ta : TE} {t : TA}
theorem ed_methR (h : EvD K ta ss fun d => ∃ l, d = .ins C l ∧ l.lookup m = none ∧ EvA K t ss fun ds => Pre (.ins C l :: ds) R) : EvD K (tMethR C m (spD K Pre) E ta t) ss R := fun G σ H e s Q q =>
  h G σ H e s _ fun v d G1 H1 g1 d1 ⟨l, h1, h2, h3⟩ => by
    subst h1
    obtain ⟨a, dx, fs, rfl, ha, hf⟩ := d1
    refine ⟨a, dx, fs, rfl, g1.ink _ _ ha, hf.lookup_none h2, h3 G1 σ H1 g1.ink (s.up g1.kn) _ fun vs ds G2 H2 g2 d2 h4 => ?_⟩
    exact ⟨G2, .ins C l :: ds, R, g2.ink, ⟨_, _, rfl, ⟨a, dx, fs, rfl, g2.kn _ _ ha, hf.up g2.kn⟩, d2⟩, h4, fun v d G' H' g hd hr => q v d G' H' ((g1.trans g2).trans g) hd hr⟩
theorem ed_propR (h : EvD K ta ss fun d => ∃ l, d = .ins C l ∧ Pre [.ins C l] R) : EvD K (tProp C (spD K Pre) [] E ta) ss R := fun G σ H e s Q q =>
  h G σ H e s _ fun v d G1 H1 g1 d1 ⟨l, h1, h3⟩ => by
    subst h1
    obtain ⟨a, dx, fs, rfl, ha, hf⟩ := d1
    exact ⟨a, dx, fs, rfl, g1.ink _ _ ha, G1, [.ins C l], R, g1.ink, ⟨_, _, rfl, ⟨a, dx, fs, rfl, ha, hf⟩, rfl⟩, h3, fun v d G' H' g hd hr => q v d G' H' (g1.trans g) hd hr⟩
theorem ed_cmeth (h : EvD K ta ss fun d => d = .obj C ∧ EvA K t ss fun ds => Pre (.obj C :: ds) R) : EvD K (ClX.tCMeth C (spD K Pre) E ta t) ss R := fun G σ H e s Q q =>
  h G σ H e s _ fun v d G1 H1 g1 d1 ⟨h1, h3⟩ => by
    subst h1
    refine ⟨d1, h3 G1 σ H1 g1.ink (s.up g1.kn) _ fun vs ds G2 H2 g2 d2 h4 => ?_⟩
    exact ⟨G2, .obj C :: ds, R, g2.ink, ⟨_, _, rfl, rfl, d2⟩, h4, fun v d G' H' g hd hr => q v d G' H' ((g1.trans g2).trans g) hd hr⟩
end
end Nv

set_option Elab.async false
set_option linter.all false
set_option maxRecDepth 100000
set_option maxHeartbeats 4000000
namespace Nv
open PySem PySem.Spec PyProof.Rows L2
section
variable {X : Cx}
theorem paStar {K : PySem.W.Frag} (hK : X.K = K) {e : Expr} {es : List Expr} {te : TE} {t : TA} {p : Pos} (he : PE X e te) (hr : PA X es t) (hs : starEach (.Starred e p :: es) X.env = (true, eval e X.env) :: starEach es X.env := by rfl) : PA X (.Starred e p :: es) (StX.tStar K te t) := by
  subst hK; exact StX.pa_star he hr hs
theorem pgUnl {K : PySem.W.Frag} (hK : X.K = K) {es : List Expr} {k : Nat} {t : TGs} {n : Nat} {pos : Pos} (hc : X.calm = true) (h : PGs X es t)
    (hn : (assignEach es X.env).length = n := by rfl) (hst : (assignEach es X.env).findIdx? (·.1) = none := by rfl) : PG X (.Tuple es k pos) (gUnl K n t) := by
  subst hK; exact pg_unl hc h hn hst
theorem pgTup {K : PySem.W.Frag} (hK : X.K = K) {es : List Expr} {k : Nat} {t : TGs} {n : Nat} {pos : Pos} (hc : X.calm = true) (h : PGs X es t)
    (hn : (assignEach es X.env).length = n := by rfl) (hst : (assignEach es X.env).findIdx? (·.1) = none := by rfl) : PG X (.Tuple es k pos) (gTup K n t) := by
  subst hK; exact pg_tup hc h hn hst
theorem peFld {K : PySem.W.Frag} (hK : X.K = K) {e : Expr} {f : Str} {ta : TE} {pos : Pos} (he : PE X e ta) (hb : attributeBase e f X.env (eval e X.env) = eval e X.env := by rfl) : PE X (.Attribute e f pos) (tFld K ta f) := by
  subst hK; exact pe_fld he hb
theorem psFld {K : PySem.W.Frag} (hK : X.K = K) {o value : Expr} {f : Str} {pos pos' : Pos} {ta tv : TE} (ha : PE X o ta) (hv : PE X value tv) (hs : swapsWith value (some (.Attribute o f pos')) pos.line X.env = pure false := by rfl) : PS X (.Assign [.Attribute o f pos'] value pos) (sFld K ta tv f) := by
  subst hK; exact ps_fld ha hv hs
def rToTup (K : PySem.W.Frag) : List V → Hp → VK → Prop := fun xs H Q => ∃ p ys, xs = [.ref p] ∧ ((SqL K H p ys ∧ ∀ l, H l = none → Q (.ref l) (upd H l (.tup ys))) ∨ (SqT K H p ys ∧ Q (.ref p) H))
theorem callTuple {K : PySem.W.Frag} (hK : X.K = K) : CallR X (.type "tuple") (rToTup K) := by subst hK; exact call_tuple_of
def rToLst (K : PySem.W.Frag) : List V → Hp → VK → Prop := fun xs H Q => ∃ p ys, xs = [.ref p] ∧ (SqL K H p ys ∨ SqT K H p ys) ∧ ∀ l, H l = none → Q (.ref l) (upd H l (.lst ys))
theorem callList {K : PySem.W.Frag} (hK : X.K = K) : CallR X (.type "list") (rToLst K) := by subst hK; exact call_list_of
theorem slList {K : PySem.W.Frag} (hK : X.K = K) : SlR X (rSlL K) := by subst hK; exact sl_list
def rSplit : V → List V → Hp → VK → Prop := fun x xs H Q => ∃ a b, x = .str a ∧ xs = [.str b] ∧ (b.length == 0) = false ∧ a.length + 2 ≤ sizeLine ∧ rNewStrs (Txt.split a b) H Q
theorem mtSplit : MtR X "str.split" rSplit := mt_split
end
section
variable {K : PySem.W.Frag} {ss : List Sd} {R : Dt → Prop} {N B C : SP} {ξ : XC} {te : TE} {i j : Nat}
theorem dats_map_str {G : Hp} : ∀ ys : List Str, Dats K G (ys.map .str) (ys.map V.str)
  | [] => rfl
  | y :: ys => ⟨_, _, rfl, rfl, dats_map_str ys⟩
theorem dats_rg {G : Hp} {n : Int} (h : 0 ≤ n) : Dats K G (rangeD 0 n.toNat) (rgV 0 n) := by
  have : ∀ l : List Nat, Dats K G (l.map fun i : Nat => Dt.int (0 + (i : Int))) (l.map fun i => V.int (0 + (i : Nat))) := fun l => by
    induction l with
    | nil => rfl
    | cons a l ih => exact ⟨_, _, rfl, rfl, ih⟩
  unfold rangeD rgV
  rw [show (n - 0).toNat = n.toNat by omega]
  exact this _
theorem ed_lstRg {ta : TE} (h : EvD K ta ss fun d => ∃ n : Int, d = .int n ∧ 0 ≤ n ∧ n ≤ 16777216 ∧ R (.lst (rangeD 0 n.toNat))) : EvD K (tLstRg (tRg1 ta)) ss R := fun G σ H e s Q q =>
  h G σ H e s _ fun v d G1 H1 g1 d1 ⟨n, h1, h2, h3, h4⟩ => by
    subst h1
    cases d1
    exact ⟨n, rfl, .of_le (Int.le_refl _) h3 (by decide) h2, fun p hp => q _ (.lst _) _ _ (g1.trans (Go.new g1.ink hp)) (dat_newL (dats_rg h2) (g1.ink.free hp)) h4⟩
theorem ed_tupRg {ta : TE} (h : EvD K ta ss fun d => ∃ n : Int, d = .int n ∧ 0 ≤ n ∧ n ≤ 16777216 ∧ R (.tup (rangeD 0 n.toNat))) : EvD K (tTupRg (tRg1 ta)) ss R := fun G σ H e s Q q =>
  h G σ H e s _ fun v d G1 H1 g1 d1 ⟨n, h1, h2, h3, h4⟩ => by
    subst h1
    cases d1
    exact ⟨n, rfl, .of_le (Int.le_refl _) h3 (by decide) h2, fun p hp => q _ (.tup _) _ _ (g1.trans (Go.new g1.ink hp)) (dat_newT (dats_rg h2) (g1.ink.free hp)) h4⟩
theorem cd_tup_l {l : List Dt} (h : R (.tup l)) : CD K (rToTup K) [.lst l] R := fun G H vs e dd Q k => by
  obtain ⟨v, r, rfl, ⟨a, xs, rfl, h1, h2⟩, d3⟩ := dd
  cases d3
  exact ⟨a, xs, rfl, .inl ⟨.inl (.inl (e _ _ h1)), fun p hp => k _ (.tup l) _ _ (Go.new e hp) (dat_newT h2 (e.free hp)) h⟩⟩
theorem cd_tup_t {l : List Dt} (h : R (.tup l)) : CD K (rToTup K) [.tup l] R := fun G H vs e dd Q k => by
  obtain ⟨v, r, rfl, ⟨a, xs, rfl, h1, h2⟩, d3⟩ := dd
  cases d3
  exact ⟨a, xs, rfl, .inr ⟨Ex.tup e h1, k _ (.tup l) G H (Go.refl e) ⟨a, xs, rfl, h1, h2⟩ h⟩⟩
theorem cd_lst_l {l : List Dt} (h : R (.lst l)) : CD K (rToLst K) [.lst l] R := fun G H vs e dd Q k => by
  obtain ⟨v, r, rfl, ⟨a, xs, rfl, h1, h2⟩, d3⟩ := dd
  cases d3
  exact ⟨a, xs, rfl, .inl (.inl (.inl (e _ _ h1))), fun p hp => k _ (.lst l) _ _ (Go.new e hp) (dat_newL h2 (e.free hp)) h⟩
theorem cd_lst_t {l : List Dt} (h : R (.lst l)) : CD K (rToLst K) [.tup l] R := fun G H vs e dd Q k => by
  obtain ⟨v, r, rfl, ⟨a, xs, rfl, h1, h2⟩, d3⟩ := dd
  cases d3
  exact ⟨a, xs, rfl, .inr (Ex.tup e h1), fun p hp => k _ (.lst l) _ _ (Go.new e hp) (dat_newL h2 (e.free hp)) h⟩
theorem Dats.cut {G : Hp} {l : List Dt} {xs : List V} (d : Dats K G l xs) (lo hi : Option Int) : Dats K G ((l.drop (HT.sIx l.length 0 lo)).take (HT.sIx l.length l.length hi - HT.sIx l.length 0 lo)) (cutV xs lo hi) := by
  unfold cutV
  rw [d.len]
  exact (d.drop _).take _
theorem sd_sl_l {l : List Dt} {lo hi : Option Int} (h : R (.lst ((l.drop (HT.sIx l.length 0 lo)).take (HT.sIx l.length l.length hi - HT.sIx l.length 0 lo)))) : SD K (rSlL K) (.lst l) lo hi R := fun G H v e d Q k => by
  obtain ⟨a, xs, rfl, h1, h2⟩ := d
  exact ⟨a, xs, rfl, .inl (.inl (e _ _ h1)), fun p hp => k _ (.lst _) _ _ (Go.new e hp) (dat_newL (h2.cut lo hi) (e.free hp)) h⟩
theorem md_split {x y : Str} (hy : (y.length == 0) = false) (hx : x.length ≤ 1000000) (h : R (.lst ((Txt.split x y).map .str))) : MD K "str" rSplit (.str x) [.str y] R := fun G H v vs e d1 d2 Q k => by
  obtain ⟨w, r, rfl, d2, d3⟩ := d2
  cases d1; cases d2; cases d3
  exact ⟨x, y, rfl, rfl, hy, Nat.le_trans (Nat.add_le_add_right hx 2) (by decide), fun p hp => k _ (.lst _) _ _ (Go.new e hp) (dat_newL (dats_map_str _) (e.free hp)) h⟩
theorem md_join_t {x : Str} {ys : List Str} (hz : (ys.map (·.length)).sum + ys.length * x.length ≤ 16777216) (h : R (.str (Txt.join x ys))) : MD K "str" (rJoin K) (.str x) [.tup (ys.map .str)] R := fun G H v vs e d1 d2 Q k => by
  obtain ⟨v, r, rfl, ⟨a, xs, rfl, h1, h2⟩, d3⟩ := d2
  cases d1; cases d3
  rw [dats_str h2] at h1
  exact ⟨x, a, ys, rfl, rfl, .inr (Ex.tup e h1), hz, k _ (.str _) G H (Go.refl e) rfl h⟩
/-! in, of ints -/
theorem dats_ints {G : Hp} : ∀ {l : List Int} {xs : List V}, Dats K G (l.map .int) xs → xs = l.map V.int
  | [], _, h => h
  | _ :: _, _, ⟨x, r, h1, h2, h3⟩ => by cases h2; rw [h1, dats_ints h3]; rfl
theorem inV_ints (i : Int) : ∀ l : List Int, inV (.int i) (l.map V.int) = decide (i ∈ l)
  | [] => rfl
  | j :: l => by
    have ih := inV_ints i l
    unfold inV at ih ⊢
    rw [List.map_cons, List.any_cons, ih]
    have e1 : eqV (.int j) (.int i) = decide (i = j) := by
      show (j == i) = _
      rw [Bool.eq_iff_iff, beq_iff_eq, decide_eq_true_iff]; exact ⟨Eq.symm, Eq.symm⟩
    rw [e1, Bool.eq_iff_iff]
    simp
theorem flat_ints : ∀ l : List Int, (l.map V.int).all flatV = true
  | [] => rfl
  | _ :: l => flat_ints l
theorem rd_in_l {i : Int} {l : List Int} (h : R (.bl (decide (i ∈ l)))) : RD K (rInA K) (.int i) (.lst (l.map .int)) R := fun G H v w e d1 d2 Q k => by
  cases d1
  obtain ⟨a, xs, rfl, h1, h2⟩ := d2
  rw [dats_ints h2] at h1
  refine .inr ⟨a, _, rfl, .inl (.inl (.inl (e _ _ h1))), rfl, flat_ints l, ?_⟩
  rw [inV_ints]
  exact k _ (.bl _) G H (Go.refl e) rfl h
theorem rd_in_t {i : Int} {l : List Int} (h : R (.bl (decide (i ∈ l)))) : RD K (rInA K) (.int i) (.tup (l.map .int)) R := fun G H v w e d1 d2 Q k => by
  cases d1
  obtain ⟨a, xs, rfl, h1, h2⟩ := d2
  rw [dats_ints h2] at h1
  refine .inr ⟨a, _, rfl, .inr (Ex.tup e h1), rfl, flat_ints l, ?_⟩
  rw [inV_ints]
  exact k _ (.bl _) G H (Go.refl e) rfl h
theorem rd_ni_t {i : Int} {l : List Int} (h : R (.bl (!decide (i ∈ l)))) : RD K (rNiA K) (.int i) (.tup (l.map .int)) R := fun G H v w e d1 d2 Q k => by
  cases d1
  obtain ⟨a, xs, rfl, h1, h2⟩ := d2
  rw [dats_ints h2] at h1
  refine .inr ⟨a, _, rfl, .inr (Ex.tup e h1), rfl, flat_ints l, ?_⟩
  rw [inV_ints]
  exact k _ (.bl _) G H (Go.refl e) rfl h
theorem rd_eq_b {a b : Bool} (h : R (.bl (decide (a = b)))) : RD K (rEqA K) (.bl a) (.bl b) R := fun G H v w e d1 d2 Q k => by
  cases d1; cases d2
  refine .inl ⟨rfl, ?_⟩
  have : decide (V.bl a = V.bl b) = decide (a = b) := by rw [Bool.eq_iff_iff]; simp
  rw [this]; exact k _ (.bl _) G H (Go.refl e) rfl h
theorem rd_ne_b {a b : Bool} (h : R (.bl (!decide (a = b)))) : RD K (rNeA K) (.bl a) (.bl b) R := fun G H v w e d1 d2 Q k => by
  cases d1; cases d2
  refine .inl ⟨rfl, ?_⟩
  have : decide (V.bl a = V.bl b) = decide (a = b) := by rw [Bool.eq_iff_iff]; simp
  rw [this]; exact k _ (.bl _) G H (Go.refl e) rfl h
/-- a, b = a list of two -/
theorem sd_unl {a b : Nat} (h : EvD K te ss fun d => ∃ x y, d = .lst [x, y] ∧ N ((ss.set a (.dt x)).set b (.dt y))) : StD K ξ (tAsg te (gUnl K 2 (gCons (gName a) (gCons (gName b) gNil)))) ss N B C R := fun G0 H0 D σ G H g s n b c r w =>
  h G σ H g.ink s.sv _ fun v d G1 H1 g1 d1 ⟨x, y, h1, h2⟩ => by
    subst h1
    obtain ⟨p, xs, rfl, hp, x1, r1, rfl, e1, x2, r2, rfl, e2, e3⟩ := d1
    cases e3
    exact ⟨p, _, rfl, .inl (.inl (g1.ink _ _ hp)), rfl, x1, _, rfl, x2, _, rfl, rfl, n _ _ G1 H1 (g.trans g1) (((s.go g1).set e1).set e2) h2⟩
theorem sd_never (h : False) : StD K ξ tNever ss N B C R := h.elim
/-- [e for x in .. for y in ..] -/
theorem ed_lc2 {wi wi1 : TI} {g g1 : TG} {t t1 : TT} {vs vs1 : List Nat}
    (h : EvI K wi ss fun l => ∃ sx : Dt → List Sd, (∀ d ∈ l, GD K g vs ss d (sx d)) ∧ ∃ I : Nat → List Dt → Prop, I 0 [] ∧ (∀ i x acc, l[i]? = some x → I i acc → EvT K t (sx x) fun b => if b = true then
      EvI K wi1 (sx x) fun l1 => ∃ sy : Dt → List Sd, (∀ d ∈ l1, GD K g1 vs1 (sx x) d (sy d)) ∧ ∃ I1 : Nat → List Dt → Prop, I1 0 acc ∧ (∀ j y acc, l1[j]? = some y → I1 j acc → acc.length < 1000000 ∧ EvT K t1 (sy y) fun b => if b = true then EvD K te (sy y) fun z => I1 (j + 1) (acc ++ [z]) else I1 (j + 1) acc) ∧ ∀ acc, I1 l1.length acc → I (i + 1) acc
      else I (i + 1) acc) ∧ ∀ acc, I l.length acc → R (.lst acc)) :
    EvD K (tLc2 wi g t wi1 g1 t1 te vs vs1) ss R := fun G σ H e s Q q =>
  h G σ H e s _ fun J l G1 H1 g1' w ⟨sx, hg, I, h0, hs, hd⟩ => by
    have s1 := s.up g1'.kn
    intro D nD
    have nG : G1 D = none := g1'.ink.free nD
    refine ⟨fun i m H' => m = l.length - i ∧ i ≤ l.length ∧ ∃ (G' : Hp) (acc : List Dt) (xs : List V), Go G1 H1 G' H' ∧ G' D = none ∧ H' D = some (.lst xs) ∧ Dats K G' acc xs ∧ I i acc, ⟨l.length, by simp, Nat.zero_le _, G1, [], [], Go.put g1'.ink nD, nG, upd_same, rfl, h0⟩, ?_⟩
    rintro i m H2 ⟨rfl, hi, G2, acc, xs, g2, n2, e2, d2, i2⟩
    by_cases hlt : i < l.length
    · refine .inr ⟨w.goes i H2 hlt (g2.kn.trans g2.ink), fun H' => ∃ (G' : Hp) (acc : List Dt) (xs : List V), Go G1 H1 G' H' ∧ G' D = none ∧ H' D = some (.lst xs) ∧ Dats K G' acc xs ∧ I (i + 1) acc, fun H' p' => ⟨l.length - (i + 1), by omega, rfl, hlt, p'⟩, fun x H3 y => ?_⟩
      obtain ⟨d, G3, hd3, g3, dx⟩ := w.yields i H2 x H3 hlt (g2.kn.trans g2.ink) y G2 g2.kn g2.ink
      have e3 : H3 D = some (.lst xs) := g3.up D _ e2
      have n3 : G3 D = none := g3.nw D n2 (by rw [e2]; exact fun z => nomatch z)
      refine hg d (List.mem_of_getElem? hd3) G3 H3 σ x g3.ink ((s1.up g2.kn).up g3.kn) dx _ fun σ4 s4 w4 => ⟨w4, ?_⟩
      refine hs i d acc hd3 i2 G3 σ4 H3 g3.ink s4 _ fun b G5 H5 g5 h5 => ?_
      have e5 : H5 D = some (.lst xs) := g5.up D _ e3
      have n5 : G5 D = none := g5.nw D n3 (by rw [e3]; exact fun z => nomatch z)
      have g15 := (g2.trans g3).trans g5
      have d5 := (d2.up g3.kn).up g5.kn
      cases b with
      | false => exact ⟨G5, acc, xs, g15, n5, e5, d5, h5⟩
      | true =>
        refine h5 G5 σ4 H5 g5.ink (s4.up g5.kn) _ fun J1 l1 G6 H6 g6 w1 ⟨sy, hg1, I1, k0, ks, kd⟩ => ?_
        have e6 : H6 D = some (.lst xs) := g6.up D _ e5
        have n6 : G6 D = none := g6.nw D n5 (by rw [e5]; exact fun z => nomatch z)
        have s6 := (s4.up g5.kn).up g6.kn
        refine ⟨fun j k H' => k = l1.length - j ∧ j ≤ l1.length ∧ ∃ (G' : Hp) (acc : List Dt) (xs : List V), Go G1 H1 G' H' ∧ Ex G6 G' ∧ G' D = none ∧ H' D = some (.lst xs) ∧ Dats K G' acc xs ∧ I1 j acc, ⟨l1.length, by simp, Nat.zero_le _, G6, acc, xs, g15.trans g6, Same.refl _, n6, e6, d5.up g6.kn, k0⟩, ?_⟩
        rintro j k H7 ⟨rfl, hj, G7, acc7, xs7, g7, x7, n7, e7, d7, i7⟩
        by_cases hlt1 : j < l1.length
        · refine .inr ⟨w1.goes j H7 hlt1 (x7.trans g7.ink), fun H' => ∃ (G' : Hp) (acc : List Dt) (xs : List V), Go G1 H1 G' H' ∧ Ex G6 G' ∧ G' D = none ∧ H' D = some (.lst xs) ∧ Dats K G' acc xs ∧ I1 (j + 1) acc, fun H' p' => ⟨l1.length - (j + 1), by omega, rfl, hlt1, p'⟩, fun x H8 y => ?_⟩
          obtain ⟨d', G8, hd8, g8, dx8⟩ := w1.yields j H7 x H8 hlt1 (x7.trans g7.ink) y G7 x7 g7.ink
          have e8 : H8 D = some (.lst xs7) := g8.up D _ e7
          have n8 : G8 D = none := g8.nw D n7 (by rw [e7]; exact fun z => nomatch z)
          refine hg1 d' (List.mem_of_getElem? hd8) G8 H8 σ4 x g8.ink ((s6.up x7).up g8.kn) dx8 _ fun σ9 s9 w9 => ⟨w9, ?_⟩
          obtain ⟨hl, ks⟩ := ks j d' acc7 hd8 i7
          refine ks G8 σ9 H8 g8.ink s9 _ fun b G10 H10 g10 h10 => ?_
          have e10 : H10 D = some (.lst xs7) := g10.up D _ e8
          have n10 : G10 D = none := g10.nw D n8 (by rw [e8]; exact fun z => nomatch z)
          have d10 := (d7.up g8.kn).up g10.kn
          cases b with
          | false => exact ⟨G10, acc7, xs7, (g7.trans g8).trans g10, (x7.trans g8.kn).trans g10.kn, n10, e10, d10, h10⟩
          | true =>
            refine h10 G10 σ9 H10 g10.ink (s9.up g10.kn) _ fun z dz G11 H11 g11 d11 h11 => ?_
            have e11 : H11 D = some (.lst xs7) := g11.up D _ e10
            have n11 : G11 D = none := g11.nw D n10 (by rw [e10]; exact fun z => nomatch z)
            have gg := ((g7.trans g8).trans g10).trans g11
            refine ⟨xs7, e11, by rw [d7.len]; exact sz_lt hl, G11, acc7 ++ [dz], xs7 ++ [z], gg.turn n11 nD, ((x7.trans g8.kn).trans g10.kn).trans g11.kn, n11, upd_same, Dats.snoc (d10.up g11.kn) d11, h11⟩
        · have e : j = l1.length := by omega
          subst e
          exact .inl ⟨w1.stops H7 (x7.trans g7.ink), G7, acc7, xs7, g7, n7, e7, d7, kd acc7 i7⟩
    · have e : i = l.length := by omega
      subst e
      refine .inl ⟨w.stops H2 (g2.kn.trans g2.ink), q (.ref D) (.lst acc) (upd G2 D (.lst xs)) H2 (g1'.trans (g2.tell n2 nD e2)) (dat_newL d2 n2) (hd acc i2)⟩
end
end Nv

set_option Elab.async false
set_option linter.all false
set_option maxRecDepth 100000
set_option maxHeartbeats 4000000
namespace Nv
open PySem PySem.Spec PyProof.Rows L2
/-! ### the law's call, where no repr is under way -/
section
variable {P : Program} {w : World} {K : PySem.W.Frag} {mg mb : Str → Option Value} {s : Shared} {a : Addr} {vs : List Value} {ns : List Int}
/-- what is tracked at the law's call: the script alone, or nothing -/
structure TopH (P : Program) (w : World) (K : PySem.W.Frag) (s : Shared) (a : Addr) (ns : List Int) (H : Hp) : Prop where
  sq : SqL K H a (ns.map V.int)
  ok : HOk P w H s.heap
  only : ∀ b u, H b = some u → b = a ∧ K.lookup a = none ∧ ∃ o xs, u = .frz o (.lst xs)
theorem top_H (KX : K.In s.heap) (ha : s.heap.get? a = some { cls := .type "list", data := .seq vs.toArray }) (hi : IntsAre vs ns) (hl : ns.length ≤ sizeLine) : ∃ H, TopH P w K s a ns H := by
  have rv := vals_ints hi
  cases hk : K.lookup a with
  | some o =>
    have e := KX a o hk
    rw [ha] at e
    cases e
    exact ⟨fun _ => none, .inr ⟨_, vs.toArray, _, hk, rfl, rfl, rfl, by rw [List.size_toArray, hi.length]; exact hl, by simpa using rv⟩, (fun b u z => nomatch (show (none : Option HO) = some u from z)), (fun b u z => nomatch (show (none : Option HO) = some u from z))⟩
  | none =>
    have at_ : ∀ {b : Addr} {u : HO}, (upd (fun _ => none) a (.frz { cls := .type "list", data := .seq vs.toArray } (.lst (ns.map V.int))) : Hp) b = some u → b = a ∧ u = .frz { cls := .type "list", data := .seq vs.toArray } (.lst (ns.map V.int)) := fun {b u} z => by
      by_cases c : b = a
      · subst c; rw [upd_same] at z; exact ⟨rfl, (Option.some.inj z).symm⟩
      · rw [upd_ne c] at z; cases z
    refine ⟨upd (fun _ => none) a (.frz { cls := .type "list", data := .seq vs.toArray } (.lst (ns.map V.int))), .inl (.inr ⟨_, upd_same⟩), fun b u z => ?_, fun b u z => ?_⟩
    · obtain ⟨rfl, rfl⟩ := at_ z
      exact ⟨ha, by rw [List.length_map]; exact hl, vs, _, rv, ha⟩
    · obtain ⟨rfl, rfl⟩ := at_ z
      exact ⟨rfl, hk, _, _, rfl⟩
theorem top_env {H : Hp} (KX : K.In s.heap) (hns : s.heap.Ns mainGlobals mg) (hb : s.heap.Ns builtinsNs mb) (hbb : ∀ x : Str, x ≠ "__name__" → mb x = bootBuiltins x) (hlim : s.heap.NoLimit) (hg : s.gens = #[])
    (ha : s.heap.get? a = some { cls := .type "list", data := .seq vs.toArray }) (T : TopH P w K s a ns H) : K.In (hidT s.heap H) ∧ (hidT s.heap H).Ns mainGlobals mg ∧ Env0 P w K mg (hidT s.heap H) callerA [] s H := by
  have free : ∀ {b : Addr} {o : Obj}, s.heap.get? b = some o → (∀ z, o ≠ { cls := .type "list", data := .seq vs.toArray } ∨ K.lookup a = some z) → (hidT s.heap H).get? b = some o := fun {b o} e q => hidT_get e (by
    cases c : H b with
    | none => rfl
    | some u =>
      obtain ⟨rfl, hk, _⟩ := T.only b u c
      rw [ha] at e
      rcases q o with q | q
      · exact absurd (Option.some.inj e).symm q
      · rw [hk] at q; cases q)
  have names : ∀ {b : Addr} {m : Str → Option Value}, s.heap.Ns b m → (hidT s.heap H).Ns b m := fun {b m} ⟨o, es, ep, e, d, r⟩ => ⟨o, es, ep, free e (fun z => .inl fun c => by subst c; cases d), d, r⟩
  have kin : K.In (hidT s.heap H) := fun b o e => hidT_get (KX b o e) (by
    cases c : H b with
    | none => rfl
    | some u => obtain ⟨rfl, hk, _⟩ := T.only b u c; rw [hk] at e; cases e)
  exact ⟨kin, names hns, rfl, ⟨kin, names hns, ⟨mb, names hb, hbb⟩, let ⟨mc, h1, h2⟩ := hlim; ⟨mc, names h1, h2⟩⟩, fun b o e => of_hidT e, Nat.le_of_eq (hidT_size _ _), trivial, (fun b hb => nomatch (show b ∈ ([] : List Addr) from hb)), T.ok, .of_eq hg⟩
theorem top_call {k : Nat} {fa : Addr} {fd : FuncData} {x : Str} {sp : Sp} (KX : K.In s.heap) (hns : s.heap.Ns mainGlobals mg) (hb : s.heap.Ns builtinsNs mb) (hbb : ∀ x : Str, x ≠ "__name__" → mb x = bootBuiltins x) (hlim : s.heap.NoLimit) (hg : s.gens = #[])
    (ha : s.heap.get? a = some { cls := .type "list", data := .seq vs.toArray }) (hi : IntsAre vs ns) (hl : ns.length ≤ sizeLine) (hr : Room k callerA)
    (F : ∀ base : Heap, FnG P w K mg base k fa fd [x] sp) (hbind : ∀ (s : Shared) (u : Value), BindsTo s fd ⟨[u], []⟩ [(x, u)])
    (hsp : ∀ H : Hp, SqL K H a (ns.map V.int) → sp [.ref a] H (fun v _ => v = .bl true) fun _ _ _ => False) :
    codeAny (model P w) callerA (.call (.ref fa) ⟨[.ref a], []⟩) (fun r s' => r = .ok (.ret (.bool true)) ∧ OldK s.heap s'.heap ∧ s'.os = s.os ∧ AllBare s'.gens) s := by
  obtain ⟨H, T⟩ := top_H (P := P) (w := w) KX ha hi hl
  obtain ⟨kin, hn', e0⟩ := top_env KX hns hb hbb hlim hg ha T
  refine codeAny_mono ((F _).run callerA [] s H ⟨[.ref a], []⟩ [.ref a] [.ref a] _ _ rfl hr e0 (hbind s (.ref a)) (.cons rfl .nil) (hsp H T.sq)) fun r s' h => ?_
  match r, h with
  | .error e, h => exact h.elim
  | .ok .next, h => exact False.elim h
  | .ok .brk, h => exact False.elim h
  | .ok .cont, h => exact False.elim h
  | .ok (.ret u), h =>
    obtain ⟨v, H', os, bare, un, hok', r', q⟩ := h
    cases (show v = .bl true from q)
    cases (show u = Value.bool true from r')
    refine ⟨rfl, OldK.of_keep fun b o e => ?_, os, bare⟩
    cases c : H b with
    | none => exact un.keep b o e c (fun z => nomatch (show b ∈ ([] : List Addr) from z)) (by simp)
    | some u =>
      obtain ⟨rfl, _, ob, xs, rfl⟩ := T.only b u c
      have e1 := (T.ok b _ c).1
      have e2 := (hok' b _ (un.frzs b ob _ c)).1
      rw [e] at e1
      cases e1
      exact e2
end
theorem walk_ofG {l : PySem.W.OpenLaw} {n k : Nat} {q : Program} {loose : List Str} {XP : (Str → Option Value) → Heap → Prop} {YP : World → Heap → Prop} {d : DefRec} {K : Params → PySem.W.Frag} {sp : World → Sp} {x : Str}
    (hn : l.most = some n) (hn2 : n ≤ sizeLine) (hdf : d.params.defaults = []) (hr : Room k callerA)
    (hY : ∀ (w : World) (h : Heap), YP w h → (K w.params).In h)
    (F : ∀ (w : World) (mg : Str → Option Value) (fa : Addr) (h : Heap), (K w.params).In h → h.Ns mainGlobals mg → mg d.name = some (.ref fa) →
      ∃ fd : FuncData, (∀ (s : Shared) (u : Value), BindsTo s fd ⟨[u], []⟩ [(x, u)]) ∧ ∀ base : Heap, FnG l.prog w (K w.params) mg base k fa fd [x] (sp w))
    (hsp : ∀ (w : World) (H : Hp) (a : Addr) (ns : List Int), ns.length ≤ n → SqL (K w.params) H a (ns.map V.int) → sp w [.ref a] H (fun v _ => v = .bl true) fun _ _ _ => False) :
    PySem.W.WalkO q loose XP YP l.row.toRowW d [] (fun f vs => PySem.call f vs) := by
  refine Att.attach_call hn hdf fun w s₀ s₁ mg mb fa o pm cd doc a vs ns G Y ho hd hcd hmg hobj hints hlen hg => ?_
  obtain ⟨fd, hb, hF⟩ := F w mg fa _ (hY w _ Y) G.T.g hmg
  exact top_call (hY w _ Y) G.T.g G.T.b G.T.builtins G.T.nolimit hg hobj hints (Nat.le_trans hlen hn2) hr hF hb fun H hS => hsp w H a ns hlen hS
end Nv

set_option Elab.async false
set_option linter.all false
set_option maxRecDepth 100000
set_option maxHeartbeats 4000000
namespace Nv
open PySem PySem.Spec PyProof.Rows L2
/-! ### len(x) by an own __len__ -/
theorem len_K {prog : Program} {w : World} {A : Around} {E : Value → Shared → Prop} {s : Shared} {K : PySem.W.Frag} {x C f : Addr} {ox : Obj} {od : Option Obj} {Q : Value → Shared → Prop} (X : K.In s.heap) (I : PySem.W.InstAt s.heap x ox C od)
    (hs : PySem.W.findIn K (.ref C) "__len__" = some (some (.ref f))) (hf : PySem.W.isFn K (.ref f) = true)
    (hcall : wpAny (model prog w) A.in1 (call (.ref f) [.ref x]) (fun r s' => ∃ n u, r = .int n u ∧ 0 ≤ n ∧ n < 2 ^ 63 ∧ Q (.int n s'.toks) { s' with toks := s'.toks + 1 }) E s) :
    wpAny (model prog w) A (call (.builtin "len") [.ref x]) Q E s := by
  refine Calls.call_function_entry kind_len plain_len entry_len (args_len1 _) ?_
  unfold Builtin.«len»
  refine wpAny_bind (m := oneArg "len" _) (wpAny_pure ?_)
  refine wpAny_bind (m := callSpecial? (.ref x) (Str.ofString "__len__")) (PySem.W.special_fn X I hs (beq_iff_eq.mp hf) (wpAny_mono hcall (fun r s' hr => ?_) fun _ _ y => y))
  obtain ⟨n, u, rfl, h0, h1, hq⟩ := hr
  refine wpAny_bind (wpAny_holding (wpAny_pure ?_))
  refine wpAny_bind (wpAny_letGo ?_)
  show wpAny _ _ (if n < 0 then _ else _) _ _ _
  rw [if_neg (by omega)]
  show wpAny _ _ (if n ≥ 2 ^ 63 then _ else _) _ _ _
  rw [if_neg (by omega)]
  exact wpAny_bind (wpAny_mkInt (wpAny_pure ⟨_, rfl, hq⟩))
def rLenO (K : PySem.W.Frag) (C : Addr) (sp : Sp) : List V → Hp → VK → Prop := fun xs H Q => ∃ a dx fs, xs = [.ref a] ∧ H a = some (.ins C dx fs) ∧ sp xs H (fun z H' => ∃ n : Int, z = .int n ∧ 0 ≤ n ∧ n < 2 ^ 62 ∧ Q z H') E0
theorem callLenO {X : Cx} {C g : Addr} {n : Nat} {sp : Sp} {K : PySem.W.Frag} (hK : X.K = K) (hs : PySem.W.findIn K (.ref C) "__len__" = some (some (.ref g))) (hf : PySem.W.isFn K (.ref g) = true) (F : FnR X.prog X.w X.K X.mg X.base CX0 n g sp) (hr : Room (n + 1) X.A) : CallR X (.builtin "len") (rLenO K C sp) := by
  subst hK
  intro pins s σ H xs us Q I r h
  obtain ⟨a, dx, fs, rfl, ha, q⟩ := h
  obtain ⟨u, rfl, ru⟩ := r.one
  cases (show u = Value.ref a from ru)
  obtain ⟨mA, O, _⟩ := ins_get I.hok ha
  obtain ⟨od, J, _⟩ := O.look
  have hr2 : Room n X.A.in1 := Room.in1 hr
  refine len_K I.kIn J hs hf (wpAny_mono (wpAny_call (SlX.run_at (us := [.ref a]) (ws := [.ref a]) F hr2 I.env0.in1 pass0 I (.cons rfl .nil) q)) (fun w s' z => ?_) fun _ _ x => x)
  obtain ⟨z', H', I', rz, m, rfl, h0, h1, qz⟩ := z
  obtain ⟨t, e⟩ := (show ∃ t, w = Value.int m t from rz)
  cases e
  exact ⟨m, t, rfl, h0, by omega, .int m, H', I'.tok _, ⟨_, rfl⟩, qz⟩
theorem cd_lenO {K : PySem.W.Frag} {R : Dt → Prop} {C : Addr} {l : List (Str × Dt)} {Pre : List Dt → (Dt → Prop) → Prop} (h : Pre [.ins C l] fun d => ∃ n : Int, d = .int n ∧ 0 ≤ n ∧ n < 2 ^ 62 ∧ R d) : CD K (rLenO K C (spD K Pre)) [.ins C l] R := fun G H vs e dd Q k => by
  obtain ⟨v, r, rfl, ⟨a, dx, fs, rfl, ha, hf⟩, d3⟩ := dd
  cases d3
  refine ⟨a, dx, fs, rfl, e _ _ ha, G, [.ins C l], _, e, ⟨_, _, rfl, ⟨a, dx, fs, rfl, ha, hf⟩, rfl⟩, h, fun z d G' H' g hd ⟨y, h1, h2, h3, h4⟩ => ?_⟩
  subst h1
  cases hd
  exact ⟨y, rfl, h2, h3, k _ (.int y) G' H' g rfl h4⟩
/-! ### x(e), x an instance with an own __call__ -/
section
variable {K : PySem.W.Frag} {ss : List Sd} {R : Dt → Prop} {C : Addr} {Pre : List Dt → (Dt → Prop) → Prop} {E : XK} {tf : TE} {t : TA} {X : Cx}
theorem ed_callO (h : EvD K tf ss fun d => ∃ l, d = .ins C l ∧ EvA K t ss fun ds => Pre (.ins C l :: ds) R) : EvD K (StX.tCallO X C (spD K Pre) E tf t) ss R := fun G σ H e s Q q =>
  h G σ H e s _ fun v d G1 H1 g1 d1 ⟨l, h1, h3⟩ => by
    subst h1
    obtain ⟨a, dx, fs, rfl, ha, hf⟩ := d1
    refine ⟨a, rfl, h3 G1 σ H1 g1.ink (s.up g1.kn) _ fun vs ds G2 H2 g2 d2 h4 => ?_⟩
    exact ⟨.inr ⟨dx, fs, g2.up _ _ (g1.ink _ _ ha)⟩, G2, .ins C l :: ds, R, g2.ink, ⟨_, _, rfl, ⟨a, dx, fs, rfl, g2.kn _ _ ha, hf.up g2.kn⟩, d2⟩, h4, fun v d G' H' g hd hr => q v d G' H' ((g1.trans g2).trans g) hd hr⟩
end
end Nv

set_option Elab.async false
set_option linter.all false
set_option maxRecDepth 100000
set_option maxHeartbeats 4000000
namespace Nv
open PySem PySem.Spec PyProof.Rows L2
/-! ### repr of data with dicts in it -/
mutual
inductive Rq (h : Heap) : Value → PyData → Prop
  | non : Rq h .none .none
  | bl (b : Bool) : Rq h (.bool b) (.bool b)
  | num (i : Int) (t : Tok) : Rq h (.int i t) (.int i)
  | txt (x : Str) (t : Tok) : Rq h (.str x t) (.str x)
  | lst {a : Addr} {o : Obj} {vs : Array Value} {n : Nat} {xs : List PyData} (h1 : h.get? a = some o) (h2 : o.cls = .type "list") (h3 : o.data = .seq vs n) (h4 : Rqs h vs.toList xs) : Rq h (.ref a) (.list xs)
  | tup {a : Addr} {o : Obj} {vs : Array Value} {n : Nat} {xs : List PyData} (h1 : h.get? a = some o) (h2 : o.cls = .type "tuple") (h3 : o.data = .seq vs n) (h4 : Rqs h vs.toList xs) : Rq h (.ref a) (.tuple xs)
  | dic {a : Addr} {o : Obj} {es : Array DictEntry} {n : Nat} {kvs : List (PyData × PyData)} (h1 : h.get? a = some o) (h2 : o.cls = .type "dict") (h3 : o.data = .dict es n) (hy : (a == sysModules) = false)
      (h4 : Rqs h (es.toList.map (·.key)) (kvs.map (·.1))) (h5 : Rqs h (es.toList.map (·.val)) (kvs.map (·.2))) : Rq h (.ref a) (.dict kvs)
inductive Rqs (h : Heap) : List Value → List PyData → Prop
  | nil : Rqs h [] []
  | cons {v : Value} {vs : List Value} {d : PyData} {ds : List PyData} (h1 : Rq h v d) (h2 : Rqs h vs ds) : Rqs h (v :: vs) (d :: ds)
end
section
variable {h : Heap} {P : Program} {w : World}
mutual
theorem Rq.rds : ∀ {v : Value} {d : PyData}, Rq h v d → ∃ as, Reads h v d as
  | _, _, .non => ⟨_, .none⟩
  | _, _, .bl b => ⟨_, .bool b⟩
  | _, _, .num i t => ⟨_, .int i t⟩
  | _, _, .txt x t => ⟨_, .str x t⟩
  | _, _, .lst h1 h2 h3 h4 => let ⟨_, q⟩ := h4.rds; ⟨_, .list h1 h2 h3 q⟩
  | _, _, .tup h1 h2 h3 h4 => let ⟨_, q⟩ := h4.rds; ⟨_, .tuple h1 h2 h3 q⟩
  | _, _, .dic h1 h2 h3 _ h4 h5 => let ⟨_, q⟩ := h4.rds; let ⟨_, r⟩ := h5.rds; ⟨_, .dict h1 h2 h3 q r⟩
theorem Rqs.rds : ∀ {v : List Value} {d : List PyData}, Rqs h v d → ∃ as, ReadsAll h v d as
  | _, _, .nil => ⟨_, .nil⟩
  | _, _, .cons h1 h2 => let ⟨_, q⟩ := h1.rds; let ⟨_, r⟩ := h2.rds; ⟨_, .cons q r⟩
end
theorem Rqs.nilL {d : List PyData} (q : Rqs h [] d) : d = [] := by cases q; rfl
/-- what is shown of an entry's two sides -/
theorem ents {bs cs : List Addr} {kvs : List (PyData × PyData)} {es : List DictEntry} (k1 : ReprAllK P w bs h (PyData.depthAll (kvs.map (·.1))) (es.map (·.key)) (PyData.shownAll (kvs.map (·.1))))
    (k2 : ReprAllK P w cs h (PyData.depthAll (kvs.map (·.2))) (es.map (·.val)) (PyData.shownAll (kvs.map (·.2)))) : ReprEntriesK P w (bs ++ cs) h (PyData.depthKv kvs) es (PyData.shownKv kvs) := by
  rw [PyData.shownKv_eq]
  exact .of_two _ _ _ (k1.more_le (fun _ z => List.mem_append.mpr (.inl z)) (PyData.depthAll_keys_le kvs)) (k2.more_le (fun _ z => List.mem_append.mpr (.inr z)) (PyData.depthAll_vals_le kvs))
mutual
theorem Rq.sh : ∀ {v : Value} {d : PyData}, Rq h v d → d.showable = true → d.shown.length ≤ sizeLine → ∃ bs, ReadAtMost h d.depth bs ∧ ReprK P w bs h d.depth v d.shown
  | _, _, .non, _, _ => ⟨[], (fun _ z => nomatch z), .of_is ReprIs.none _ _ _⟩
  | _, _, .bl b, _, _ => ⟨[], (fun _ z => nomatch z), .of_is (ReprIs.bool b) _ _ _⟩
  | _, _, .num i t, hs, _ => ⟨[], (fun _ z => nomatch z), .of_is (ReprIs.int t (of_decide_eq_true hs)) _ _ _⟩
  | _, _, .txt x t, _, hz => ⟨[], (fun _ z => nomatch z), .of_is (ReprIs.str x t hz) _ _ _⟩
  | _, _, .lst (a := a) (vs := vs) (xs := xs) h1 h2 h3 h4, hs, hz => by
    have hz : (listText (PyData.shownAll xs)).length ≤ sizeLine := hz
    obtain ⟨bs, hb, hk⟩ := h4.sh hs fun t ht => Nat.le_trans (listText_mem_le ht) hz
    obtain ⟨_, r4⟩ := h4.rds
    have r : Reads h (.ref a) (.list xs) _ := .list h1 h2 h3 r4
    have hn := not_mem_of_deeper r (Nat.lt_succ_self (PyData.depthAll xs)) hb
    refine ⟨a :: bs, .cons r (Nat.le_succ (PyData.depthAll xs)) hb, ?_⟩
    obtain ⟨l⟩ := vs
    match l, h3, h4, hk with
    | [], h3, h4, _ =>
      cases h4.nilL
      exact ReprK.listEmpty h1 h2 h3
    | x :: l, h3, h4, hk => exact ReprK.list h1 h2 h3 hn (by simpa using hk.length_eq) fun i y e => hk.item i y (by simpa using e)
  | _, _, .tup (a := a) (xs := xs) h1 h2 h3 h4, hs, hz => by
    have hz : (tupleText (PyData.shownAll xs)).length ≤ sizeLine := hz
    obtain ⟨bs, hb, hk⟩ := h4.sh hs fun t ht => Nat.le_trans (tupleText_mem_le ht) hz
    obtain ⟨_, r4⟩ := h4.rds
    have r : Reads h (.ref a) (.tuple xs) _ := .tuple h1 h2 h3 r4
    exact ⟨a :: bs, .cons r (Nat.le_succ (PyData.depthAll xs)) hb, ReprK.tuple h1 h2 h3 (not_mem_of_deeper r (Nat.lt_succ_self (PyData.depthAll xs)) hb) hk⟩
  | _, _, .dic (a := a) (es := es) (kvs := kvs) h1 h2 h3 hy h4 h5, hs, hz => by
    have hz : (dictText (PyData.shownKv kvs)).length ≤ sizeLine := hz
    obtain ⟨s1, s2⟩ := PyData.showableKv_split kvs hs
    obtain ⟨b1, hb1, k1⟩ := h4.sh s1 fun t ht => let ⟨p, hp, hl⟩ := PyData.shownKv_key_le kvs t ht; Nat.le_trans hl (Nat.le_trans (dictText_mem_le hp) hz)
    obtain ⟨b2, hb2, k2⟩ := h5.sh s2 fun t ht => let ⟨p, hp, hl⟩ := PyData.shownKv_val_le kvs t ht; Nat.le_trans hl (Nat.le_trans (dictText_mem_le hp) hz)
    obtain ⟨_, r4⟩ := h4.rds
    obtain ⟨_, r5⟩ := h5.rds
    have r : Reads h (.ref a) (.dict kvs) _ := .dict h1 h2 h3 r4 r5
    have hb := (hb1.mono (PyData.depthAll_keys_le kvs)).append (hb2.mono (PyData.depthAll_vals_le kvs))
    exact ⟨a :: (b1 ++ b2), .cons r (Nat.le_succ (PyData.depthKv kvs)) hb, ReprK.dict h1 h2 h3 hy (not_mem_of_deeper r (Nat.lt_succ_self (PyData.depthKv kvs)) hb) (ents k1 k2)⟩
theorem Rqs.sh : ∀ {v : List Value} {d : List PyData}, Rqs h v d → PyData.showableAll d = true → (∀ t ∈ PyData.shownAll d, t.length ≤ sizeLine) → ∃ bs, ReadAtMost h (PyData.depthAll d) bs ∧ ReprAllK P w bs h (PyData.depthAll d) v (PyData.shownAll d)
  | _, _, .nil, _, _ => ⟨[], (fun _ z => nomatch z), .nil⟩
  | _, _, .cons (d := d) (ds := ds) h1 h2, hs, hz => by
    obtain ⟨s1, s2⟩ := Bool.and_eq_true_iff.mp (show (d.showable && PyData.showableAll ds) = true from hs)
    obtain ⟨b1, hb1, k1⟩ := h1.sh s1 (hz _ (List.mem_cons_self ..))
    obtain ⟨b2, hb2, k2⟩ := h2.sh s2 fun t ht => hz t (List.mem_cons_of_mem _ ht)
    exact ⟨b1 ++ b2, (hb1.mono (Nat.le_max_left _ _)).append (hb2.mono (Nat.le_max_right _ _)), .cons ((k1.more fun _ z => List.mem_append.mpr (.inl z)).level_le (Nat.le_max_left _ _)) (k2.more_le (fun _ z => List.mem_append.mpr (.inr z)) (Nat.le_max_right _ _))⟩
end
theorem Rq.repr {A : Around} {E : Value → Shared → Prop} {s : Shared} {Q : Value → Shared → Prop} {v : Value} {d : PyData} (r : Rq s.heap v d) (hs : d.showable = true) (hg : A.guards = some []) (hu : A.units + (d.depth + 1) < cLine) (hz : d.shown.length ≤ sizeLine)
    (hQ : ∀ h' u tk, (∀ b o, s.heap.get? b = some o → h'.get? b = some o) → Q (.str d.shown u) { s with heap := h', toks := tk }) : wpAny (model P w) A (call (.builtin "repr") [v]) Q E s := by
  have same : ∀ b o, s.heap.get? b = some o → s.heap.get? b = some o := fun _ _ e => e
  cases r with
  | non => exact PySem.P.repr_of_none (hQ _ _ _ same)
  | bl b => exact PySem.P.repr_of_bool (hQ _ _ _ same)
  | num i t => exact PySem.P.repr_of_int (of_decide_eq_true hs) (hQ _ _ _ same)
  | txt x t => exact PySem.P.repr_of_str (hQ _ _ _ same) hz
  | @lst a o vs n xs h1 h2 h3 h4 =>
    have hz : (listText (PyData.shownAll xs)).length ≤ sizeLine := hz
    have hu : A.units + (PyData.depthAll xs + 1 + 1) < cLine := hu
    obtain ⟨bs, hb, hk⟩ := h4.sh (P := P) (w := w) hs fun t ht => Nat.le_trans (listText_mem_le ht) hz
    obtain ⟨_, r4⟩ := h4.rds
    have hn := not_mem_of_deeper (Reads.list h1 h2 h3 r4) (Nat.lt_succ_self (PyData.depthAll xs)) hb
    refine call_repr_slot (by omega) ⟨o, h1, h2⟩ F.slot_list_repr.toG ?_
    obtain ⟨l⟩ := vs
    match l, h3, h4, hk with
    | [], h3, h4, _ =>
      cases h4.nilL
      exact call_list_repr_empty ⟨o, h1, h2⟩ h1 h3 ⟨_, _, rfl, hQ s.heap _ _ same⟩
    | x :: l, h3, h4, hk => exact call_list_reprK h1 h2 h3 hn (by simpa using hk.length_eq) (fun i y e => hk.item i y (by simpa using e)) hg (fun b _ => Clear.nil b) (by show A.units + 1 + _ < cLine; omega) same (fun h' u tk k => ⟨_, _, rfl, hQ h' u tk k⟩) hz
  | @tup a o vs n xs h1 h2 h3 h4 =>
    have hz : (tupleText (PyData.shownAll xs)).length ≤ sizeLine := hz
    have hu : A.units + (PyData.depthAll xs + 1 + 1) < cLine := hu
    obtain ⟨bs, hb, hk⟩ := h4.sh (P := P) (w := w) hs fun t ht => Nat.le_trans (tupleText_mem_le ht) hz
    obtain ⟨_, r4⟩ := h4.rds
    have hn := not_mem_of_deeper (Reads.tuple h1 h2 h3 r4) (Nat.lt_succ_self (PyData.depthAll xs)) hb
    exact call_repr_slot (by omega) ⟨o, h1, h2⟩ F.slot_tuple_repr (call_tuple_reprK h1 h2 h3 hn hk hg (fun b _ => Clear.nil b) (by show A.units + 1 + _ < cLine; omega) same (fun h' u tk k => ⟨_, _, rfl, hQ h' u tk k⟩) hz)
  | @dic a o es n kvs h1 h2 h3 hy h4 h5 =>
    have hz : (dictText (PyData.shownKv kvs)).length ≤ sizeLine := hz
    have hu : A.units + (PyData.depthKv kvs + 1 + 1) < cLine := hu
    obtain ⟨s1, s2⟩ := PyData.showableKv_split kvs hs
    obtain ⟨b1, hb1, k1⟩ := h4.sh (P := P) (w := w) s1 fun t ht => let ⟨p, hp, hl⟩ := PyData.shownKv_key_le kvs t ht; Nat.le_trans hl (Nat.le_trans (dictText_mem_le hp) hz)
    obtain ⟨b2, hb2, k2⟩ := h5.sh (P := P) (w := w) s2 fun t ht => let ⟨p, hp, hl⟩ := PyData.shownKv_val_le kvs t ht; Nat.le_trans hl (Nat.le_trans (dictText_mem_le hp) hz)
    obtain ⟨_, r4⟩ := h4.rds
    obtain ⟨_, r5⟩ := h5.rds
    have hb := (hb1.mono (PyData.depthAll_keys_le kvs)).append (hb2.mono (PyData.depthAll_vals_le kvs))
    have hn := not_mem_of_deeper (Reads.dict h1 h2 h3 r4 r5) (Nat.lt_succ_self (PyData.depthKv kvs)) hb
    exact call_repr_slot (by omega) ⟨o, h1, h2⟩ F.slot_dict_repr (call_dict_reprK h1 h2 h3 hy hn (ents k1 k2) hg (fun b _ => Clear.nil b) (by show A.units + 1 + _ < cLine; omega) same (fun h' u tk k => ⟨_, _, rfl, hQ h' u tk k⟩) hz)
end
/-! data of any kind, dicts too -/
def keyP : Key → PyData
  | .inl i => .int i
  | .inr x => .str x
mutual
def toPq : Dt → Option PyData
  | .non => some .none
  | .bl b => some (.bool b)
  | .int i => some (.int i)
  | .str x => some (.str x)
  | .lst l => (toPqs l).map .list
  | .sq l => (toPqs l).map .list
  | .tup l => (toPqs l).map .tuple
  | .dic l => (toPqk l).map .dict
  | _ => none
def toPqs : List Dt → Option (List PyData)
  | [] => some []
  | d :: l => match toPq d, toPqs l with
    | some p, some q => some (p :: q)
    | _, _ => none
def toPqk : List (Key × Dt) → Option (List (PyData × PyData))
  | [] => some []
  | (k, d) :: l => match toPq d, toPqk l with
    | some p, some q => some ((keyP k, p) :: q)
    | _, _ => none
end
theorem key_rq {h : Heap} {k : Key} {v : Value} (e : keyIs k v = true) : Rq h v (keyP k) := by
  rcases keyIs_shape e with ⟨i, t, rfl, rfl⟩ | ⟨x, t, rfl, rfl⟩
  · exact .num i t
  · exact .txt x t
section
variable {X : Cx} {pins : List (Addr × Obj)} {σ : L2.St} {G H : Hp} {s : Shared}
mutual
theorem rq_of (I : Inv X pins σ H s) (ex : Ex G H) : ∀ {d : Dt} {p : PyData} {v : V} {u : Value}, Dat X.K G d v → toPq d = some p → RelV v u → Rq s.heap u p
  | .non, _, _, _, h, e, r => by cases h; cases e; cases r; exact .non
  | .bl _, _, _, _, h, e, r => by cases h; cases e; cases r; exact .bl _
  | .int _, _, _, _, h, e, r => by cases h; cases e; obtain ⟨t, rfl⟩ := r; exact .num _ _
  | .str _, _, _, _, h, e, r => by cases h; cases e; obtain ⟨t, rfl⟩ := r; exact .txt _ _
  | .lst l, _, _, _, ⟨a, xs, h1, h2, h3⟩, e, r => by
    subst h1
    cases r
    obtain ⟨ps, q, rfl⟩ := Option.map_eq_some_iff.mp (show (toPqs l).map PyData.list = some _ from e)
    obtain ⟨its, rv, ⟨o, n, ho, hc, _, hd⟩, _⟩ := I.list (.inl (.inl (ex _ _ h2)))
    exact .lst ho hc hd (rqs_of I ex h3 q rv)
  | .sq l, _, _, _, ⟨a, xs, h1, h2, h3⟩, e, r => by
    subst h1
    cases r
    obtain ⟨ps, q, rfl⟩ := Option.map_eq_some_iff.mp (show (toPqs l).map PyData.list = some _ from e)
    obtain ⟨its, rv, ⟨o, n, ho, hc, _, hd⟩, _⟩ := I.list (ex.seq h2)
    exact .lst ho hc hd (rqs_of I ex h3 q rv)
  | .tup l, _, _, _, ⟨a, xs, h1, h2, h3⟩, e, r => by
    subst h1
    cases r
    obtain ⟨ps, q, rfl⟩ := Option.map_eq_some_iff.mp (show (toPqs l).map PyData.tuple = some _ from e)
    obtain ⟨its, rv, ⟨o, ho, hc, n, hd⟩, _⟩ := I.tuple (Ex.tup ex h2)
    exact .tup ho hc hd (rqs_of I ex h3 q rv)
  | .dic l, _, _, _, ⟨a, kvs, h1, h2, h3⟩, e, r => by
    subst h1
    cases r
    obtain ⟨ps, q, rfl⟩ := Option.map_eq_some_iff.mp (show (toPqk l).map PyData.dict = some _ from e)
    obtain ⟨_, hy, vs, rel, o, es, ep, ho, hx, hd, _, hp, _⟩ := dk_of I.hok (ex _ _ h2)
    obtain ⟨k1, k2⟩ := rqk_of I ex h3 q rel hp
    exact .dic ho hx.1 hd hy k1 k2
  | .ty _, _, _, _, _, e, _ => by cases e
  | .ins _ _, _, _, _, _, e, _ => by cases e
  | .ext _, _, _, _, _, e, _ => by cases e
  | .obj _, _, _, _, _, e, _ => by cases e
theorem rqs_of (I : Inv X pins σ H s) (ex : Ex G H) : ∀ {l : List Dt} {ps : List PyData} {xs : List V} {us : List Value}, Dats X.K G l xs → toPqs l = some ps → Vals xs us → Rqs s.heap us ps
  | [], _, _, _, h, e, r => by cases h; cases e; cases r; exact .nil
  | d :: l, _, _, _, ⟨x, r, h1, h2, h3⟩, e, rv => by
    subst h1
    cases rv with
    | cons r1 r2 =>
      have e : (match toPq d, toPqs l with | some p, some q => some (p :: q) | _, _ => none) = some _ := e
      cases q1 : toPq d with
      | none => rw [q1] at e; cases e
      | some p =>
        cases q2 : toPqs l with
        | none => rw [q1, q2] at e; cases e
        | some ps => rw [q1, q2] at e; cases e; exact .cons (rq_of I ex h2 q1 r1) (rqs_of I ex h3 q2 r2)
theorem rqk_of (I : Inv X pins σ H s) (ex : Ex G H) : ∀ {l : List (Key × Dt)} {ps : List (PyData × PyData)} {xs : List (Key × V)} {us : List (Key × Value)} {es : List DictEntry}, Datk X.K G l xs → toPqk l = some ps → KV xs us → PySem.Pairs (mixKind X.prog X.w) es us →
    Rqs s.heap (es.map (·.key)) (ps.map (·.1)) ∧ Rqs s.heap (es.map (·.val)) (ps.map (·.2))
  | [], _, _, _, _, h, e, r, hp => by cases h; cases e; cases r; cases hp; exact ⟨.nil, .nil⟩
  | (k, d) :: l, _, _, _, _, ⟨x, r, h1, h2, h3⟩, e, rv, hp => by
    subst h1
    cases rv with
    | cons r1 r2 =>
      cases hp with
      | cons p1 p2 p3 =>
        have e : (match toPq d, toPqk l with | some p, some q => some ((keyP k, p) :: q) | _, _ => none) = some _ := e
        cases q1 : toPq d with
        | none => rw [q1] at e; cases e
        | some p =>
          cases q2 : toPqk l with
          | none => rw [q1, q2] at e; cases e
          | some ps =>
            rw [q1, q2] at e
            cases e
            obtain ⟨k1, k2⟩ := rqk_of I ex h3 q2 r2 p3
            have r1' := r1.1
            have r1'' := r1.2
            rw [← p2] at r1''
            exact ⟨.cons (key_rq (by rw [show k = _ from r1']; exact p1)) k1, .cons (rq_of I ex h2 q1 r1'') k2⟩
end
end
/-! how long what is shown is at most -/
mutual
def szD : PyData → Nat
  | .none => 4
  | .bool _ => 5
  | .int i => i.natAbs.log2 + 3
  | .str x => 10 * x.length + 2
  | .list xs => szAll xs + 2
  | .tuple xs => szAll xs + 3
  | .dict kvs => szKv kvs + 2
def szAll : List PyData → Nat
  | [] => 0
  | x :: xs => szD x + 2 + szAll xs
def szKv : List (PyData × PyData) → Nat
  | [] => 0
  | (k, v) :: r => szD k + szD v + 4 + szKv r
end
mutual
/-- ints and texts that are not too large -/
def fitD : PyData → Bool
  | .none => true
  | .bool _ => true
  | .int i => decide (i.natAbs.log2 < 1920)
  | .str x => x.cps.toList.all fun c => decide (c < 16 ^ 8)
  | .list xs => fitAll xs
  | .tuple xs => fitAll xs
  | .dict kvs => fitKv kvs
def fitAll : List PyData → Bool
  | [] => true
  | x :: xs => fitD x && fitAll xs
def fitKv : List (PyData × PyData) → Bool
  | [] => true
  | (k, v) :: r => fitD k && fitD v && fitKv r
end
theorem piled_sz : ∀ {ts : List Str} {n : Nat}, ts ≠ [] → PySem.piled ts ≤ n → (Str.join ", " ts).length ≤ n := fun {ts n} h hn => by
  have := join_length_add ts h
  omega
theorem lst_len : ∀ (ts : List Str) (k : Nat) (acc : Str), (textFrom k acc ts).length ≤ acc.length + (ts.map fun t => t.length + 2).sum
  | [], k, acc => by show acc.length ≤ _; simp
  | t :: r, k, acc => by
    have ih := lst_len r (k + 1) (acc ++ (if k > 0 then ", " else "" : String) ++ t)
    have e : (acc ++ (if k > 0 then ", " else "" : String) ++ t).length ≤ acc.length + 2 + t.length := by
      rw [strLen_append, strLen_append]
      by_cases c : k > 0
      · rw [if_pos c, show ((", " : String) : Str).length = 2 from rfl] <;> omega
      · rw [if_neg c, show (("" : String) : Str).length = 0 from rfl]; omega
    show (textFrom (k + 1) (acc ++ (if k > 0 then ", " else "" : String) ++ t) r).length ≤ _
    rw [List.map_cons, List.sum_cons]
    omega
theorem join_len : ∀ ts : List Str, (Str.join ", " ts).length ≤ (ts.map fun t => t.length + 2).sum
  | [] => by show 0 ≤ _; exact Nat.zero_le _
  | [x] => by show x.length ≤ _; simp
  | x :: y :: r => by
    have ih := join_len (y :: r)
    show (x ++ ", " ++ Str.join ", " (y :: r)).length ≤ _
    rw [strLen_append, strLen_append, List.map_cons, List.sum_cons, show ((", " : String) : Str).length = 2 from rfl]
    omega
mutual
theorem shown_le : ∀ {d : PyData}, fitD d = true → d.shown.length ≤ szD d
  | .none, _ => by decide
  | .bool b, _ => by cases b <;> decide
  | .int i, _ => by
    have := int_text_length_le (a := i) (k := i.natAbs.log2 + 1) (by omega) (by omega)
    show (Str.ofString (toString i)).length ≤ i.natAbs.log2 + 3
    rw [PySem.ofString_length]; omega
  | .str x, h => PySem.StrLaws.reprText_len x fun c hc => of_decide_eq_true (List.all_eq_true.mp h c hc)
  | .list xs, h => by
    have := shownAll_le (l := xs) h
    have e := lst_len (PyData.shownAll xs) 0 "["
    show (textFrom 0 "[" (PyData.shownAll xs) ++ "]").length ≤ szAll xs + 2
    rw [strLen_append, show (("]" : String) : Str).length = 1 from rfl]
    rw [show (("[" : String) : Str).length = 1 from rfl] at e
    omega
  | .tuple xs, h => by
    have := shownAll_le (l := xs) h
    have e := join_len (PyData.shownAll xs)
    show (("(" : Str) ++ Str.join ", " (PyData.shownAll xs) ++ (if (PyData.shownAll xs).length == 1 then ",)" else ")" : String)).length ≤ szAll xs + 3
    rw [strLen_append, strLen_append, show (("(" : String) : Str).length = 1 from rfl]
    cases (PyData.shownAll xs).length == 1 with
    | true => rw [if_pos rfl, show ((",)" : String) : Str).length = 2 from rfl]; omega
    | false => rw [if_neg Bool.false_ne_true, show ((")" : String) : Str).length = 1 from rfl]; omega
  | .dict kvs, h => by
    have := shownKv_le (l := kvs) h
    have e := join_len (PyData.shownKv kvs)
    show (("{" : Str) ++ Str.join ", " (PyData.shownKv kvs) ++ "}").length ≤ szKv kvs + 2
    rw [strLen_append, strLen_append, show (("{" : String) : Str).length = 1 from rfl, show (("}" : String) : Str).length = 1 from rfl]
    omega
theorem shownAll_le : ∀ {l : List PyData}, fitAll l = true → ((PyData.shownAll l).map fun t => t.length + 2).sum ≤ szAll l
  | [], _ => Nat.le_refl _
  | x :: l, h => by
    obtain ⟨h1, h2⟩ := Bool.and_eq_true_iff.mp (show (fitD x && fitAll l) = true from h)
    have a := shown_le h1
    have b := shownAll_le h2
    show (((x.shown :: PyData.shownAll l)).map fun t => t.length + 2).sum ≤ szD x + 2 + szAll l
    rw [List.map_cons, List.sum_cons]
    omega
theorem shownKv_le : ∀ {l : List (PyData × PyData)}, fitKv l = true → ((PyData.shownKv l).map fun t => t.length + 2).sum ≤ szKv l
  | [], _ => Nat.le_refl _
  | (k, v) :: l, h => by
    obtain ⟨h12, h3⟩ := Bool.and_eq_true_iff.mp (show ((fitD k && fitD v) && fitKv l) = true from h)
    obtain ⟨h1, h2⟩ := Bool.and_eq_true_iff.mp h12
    have a := shown_le h1
    have b := shown_le h2
    have c := shownKv_le h3
    show ((((k.shown ++ ": " ++ v.shown) :: PyData.shownKv l)).map fun t => t.length + 2).sum ≤ szD k + szD v + 4 + szKv l
    rw [List.map_cons, List.sum_cons, strLen_append, strLen_append, show ((": " : String) : Str).length = 2 from rfl]
    omega
end
mutual
theorem showable_of : ∀ {d : PyData}, fitD d = true → d.showable = true
  | .none, _ => rfl
  | .bool _, _ => rfl
  | .int _, h => h
  | .str _, _ => rfl
  | .list _, h => showables_of h
  | .tuple _, h => showables_of h
  | .dict _, h => showablek_of h
theorem showables_of : ∀ {l : List PyData}, fitAll l = true → PyData.showableAll l = true
  | [], _ => rfl
  | x :: l, h => by
    obtain ⟨h1, h2⟩ := Bool.and_eq_true_iff.mp (show (fitD x && fitAll l) = true from h)
    show (x.showable && PyData.showableAll l) = true
    rw [showable_of h1, showables_of h2]; rfl
theorem showablek_of : ∀ {l : List (PyData × PyData)}, fitKv l = true → PyData.showableKv l = true
  | [], _ => rfl
  | (k, v) :: l, h => by
    obtain ⟨h12, h3⟩ := Bool.and_eq_true_iff.mp (show ((fitD k && fitD v) && fitKv l) = true from h)
    obtain ⟨h1, h2⟩ := Bool.and_eq_true_iff.mp h12
    show ((k.showable && v.showable) && PyData.showableKv l) = true
    rw [showable_of h1, showable_of h2, showablek_of h3]; rfl
end
/-! the rule -/
def rReprQ (K : PySem.W.Frag) : List V → Hp → VK → Prop := fun xs H Q => ∃ (x : V) (G : Hp) (d : Dt) (p : PyData), xs = [x] ∧ Ex G H ∧ Dat K G d x ∧ toPq d = some p ∧ fitD p = true ∧ p.depth ≤ 60 ∧ szD p ≤ 1000000 ∧ Q (.str p.shown) H
theorem callReprQ {X : Cx} {K : PySem.W.Frag} (hK : X.K = K) (hA : X.A.guards = some []) (hu : X.A.units + 64 < cLine) : CallR X (.builtin "repr") (rReprQ K) := by
  subst hK
  intro pins s σ H xs us Q I r h
  obtain ⟨x, G, d, p, rfl, ex, hd, hp, hf, hdp, hz, q⟩ := h
  obtain ⟨u, rfl, rx⟩ := vals1 r
  exact (rq_of I ex hd hp rx).repr (showable_of hf) hA (by omega) (Nat.le_trans (shown_le hf) (sz_of hz)) fun h' t tk k => ⟨.str p.shown, H, I.kept k, ⟨_, rfl⟩, q⟩
theorem cd_reprQ {K : PySem.W.Frag} {R : Dt → Prop} {d : Dt} {p : PyData} (hp : toPq d = some p) (hf : fitD p = true) (hdp : p.depth ≤ 60) (hz : szD p ≤ 1000000) (h : R (.str p.shown)) : CD K (rReprQ K) [d] R := fun G H vs e dd Q k => by
  obtain ⟨v, r, rfl, d1, d2⟩ := dd
  cases d2
  exact ⟨v, G, d, p, rfl, e, d1, hp, hf, hdp, hz, k _ (.str _) G H (Go.refl e) rfl h⟩
end Nv

set_option Elab.async false
set_option linter.all false
set_option maxRecDepth 100000
set_option maxHeartbeats 4000000
namespace Nv
open PySem PySem.Spec PyProof.Rows L2
/-! ### what is known of a class of the text -/
def kinds7 : List String := ["NoneType", "bool", "int", "str", "tuple", "list", "dict"]
theorem kit_no {K : PySem.W.Frag} {C : Addr} {t : Value} (h0 : t ≠ .ref C) (h1 : PySem.W.isClsIn K C = true) (h2 : PySem.W.typeIn K (.ref C) = some (.type "type")) (h3 : PySem.W.subIn K t (.ref C) = some false) : PySem.W.kitOne K t (.ref C) = some false := by
  unfold PySem.W.kitOne
  rw [if_neg (by simpa using h0)]
  show (if ((PySem.W.clsIn K C).isSome && PySem.W.typeIn K (.ref C) == some (.type "type")) = true then PySem.W.subIn K t (.ref C) else none) = some false
  rw [if_pos (by rw [h2, show (PySem.W.clsIn K C).isSome = true from h1]; simp)]
  exact h3
theorem kit_self {K : PySem.W.Frag} {C : Addr} : PySem.W.kitOne K (.ref C) (.ref C) = some true := by
  unfold PySem.W.kitOne
  rw [if_pos (by simp)]
theorem nfC {K : PySem.W.Frag} {C : Addr} : PySem.W.notFirst K C (.ref C) = true := by unfold PySem.W.notFirst; simp
structure Klass (K : PySem.W.Frag) (mg : Str → Option Value) (nm : Str) (C : Addr) : Prop where
  ci : ClsI K C
  m : mg nm = some (.ref C)
  kp : PySem.W.keepIn K (.ref C) = true
  cr : ClX.CRead K C (.type "type")
  q_ne : PySem.W.findIn K (.ref C) "__ne__" = some (some (.builtin "object.__ne__"))
  q_ob : PySem.W.subIn K (.ref C) (.type "object") = some true
  isC : PySem.W.isClsIn K C = true
  tyC : PySem.W.typeIn K (.ref C) = some (.type "type")
  nf : ∀ T ∈ kinds7, PySem.W.notFirst K C (.type T) = true
  kC : ∀ T ∈ kinds7, PySem.W.kitOne K (.type T) (.ref C) = some false
theorem Klass.cls {K : PySem.W.Frag} {mg : Str → Option Value} {nm : Str} {C : Addr} (k : Klass K mg nm C) : Cls K C := k.ci.cls
theorem klass_mk {K : PySem.W.Frag} {mg : Str → Option Value} {nm : Str} {C : Addr} (m : mg nm = some (.ref C)) (pg : PySem.W.plainGet K C Str.empty = true) (hd : PySem.W.hasDictIn K C = true) (po : PySem.W.plainOver K C = true)
    (sa : PySem.W.findIn K (.ref C) "__setattr__" = some (some (.builtin "object.__setattr__"))) (kc : PySem.W.keepIn K (.ref C) = true) (ca : PySem.W.findIn K (.ref C) "__class__" = some (some (.builtin "object.__class__")))
    (cn : PySem.W.specialIn K (.builtin "object.__class__") "__get__" = some (some (.builtin "getset_descriptor.__get__"))) (ct : PySem.W.takesIn K (.builtin "object.__class__") = some true) (cm : PySem.W.mroIn K C (.type "object") = some true)
    (crd : PySem.W.readsIn K C (.type "type") = true) (cga : PySem.W.specialIn K (.ref C) "__getattribute__" = some (some (.builtin "type.__getattribute__"))) (qne : PySem.W.findIn K (.ref C) "__ne__" = some (some (.builtin "object.__ne__")))
    (qob : PySem.W.subIn K (.ref C) (.type "object") = some true) (nf0 : PySem.W.notFirst K C (.type "NoneType") = true) (nf1 : PySem.W.notFirst K C (.type "bool") = true) (nf2 : PySem.W.notFirst K C (.type "int") = true) (nf3 : PySem.W.notFirst K C (.type "str") = true)
    (nf4 : PySem.W.notFirst K C (.type "tuple") = true) (nf5 : PySem.W.notFirst K C (.type "list") = true) (nf6 : PySem.W.notFirst K C (.type "dict") = true) (ki0 : PySem.W.subIn K (.type "NoneType") (.ref C) = some false) (ki1 : PySem.W.subIn K (.type "bool") (.ref C) = some false)
    (ki2 : PySem.W.subIn K (.type "int") (.ref C) = some false) (ki3 : PySem.W.subIn K (.type "str") (.ref C) = some false) (ki4 : PySem.W.subIn K (.type "tuple") (.ref C) = some false) (ki5 : PySem.W.subIn K (.type "list") (.ref C) = some false) (ki6 : PySem.W.subIn K (.type "dict") (.ref C) = some false)
    (isC : PySem.W.isClsIn K C = true) (tyC : PySem.W.typeIn K (.ref C) = some (.type "type")) : Klass K mg nm C :=
  { ci := ⟨⟨pg, hd, po, sa⟩, ⟨ca, cn, ct, cm⟩⟩, m := m, kp := kc, cr := ⟨crd, cga⟩, q_ne := qne, q_ob := qob, isC := isC, tyC := tyC,
    nf := by simp only [kinds7, List.forall_mem_cons]; exact ⟨nf0, nf1, nf2, nf3, nf4, nf5, nf6, fun x hx => nomatch hx⟩,
    kC := by simp only [kinds7, List.forall_mem_cons]; exact ⟨kit_no (by simp) isC tyC ki0, kit_no (by simp) isC tyC ki1, kit_no (by simp) isC tyC ki2, kit_no (by simp) isC tyC ki3, kit_no (by simp) isC tyC ki4, kit_no (by simp) isC tyC ki5, kit_no (by simp) isC tyC ki6, fun x hx => nomatch hx⟩ }
theorem pe_cl {X : Cx} {x : Str} {C : Addr} {pos : Pos} (hg : Gl X x) (h : X.mg x = some (.ref C)) (hd : (x == ("__debug__" : Str)) = false := by decide) : PE X (.Name x pos) (tC (.ref C)) := pe_g hg ⟨_, h, rfl⟩ hd
/-- a def with *args -/
def BindsStar (fd : FuncData) (ps : List Str) (pv : Str) : Prop := ∀ (us rest : List Value), us.length = ps.length → bindArgs fd ⟨us ++ rest, []⟩ = (newTuple rest >>= fun t => pure (ps.zip us ++ [(pv, t)]))
def DmS (K : PySem.W.Frag) (C : Addr) (x qual : Str) (st : Stmt) (ps : List Str) (pv : Str) (f : Addr) : Prop := ∃ fd, Fun K x qual st f fd ∧ BindsStar fd ps pv
/-! ### defs with defaults, all of them given -/
def Dfd (K : PySem.W.Frag) (mg : Str → Option Value) (x : Str) (st : Stmt) (ps : List Str) : Prop :=
  ∃ dvs f fd, FunD K x x (defArgs st) (defBody st) (defScope st) dvs [] f fd ∧ Binds K fd ps [] ∧ mg x = some (.ref f)
section
variable {P : Program} {w : World} {K : PySem.W.Frag} {mg : Str → Option Value} {base : Heap}
theorem gfd_of {x : Str} {st : Stmt} {N ps : List Str} {k : Nat} {Pre : List Dt → (Dt → Prop) → Prop} (F : Dfd K mg x st ps) (S : FnScope N ps (defScope st)) (len : ∀ ds R, Pre ds R → ds.length = ps.length)
    (hbody : ∀ (f : Addr) (cdv : Value) (A : Around) (outer : List Env) (s : Shared) (H : Hp) (E : XK), Room k (A.deeper (envOfC x (defScope st) s.heap.objs.size f cdv)) →
      ∃ t, PSs (cxOf CX0 P w K mg base N x (defScope st) f cdv A outer s H E).nox (defBody st) t ∧ ∀ ds R, Pre ds R → StD K x0 t (startS N.length ds) (fun _ => R .non) (fun _ => False) (fun _ => False) R) :
    Gf P w K mg base x (k + 1) ps Pre := by
  obtain ⟨dvs, f, fd, F, b, m⟩ := F
  refine ⟨f, fd, F.ok S (fun vs H Q E h => ?_) (fun cdv A outer s H vs Q E hr h => ?_), b, m, F.kp, ?_⟩
  · obtain ⟨G, ds, R, e, d, p, _⟩ := h
    rw [d.len]; exact len ds R p
  · obtain ⟨G, ds, R, e, d, p, q⟩ := h
    obtain ⟨t, ht, hs⟩ := hbody f cdv A outer s H E hr
    exact ⟨t, ht.nox, hs ds R p G H _ _ G H (Go.refl e) (sl_start e d) (fun σ' s' G' H' g' _ hn => q .non .non G' H' g' rfl hn) (fun σ' s' G' H' g' _ hn => hn.elim) (fun σ' s' G' H' g' _ hn => hn.elim) (fun v d G' H' g' dd hr => q v d G' H' g' dd hr) fun _ _ _ _ _ _ _ _ _ _ hx => hx.elim⟩
  · obtain ⟨oc, od, dV, kV, doc, pm, an, cdv, ct, osl, _, lk, _⟩ := F.ex
    exact ⟨oc, od, osl, lk⟩
end
end Nv

set_option Elab.async false
set_option linter.all false
set_option maxRecDepth 100000
set_option maxHeartbeats 4000000
/-! CutM: what a cutter keeps, in plain lists. -/
namespace Nv
open PySem PySem.Spec PyProof.Rows L2
open SX (S)
inductive Part where
  | all | pat (f b : List Bool)
def sg (b : Bool) : Nat := if b then 43 else 45
def Part.txt : Part → List Nat
  | .all => [97, 108, 108]
  | .pat f b => f.map sg ++ [46, 46] ++ b.map sg
def Part.ok : Part → Prop
  | .all => True
  | .pat f b => f.length ≤ 2 ∧ b.length ≤ 3
def Part.isAll : Part → Bool
  | .all => true
  | .pat _ _ => false
abbrev Part.s (p : Part) : Str := S p.txt
abbrev Part.d (p : Part) : Dt := .str p.s
theorem txt_len {p : Part} (h : p.ok) : p.txt.length ≤ 7 := by
  cases p with
  | all => decide
  | pat f b => have := h.1; have := h.2; simp [Part.txt]; omega
/-- ways to look through the few patterns that there are -/
theorem pat_cases {P : List Bool → List Bool → Prop} (h : ∀ f ∈ [[], [true], [false], [true, true], [true, false], [false, true], [false, false]], ∀ b ∈ [[], [true], [false], [true, true], [true, false], [false, true], [false, false], [true, true, true], [true, true, false], [true, false, true], [true, false, false], [false, true, true], [false, true, false], [false, false, true], [false, false, false]], P f b)
    {f b : List Bool} (hf : f.length ≤ 2) (hb : b.length ≤ 3) : P f b := by
  refine h f ?_ b ?_
  · match f, hf with
    | [], _ => simp
    | [x], _ => cases x <;> simp
    | [x, y], _ => cases x <;> cases y <;> simp
  · match b, hb with
    | [], _ => simp
    | [x], _ => cases x <;> simp
    | [x, y], _ => cases x <;> cases y <;> simp
    | [x, y, z], _ => cases x <;> cases y <;> cases z <;> simp
theorem split_pat {f b : List Bool} (hf : f.length ≤ 2) (hb : b.length ≤ 3) : Txt.split (S (Part.pat f b).txt) (S [46, 46]) = [S (f.map sg), S (b.map sg)] := by
  rw [SX.split_S (by decide) (by decide)]
  have : TL.spl [46, 46] 0 [] (Part.pat f b).txt = [f.map sg, b.map sg] :=
    pat_cases (P := fun f b => TL.spl [46, 46] 0 [] (Part.pat f b).txt = [f.map sg, b.map sg]) (by decide) hf hb
  rw [this]; rfl
theorem pat_ne_all {f b : List Bool} (hf : f.length ≤ 2) (hb : b.length ≤ 3) : (Part.pat f b).txt ≠ [97, 108, 108] :=
  pat_cases (P := fun f b => (Part.pat f b).txt ≠ [97, 108, 108]) (by decide) hf hb
theorem S_inj {a b : List Nat} (h : S a = S b) : a = b := by
  have := congrArg (fun x : Str => x.cps.toList) h
  simpa [SX.S] using this
theorem part_all {p : Part} (h : p.ok) : decide (p.s = "all") = p.isAll := by
  have e : ("all" : Str) = S [97, 108, 108] := rfl
  rw [e]
  cases p with
  | all => exact decide_eq_true rfl
  | pat f b => exact decide_eq_false fun q => pat_ne_all h.1 h.2 (S_inj q)
/-! ### places -/
def keepB (f b : List Bool) (n p : Nat) : Bool := f.getD p false || (decide (n ≤ p + b.length) && b.getD (p + b.length - n) false)
def Part.pl : Part → Nat → List Nat
  | .all, n => List.range n
  | .pat f b, n => (List.range n).filter (keepB f b n)
def cutRow {α : Type} (p : Part) (row : List α) : List α := (p.pl row.length).filterMap (row[·]?)
def kept {α : Type} : List Part → List α → List α
  | [], row => row
  | p :: ps, row => kept ps (cutRow p row)
def chain (ps : List Part) (n : Nat) : List Nat := kept ps (List.range n)
theorem range_all {α : Type} : ∀ (row : List α), (List.range row.length).filterMap (row[·]?) = row
  | [] => rfl
  | x :: row => by
    have ih := range_all row
    rw [List.length_cons, List.range_succ_eq_map, List.filterMap_cons]
    simp only [List.getElem?_cons_zero]
    rw [List.filterMap_map]
    have : ((fun i => (x :: row)[i]?) ∘ Nat.succ) = fun i => row[i]? := by funext i; simp
    rw [this, ih]
theorem cut_all {α : Type} (row : List α) : cutRow .all row = row := range_all row
theorem cut_map {α β : Type} (g : α → β) (p : Part) (row : List α) : cutRow p (row.map g) = (cutRow p row).map g := by
  unfold cutRow
  rw [List.length_map, List.map_filterMap]
  congr 1
  funext i
  simp
theorem kept_map {α β : Type} (g : α → β) : ∀ (ps : List Part) (row : List α), kept ps (row.map g) = (kept ps row).map g
  | [], _ => rfl
  | p :: ps, row => by
    show kept ps (cutRow p (row.map g)) = (kept ps (cutRow p row)).map g
    rw [cut_map, kept_map g ps]
theorem cut_sub {α : Type} (p : Part) (row : List α) : (cutRow p row).Sublist row := by
  cases p with
  | all => rw [cut_all]; exact List.Sublist.refl _
  | pat f b =>
    have h := (List.filter_sublist (p := keepB f b row.length) (l := List.range row.length)).filterMap (row[·]?)
    rw [range_all] at h
    exact h
theorem kept_sub {α : Type} : ∀ (ps : List Part) (row : List α), (kept ps row).Sublist row
  | [], row => List.Sublist.refl _
  | p :: ps, row => (kept_sub ps (cutRow p row)).trans (cut_sub p row)
/-- strictly ascending lists with the same members are the same -/
theorem asc_eq : ∀ {l m : List Nat}, l.Pairwise (· < ·) → m.Pairwise (· < ·) → (∀ x, x ∈ l ↔ x ∈ m) → l = m
  | [], [], _, _, _ => rfl
  | [], y :: m, _, _, h => absurd ((h y).mpr (by simp)) (by simp)
  | x :: l, [], _, _, h => absurd ((h x).mp (by simp)) (by simp)
  | x :: l, y :: m, h1, h2, h => by
    have a := List.pairwise_cons.mp h1
    have b := List.pairwise_cons.mp h2
    have e : x = y := by
      have hx := (h x).mp (by simp)
      have hy := (h y).mpr (by simp)
      rcases List.mem_cons.mp hx with c | c
      · exact c
      · rcases List.mem_cons.mp hy with d | d
        · exact d.symm
        · have := a.1 y d; have := b.1 x c; omega
    subst e
    rw [asc_eq a.2 b.2 fun z => ?_]
    have hz := h z
    simp only [List.mem_cons] at hz
    refine ⟨fun c => ?_, fun c => ?_⟩
    · rcases hz.mp (.inr c) with d | d
      · have := a.1 z c; omega
      · exact d
    · rcases hz.mpr (.inr c) with d | d
      · have := b.1 z c; omega
      · exact d
theorem chain_asc (ps : List Part) (n : Nat) : (chain ps n).Pairwise (· < ·) := List.Pairwise.sublist (kept_sub ps _) List.pairwise_lt_range
theorem chain_lt {ps : List Part} {n x : Nat} (h : x ∈ chain ps n) : x < n := List.mem_range.mp ((kept_sub ps _).subset h)
theorem chain_len (ps : List Part) (n : Nat) : (chain ps n).length ≤ n := by
  have := (kept_sub ps (List.range n)).length_le
  rwa [List.length_range] at this
/-! ### from five places to any number -/
def far (n p : Nat) : Nat := if p < 2 then p else n - 5 + p
theorem cut_range (p : Part) (n : Nat) : cutRow p (List.range n) = p.pl n := by
  unfold cutRow
  rw [List.length_range]
  have h : ∀ l : List Nat, (∀ x ∈ l, x < n) → l.filterMap ((List.range n)[·]?) = l := fun l hl => by
    induction l with
    | nil => rfl
    | cons x l ih =>
      have hx : x < n := hl x (by simp)
      rw [List.filterMap_cons]
      have e : (List.range n)[x]? = some x := by simp [hx]
      rw [e]
      simp only
      rw [ih fun y hy => hl y (by simp [hy])]
  refine h _ fun x hx => ?_
  cases p with
  | all => exact List.mem_range.mp hx
  | pat f b => exact List.mem_range.mp (List.mem_filter.mp hx).1
theorem range_far (m : Nat) : List.range (m + 5) = [0, 1] ++ (List.range m).map (· + 2) ++ [m + 2, m + 3, m + 4] := by
  rw [show m + 5 = 2 + (m + 3) by omega, List.range_add, List.range_add]
  simp only [List.map_append, List.map_map]
  have e1 : List.range 2 = [0, 1] := by decide
  have e2 : List.range 3 = [0, 1, 2] := by decide
  rw [e1, e2, List.append_assoc]
  congr 1
  congr 1
  · refine List.map_congr_left fun x _ => ?_; omega
  · simp; omega
theorem pl_far {f b : List Bool} (hf : f.length ≤ 2) (hb : b.length ≤ 3) (m : Nat) : (Part.pat f b).pl (m + 5) = ((Part.pat f b).pl 5).map (far (m + 5)) := by
  show (List.range (m + 5)).filter (keepB f b (m + 5)) = ((List.range 5).filter (keepB f b 5)).map (far (m + 5))
  have k0 : ∀ p, 2 ≤ p → f.getD p false = false := fun p hp => by
    rw [List.getD_eq_getElem?_getD, List.getElem?_eq_none (by omega)]; rfl
  have mid : ((List.range m).map (· + 2)).filter (keepB f b (m + 5)) = [] := by
    rw [List.filter_eq_nil_iff]
    intro x hx
    obtain ⟨y, hy, rfl⟩ := List.mem_map.mp hx
    have hy := List.mem_range.mp hy
    unfold keepB
    rw [k0 _ (by omega), decide_eq_false (by omega), Bool.false_and]
    decide
  have front : ∀ p, p < 2 → keepB f b (m + 5) p = keepB f b 5 p := fun p hp => by
    unfold keepB
    rw [decide_eq_false (by omega), decide_eq_false (by omega), Bool.false_and, Bool.false_and]
  have back : ∀ p, p < 3 → keepB f b (m + 5) (m + 2 + p) = keepB f b 5 (2 + p) := fun p hp => by
    unfold keepB
    rw [k0 _ (by omega), k0 _ (by omega)]
    have e1 : m + 2 + p + b.length - (m + 5) = 2 + p + b.length - 5 := by omega
    have e2 : decide (m + 5 ≤ m + 2 + p + b.length) = decide (5 ≤ 2 + p + b.length) := by rw [decide_eq_decide]; omega
    rw [e1, e2]
  have e5 : List.range 5 = [0, 1] ++ [2, 3, 4] := by decide
  rw [range_far, e5, List.filter_append, List.filter_append, mid, List.append_nil, List.filter_append, List.map_append]
  congr 1
  · have h0 := front 0 (by omega)
    have h1 := front 1 (by omega)
    cases c0 : keepB f b 5 0 <;> cases c1 : keepB f b 5 1 <;> rw [c0] at h0 <;> rw [c1] at h1 <;> simp [List.filter_cons, h0, h1, c0, c1, far]
  · have h0 := back 0 (by omega)
    have h1 := back 1 (by omega)
    have h2 := back 2 (by omega)
    simp only [Nat.add_zero, Nat.reduceAdd] at h0 h1 h2
    rw [show m + 2 + 1 = m + 3 by omega] at h1
    rw [show m + 2 + 2 = m + 4 by omega] at h2
    have f2 : far (m + 5) 2 = m + 2 := by unfold far; rw [if_neg (by omega)]; omega
    have f3 : far (m + 5) 3 = m + 3 := by unfold far; rw [if_neg (by omega)]; omega
    have f4 : far (m + 5) 4 = m + 4 := by unfold far; rw [if_neg (by omega)]; omega
    cases c0 : keepB f b 5 2 <;> cases c1 : keepB f b 5 3 <;> cases c2 : keepB f b 5 4 <;> rw [c0] at h0 <;> rw [c1] at h1 <;> rw [c2] at h2 <;> simp [List.filter_cons, h0, h1, h2, c0, c1, c2, f2, f3, f4]
theorem kept_far : ∀ {ps : List Part} (m : Nat), (∀ p ∈ ps, p.ok) → kept ps (List.range (m + 5)) = if ps.all Part.isAll = true then List.range (m + 5) else (kept ps (List.range 5)).map (far (m + 5))
  | [], m, _ => rfl
  | .all :: ps, m, h => by
    show kept ps (cutRow .all (List.range (m + 5))) = if (true && ps.all Part.isAll) = true then _ else (kept ps (cutRow .all (List.range 5))).map _
    rw [cut_all, cut_all, Bool.true_and]
    exact kept_far m fun p hp => h p (by simp [hp])
  | .pat f b :: ps, m, h => by
    have hp : (Part.pat f b).ok := h _ (by simp)
    show kept ps (cutRow (.pat f b) (List.range (m + 5))) = if (false && ps.all Part.isAll) = true then _ else (kept ps (cutRow (.pat f b) (List.range 5))).map _
    rw [cut_range, cut_range, Bool.false_and, if_neg Bool.false_ne_true, pl_far hp.1 hp.2, kept_map]
theorem chain_far {ps : List Part} {n : Nat} (hn : 5 ≤ n) (h : ∀ p ∈ ps, p.ok) : chain ps n = if ps.all Part.isAll = true then List.range n else (chain ps 5).map (far n) := by
  obtain ⟨m, rfl⟩ : ∃ m, n = m + 5 := ⟨n - 5, by omega⟩
  exact kept_far m h
/-- alike by tables and wholeness: just if they keep the same of up to six places -/
theorem same_iff {ps qs : List Part} (hp : ∀ p ∈ ps, p.ok) (hq : ∀ p ∈ qs, p.ok) : ((∀ n, n < 6 → chain ps n = chain qs n) ∧ ps.all Part.isAll = qs.all Part.isAll) ↔ ∀ n, n < 7 → chain ps n = chain qs n := by
  constructor
  · rintro ⟨h1, h2⟩ n hn
    by_cases c : n < 6
    · exact h1 n c
    · rw [chain_far (by omega) hp, chain_far (by omega) hq, h2, h1 5 (by omega)]
  · intro h
    refine ⟨fun n hn => h n (by omega), ?_⟩
    have h6 := congrArg List.length (h 6 (by omega))
    rw [chain_far (by omega) hp, chain_far (by omega) hq] at h6
    have l1 := chain_len ps 5
    have l2 := chain_len qs 5
    cases c1 : ps.all Part.isAll <;> cases c2 : qs.all Part.isAll <;> simp [c1, c2] at h6 <;> first | rfl | omega
end Nv

set_option Elab.async false
set_option linter.all false
set_option maxRecDepth 100000
set_option maxHeartbeats 4000000
namespace Nv
open PySem PySem.Spec PyProof.Rows L2
open SX (S)
theorem ifb {b : Bool} {A B : Prop} (h1 : b = true → A) (h2 : b = false → B) : if b = true then A else B := by
  cases b with
  | true => exact h1 rfl
  | false => exact h2 rfl
theorem ifF {b : Bool} {A B : Prop} (h : b = false) (hB : B) : if b = true then A else B := by rw [h, if_neg Bool.false_ne_true]; exact hB
theorem ifT {b : Bool} {A B : Prop} (h : b = true) (hA : A) : if b = true then A else B := by rw [h, if_pos rfl]; exact hA
abbrev natsD (l : List Nat) : List Dt := (l.map Int.ofNat).map .int
theorem natsD_get {l : List Nat} {i x : Nat} (h : l[i]? = some x) : (natsD l)[i]? = some (.int x) := by simp [natsD, h]
def pairS (i j : Nat) (ss : List Sd) : Dt → List Sd
  | .tup [a, b] => (ss.set i (.dt a)).set j (.dt b)
  | _ => ss
theorem pair_gd {K : PySem.W.Frag} {ss : List Sd} {i j : Nat} (hij : i ≠ j) {z : Str} : ∀ d ∈ enumD z, GD K (gTup K 2 (gCons (gName i) (gCons (gName j) gNil))) [i, j] ss d (pairS i j ss d) := fun d hd => by
  obtain ⟨k, hk, rfl⟩ := List.mem_mapIdx.mp hd
  exact gd_pair hij
def isPlus : Dt → Bool
  | .tup [_, .str z] => decide (z = "+")
  | _ => false
def fstI : Dt → Int
  | .tup [.int i, _] => i
  | _ => 0
def ups (f : List Bool) : List Nat := (List.range f.length).filter (f.getD · false)
theorem ups_eq {f : List Bool} (h : f.length ≤ 3) : ((enumD (S (f.map sg))).filter isPlus).map (fun d => Dt.int (fstI d)) = natsD (ups f) := by
  match f, h with
  | [], _ => rfl
  | [x], _ => cases x <;> rfl
  | [x, y], _ => cases x <;> cases y <;> rfl
  | [x, y, z], _ => cases x <;> cases y <;> cases z <;> rfl
theorem ups_far {f : List Bool} (h : f.length ≤ 3) (n : Int) : ((enumD (S (f.map sg))).filter isPlus).map (fun d => Dt.int (n - f.length + fstI d)) = ((ups f).map fun (i : Nat) => n - f.length + (i : Int)).map Dt.int := by
  match f, h with
  | [], _ => rfl
  | [x], _ => cases x <;> rfl
  | [x, y], _ => cases x <;> cases y <;> rfl
  | [x, y, z], _ => cases x <;> cases y <;> cases z <;> rfl
theorem mem_ups {f : List Bool} {i : Nat} : i ∈ ups f ↔ f.getD i false = true := by
  unfold ups
  rw [List.mem_filter, List.mem_range]
  refine ⟨fun h => h.2, fun h => ⟨?_, h⟩⟩
  by_cases c : i < f.length
  · exact c
  · rw [List.getD_eq_getElem?_getD, List.getElem?_eq_none (by omega)] at h
    cases h
theorem keep_mem {f b : List Bool} {n p : Nat} (hp : p < n) : decide ((p : Int) ∈ (ups f).map Int.ofNat ++ (ups b).map fun (i : Nat) => (n : Int) - b.length + (i : Int)) = keepB f b n p := by
  rw [Bool.eq_iff_iff, decide_eq_true_iff]
  unfold keepB
  rw [Bool.or_eq_true, Bool.and_eq_true, decide_eq_true_iff, List.mem_append, List.mem_map, List.mem_map]
  refine or_congr ⟨fun ⟨i, h1, h2⟩ => ?_, fun h => ⟨p, mem_ups.mpr h, rfl⟩⟩ ⟨fun ⟨i, h1, h2⟩ => ?_, fun ⟨h1, h2⟩ => ⟨p + b.length - n, mem_ups.mpr h2, by omega⟩⟩
  · have : i = p := by have h2 : (i : Int) = p := h2; omega
    subst this; exact mem_ups.mp h1
  · have hi := mem_ups.mp h1
    have hi' : i < b.length := by
      by_cases c : i < b.length
      · exact c
      · rw [List.getD_eq_getElem?_getD, List.getElem?_eq_none (by omega)] at hi; cases hi
    have e : p + b.length - n = i := by omega
    rw [e]
    exact ⟨by omega, hi⟩
theorem nat_of {d : Dt} {n : Nat} (h : d ∈ rangeD 0 n) : ∃ p : Nat, p < n ∧ d = .int p := by
  obtain ⟨p, hp, rfl⟩ := List.mem_map.mp h
  exact ⟨p, List.mem_range.mp hp, by simp⟩
def atN : Dt → Nat
  | .int i => i.toNat
  | _ => 0
theorem rangeD_nats (n : Nat) : rangeD 0 n = natsD (List.range n) := by
  unfold rangeD natsD
  rw [List.map_map]
  refine List.map_congr_left fun x _ => ?_
  show Dt.int (0 + (x : Int)) = Dt.int (x : Int)
  rw [Int.zero_add]
theorem filt_nats (q : Nat → Bool) : ∀ l : List Nat, ((natsD l).filter fun d => q (atN d)).map id = natsD (l.filter q)
  | [] => rfl
  | x :: l => by
    have ih := filt_nats q l
    rw [List.map_id] at ih ⊢
    show (Dt.int (x : Int) :: natsD l).filter _ = _
    rw [List.filter_cons, List.filter_cons]
    have e : q (atN (.int (x : Int))) = q x := by show q (x : Int).toNat = _; rw [Int.toNat_natCast]
    rw [e]
    cases q x with
    | true => rw [if_pos rfl, if_pos rfl, ih]; rfl
    | false => rw [if_neg Bool.false_ne_true, if_neg Bool.false_ne_true, ih]
theorem kept_snoc {α : Type} (p : Part) : ∀ (ps : List Part) (row : List α), kept (ps ++ [p]) row = cutRow p (kept ps row)
  | [], _ => rfl
  | q :: ps, row => kept_snoc p ps (cutRow q row)
theorem pl_lt {p : Part} {n x : Nat} (h : x ∈ p.pl n) : x < n := by
  cases p with
  | all => exact List.mem_range.mp h
  | pat f b => exact List.mem_range.mp (List.mem_filter.mp h).1
def pick (row : List Nat) : Dt → Dt
  | .int i => .int (Int.ofNat (row.getD i.toNat 0))
  | d => d
theorem cut_pick (row : List Nat) : ∀ l : List Nat, (∀ x ∈ l, x < row.length) → (natsD l).map (pick row) = natsD (l.filterMap (row[·]?))
  | [], _ => rfl
  | x :: l, h => by
    have hx : x < row.length := h x (by simp)
    have ih := cut_pick row l fun y hy => h y (by simp [hy])
    have e : row[x]? = some row[x] := List.getElem?_eq_getElem hx
    rw [List.filterMap_cons, e]
    show pick row (.int (x : Int)) :: (natsD l).map (pick row) = Dt.int (Int.ofNat row[x]) :: natsD (l.filterMap (row[·]?))
    rw [ih]
    congr 1
    show Dt.int (Int.ofNat (row.getD (x : Int).toNat 0)) = _
    rw [Int.toNat_natCast, List.getD_eq_getElem?_getD, e]; rfl
def cutF (ps : List Part) : List (Str × Dt) := [("own_parts", .tup (ps.map Part.d)), ("own_tables", .tup ((List.range 6).map fun n => .tup (natsD (chain ps n)))), ("own_is_whole", .bl (ps.all Part.isAll))]
abbrev cutD (C : Addr) (ps : List Part) : Dt := .ins C (cutF ps)
def Oks (ps : List Part) : Prop := (∀ p ∈ ps, p.ok) ∧ ps.length ≤ 4
def strOf (ps : List Part) : Str := if ps.isEmpty = true then "all" else Txt.join " > " (ps.map Part.s)
theorem kept_get {α : Type} (d : α) (ps : List Part) (row : List α) : kept ps row = (chain ps row.length).map fun i => row.getD i d := by
  have e : row = (List.range row.length).map fun i => row.getD i d := by
    refine List.ext_getElem? fun i => ?_
    rw [List.getElem?_map]
    by_cases c : i < row.length
    · rw [List.getElem?_range c, List.getElem?_eq_getElem c]
      show some row[i] = some (row.getD i d)
      rw [List.getD_eq_getElem?_getD, List.getElem?_eq_getElem c]; rfl
    · rw [List.getElem?_eq_none (by omega), List.getElem?_eq_none (by simp; omega)]; rfl
  rw (config := { occs := .pos [1] }) [e]
  rw [kept_map]; rfl
theorem nats_get {row : List Dt} (l : List Nat) : (natsD l).map (fun d => row.getD (atN d) .non) = l.map fun i => row.getD i .non := by
  simp only [natsD, List.map_map]
  refine List.map_congr_left fun k _ => ?_
  show row.getD (k : Int).toNat .non = _
  rw [Int.toNat_natCast]
theorem StD.impN {K : PySem.W.Frag} {ξ : XC} {ss : List Sd} {R : Dt → Prop} {N N' B C : SP} {t : TS} (h : StD K ξ t ss N B C R) (f : ∀ s, N s → N' s) : StD K ξ t ss N' B C R := fun G0 H0 D σ G H g s n b c r w =>
  h G0 H0 D σ G H g s (fun σ' ss' G' H' g' s' hn => n σ' ss' G' H' g' s' (f _ hn)) b c r w
theorem sd_cut {K : PySem.W.Frag} {ξ : XC} {ss : List Sd} {R : Dt → Prop} {N B C : SP} {t u : TS} (M : SP) (h1 : StD K ξ t ss M B C R) (h2 : ∀ s, M s → StD K ξ u s N B C R) : StD K ξ (tSeq t u) ss N B C R := sd_seq (h1.impN h2)
theorem bl_map {α : Type} (l : List α) (q : α → Bool) : l.map (fun x => Dt.bl (q x)) = (l.map q).map Dt.bl := by rw [List.map_map]; rfl
theorem all_true {α : Type} (l : List α) : (l.map fun _ => true).all id = true := by rw [List.all_map, List.all_eq_true]; exact fun _ _ => rfl
theorem mem_nats {l : List Nat} {d : Dt} (h : d ∈ natsD l) : ∃ k : Nat, k ∈ l ∧ d = .int (k : Int) := by
  obtain ⟨i, hi, rfl⟩ := List.mem_map.mp h
  obtain ⟨k, hk, rfl⟩ := List.mem_map.mp hi
  exact ⟨k, hk, rfl⟩
abbrev intsP (l : List Nat) : List PyData := (l.map Int.ofNat).map .int
theorem toPys_nats : ∀ l : List Nat, toPy.toPys (natsD l) = some (intsP l)
  | [] => rfl
  | x :: l => by
    show (match toPy (.int (Int.ofNat x)), toPy.toPys (natsD l) with | some p, some q => some (p :: q) | _, _ => none) = _
    rw [toPys_nats l]; rfl
theorem toPy_nats (l : List Nat) : toPy (.tup (natsD l)) = some (.tuple (intsP l)) := by
  show (toPy.toPys (natsD l)).map PyData.tuple = _
  rw [toPys_nats]; rfl
theorem eqv_nats : ∀ l m : List Nat, PyData.eqvAll (intsP l) (intsP m) = decide (l = m)
  | [], [] => rfl
  | [], _ :: _ => rfl
  | _ :: _, [] => rfl
  | x :: l, y :: m => by
    have ih := eqv_nats l m
    show (Int.ofNat x == Int.ofNat y && PyData.eqvAll (intsP l) (intsP m)) = _
    rw [ih, Bool.eq_iff_iff]
    simp
    intro _; omega
theorem lay_nats : ∀ l : List Nat, PyData.canLayAll0 (intsP l) = true ∧ PyData.depthAll (intsP l) = 0
  | [] => ⟨rfl, rfl⟩
  | x :: l => by
    obtain ⟨h1, h2⟩ := lay_nats l
    exact ⟨by show (true && PyData.canLayAll0 (intsP l)) = true; rw [h1]; rfl, by show max 0 (PyData.depthAll (intsP l)) = 0; rw [h2]; rfl⟩
def tabsP (ks : List (List Nat)) : List PyData := ks.map fun l => .tuple (intsP l)
def tabsD (ks : List (List Nat)) : List Dt := ks.map fun l => .tup (natsD l)
theorem toPys_tabs : ∀ ks : List (List Nat), toPy.toPys (tabsD ks) = some (tabsP ks)
  | [] => rfl
  | l :: ks => by
    show (match toPy (.tup (natsD l)), toPy.toPys (tabsD ks) with | some p, some q => some (p :: q) | _, _ => none) = _
    rw [toPys_tabs ks, toPy_nats]; rfl
theorem eqv_tabs : ∀ ks ms : List (List Nat), PyData.eqvAll (tabsP ks) (tabsP ms) = decide (ks = ms)
  | [], [] => rfl
  | [], _ :: _ => rfl
  | _ :: _, [] => rfl
  | x :: l, y :: m => by
    have ih := eqv_tabs l m
    show (PyData.eqvAll (intsP x) (intsP y) && PyData.eqvAll (tabsP l) (tabsP m)) = _
    rw [ih, eqv_nats, Bool.eq_iff_iff]
    simp
theorem lay_tabs : ∀ ks : List (List Nat), PyData.canLayAll0 (tabsP ks) = true ∧ PyData.depthAll (tabsP ks) ≤ 1
  | [] => ⟨rfl, by decide⟩
  | l :: ks => by
    obtain ⟨h1, h2⟩ := lay_tabs ks
    obtain ⟨h3, h4⟩ := lay_nats l
    refine ⟨by show (PyData.canLayAll0 (intsP l) && PyData.canLayAll0 (tabsP ks)) = true; rw [h1, h3]; rfl, ?_⟩
    show max (PyData.depthAll (intsP l) + 1) (PyData.depthAll (tabsP ks)) ≤ 1
    rw [h4]; omega
theorem rd_eq_tabs {K : PySem.W.Frag} {R : Dt → Prop} {ks ms : List (List Nat)} (h : R (.bl (decide (ks = ms)))) : RD K (rEqA K) (.tup (tabsD ks)) (.tup (tabsD ms)) R := by
  have sh : ∀ ks : List (List Nat), SeqAt.shaped (.tuple (tabsP ks)) = true := fun ks => by
    obtain ⟨h1, h2⟩ := lay_tabs ks
    show (PyData.canLayAll0 (tabsP ks) && decide (PyData.depthAll (tabsP ks) + 1 ≤ 64)) = true
    rw [h1, decide_eq_true (by omega)]; rfl
  have tp : ∀ ks : List (List Nat), toPy (.tup (tabsD ks)) = some (.tuple (tabsP ks)) := fun ks => by
    show (toPy.toPys (tabsD ks)).map PyData.tuple = _
    rw [toPys_tabs]; rfl
  refine rd_eq_d (tp ks) (tp ms) (sh ks) (sh ms) ?_
  show R (.bl (PyData.eqvAll (tabsP ks) (tabsP ms)))
  rw [eqv_tabs]; exact h
theorem sh_nats (l : List Nat) : SeqAt.shaped (.tuple (intsP l)) = true ∧ SeqAt.shaped (.list (intsP l)) = true := by
  obtain ⟨h1, h2⟩ := lay_nats l
  refine ⟨?_, ?_⟩ <;>
  · show (PyData.canLayAll0 (intsP l) && decide (PyData.depthAll (intsP l) + 1 ≤ 64)) = true
    rw [h1, h2]; rfl
theorem rd_ne_nats {K : PySem.W.Frag} {R : Dt → Prop} {l m : List Nat} (h : R (.bl (!decide (l = m)))) : RD K (rNeA K) (.tup (natsD l)) (.tup (natsD m)) R := by
  refine rd_ne_d (toPy_nats l) (toPy_nats m) (sh_nats l).1 (sh_nats m).1 ?_
  show R (.bl (!PyData.eqvAll (intsP l) (intsP m)))
  rw [eqv_nats]; exact h
theorem rd_ne_natsL {K : PySem.W.Frag} {R : Dt → Prop} {l m : List Nat} (h : R (.bl (!decide (l = m)))) : RD K (rNeA K) (.lst (natsD l)) (.lst (natsD m)) R := by
  have tp : ∀ l : List Nat, toPy (.lst (natsD l)) = some (.list (intsP l)) := fun l => by
    show (toPy.toPys (natsD l)).map PyData.list = _
    rw [toPys_nats]; rfl
  refine rd_ne_d (tp l) (tp m) (sh_nats l).2 (sh_nats m).2 ?_
  show R (.bl (!PyData.eqvAll (intsP l) (intsP m)))
  rw [eqv_nats]; exact h
def farD (n : Nat) : Dt → Dt
  | .int i => .int (Int.ofNat (far n i.toNat))
  | d => d
theorem sd_unt {K : PySem.W.Frag} {ξ : XC} {ss : List Sd} {R : Dt → Prop} {N B C : SP} {te : TE} {a b : Nat} (h : EvD K te ss fun d => ∃ x y, d = .tup [x, y] ∧ N ((ss.set a (.dt x)).set b (.dt y))) : StD K ξ (tAsg te (gTup K 2 (gCons (gName a) (gCons (gName b) gNil)))) ss N B C R := fun G0 H0 D σ G H g s n b c r w =>
  h G σ H g.ink s.sv _ fun v d G1 H1 g1 d1 ⟨x, y, h1, h2⟩ => by
    subst h1
    obtain ⟨p, xs, rfl, hp, x1, r1, rfl, e1, x2, r2, rfl, e2, e3⟩ := d1
    cases e3
    exact ⟨p, _, rfl, Ex.tup g1.ink hp, rfl, x1, _, rfl, x2, _, rfl, rfl, n _ _ G1 H1 (g.trans g1) (((s.go g1).set e1).set e2) h2⟩
theorem gd_name2 {K : PySem.W.Frag} {ss : List Sd} {i j : Nat} {d : Dt} (hij : i ≠ j) : GD K (gName i) [i, j] ss d ((ss.set j .no).set i (.dt d)) := fun G H σ x e s hd Q q => by
  refine q _ ?_ ?_
  · rw [wipe2]
    have h1 := ((s.forget (j := j) (o := none)).forget (j := i) (o := none)).set (j := i) hd
    rw [List.set_set, List.set_set] at h1
    rw [List.set_set]
    exact h1
  · simp only [wipe2]
    refine List.ext_getElem? fun k => ?_
    by_cases c2 : i = k
    · subst c2; simp [List.getElem?_set, Ne.symm hij, hij]
    · by_cases c : j = k
      · subst c; simp [List.getElem?_set, hij, Ne.symm hij, c2]
      · simp [List.getElem?_set, c, c2]
def withinB (k1 k2 : Nat → List Nat) : Bool := (List.range 7).all fun n => (k1 n).all fun x => decide (x ∈ k2 n)
def diffL (k1 k2 : List Nat) (n : Nat) : List Nat := (List.range n).filter fun p => !decide (decide (p ∈ k1) = decide (p ∈ k2))
def Parted (k1 k2 : Nat → List Nat) (d : Dt) : Prop := (∃ i, i < 7 ∧ (∀ j, j < i → diffL (k1 j) (k2 j) j = []) ∧ ∃ x r, diffL (k1 i) (k2 i) i = x :: r ∧ d = .tup [.int (i : Nat), .int (x : Nat)]) ∨ ((∀ j, j < 7 → diffL (k1 j) (k2 j) j = []) ∧ d = .non)
theorem Parted.one {k1 k2 : Nat → List Nat} {d e : Dt} (h1 : Parted k1 k2 d) (h2 : Parted k1 k2 e) : d = e := by
  rcases h1 with ⟨i, hi, h, x, r, hx, rfl⟩ | ⟨h, rfl⟩
  · rcases h2 with ⟨j, hj, h', y, q, hy, rfl⟩ | ⟨h', rfl⟩
    · have e : i = j := by
        rcases Nat.lt_trichotomy i j with c | c | c
        · have := h' i c; rw [hx] at this; cases this
        · exact c
        · have := h j c; rw [hy] at this; cases this
      subst e
      rw [hx] at hy; cases hy; rfl
    · have := h' i hi; rw [hx] at this; cases this
  · rcases h2 with ⟨j, hj, h', y, q, hy, rfl⟩ | ⟨h', rfl⟩
    · have := h j hj; rw [hy] at this; cases this
    · rfl
def tabs (ps : List Part) : List (List Nat) := (List.range 6).map (chain ps)
def sameB (ps qs : List Part) : Bool := decide (tabs ps = tabs qs) && decide (ps.all Part.isAll = qs.all Part.isAll)
theorem tabs_eq (ps : List Part) : ((List.range 6).map fun n => Dt.tup (natsD (chain ps n))) = tabsD (tabs ps) := by
  unfold tabsD tabs
  rw [List.map_map]; rfl
theorem mem_int {p : Nat} {l : List Nat} : ((p : Int) ∈ l.map Int.ofNat) ↔ p ∈ l := by
  rw [List.mem_map]
  refine ⟨fun ⟨k, h1, h2⟩ => ?_, fun h => ⟨p, h, rfl⟩⟩
  have h2 : (k : Int) = p := h2
  have : k = p := by omega
  subst this; exact h1
theorem dec_int {p : Nat} {l : List Nat} : decide ((p : Int) ∈ l.map Int.ofNat) = decide (p ∈ l) := by rw [decide_eq_decide]; exact mem_int
theorem range_at {n i : Nat} {x : Dt} (h : (rangeD 0 n)[i]? = some x) : i < n ∧ x = .int (i : Int) := by
  have hi : i < n := by have := (List.getElem?_eq_some_iff.mp h).1; simp [rangeD] at this; exact this
  rw [rangeD_nats, natsD_get (List.getElem?_range hi)] at h
  exact ⟨hi, (Option.some.inj h).symm⟩
theorem nats_at {l : List Nat} {i : Nat} {x : Dt} (h : (natsD l)[i]? = some x) : ∃ hi : i < l.length, x = .int (l[i] : Int) := by
  have hi : i < l.length := by have := (List.getElem?_eq_some_iff.mp h).1; simp [natsD] at this; exact this
  rw [natsD_get (List.getElem?_eq_getElem hi)] at h
  exact ⟨hi, (Option.some.inj h).symm⟩
theorem strOk_part {p : Part} (h : p.ok) : PyData.strOk p.s = true := by
  cases p with
  | all => decide +kernel
  | pat f b => exact pat_cases (P := fun f b => PyData.strOk (S (Part.pat f b).txt) = true) (by decide +kernel) h.1 h.2
abbrev partsP (ps : List Part) : List PyData := ps.map fun p => .str p.s
theorem toPys_parts : ∀ ps : List Part, toPy.toPys (ps.map Part.d) = some (partsP ps)
  | [] => rfl
  | p :: ps => by
    show (match toPy p.d, toPy.toPys (ps.map Part.d) with | some p, some q => some (p :: q) | _, _ => none) = _
    rw [toPys_parts ps]; rfl
theorem lay_parts : ∀ {ps : List Part}, (∀ p ∈ ps, p.ok) → PyData.canLayAll0 (partsP ps) = true ∧ PyData.depthAll (partsP ps) = 0
  | [], _ => ⟨rfl, rfl⟩
  | p :: ps, h => by
    obtain ⟨h1, h2⟩ := lay_parts (ps := ps) fun q hq => h q (by simp [hq])
    exact ⟨by show (PyData.strOk p.s && PyData.canLayAll0 (partsP ps)) = true; rw [h1, strOk_part (h p (by simp))]; rfl, by show max 0 (PyData.depthAll (partsP ps)) = 0; rw [h2]; rfl⟩
theorem sum_parts : ∀ {ps : List Part}, (∀ p ∈ ps, p.ok) → ((ps.map Part.s).map (·.length)).sum ≤ 7 * ps.length
  | [], _ => by decide
  | p :: ps, h => by
    have ih := sum_parts (ps := ps) fun q hq => h q (by simp [hq])
    have h1 := txt_len (h p (by simp))
    have h2 : p.s.length ≤ 7 := by rw [SX.S_len]; exact h1
    show p.s.length + ((ps.map Part.s).map (·.length)).sum ≤ 7 * (ps.length + 1)
    omega
theorem sum_ones : ∀ cs : List Nat, ((cs.map fun c => [c]).map List.length).sum = cs.length
  | [] => rfl
  | c :: cs => by
    have := sum_ones cs
    simp at this ⊢
    omega
theorem sl_to {l : List Dt} {n : Nat} : (l.drop (HT.sIx l.length 0 none)).take (HT.sIx l.length l.length (some (n : Int)) - HT.sIx l.length 0 none) = l.take n := by
  rw [HT.sIx_none, HT.sIx_nat]
  by_cases h : n ≤ l.length
  · rw [Nat.min_eq_left h]; simp
  · rw [Nat.min_eq_right (by omega)]; simp [List.take_of_length_le (show l.length ≤ n by omega)]
theorem sl_from {l : List Dt} {n : Nat} : (l.drop (HT.sIx l.length 0 (some (n : Int)))).take (HT.sIx l.length l.length none - HT.sIx l.length 0 (some (n : Int))) = l.drop n := by
  rw [HT.sIx_none, HT.sIx_nat]
  by_cases h : n ≤ l.length
  · rw [Nat.min_eq_left h, List.take_of_length_le (by simp)]
  · rw [Nat.min_eq_right (by omega), List.drop_length, List.drop_of_length_le (by omega)]; simp
theorem S_app (a b : List Nat) : (S a : Str) ++ S b = S (a ++ b) := SX.S_cat a b
theorem join_signs (bs : List Bool) : Txt.join (Str.ofString "") ((bs.map fun b => [sg b]).map S) = S (bs.map sg) := by
  rw [show (Str.ofString "" : Str) = S [] from rfl, SX.join_S]
  have : (bs.map fun b => [sg b]) = (bs.map sg).map fun c => [c] := by rw [List.map_map]; rfl
  rw [this, joinOnes]
theorem sum_signs (bs : List Bool) : (((bs.map fun b => [sg b]).map S).map (·.length)).sum = bs.length := by
  rw [SX.lens]
  have : (bs.map fun b => [sg b]) = (bs.map sg).map fun c => [c] := by rw [List.map_map]; rfl
  rw [this, sum_ones]; simp
theorem plus_sg (b : Bool) : decide ((⟨#[sg b]⟩ : Str) = "+") = b := by cases b <;> decide
theorem sgs_at {f : List Bool} {j : Nat} (h : j < f.length) : atI (S (f.map sg)).cps.toList (j : Int) = some (sg f[j]) := by
  refine atI_nat ?_
  show (f.map sg).toArray.toList[j]? = _
  simp [h]
theorem range_filt {α : Type} (row : List α) (q : Nat → Bool) (j : Nat) : ((List.range (j + 1)).filter q).filterMap (row[·]?) = ((List.range j).filter q).filterMap (row[·]?) ++ (if q j = true then (row[j]?).toList else []) := by
  rw [List.range_succ, List.filter_append, List.filterMap_append]
  congr 1
  cases h : q j with
  | true =>
    rw [if_pos rfl, List.filter_cons, h, if_pos rfl]
    cases c : row[j]? with
    | none => simp [c]
    | some x => simp [c]
  | false => simp [h]
theorem kept_nats (ps : List Part) (l : List Nat) : kept ps (natsD l) = natsD (kept ps l) := by
  unfold natsD; rw [kept_map, kept_map]
theorem kept_range (ps : List Part) (n : Nat) : kept ps (rangeD 0 n) = natsD (chain ps n) := by rw [rangeD_nats, kept_nats]; rfl
theorem diff_comm (k1 k2 : List Nat) (n : Nat) : diffL k1 k2 n = diffL k2 k1 n := by
  unfold diffL
  congr 1
  funext p
  congr 1
  rw [decide_eq_decide]; exact eq_comm
theorem Parted.comm {k1 k2 : Nat → List Nat} {d : Dt} (h : Parted k1 k2 d) : Parted k2 k1 d := by
  rcases h with ⟨i, hi, h, x, r, hx, rfl⟩ | ⟨h, rfl⟩
  · exact .inl ⟨i, hi, fun j hj => by rw [diff_comm]; exact h j hj, x, r, by rw [diff_comm]; exact hx, rfl⟩
  · exact .inr ⟨fun j hj => by rw [diff_comm]; exact h j hj, rfl⟩
theorem diff_nil {ps qs : List Part} {n : Nat} : diffL (chain ps n) (chain qs n) n = [] ↔ chain ps n = chain qs n := by
  constructor
  · intro h
    refine asc_eq (chain_asc _ _) (chain_asc _ _) fun x => ?_
    have key : x < n → (x ∈ chain ps n ↔ x ∈ chain qs n) := fun hx => by
      have := List.filter_eq_nil_iff.mp h x (List.mem_range.mpr hx)
      have e : decide (x ∈ chain ps n) = decide (x ∈ chain qs n) := by
        by_cases c : decide (x ∈ chain ps n) = decide (x ∈ chain qs n)
        · exact c
        · rw [decide_eq_false c] at this; exact absurd rfl this
      exact decide_eq_decide.mp e
    exact ⟨fun c => (key (chain_lt c)).mp c, fun c => (key (chain_lt c)).mpr c⟩
  · intro h
    rw [h]
    unfold diffL
    rw [List.filter_eq_nil_iff]
    intro x _
    rw [decide_eq_true rfl]; decide
theorem same_tabs {ps qs : List Part} : tabs ps = tabs qs ↔ ∀ n, n < 6 → chain ps n = chain qs n := by
  unfold tabs
  rw [List.map_inj_left]
  exact ⟨fun h n hn => h n (List.mem_range.mpr hn), fun h n hn => h n (List.mem_range.mp hn)⟩
theorem same_is {ps qs : List Part} (hp : ∀ p ∈ ps, p.ok) (hq : ∀ p ∈ qs, p.ok) {d : Dt} (h : Parted (chain ps) (chain qs) d) : sameB ps qs = isN d := by
  have e : sameB ps qs = true ↔ ∀ n, n < 7 → chain ps n = chain qs n := by
    unfold sameB
    rw [Bool.and_eq_true, decide_eq_true_iff, decide_eq_true_iff, same_tabs]
    exact same_iff hp hq
  rcases h with ⟨i, hi, h, x, r, hx, rfl⟩ | ⟨h, rfl⟩
  · show _ = false
    rw [Bool.eq_false_iff]
    intro c
    have := diff_nil.mpr (e.mp c i hi)
    rw [hx] at this; cases this
  · show _ = true
    exact e.mpr fun n hn => diff_nil.mp (h n hn)
theorem same_comm (ps qs : List Part) : sameB qs ps = sameB ps qs := by
  unfold sameB
  congr 1
  · rw [decide_eq_decide]; exact eq_comm
  · rw [decide_eq_decide]; exact eq_comm
theorem parted_is {ps qs : List Part} {d : Dt} (h : Parted (chain ps) (chain qs) d) : d = .non ∨ ∃ i x : Nat, i < 7 ∧ x < 7 ∧ d = .tup [.int i, .int x] := by
  rcases h with ⟨i, hi, h, x, r, hx, rfl⟩ | ⟨h, rfl⟩
  · have : x ∈ diffL (chain ps i) (chain qs i) i := by rw [hx]; simp
    have := List.mem_range.mp (List.mem_filter.mp this).1
    exact .inr ⟨i, x, hi, by omega, rfl⟩
  · exact .inl rfl
theorem shown_ok : ∀ i, i < 7 → ∀ x, x < 7 → (PyData.list [.tuple [.int (i : Nat), .int (x : Nat)], .tuple [.int (i : Nat), .int (x : Nat)]]).shown.length ≤ 1000 ∧ (PyData.list [.tuple [.int (i : Nat), .int (x : Nat)], .tuple [.int (i : Nat), .int (x : Nat)]]).showable = true := by decide +kernel
theorem cd_repr2 {K : PySem.W.Frag} {R : Dt → Prop} {ps qs : List Part} {d : Dt} (h : Parted (chain ps) (chain qs) d) (hR : ∀ z, (∀ R' : Dt → Prop, R' (.str z) → CD K (rReprD K) [.lst [d, d]] R') → R (.str z)) : CD K (rReprD K) [.lst [d, d]] R := by
  rcases parted_is h with rfl | ⟨i, x, hi, hx, rfl⟩
  · have k : ∀ R' : Dt → Prop, R' (.str (PyData.list [.none, .none]).shown) → CD K (rReprD K) [.lst [.non, .non]] R' := fun R' hr => cd_reprD rfl (by decide) (by decide) (by decide) (by decide +kernel) hr
    exact k R (hR _ k)
  · obtain ⟨h1, h2⟩ := shown_ok i hi x hx
    have k : ∀ R' : Dt → Prop, R' (.str (PyData.list [.tuple [.int (i : Nat), .int (x : Nat)], .tuple [.int (i : Nat), .int (x : Nat)]]).shown) → CD K (rReprD K) [.lst [.tup [.int i, .int x], .tup [.int i, .int x]]] R' := fun R' hr => cd_reprD rfl h2 rfl (by show 2 ≤ 60; decide) (sz_of (by omega)) hr
    exact k R (hR _ k)
theorem same_all {ps qs : List Part} (hp : ∀ p ∈ ps, p.ok) (hq : ∀ p ∈ qs, p.ok) (h : sameB ps qs = true) {n : Nat} (hn : 5 ≤ n) : chain ps n = chain qs n := by
  unfold sameB at h
  rw [Bool.and_eq_true, decide_eq_true_iff, decide_eq_true_iff, same_tabs] at h
  rw [chain_far hn hp, chain_far hn hq, h.2, h.1 5 (by omega)]
theorem cd_repr_bl {K : PySem.W.Frag} {R : Dt → Prop} (bs : List Bool) (hb : bs.length ≤ 3) (h : R (.str (PyData.list (bs.map .bool)).shown)) : CD K (rReprD K) [.lst (bs.map .bl)] R := by
  match bs, hb with
  | [], _ => exact cd_reprD rfl (by decide) (by decide) (by decide) (by decide +kernel) h
  | [a], _ => cases a <;> exact cd_reprD rfl (by decide) (by decide) (by decide) (by decide +kernel) h
  | [a, b], _ => cases a <;> cases b <;> exact cd_reprD rfl (by decide) (by decide) (by decide) (by decide +kernel) h
  | [a, b, c], _ => cases a <;> cases b <;> cases c <;> exact cd_reprD rfl (by decide) (by decide) (by decide) (by decide +kernel) h
end Nv

set_option Elab.async false
set_option linter.all false
set_option maxRecDepth 100000
set_option maxHeartbeats 4000000
namespace Nv
open PySem PySem.Spec PyProof.Rows L2
/-! ### exceptions of the text's own whose __init__ says super().__init__(x) and keeps x: made -/
section
open PySem.W PySem.Calls Builtin Builtin.ObjectAttr
variable {P : Program} {w : World} {A : Around} {R : Result → Shared → Prop} {hp : Heap} {g : Array GenState} {d : Drawn} {t : Nat} {os : OsState}
/-- self.nm = v, the first field of an exception -/
theorem own_store {K : W.Frag} {nm : Str} {tk : Tok} {v : Value} {x C : Addr} {fv : Array Value} {cd : ClassData} (X : K.In hp) (hx : hp.get? x = some { cls := .ref C, data := .fields fv }) (hcd : W.clsIn K C = some cd)
    (hps : ∀ y, refuseLoop y "__setattr__" cd.mro = pure ()) (hob : cd.mro.contains (.type "object") = true) (hh : cd.hasDict = true) (ha : W.findIn K (.ref C) nm = some none)
    (hq : ∀ h' tk' dx, (∀ b o, b ≠ x → hp.get? b = some o → h'.get? b = some o) → hp.objs.size ≤ dx → dx ≠ x → h'.get? x = some { cls := .ref C, dict := some dx, data := .fields fv } →
      h'.Ns1 dx (fun y => if y = nm then some v else none) → R (.ok (.ret .none)) ⟨h', g, d, tk', os⟩) :
    codeAny (model P w) A (.call (.builtin "object.__setattr__") ⟨[.ref x, .str nm tk, v], []⟩) R ⟨hp, g, d, t, os⟩ := by
  have Ia : W.InstAt hp x { cls := .ref C, data := .fields fv } C none := ⟨hx, rfl, rfl, trivial⟩
  have SF := F.store_object
  have ne : cd.mro.isEmpty = false := by
    cases c : cd.mro with
    | nil => rw [c] at hob; cases hob
    | cons _ _ => rfl
  have hxs : x ≠ hp.objs.size := Nat.ne_of_lt (Heap.lt_size hx)
  have isob : W.Looks (model P w) hp (isInstance (.ref x) (.type "object")) true := Ia.type.andThen (W.looks_mroIn X (by unfold W.mroIn; rw [hcd, Option.bind_some, if_neg (by rw [ne]; exact Bool.false_ne_true), hob]))
  refine codeAny_call_builtin SF.slot.plain SF.entry (@W.check_slot (model P w) _ _ ⟨hp, g, d, t, os⟩ "object.__setattr__" "object" "__setattr__" (.ref x) [.str nm tk, v] [] _ SF.kind SF.split isob (SF.args (.ref x) (.str nm tk) v) ?_)
  have lm : W.Looks (model P w) hp (mroOf (.ref C)) cd.mro := (W.looks_clsIn X hcd).andThen .now
  have l3 : W.Looks (model P w) hp (storeTaker? none) none := .now
  have lc : W.Looks (model P w) hp (classData C) cd := W.looks_clsIn X hcd
  rw [W.osa_eq, refuse_eq]
  refine wpAny_bind (wpAny_bind (Ia.type.at (wpAny_bind (lm.at ?_))))
  rw [hps]
  refine wpAny_pure (wpAny_bind (Ia.type.at (wpAny_bind ((W.looks_findIn X ha).at (wpAny_bind (l3.at ?_))))))
  show wpAny _ _ (storeInOwnDict (.ref x) (.ref C) (.str nm tk) nm v false) _ _ _
  obtain ⟨nm', bs, mro, ns, qn, hd, sn, sb, ab, col, del⟩ := cd
  dsimp only at hh
  subst hh
  unfold storeInOwnDict ownDictForStores
  repeat (first | with_reducible refine HandSPX.store_in_new ?_ ?_ | with_reducible refine wpAny_loadPart_at hx ?_ | with_reducible refine lc.at ?_ | wp_step)
  · exact ⟨_, #[], _, (Heap.get?_update_ne _ _ _ _ hxs.symm).trans (Heap.get?_push_at rfl rfl), rfl, fun e he => absurd he (by simp), fun _ => rfl⟩
  · intro h' tk' hn' hs
    have hx1 : (hp.push { cls := .type "dict", data := .dict #[] }).get? x = some { cls := .ref C, data := .fields fv } := Heap.get?_push_of_some _ hx
    refine hq h' tk' hp.objs.size (fun b o hb ho => ?_) (Nat.le_refl _) hxs.symm ((hs.2 x hxs).trans (Heap.get?_update_self _ hx1 rfl)) hn'
    exact (hs.2 b (Nat.ne_of_lt (Heap.lt_size ho))).trans ((Heap.get?_update_ne _ _ _ _ hb).trans (Heap.get?_push_of_some _ ho))
end
/-- what the text says of such a class: C its address, B its built-in base, fld the field, f its __init__, x its parameter -/
structure Xup (P : Program) (K : PySem.W.Frag) (mg : Str → Option Value) (C f : Addr) (B initId newId : String) (bmB : List Value) (px fld : Str) (st : Stmt) : Prop where
  kf : PySem.W.KxsFacts B initId
  fb : PySem.ExcBaseFacts B newId initId bmB
  cls : ∃ nm q N bs bm sn sub ab col dd k0 k1 k2 k3 k5, K.lookup C = some (excClassObj nm q C N bs bm true sn sub ab col dd k0 k1 k2 k3 k5 newId) ∧ (∀ X : String, bm.contains (.type X) = bmB.contains (.type X)) ∧ (∀ y, refuseLoop y "__setattr__" (.ref C :: bm) = pure ()) ∧
    PySem.W.alongIn K "__init__" bm = some (some (.builtin initId)) ∧ bm.contains (.type "object") = true
  sa : PySem.W.findIn K (.ref C) "__setattr__" = some (some (.builtin "object.__setattr__"))
  nf : PySem.W.findIn K (.ref C) fld = some none
  ini : PySem.W.findIn K (.ref C) "__init__" = some (some (.ref f))
  tyf : PySem.W.typeIn K (.ref f) = some (.type "function")
  subB : PySem.W.subIn K (.ref C) (.type B) = some true
  subC : PySem.W.subIn K (.ref C) (.ref C) = some true
  op : PySem.W.nsIn K cStatics "thirdparty.any" = some none
  sup : mg "super" = none
  fn : ∃ (oc : Value) (od : Option Addr) (doc pm : Value) (an : Option Addr) (cda : Addr) (ct kV : Value) (osl : Array (Option Value)) (cc : Addr) (qual : Str) (cl : Value) (cld : Option Addr) (csl : Array (Option Value)) (ccl : Value) (cdd : Option Addr) (vs : Array Value) (ccs : Array (Option Value)) (file : Str) (tf : Tok),
    K.lookup f = some ⟨oc, od, .func (PySem.W.ksFn "__init__" qual (defArgs st) (defBody st) (defScope st) .none kV doc pm an (.ref cda) ct cc), osl⟩ ∧ PySem.W.codeIn K (.ref cda) qual = true ∧
    K.lookup cda = some ⟨ccl, cdd, .fields vs, ccs⟩ ∧ vs[2]? = some (.str file tf) ∧ ((P.main.file : Str) == file) = true ∧ K.lookup cc = some ⟨cl, cld, .cell (some (.ref C)), csl⟩
  top : (P.main.scope.names.lookup ("super" : Str)).isSome = false

/-- its text -/
structure XupSt (px fld : Str) (st : Stmt) : Prop where
  body : ∃ p0 p1 p2 p3 p4 p5 p6 p7 p8 p9 : Pos, defBody st = [.Expr (.Call (.Attribute (.Call (.Name "super" p0) [] [] p1) "__init__" p2) [.Name px p3] [] p4) p5, .Assign [.Attribute (.Name "self" p6) fld p7] (.Name px p8) p9] ∧
    ∀ (qual : Str) (L f : Addr) (cd : Value) (cc : Addr), interactive (PySem.W.ksEnv qual (defScope st) L f cd cc) = false ∧ swapsWith (.Call (.Attribute (.Call (.Name "super" p0) [] [] p1) "__init__" p2) [.Name px p3] [] p4) none p5.line (PySem.W.ksEnv qual (defScope st) L f cd cc) = pure false ∧
      (∃ pl : Sem Bool, eval (.Call (.Attribute (.Call (.Name "super" p0) [] [] p1) "__init__" p2) [.Name px p3] [] p4) (PySem.W.ksEnv qual (defScope st) L f cd cc) = (do
        let ov ← attributeBase (.Call (.Name "super" p0) [] [] p1) "__init__" (PySem.W.ksEnv qual (defScope st) L f cd cc) (eval (.Call (.Name "super" p0) [] [] p1) (PySem.W.ksEnv qual (defScope st) L f cd cc))
        standAt p2.atName
        let (f', first) ← holding [ov] (getMethod ov "__init__" pl)
        callWith p4 f' first (backTo p4 (starEach [.Name px p3] (PySem.W.ksEnv qual (defScope st) L f cd cc))) [])) ∧
      starEach [.Name px p3] (PySem.W.ksEnv qual (defScope st) L f cd cc) = [(false, eval (.Name px p3) (PySem.W.ksEnv qual (defScope st) L f cd cc))] ∧
      swapsWith (.Name px p8) (some (.Attribute (.Name "self" p6) fld p7)) p9.line (PySem.W.ksEnv qual (defScope st) L f cd cc) = pure false
  args : ∃ ar : Arg, ((defArgs st).posonlyargs ++ (defArgs st).args).head? = some ar ∧ ar.arg = "self"
  hks : (defScope st).names.lookup ("super" : Str) = some .globalImplicit
  hkc : (defScope st).names.lookup ("__class__" : Str) = some .free
  hka : (defScope st).names.lookup ("self" : Str) = some .local
  hkx : (defScope st).names.lookup px = some .local
  hk : (defScope st).kind = .function
  hcell : ∀ x ∈ (defScope st).names, x.2 ≠ .cell
  hco : (defScope st).isCoroutine = false
  hgen : (defScope st).isGenerator = false
  npx : px ≠ "self"
  ndb : (px == ("__debug__" : Str)) = false
  bnd : ∀ (s : Shared) (qual : Str) (kV doc pm : Value) (an : Option Addr) (cdv ct : Value) (cc : Addr) (u v : Value), BindsTo s (PySem.W.ksFn "__init__" qual (defArgs st) (defBody st) (defScope st) .none kV doc pm an cdv ct cc) ⟨[u, v], []⟩ [("self", u), (px, v)]
section
open PySem.W PySem.Calls
variable {P : Program} {w : World} {A : Around} {R : Result → Shared → Prop} {K : W.Frag} {mg mb : Str → Option Value} {C f : Addr} {B initId newId : String} {bmB : List Value} {px fld : Str} {st : Stmt}
theorem run_init (T : Xup P K mg C f B initId newId bmB px fld st) (S : XupSt px fld st) {s : Shared} (hroom : A.depth < recursionLimit) (KX : K.In s.heap) (G : s.heap.Ns mainGlobals mg) (Bn : s.heap.Ns builtinsNs mb) (hbb : ∀ x : Str, x ≠ "__name__" → mb x = bootBuiltins x) (hlim : s.heap.NoLimit)
    {e t0 : Addr} {v : Value} (he : s.heap.get? e = some (HandSPX.excO C t0)) (hKe : K.lookup e = none)
    (hq : ∀ h' tk t1 dx, (∀ b o, b ≠ e → s.heap.get? b = some o → h'.get? b = some o) → s.heap.objs.size ≤ dx → h'.get? e = some { cls := .ref C, dict := some dx, data := .fields #[.ref t1, .none, .none, .none, .bool false, .none] } → h'.Ns1 dx (fun y => if y = fld then some v else none) → R (.ok (.ret .none)) { s with heap := h', toks := tk }) :
    codeAny (model P w) A (.call (.ref f) ⟨[.ref e, v], []⟩) R s := by
  obtain ⟨oc, od, doc, pm, an, cda, ct, kV, osl, cc, qual, cl, cld, csl, ccl, cdd, vs, ccs, file, tf, lf, hcd, lcda, hvs, hfile, lcc⟩ := T.fn
  obtain ⟨nm, q, N, bs, bm, sn, sub, ab, col, dd, k0, k1, k2, k3, k5, lC, hT, hps, hal, hob⟩ := T.cls
  obtain ⟨p0, p1, p2, p3, p4, p5, p6, p7, p8, p9, hb, hen⟩ := S.body
  obtain ⟨ar, har, hself⟩ := S.args
  refine ks_codeAny_call_defAt (binds := [("self", .ref e), (px, v)]) hroom (KX _ _ lf) rfl hlim (codeRec_of KX hcd) rfl (S.bnd s qual kV doc pm an _ ct cc _ _) S.hcell ?_ (fun h0 hns hk => ?_) S.hco S.hgen S.hk
  · intro x hx
    simp only [List.mem_cons, List.not_mem_nil, or_false] at hx
    rcases hx with rfl | rfl
    · exact S.hka
    · exact S.hkx
  obtain ⟨hi, hsw, ⟨pl, hev⟩, hst, hsw2⟩ := hen qual s.heap.objs.size f (.ref cda) cc
  rw [hb]
  have eL : e ≠ s.heap.objs.size := Nat.ne_of_lt (Heap.lt_size he)
  have vself : ([(("self" : Str), Value.ref e), (px, v)]).reverse.lookup ("self" : Str) = some (Value.ref e) := by
    show List.lookup ("self" : Str) [(px, v), (("self" : Str), Value.ref e)] = _
    rw [List.lookup_cons, show (("self" : Str) == px) = false by simpa using fun z => S.npx z.symm]
    rfl
  have vpx : ([(("self" : Str), Value.ref e), (px, v)]).reverse.lookup px = some v := by
    show List.lookup px [(px, v), (("self" : Str), Value.ref e)] = _
    rw [List.lookup_cons, beq_self_eq_true]
  have hC0 := hk _ _ (KX _ _ lC)
  have he0 := hk _ _ he
  have K0 : K.In h0 := KX.keeps hk
  refine ks_wpAt_execs_cons (ks_wpAt_Expr_any (ks_wpAt_MethodCall (pl := pl) ?_ hev) hi hsw)
  refine ks_wpAt_super_base (ar := ar) S.hks S.hkc (by decide) rfl (hk _ _ (KX _ _ lf)) rfl har rfl (hk _ _ (KX _ _ lcda)) rfl hvs hfile T.top ?_
  refine ks_loadName_global S.hk S.hks (loadGlobal_builtin (G.keeps hk) T.sup (Bn.keeps hk) ((hbb _ (by decide +kernel)).trans (show bootBuiltins "super" = some (.type "super") by decide +kernel)) ⟨rfl, ?_⟩)
  refine wpAny_loadName_free S.hk S.hkc (c := cc) rfl ⟨_, hk _ _ (KX _ _ lcc), rfl⟩ ?_
  rw [hself]
  refine wpAny_loadName_local S.hk S.hka hns vself ?_
  refine ks_wpAny_isType_cls hC0 rfl ⟨rfl, ?_⟩
  refine ks_wpAny_call_super hC0 rfl he0 rfl (fun c z => nomatch z) (looks_subIn K0 T.subC) (fun h1 e1 k1 => ?_)
  have kC1 := k1 _ _ hC0
  have he1 := k1 _ _ he0
  have K1 : K.In h1 := K0.keeps k1
  have lmro : Looks (model P w) h1 (mroOf (.ref C)) (.ref C :: bm) := (looks_clsIn K1 (show clsIn K C = some _ by unfold clsIn; rw [lC] <;> rfl)).andThen .now
  have linst : Looks (model P w) h1 (isInstance (.ref e) (.type B)) true := (show InstAt h1 e (HandSPX.excO C t0) C none from ⟨he1, rfl, rfl, trivial⟩).type.andThen (looks_subIn K1 T.subB)
  have heC : e ≠ C := fun z => by
    rw [z] at he1
    rw [kC1] at he1
    cases he1
  refine kxs_getMethod T.kf e1 (looks_opaque K1 T.op) (l₀ := .ref C :: bm) lmro (l := bm) (by simp [List.dropWhile_cons]) K1 hal linst heC (by decide) ?_
  have kp : ∀ b o, h1.get? b = some o → (h1.push (kxs_mw initId e)).get? b = some o := fun b o z => Heap.get?_push_of_some _ z
  have hns2 : (h1.push (kxs_mw initId e)).Ns s.heap.objs.size (fun x => ([(("self" : Str), Value.ref e), (px, v)]).reverse.lookup x) := (hns.keeps k1).keeps kp
  show wpAny _ _ (callWith p4 (Value.ref h1.objs.size) [] (backTo p4 (starEach [.Name px p3] (ksEnv qual (defScope st) s.heap.objs.size f (.ref cda) cc))) []) _ _ _
  rw [hst]
  refine kxs_callWith (i := initId) (x := e) rfl (evalArgs_plain (Calls.spliced_cons (wpAny_Name (wpAny_loadName_local S.hk S.hkx hns2 vpx ?_) S.ndb)))
  refine Calls.spliced_nil ⟨Heap.get?_push_at rfl rfl, ?_⟩
  have he2 := kp _ _ he1
  have kC2 := kp _ _ kC1
  refine wpAny_call (codeAny_of_tree ?_)
  show wpAny _ _ (callAny (.ref h1.objs.size) ⟨[v], []⟩) _ _ _
  simp only [callAny]
  refine wpAny_bind (wpAny_load (Heap.get?_push_at rfl rfl) ?_)
  simp only [show (Value.type "method-wrapper" == Value.type "method" || Value.type "method-wrapper" == Value.type "builtin_function_or_method" || Value.type "method-wrapper" == Value.type "method-wrapper") = true by decide, if_true]
  refine KFB.if_so (by decide) ?_
  refine wpAny_bind (check_bound_init T.fb.toExcCallFacts kC2 he2 rfl ?_)
  refine wpAny_bind (wpAny_pure (wpAny_pure ?_))
  refine ⟨plainId_quiet T.fb.init.plain _, codeAny_builtin T.fb.initEntry ?_⟩
  refine exc_init_tree (cls := .ref C) (t0 := t0) (dv := none) (c2 := .none) (c3 := .none) (b4 := .bool false) he2 (by show 1 ≤ sizeLine; decide) fun h3 k3 e3 _ => ?_
  have eL3 : s.heap.objs.size ≠ e := Ne.symm eL
  have hns3 : h3.Ns s.heap.objs.size (fun x => ([(("self" : Str), Value.ref e), (px, v)]).reverse.lookup x) := by
    obtain ⟨o, es, ep, e5, r5⟩ := hns2
    exact ⟨o, es, ep, k3 _ _ eL3 e5, r5⟩
  have K3 : K.In h3 := fun b o z => k3 b o (fun y => by
    subst y
    rw [hKe] at z
    cases z) (kp _ _ (k1 _ _ (hk _ _ (KX _ _ z))))
  refine ks_wpAt_execs_cons (wpAt_of_wpAny (plainObj_wpAny_Assign_Attribute (wpAny_Name (wpAny_loadName_local S.hk S.hkx hns3 vpx ?_) S.ndb) hsw2))
  refine wpAny_Name (wpAny_loadName_local S.hk S.hka hns3 vself ?_) (by decide)
  refine set_plain K3 (ox := { cls := .ref C, dict := none, data := .fields #[.ref (h1.push (kxs_mw initId e)).objs.size, .none, .none, .none, .bool false, .none] }) (od := none) ⟨e3, rfl, rfl, trivial⟩ T.sa ?_
  refine own_store K3 e3 (show clsIn K C = some _ by unfold clsIn; rw [lC] <;> rfl) hps (by show (Value.ref C :: bm).contains (.type "object") = true; rw [List.contains_cons, hob, Bool.or_true]) rfl T.nf fun h4 tk4 dx k4 hdx dxe e4 n4 => ?_
  refine wpAt_of_wpAny (wpAny_execs_nil ?_)
  have sz : s.heap.objs.size ≤ dx := Nat.le_trans (Nat.le_of_lt hns3.lt) hdx
  exact hq h4 _ _ dx (fun b o hb z => k4 b o hb (k3 b o hb (kp _ _ (k1 _ _ (hk _ _ z))))) sz e4 n4
theorem run_make (T : Xup P K mg C f B initId newId bmB px fld st) (S : XupSt px fld st) {s : Shared} {v : Value} (hroom : (A.under (.builtin "type.__call__" ⟨.ref C :: [v], []⟩)).depth < recursionLimit) (KX : K.In s.heap) (G : s.heap.Ns mainGlobals mg) (Bn : s.heap.Ns builtinsNs mb) (hbb : ∀ x : Str, x ≠ "__name__" → mb x = bootBuiltins x) (hlim : s.heap.NoLimit)
    (hq : ∀ h' tk t1 dx, (∀ b o, s.heap.get? b = some o → h'.get? b = some o) → s.heap.objs.size ≤ dx → dx ≠ s.heap.objs.size + 1 → h'.get? (s.heap.objs.size + 1) = some { cls := .ref C, dict := some dx, data := .fields #[.ref t1, .none, .none, .none, .bool false, .none] } → h'.Ns1 dx (fun y => if y = fld then some v else none) →
      R (.ok (.ret (.ref (s.heap.objs.size + 1)))) { s with heap := h', toks := tk }) :
    codeAny (model P w) A (.call (.ref C) ⟨[v], []⟩) R s := by
  obtain ⟨nm, q, N, bs, bm, sn, sub, ab, col, dd, k0, k1, k2, k3, k5, lC, hT, hps, hal, hob⟩ := T.cls
  obtain ⟨hp, g, d, t, os⟩ := s
  have up : ∀ b o, hp.get? b = some o → ((hp.push (W.kdv_tup [v])).push (HandSPX.excO C hp.objs.size)).get? b = some o := fun b o z => Heap.get?_push_of_some _ (Heap.get?_push_of_some _ z)
  refine HandSPX.call_own T.fb hT (KX _ _ lC) (looks_findIn KX T.ini) (fun self => bind_fn KX self T.tyf) (by show 1 ≤ sizeLine; decide) ?_
  have eg : ((hp.push (W.kdv_tup [v])).push (HandSPX.excO C hp.objs.size)).get? (hp.objs.size + 1) = some (HandSPX.excO C hp.objs.size) := Heap.get?_push_at (by rw [Heap.size_push]) rfl
  have hKe : K.lookup (hp.objs.size + 1) = none := by
    cases c : K.lookup (hp.objs.size + 1) with
    | none => rfl
    | some o => exact absurd (show hp.objs.size + 1 < hp.objs.size from Heap.lt_size (KX _ _ c)) (by omega)
  refine run_init T S hroom (KX.keeps up) (G.keeps up) (Bn.keeps up) hbb (hlim.keeps up) eg hKe fun h' tk t1 dx k hdx e2 n2 => ?_
  have hz : hp.objs.size + 2 ≤ dx := by
    have : ((hp.push (W.kdv_tup [v])).push (HandSPX.excO C hp.objs.size)).objs.size = hp.objs.size + 2 := by rw [Heap.size_push, Heap.size_push]
    rw [this] at hdx; exact hdx
  refine ⟨rfl, hq h' tk t1 dx (fun b o z => k b o (Nat.ne_of_lt (Nat.lt_succ_of_lt (Heap.lt_size z))) (up b o z)) (by show hp.objs.size ≤ dx; omega) (by show dx ≠ hp.objs.size + 1; omega) e2 n2⟩
end
/-- C(e): an exception that keeps the value of e -/
def tMkS (C : Addr) (fld : Str) (ta : TA) : L2.St → Hp → XK → Prop := fun σ H Q => ta σ H fun vs H1 => ∃ v, vs = [v] ∧ ∀ dx, H1 dx = none → Q (.ref C) (some dx) (upd H1 dx (.xd [(fld, v)]))
theorem pmk_sup {X : Cx} {C f : Addr} {B initId newId : String} {bmB : List Value} {px fld x : Str} {st : Stmt} {e : Expr} {ta : TA} {p pos : Pos} (T : Xup X.prog X.K X.mg C f B initId newId bmB px fld st) (S : XupSt px fld st) (hr : Room 1 X.A) (hg : Gl X x) (hm : X.mg x = some (.ref C))
    (kp : PySem.W.keepIn X.K (.ref C) = true) (rs : Raises X (.ref C)) (ha : PA X [e] ta) (hdb : (x == ("__debug__" : Str)) = false := by decide)
    (he : starEach [e] X.env = (false, eval e X.env) :: starEach [] X.env := by rfl) (hpl : (backTo pos (starEach [] X.env)).any (·.1) = false := by rfl) :
    PMk X (.Call (.Name x p) [e] [] pos) (tMkS C fld ta) := by
  intro pins s σ H Q I h
  refine wpAny_Call_Name_kw (ld_glob I hg hm (PySem.W.callWith_K (h₀ := X.base) I.ok.mod.kin kp (thn (ha.run pos pins s σ H _ I h) fun us s1 ⟨vs, H1, I1, r, v, ev, q⟩ => ⟨I1.kIn, ?_⟩) he hpl) hdb)
  subst ev
  obtain ⟨u, rfl, ru⟩ := vals1 r
  obtain ⟨mb, Bn, hbb⟩ := I1.mod.blt
  refine wpAny_call (run_make T S (by have := hr.dp; show X.A.depth + 1 < recursionLimit; omega) I1.kIn (I1.mod.glob.keeps I1.bk) (Bn.keeps I1.bk) hbb I1.nolimit fun h' tk t1 dx k hdx dne he2 n2 => ?_)
  have hd1 : H1 dx = none := I1.hok.fresh hdx
  have he1 : H1 (s1.heap.objs.size + 1) = none := I1.hok.fresh (Nat.le_succ _)
  obtain ⟨G, g1, g2⟩ := restrict h' fun b => decide (b ≠ s1.heap.objs.size + 1)
  have gk : ∀ b, b ≠ s1.heap.objs.size + 1 → G.get? b = h'.get? b := fun b hb => g1 b (decide_eq_true hb)
  have ge : G.get? (s1.heap.objs.size + 1) = none := g2 _ (by simp)
  have old : ∀ b o, s1.heap.get? b = some o → G.get? b = some o := fun b o z => (gk b (Nat.ne_of_lt (Nat.lt_succ_of_lt (Heap.lt_size z)))).trans (k b o z)
  have nd : ∀ {b : Addr} {o : Obj}, s1.heap.get? b = some o → b ≠ dx := fun {b o} z => Nat.ne_of_lt (Nat.lt_of_lt_of_le (Heap.lt_size z) hdx)
  have U : Un X.fs [] H1 (upd H1 dx (.xd [(fld, v)])) s1.heap G := {
    keep := fun b o z _ _ _ => old b o z
    slot := fun b o z _ _ _ => ⟨o.slots, old b o z⟩
    free := fun b o z n _ => by rw [upd_ne (nd z)]; exact n
    there := fun b o z _ => ⟨o, old b o z⟩
    tups := fun b xs z => by rw [upd_ne (ne_of_none z hd1)]; exact z
    frzs := fun b o y z => by rw [upd_ne (ne_of_none z hd1)]; exact z
    tbls := fun b ps z => ⟨#[], by rw [upd_ne (ne_of_none z hd1), z]; simp⟩ }
  have J : Inv X pins σ (upd H1 dx (.xd [(fld, v)])) { s1 with heap := G, toks := tk } := I1.un U fun b o z => by
    by_cases hb : b = dx
    · subst hb
      rw [upd_same] at z
      cases z
      exact ⟨_, n2.at fun o y => (gk b dne).trans y, relO_put (fs := []) ru fun _ => True.intro⟩
    · rw [upd_ne hb] at z
      exact (I1.hok b o z).stay (fun c y _ q => old c y q) (fun c hc => by rw [upd_ne (ne_of_none hc hd1)]; exact hc) (fun c xs hc => by rw [upd_ne (ne_of_none hc hd1)]; exact hc)
  exact ⟨s1.heap.objs.size + 1, _, _, { s1 with heap := G, toks := tk }, upd H1 dx (.xd [(fld, v)]), .ref C, some dx, rfl, J, fun b o z => by
      by_cases hb : b = s1.heap.objs.size + 1
      · subst hb
        rw [show ({ s1 with heap := G, toks := tk } : Shared).heap = G from rfl, ge] at z
        cases z
      · rw [← gk b hb]; exact z, ge, he2, ⟨rfl, rfl⟩, rfl, rfl, by rw [upd_ne (Ne.symm dne)]; exact he1, rfl, I1.bare, rs, q dx hd1⟩
end Nv

set_option Elab.async false
set_option linter.all false
set_option maxRecDepth 100000
set_option maxHeartbeats 4000000
namespace Nv
open PySem PySem.Spec PyProof.Rows L2
/-! ### a >> b by an own __rshift__ -/
section
open PySem.W
variable {P : Program} {w : World} {A : Around} {E : Value → Shared → Prop} {s : Shared} {K : W.Frag} {x C f : Addr} {ox : Obj} {od : Option Obj} {b tb : Value} {r : List Value}
/-- the class fills the operator's place -/
theorem fills_K {M : Model} {h : Heap} {nm : String} (X : K.In h) {cd : ClassData} (hc : clsIn K C = some cd) (hm : cd.mro = .ref C :: r) (hs : findIn K (.ref C) (dunder nm) = some (some (.ref f))) : Looks M h (fillsNumberSlot (.ref C) nm) true := by
  intro A Q E s k q
  have KX := X.keeps k
  have lm : Looks M s.heap (mroOf (.ref C)) (.ref C :: r) := by
    have := (looks_clsIn (M := M) KX hc)
    rw [← hm]
    exact this.andThen .now
  unfold fillsNumberSlot
  refine wpAny_bind (lm.here ?_)
  rw [List.anyM]
  refine wpAny_bind (wpAny_mono (Q := fun v s' => v = true ∧ s' = s) (E := E) ?_ (fun v s' hv => ?_) fun _ _ z => z)
  · show wpAny M A (List.anyM _ [PySem.dunder nm, PySem.dunderR nm]) _ E s
    rw [List.anyM]
    refine wpAny_bind (wpAny_bind ((looks_findIn KX hs).here ?_))
    exact wpAny_pure (wpAny_pure ⟨rfl, rfl⟩)
  · obtain ⟨rfl, rfl⟩ := hv
    exact wpAny_pure q
theorem binop_K {op : Operator} {sym nm : String} {Q : Value → Shared → Prop} (hop : op.info = (sym, nm)) (X : K.In s.heap) (I : InstAt s.heap x ox C od) {cd : ClassData} (hc : clsIn K C = some cd) (hm : cd.mro = .ref C :: r) (hs : findIn K (.ref C) (dunder nm) = some (some (.ref f))) (hf : isFn K (.ref f) = true)
    (hb : Looks (model P w) s.heap (typeOf b) tb) (hn : tb = .ref C ∨ Looks (model P w) s.heap (fillsNumberSlot tb nm) false)
    (hcall : wpAny (model P w) A (call (.ref f) [.ref x, b]) (fun v s' => v ≠ .notImplemented ∧ Q v s') E s) : wpAny (model P w) A (binaryOp op (.ref x) b) Q E s := by
  have one : wpAny (model P w) A (tryMethod (.ref x) (dunder nm) b) (fun r s' => ∃ v, r = some v ∧ Q v s') E s := by
    unfold tryMethod
    refine wpAny_bind (special_fn X I hs (beq_iff_eq.mp hf) (wpAny_mono hcall (fun v s' hv => ?_) fun _ _ z => z))
    obtain ⟨h1, h2⟩ := hv
    cases v <;> first | exact absurd rfl h1 | exact wpAny_pure ⟨_, rfl, h2⟩
  unfold binaryOp
  refine wpAny_holding ?_
  rw [hop]
  dsimp only
  refine wpAny_bind (wpAny_mono (Q := fun r s' => ∃ v, r = some v ∧ Q v s') ?_ (fun r s' hr => ?_) fun _ _ z => z)
  · have lf := fills_K (M := model P w) X hc hm hs
    have lt := I.type (M := model P w)
    cases c : (Value.ref C == tb) with
    | true =>
      unfold binaryOp1
      repeat (first
        | (with_reducible refine lt.at ?_) | (with_reducible refine hb.at ?_) | (with_reducible refine lf.at ?_)
        | (simp only [c, if_true, Bool.and_false, Bool.false_eq_true, if_false])
        | (refine wpAny_mono one (fun r s' hr => ?_) fun _ _ z => z)
        | wp_step)
      obtain ⟨v, rfl, hq⟩ := hr
      exact wpAny_pure ⟨v, rfl, hq⟩
    | false =>
      rcases hn with hn | hn
      · subst hn; simp at c
      · unfold binaryOp1
        repeat (first
          | (with_reducible refine lt.at ?_) | (with_reducible refine hb.at ?_) | (with_reducible refine lf.at ?_) | (with_reducible refine hn.at ?_)
          | (simp only [c, if_true, Bool.and_false, Bool.false_eq_true, if_false])
          | (refine wpAny_mono one (fun r s' hr => ?_) fun _ _ z => z)
          | wp_step)
        obtain ⟨v, rfl, hq⟩ := hr
        exact wpAny_pure ⟨v, rfl, hq⟩
  · obtain ⟨v, rfl, hq⟩ := hr
    exact wpAny_pure hq
end
/-! ### defs that may raise -/
/-- Pre: the arguments, what is wanted of what is returned, and of an exception: its class, its fields -/
abbrev PreX := List Dt → (Dt → Prop) → (Addr → List (Str × Dt) → Prop) → Prop
def spX (K : PySem.W.Frag) (Pre : PreX) : Sp := fun vs H Q E => ∃ (G : Hp) (ds : List Dt) (R : Dt → Prop) (XR : Addr → List (Str × Dt) → Prop), Ex G H ∧ Dats K G ds vs ∧ Pre ds R XR ∧
  (∀ v d G' H', Go G H G' H' → Dat K G' d v → R d → Q v H') ∧ ∀ C l od G' H', Go G H G' H' → XD K G' od l → XR C l → E (.ref C) od H'
/-- the callee runs, what is raised wished for at the caller's slots -/
theorem run_fnRS {X : Cx} {CX : CXT} {k : Nat} {f : Addr} {sp : Sp} {E : XK} {pins : List (Addr × Obj)} {σ : L2.St} {H : Hp} {s : Shared} {Q : VK} {us : List Value} {vs : List V} (F : FnR X.prog X.w X.K X.mg X.base CX k f sp) (hr : Room k X.A) (hx : PassesAt CX X σ E) (I : Inv X pins σ H s) (r : Vals vs us) (h : sp vs H Q E) :
    wpAny (model X.prog X.w) X.A (call (.ref f) us) (EP X pins σ Q) X.xe s := by
  refine wpAny_call (codeAny_mono (F X.A X.stack s H us vs Q E hr I.env0 r h) fun r s' hq => ?_)
  cases r with
  | error e => exact hx pins H s e s' I hq
  | ok fl =>
    cases fl with
    | ret u => exact I.after hq
    | next => exact False.elim hq
    | brk => exact False.elim hq
    | cont => exact False.elim hq
def Gfx (P : Program) (w : World) (K : PySem.W.Frag) (mg : Str → Option Value) (base : Heap) (x : Str) (k : Nat) (Pre : PreX) : Prop :=
  ∃ f, FnR P w K mg base (L2.CX P w) k f (spX K Pre) ∧ mg x = some (.ref f) ∧ PySem.W.keepIn K (.ref f) = true
def Gmx (P : Program) (w : World) (K : PySem.W.Frag) (mg : Str → Option Value) (base : Heap) (k : Nat) (f : Addr) (Pre : PreX) : Prop := FnR P w K mg base (L2.CX P w) k f (spX K Pre)
/-- the exception's wish in a def's body -/
abbrev xDef (E : XK) (XR : Addr → List (Str × Dt) → Prop) : XC := ⟨fun c od _ H => E c od H, fun _ C l => XR C l⟩
section
variable {P : Program} {w : World} {K : PySem.W.Frag} {mg : Str → Option Value} {base : Heap}
theorem frx_of {f : Addr} {fd : FuncData} {ps : List Str} {k : Nat} {sp : Sp} {CX : CXT} (F : FnOk P w K mg base CX k f fd ps sp) (b : Binds K fd ps []) : FnR P w K mg base CX k f sp :=
  (F.raw b .nil).imp fun vs H Q E h => by rw [List.append_nil]; exact h
theorem fokx_of {x qual : Str} {st : Stmt} {f : Addr} {fd : FuncData} {N ps : List Str} {k : Nat} {Pre : PreX} (F : Fun K x qual st f fd) (S : FnScope N ps (defScope st)) (len : ∀ ds R XR, Pre ds R XR → ds.length = ps.length)
    (hbody : ∀ (cdv : Value) (A : Around) (outer : List Env) (s : Shared) (H : Hp) (E : XK), Room k (A.deeper (envOfC qual (defScope st) s.heap.objs.size f cdv)) →
      ∃ t, PSs (cxOf (L2.CX P w) P w K mg base N qual (defScope st) f cdv A outer s H E) (defBody st) t ∧ ∀ ds R XR, Pre ds R XR → StD K (xDef E XR) t (startS N.length ds) (fun _ => R .non) (fun _ => False) (fun _ => False) R) :
    FnOk P w K mg base (L2.CX P w) (k + 1) f fd ps (spX K Pre) := by
  refine F.okX S (fun vs H Q E h => ?_) (fun cdv A outer s H vs Q E hr h => ?_)
  · obtain ⟨G, ds, R, XR, e, d, p, _⟩ := h
    rw [d.len]; exact len ds R XR p
  · obtain ⟨G, ds, R, XR, e, d, p, q, qx⟩ := h
    obtain ⟨t, ht, hs⟩ := hbody cdv A outer s H E hr
    exact ⟨t, ht, hs ds R XR p G H _ _ G H (Go.refl e) (sl_start e d) (fun σ' s' G' H' g' _ hn => q .non .non G' H' g' rfl hn) (fun σ' s' G' H' g' _ hn => hn.elim) (fun σ' s' G' H' g' _ hn => hn.elim) (fun v d G' H' g' dd hr => q v d G' H' g' dd hr) fun σ' s' C l od G' H' g' _ xd hx => qx C l od G' H' g' xd hx⟩
theorem gfx_of {x : Str} {st : Stmt} {N ps : List Str} {k : Nat} {Pre : PreX} (F : Df K mg x st ps) (S : FnScope N ps (defScope st)) (len : ∀ ds R XR, Pre ds R XR → ds.length = ps.length)
    (hbody : ∀ (f : Addr) (cdv : Value) (A : Around) (outer : List Env) (s : Shared) (H : Hp) (E : XK), Room k (A.deeper (envOfC x (defScope st) s.heap.objs.size f cdv)) →
      ∃ t, PSs (cxOf (L2.CX P w) P w K mg base N x (defScope st) f cdv A outer s H E) (defBody st) t ∧ ∀ ds R XR, Pre ds R XR → StD K (xDef E XR) t (startS N.length ds) (fun _ => R .non) (fun _ => False) (fun _ => False) R) :
    Gfx P w K mg base x (k + 1) Pre := by
  obtain ⟨f, fd, F, b, m⟩ := F
  exact ⟨f, frx_of (fokx_of F S len fun cdv A outer s H E hr => hbody f cdv A outer s H E hr) b, m, F.kp⟩
theorem gmx_of {C : Addr} {x qual : Str} {st : Stmt} {f : Addr} {N ps : List Str} {k : Nat} {Pre : PreX} (F : Dm K C x qual st ps f) (S : FnScope N ps (defScope st)) (len : ∀ ds R XR, Pre ds R XR → ds.length = ps.length)
    (hbody : ∀ (cdv : Value) (A : Around) (outer : List Env) (s : Shared) (H : Hp) (E : XK), Room k (A.deeper (envOfC qual (defScope st) s.heap.objs.size f cdv)) →
      ∃ t, PSs (cxOf (L2.CX P w) P w K mg base N qual (defScope st) f cdv A outer s H E) (defBody st) t ∧ ∀ ds R XR, Pre ds R XR → StD K (xDef E XR) t (startS N.length ds) (fun _ => R .non) (fun _ => False) (fun _ => False) R) :
    Gmx P w K mg base (k + 1) f Pre := by
  obtain ⟨fd, F, b⟩ := F
  exact frx_of (fokx_of F S len hbody) b
/-- a promise that raises nothing -/
theorem Gmx.calm {k : Nat} {f : Addr} {Pre : PreX} {Pre0 : List Dt → (Dt → Prop) → Prop} (F : Gmx P w K mg base k f Pre) (h : ∀ ds R, Pre0 ds R → Pre ds R fun _ _ => False) : Gm P w K mg base k f Pre0 := by
  intro A outer s H us vs Q E hr e0 rv sp
  obtain ⟨G, ds, R, e, d, p, q⟩ := sp
  refine codeAny_mono (F A outer s H us vs Q E0 hr e0 rv ⟨G, ds, R, fun _ _ => False, e, d, h ds R p, q, fun C l od G' H' _ _ z => z.elim⟩) fun r s' hq => ?_
  cases r with
  | error x =>
    obtain ⟨_, _, _, _, _, _, _, _, _, _, _, _, z⟩ := hq
    exact z.elim
  | ok fl => cases fl <;> exact hq
end
/-! calls, by a wish at the slots -/
section
variable {X : Cx} {P : Program} {w : World} {K : PySem.W.Frag} {mg : Str → Option Value} {base : Heap} {W : WX}
theorem pe_gxS {x : Str} {k : Nat} {Pre : PreX} {p pos : Pos} {e : Expr} {es : List Expr} {t : TA} (F : Gfx P w K mg base x k Pre) (hX : X.prog = P ∧ X.w = w ∧ X.K = K ∧ X.mg = mg ∧ X.base = base) (hr : Room k X.A) (hg : Gl X x) (tk : Takes X W) (ha : PA X (e :: es) t)
    (hdb : (x == ("__debug__" : Str)) = false := by decide) (he : starEach (e :: es) X.env = (false, eval e X.env) :: starEach es X.env := by rfl) (hpl : (backTo pos (starEach es X.env)).any (·.1) = false := by rfl) :
    PE X (.Call (.Name x p) (e :: es) [] pos) (tCallS (spX K Pre) (WE W) t) := by
  obtain ⟨rfl, rfl, rfl, rfl, rfl⟩ := hX
  obtain ⟨f, F, m, kp⟩ := F
  refine ⟨fun pins s σ H Q I h => ?_⟩
  refine wpAny_Call_Name_kw (ld_glob I hg m ?_ hdb)
  refine PySem.W.callWith_K (h₀ := X.base) I.ok.mod.kin kp (thn (ha.run pos pins s σ H _ I h) fun us s1 ⟨vs, H1, I1, r, q⟩ => ⟨I1.kIn, ?_⟩) he hpl
  exact run_fnRS F hr (passAt tk σ) I1 r q
/-- the same where nothing is raised -/
def tCallX (sp : Sp) (t : TA) : TE := fun σ H Q => t σ H fun vs H1 => sp vs H1 Q E0
theorem pe_gx0 {x : Str} {k : Nat} {Pre : PreX} {p pos : Pos} {e : Expr} {es : List Expr} {t : TA} (F : Gfx P w K mg base x k Pre) (hX : X.prog = P ∧ X.w = w ∧ X.K = K ∧ X.mg = mg ∧ X.base = base) (hr : Room k X.A) (hg : Gl X x) (ha : PA X (e :: es) t)
    (hdb : (x == ("__debug__" : Str)) = false := by decide) (he : starEach (e :: es) X.env = (false, eval e X.env) :: starEach es X.env := by rfl) (hpl : (backTo pos (starEach es X.env)).any (·.1) = false := by rfl) :
    PE X (.Call (.Name x p) (e :: es) [] pos) (tCallX (spX K Pre) t) := by
  obtain ⟨rfl, rfl, rfl, rfl, rfl⟩ := hX
  obtain ⟨f, F, m, kp⟩ := F
  refine ⟨fun pins s σ H Q I h => ?_⟩
  refine wpAny_Call_Name_kw (ld_glob I hg m ?_ hdb)
  refine PySem.W.callWith_K (h₀ := X.base) I.ok.mod.kin kp (thn (ha.run pos pins s σ H _ I h) fun us s1 ⟨vs, H1, I1, r, q⟩ => ⟨I1.kIn, ?_⟩) he hpl
  exact wpAny_call (run_fnR F hr passL I1 r q)
end
section
variable {K : PySem.W.Frag} {ξ : XC} {ss : List Sd} {R : Dt → Prop} {N B C : SP}
theorem ex_call {Pre : PreX} {ta : TA} (h : EvA K ta ss fun l => Pre l R (ξ.R ss)) : EvX K ξ (tCallS (spX K Pre) (WE ξ.W) ta) ss R := fun G σ H e s Q q x =>
  h G σ H e s _ fun vs l G1 H1 g1 d1 h2 => ⟨G1, l, R, ξ.R ss, g1.ink, d1, h2, fun v d G' H' g hd hr => q v d G' H' (g1.trans g) hd hr, fun C' fl od G' H' g xd hx => x C' fl od G' H' (g1.trans g) xd hx⟩
theorem ed_callX {Pre : PreX} {ta : TA} (h : EvA K ta ss fun l => Pre l R fun _ _ => False) : EvD K (tCallX (spX K Pre) ta) ss R := fun G σ H e s Q q =>
  h G σ H e s _ fun vs l G1 H1 g1 d1 h2 => ⟨G1, l, R, fun _ _ => False, g1.ink, d1, h2, fun v d G' H' g hd hr => q v d G' H' (g1.trans g) hd hr, fun C' fl od G' H' g xd hx => hx.elim⟩
/-! raise -/
def tRaise0 (C : Addr) (W : WX) : TS := fun _ σ H => W (.ref C) none σ H
theorem sd_raise0 {Cx : Addr} (h : ξ.R ss Cx []) : StD K ξ (tRaise0 Cx ξ.W) ss N B C R := fun G0 H0 D σ G H g s n b c r w => w σ ss Cx [] none G H g s (.inl ⟨rfl, rfl⟩) h
def tRaiseS (Cx : Addr) (fld : Str) (ta : TA) (W : WX) : TS := fun _ σ H => tMkS Cx fld ta σ H fun cls d H' => W cls d σ H'
theorem sd_raiseS {Cx : Addr} {fld : Str} {ta : TA} (h : EvA K ta ss fun l => ∃ d, l = [d] ∧ ξ.R ss Cx [(fld, d)]) : StD K ξ (tRaiseS Cx fld ta ξ.W) ss N B C R := fun G0 H0 D σ G H g s n b c r w =>
  h G σ H g.ink s.sv _ fun vs l G1 H1 g1 d1 ⟨d, e, hx⟩ => by
    subst e
    obtain ⟨v, r1, rfl, hv, hr⟩ := d1
    cases hr
    refine ⟨v, rfl, fun dx hdx => ?_⟩
    have gn : Go G1 H1 (upd G1 dx (.xd [(fld, v)])) (upd H1 dx (.xd [(fld, v)])) := Go.new g1.ink hdx
    exact w σ ss Cx [(fld, d)] (some dx) _ _ ((g.trans g1).trans gn) ((s.go g1).go gn) (.inr ⟨dx, _, rfl, upd_same, ⟨_, _, rfl, hv.up gn.kn, rfl⟩⟩) hx
end
section
variable {X : Cx} {C : Addr} {W : WX}
theorem ps_raise0 {bmB : List Value} {B newId initId : String} {x m : Str} {j : Nat} {p p2 pos pos' : Pos} (F : ExcBaseFacts B newId initId bmB) (q : PySem.W.excIn X.K C bmB newId = true) (gC : X.mg x = some (.ref C)) (kC : PySem.W.keepIn X.K (.ref C) = true) (r : Raises X (.ref C)) (hc : X.calm = true) (tk : Takes X W) (hg : Gl X x)
    (hdb : (x == ("__debug__" : Str)) = false := by decide) : PS X (.Raise (some (.Call (.Name x p) [.Constant (.str m) j p2] [] pos)) none pos') (tRaise0 C W) := ps_raise hc tk (pmk_own F q gC kC r hg hdb)
theorem ps_raiseS {f : Addr} {B initId newId : String} {bmB : List Value} {px fld x : Str} {st : Stmt} {e : Expr} {ta : TA} {p pos pos' : Pos} (T : Xup X.prog X.K X.mg C f B initId newId bmB px fld st) (S : XupSt px fld st) (hr : Room 1 X.A) (hm : X.mg x = some (.ref C))
    (kp : PySem.W.keepIn X.K (.ref C) = true) (rs : Raises X (.ref C)) (hc : X.calm = true) (tk : Takes X W) (hg : Gl X x) (ha : PA X [e] ta) (hdb : (x == ("__debug__" : Str)) = false := by decide)
    (he : starEach [e] X.env = (false, eval e X.env) :: starEach [] X.env := by rfl) (hpl : (backTo pos (starEach [] X.env)).any (·.1) = false := by rfl) :
    PS X (.Raise (some (.Call (.Name x p) [e] [] pos)) none pos') (tRaiseS C fld ta W) := ps_raise hc tk (pmk_sup T S hr hg hm kp rs ha hdb he hpl)
end
end Nv

set_option Elab.async false
set_option linter.all false
set_option maxRecDepth 100000
set_option maxHeartbeats 4000000
namespace Nv
open PySem PySem.Spec PyProof.Rows L2
/-! ### try .. except X as n -/
section
variable {K : PySem.W.Frag} {ξ : XC} {ss : List Sd} {R : Dt → Prop} {N B C : SP}
theorem Sl.forget {H0 G H : Hp} {σ : L2.St} (h : Sl K H0 G H σ ss) {j : Nat} {o : Option V} : Sl K H0 G H (σ.set j o) (ss.set j .no) := by
  refine ⟨h.sv.forget, fun i a l z => ?_, fun i k l m a z1 z2 => ?_⟩
  · obtain ⟨z', c⟩ := get_set_own (fun b m => Sd.noConfusion) z
    rw [List.getElem?_set_ne c]
    exact h.own i a l z'
  · exact h.sep i k l m a (get_set_own (fun b m => Sd.noConfusion) z1).1 (get_set_own (fun b m => Sd.noConfusion) z2).1
def tTryAs (K : PySem.W.Frag) (c : Value) (i : Nat) (tb : WX → TS) (ts : Addr → Value → Option Addr → TS) (Wout : WX) : TS := fun D σ H => tb (wAs K c i ts Wout D) D σ H
theorem psTryAs {X : Cx} {x n : Str} {c : Value} {i : Nat} {body suite : List Stmt} {b₀ : Stmt} {np pos pos' : Pos} {tb : WX → TS} {ts : Addr → Value → Option Addr → TS} {Wout : WX} {K : PySem.W.Frag} (hK : X.K = K) (hs : X.stack = X.env :: X.outer) (hf : X.env.frame = some X.env.locals) (hN : X.N.Nodup) (hi : X.N[i]? = some n) (hln : X.env.kindOf n = some .local) (hc : Names X x c) (tk : Takes X Wout)
    (hb : ∀ (W : WX) (pn : List (Addr × Obj)) (xe : Value → Shared → Prop), Takes (X.tr pn xe) W → PassesOwn (model X.prog X.w) X.A X.env xe → PSs (X.tr pn xe) body (tb W))
    (hsu : ∀ (a : Addr) (oe : Obj) (cls : Value) (d : Option Addr) (pn : List (Addr × Obj)), Zc cls d oe → (∃ vs, oe.data = .fields vs) → PSs (X.suite a ((a, oe) :: pn)) (b₀ :: suite) (ts a cls d)) :
    PS X (.Try body [.ExceptHandler (some (.Name x np)) (some n) (b₀ :: suite) pos'] [] [] pos) (tTryAs K c i tb ts Wout) := by
  subst hK
  exact ps_try_as hs hf hN hi hln hc tk hb hsu
theorem sd_try_as {c : Value} {i : Nat} {tb : WX → TS} {ts : Addr → Value → Option Addr → TS} (XR : List Sd → Addr → List (Str × Dt) → Prop) (hb : ∀ W, StD K ⟨W, XR⟩ (tb W) ss N B C R)
    (hx : ∀ ss' C' l, XR ss' C' l → ∃ b, PySem.W.exmOne K (.ref C') c = some b ∧ (b = true → ∀ a od, StD K x0 (ts a (.ref C') od) (ss'.set i (.dt (.exc a C' od l))) (fun s => N (s.set i .no)) (fun s => B (s.set i .no)) (fun s => C (s.set i .no)) R) ∧ (b = false → ξ.R ss' C' l)) :
    StD K ξ (tTryAs K c i tb ts ξ.W) ss N B C R := fun G0 H0 D σ G H g s n b cc r w =>
  hb (wAs K c i ts ξ.W D) G0 H0 D σ G H g s n b cc r fun σ' ss' C' l od G' H' g' s' xd hr => by
    obtain ⟨k, h1, h2, h3⟩ := hx ss' C' l hr
    refine ⟨k, h1, fun hk a ha => ?_, fun hk => w σ' ss' C' l od G' H' g' s' xd (h3 hk)⟩
    exact h2 hk a od G0 H0 _ _ G' H' g' (s'.set (d := .exc a C' od l) ⟨rfl, xd⟩) (fun σ4 s4 G4 H4 g4 l4 h4 => n _ _ G4 H4 g4 l4.forget h4) (fun σ4 s4 G4 H4 g4 l4 h4 => b _ _ G4 H4 g4 l4.forget h4) (fun σ4 s4 G4 H4 g4 l4 h4 => cc _ _ G4 H4 g4 l4.forget h4) r fun _ _ _ _ _ _ _ _ _ _ z => z.elim
/-- n.f, n the caught exception -/
theorem ed_xf {a Cc : Addr} {cls : Value} {od : Option Addr} {f : Str} {te : TE} (hc : cls = .ref Cc) (h : EvD K te ss fun d => ∃ C' l y, d = .exc a C' od l ∧ l.lookup f = some y ∧ R y) : EvD K (tXf a cls od Cc f te) ss R := fun G σ H e s Q q =>
  h G σ H e s _ fun v d G1 H1 g1 d1 ⟨C', l, y, h1, h2, h3⟩ => by
    subst h1
    obtain ⟨rfl, hd⟩ := d1
    rcases hd with ⟨_, rfl⟩ | ⟨dx, fs, rfl, hx, hf⟩
    · cases h2
    · obtain ⟨u, hu, du⟩ := hf.lookup h2
      exact ⟨rfl, hc, dx, fs, u, rfl, g1.ink _ _ hx, hu, q u y G1 H1 g1 du h3⟩
end
/-! ### a >> b, own -/
def rOpO (K : PySem.W.Frag) (C : Addr) (nm : String) (sp : Sp) (E : XK) : R2 := fun x y H Q => ∃ a dx fs t, x = .ref a ∧ H a = some (.ins C dx fs) ∧ TyX K H y t ∧ (t = .ref C ∨ (∃ n, t = .type n ∧ ∀ (M : Model) (h : Heap), PySem.W.Looks M h (fillsNumberSlot (.type n) nm) false)) ∧ sp [x, y] H Q E
section
variable {X : Cx} {C g : Addr} {n : Nat} {sp : Sp}
theorem not_ni {v : V} {u : Value} (r : RelV v u) : u ≠ .notImplemented := by
  intro e
  subst e
  cases v <;> first | exact nomatch r | (obtain ⟨_, z⟩ := r; exact nomatch z)
theorem run_opO {CX : CXT} {E : XK} {op : Operator} {sym nm : String} {K : PySem.W.Frag} {cd : ClassData} {r : List Value} {pins : List (Addr × Obj)} {σ : L2.St} {H : Hp} {s : Shared} {x y : V} {v u : Value} {Q : VK} (hK : X.K = K) (hop : op.info = (sym, nm)) (hc : PySem.W.clsIn K C = some cd) (hm : cd.mro = .ref C :: r)
    (hs : PySem.W.findIn K (.ref C) (PySem.dunder nm) = some (some (.ref g))) (hf : PySem.W.isFn K (.ref g) = true) (F : FnR X.prog X.w X.K X.mg X.base CX n g sp) (hr : Room n X.A) (hx : PassesAt CX X σ E) (I : Inv X pins σ H s) (rx : RelV x v) (ry : RelV y u) (h : rOpO K C nm sp E x y H Q) :
    wpAny (model X.prog X.w) X.A (binaryOp op v u) (EP X pins σ Q) X.xe s := by
  subst hK
  obtain ⟨a, dx, fs, t, rfl, ha, ty, hn, q⟩ := h
  cases (show v = Value.ref a from rx)
  obtain ⟨mA, O, _⟩ := ins_get I.hok ha
  obtain ⟨od, J, _⟩ := O.look
  obtain ⟨P, Z, p, _⟩ := kit_of I ry ty
  refine binop_K hop I.kIn J hc hm hs hf (Z.ty _ _ I.kIn p) (hn.imp id fun ⟨k, e, z⟩ => by subst e; exact z _ _) ?_
  refine wpAny_mono (run_fnRS (us := [.ref a, u]) (vs := [.ref a, y]) F hr hx I (.cons rfl (.cons ry .nil)) q) (fun w s' z => ?_) fun _ _ x => x
  obtain ⟨z', H', I', rz, qz⟩ := z
  exact ⟨not_ni rz, z', H', I', rz, qz⟩
theorem opOwn0 {op : Operator} {sym nm : String} {K : PySem.W.Frag} {cd : ClassData} {r : List Value} (hK : X.K = K) (hop : op.info = (sym, nm)) (hc : PySem.W.clsIn K C = some cd) (hm : cd.mro = .ref C :: r) (hs : PySem.W.findIn K (.ref C) (PySem.dunder nm) = some (some (.ref g))) (hf : PySem.W.isFn K (.ref g) = true)
    (F : FnR X.prog X.w X.K X.mg X.base (L2.CX X.prog X.w) n g sp) (hr : Room n X.A) : OpR X (binaryOp op) (rOpO K C nm sp E0) := fun pins s σ H x y v u Q I rx ry h =>
  run_opO hK hop hc hm hs hf F hr (fun pins H s e s' I c => passL pins σ H s e s' I c) I rx ry h
/-- .. what is raised wished for at the slots -/
def tOpS (K : PySem.W.Frag) (C : Addr) (nm : String) (sp : Sp) (W : WX) (ta tb : TE) : TE := fun σ H Q => ta σ H fun x H1 => tb σ H1 fun y H2 => rOpO K C nm sp (WE W σ) x y H2 Q
theorem pe_opS {op : Operator} {sym nm : String} {K : PySem.W.Frag} {cd : ClassData} {r : List Value} {W : WX} {a b : Expr} {ta tb : TE} {pos : Pos} (hK : X.K = K) (hop : op.info = (sym, nm)) (hc : PySem.W.clsIn K C = some cd) (hm : cd.mro = .ref C :: r) (hs : PySem.W.findIn K (.ref C) (PySem.dunder nm) = some (some (.ref g))) (hf : PySem.W.isFn K (.ref g) = true)
    (F : FnR X.prog X.w X.K X.mg X.base (L2.CX X.prog X.w) n g sp) (hr : Room n X.A) (tk : Takes X W) (ha : PE X a ta) (hb : PE X b tb) : PE X (.BinOp a op b pos) (tOpS K C nm sp W ta tb) := by
  refine ⟨fun pins s σ H Q I h => ?_⟩
  refine wpAny_BinOp (thn (ha.run pins s σ H _ I h) fun v s1 ⟨x, H1, I1, rx, q1⟩ => thn (hb.run pins s1 σ H1 _ I1 q1) fun u s2 ⟨y, H2, I2, ry, q2⟩ => ?_)
  exact run_opO hK hop hc hm hs hf F hr (passAt tk σ) I2 rx ry q2
end
section
variable {K : PySem.W.Frag} {ξ : XC} {ss : List Sd} {R : Dt → Prop}
def opTy (nm : String) (C : Addr) (t : Value) : Prop := t = .ref C ∨ (∃ n, t = .type n ∧ ∀ (M : Model) (h : Heap), PySem.W.Looks M h (fillsNumberSlot (.type n) nm) false)
theorem rd_opO {C : Addr} {nm : String} {l : List (Str × Dt)} {y : Dt} {t : Value} {Pre : PreX} (ht : tyV' y = some t) (hc : clsOk K y) (hn : opTy nm C t) (h : Pre [.ins C l, y] R fun _ _ => False) : RD K (rOpO K C nm (spX K Pre) E0) (.ins C l) y R := fun G H v w e d1 d2 Q k => by
  obtain ⟨a, dx, fs, rfl, ha, hf⟩ := d1
  exact ⟨a, dx, fs, t, rfl, e _ _ ha, tyx_of' (d2.up e) ht hc, hn, G, [.ins C l, y], R, fun _ _ => False, e, ⟨_, _, rfl, ⟨a, dx, fs, rfl, ha, hf⟩, _, _, rfl, d2, rfl⟩, h, k, fun _ _ _ _ _ _ _ z => z.elim⟩
theorem ex_op {C : Addr} {nm : String} {ta tb : TE} {Pre : PreX} (h : EvD K ta ss fun x => EvD K tb ss fun y => ∃ l t, x = .ins C l ∧ tyV' y = some t ∧ clsOk K y ∧ opTy nm C t ∧ Pre [x, y] R (ξ.R ss)) : EvX K ξ (tOpS K C nm (spX K Pre) ξ.W ta tb) ss R := fun G σ H e s Q q x =>
  h G σ H e s _ fun v dx G1 H1 g1 d1 h2 => h2 G1 σ H1 g1.ink (s.up g1.kn) _ fun u dy G2 H2 g2 d2 ⟨l, t, e1, ht, hc, hn, hp⟩ => by
    subst e1
    have d1' := d1.up g2.kn
    obtain ⟨a, dx, fs, rfl, ha, hf⟩ := d1'
    exact ⟨a, dx, fs, t, rfl, g2.ink _ _ ha, tyx_of' (d2.up g2.ink) ht hc, hn, G2, [.ins C l, dy], R, ξ.R ss, g2.ink, ⟨_, _, rfl, ⟨a, dx, fs, rfl, ha, hf⟩, _, _, rfl, d2, rfl⟩, hp, fun v d G' H' g hd hr => q v d G' H' ((g1.trans g2).trans g) hd hr, fun C' fl od G' H' g xd hx => x C' fl od G' H' ((g1.trans g2).trans g) xd hx⟩
end
end Nv

set_option Elab.async false
set_option linter.all false
set_option maxRecDepth 100000
set_option maxHeartbeats 4000000
namespace Nv
open PySem PySem.Spec PyProof.Rows L2
theorem psNox {X : Cx} {st : Stmt} {t : TS} (h : PS X.nox st t) : PS X st t := ⟨fun pins s σ H D I hw =>
  wpAny_mono (h.run pins s σ H D (I.wish _) hw) (fun _ _ z => z.unwish) fun _ _ z => False.elim z⟩
/-- an exception class of the text without an __init__ of its own -/
structure XoC (K : PySem.W.Frag) (mg : Str → Option Value) (nm : Str) (C : Addr) (bmB : List Value) (newId : String) : Prop where
  m : mg nm = some (.ref C)
  xi : PySem.W.excIn K C bmB newId = true
  kp : PySem.W.keepIn K (.ref C) = true
  sb : PySem.W.subIn K (.ref C) (.type "BaseException") = some true
  ty : PySem.W.typeIn K (.ref C) = some (.type "type")
  hd : PySem.W.hasDictIn K C = true
/-- one whose __init__ says super().__init__(x); self.fld = x -/
structure XsC (P : Program) (K : PySem.W.Frag) (mg : Str → Option Value) (nm : Str) (C f : Addr) (B initId newId : String) (bmB : List Value) (px fld : Str) (st : Stmt) : Prop where
  m : mg nm = some (.ref C)
  kp : PySem.W.keepIn K (.ref C) = true
  sb : PySem.W.subIn K (.ref C) (.type "BaseException") = some true
  ty : PySem.W.typeIn K (.ref C) = some (.type "type")
  hd : PySem.W.hasDictIn K C = true
  up : Xup P K mg C f B initId newId bmB px fld st
  xf : XfC K C
end Nv

set_option Elab.async false
set_option linter.all false
set_option maxRecDepth 100000
set_option maxHeartbeats 4000000
namespace Nv
open PySem PySem.Spec PyProof.Rows L2
open SX (S)
theorem rd_eq_nats {K : PySem.W.Frag} {R : Dt → Prop} {l m : List Nat} (h : R (.bl (decide (l = m)))) : RD K (rEqA K) (.tup (natsD l)) (.tup (natsD m)) R := by
  refine rd_eq_d (toPy_nats l) (toPy_nats m) (sh_nats l).1 (sh_nats m).1 ?_
  show R (.bl (PyData.eqvAll (intsP l) (intsP m)))
  rw [eqv_nats]; exact h
/-! parts that are not all -/
def noAll : Dt → Bool
  | .str z => !decide (z = "all")
  | _ => false
theorem filt_parts : ∀ {ps : List Part}, (∀ p ∈ ps, p.ok) → ((ps.map Part.d).filter noAll).map id = (ps.filter fun p => !p.isAll).map Part.d
  | [], _ => rfl
  | p :: ps, h => by
    have ih := filt_parts (ps := ps) fun q hq => h q (by simp [hq])
    rw [List.map_id] at ih ⊢
    rw [List.map_cons, List.filter_cons, List.filter_cons]
    have e : noAll p.d = !p.isAll := by
      show (!decide (p.s = "all")) = _
      rw [part_all (h p (by simp))]
    rw [e]
    cases p.isAll with
    | true => exact ih
    | false =>
      show p.d :: List.filter noAll (List.map Part.d ps) = List.map Part.d (p :: List.filter (fun p => !p.isAll) ps)
      rw [List.map_cons, ih]
theorem whole_is : ∀ ps : List Part, (ps.filter fun p => !p.isAll).isEmpty = ps.all Part.isAll
  | [] => rfl
  | p :: ps => by
    rw [List.filter_cons, List.all_cons, ← whole_is ps]
    cases p.isAll <;> rfl
theorem rd_parts_nil {K : PySem.W.Frag} {R : Dt → Prop} {ps : List Part} (hp : ∀ p ∈ ps, p.ok) (h : R (.bl ps.isEmpty)) : RD K (rEqA K) (.lst (ps.map Part.d)) (.lst []) R := by
  obtain ⟨h1, h2⟩ := lay_parts hp
  refine rd_eq_d (p := .list (partsP ps)) (q := .list []) (by show (toPy.toPys (ps.map Part.d)).map PyData.list = _; rw [toPys_parts]; rfl) rfl (by show (PyData.canLayAll0 (partsP ps) && decide (PyData.depthAll (partsP ps) + 1 ≤ 64)) = true; rw [h1, h2]; rfl) (by decide) ?_
  have e : PyData.eqv (.list (partsP ps)) (.list []) = ps.isEmpty := by cases ps <;> rfl
  rw [e]; exact h
theorem rd_parts_ne {K : PySem.W.Frag} {R : Dt → Prop} {ps : List Part} (hp : ∀ p ∈ ps, p.ok) (h : R (.bl (!ps.isEmpty))) : RD K (rNeA K) (.lst (ps.map Part.d)) (.lst []) R := by
  obtain ⟨h1, h2⟩ := lay_parts hp
  refine rd_ne_d (p := .list (partsP ps)) (q := .list []) (by show (toPy.toPys (ps.map Part.d)).map PyData.list = _; rw [toPys_parts]; rfl) rfl (by show (PyData.canLayAll0 (partsP ps) && decide (PyData.depthAll (partsP ps) + 1 ≤ 64)) = true; rw [h1, h2]; rfl) (by decide) ?_
  have e : PyData.eqv (.list (partsP ps)) (.list []) = ps.isEmpty := by cases ps <;> rfl
  rw [e]; exact h
/-! repr of parts -/
theorem toPqs_parts : ∀ ps : List Part, toPqs (ps.map Part.d) = some (partsP ps)
  | [] => rfl
  | p :: ps => by
    show (match toPq p.d, toPqs (ps.map Part.d) with | some p, some q => some (p :: q) | _, _ => none) = _
    rw [toPqs_parts ps]; rfl
theorem S_small {l : List Nat} (h : ∀ c ∈ l, c < 1000) : fitD (.str (S l)) = true := by
  show ((S l).cps.toList.all fun c => decide (c < 16 ^ 8)) = true
  rw [List.all_eq_true]
  intro c hc
  have : c ∈ l := by simpa [SX.S] using hc
  exact decide_eq_true (Nat.lt_trans (h c this) (by decide))
theorem sg_small (b : Bool) : sg b < 1000 := by cases b <;> decide
theorem txt_small (p : Part) : ∀ c ∈ p.txt, c < 1000 := by
  cases p with
  | all => decide
  | pat f b =>
    intro c hc
    have : c ∈ f.map sg ++ [46, 46] ++ b.map sg := by simpa [Part.txt] using hc
    simp only [List.mem_append, List.mem_map] at this
    rcases this with (⟨x, _, rfl⟩ | h) | ⟨x, _, rfl⟩
    · exact sg_small x
    · have : ∀ c ∈ ([46, 46] : List Nat), c < 1000 := by decide
      exact this c h
    · exact sg_small x
theorem joinL_small {a : List Nat} (ha : ∀ c ∈ a, c < 1000) : ∀ {l : List (List Nat)}, (∀ x ∈ l, ∀ c ∈ x, c < 1000) → ∀ c ∈ TL.joinL a l, c < 1000
  | [], _ => fun c hc => by cases hc
  | [x], h => fun c hc => h x (by simp) c hc
  | x :: y :: r, h => fun c hc => by
    have ih := joinL_small ha (l := y :: r) fun z hz => h z (List.mem_cons_of_mem _ hz)
    have : c ∈ x ++ (a ++ TL.joinL a (y :: r)) := hc
    simp only [List.mem_append] at this
    rcases this with h1 | h1 | h1
    · exact h x (by simp) c h1
    · exact ha c h1
    · exact ih c h1
theorem joinL_len {a : List Nat} : ∀ l : List (List Nat), (TL.joinL a l).length ≤ (l.map List.length).sum + l.length * a.length
  | [] => by show 0 ≤ _; omega
  | [x] => by show x.length ≤ _; simp
  | x :: y :: r => by
    have ih := joinL_len (a := a) (y :: r)
    show (x ++ (a ++ TL.joinL a (y :: r))).length ≤ _
    have e : (x :: y :: r).length * a.length = (y :: r).length * a.length + a.length := by
      rw [List.length_cons, Nat.add_mul, Nat.one_mul]
    rw [List.length_append, List.length_append, List.map_cons, List.sum_cons, e]
    omega
theorem strOf_is (ps : List Part) : strOf ps = S (if ps.isEmpty = true then [97, 108, 108] else TL.joinL [32, 62, 32] (ps.map Part.txt)) := by
  unfold strOf
  split
  · rfl
  · rw [show (" > " : Str) = S [32, 62, 32] from rfl, show ps.map Part.s = (ps.map Part.txt).map S by rw [List.map_map]; rfl, SX.join_S]
theorem sum_txt : ∀ {ps : List Part}, (∀ p ∈ ps, p.ok) → ((ps.map Part.txt).map List.length).sum ≤ 7 * ps.length
  | [], _ => by decide
  | p :: ps, h => by
    have ih := sum_txt (ps := ps) fun q hq => h q (by simp [hq])
    have h1 := txt_len (h p (by simp))
    show p.txt.length + ((ps.map Part.txt).map List.length).sum ≤ 7 * (ps.length + 1)
    omega
theorem strOf_len {ps : List Part} (hp : ∀ p ∈ ps, p.ok) : (strOf ps).length ≤ 10 * ps.length + 3 := by
  rw [strOf_is, SX.S_len]
  split
  · show 3 ≤ _; omega
  · have h1 := joinL_len (a := [32, 62, 32]) (ps.map Part.txt)
    have h2 := sum_txt hp
    rw [List.length_map, show ([32, 62, 32] : List Nat).length = 3 from rfl] at h1
    omega
theorem strOf_fit (ps : List Part) : fitD (.str (strOf ps)) = true := by
  rw [strOf_is]
  refine S_small ?_
  split
  · decide
  · refine joinL_small (by decide) fun x hx => ?_
    obtain ⟨p, _, rfl⟩ := List.mem_map.mp hx
    exact txt_small p
theorem parts_fit : ∀ ps : List Part, fitAll (partsP ps) = true
  | [] => rfl
  | p :: ps => by
    show (fitD (.str p.s) && fitAll (partsP ps)) = true
    rw [parts_fit ps, S_small (txt_small p)]; rfl
theorem parts_sz : ∀ {ps : List Part}, (∀ p ∈ ps, p.ok) → szAll (partsP ps) ≤ 74 * ps.length
  | [], _ => by decide
  | p :: ps, h => by
    have ih := parts_sz (ps := ps) fun q hq => h q (by simp [hq])
    have h1 := txt_len (h p (by simp))
    have h2 : p.s.length ≤ 7 := by rw [SX.S_len]; exact h1
    show 10 * p.s.length + 2 + 2 + szAll (partsP ps) ≤ 74 * (ps.length + 1)
    omega
theorem parts_dp : ∀ ps : List Part, PyData.depthAll (partsP ps) = 0
  | [] => rfl
  | p :: ps => by show max 0 (PyData.depthAll (partsP ps)) = 0; rw [parts_dp ps]; rfl
theorem log2_small {i : Int} (h : i.natAbs ≤ 100000) : i.natAbs.log2 < 17 := by
  by_cases c : i.natAbs = 0
  · rw [c]; decide
  · rw [Nat.log2_lt c]; exact Nat.lt_of_le_of_lt h (by decide)
theorem fit_int {i : Int} (h : i.natAbs ≤ 100000) : fitD (.int i) = true := decide_eq_true (Nat.lt_trans (log2_small h) (by decide))
theorem sz_int {i : Int} (h : i.natAbs ≤ 100000) : szD (.int i) ≤ 20 := by
  have := log2_small h
  show i.natAbs.log2 + 3 ≤ 20
  omega
/-! rows of small things -/
structure ItemP (d : Dt) (p : PyData) : Prop where
  py : toPq d = some p
  fit : fitD p = true
  sz : szD p ≤ 100
  dp : p.depth ≤ 1
def Item (d : Dt) : Prop := ∃ p, ItemP d p
theorem items_of : ∀ {l : List Dt}, (∀ x ∈ l, Item x) → ∃ ps, toPqs l = some ps ∧ fitAll ps = true ∧ szAll ps ≤ 102 * l.length ∧ PyData.depthAll ps ≤ 1
  | [], _ => ⟨[], rfl, rfl, by decide, by decide⟩
  | d :: l, h => by
    obtain ⟨p, h1, h2, h3, h4⟩ := h d (by simp)
    obtain ⟨ps, k1, k2, k3, k4⟩ := items_of (l := l) fun x hx => h x (by simp [hx])
    refine ⟨p :: ps, ?_, ?_, ?_, ?_⟩
    · show (match toPq d, toPqs l with | some p, some q => some (p :: q) | _, _ => none) = _
      rw [h1, k1]
    · show (fitD p && fitAll ps) = true
      rw [h2, k2]; rfl
    · show szD p + 2 + szAll ps ≤ 102 * (l.length + 1)
      omega
    · show max p.depth (PyData.depthAll ps) ≤ 1
      omega
theorem cd_repr_items {K : PySem.W.Frag} {R : Dt → Prop} {l : List Dt} (hi : ∀ x ∈ l, Item x) (hl : l.length ≤ 1000) (h : ∀ z, (∀ R' : Dt → Prop, R' (.str z) → CD K (rReprQ K) [.tup l] R') → R (.str z)) : CD K (rReprQ K) [.tup l] R := by
  obtain ⟨ps, k1, k2, k3, k4⟩ := items_of hi
  have k : ∀ R' : Dt → Prop, R' (.str (PyData.tuple ps).shown) → CD K (rReprQ K) [.tup l] R' := fun R' hr => cd_reprQ (p := .tuple ps) (by show (toPqs l).map PyData.tuple = _; rw [k1]; rfl) k2 (by show PyData.depthAll ps + 1 ≤ 60; omega) (by show szAll ps + 3 ≤ 1000000; omega) hr
  exact k R (h _ k)
theorem item_int {i : Int} (h : i.natAbs ≤ 100000) : Item (.int i) := ⟨.int i, rfl, fit_int h, Nat.le_trans (sz_int h) (by decide), by show 0 ≤ 1; decide⟩
theorem item_of8 {k : Int} (h : k.natAbs ≤ 1000) : ∀ x ∈ [Dt.int k, .non, .str "a", .tup [.int k], .lst [.int k], .dic [], .int (-k), .bl true], Item x := by
  have h1 := fit_int (i := k) (by omega)
  have h2 := sz_int (i := k) (by omega)
  simp only [List.forall_mem_cons]
  refine ⟨item_int (by omega), ⟨.none, rfl, rfl, by decide, by decide⟩, ⟨.str "a", rfl, by decide +kernel, by decide +kernel, by decide⟩, ⟨.tuple [.int k], rfl, ?_, ?_, by show max 0 0 + 1 ≤ 1; decide⟩, ⟨.list [.int k], rfl, ?_, ?_, by show max 0 0 + 1 ≤ 1; decide⟩, ⟨.dict [], rfl, rfl, by decide, by show 0 + 1 ≤ 1; decide⟩, item_int (by omega), ⟨.bool true, rfl, rfl, by decide, by decide⟩, fun x hx => nomatch hx⟩
  · show (fitD (.int k) && true) = true; rw [h1]; rfl
  · show szD (.int k) + 2 + 0 + 3 ≤ 100; omega
  · show (fitD (.int k) && true) = true; rw [h1]; rfl
  · show szD (.int k) + 2 + 0 + 2 ≤ 100; omega
theorem items_nats {l : List Nat} (h : ∀ x ∈ l, x ≤ 10000) : ∀ d ∈ natsD l, Item d := fun d hd => by
  obtain ⟨k, hk, rfl⟩ := mem_nats hd
  have := h k hk
  exact item_int (by omega)
theorem chain1 (ps : List Part) : chain ps 1 = [] ∨ chain ps 1 = [0] := by
  have h1 := chain_len ps 1
  match h : chain ps 1 with
  | [] => exact .inl rfl
  | [x] =>
    have : x < 1 := chain_lt (ps := ps) (n := 1) (by rw [h]; simp)
    right
    rw [show x = 0 by omega]
  | _ :: _ :: _ => rw [h] at h1; simp at h1
theorem chain0 (ps : List Part) : chain ps 0 = [] := List.length_eq_zero_iff.mp (Nat.le_zero.mp (chain_len ps 0))
end Nv

set_option Elab.async false
set_option linter.all false
set_option maxRecDepth 100000
set_option maxHeartbeats 4000000
namespace Nv
open PySem PySem.Spec PyProof.Rows L2
open SX (S)
/-! what is equal to itself -/
theorem rd_eq_refl {K : PySem.W.Frag} {R : Dt → Prop} {x : Dt} {p : PyData} (hx : toPy x = some p) (sp : SeqAt.shaped p = true) (h : R (.bl true)) : RD K (rEqA K) x x R := rd_eq_d hx hx sp sp (by rw [SeqAt.eqv_refl p (Bool.and_eq_true_iff.mp sp).1]; exact h)
theorem rd_ne_refl {K : PySem.W.Frag} {R : Dt → Prop} {x : Dt} {p : PyData} (hx : toPy x = some p) (sp : SeqAt.shaped p = true) (h : R (.bl false)) : RD K (rNeA K) x x R := rd_ne_d hx hx sp sp (by rw [SeqAt.eqv_refl p (Bool.and_eq_true_iff.mp sp).1]; exact h)
theorem toPy_partsT (ps : List Part) : toPy (.tup (ps.map Part.d)) = some (.tuple (partsP ps)) := by
  show (toPy.toPys (ps.map Part.d)).map PyData.tuple = _
  rw [toPys_parts]; rfl
theorem sh_parts {ps : List Part} (h : ∀ p ∈ ps, p.ok) : SeqAt.shaped (.tuple (partsP ps)) = true := by
  obtain ⟨h1, h2⟩ := lay_parts h
  show (PyData.canLayAll0 (partsP ps) && decide (PyData.depthAll (partsP ps) + 1 ≤ 64)) = true
  rw [h1, h2]; rfl
/-! rows of pairs ("v", place) -/
abbrev vD (i : Nat) : Dt := .tup [.str "v", .int i]
abbrev vP (i : Nat) : PyData := .tuple [.str "v", .int i]
theorem toPys_vs : ∀ l : List Nat, toPy.toPys (l.map vD) = some (l.map vP)
  | [] => rfl
  | x :: l => by
    show (match toPy (vD x), toPy.toPys (l.map vD) with | some p, some q => some (p :: q) | _, _ => none) = _
    rw [toPys_vs l]; rfl
theorem lay_vs : ∀ l : List Nat, PyData.canLayAll0 (l.map vP) = true ∧ PyData.depthAll (l.map vP) ≤ 1
  | [] => ⟨rfl, by decide⟩
  | x :: l => by
    obtain ⟨h1, h2⟩ := lay_vs l
    refine ⟨?_, ?_⟩
    · show ((PyData.strOk "v" && (true && true)) && PyData.canLayAll0 (l.map vP)) = true
      rw [h1, show PyData.strOk "v" = true by decide +kernel]; rfl
    · show max (max 0 (max 0 0) + 1) (PyData.depthAll (l.map vP)) ≤ 1
      omega
theorem rd_ne_vs {K : PySem.W.Frag} {R : Dt → Prop} (l : List Nat) (h : R (.bl false)) : RD K (rNeA K) (.tup (l.map vD)) (.tup (l.map vD)) R := by
  obtain ⟨h1, h2⟩ := lay_vs l
  refine rd_ne_refl (p := .tuple (l.map vP)) (by show (toPy.toPys (l.map vD)).map PyData.tuple = _; rw [toPys_vs]; rfl) ?_ h
  show (PyData.canLayAll0 (l.map vP) && decide (PyData.depthAll (l.map vP) + 1 ≤ 64)) = true
  rw [h1, decide_eq_true (by omega)]; rfl
/-! one cutter after another -/
theorem kept_app {α : Type} : ∀ (ps qs : List Part) (row : List α), kept (ps ++ qs) row = kept qs (kept ps row)
  | [], _, _ => rfl
  | p :: ps, qs, row => kept_app ps qs (cutRow p row)
theorem within_app (ps qs : List Part) : withinB (chain (ps ++ qs)) (chain ps) = true := by
  unfold withinB
  rw [List.all_eq_true]
  intro n _
  rw [List.all_eq_true]
  intro x hx
  unfold chain at hx
  rw [kept_app] at hx
  exact decide_eq_true ((kept_sub qs _).subset hx)
theorem all_app (ps qs : List Part) : ∀ p ∈ ps ++ qs, p ∈ ps ∨ p ∈ qs := fun p h => List.mem_append.mp h
theorem oks_app {ps qs : List Part} (hp : ∀ p ∈ ps, p.ok) (hq : ∀ p ∈ qs, p.ok) : ∀ p ∈ ps ++ qs, p.ok := fun p h => by
  rcases List.mem_append.mp h with h | h
  · exact hp p h
  · exact hq p h
end Nv

set_option Elab.async false
set_option linter.all false
set_option maxRecDepth 100000
set_option maxHeartbeats 4000000
namespace Nv
open PySem PySem.Spec PyProof.Rows L2
def top (i : Nat) : Stmt := PySem.Challenge.pw_namedabove_k04_cutters_one_after_another.main.body.getD i (.Pass ⟨0, 0, 0, 0⟩)
abbrev s_InvalidNumber___init__ : Stmt := inClass (top 5) 0
theorem xst_InvalidNumber : XupSt "value" "value" s_InvalidNumber___init__ := ⟨⟨_, _, _, _, _, _, _, _, _, _, rfl, fun _ _ _ _ _ => ⟨rfl, rfl, ⟨_, rfl⟩, rfl, rfl⟩⟩, ⟨_, rfl, rfl⟩, rfl, rfl, rfl, rfl, rfl, by decide +kernel, rfl, rfl, by decide, by decide, fun _ _ _ _ _ _ _ _ _ _ _ => .of_eq rfl⟩
abbrev s_TooMany___init__ : Stmt := inClass (top 6) 0
theorem xst_TooMany : XupSt "limit" "limit" s_TooMany___init__ := ⟨⟨_, _, _, _, _, _, _, _, _, _, rfl, fun _ _ _ _ _ => ⟨rfl, rfl, ⟨_, rfl⟩, rfl, rfl⟩⟩, ⟨_, rfl, rfl⟩, rfl, rfl, rfl, rfl, rfl, by decide +kernel, rfl, rfl, by decide, by decide, fun _ _ _ _ _ _ _ _ _ _ _ => .of_eq rfl⟩
abbrev s_is_integer : Stmt := top 8
theorem sc_is_integer : FnScope ["value"] ["value"] (defScope s_is_integer) := ⟨rfl, rfl, rfl, by decide +kernel, rfl, by decide +kernel, by decide +kernel⟩
abbrev s_require_number : Stmt := top 9
theorem sc_require_number : FnScope ["value", "least", "most"] ["value", "least", "most"] (defScope s_require_number) := ⟨rfl, rfl, rfl, by decide +kernel, rfl, by decide +kernel, by decide +kernel⟩
abbrev s_are_signs : Stmt := top 18
theorem sc_are_signs : FnScope ["text", "most", "sign"] ["text", "most"] (defScope s_are_signs) := ⟨rfl, rfl, rfl, by decide +kernel, rfl, by decide +kernel, by decide +kernel⟩
abbrev s_is_part : Stmt := top 19
theorem sc_is_part : FnScope ["value", "sides"] ["value"] (defScope s_is_part) := ⟨rfl, rfl, rfl, by decide +kernel, rfl, by decide +kernel, by decide +kernel⟩
abbrev s_part_places : Stmt := top 20
theorem sc_part_places : FnScope ["part", "many", "ahead", "kept", "front", "back", "place", "at", "sign"] ["part", "many"] (defScope s_part_places) := ⟨rfl, rfl, rfl, by decide +kernel, rfl, by decide +kernel, by decide +kernel⟩
abbrev s_chain_places : Stmt := top 21
theorem sc_chain_places : FnScope ["parts", "many", "places", "part", "at"] ["parts", "many"] (defScope s_chain_places) := ⟨rfl, rfl, rfl, by decide +kernel, rfl, by decide +kernel, by decide +kernel⟩
abbrev s_Known___init__ : Stmt := inClass (top 22) 0
theorem sc_Known___init__ : FnScope ["self", "parts"] ["self", "parts"] (defScope s_Known___init__) := ⟨rfl, rfl, rfl, by decide +kernel, rfl, by decide +kernel, by decide +kernel⟩
abbrev s_Cutter___init__ : Stmt := inClass (top 23) 0
theorem sc_Cutter___init__ : FnScope ["self", "parts", "is_known", "told", "many", "part"] ["self", "parts"] (defScope s_Cutter___init__) := ⟨rfl, rfl, rfl, by decide +kernel, rfl, by decide +kernel, by decide +kernel⟩
abbrev s_Cutter_of : Stmt := inClass (top 23) 1
theorem sc_Cutter_of : FnScope ["cls", "parts"] ["cls", "parts"] (defScope s_Cutter_of) := ⟨rfl, rfl, rfl, by decide +kernel, rfl, by decide +kernel, by decide +kernel⟩
abbrev s_Cutter_parts : Stmt := inClass (top 23) 2
theorem sc_Cutter_parts : FnScope ["self"] ["self"] (defScope s_Cutter_parts) := ⟨rfl, rfl, rfl, by decide +kernel, rfl, by decide +kernel, by decide +kernel⟩
abbrev s_Cutter_keeps_all : Stmt := inClass (top 23) 3
theorem sc_Cutter_keeps_all : FnScope ["self"] ["self"] (defScope s_Cutter_keeps_all) := ⟨rfl, rfl, rfl, by decide +kernel, rfl, by decide +kernel, by decide +kernel⟩
abbrev s_Cutter_places : Stmt := inClass (top 23) 4
theorem sc_Cutter_places : FnScope ["self", "many"] ["self", "many"] (defScope s_Cutter_places) := ⟨rfl, rfl, rfl, by decide +kernel, rfl, by decide +kernel, by decide +kernel⟩
abbrev s_Cutter_is_within : Stmt := inClass (top 23) 5
theorem sc_Cutter_is_within : FnScope ["self", "other", "many", "place"] ["self", "other"] (defScope s_Cutter_is_within) := ⟨rfl, rfl, rfl, by decide +kernel, rfl, by decide +kernel, by decide +kernel⟩
abbrev s_Cutter___call__ : Stmt := inClass (top 23) 7
theorem sc_Cutter___call__ : FnScope ["self", "row"] ["self", "row"] (defScope s_Cutter___call__) := ⟨rfl, rfl, rfl, by decide +kernel, rfl, by decide +kernel, by decide +kernel⟩
abbrev s_Cutter___rshift__ : Stmt := inClass (top 23) 8
theorem sc_Cutter___rshift__ : FnScope ["self", "other"] ["self", "other"] (defScope s_Cutter___rshift__) := ⟨rfl, rfl, rfl, by decide +kernel, rfl, by decide +kernel, by decide +kernel⟩
abbrev s_Cutter___len__ : Stmt := inClass (top 23) 9
theorem sc_Cutter___len__ : FnScope ["self"] ["self"] (defScope s_Cutter___len__) := ⟨rfl, rfl, rfl, by decide +kernel, rfl, by decide +kernel, by decide +kernel⟩
abbrev s_Cutter___eq__ : Stmt := inClass (top 23) 10
theorem sc_Cutter___eq__ : FnScope ["self", "other"] ["self", "other"] (defScope s_Cutter___eq__) := ⟨rfl, rfl, rfl, by decide +kernel, rfl, by decide +kernel, by decide +kernel⟩
abbrev s_Cutter___str__ : Stmt := inClass (top 23) 11
theorem sc_Cutter___str__ : FnScope ["self"] ["self"] (defScope s_Cutter___str__) := ⟨rfl, rfl, rfl, by decide +kernel, rfl, by decide +kernel, by decide +kernel⟩
abbrev s_kept_places : Stmt := top 24
theorem sc_kept_places : FnScope ["cutter", "many", "place"] ["cutter", "many"] (defScope s_kept_places) := ⟨rfl, rfl, rfl, by decide +kernel, rfl, by decide +kernel, by decide +kernel⟩
abbrev s_cut : Stmt := top 25
theorem sc_cut : FnScope ["cutter", "row", "place"] ["cutter", "row"] (defScope s_cut) := ⟨rfl, rfl, rfl, by decide +kernel, rfl, by decide +kernel, by decide +kernel⟩
abbrev s_chained : Stmt := top 26
theorem sc_chained : FnScope ["one", "other"] ["one", "other"] (defScope s_chained) := ⟨rfl, rfl, rfl, by decide +kernel, rfl, by decide +kernel, by decide +kernel⟩
abbrev s_require_cutter : Stmt := top 27
theorem sc_require_cutter : FnScope ["value"] ["value"] (defScope s_require_cutter) := ⟨rfl, rfl, rfl, by decide +kernel, rfl, by decide +kernel, by decide +kernel⟩
abbrev s__law_dice : Stmt := top 29
theorem sc__law_dice : FnScope ["_law_script", "_law_at", "_law_cell", "_law_great", "_law_mixed"] ["_law_script", "_law_at"] (defScope s__law_dice) := ⟨rfl, rfl, rfl, by decide +kernel, rfl, by decide +kernel, by decide +kernel⟩
abbrev s__law_roll : Stmt := top 30
theorem sc__law_roll : FnScope ["_law_dice_here", "_law_total", "_law_one", "_law_two", "_law_found"] ["_law_dice_here", "_law_total"] (defScope s__law_roll) := ⟨rfl, rfl, rfl, by decide +kernel, rfl, by decide +kernel, by decide +kernel⟩
abbrev s__law_one_of : Stmt := top 31
theorem sc__law_one_of : FnScope ["_law_dice_here", "_law_items"] ["_law_dice_here", "_law_items"] (defScope s__law_one_of) := ⟨rfl, rfl, rfl, by decide +kernel, rfl, by decide +kernel, by decide +kernel⟩
abbrev s__law_signs : Stmt := top 32
theorem sc__law_signs : FnScope ["_law_dice_here", "_law_much", "_law_turn"] ["_law_dice_here", "_law_much"] (defScope s__law_signs) := ⟨rfl, rfl, rfl, by decide +kernel, rfl, by decide +kernel, by decide +kernel⟩
abbrev s__law_part : Stmt := top 33
theorem sc__law_part : FnScope ["_law_dice_here", "_law_common"] ["_law_dice_here"] (defScope s__law_part) := ⟨rfl, rfl, rfl, by decide +kernel, rfl, by decide +kernel, by decide +kernel⟩
abbrev s__law_parts : Stmt := top 34
theorem sc__law_parts : FnScope ["_law_dice_here", "_law_much", "_law_turn"] ["_law_dice_here", "_law_much"] (defScope s__law_parts) := ⟨rfl, rfl, rfl, by decide +kernel, rfl, by decide +kernel, by decide +kernel⟩
abbrev s__law_kept : Stmt := top 35
theorem sc__law_kept : FnScope ["_law_parts_here", "_law_row", "_law_part_here", "_law_at", "_law_front", "_law_back", "_law_many", "_law_found", "_law_ahead"] ["_law_parts_here", "_law_row"] (defScope s__law_kept) := ⟨rfl, rfl, rfl, by decide +kernel, rfl, by decide +kernel, by decide +kernel⟩
abbrev s__law_joined : Stmt := top 36
theorem sc__law_joined : FnScope ["_law_one", "_law_other", "e"] ["_law_one", "_law_other"] (defScope s__law_joined) := ⟨rfl, rfl, rfl, by decide +kernel, rfl, by decide +kernel, by decide +kernel⟩
abbrev s__law_is : Stmt := top 37
theorem sc__law_is : FnScope ["_law_made", "_law_parts_here", "_law_many", "_law_row", "_law_place"] ["_law_made", "_law_parts_here"] (defScope s__law_is) := ⟨rfl, rfl, rfl, by decide +kernel, rfl, by decide +kernel, by decide +kernel⟩
abbrev s__law_pair_right : Stmt := top 38
theorem sc__law_pair_right : FnScope ["_law_one", "_law_other", "_law_first", "_law_last", "_law_found", "_law_many", "_law_is_whole", "_law_row", "_law_part_here"] ["_law_one", "_law_other", "_law_first", "_law_last"] (defScope s__law_pair_right) := ⟨rfl, rfl, rfl, by decide +kernel, rfl, by decide +kernel, by decide +kernel⟩
abbrev s__law_right : Stmt := top 39
theorem sc__law_right : FnScope ["_law_dice_here", "_law_plain", "_law_made", "_law_at", "_law_empty", "_law_spot", "_law_ways", "_law_turn", "_law_parts_here"] ["_law_dice_here"] (defScope s__law_right) := ⟨rfl, rfl, rfl, by decide +kernel, rfl, by decide +kernel, by decide +kernel⟩
abbrev s_law : Stmt := top 40
theorem sc_law : FnScope ["_law_script", "_law_at", "_law_told", "_law_two", "_law_first"] ["_law_script"] (defScope s_law) := ⟨rfl, rfl, rfl, by decide +kernel, rfl, by decide +kernel, by decide +kernel⟩
structure EA where
  (C_LetterError C_InvalidCutter C_InvalidOperation C_InvalidNumber f_InvalidNumber C_TooMany f_TooMany C_Known f_Known___init__ C_Cutter f_Cutter___init__ p_Cutter_of f_Cutter_of p_Cutter_parts f_Cutter_parts p_Cutter_keeps_all f_Cutter_keeps_all f_Cutter_places f_Cutter_is_within f_Cutter___call__ f_Cutter___rshift__ f_Cutter___len__ f_Cutter___eq__ f_Cutter___str__ : Addr)
structure Tx (P : Program) (K : PySem.W.Frag) (mg : Str → Option Value) (ea : EA) : Prop where
  m_isinstance : mg "isinstance" = none
  m_int : mg "int" = none
  m_bool : mg "bool" = none
  m_all : mg "all" = none
  m_len : mg "len" = none
  m_str : mg "str" = none
  m_list : mg "list" = none
  m_range : mg "range" = none
  m_enumerate : mg "enumerate" = none
  m_tuple : mg "tuple" = none
  m_max : mg "max" = none
  m_abs : mg "abs" = none
  m_min : mg "min" = none
  m_repr : mg "repr" = none
  g_MAX_PARTS : ∃ u, mg "MAX_PARTS" = some u ∧ RelV (.int 4) u
  g_MAX_ROW : ∃ u, mg "MAX_ROW" = some u ∧ RelV (.int 1000) u
  g_MOST_FRONT : ∃ u, mg "MOST_FRONT" = some u ∧ RelV (.int 2) u
  g_MOST_BACK : ∃ u, mg "MOST_BACK" = some u ∧ RelV (.int 3) u
  g_FEW : ∃ u, mg "FEW" = some u ∧ RelV (.int 5) u
  g_WHOLE : ∃ u, mg "WHOLE" = some u ∧ RelV (.str "all") u
  g_GAP : ∃ u, mg "GAP" = some u ∧ RelV (.str "..") u
  D_is_integer : Df K mg "is_integer" s_is_integer ["value"]
  D_require_number : Dfd K mg "require_number" s_require_number ["value", "least", "most"]
  D_are_signs : Df K mg "are_signs" s_are_signs ["text", "most"]
  D_is_part : Df K mg "is_part" s_is_part ["value"]
  D_part_places : Df K mg "part_places" s_part_places ["part", "many"]
  D_chain_places : Df K mg "chain_places" s_chain_places ["parts", "many"]
  D_kept_places : Df K mg "kept_places" s_kept_places ["cutter", "many"]
  D_cut : Df K mg "cut" s_cut ["cutter", "row"]
  D_chained : Df K mg "chained" s_chained ["one", "other"]
  D_require_cutter : Df K mg "require_cutter" s_require_cutter ["value"]
  D__law_dice : Df K mg "_law_dice" s__law_dice ["_law_script", "_law_at"]
  D__law_roll : Df K mg "_law_roll" s__law_roll ["_law_dice_here", "_law_total"]
  D__law_one_of : Df K mg "_law_one_of" s__law_one_of ["_law_dice_here", "_law_items"]
  D__law_signs : Df K mg "_law_signs" s__law_signs ["_law_dice_here", "_law_much"]
  D__law_part : Df K mg "_law_part" s__law_part ["_law_dice_here"]
  D__law_parts : Df K mg "_law_parts" s__law_parts ["_law_dice_here", "_law_much"]
  D__law_kept : Df K mg "_law_kept" s__law_kept ["_law_parts_here", "_law_row"]
  D__law_joined : Df K mg "_law_joined" s__law_joined ["_law_one", "_law_other"]
  D__law_is : Df K mg "_law_is" s__law_is ["_law_made", "_law_parts_here"]
  D__law_pair_right : Df K mg "_law_pair_right" s__law_pair_right ["_law_one", "_law_other", "_law_first", "_law_last"]
  D__law_right : Df K mg "_law_right" s__law_right ["_law_dice_here"]
  D_law : Df K mg "law" s_law ["_law_script"]
  k_Known : Klass K mg "Known" ea.C_Known
  mro_Known : ∃ cd, PySem.W.clsIn K ea.C_Known = some cd ∧ cd.mro = [.ref ea.C_Known, .type "object"]
  m_Known___init__ : Meth K ea.C_Known "__init__" ea.f_Known___init__
  mak_Known : Mk K ea.C_Known ea.f_Known___init__
  D_Known___init__ : Dm K ea.C_Known "__init__" "Known.__init__" s_Known___init__ ["self", "parts"] ea.f_Known___init__
  n_Known_own_parts : NoAttr K ea.C_Known "own_parts"
  k_Cutter : Klass K mg "Cutter" ea.C_Cutter
  mro_Cutter : ∃ cd, PySem.W.clsIn K ea.C_Cutter = some cd ∧ cd.mro = [.ref ea.C_Cutter, .type "object"]
  m_Cutter___init__ : Meth K ea.C_Cutter "__init__" ea.f_Cutter___init__
  mak_Cutter : Mk K ea.C_Cutter ea.f_Cutter___init__
  D_Cutter___init__ : DmS K ea.C_Cutter "__init__" "Cutter.__init__" s_Cutter___init__ ["self"] "parts" ea.f_Cutter___init__
  m_Cutter_of : ClX.CMet K ea.C_Cutter (.type "type") "of" ea.p_Cutter_of ea.f_Cutter_of
  D_Cutter_of : Dm K ea.C_Cutter "of" "Cutter.of" s_Cutter_of ["cls", "parts"] ea.f_Cutter_of
  m_Cutter_parts : PropOf K ea.C_Cutter "parts" ea.p_Cutter_parts ea.f_Cutter_parts
  D_Cutter_parts : Dm K ea.C_Cutter "parts" "Cutter.parts" s_Cutter_parts ["self"] ea.f_Cutter_parts
  m_Cutter_keeps_all : PropOf K ea.C_Cutter "keeps_all" ea.p_Cutter_keeps_all ea.f_Cutter_keeps_all
  D_Cutter_keeps_all : Dm K ea.C_Cutter "keeps_all" "Cutter.keeps_all" s_Cutter_keeps_all ["self"] ea.f_Cutter_keeps_all
  m_Cutter_places : Meth K ea.C_Cutter "places" ea.f_Cutter_places
  D_Cutter_places : Dm K ea.C_Cutter "places" "Cutter.places" s_Cutter_places ["self", "many"] ea.f_Cutter_places
  m_Cutter_is_within : Meth K ea.C_Cutter "is_within" ea.f_Cutter_is_within
  D_Cutter_is_within : Dm K ea.C_Cutter "is_within" "Cutter.is_within" s_Cutter_is_within ["self", "other"] ea.f_Cutter_is_within
  m_Cutter___call__ : Meth K ea.C_Cutter "__call__" ea.f_Cutter___call__
  call_Cutter : StX.CallO K ea.C_Cutter ea.f_Cutter___call__
  D_Cutter___call__ : Dm K ea.C_Cutter "__call__" "Cutter.__call__" s_Cutter___call__ ["self", "row"] ea.f_Cutter___call__
  m_Cutter___rshift__ : Meth K ea.C_Cutter "__rshift__" ea.f_Cutter___rshift__
  D_Cutter___rshift__ : Dm K ea.C_Cutter "__rshift__" "Cutter.__rshift__" s_Cutter___rshift__ ["self", "other"] ea.f_Cutter___rshift__
  m_Cutter___len__ : Meth K ea.C_Cutter "__len__" ea.f_Cutter___len__
  D_Cutter___len__ : Dm K ea.C_Cutter "__len__" "Cutter.__len__" s_Cutter___len__ ["self"] ea.f_Cutter___len__
  m_Cutter___eq__ : Meth K ea.C_Cutter "__eq__" ea.f_Cutter___eq__
  D_Cutter___eq__ : Dm K ea.C_Cutter "__eq__" "Cutter.__eq__" s_Cutter___eq__ ["self", "other"] ea.f_Cutter___eq__
  m_Cutter___str__ : Meth K ea.C_Cutter "__str__" ea.f_Cutter___str__
  D_Cutter___str__ : Dm K ea.C_Cutter "__str__" "Cutter.__str__" s_Cutter___str__ ["self"] ea.f_Cutter___str__
  n_Cutter_own_parts : NoAttr K ea.C_Cutter "own_parts"
  n_Cutter_own_tables : NoAttr K ea.C_Cutter "own_tables"
  n_Cutter_own_is_whole : NoAttr K ea.C_Cutter "own_is_whole"
  x_LetterError : XoC K mg "LetterError" ea.C_LetterError [.type "ValueError", .type "Exception", .type "BaseException", .type "object"] "ValueError.__new__"
  x_InvalidCutter : XoC K mg "InvalidCutter" ea.C_InvalidCutter [.type "ValueError", .type "Exception", .type "BaseException", .type "object"] "ValueError.__new__"
  x_InvalidOperation : XoC K mg "InvalidOperation" ea.C_InvalidOperation [.type "ValueError", .type "Exception", .type "BaseException", .type "object"] "ValueError.__new__"
  x_InvalidNumber : XsC P K mg "InvalidNumber" ea.C_InvalidNumber ea.f_InvalidNumber "RuntimeError" "RuntimeError.__init__" "RuntimeError.__new__" [.type "RuntimeError", .type "Exception", .type "BaseException", .type "object"] "value" "value" s_InvalidNumber___init__
  n_InvalidNumber_value : PySem.W.findIn K (.ref ea.C_InvalidNumber) "value" = some none
  x_TooMany : XsC P K mg "TooMany" ea.C_TooMany ea.f_TooMany "OverflowError" "OverflowError.__init__" "OverflowError.__new__" [.type "OverflowError", .type "ArithmeticError", .type "Exception", .type "BaseException", .type "object"] "limit" "limit" s_TooMany___init__
  n_TooMany_limit : PySem.W.findIn K (.ref ea.C_TooMany) "limit" = some none
  exm_LetterError_TooMany : PySem.W.exmOne K (.ref ea.C_LetterError) (.ref ea.C_TooMany) = some false
  exm_InvalidCutter_TooMany : PySem.W.exmOne K (.ref ea.C_InvalidCutter) (.ref ea.C_TooMany) = some false
  exm_InvalidOperation_TooMany : PySem.W.exmOne K (.ref ea.C_InvalidOperation) (.ref ea.C_TooMany) = some false
  exm_InvalidNumber_TooMany : PySem.W.exmOne K (.ref ea.C_InvalidNumber) (.ref ea.C_TooMany) = some false
  exm_TooMany_TooMany : PySem.W.exmOne K (.ref ea.C_TooMany) (.ref ea.C_TooMany) = some true
  kit_Known_Cutter : PySem.W.kitOne K (.ref ea.C_Known) (.ref ea.C_Cutter) = some false
  nf_Known_Cutter : PySem.W.notFirst K ea.C_Known (.ref ea.C_Cutter) = true
  kit_Cutter_Known : PySem.W.kitOne K (.ref ea.C_Cutter) (.ref ea.C_Known) = some false
  nf_Cutter_Known : PySem.W.notFirst K ea.C_Cutter (.ref ea.C_Known) = true
end Nv

set_option Elab.async false
set_option linter.all false
set_option maxRecDepth 100000
set_option maxHeartbeats 4000000
namespace Nv
open PySem PySem.Spec PyProof.Rows L2
open SX (S)
local macro_rules | `(tactic| walk_at "nv1") => `(tactic| first
  | ((with_reducible apply ed_var); exact rfl)
  | (with_reducible refine sd_seq ?_)
  | (with_reducible refine sd_ret ?_)
  | (with_reducible refine sd_if ?_)
  | (with_reducible refine sd_asg ?_)
  | (with_reducible refine sd_next ?_)
  | (with_reducible refine sd_unl ?_)
  | (with_reducible refine ed_makeR ?_)
  | (with_reducible refine ed_methR ?_)
  | (with_reducible refine ed_propR ?_)
  | (with_reducible refine ed_cmeth ?_)
  | (with_reducible refine ed_fld ?_)
  | (with_reducible refine ed_lstRg ?_)
  | (with_reducible refine ed_tupRg ?_)
  | (with_reducible refine ea_star ?_)
  | (with_reducible refine ed_op ?_)
  | (with_reducible refine ed_and ?_)
  | (with_reducible refine ed_or ?_)
  | (with_reducible refine ed_not ?_)
  | (with_reducible refine ed_if ?_)
  | (with_reducible refine ed_cb ?_)
  | (with_reducible refine ed_call ?_)
  | (with_reducible refine ed_lst ?_)
  | (with_reducible refine ed_tup ?_)
  | (with_reducible refine ed_un ?_)
  | (with_reducible refine ed_sl ?_)
  | (with_reducible refine ea_cons ?_)
  | (with_reducible refine ea_nil ?_)
  | (with_reducible refine eo_none ?_)
  | (with_reducible refine eo_some ?_)
  | (with_reducible refine et_test ?_)
  | (with_reducible refine et_B ?_)
  | (with_reducible refine et_and ?_)
  | (with_reducible refine et_or ?_)
  | (with_reducible refine et_not ?_)
  | (with_reducible refine et_yes ?_)
  | (with_reducible refine ed_int ?_)
  | (with_reducible refine ed_str ?_)
  | (with_reducible refine ed_bl ?_)
  | (with_reducible refine ed_non ?_)
  | (with_reducible refine ed_ty ?_)
  | (with_reducible refine ed_obj ?_))
local macro_rules | `(tactic| walk_at "nv2") => `(tactic| first
  | (with_reducible refine rd_add_i ?_)
  | (with_reducible refine rd_I0i ?_)
  | (with_reducible refine rd_I0b ?_)
  | (with_reducible refine rd_eq_i ?_)
  | (with_reducible refine rd_ne_i ?_)
  | (with_reducible refine rd_eq_s ?_)
  | (with_reducible refine rd_ne_s ?_)
  | (with_reducible refine rd_notB ?_)
  | (with_reducible refine cd_tup_l ?_)
  | (with_reducible refine cd_tup_t ?_)
  | (with_reducible refine cd_lst_l ?_)
  | (with_reducible refine cd_lst_t ?_)
  | (with_reducible refine rd_in_l ?_)
  | (with_reducible refine rd_in_t ?_)
  | (with_reducible refine rd_ni_t ?_)
  | (with_reducible refine rd_eq_b ?_)
  | (with_reducible refine rd_ne_b ?_)
  | (with_reducible refine rd_isB ?_)
  | (with_reducible refine rd_isN ?_)
  | (with_reducible refine rd_notN ?_)
  | (with_reducible refine rd_in_sign ?_)
  | (with_reducible refine cd_len_l ?_)
  | (with_reducible refine cd_len_sq ?_)
  | (with_reducible refine cd_len_t ?_)
  | (with_reducible refine cd_int_i ?_)
  | (with_reducible refine cd_int_b ?_)
  | (with_reducible refine cd_abs ?_)
  | (with_reducible refine cd_max ?_)
  | (with_reducible refine cd_min ?_)
  | (with_reducible refine cd_str_s ?_)
  | (with_reducible refine cd_repr_b ?_)
  | (with_reducible refine ud_neg ?_)
  | ((with_reducible refine And.intro ?_ ?_); exact Nat.le_of_ble_eq_true rfl) | (with_reducible refine ed_dnew ?_) | (with_reducible refine ed_disp1 ?_) | ((with_reducible refine rd_mul_l ?_ ?_ ?_ ?_); decide; decide; exact Nat.le_of_ble_eq_true rfl) | ((with_reducible refine rd_add_l ?_ ?_); exact Nat.le_of_ble_eq_true rfl)
  | (with_reducible refine ⟨_, rfl, ?_⟩) | (with_reducible refine ⟨_, Or.inl rfl, ?_⟩))
local macro_rules | `(tactic| walk_at "nv") => `(tactic| first | walk_at "nv1" | walk_at "nv2")
local macro_rules | `(tactic| walk_at "cx") => `(tactic| dsimp only [cxOf, Cx.nox, Cx.wish, Cx.blk, List.length_cons, List.length_nil])
section
variable {P : Program} {w : World} {K : PySem.W.Frag} {mg : Str → Option Value} {base : Heap} {ea : EA}
def PreSigns : List Dt → (Dt → Prop) → Prop := fun ds R => ∃ (bs : List Bool) (m : Int), ds = [.str (S (bs.map sg)), .int m] ∧ bs.length ≤ 100 ∧ (bs.length : Int) ≤ m ∧ R (.bl true)
theorem gf_are_signs (T : Tx P K mg ea) : Gf P w K mg base "are_signs" 1 ["text", "most"] PreSigns := by
  refine gf_of T.D_are_signs sc_are_signs (fun ds R ⟨bs, m, h, _⟩ => by rw [h]; rfl) fun f cdv A outer s H E hr => ⟨_, (pss_one (ps_ret (pe_and (pe_cmpR op_le (pe_callB (callLen (K := K) rfl) (by rfl) T.m_len (by decide +kernel) (pa_cons (pv 0) pa_nil)) (pv 1) (nomark _)) (pe_one (pe_callB (callAll (K := K) rfl rfl) (by rfl) T.m_all (by decide +kernel) (pa_cons (pe_lc (own := [("sign", 2)]) (g := gName 2) rfl sc_are_signs.nd (pi_str (pv 0)) (blkOk_by (own := [("sign", 2)]) (N := ["text", "most", "sign"]) (sc := defScope s_are_signs) (by decide +kernel)) (fun _ _ _ _ _ => (pg_name (i := 2) sc_are_signs.nd rfl (by first | exact Or.inl rfl | exact Or.inr rfl))) (fun _ _ _ _ _ => pts_nil) (fun _ _ _ _ _ => (pe_cmpR (opIn (K := K) rfl) (pv 2) pe_str rfl))) pa_nil)))))), fun ds R ⟨bs, m, h, hb, hm, hR⟩ => ?_⟩
  subst h
  repeat walk_at "nv"
  refine cd_len_s (by rw [SX.S_len]; simp; omega) ?_
  rw [SX.S_len]
  repeat walk_at "nv"
  refine ifT (decide_eq_true (by simp; exact hm)) ?_
  repeat walk_at "nv"
  refine ed_lc_map (fun d => gd_name) ?_
  refine ei_str ?_
  repeat walk_at "nv"
  refine ⟨by simp [signsD]; omega, fun _ => .bl true, fun x hx => ?_, ?_⟩
  · obtain ⟨c, hc, rfl⟩ := List.mem_map.mp hx
    repeat walk_at "nv"
    have : c ∈ bs.map sg := by simpa [SX.S] using hc
    obtain ⟨b, _, rfl⟩ := List.mem_map.mp this
    cases b <;> rfl
  · repeat walk_at "nv"
    have e : (signsD (S (bs.map sg))).map (fun _ => Dt.bl true) = ((signsD (S (bs.map sg))).map fun _ => true).map Dt.bl := by rw [List.map_map]; rfl
    rw [e]
    refine cd_all ?_
    have e2 : ((signsD (S (bs.map sg))).map fun _ => true).all id = true := by rw [List.all_map, List.all_eq_true]; exact fun _ _ => rfl
    rw [e2]; exact hR
def PrePart : List Dt → (Dt → Prop) → Prop := fun ds R => ∃ p : Part, ds = [p.d] ∧ p.ok ∧ R (.bl true)
theorem gf_is_part (T : Tx P K mg ea) (g_are_signs : Gf P w K mg base "are_signs" 1 ["text", "most"] PreSigns) : Gf P w K mg base "is_part" 2 ["value"] PrePart := by
  refine gf_of T.D_is_part sc_is_part (fun ds R ⟨p, h, _⟩ => by rw [h]; rfl) fun f cdv A outer s H E hr => ⟨_, (pss_cons (ps_if (pt_not (pt_val (pe_callB (callIsi (K := K) rfl) (by rfl) T.m_isinstance (by decide +kernel) (pa_cons (pv 0) (pa_cons (pe_bty "str" rfl T.m_str (by decide +kernel)) pa_nil))))) (pss_one (ps_ret pe_bl)) pss_nil) (pss_cons (ps_set (i := 1) sc_is_part.nd rfl (by first | exact Or.inl rfl | exact Or.inr rfl) (peBm (K := K) rfl PySem.F.plainAttrs_str PySem.F.slot_str_split PySem.F.type_str_split mtSplit (pv 0) (pa_cons (pe_g rfl T.g_GAP) pa_nil))) (pss_one (ps_ret (pe_or (pe_cmpR (opEq (K := K) rfl hr.units) (pv 0) (pe_g rfl T.g_WHOLE) (nomark _)) (pe_one (pe_and (pe_cmpR (opEq (K := K) rfl hr.units) (pe_callB (callLen (K := K) rfl) (by rfl) T.m_len (by decide +kernel) (pa_cons (pv 1) pa_nil)) pe_int (nomark _)) (pe_and (pe_gf g_are_signs ⟨rfl, rfl, rfl, rfl, rfl⟩ (hr.mono (by decide)) rfl (pa_cons (pe_ix (ixA (K := K) rfl) (pv 1) pe_int (fun _ _ => rfl)) (pa_cons (pe_g rfl T.g_MOST_FRONT) pa_nil))) (pe_one (pe_gf g_are_signs ⟨rfl, rfl, rfl, rfl, rfl⟩ (hr.mono (by decide)) rfl (pa_cons (pe_ix (ixA (K := K) rfl) (pv 1) pe_int (fun _ _ => rfl)) (pa_cons (pe_g rfl T.g_MOST_BACK) pa_nil)))))))))))), fun ds R ⟨p, h, hp, hR⟩ => ?_⟩
  subst h
  repeat walk_at "nv"
  refine cd_isi (b := true) rfl (by decide +kernel) ?_
  repeat walk_at "nv"
  refine ifF rfl ?_
  repeat walk_at "nv"
  refine ed_bm ?_
  repeat walk_at "nv"
  refine ⟨fun G H v e d => ty_s e d, ?_⟩
  repeat walk_at "nv"
  refine md_split rfl (by rw [SX.S_len]; have := txt_len hp; omega) ?_
  repeat walk_at "nv"
  rw [part_all hp]
  cases p with
  | all => exact ifT rfl hR
  | pat f b =>
    refine ifF rfl ?_
    rw [show (".." : Str) = S [46, 46] from rfl, split_pat hp.1 hp.2]
    repeat walk_at "nv"
    refine ifT rfl ?_
    repeat walk_at "nv"
    refine rd_ix_l (d := .str (S (f.map sg))) rfl ?_
    repeat walk_at "nv"
    refine ⟨f, 2, rfl, by have := hp.1; omega, by have := hp.1; omega, ?_⟩
    repeat walk_at "nv"
    refine ifT rfl ?_
    repeat walk_at "nv"
    refine rd_ix_l (d := .str (S (b.map sg))) rfl ?_
    repeat walk_at "nv"
    exact ⟨b, 3, rfl, by have := hp.2; omega, by have := hp.2; omega, hR⟩
end
end Nv

set_option Elab.async false
set_option linter.all false
set_option maxRecDepth 100000
set_option maxHeartbeats 4000000
namespace Nv
open PySem PySem.Spec PyProof.Rows L2
open SX (S)
local macro_rules | `(tactic| walk_at "nv1") => `(tactic| first
  | ((with_reducible apply ed_var); exact rfl)
  | (with_reducible refine sd_seq ?_)
  | (with_reducible refine sd_ret ?_)
  | (with_reducible refine sd_if ?_)
  | (with_reducible refine sd_asg ?_)
  | (with_reducible refine sd_next ?_)
  | (with_reducible refine sd_unl ?_)
  | (with_reducible refine ed_makeR ?_)
  | (with_reducible refine ed_methR ?_)
  | (with_reducible refine ed_propR ?_)
  | (with_reducible refine ed_cmeth ?_)
  | (with_reducible refine ed_fld ?_)
  | (with_reducible refine ed_lstRg ?_)
  | (with_reducible refine ed_tupRg ?_)
  | (with_reducible refine ea_star ?_)
  | (with_reducible refine ed_op ?_)
  | (with_reducible refine ed_and ?_)
  | (with_reducible refine ed_or ?_)
  | (with_reducible refine ed_not ?_)
  | (with_reducible refine ed_if ?_)
  | (with_reducible refine ed_cb ?_)
  | (with_reducible refine ed_call ?_)
  | (with_reducible refine ed_lst ?_)
  | (with_reducible refine ed_tup ?_)
  | (with_reducible refine ed_un ?_)
  | (with_reducible refine ed_sl ?_)
  | (with_reducible refine ea_cons ?_)
  | (with_reducible refine ea_nil ?_)
  | (with_reducible refine eo_none ?_)
  | (with_reducible refine eo_some ?_)
  | (with_reducible refine et_test ?_)
  | (with_reducible refine et_B ?_)
  | (with_reducible refine et_and ?_)
  | (with_reducible refine et_or ?_)
  | (with_reducible refine et_not ?_)
  | (with_reducible refine et_yes ?_)
  | (with_reducible refine ed_int ?_)
  | (with_reducible refine ed_str ?_)
  | (with_reducible refine ed_bl ?_)
  | (with_reducible refine ed_non ?_)
  | (with_reducible refine ed_ty ?_)
  | (with_reducible refine ed_obj ?_))
local macro_rules | `(tactic| walk_at "nv2") => `(tactic| first
  | (with_reducible refine rd_add_i ?_)
  | (with_reducible refine rd_I0i ?_)
  | (with_reducible refine rd_I0b ?_)
  | (with_reducible refine rd_eq_i ?_)
  | (with_reducible refine rd_ne_i ?_)
  | (with_reducible refine rd_eq_s ?_)
  | (with_reducible refine rd_ne_s ?_)
  | (with_reducible refine rd_notB ?_)
  | (with_reducible refine cd_tup_l ?_)
  | (with_reducible refine cd_tup_t ?_)
  | (with_reducible refine cd_lst_l ?_)
  | (with_reducible refine cd_lst_t ?_)
  | (with_reducible refine rd_in_l ?_)
  | (with_reducible refine rd_in_t ?_)
  | (with_reducible refine rd_ni_t ?_)
  | (with_reducible refine rd_eq_b ?_)
  | (with_reducible refine rd_ne_b ?_)
  | (with_reducible refine rd_isB ?_)
  | (with_reducible refine rd_isN ?_)
  | (with_reducible refine rd_notN ?_)
  | (with_reducible refine rd_in_sign ?_)
  | (with_reducible refine cd_len_l ?_)
  | (with_reducible refine cd_len_sq ?_)
  | (with_reducible refine cd_len_t ?_)
  | (with_reducible refine cd_int_i ?_)
  | (with_reducible refine cd_int_b ?_)
  | (with_reducible refine cd_abs ?_)
  | (with_reducible refine cd_max ?_)
  | (with_reducible refine cd_min ?_)
  | (with_reducible refine cd_str_s ?_)
  | (with_reducible refine cd_repr_b ?_)
  | (with_reducible refine ud_neg ?_)
  | ((with_reducible refine And.intro ?_ ?_); exact Nat.le_of_ble_eq_true rfl) | (with_reducible refine ed_dnew ?_) | (with_reducible refine ed_disp1 ?_) | ((with_reducible refine rd_mul_l ?_ ?_ ?_ ?_); decide; decide; exact Nat.le_of_ble_eq_true rfl) | ((with_reducible refine rd_add_l ?_ ?_); exact Nat.le_of_ble_eq_true rfl)
  | (with_reducible refine ⟨_, rfl, ?_⟩) | (with_reducible refine ⟨_, Or.inl rfl, ?_⟩))
local macro_rules | `(tactic| walk_at "nv") => `(tactic| first | walk_at "nv1" | walk_at "nv2")
local macro_rules | `(tactic| walk_at "cx") => `(tactic| dsimp only [cxOf, Cx.nox, Cx.wish, Cx.blk, List.length_cons, List.length_nil])
section
variable {P : Program} {w : World} {K : PySem.W.Frag} {mg : Str → Option Value} {base : Heap} {ea : EA}
def PrePlaces : List Dt → (Dt → Prop) → Prop := fun ds R => ∃ (p : Part) (n : Nat), ds = [p.d, .int n] ∧ p.ok ∧ n ≤ 1000 ∧ R (.lst (natsD (p.pl n)))
theorem gf_part_places (T : Tx P K mg ea) : Gf P w K mg base "part_places" 1 ["part", "many"] PrePlaces := by
  refine gf_of T.D_part_places sc_part_places (fun ds R ⟨p, n, h, _⟩ => by rw [h]; rfl) fun f cdv A outer s H E hr => ⟨_, (pss_cons (ps_if (pt_cmpR (opEq (K := K) rfl hr.units) (pv 0) (pe_g rfl T.g_WHOLE) (nomark _)) (pss_one (ps_ret (pe_listRg rfl (by rfl) T.m_list (prg_1 (by rfl) T.m_range (pv 1))))) pss_nil) (pss_cons (ps_asg (peBm (K := K) rfl PySem.F.plainAttrs_str PySem.F.slot_str_split PySem.F.type_str_split mtSplit (pv 0) (pa_cons (pe_g rfl T.g_GAP) pa_nil)) (pgUnl (K := K) (n := 2) rfl rfl (pgs_cons (pg_name (i := 4) sc_part_places.nd rfl (by first | exact Or.inl rfl | exact Or.inr rfl)) (pgs_cons (pg_name (i := 5) sc_part_places.nd rfl (by first | exact Or.inl rfl | exact Or.inr rfl)) pgs_nil)))) (pss_cons (ps_setLc (i := 2) (own := [("at", 7), ("sign", 8)]) rfl sc_part_places.nd rfl rfl (sw_true rfl rfl rfl (by decide +kernel)) (pi_enumS (by rfl) T.m_enumerate (pa_cons (pv 4) pa_nil)) (blkOk_by (own := [("at", 7), ("sign", 8)]) (N := ["part", "many", "ahead", "kept", "front", "back", "place", "at", "sign"]) (sc := defScope s_part_places) (by decide +kernel)) (fun _ _ _ _ _ => (pgTup (K := K) (n := 2) rfl rfl (pgs_cons (pg_name (i := 7) sc_part_places.nd rfl (by first | exact Or.inl rfl | exact Or.inr rfl)) (pgs_cons (pg_name (i := 8) sc_part_places.nd rfl (by first | exact Or.inl rfl | exact Or.inr rfl)) pgs_nil)))) (fun _ _ _ _ _ => pts_one (pt_cmpR (opEq (K := K) rfl hr.units) (pv 8) pe_str (nomark _))) (fun _ _ _ _ _ => (pv 7))) (pss_cons (ps_set (i := 3) sc_part_places.nd rfl (by first | exact Or.inl rfl | exact Or.inr rfl) (pe_lst (paStar (K := K) rfl (pv 2) (paStar (K := K) rfl (pe_lc (own := [("at", 7), ("sign", 8)]) rfl sc_part_places.nd (pi_enumS (by rfl) T.m_enumerate (pa_cons (pv 5) pa_nil)) (blkOk_by (own := [("at", 7), ("sign", 8)]) (N := ["part", "many", "ahead", "kept", "front", "back", "place", "at", "sign"]) (sc := defScope s_part_places) (by decide +kernel)) (fun _ _ _ _ _ => (pgTup (K := K) (n := 2) rfl rfl (pgs_cons (pg_name (i := 7) sc_part_places.nd rfl (by first | exact Or.inl rfl | exact Or.inr rfl)) (pgs_cons (pg_name (i := 8) sc_part_places.nd rfl (by first | exact Or.inl rfl | exact Or.inr rfl)) pgs_nil)))) (fun _ _ _ _ _ => pts_one (pt_cmpR (opEq (K := K) rfl hr.units) (pv 8) pe_str (nomark _))) (fun _ _ _ _ _ => (pe_op (opAdd (K := K) rfl) (pe_op op_sub (pv 1) (pe_callB (callLen (K := K) rfl) (by rfl) T.m_len (by decide +kernel) (pa_cons (pv 5) pa_nil))) (pv 7)))) pa_nil)))) (pss_one (ps_ret (pe_lc (own := [("place", 6)]) (g := gName 6) rfl sc_part_places.nd (pi_range1 rfl T.m_range (pa_cons (pv 1) pa_nil)) (blkOk_by (own := [("place", 6)]) (N := ["part", "many", "ahead", "kept", "front", "back", "place", "at", "sign"]) (sc := defScope s_part_places) (by decide +kernel)) (fun _ _ _ _ _ => (pg_name (i := 6) sc_part_places.nd rfl (by first | exact Or.inl rfl | exact Or.inr rfl))) (fun _ _ _ _ _ => pts_one (pt_cmpR (opIn (K := K) rfl) (pv 6) (pv 3) rfl)) (fun _ _ _ _ _ => (pv 6))))))))), fun ds R ⟨p, n, h, hp, hn, hR⟩ => ?_⟩
  subst h
  repeat walk_at "nv"
  rw [part_all hp]
  cases p with
  | all =>
    refine ifT rfl ?_
    repeat walk_at "nv"
    refine ⟨Int.natCast_nonneg _, by omega, ?_⟩
    rw [Int.toNat_natCast, rangeD_nats]; exact hR
  | pat f b =>
    refine ifF rfl ?_
    repeat walk_at "nv"
    refine ed_bm ?_
    repeat walk_at "nv"
    refine ⟨fun G H v e d => ty_s e d, ?_⟩
    repeat walk_at "nv"
    refine md_split rfl (by rw [SX.S_len]; have := txt_len hp; omega) ?_
    rw [show (".." : Str) = S [46, 46] from rfl, split_pat hp.1 hp.2]
    refine ⟨_, _, rfl, ?_⟩
    have hf : f.length ≤ 2 := hp.1
    have hb : b.length ≤ 3 := hp.2
    have lens : ∀ {x : List Bool}, x.length ≤ 3 → (enumD (S (x.map sg))).length < 1000000 := fun {x} hx => by simp [enumD, SX.S]; omega
    repeat walk_at "nv"
    refine ed_lc_filterG ?_
    refine ei_enumS ?_
    repeat walk_at "nv"
    refine ⟨_, pair_gd (by decide), lens (by omega), isPlus, fun d => .int (fstI d), fun x hx => ?_, fun x hx _ => ?_, ?_⟩
    · obtain ⟨k, hk, rfl⟩ := List.mem_mapIdx.mp hx
      repeat walk_at "nv"
      rfl
    · obtain ⟨k, hk, rfl⟩ := List.mem_mapIdx.mp hx
      repeat walk_at "nv"
      rfl
    rw [ups_eq (by omega)]
    repeat walk_at "nv"
    refine ⟨_, Or.inr rfl, ?_⟩
    repeat walk_at "nv"
    refine ed_lc_filterG ?_
    refine ei_enumS ?_
    repeat walk_at "nv"
    refine ⟨_, pair_gd (by decide), lens (by omega), isPlus, fun d => .int ((n : Int) - b.length + fstI d), fun x hx => ?_, fun x hx _ => ?_, ?_⟩
    · obtain ⟨k, hk, rfl⟩ := List.mem_mapIdx.mp hx
      repeat walk_at "nv"
      rfl
    · obtain ⟨k, hk, rfl⟩ := List.mem_mapIdx.mp hx
      repeat walk_at "nv"
      refine cd_len_s (by rw [SX.S_len]; simp; omega) ?_
      rw [SX.S_len]
      repeat walk_at "nv"
      simp [fstI]
    rw [ups_far (by omega)]
    refine ⟨_, Or.inr rfl, ?_⟩
    repeat walk_at "nv"
    rw [List.append_nil, ← List.map_append]
    refine ⟨by simp [ups]; have h1 := List.length_filter_le (fun x => f.getD x false) (List.range f.length); have h2 := List.length_filter_le (fun x => b.getD x false) (List.range b.length); simp at h1 h2; omega, ?_⟩
    repeat walk_at "nv"
    refine ed_lc_filter (fun d => gd_name) ?_
    refine ei_rng1 ?_
    repeat walk_at "nv"
    refine ⟨⟨by omega, by omega⟩, by simp [rangeD]; omega, fun d => keepB f b n (atN d), id, fun x hx => ?_, fun x hx _ => ?_, ?_⟩
    · rw [Int.toNat_natCast] at hx
      obtain ⟨p, hp', rfl⟩ := nat_of hx
      repeat walk_at "nv"
      rw [keep_mem hp']; rfl
    · repeat walk_at "nv"
      rfl
    · rw [Int.toNat_natCast, rangeD_nats, filt_nats]
      exact hR
end
end Nv

set_option Elab.async false
set_option linter.all false
set_option maxRecDepth 100000
set_option maxHeartbeats 4000000
namespace Nv
open PySem PySem.Spec PyProof.Rows L2
open SX (S)
local macro_rules | `(tactic| walk_at "nv1") => `(tactic| first
  | ((with_reducible apply ed_var); exact rfl)
  | (with_reducible refine sd_seq ?_)
  | (with_reducible refine sd_ret ?_)
  | (with_reducible refine sd_if ?_)
  | (with_reducible refine sd_asg ?_)
  | (with_reducible refine sd_next ?_)
  | (with_reducible refine sd_unl ?_)
  | (with_reducible refine ed_makeR ?_)
  | (with_reducible refine ed_methR ?_)
  | (with_reducible refine ed_propR ?_)
  | (with_reducible refine ed_cmeth ?_)
  | (with_reducible refine ed_fld ?_)
  | (with_reducible refine ed_lstRg ?_)
  | (with_reducible refine ed_tupRg ?_)
  | (with_reducible refine ea_star ?_)
  | (with_reducible refine ed_op ?_)
  | (with_reducible refine ed_and ?_)
  | (with_reducible refine ed_or ?_)
  | (with_reducible refine ed_not ?_)
  | (with_reducible refine ed_if ?_)
  | (with_reducible refine ed_cb ?_)
  | (with_reducible refine ed_call ?_)
  | (with_reducible refine ed_lst ?_)
  | (with_reducible refine ed_tup ?_)
  | (with_reducible refine ed_un ?_)
  | (with_reducible refine ed_sl ?_)
  | (with_reducible refine ea_cons ?_)
  | (with_reducible refine ea_nil ?_)
  | (with_reducible refine eo_none ?_)
  | (with_reducible refine eo_some ?_)
  | (with_reducible refine et_test ?_)
  | (with_reducible refine et_B ?_)
  | (with_reducible refine et_and ?_)
  | (with_reducible refine et_or ?_)
  | (with_reducible refine et_not ?_)
  | (with_reducible refine et_yes ?_)
  | (with_reducible refine ed_int ?_)
  | (with_reducible refine ed_str ?_)
  | (with_reducible refine ed_bl ?_)
  | (with_reducible refine ed_non ?_)
  | (with_reducible refine ed_ty ?_)
  | (with_reducible refine ed_obj ?_))
local macro_rules | `(tactic| walk_at "nv2") => `(tactic| first
  | (with_reducible refine rd_add_i ?_)
  | (with_reducible refine rd_I0i ?_)
  | (with_reducible refine rd_I0b ?_)
  | (with_reducible refine rd_eq_i ?_)
  | (with_reducible refine rd_ne_i ?_)
  | (with_reducible refine rd_eq_s ?_)
  | (with_reducible refine rd_ne_s ?_)
  | (with_reducible refine rd_notB ?_)
  | (with_reducible refine cd_tup_l ?_)
  | (with_reducible refine cd_tup_t ?_)
  | (with_reducible refine cd_lst_l ?_)
  | (with_reducible refine cd_lst_t ?_)
  | (with_reducible refine rd_in_l ?_)
  | (with_reducible refine rd_in_t ?_)
  | (with_reducible refine rd_ni_t ?_)
  | (with_reducible refine rd_eq_b ?_)
  | (with_reducible refine rd_ne_b ?_)
  | (with_reducible refine rd_isB ?_)
  | (with_reducible refine rd_isN ?_)
  | (with_reducible refine rd_notN ?_)
  | (with_reducible refine rd_in_sign ?_)
  | (with_reducible refine cd_len_l ?_)
  | (with_reducible refine cd_len_sq ?_)
  | (with_reducible refine cd_len_t ?_)
  | (with_reducible refine cd_int_i ?_)
  | (with_reducible refine cd_int_b ?_)
  | (with_reducible refine cd_abs ?_)
  | (with_reducible refine cd_max ?_)
  | (with_reducible refine cd_min ?_)
  | (with_reducible refine cd_str_s ?_)
  | (with_reducible refine cd_repr_b ?_)
  | (with_reducible refine ud_neg ?_)
  | ((with_reducible refine And.intro ?_ ?_); exact Nat.le_of_ble_eq_true rfl) | (with_reducible refine ed_dnew ?_) | (with_reducible refine ed_disp1 ?_) | ((with_reducible refine rd_mul_l ?_ ?_ ?_ ?_); decide; decide; exact Nat.le_of_ble_eq_true rfl) | ((with_reducible refine rd_add_l ?_ ?_); exact Nat.le_of_ble_eq_true rfl)
  | (with_reducible refine ⟨_, rfl, ?_⟩) | (with_reducible refine ⟨_, Or.inl rfl, ?_⟩))
local macro_rules | `(tactic| walk_at "nv") => `(tactic| first | walk_at "nv1" | walk_at "nv2")
local macro_rules | `(tactic| walk_at "cx") => `(tactic| dsimp only [cxOf, Cx.nox, Cx.wish, Cx.blk, List.length_cons, List.length_nil])
section
variable {P : Program} {w : World} {K : PySem.W.Frag} {mg : Str → Option Value} {base : Heap} {ea : EA}
def PreChain : List Dt → (Dt → Prop) → Prop := fun ds R => ∃ (ps : List Part) (n : Nat), ds = [.tup (ps.map Part.d), .int n] ∧ (∀ p ∈ ps, p.ok) ∧ n ≤ 1000 ∧ R (.tup (natsD (chain ps n)))
theorem gf_chain_places (T : Tx P K mg ea) (g_part_places : Gf P w K mg base "part_places" 1 ["part", "many"] PrePlaces) : Gf P w K mg base "chain_places" 2 ["parts", "many"] PreChain := by
  refine gf_of T.D_chain_places sc_chain_places (fun ds R ⟨p, n, h, _⟩ => by rw [h]; rfl) fun f cdv A outer s H E hr => ⟨_, (pss_cons (ps_set (i := 2) sc_chain_places.nd rfl (by first | exact Or.inl rfl | exact Or.inr rfl) (pe_listRg rfl (by rfl) T.m_list (prg_1 (by rfl) T.m_range (pv 1)))) (pss_cons (ps_for PassesOwn.never rfl (piTup (K := K) rfl (pv 0)) (pg_name (i := 3) sc_chain_places.nd rfl (by first | exact Or.inl rfl | exact Or.inr rfl)) (pss_one (ps_set (i := 2) sc_chain_places.nd rfl (by first | exact Or.inl rfl | exact Or.inr rfl) (pe_lc (own := [("at", 4)]) (g := gName 4) rfl sc_chain_places.nd (piList (K := K) rfl (pe_gf g_part_places ⟨rfl, rfl, rfl, rfl, rfl⟩ (hr.mono (by decide)) rfl (pa_cons (pv 3) (pa_cons (pe_callB (callLen (K := K) rfl) (by rfl) T.m_len (by decide +kernel) (pa_cons (pv 2) pa_nil)) pa_nil)))) (blkOk_by (own := [("at", 4)]) (N := ["parts", "many", "places", "part", "at"]) (sc := defScope s_chain_places) (by decide +kernel)) (fun _ _ _ _ _ => (pg_name (i := 4) sc_chain_places.nd rfl (by first | exact Or.inl rfl | exact Or.inr rfl))) (fun _ _ _ _ _ => pts_nil) (fun _ _ _ _ _ => (pe_ix (ixA (K := K) rfl) (pv 2) (pv 4) (fun _ _ => rfl))))))) (pss_one (ps_ret (pe_callTy (callTuple (K := K) rfl) (by rfl) T.m_tuple (by decide +kernel) (pa_cons (pv 2) pa_nil)))))), fun ds R ⟨ps, n, h, hp, hn, hR⟩ => ?_⟩
  subst h
  repeat walk_at "nv"
  refine ⟨Int.natCast_nonneg _, by omega, ?_⟩
  rw [Int.toNat_natCast, rangeD_nats]
  repeat walk_at "nv"
  refine sd_for ?_
  refine ei_tup ?_
  repeat walk_at "nv"
  refine ⟨fun i s1 => ∃ a b : Sd, s1 = [.dt (.tup (ps.map Part.d)), .dt (.int n), .dt (.lst (natsD (kept (ps.take i) (List.range n)))), a, b], ⟨_, _, rfl⟩, fun i x s1 hx hI => ?_, fun s1 hI => ?_⟩
  · obtain ⟨a, b, rfl⟩ := hI
    rw [List.getElem?_map] at hx
    obtain ⟨p, hp', rfl⟩ := Option.map_eq_some_iff.mp hx
    have hl : (kept (ps.take i) (List.range n)).length ≤ n := chain_len _ n
    repeat walk_at "nv"
    refine ed_lc_map (fun d => gd_name) ?_
    refine ei_list ?_
    repeat walk_at "nv"
    refine ⟨p, (kept (ps.take i) (List.range n)).length, ?_, hp p (List.mem_of_getElem? hp'), by omega, ?_⟩
    · simp
    refine ⟨_, Or.inl rfl, ?_⟩
    have hlt : ∀ x ∈ p.pl (kept (ps.take i) (List.range n)).length, x < (kept (ps.take i) (List.range n)).length := fun x hx => pl_lt hx
    refine ⟨?_, pick (kept (ps.take i) (List.range n)), fun x hx => ?_, ?_⟩
    · have : (p.pl (kept (ps.take i) (List.range n)).length).length ≤ (kept (ps.take i) (List.range n)).length := by
        cases p with
        | all => simp [Part.pl]
        | pat f b => have := List.length_filter_le (keepB f b (kept (ps.take i) (List.range n)).length) (List.range (kept (ps.take i) (List.range n)).length); rw [List.length_range] at this; exact this
      simp only [natsD, List.length_map]; omega
    · simp only [natsD, List.map_map] at hx
      obtain ⟨k, hk, rfl⟩ := List.mem_map.mp hx
      have hk' := hlt k hk
      repeat walk_at "nv"
      refine rd_ix_l (d := pick (kept (ps.take i) (List.range n)) (.int (k : Int))) ?_ rfl
      show atI _ (k : Int) = _
      refine atI_nat ?_
      rw [natsD_get (List.getElem?_eq_getElem hk')]
      show _ = some (Dt.int (Int.ofNat ((kept (ps.take i) (List.range n)).getD (k : Int).toNat 0)))
      rw [Int.toNat_natCast, List.getD_eq_getElem?_getD, List.getElem?_eq_getElem hk']; rfl
    · rw [cut_pick _ _ hlt]
      repeat walk_at "nv"
      have e : ps.take (i + 1) = ps.take i ++ [p] := by rw [List.take_add_one, hp']; rfl
      refine ⟨.dt p.d, b, ?_⟩
      rw [e, kept_snoc]
      rfl
  · obtain ⟨a, b, rfl⟩ := hI
    rw [List.length_map, List.take_length]
    repeat walk_at "nv"
    exact hR
end
end Nv

set_option Elab.async false
set_option linter.all false
set_option maxRecDepth 100000
set_option maxHeartbeats 4000000
namespace Nv
open PySem PySem.Spec PyProof.Rows L2
open SX (S)
local macro_rules | `(tactic| walk_at "nv1") => `(tactic| first
  | ((with_reducible apply ed_var); exact rfl)
  | (with_reducible refine sd_seq ?_)
  | (with_reducible refine sd_ret ?_)
  | (with_reducible refine sd_if ?_)
  | (with_reducible refine sd_asg ?_)
  | (with_reducible refine sd_next ?_)
  | (with_reducible refine sd_unl ?_)
  | (with_reducible refine ed_makeR ?_)
  | (with_reducible refine ed_methR ?_)
  | (with_reducible refine ed_propR ?_)
  | (with_reducible refine ed_cmeth ?_)
  | (with_reducible refine ed_fld ?_)
  | (with_reducible refine ed_lstRg ?_)
  | (with_reducible refine ed_tupRg ?_)
  | (with_reducible refine ea_star ?_)
  | (with_reducible refine ed_op ?_)
  | (with_reducible refine ed_and ?_)
  | (with_reducible refine ed_or ?_)
  | (with_reducible refine ed_not ?_)
  | (with_reducible refine ed_if ?_)
  | (with_reducible refine ed_cb ?_)
  | (with_reducible refine ed_call ?_)
  | (with_reducible refine ed_lst ?_)
  | (with_reducible refine ed_tup ?_)
  | (with_reducible refine ed_un ?_)
  | (with_reducible refine ed_sl ?_)
  | (with_reducible refine ea_cons ?_)
  | (with_reducible refine ea_nil ?_)
  | (with_reducible refine eo_none ?_)
  | (with_reducible refine eo_some ?_)
  | (with_reducible refine et_test ?_)
  | (with_reducible refine et_B ?_)
  | (with_reducible refine et_and ?_)
  | (with_reducible refine et_or ?_)
  | (with_reducible refine et_not ?_)
  | (with_reducible refine et_yes ?_)
  | (with_reducible refine ed_int ?_)
  | (with_reducible refine ed_str ?_)
  | (with_reducible refine ed_bl ?_)
  | (with_reducible refine ed_non ?_)
  | (with_reducible refine ed_ty ?_)
  | (with_reducible refine ed_obj ?_))
local macro_rules | `(tactic| walk_at "nv2") => `(tactic| first
  | (with_reducible refine rd_add_i ?_)
  | (with_reducible refine rd_I0i ?_)
  | (with_reducible refine rd_I0b ?_)
  | (with_reducible refine rd_eq_i ?_)
  | (with_reducible refine rd_ne_i ?_)
  | (with_reducible refine rd_eq_s ?_)
  | (with_reducible refine rd_ne_s ?_)
  | (with_reducible refine rd_notB ?_)
  | (with_reducible refine cd_tup_l ?_)
  | (with_reducible refine cd_tup_t ?_)
  | (with_reducible refine cd_lst_l ?_)
  | (with_reducible refine cd_lst_t ?_)
  | (with_reducible refine rd_in_l ?_)
  | (with_reducible refine rd_in_t ?_)
  | (with_reducible refine rd_ni_t ?_)
  | (with_reducible refine rd_eq_b ?_)
  | (with_reducible refine rd_ne_b ?_)
  | (with_reducible refine rd_isB ?_)
  | (with_reducible refine rd_isN ?_)
  | (with_reducible refine rd_notN ?_)
  | (with_reducible refine rd_in_sign ?_)
  | (with_reducible refine cd_len_l ?_)
  | (with_reducible refine cd_len_sq ?_)
  | (with_reducible refine cd_len_t ?_)
  | (with_reducible refine cd_int_i ?_)
  | (with_reducible refine cd_int_b ?_)
  | (with_reducible refine cd_abs ?_)
  | (with_reducible refine cd_max ?_)
  | (with_reducible refine cd_min ?_)
  | (with_reducible refine cd_str_s ?_)
  | (with_reducible refine cd_repr_b ?_)
  | (with_reducible refine ud_neg ?_)
  | ((with_reducible refine And.intro ?_ ?_); exact Nat.le_of_ble_eq_true rfl) | (with_reducible refine ed_dnew ?_) | (with_reducible refine ed_disp1 ?_) | ((with_reducible refine rd_mul_l ?_ ?_ ?_ ?_); decide; decide; exact Nat.le_of_ble_eq_true rfl) | ((with_reducible refine rd_add_l ?_ ?_); exact Nat.le_of_ble_eq_true rfl)
  | (with_reducible refine ⟨_, rfl, ?_⟩) | (with_reducible refine ⟨_, Or.inl rfl, ?_⟩))
local macro_rules | `(tactic| walk_at "nv") => `(tactic| first | walk_at "nv1" | walk_at "nv2")
local macro_rules | `(tactic| walk_at "cx") => `(tactic| dsimp only [cxOf, Cx.nox, Cx.wish, Cx.blk, List.length_cons, List.length_nil])
section
variable {P : Program} {w : World} {K : PySem.W.Frag} {mg : Str → Option Value} {base : Heap} {ea : EA}
def knownF (ps : List Part) : List (Str × Dt) := [("own_parts", .tup (ps.map Part.d))]
def PreInit (KC : Addr) : List Dt → (List (Str × Dt) → Prop) → Prop := fun ds R => ∃ ps : List Part, (∀ p ∈ ps, p.ok) ∧ ps.length ≤ 1000 ∧ (ds = ps.map Part.d ∧ ps.length ≤ 4 ∨ ds = [.ins KC (knownF ps)]) ∧ R (cutF ps)
theorem gi_Cutter___init__ (T : Tx P K mg ea) (g_is_part : Gf P w K mg base "is_part" 2 ["value"] PrePart) (g_chain_places : Gf P w K mg base "chain_places" 2 ["parts", "many"] PreChain) :
    FnR P w K mg base CX0 3 ea.f_Cutter___init__ (spI K ea.C_Cutter fun ds R => ds.length ≤ 1000000 ∧ PreInit ea.C_Known ds R) := by
  obtain ⟨fd, F, hb⟩ := T.D_Cutter___init__
  refine gi_star F sc_Cutter___init__ hb fun cdv A outer s H E hr => ⟨_, (pss_cons (ps_set (i := 2) sc_Cutter___init__.nd rfl (by first | exact Or.inl rfl | exact Or.inr rfl) (pe_and (pe_cmpR (opEq (K := K) rfl hr.units) (pe_callB (callLen (K := K) rfl) (by rfl) T.m_len (by decide +kernel) (pa_cons (pv 1) pa_nil)) pe_int (nomark _)) (pe_one (pe_callB (callIsi (K := K) rfl) (by rfl) T.m_isinstance (by decide +kernel) (pa_cons (pe_ix (ixA (K := K) rfl) (pv 1) pe_int (fun _ _ => rfl)) (pa_cons (pe_cl rfl T.k_Known.m) pa_nil)))))) (pss_cons (ps_set (i := 3) sc_Cutter___init__.nd rfl (by first | exact Or.inl rfl | exact Or.inr rfl) (pe_ifExp (pt_val (pv 2)) (peFld (K := K) rfl (pe_ix (ixA (K := K) rfl) (pv 1) pe_int (fun _ _ => rfl))) (pv 1))) (pss_cons (ps_if (PW.pt (pw_and (pt_not (pt_val (pv 2))) (pw_and1 (PW.pt (pw_or (pt_not (pt_val (pe_callB (callAll (K := K) rfl rfl) (by rfl) T.m_all (by decide +kernel) (pa_cons (pe_lc (own := [("part", 5)]) (g := gName 5) rfl sc_Cutter___init__.nd (piTup (K := K) rfl (pv 3)) (blkOk_by (own := [("part", 5)]) (N := ["self", "parts", "is_known", "told", "many", "part"]) (sc := defScope s_Cutter___init__) (by decide +kernel)) (fun _ _ _ _ _ => (pg_name (i := 5) sc_Cutter___init__.nd rfl (by first | exact Or.inl rfl | exact Or.inr rfl))) (fun _ _ _ _ _ => pts_nil) (fun _ _ _ _ _ => (pe_gf g_is_part ⟨rfl, rfl, rfl, rfl, rfl⟩ (hr.mono (by decide)) rfl (pa_cons (pv 5) pa_nil)))) pa_nil)))) (pw_or1 (pt_cmpR op_gt (pe_callB (callLen (K := K) rfl) (by rfl) T.m_len (by decide +kernel) (pa_cons (pv 3) pa_nil)) (pe_g rfl T.g_MAX_PARTS) (nomark _)))))))) (pss_one ps_never) pss_nil) (pss_cons (psFld (K := K) rfl (pv 0) (pv 3)) (pss_cons (psFld (K := K) rfl (pv 0) (pe_callTy (callTuple (K := K) rfl) (by rfl) T.m_tuple (by decide +kernel) (pa_cons (pe_lc (own := [("many", 4)]) (g := gName 4) rfl sc_Cutter___init__.nd (pi_range1 rfl T.m_range (pa_cons (pe_op (opAdd (K := K) rfl) (pe_g rfl T.g_FEW) pe_int) pa_nil)) (blkOk_by (own := [("many", 4)]) (N := ["self", "parts", "is_known", "told", "many", "part"]) (sc := defScope s_Cutter___init__) (by decide +kernel)) (fun _ _ _ _ _ => (pg_name (i := 4) sc_Cutter___init__.nd rfl (by first | exact Or.inl rfl | exact Or.inr rfl))) (fun _ _ _ _ _ => pts_nil) (fun _ _ _ _ _ => (pe_gf g_chain_places ⟨rfl, rfl, rfl, rfl, rfl⟩ (hr.mono (by decide)) rfl (pa_cons (pv 3) (pa_cons (pv 4) pa_nil))))) pa_nil))) (pss_one (psFld (K := K) rfl (pv 0) (pe_callB (callAll (K := K) rfl rfl) (by rfl) T.m_all (by decide +kernel) (pa_cons (pe_lc (own := [("part", 5)]) (g := gName 5) rfl sc_Cutter___init__.nd (piTup (K := K) rfl (pv 3)) (blkOk_by (own := [("part", 5)]) (N := ["self", "parts", "is_known", "told", "many", "part"]) (sc := defScope s_Cutter___init__) (by decide +kernel)) (fun _ _ _ _ _ => (pg_name (i := 5) sc_Cutter___init__.nd rfl (by first | exact Or.inl rfl | exact Or.inr rfl))) (fun _ _ _ _ _ => pts_nil) (fun _ _ _ _ _ => (pe_cmpR (opEq (K := K) rfl hr.units) (pv 5) (pe_g rfl T.g_WHOLE) (nomark _)))) pa_nil))))))))), fun x ds R ⟨_, ps, hp, hl, hds, hR⟩ => ?_⟩
  refine sd_cut (fun s1 => ∃ b, (b = true → ds = [.ins ea.C_Known (knownF ps)]) ∧ (b = false → ds = ps.map Part.d ∧ ps.length ≤ 4) ∧ s1 = [.own x (.ins ea.C_Cutter []), .dt (.tup ds), .dt (.bl b), .no, .no, .no]) ?_ ?_
  · rcases hds with ⟨h, h4⟩ | h
    · subst h
      refine sd_asg (EvD.imp (R := fun d => d = .bl false) ?_ fun d hd => ?_)
      · repeat walk_at "nv"
        refine ifb (fun h1 => ?_) fun h1 => rfl
        have h1 := of_decide_eq_true h1
        match ps, h1 with
        | [p], _ =>
          repeat walk_at "nv"
          refine rd_ix_t (d := p.d) rfl ?_
          repeat walk_at "nv"
          exact cd_isO rfl trivial (T.k_Known.kC "str" (by decide)) rfl
      · subst hd
        exact ⟨false, (fun z => nomatch z), fun _ => ⟨rfl, h4⟩, rfl⟩
    · subst h
      repeat walk_at "nv"
      refine ifT rfl ?_
      repeat walk_at "nv"
      refine rd_ix_t (d := .ins ea.C_Known (knownF ps)) rfl ?_
      repeat walk_at "nv"
      refine cd_isO rfl T.k_Known.ci kit_self ?_
      exact ⟨true, fun _ => rfl, (fun z => nomatch z), rfl⟩
  rintro s1 ⟨b, hb1, hb2, rfl⟩
  refine sd_cut (fun s1 => s1 = [.own x (.ins ea.C_Cutter []), .dt (.tup ds), .dt (.bl b), .dt (.tup (ps.map Part.d)), .no, .no]) ?_ ?_
  · repeat walk_at "nv"
    refine ifb (fun h => ?_) fun h => ?_
    · have e := hb1 h
      subst e
      repeat walk_at "nv"
      refine rd_ix_t (d := .ins ea.C_Known (knownF ps)) rfl ?_
      exact ⟨_, _, _, rfl, T.k_Known.cls, T.n_Known_own_parts, rfl, rfl⟩
    · obtain ⟨e, _⟩ := hb2 h
      subst e
      repeat walk_at "nv"
      rfl
  rintro s1 rfl
  refine sd_cut (fun s1 => s1 = [.own x (.ins ea.C_Cutter []), .dt (.tup ds), .dt (.bl b), .dt (.tup (ps.map Part.d)), .no, .no]) ?_ ?_
  · cases b with
    | true =>
      repeat walk_at "nv"
      refine ifF rfl (ifF rfl ?_)
      walk_at "nv"
      rfl
    | false =>
      obtain ⟨_, h4⟩ := hb2 rfl
      repeat walk_at "nv"
      refine ifT rfl ?_
      repeat walk_at "nv"
      refine ed_lc_map (fun d => gd_name) ?_
      refine ei_tup ?_
      repeat walk_at "nv"
      refine ⟨by rw [List.length_map]; omega, fun _ => .bl true, fun x hx => ?_, ?_⟩
      · obtain ⟨p, hp', rfl⟩ := List.mem_map.mp hx
        repeat walk_at "nv"
        exact ⟨p, rfl, hp p hp', rfl⟩
      repeat walk_at "nv"
      rw [bl_map (ps.map Part.d) fun _ => true]
      refine cd_all ?_
      rw [all_true]
      repeat walk_at "nv"
      refine ifF rfl ?_
      repeat walk_at "nv"
      refine ifF (decide_eq_false (by rw [List.length_map]; omega)) ?_
      walk_at "nv"
      rfl
  rintro s1 rfl
  refine sd_seq ?_
  refine sd_fld (a := x) rfl T.k_Cutter.cls T.n_Cutter_own_parts (by decide) ?_
  repeat walk_at "nv"
  refine sd_fld (a := x) rfl T.k_Cutter.cls T.n_Cutter_own_tables (by show 1 < 1000; decide) ?_
  repeat walk_at "nv"
  refine ed_lc_map (fun d => gd_name) ?_
  refine ei_rng1 ?_
  repeat walk_at "nv"
  refine ⟨by decide, by decide, fun d => .tup (natsD (chain ps (atN d))), fun x hx => ?_, ?_⟩
  · obtain ⟨n, hn, rfl⟩ := nat_of hx
    have hn : n < 6 := hn
    repeat walk_at "nv"
    refine ⟨ps, n, rfl, hp, by omega, ?_⟩
    show _ = Dt.tup (natsD (chain ps (n : Int).toNat))
    rw [Int.toNat_natCast]
  repeat walk_at "nv"
  refine sd_fld (a := x) rfl T.k_Cutter.cls T.n_Cutter_own_is_whole (by show 2 < 1000; decide) ?_
  repeat walk_at "nv"
  refine ed_lc_map (fun d => gd_name) ?_
  refine ei_tup ?_
  repeat walk_at "nv"
  refine ⟨by rw [List.length_map]; omega, fun d => .bl (match d with | .str z => decide (z = "all") | _ => false), fun x hx => ?_, ?_⟩
  · obtain ⟨p, hp', rfl⟩ := List.mem_map.mp hx
    repeat walk_at "nv"
    rfl
  repeat walk_at "nv"
  rw [show (ps.map Part.d).map (fun d => Dt.bl (match d with | .str z => decide (z = "all") | _ => false)) = (ps.map Part.isAll).map Dt.bl by
    rw [List.map_map, List.map_map]
    refine List.map_congr_left fun p hp' => ?_
    show Dt.bl (decide (p.s = "all")) = Dt.bl p.isAll
    rw [part_all (hp p hp')]]
  refine cd_all ?_
  refine ⟨cutF ps, ?_, hR⟩
  have e : (ps.map Part.isAll).all id = ps.all Part.isAll := by rw [List.all_map]; rfl
  rw [e]
  rfl
end
end Nv

set_option Elab.async false
set_option linter.all false
set_option maxRecDepth 100000
set_option maxHeartbeats 4000000
namespace Nv
open PySem PySem.Spec PyProof.Rows L2
open SX (S)
local macro_rules | `(tactic| walk_at "nv1") => `(tactic| first
  | ((with_reducible apply ed_var); exact rfl)
  | (with_reducible refine sd_seq ?_)
  | (with_reducible refine sd_ret ?_)
  | (with_reducible refine sd_if ?_)
  | (with_reducible refine sd_asg ?_)
  | (with_reducible refine sd_next ?_)
  | (with_reducible refine sd_unl ?_)
  | (with_reducible refine ed_makeR ?_)
  | (with_reducible refine ed_methR ?_)
  | (with_reducible refine ed_propR ?_)
  | (with_reducible refine ed_cmeth ?_)
  | (with_reducible refine ed_fld ?_)
  | (with_reducible refine ed_lstRg ?_)
  | (with_reducible refine ed_tupRg ?_)
  | (with_reducible refine ea_star ?_)
  | (with_reducible refine ed_op ?_)
  | (with_reducible refine ed_and ?_)
  | (with_reducible refine ed_or ?_)
  | (with_reducible refine ed_not ?_)
  | (with_reducible refine ed_if ?_)
  | (with_reducible refine ed_cb ?_)
  | (with_reducible refine ed_call ?_)
  | (with_reducible refine ed_lst ?_)
  | (with_reducible refine ed_tup ?_)
  | (with_reducible refine ed_un ?_)
  | (with_reducible refine ed_sl ?_)
  | (with_reducible refine ea_cons ?_)
  | (with_reducible refine ea_nil ?_)
  | (with_reducible refine eo_none ?_)
  | (with_reducible refine eo_some ?_)
  | (with_reducible refine et_test ?_)
  | (with_reducible refine et_B ?_)
  | (with_reducible refine et_and ?_)
  | (with_reducible refine et_or ?_)
  | (with_reducible refine et_not ?_)
  | (with_reducible refine et_yes ?_)
  | (with_reducible refine ed_int ?_)
  | (with_reducible refine ed_str ?_)
  | (with_reducible refine ed_bl ?_)
  | (with_reducible refine ed_non ?_)
  | (with_reducible refine ed_ty ?_)
  | (with_reducible refine ed_obj ?_))
local macro_rules | `(tactic| walk_at "nv2") => `(tactic| first
  | (with_reducible refine rd_add_i ?_)
  | (with_reducible refine rd_I0i ?_)
  | (with_reducible refine rd_I0b ?_)
  | (with_reducible refine rd_eq_i ?_)
  | (with_reducible refine rd_ne_i ?_)
  | (with_reducible refine rd_eq_s ?_)
  | (with_reducible refine rd_ne_s ?_)
  | (with_reducible refine rd_notB ?_)
  | (with_reducible refine cd_tup_l ?_)
  | (with_reducible refine cd_tup_t ?_)
  | (with_reducible refine cd_lst_l ?_)
  | (with_reducible refine cd_lst_t ?_)
  | (with_reducible refine rd_in_l ?_)
  | (with_reducible refine rd_in_t ?_)
  | (with_reducible refine rd_ni_t ?_)
  | (with_reducible refine rd_eq_b ?_)
  | (with_reducible refine rd_ne_b ?_)
  | (with_reducible refine rd_isB ?_)
  | (with_reducible refine rd_isN ?_)
  | (with_reducible refine rd_notN ?_)
  | (with_reducible refine rd_in_sign ?_)
  | (with_reducible refine cd_len_l ?_)
  | (with_reducible refine cd_len_sq ?_)
  | (with_reducible refine cd_len_t ?_)
  | (with_reducible refine cd_int_i ?_)
  | (with_reducible refine cd_int_b ?_)
  | (with_reducible refine cd_abs ?_)
  | (with_reducible refine cd_max ?_)
  | (with_reducible refine cd_min ?_)
  | (with_reducible refine cd_str_s ?_)
  | (with_reducible refine cd_repr_b ?_)
  | (with_reducible refine ud_neg ?_)
  | ((with_reducible refine And.intro ?_ ?_); exact Nat.le_of_ble_eq_true rfl) | (with_reducible refine ed_dnew ?_) | (with_reducible refine ed_disp1 ?_) | ((with_reducible refine rd_mul_l ?_ ?_ ?_ ?_); decide; decide; exact Nat.le_of_ble_eq_true rfl) | ((with_reducible refine rd_add_l ?_ ?_); exact Nat.le_of_ble_eq_true rfl)
  | (with_reducible refine ⟨_, rfl, ?_⟩) | (with_reducible refine ⟨_, Or.inl rfl, ?_⟩))
local macro_rules | `(tactic| walk_at "nv") => `(tactic| first | walk_at "nv1" | walk_at "nv2")
local macro_rules | `(tactic| walk_at "cx") => `(tactic| dsimp only [cxOf, Cx.nox, Cx.wish, Cx.blk, List.length_cons, List.length_nil])
section
variable {P : Program} {w : World} {K : PySem.W.Frag} {mg : Str → Option Value} {base : Heap} {ea : EA}
def PreInt : List Dt → (Dt → Prop) → Prop := fun ds R => ∃ i : Int, ds = [.int i] ∧ R (.bl true)
theorem gf_is_integer (T : Tx P K mg ea) : Gf P w K mg base "is_integer" 1 ["value"] PreInt := by
  refine gf_of T.D_is_integer sc_is_integer (fun ds R ⟨d, h, _⟩ => by rw [h]; rfl) fun f cdv A outer s H E hr => ⟨_, (pss_one (ps_ret (pe_and (pe_callB (callIsi (K := K) rfl) (by rfl) T.m_isinstance (by decide +kernel) (pa_cons (pv 0) (pa_cons (pe_bty "int" rfl T.m_int (by decide +kernel)) pa_nil))) (pe_one (pe_not (pe_callB (callIsi (K := K) rfl) (by rfl) T.m_isinstance (by decide +kernel) (pa_cons (pv 0) (pa_cons (pe_bty "bool" rfl T.m_bool (by decide +kernel)) pa_nil)))))))), fun ds R ⟨d, h, hR⟩ => ?_⟩
  subst h
  repeat walk_at "nv"
  refine cd_isi (b := true) rfl (by decide +kernel) ⟨_, rfl, ifT rfl ?_⟩
  repeat walk_at "nv"
  exact cd_isi (b := false) rfl (by decide +kernel) ⟨_, rfl, hR⟩
def PreNum : List Dt → (Dt → Prop) → Prop := fun ds R => ∃ i : Int, ds = [.int i, .int 0, .int 1000] ∧ 0 ≤ i ∧ i ≤ 1000 ∧ R .non
theorem gf_require_number (T : Tx P K mg ea) (g_is_integer : Gf P w K mg base "is_integer" 1 ["value"] PreInt) : Gf P w K mg base "require_number" 2 ["value", "least", "most"] PreNum := by
  refine gfd_of T.D_require_number sc_require_number (fun ds R ⟨d, h, _⟩ => by rw [h]; rfl) fun f cdv A outer s H E hr => ⟨_, (pss_one (ps_if (PW.pt (pw_or (pt_not (pt_val (pe_gf g_is_integer ⟨rfl, rfl, rfl, rfl, rfl⟩ (hr.mono (by decide)) rfl (pa_cons (pv 0) pa_nil)))) (pw_or (pt_cmpR op_lt (pv 0) (pv 1) (nomark _)) (pw_or1 (PW.pt (pw_and (pt_cmpR opIsNot (pv 2) pe_non (nomark _)) (pw_and1 (pt_cmpR op_gt (pv 0) (pv 2) (nomark _))))))))) (pss_one ps_never) pss_nil)), fun ds R ⟨d, h, h0, h1, hR⟩ => ?_⟩
  subst h
  repeat walk_at "nv"
  refine ⟨d, rfl, _, rfl, ifF rfl ?_⟩
  repeat walk_at "nv"
  refine ifF (decide_eq_false (by omega)) ?_
  repeat walk_at "nv"
  refine ifT rfl ?_
  repeat walk_at "nv"
  refine ifF (decide_eq_false (by omega)) ?_
  repeat walk_at "nv"
  exact hR
def PreCut (C : Addr) : List Dt → (Dt → Prop) → Prop := fun ds R => ∃ ps, ds = [cutD C ps] ∧ R .non
theorem gf_require_cutter (T : Tx P K mg ea) : Gf P w K mg base "require_cutter" 1 ["value"] (PreCut ea.C_Cutter) := by
  refine gf_of T.D_require_cutter sc_require_cutter (fun ds R ⟨d, h, _⟩ => by rw [h]; rfl) fun f cdv A outer s H E hr => ⟨_, (pss_one (ps_if (pt_not (pt_val (pe_callB (callIsi (K := K) rfl) (by rfl) T.m_isinstance (by decide +kernel) (pa_cons (pv 0) (pa_cons (pe_cl rfl T.k_Cutter.m) pa_nil))))) (pss_one ps_never) pss_nil)), fun ds R ⟨d, h, hR⟩ => ?_⟩
  subst h
  repeat walk_at "nv"
  refine cd_isO rfl T.k_Cutter.ci kit_self ?_
  repeat walk_at "nv"
  refine ifF rfl ?_
  repeat walk_at "nv"
  exact hR
def PreKept (C : Addr) : List Dt → (Dt → Prop) → Prop := fun ds R => ∃ (ps : List Part) (n : Nat), ds = [cutD C ps, .int n] ∧ (∀ p ∈ ps, p.ok) ∧ n ≤ 1000 ∧ R (.tup (natsD (chain ps n)))
theorem gf_kept_places (T : Tx P K mg ea) : Gf P w K mg base "kept_places" 1 ["cutter", "many"] (PreKept ea.C_Cutter) := by
  refine gf_of T.D_kept_places sc_kept_places (fun ds R ⟨d, n, h, _⟩ => by rw [h]; rfl) fun f cdv A outer s H E hr => ⟨_, (pss_cons (ps_if (pt_cmpR op_le (pv 1) (pe_g rfl T.g_FEW) (nomark _)) (pss_one (ps_ret (pe_ix (ixA (K := K) rfl) (peFld (K := K) rfl (pv 0)) (pv 1) (fun _ _ => rfl)))) pss_nil) (pss_cons (ps_if (pt_val (peFld (K := K) rfl (pv 0))) (pss_one (ps_ret (pe_tupRg rfl (by rfl) T.m_tuple (prg_1 (by rfl) T.m_range (pv 1))))) pss_nil) (pss_one (ps_ret (pe_callTy (callTuple (K := K) rfl) (by rfl) T.m_tuple (by decide +kernel) (pa_cons (pe_lc (own := [("place", 2)]) (g := gName 2) rfl sc_kept_places.nd (piTup (K := K) rfl (pe_ix (ixA (K := K) rfl) (peFld (K := K) rfl (pv 0)) (pe_g rfl T.g_FEW) (fun _ _ => rfl))) (blkOk_by (own := [("place", 2)]) (N := ["cutter", "many", "place"]) (sc := defScope s_kept_places) (by decide +kernel)) (fun _ _ _ _ _ => (pg_name (i := 2) sc_kept_places.nd rfl (by first | exact Or.inl rfl | exact Or.inr rfl))) (fun _ _ _ _ _ => pts_nil) (fun _ _ _ _ _ => (pe_ifExp (pt_cmpR op_lt (pv 2) (pe_g rfl T.g_MOST_FRONT) (nomark _)) (pv 2) (pe_op (opAdd (K := K) rfl) (pe_op op_sub (pv 1) (pe_g rfl T.g_FEW)) (pv 2))))) pa_nil)))))), fun ds R ⟨ps, n, h, hp, hn, hR⟩ => ?_⟩
  subst h
  repeat walk_at "nv"
  refine ifb (fun h1 => ?_) fun h1 => ?_
  · have h1 : n ≤ 5 := by have := of_decide_eq_true h1; omega
    repeat walk_at "nv"
    refine ⟨_, _, _, rfl, T.k_Cutter.cls, T.n_Cutter_own_tables, rfl, ?_⟩
    repeat walk_at "nv"
    refine rd_ix_t (d := .tup (natsD (chain ps n))) (atI_nat ?_) hR
    rw [List.getElem?_map, List.getElem?_range (by omega)]; rfl
  · have h1 : 5 < n := by have := of_decide_eq_false h1; omega
    repeat walk_at "nv"
    refine ⟨_, _, _, rfl, T.k_Cutter.cls, T.n_Cutter_own_is_whole, rfl, ?_⟩
    refine ⟨_, rfl, ifb (fun h2 => ?_) fun h2 => ?_⟩
    · repeat walk_at "nv"
      refine ⟨Int.natCast_nonneg _, by omega, ?_⟩
      rw [Int.toNat_natCast, rangeD_nats]
      rw [chain_far (by omega) hp, if_pos h2] at hR
      exact hR
    · repeat walk_at "nv"
      refine ed_lc_map (fun d => gd_name) ?_
      refine ei_tup ?_
      repeat walk_at "nv"
      refine ⟨_, _, _, rfl, T.k_Cutter.cls, T.n_Cutter_own_tables, rfl, ?_⟩
      repeat walk_at "nv"
      refine rd_ix_t (d := .tup (natsD (chain ps 5))) rfl ?_
      repeat walk_at "nv"
      have hlen := chain_len ps 5
      refine ⟨by simp only [natsD, List.length_map]; omega, farD n, fun x hx => ?_, ?_⟩
      · obtain ⟨k, hk, rfl⟩ := mem_nats hx
        have hk := chain_lt hk
        repeat walk_at "nv"
        refine ifb (fun h3 => ?_) fun h3 => ?_
        · have h3 : k < 2 := by have := of_decide_eq_true h3; omega
          repeat walk_at "nv"
          show _ = Dt.int (Int.ofNat (far n (k : Int).toNat))
          rw [Int.toNat_natCast]; unfold far; rw [if_pos h3]; rfl
        · have h3 : ¬ k < 2 := by have := of_decide_eq_false h3; omega
          repeat walk_at "nv"
          show _ = Dt.int (Int.ofNat (far n (k : Int).toNat))
          rw [Int.toNat_natCast]; unfold far; rw [if_neg h3]
          congr 1
          show (n : Int) - 5 + (k : Int) = ((n - 5 + k : Nat) : Int)
          omega
      · repeat walk_at "nv"
        rw [chain_far (by omega) hp, if_neg (by rw [h2]; exact Bool.false_ne_true)] at hR
        have e : (natsD (chain ps 5)).map (farD n) = natsD ((chain ps 5).map (far n)) := by
          simp only [natsD, List.map_map]
          refine List.map_congr_left fun k _ => ?_
          show Dt.int (Int.ofNat (far n (k : Int).toNat)) = _
          rw [Int.toNat_natCast]; rfl
        rw [e]; exact hR
end
end Nv

set_option Elab.async false
set_option linter.all false
set_option maxRecDepth 100000
set_option maxHeartbeats 4000000
namespace Nv
open PySem PySem.Spec PyProof.Rows L2
open SX (S)
local macro_rules | `(tactic| walk_at "nv1") => `(tactic| first
  | ((with_reducible apply ed_var); exact rfl)
  | (with_reducible refine sd_seq ?_)
  | (with_reducible refine sd_ret ?_)
  | (with_reducible refine sd_if ?_)
  | (with_reducible refine sd_asg ?_)
  | (with_reducible refine sd_next ?_)
  | (with_reducible refine sd_unl ?_)
  | (with_reducible refine ed_makeR ?_)
  | (with_reducible refine ed_methR ?_)
  | (with_reducible refine ed_propR ?_)
  | (with_reducible refine ed_cmeth ?_)
  | (with_reducible refine ed_fld ?_)
  | (with_reducible refine ed_lstRg ?_)
  | (with_reducible refine ed_tupRg ?_)
  | (with_reducible refine ea_star ?_)
  | (with_reducible refine ed_op ?_)
  | (with_reducible refine ed_and ?_)
  | (with_reducible refine ed_or ?_)
  | (with_reducible refine ed_not ?_)
  | (with_reducible refine ed_if ?_)
  | (with_reducible refine ed_cb ?_)
  | (with_reducible refine ed_call ?_)
  | (with_reducible refine ed_lst ?_)
  | (with_reducible refine ed_tup ?_)
  | (with_reducible refine ed_un ?_)
  | (with_reducible refine ed_sl ?_)
  | (with_reducible refine ea_cons ?_)
  | (with_reducible refine ea_nil ?_)
  | (with_reducible refine eo_none ?_)
  | (with_reducible refine eo_some ?_)
  | (with_reducible refine et_test ?_)
  | (with_reducible refine et_B ?_)
  | (with_reducible refine et_and ?_)
  | (with_reducible refine et_or ?_)
  | (with_reducible refine et_not ?_)
  | (with_reducible refine et_yes ?_)
  | (with_reducible refine ed_int ?_)
  | (with_reducible refine ed_str ?_)
  | (with_reducible refine ed_bl ?_)
  | (with_reducible refine ed_non ?_)
  | (with_reducible refine ed_ty ?_)
  | (with_reducible refine ed_obj ?_))
local macro_rules | `(tactic| walk_at "nv2") => `(tactic| first
  | (with_reducible refine rd_add_i ?_)
  | (with_reducible refine rd_I0i ?_)
  | (with_reducible refine rd_I0b ?_)
  | (with_reducible refine rd_eq_i ?_)
  | (with_reducible refine rd_ne_i ?_)
  | (with_reducible refine rd_eq_s ?_)
  | (with_reducible refine rd_ne_s ?_)
  | (with_reducible refine rd_notB ?_)
  | (with_reducible refine cd_tup_l ?_)
  | (with_reducible refine cd_tup_t ?_)
  | (with_reducible refine cd_lst_l ?_)
  | (with_reducible refine cd_lst_t ?_)
  | (with_reducible refine rd_in_l ?_)
  | (with_reducible refine rd_in_t ?_)
  | (with_reducible refine rd_ni_t ?_)
  | (with_reducible refine rd_eq_b ?_)
  | (with_reducible refine rd_ne_b ?_)
  | (with_reducible refine rd_isB ?_)
  | (with_reducible refine rd_isN ?_)
  | (with_reducible refine rd_notN ?_)
  | (with_reducible refine rd_in_sign ?_)
  | (with_reducible refine cd_len_l ?_)
  | (with_reducible refine cd_len_sq ?_)
  | (with_reducible refine cd_len_t ?_)
  | (with_reducible refine cd_int_i ?_)
  | (with_reducible refine cd_int_b ?_)
  | (with_reducible refine cd_abs ?_)
  | (with_reducible refine cd_max ?_)
  | (with_reducible refine cd_min ?_)
  | (with_reducible refine cd_str_s ?_)
  | (with_reducible refine cd_repr_b ?_)
  | (with_reducible refine ud_neg ?_)
  | ((with_reducible refine And.intro ?_ ?_); exact Nat.le_of_ble_eq_true rfl) | (with_reducible refine ed_dnew ?_) | (with_reducible refine ed_disp1 ?_) | ((with_reducible refine rd_mul_l ?_ ?_ ?_ ?_); decide; decide; exact Nat.le_of_ble_eq_true rfl) | ((with_reducible refine rd_add_l ?_ ?_); exact Nat.le_of_ble_eq_true rfl)
  | (with_reducible refine ⟨_, rfl, ?_⟩) | (with_reducible refine ⟨_, Or.inl rfl, ?_⟩))
local macro_rules | `(tactic| walk_at "nv") => `(tactic| first | walk_at "nv1" | walk_at "nv2")
local macro_rules | `(tactic| walk_at "cx") => `(tactic| dsimp only [cxOf, Cx.nox, Cx.wish, Cx.blk, List.length_cons, List.length_nil])
section
variable {P : Program} {w : World} {K : PySem.W.Frag} {mg : Str → Option Value} {base : Heap} {ea : EA}
def PreOf (C : Addr) : List Dt → (Dt → Prop) → Prop := fun ds R => ∃ ps, ds = [.obj C, .tup (ps.map Part.d)] ∧ Oks ps ∧ R (cutD C ps)
theorem gm_Cutter_of (T : Tx P K mg ea) (g_Cutter___init__ : FnR P w K mg base CX0 3 ea.f_Cutter___init__ (spI K ea.C_Cutter fun ds R => ds.length ≤ 1000000 ∧ PreInit ea.C_Known ds R)) : Gm P w K mg base 5 ea.f_Cutter_of (PreOf ea.C_Cutter) := by
  refine gm_of T.D_Cutter_of sc_Cutter_of (fun ds R ⟨d, h, _⟩ => by rw [h]; rfl) fun cdv A outer s H E hr => ⟨_, (pss_cons (ps_if (pt_not (pt_val (pe_callB (callIsi (K := K) rfl) (by rfl) T.m_isinstance (by decide +kernel) (pa_cons (pv 1) (pa_cons (pe_bty "tuple" rfl T.m_tuple (by decide +kernel)) pa_nil))))) (pss_one ps_never) pss_nil) (pss_one (ps_ret (pe_makeS (K := K) rfl T.mak_Cutter g_Cutter___init__ (hr.mono (by decide)) pass0 (pv 0) (pv 1))))), fun ds R ⟨ps, h, hp, hR⟩ => ?_⟩
  subst h
  repeat walk_at "nv"
  refine cd_isi (b := true) rfl (by decide +kernel) ?_
  repeat walk_at "nv"
  refine ifF rfl ?_
  repeat walk_at "nv"
  refine ed_makeS ?_
  repeat walk_at "nv"
  refine ⟨rfl, ?_⟩
  repeat walk_at "nv"
  exact ⟨by have := hp.2; simp; omega, ps, hp.1, by have := hp.2; omega, .inl ⟨rfl, hp.2⟩, hR⟩
def PreSelf (C : Addr) (f : List Part → Dt) : List Dt → (Dt → Prop) → Prop := fun ds R => ∃ ps, ds = [cutD C ps] ∧ R (f ps)
theorem gm_Cutter_parts (T : Tx P K mg ea) : Gm P w K mg base 1 ea.f_Cutter_parts (PreSelf ea.C_Cutter fun ps => .tup (ps.map Part.d)) := by
  refine gm_of T.D_Cutter_parts sc_Cutter_parts (fun ds R ⟨d, h, _⟩ => by rw [h]; rfl) fun cdv A outer s H E hr => ⟨_, (pss_one (ps_ret (peFld (K := K) rfl (pv 0)))), fun ds R ⟨ps, h, hR⟩ => ?_⟩
  subst h
  repeat walk_at "nv"
  exact ⟨_, _, _, rfl, T.k_Cutter.cls, T.n_Cutter_own_parts, rfl, hR⟩
theorem gm_Cutter_places (T : Tx P K mg ea) (g_require_number : Gf P w K mg base "require_number" 2 ["value", "least", "most"] PreNum) (g_kept_places : Gf P w K mg base "kept_places" 1 ["cutter", "many"] (PreKept ea.C_Cutter)) : Gm P w K mg base 3 ea.f_Cutter_places (PreKept ea.C_Cutter) := by
  refine gm_of T.D_Cutter_places sc_Cutter_places (fun ds R ⟨d, n, h, _⟩ => by rw [h]; rfl) fun cdv A outer s H E hr => ⟨_, (pss_cons (ps_expr (pe_gf g_require_number ⟨rfl, rfl, rfl, rfl, rfl⟩ (hr.mono (by decide)) rfl (pa_cons (pv 1) (pa_cons pe_int (pa_cons (pe_g rfl T.g_MAX_ROW) pa_nil))))) (pss_one (ps_ret (pe_gf g_kept_places ⟨rfl, rfl, rfl, rfl, rfl⟩ (hr.mono (by decide)) rfl (pa_cons (pv 0) (pa_cons (pv 1) pa_nil)))))), fun ds R ⟨ps, n, h, hp, hn, hR⟩ => ?_⟩
  subst h
  repeat walk_at "nv"
  refine sd_drop ?_
  repeat walk_at "nv"
  refine ⟨n, rfl, by omega, by omega, ?_⟩
  repeat walk_at "nv"
  exact ⟨ps, n, rfl, hp, hn, hR⟩
def PreEq (C : Addr) : List Dt → (Dt → Prop) → Prop := fun ds R => ∃ ps, (∃ qs, ds = [cutD C ps, cutD C qs] ∧ R (.bl (sameB ps qs))) ∨ ∃ d T, ds = [cutD C ps, d] ∧ tyV' d = some (.type T) ∧ clsOk K d ∧ T ∈ kinds7 ∧ R (.bl false)
theorem gm_Cutter___eq__ (T : Tx P K mg ea) : Gm P w K mg base 1 ea.f_Cutter___eq__ (PreEq (K := K) ea.C_Cutter) := by
  refine gm_of T.D_Cutter___eq__ sc_Cutter___eq__ (fun ds R ⟨ps, h⟩ => by rcases h with ⟨qs, h, _⟩ | ⟨d, Ty, h, _⟩ <;> (rw [h]; rfl)) fun cdv A outer s H E hr => ⟨_, (pss_cons (ps_if (pt_not (pt_val (pe_callB (callIsi (K := K) rfl) (by rfl) T.m_isinstance (by decide +kernel) (pa_cons (pv 1) (pa_cons (pe_cl rfl T.k_Cutter.m) pa_nil))))) (pss_one (ps_ret pe_bl)) pss_nil) (pss_one (ps_ret (pe_and (pe_cmpR (opEq (K := K) rfl hr.units) (peFld (K := K) rfl (pv 0)) (peFld (K := K) rfl (pv 1)) (nomark _)) (pe_one (pe_cmpR (opEq (K := K) rfl hr.units) (peFld (K := K) rfl (pv 0)) (peFld (K := K) rfl (pv 1)) (nomark _))))))), fun ds R ⟨ps, h⟩ => ?_⟩
  rcases h with ⟨qs, h, hR⟩ | ⟨d, Ty, h, ht, hc, hT, hR⟩
  · subst h
    repeat walk_at "nv"
    refine cd_isO rfl T.k_Cutter.ci kit_self ?_
    repeat walk_at "nv"
    refine ifF rfl ?_
    repeat walk_at "nv"
    refine ⟨_, _, _, rfl, T.k_Cutter.cls, T.n_Cutter_own_tables, rfl, ?_⟩
    repeat walk_at "nv"
    refine ⟨_, _, _, rfl, T.k_Cutter.cls, T.n_Cutter_own_tables, rfl, ?_⟩
    rw [tabs_eq, tabs_eq]
    refine rd_eq_tabs ⟨_, rfl, ?_⟩
    have e : sameB ps qs = (decide (tabs ps = tabs qs) && decide (ps.all Part.isAll = qs.all Part.isAll)) := rfl
    rw [e] at hR
    refine ifb (fun h1 => ?_) fun h1 => ?_
    · repeat walk_at "nv"
      refine ⟨_, _, _, rfl, T.k_Cutter.cls, T.n_Cutter_own_is_whole, rfl, ?_⟩
      repeat walk_at "nv"
      refine ⟨_, _, _, rfl, T.k_Cutter.cls, T.n_Cutter_own_is_whole, rfl, ?_⟩
      rw [h1, Bool.true_and] at hR
      exact rd_eq_b hR
    · rw [h1, Bool.false_and] at hR
      exact hR
  · subst h
    repeat walk_at "nv"
    refine cd_isO ht hc (T.k_Cutter.kC Ty hT) ?_
    repeat walk_at "nv"
    refine ifT rfl ?_
    repeat walk_at "nv"
    exact hR
def PreStr (C : Addr) : List Dt → (Dt → Prop) → Prop := fun ds R => ∃ ps, ds = [cutD C ps] ∧ (∀ p ∈ ps, p.ok) ∧ ps.length ≤ 100 ∧ R (.str (strOf ps))
theorem gm_Cutter___str__ (T : Tx P K mg ea) : Gm P w K mg base 1 ea.f_Cutter___str__ (PreStr ea.C_Cutter) := by
  refine gm_of T.D_Cutter___str__ sc_Cutter___str__ (fun ds R ⟨ps, h, _⟩ => by rw [h]; rfl) fun cdv A outer s H E hr => ⟨_, (pss_cons (ps_if (pt_cmpR (opEq (K := K) rfl hr.units) (peFld (K := K) rfl (pv 0)) (pe_tup pa_nil) (nomark _)) (pss_one (ps_ret pe_str)) pss_nil) (pss_one (ps_ret (peBm (K := K) rfl PySem.F.plainAttrs_str PySem.F.slot_str_join PySem.F.type_str_join (mtJoin (K := K) rfl) pe_str (pa_cons (peFld (K := K) rfl (pv 0)) pa_nil))))), fun ds R ⟨ps, h, hp, hl, hR⟩ => ?_⟩
  subst h
  repeat walk_at "nv"
  refine ⟨_, _, _, rfl, T.k_Cutter.cls, T.n_Cutter_own_parts, rfl, ?_⟩
  repeat walk_at "nv"
  obtain ⟨h1, h2⟩ := lay_parts hp
  refine rd_eq_d (p := .tuple (partsP ps)) (q := .tuple []) (by show (toPy.toPys (ps.map Part.d)).map PyData.tuple = _; rw [toPys_parts]; rfl) rfl (by show (PyData.canLayAll0 (partsP ps) && decide (PyData.depthAll (partsP ps) + 1 ≤ 64)) = true; rw [h1, h2]; rfl) (by decide) ?_
  have e : PyData.eqv (.tuple (partsP ps)) (.tuple []) = ps.isEmpty := by cases ps <;> rfl
  rw [e]
  refine ⟨_, rfl, ifb (fun h3 => ?_) fun h3 => ?_⟩
  · repeat walk_at "nv"
    unfold strOf at hR
    rw [if_pos h3] at hR
    exact hR
  · repeat walk_at "nv"
    refine ed_bm ?_
    repeat walk_at "nv"
    refine ⟨fun G H v e d => ty_s e d, ?_⟩
    repeat walk_at "nv"
    refine ⟨_, _, _, rfl, T.k_Cutter.cls, T.n_Cutter_own_parts, rfl, ?_⟩
    repeat walk_at "nv"
    rw [show ps.map Part.d = (ps.map Part.s).map Dt.str by rw [List.map_map]; rfl]
    have h4 := sum_parts hp
    unfold strOf at hR
    rw [if_neg (by rw [h3]; exact Bool.false_ne_true)] at hR
    refine md_join_t ?_ hR
    rw [show (" > " : Str).length = 3 from rfl, List.length_map]
    omega
end
end Nv

set_option Elab.async false
set_option linter.all false
set_option maxRecDepth 100000
set_option maxHeartbeats 4000000
namespace Nv
open PySem PySem.Spec PyProof.Rows L2
open SX (S)
local macro_rules | `(tactic| walk_at "nv1") => `(tactic| first
  | ((with_reducible apply ed_var); exact rfl)
  | (with_reducible refine sd_seq ?_)
  | (with_reducible refine sd_ret ?_)
  | (with_reducible refine sd_if ?_)
  | (with_reducible refine sd_asg ?_)
  | (with_reducible refine sd_next ?_)
  | (with_reducible refine sd_unl ?_)
  | (with_reducible refine ed_makeR ?_)
  | (with_reducible refine ed_methR ?_)
  | (with_reducible refine ed_propR ?_)
  | (with_reducible refine ed_cmeth ?_)
  | (with_reducible refine ed_fld ?_)
  | (with_reducible refine ed_lstRg ?_)
  | (with_reducible refine ed_tupRg ?_)
  | (with_reducible refine ea_star ?_)
  | (with_reducible refine ed_op ?_)
  | (with_reducible refine ed_and ?_)
  | (with_reducible refine ed_or ?_)
  | (with_reducible refine ed_not ?_)
  | (with_reducible refine ed_if ?_)
  | (with_reducible refine ed_cb ?_)
  | (with_reducible refine ed_call ?_)
  | (with_reducible refine ed_lst ?_)
  | (with_reducible refine ed_tup ?_)
  | (with_reducible refine ed_un ?_)
  | (with_reducible refine ed_sl ?_)
  | (with_reducible refine ea_cons ?_)
  | (with_reducible refine ea_nil ?_)
  | (with_reducible refine eo_none ?_)
  | (with_reducible refine eo_some ?_)
  | (with_reducible refine et_test ?_)
  | (with_reducible refine et_B ?_)
  | (with_reducible refine et_and ?_)
  | (with_reducible refine et_or ?_)
  | (with_reducible refine et_not ?_)
  | (with_reducible refine et_yes ?_)
  | (with_reducible refine ed_int ?_)
  | (with_reducible refine ed_str ?_)
  | (with_reducible refine ed_bl ?_)
  | (with_reducible refine ed_non ?_)
  | (with_reducible refine ed_ty ?_)
  | (with_reducible refine ed_obj ?_))
local macro_rules | `(tactic| walk_at "nv2") => `(tactic| first
  | (with_reducible refine rd_add_i ?_)
  | (with_reducible refine rd_I0i ?_)
  | (with_reducible refine rd_I0b ?_)
  | (with_reducible refine rd_eq_i ?_)
  | (with_reducible refine rd_ne_i ?_)
  | (with_reducible refine rd_eq_s ?_)
  | (with_reducible refine rd_ne_s ?_)
  | (with_reducible refine rd_notB ?_)
  | (with_reducible refine cd_tup_l ?_)
  | (with_reducible refine cd_tup_t ?_)
  | (with_reducible refine cd_lst_l ?_)
  | (with_reducible refine cd_lst_t ?_)
  | (with_reducible refine rd_in_l ?_)
  | (with_reducible refine rd_in_t ?_)
  | (with_reducible refine rd_ni_t ?_)
  | (with_reducible refine rd_eq_b ?_)
  | (with_reducible refine rd_ne_b ?_)
  | (with_reducible refine rd_isB ?_)
  | (with_reducible refine rd_isN ?_)
  | (with_reducible refine rd_notN ?_)
  | (with_reducible refine rd_in_sign ?_)
  | (with_reducible refine cd_len_l ?_)
  | (with_reducible refine cd_len_sq ?_)
  | (with_reducible refine cd_len_t ?_)
  | (with_reducible refine cd_int_i ?_)
  | (with_reducible refine cd_int_b ?_)
  | (with_reducible refine cd_abs ?_)
  | (with_reducible refine cd_max ?_)
  | (with_reducible refine cd_min ?_)
  | (with_reducible refine cd_str_s ?_)
  | (with_reducible refine cd_repr_b ?_)
  | (with_reducible refine ud_neg ?_)
  | ((with_reducible refine And.intro ?_ ?_); exact Nat.le_of_ble_eq_true rfl) | (with_reducible refine ed_dnew ?_) | (with_reducible refine ed_disp1 ?_) | ((with_reducible refine rd_mul_l ?_ ?_ ?_ ?_); decide; decide; exact Nat.le_of_ble_eq_true rfl) | ((with_reducible refine rd_add_l ?_ ?_); exact Nat.le_of_ble_eq_true rfl)
  | (with_reducible refine ⟨_, rfl, ?_⟩) | (with_reducible refine ⟨_, Or.inl rfl, ?_⟩))
local macro_rules | `(tactic| walk_at "nv") => `(tactic| first | walk_at "nv1" | walk_at "nv2")
local macro_rules | `(tactic| walk_at "cx") => `(tactic| dsimp only [cxOf, Cx.nox, Cx.wish, Cx.blk, List.length_cons, List.length_nil])
section
variable {P : Program} {w : World} {K : PySem.W.Frag} {mg : Str → Option Value} {base : Heap} {ea : EA}
def PreCutRow (C : Addr) : List Dt → (Dt → Prop) → Prop := fun ds R => ∃ (ps : List Part) (row : List Dt), ds = [cutD C ps, .tup row] ∧ (∀ p ∈ ps, p.ok) ∧ row.length ≤ 1000 ∧ R (.tup (kept ps row))
theorem gf_cut (T : Tx P K mg ea) (g_kept_places : Gf P w K mg base "kept_places" 1 ["cutter", "many"] (PreKept ea.C_Cutter)) : Gf P w K mg base "cut" 2 ["cutter", "row"] (PreCutRow ea.C_Cutter) := by
  refine gf_of T.D_cut sc_cut (fun ds R ⟨ps, row, h, _⟩ => by rw [h]; rfl) fun f cdv A outer s H E hr => ⟨_, (pss_one (ps_ret (pe_callTy (callTuple (K := K) rfl) (by rfl) T.m_tuple (by decide +kernel) (pa_cons (pe_lc (own := [("place", 2)]) (g := gName 2) rfl sc_cut.nd (piTup (K := K) rfl (pe_gf g_kept_places ⟨rfl, rfl, rfl, rfl, rfl⟩ (hr.mono (by decide)) rfl (pa_cons (pv 0) (pa_cons (pe_callB (callLen (K := K) rfl) (by rfl) T.m_len (by decide +kernel) (pa_cons (pv 1) pa_nil)) pa_nil)))) (blkOk_by (own := [("place", 2)]) (N := ["cutter", "row", "place"]) (sc := defScope s_cut) (by decide +kernel)) (fun _ _ _ _ _ => (pg_name (i := 2) sc_cut.nd rfl (by first | exact Or.inl rfl | exact Or.inr rfl))) (fun _ _ _ _ _ => pts_nil) (fun _ _ _ _ _ => (pe_ix (ixA (K := K) rfl) (pv 1) (pv 2) (fun _ _ => rfl)))) pa_nil)))), fun ds R ⟨ps, row, h, hp, hl, hR⟩ => ?_⟩
  subst h
  repeat walk_at "nv"
  refine ed_lc_map (fun d => gd_name) ?_
  refine ei_tup ?_
  repeat walk_at "nv"
  refine ⟨ps, row.length, rfl, hp, hl, ?_⟩
  have hc := chain_len ps row.length
  refine ⟨_, rfl, by simp only [natsD, List.length_map]; omega, fun d => row.getD (atN d) .non, fun x hx => ?_, ?_⟩
  · obtain ⟨k, hk, rfl⟩ := mem_nats hx
    have hk := chain_lt hk
    repeat walk_at "nv"
    refine rd_ix_t (d := row.getD k .non) (atI_nat ?_) ?_
    · rw [List.getD_eq_getElem?_getD, List.getElem?_eq_getElem hk]; rfl
    · show _ = row.getD (k : Int).toNat .non
      rw [Int.toNat_natCast]
  · repeat walk_at "nv"
    rw [nats_get, ← kept_get]
    exact hR
theorem gm_Cutter_keeps_all (T : Tx P K mg ea) : Gm P w K mg base 1 ea.f_Cutter_keeps_all (PreSelf ea.C_Cutter fun ps => .bl (ps.all Part.isAll)) := by
  refine gm_of T.D_Cutter_keeps_all sc_Cutter_keeps_all (fun ds R ⟨d, h, _⟩ => by rw [h]; rfl) fun cdv A outer s H E hr => ⟨_, (pss_one (ps_ret (peFld (K := K) rfl (pv 0)))), fun ds R ⟨ps, h, hR⟩ => ?_⟩
  subst h
  repeat walk_at "nv"
  exact ⟨_, _, _, rfl, T.k_Cutter.cls, T.n_Cutter_own_is_whole, rfl, hR⟩
theorem gm_Cutter___len__ (T : Tx P K mg ea) : Gm P w K mg base 1 ea.f_Cutter___len__ (PreSelf ea.C_Cutter fun ps => .int ps.length) := by
  refine gm_of T.D_Cutter___len__ sc_Cutter___len__ (fun ds R ⟨d, h, _⟩ => by rw [h]; rfl) fun cdv A outer s H E hr => ⟨_, (pss_one (ps_ret (pe_callB (callLen (K := K) rfl) (by rfl) T.m_len (by decide +kernel) (pa_cons (peFld (K := K) rfl (pv 0)) pa_nil)))), fun ds R ⟨ps, h, hR⟩ => ?_⟩
  subst h
  repeat walk_at "nv"
  refine ⟨_, _, _, rfl, T.k_Cutter.cls, T.n_Cutter_own_parts, rfl, ?_⟩
  repeat walk_at "nv"
  rw [List.length_map]
  exact hR
theorem gm_Cutter___call__ (T : Tx P K mg ea) (g_cut : Gf P w K mg base "cut" 2 ["cutter", "row"] (PreCutRow ea.C_Cutter)) : Gm P w K mg base 3 ea.f_Cutter___call__ (PreCutRow ea.C_Cutter) := by
  refine gm_of T.D_Cutter___call__ sc_Cutter___call__ (fun ds R ⟨ps, row, h, _⟩ => by rw [h]; rfl) fun cdv A outer s H E hr => ⟨_, (pss_cons (ps_if (PW.pt (pw_or (pt_not (pt_val (pe_callB (callIsi (K := K) rfl) (by rfl) T.m_isinstance (by decide +kernel) (pa_cons (pv 1) (pa_cons (pe_bty "tuple" rfl T.m_tuple (by decide +kernel)) pa_nil))))) (pw_or1 (pt_cmpR op_gt (pe_callB (callLen (K := K) rfl) (by rfl) T.m_len (by decide +kernel) (pa_cons (pv 1) pa_nil)) (pe_g rfl T.g_MAX_ROW) (nomark _))))) (pss_one ps_never) pss_nil) (pss_one (ps_ret (pe_gf g_cut ⟨rfl, rfl, rfl, rfl, rfl⟩ (hr.mono (by decide)) rfl (pa_cons (pv 0) (pa_cons (pv 1) pa_nil)))))), fun ds R ⟨ps, row, h, hp, hl, hR⟩ => ?_⟩
  subst h
  repeat walk_at "nv"
  refine cd_isi (b := true) rfl (by decide +kernel) ?_
  repeat walk_at "nv"
  refine ifF rfl ?_
  repeat walk_at "nv"
  refine ifF (decide_eq_false (by omega)) ?_
  repeat walk_at "nv"
  exact ⟨ps, row, rfl, hp, hl, hR⟩
end
end Nv

set_option Elab.async false
set_option linter.all false
set_option maxRecDepth 100000
set_option maxHeartbeats 4000000
namespace Nv
open PySem PySem.Spec PyProof.Rows L2
open SX (S)
local macro_rules | `(tactic| walk_at "nv1") => `(tactic| first
  | ((with_reducible apply ed_var); exact rfl)
  | (with_reducible refine sd_seq ?_)
  | (with_reducible refine sd_ret ?_)
  | (with_reducible refine sd_if ?_)
  | (with_reducible refine sd_asg ?_)
  | (with_reducible refine sd_next ?_)
  | (with_reducible refine sd_unl ?_)
  | (with_reducible refine ed_makeR ?_)
  | (with_reducible refine ed_methR ?_)
  | (with_reducible refine ed_propR ?_)
  | (with_reducible refine ed_cmeth ?_)
  | (with_reducible refine ed_fld ?_)
  | (with_reducible refine ed_lstRg ?_)
  | (with_reducible refine ed_tupRg ?_)
  | (with_reducible refine ea_star ?_)
  | (with_reducible refine ed_op ?_)
  | (with_reducible refine ed_and ?_)
  | (with_reducible refine ed_or ?_)
  | (with_reducible refine ed_not ?_)
  | (with_reducible refine ed_if ?_)
  | (with_reducible refine ed_cb ?_)
  | (with_reducible refine ed_call ?_)
  | (with_reducible refine ed_lst ?_)
  | (with_reducible refine ed_tup ?_)
  | (with_reducible refine ed_un ?_)
  | (with_reducible refine ed_sl ?_)
  | (with_reducible refine ea_cons ?_)
  | (with_reducible refine ea_nil ?_)
  | (with_reducible refine eo_none ?_)
  | (with_reducible refine eo_some ?_)
  | (with_reducible refine et_test ?_)
  | (with_reducible refine et_B ?_)
  | (with_reducible refine et_and ?_)
  | (with_reducible refine et_or ?_)
  | (with_reducible refine et_not ?_)
  | (with_reducible refine et_yes ?_)
  | (with_reducible refine ed_int ?_)
  | (with_reducible refine ed_str ?_)
  | (with_reducible refine ed_bl ?_)
  | (with_reducible refine ed_non ?_)
  | (with_reducible refine ed_ty ?_)
  | (with_reducible refine ed_obj ?_))
local macro_rules | `(tactic| walk_at "nv2") => `(tactic| first
  | (with_reducible refine rd_add_i ?_)
  | (with_reducible refine rd_I0i ?_)
  | (with_reducible refine rd_I0b ?_)
  | (with_reducible refine rd_eq_i ?_)
  | (with_reducible refine rd_ne_i ?_)
  | (with_reducible refine rd_eq_s ?_)
  | (with_reducible refine rd_ne_s ?_)
  | (with_reducible refine rd_notB ?_)
  | (with_reducible refine cd_tup_l ?_)
  | (with_reducible refine cd_tup_t ?_)
  | (with_reducible refine cd_lst_l ?_)
  | (with_reducible refine cd_lst_t ?_)
  | (with_reducible refine rd_in_l ?_)
  | (with_reducible refine rd_in_t ?_)
  | (with_reducible refine rd_ni_t ?_)
  | (with_reducible refine rd_eq_b ?_)
  | (with_reducible refine rd_ne_b ?_)
  | (with_reducible refine rd_isB ?_)
  | (with_reducible refine rd_isN ?_)
  | (with_reducible refine rd_notN ?_)
  | (with_reducible refine rd_in_sign ?_)
  | (with_reducible refine cd_len_l ?_)
  | (with_reducible refine cd_len_sq ?_)
  | (with_reducible refine cd_len_t ?_)
  | (with_reducible refine cd_int_i ?_)
  | (with_reducible refine cd_int_b ?_)
  | (with_reducible refine cd_abs ?_)
  | (with_reducible refine cd_max ?_)
  | (with_reducible refine cd_min ?_)
  | (with_reducible refine cd_str_s ?_)
  | (with_reducible refine cd_repr_b ?_)
  | (with_reducible refine ud_neg ?_)
  | ((with_reducible refine And.intro ?_ ?_); exact Nat.le_of_ble_eq_true rfl) | (with_reducible refine ed_dnew ?_) | (with_reducible refine ed_disp1 ?_) | ((with_reducible refine rd_mul_l ?_ ?_ ?_ ?_); decide; decide; exact Nat.le_of_ble_eq_true rfl) | ((with_reducible refine rd_add_l ?_ ?_); exact Nat.le_of_ble_eq_true rfl)
  | (with_reducible refine ⟨_, rfl, ?_⟩) | (with_reducible refine ⟨_, Or.inl rfl, ?_⟩))
local macro_rules | `(tactic| walk_at "nv") => `(tactic| first | walk_at "nv1" | walk_at "nv2")
local macro_rules | `(tactic| walk_at "cx") => `(tactic| dsimp only [cxOf, Cx.nox, Cx.wish, Cx.blk, List.length_cons, List.length_nil])
section
variable {P : Program} {w : World} {K : PySem.W.Frag} {mg : Str → Option Value} {base : Heap} {ea : EA}
def PreTwo (C : Addr) (Q : List Part → List Part → (Dt → Prop) → Prop) : List Dt → (Dt → Prop) → Prop := fun ds R => ∃ ps qs, ds = [cutD C ps, cutD C qs] ∧ Oks ps ∧ Oks qs ∧ Q ps qs R
theorem gm_Cutter_is_within (T : Tx P K mg ea) (g_require_cutter : Gf P w K mg base "require_cutter" 1 ["value"] (PreCut ea.C_Cutter)) (g_kept_places : Gf P w K mg base "kept_places" 1 ["cutter", "many"] (PreKept ea.C_Cutter)) :
    Gm P w K mg base 2 ea.f_Cutter_is_within (PreTwo ea.C_Cutter fun ps qs R => R (.bl (withinB (chain ps) (chain qs)))) := by
  refine gm_of T.D_Cutter_is_within sc_Cutter_is_within (fun ds R ⟨d, n, h, _⟩ => by rw [h]; rfl) fun cdv A outer s H E hr => ⟨_, (pss_cons (ps_expr (pe_gf g_require_cutter ⟨rfl, rfl, rfl, rfl, rfl⟩ (hr.mono (by decide)) rfl (pa_cons (pv 1) pa_nil))) (pss_one (ps_ret (pe_callB (callAll (K := K) rfl rfl) (by rfl) T.m_all (by decide +kernel) (pa_cons (pe_lc2 (own := [("many", 2), ("place", 3)]) (vs1 := [3]) rfl sc_Cutter_is_within.nd (pi_range1 rfl T.m_range (pa_cons (pe_op (opAdd (K := K) rfl) (pe_g rfl T.g_FEW) pe_int) pa_nil)) (blkOk_by (own := [("many", 2), ("place", 3)]) (N := ["self", "other", "many", "place"]) (sc := defScope s_Cutter_is_within) (by decide +kernel)) (by decide) (fun _ _ _ _ _ => (pg_name (i := 2) sc_Cutter_is_within.nd rfl (by first | exact Or.inl rfl | exact Or.inr rfl))) (fun _ _ _ _ _ => pts_nil) (fun _ _ _ _ _ => (piTup (K := K) rfl (pe_gf g_kept_places ⟨rfl, rfl, rfl, rfl, rfl⟩ (hr.mono (by decide)) rfl (pa_cons (pv 0) (pa_cons (pv 2) pa_nil))))) (fun _ _ _ _ _ => (pg_name (i := 3) sc_Cutter_is_within.nd rfl (by first | exact Or.inl rfl | exact Or.inr rfl))) (fun _ _ _ _ _ => pts_nil) (fun _ _ _ _ _ => (pe_cmpR (opIn (K := K) rfl) (pv 3) (pe_gf g_kept_places ⟨rfl, rfl, rfl, rfl, rfl⟩ (hr.mono (by decide)) rfl (pa_cons (pv 1) (pa_cons (pv 2) pa_nil))) rfl))) pa_nil))))), fun ds R ⟨ps, qs, h, hp, hq, hR⟩ => ?_⟩
  subst h
  repeat walk_at "nv"
  refine sd_drop ?_
  repeat walk_at "nv"
  refine ⟨_, rfl, ?_⟩
  repeat walk_at "nv"
  refine ed_lc2 ?_
  refine ei_rng1 ?_
  repeat walk_at "nv"
  refine ⟨by decide, _, fun d _ => gd_name2 (by decide), fun i acc => ∃ bs : List Bool, acc = bs.map .bl ∧ bs.length ≤ 7 * i ∧ bs.all id = (List.range i).all fun n => (chain ps n).all fun x => decide (x ∈ chain qs n), ⟨[], rfl, by simp, rfl⟩, fun i x acc hx ⟨bs, h1, h2, h3⟩ => ?_, fun acc ⟨bs, h1, h2, h3⟩ => ?_⟩
  · obtain ⟨hi, rfl⟩ := range_at hx
    have hi : i < 7 := hi
    subst h1
    refine et_yes ?_
    rw [if_pos rfl]
    refine ei_tup ?_
    repeat walk_at "nv"
    refine ⟨ps, i, rfl, hp.1, by omega, ?_⟩
    refine ⟨_, rfl, ?_⟩
    have hl := chain_len ps i
    refine ⟨_, fun d _ => gd_name, fun j acc => ∃ cs : List Bool, acc = (bs ++ cs).map .bl ∧ cs.length = j ∧ cs.all id = ((chain ps i).take j).all fun x => decide (x ∈ chain qs i), ⟨[], by simp, rfl, rfl⟩, fun j y acc hy ⟨cs, k1, k2, k3⟩ => ?_, fun acc ⟨cs, k1, k2, k3⟩ => ?_⟩
    · obtain ⟨hj, rfl⟩ := nats_at hy
      have e0 : (chain ps i)[j]? = some (chain ps i)[j] := List.getElem?_eq_getElem hj
      subst k1
      refine ⟨by simp; omega, et_yes ?_⟩
      rw [if_pos rfl]
      repeat walk_at "nv"
      refine ⟨qs, i, rfl, hq.1, by omega, ?_⟩
      repeat walk_at "nv"
      refine ⟨cs ++ [decide ((chain ps i)[j] ∈ chain qs i)], by rw [dec_int]; simp, by simp [k2], ?_⟩
      have e1 : (chain ps i).take (j + 1) = (chain ps i).take j ++ [(chain ps i)[j]] := by rw [List.take_add_one, e0]; rfl
      rw [List.all_append, k3, e1, List.all_append]
      rfl
    · refine ⟨bs ++ cs, k1, ?_, ?_⟩
      · have : cs.length ≤ 6 := by rw [k2]; simp [natsD]; omega
        simp; omega
      · have e : (natsD (chain ps i)).length = (chain ps i).length := by simp [natsD]
        rw [e, List.take_length] at k3
        rw [List.all_append, h3, k3, List.range_succ, List.all_append]
        simp
  · subst h1
    repeat walk_at "nv"
    refine cd_all ?_
    have e : (rangeD 0 (5 + 2 : Int).toNat).length = 7 := by simp [rangeD]
    rw [e] at h3
    rw [h3]
    exact hR
end
end Nv

set_option Elab.async false
set_option linter.all false
set_option maxRecDepth 100000
set_option maxHeartbeats 4000000
namespace Nv
open PySem PySem.Spec PyProof.Rows L2
open SX (S)
local macro_rules | `(tactic| walk_at "nv1") => `(tactic| first
  | ((with_reducible apply ed_var); exact rfl)
  | (with_reducible refine sd_seq ?_)
  | (with_reducible refine sd_ret ?_)
  | (with_reducible refine sd_if ?_)
  | (with_reducible refine sd_asg ?_)
  | (with_reducible refine sd_next ?_)
  | (with_reducible refine sd_unl ?_)
  | (with_reducible refine ed_makeR ?_)
  | (with_reducible refine ed_methR ?_)
  | (with_reducible refine ed_propR ?_)
  | (with_reducible refine ed_cmeth ?_)
  | (with_reducible refine ed_fld ?_)
  | (with_reducible refine ed_lstRg ?_)
  | (with_reducible refine ed_tupRg ?_)
  | (with_reducible refine ea_star ?_)
  | (with_reducible refine ed_op ?_)
  | (with_reducible refine ed_and ?_)
  | (with_reducible refine ed_or ?_)
  | (with_reducible refine ed_not ?_)
  | (with_reducible refine ed_if ?_)
  | (with_reducible refine ed_cb ?_)
  | (with_reducible refine ed_call ?_)
  | (with_reducible refine ed_lst ?_)
  | (with_reducible refine ed_tup ?_)
  | (with_reducible refine ed_un ?_)
  | (with_reducible refine ed_sl ?_)
  | (with_reducible refine ea_cons ?_)
  | (with_reducible refine ea_nil ?_)
  | (with_reducible refine eo_none ?_)
  | (with_reducible refine eo_some ?_)
  | (with_reducible refine et_test ?_)
  | (with_reducible refine et_B ?_)
  | (with_reducible refine et_and ?_)
  | (with_reducible refine et_or ?_)
  | (with_reducible refine et_not ?_)
  | (with_reducible refine et_yes ?_)
  | (with_reducible refine ed_int ?_)
  | (with_reducible refine ed_str ?_)
  | (with_reducible refine ed_bl ?_)
  | (with_reducible refine ed_non ?_)
  | (with_reducible refine ed_ty ?_)
  | (with_reducible refine ed_obj ?_))
local macro_rules | `(tactic| walk_at "nv2") => `(tactic| first
  | (with_reducible refine rd_add_i ?_)
  | (with_reducible refine rd_I0i ?_)
  | (with_reducible refine rd_I0b ?_)
  | (with_reducible refine rd_eq_i ?_)
  | (with_reducible refine rd_ne_i ?_)
  | (with_reducible refine rd_eq_s ?_)
  | (with_reducible refine rd_ne_s ?_)
  | (with_reducible refine rd_notB ?_)
  | (with_reducible refine cd_tup_l ?_)
  | (with_reducible refine cd_tup_t ?_)
  | (with_reducible refine cd_lst_l ?_)
  | (with_reducible refine cd_lst_t ?_)
  | (with_reducible refine rd_in_l ?_)
  | (with_reducible refine rd_in_t ?_)
  | (with_reducible refine rd_ni_t ?_)
  | (with_reducible refine rd_eq_b ?_)
  | (with_reducible refine rd_ne_b ?_)
  | (with_reducible refine rd_isB ?_)
  | (with_reducible refine rd_isN ?_)
  | (with_reducible refine rd_notN ?_)
  | (with_reducible refine rd_in_sign ?_)
  | (with_reducible refine cd_len_l ?_)
  | (with_reducible refine cd_len_sq ?_)
  | (with_reducible refine cd_len_t ?_)
  | (with_reducible refine cd_int_i ?_)
  | (with_reducible refine cd_int_b ?_)
  | (with_reducible refine cd_abs ?_)
  | (with_reducible refine cd_max ?_)
  | (with_reducible refine cd_min ?_)
  | (with_reducible refine cd_str_s ?_)
  | (with_reducible refine cd_repr_b ?_)
  | (with_reducible refine ud_neg ?_)
  | ((with_reducible refine And.intro ?_ ?_); exact Nat.le_of_ble_eq_true rfl) | (with_reducible refine ed_dnew ?_) | (with_reducible refine ed_disp1 ?_) | ((with_reducible refine rd_mul_l ?_ ?_ ?_ ?_); decide; decide; exact Nat.le_of_ble_eq_true rfl) | ((with_reducible refine rd_add_l ?_ ?_); exact Nat.le_of_ble_eq_true rfl)
  | (with_reducible refine ⟨_, rfl, ?_⟩) | (with_reducible refine ⟨_, Or.inl rfl, ?_⟩))
local macro_rules | `(tactic| walk_at "nv") => `(tactic| first | walk_at "nv1" | walk_at "nv2")
local macro_rules | `(tactic| walk_at "cx") => `(tactic| dsimp only [cxOf, Cx.nox, Cx.wish, Cx.blk, List.length_cons, List.length_nil])
section
variable {P : Program} {w : World} {K : PySem.W.Frag} {mg : Str → Option Value} {base : Heap} {ea : EA}
theorem gi_Known___init__ (T : Tx P K mg ea) : FnR P w K mg base CX0 1 ea.f_Known___init__ (spI K ea.C_Known fun ds R => ∃ d, ds = [d] ∧ R [("own_parts", d)]) := by
  obtain ⟨fd, F, hb⟩ := T.D_Known___init__
  refine gi_of F sc_Known___init__ hb (fun ds R ⟨d, h, _⟩ => by rw [h]; rfl) fun cdv A outer s H E hr => ⟨_, (pss_one (psFld (K := K) rfl (pv 0) (pv 1))), fun x ds R ⟨d, h, hR⟩ => ?_⟩
  subst h
  refine sd_fld (a := x) rfl T.k_Known.cls T.n_Known_own_parts (by decide) ?_
  repeat walk_at "nv"
  exact ⟨_, rfl, hR⟩
def PreChained (C : Addr) : List Dt → (Dt → Prop) → Prop := fun ds R => ∃ ps qs : List Part, ds = [cutD C ps, cutD C qs] ∧ (∀ p ∈ ps, p.ok) ∧ (∀ p ∈ qs, p.ok) ∧ ps.length + qs.length ≤ 1000 ∧ R (cutD C (ps ++ qs))
theorem gf_chained (T : Tx P K mg ea) (g_Known___init__ : FnR P w K mg base CX0 1 ea.f_Known___init__ (spI K ea.C_Known fun ds R => ∃ d, ds = [d] ∧ R [("own_parts", d)]))
    (g_Cutter___init__ : FnR P w K mg base CX0 3 ea.f_Cutter___init__ (spI K ea.C_Cutter fun ds R => ds.length ≤ 1000000 ∧ PreInit ea.C_Known ds R)) : Gf P w K mg base "chained" 5 ["one", "other"] (PreChained ea.C_Cutter) := by
  refine gf_of T.D_chained sc_chained (fun ds R ⟨ps, qs, h, _⟩ => by rw [h]; rfl) fun f cdv A outer s H E hr => ⟨_, (pss_one (ps_ret (StX.pe_makeR T.mak_Cutter g_Cutter___init__ (hr.mono (by decide)) (by rfl) T.k_Cutter.m pass0 (pa_cons (StX.pe_makeR T.mak_Known g_Known___init__ (hr.mono (by decide)) (by rfl) T.k_Known.m pass0 (pa_cons (pe_tup (paStar (K := K) rfl (peFld (K := K) rfl (pv 0)) (paStar (K := K) rfl (peFld (K := K) rfl (pv 1)) pa_nil))) pa_nil)) pa_nil)))), fun ds R ⟨ps, qs, h, hp, hq, hl, hR⟩ => ?_⟩
  subst h
  repeat walk_at "nv"
  refine ⟨_, _, _, rfl, T.k_Cutter.cls, T.n_Cutter_own_parts, rfl, ?_⟩
  refine ⟨_, Or.inl rfl, ?_⟩
  repeat walk_at "nv"
  refine ⟨_, _, _, rfl, T.k_Cutter.cls, T.n_Cutter_own_parts, rfl, ?_⟩
  refine ⟨_, Or.inl rfl, ?_⟩
  repeat walk_at "nv"
  rw [List.append_nil, ← List.map_append]
  refine ⟨by rw [List.length_map, List.length_append]; omega, ?_⟩
  repeat walk_at "nv"
  refine ⟨ps ++ qs, fun p h => ?_, by rw [List.length_append]; omega, .inr rfl, hR⟩
  rcases List.mem_append.mp h with h | h
  · exact hp p h
  · exact hq p h
/-- a >> b -/
def PreShift (C X : Addr) : PreX := fun ds R XR => ∃ ps qs : List Part, ds = [cutD C ps, cutD C qs] ∧ (∀ p ∈ ps, p.ok) ∧ (∀ p ∈ qs, p.ok) ∧ ps.length + qs.length ≤ 1000 ∧ (ps.length + qs.length ≤ 4 → R (cutD C (ps ++ qs))) ∧ (4 < ps.length + qs.length → XR X [("limit", .int 4)])
theorem gmx_Cutter___rshift__ (T : Tx P K mg ea) (g_require_cutter : Gf P w K mg base "require_cutter" 1 ["value"] (PreCut ea.C_Cutter)) (g_chained : Gf P w K mg base "chained" 5 ["one", "other"] (PreChained ea.C_Cutter)) :
    Gmx P w K mg base 6 ea.f_Cutter___rshift__ (PreShift ea.C_Cutter ea.C_TooMany) := by
  refine gmx_of T.D_Cutter___rshift__ sc_Cutter___rshift__ (fun ds R XR ⟨ps, qs, h, _⟩ => by rw [h]; rfl) fun cdv A outer s H E hr => ⟨_, (pss_cons (psNox (ps_expr (pe_gf g_require_cutter ⟨rfl, rfl, rfl, rfl, rfl⟩ (hr.mono (by decide)) rfl (pa_cons (pv 1) pa_nil)))) (pss_cons (ps_if (PT.nox (pt_cmpR op_gt (pe_op (opAdd (K := K) rfl) (pe_callB (callLen (K := K) rfl) (by rfl) T.m_len (by decide +kernel) (pa_cons (peFld (K := K) rfl (pv 0)) pa_nil)) (pe_callB (callLen (K := K) rfl) (by rfl) T.m_len (by decide +kernel) (pa_cons (peFld (K := K) rfl (pv 1)) pa_nil))) (pe_g rfl T.g_MAX_PARTS) (nomark _))) (pss_one (ps_raiseS T.x_TooMany.up xst_TooMany (hr.mono (by decide)) T.x_TooMany.m T.x_TooMany.kp (raises_own T.x_TooMany.sb T.x_TooMany.ty) rfl (takes_of rfl rfl rfl rfl) rfl (pa_cons (pe_g rfl T.g_MAX_PARTS) pa_nil))) pss_nil) (pss_one (psNox (ps_ret (pe_gf g_chained ⟨rfl, rfl, rfl, rfl, rfl⟩ (hr.mono (by decide)) rfl (pa_cons (pv 0) (pa_cons (pv 1) pa_nil)))))))), fun ds R XR ⟨ps, qs, h, hp, hq, hl, hR, hX⟩ => ?_⟩
  subst h
  repeat walk_at "nv"
  refine sd_drop ?_
  repeat walk_at "nv"
  refine ⟨_, rfl, ?_⟩
  repeat walk_at "nv"
  refine ⟨_, _, _, rfl, T.k_Cutter.cls, T.n_Cutter_own_parts, rfl, ?_⟩
  repeat walk_at "nv"
  refine ⟨_, _, _, rfl, T.k_Cutter.cls, T.n_Cutter_own_parts, rfl, ?_⟩
  repeat walk_at "nv"
  rw [List.length_map, List.length_map]
  refine ifb (fun h => ?_) fun h => ?_
  · have h := of_decide_eq_true h
    refine sd_raiseS ?_
    repeat walk_at "nv"
    exact hX (by omega)
  · have h := of_decide_eq_false h
    repeat walk_at "nv"
    exact ⟨ps, qs, rfl, hp, hq, hl, hR (by omega)⟩
end
end Nv

set_option Elab.async false
set_option linter.all false
set_option maxRecDepth 100000
set_option maxHeartbeats 4000000
namespace Nv
open PySem PySem.Spec PyProof.Rows L2
open SX (S)
local macro_rules | `(tactic| walk_at "nv1") => `(tactic| first
  | ((with_reducible apply ed_var); exact rfl)
  | (with_reducible refine sd_seq ?_)
  | (with_reducible refine sd_ret ?_)
  | (with_reducible refine sd_if ?_)
  | (with_reducible refine sd_asg ?_)
  | (with_reducible refine sd_next ?_)
  | (with_reducible refine sd_unl ?_)
  | (with_reducible refine ed_makeR ?_)
  | (with_reducible refine ed_methR ?_)
  | (with_reducible refine ed_propR ?_)
  | (with_reducible refine ed_cmeth ?_)
  | (with_reducible refine ed_fld ?_)
  | (with_reducible refine ed_lstRg ?_)
  | (with_reducible refine ed_tupRg ?_)
  | (with_reducible refine ea_star ?_)
  | (with_reducible refine ed_op ?_)
  | (with_reducible refine ed_and ?_)
  | (with_reducible refine ed_or ?_)
  | (with_reducible refine ed_not ?_)
  | (with_reducible refine ed_if ?_)
  | (with_reducible refine ed_cb ?_)
  | (with_reducible refine ed_call ?_)
  | (with_reducible refine ed_lst ?_)
  | (with_reducible refine ed_tup ?_)
  | (with_reducible refine ed_un ?_)
  | (with_reducible refine ed_sl ?_)
  | (with_reducible refine ea_cons ?_)
  | (with_reducible refine ea_nil ?_)
  | (with_reducible refine eo_none ?_)
  | (with_reducible refine eo_some ?_)
  | (with_reducible refine et_test ?_)
  | (with_reducible refine et_B ?_)
  | (with_reducible refine et_and ?_)
  | (with_reducible refine et_or ?_)
  | (with_reducible refine et_not ?_)
  | (with_reducible refine et_yes ?_)
  | (with_reducible refine ed_int ?_)
  | (with_reducible refine ed_str ?_)
  | (with_reducible refine ed_bl ?_)
  | (with_reducible refine ed_non ?_)
  | (with_reducible refine ed_ty ?_)
  | (with_reducible refine ed_obj ?_))
local macro_rules | `(tactic| walk_at "nv2") => `(tactic| first
  | (with_reducible refine rd_add_i ?_)
  | (with_reducible refine rd_I0i ?_)
  | (with_reducible refine rd_I0b ?_)
  | (with_reducible refine rd_eq_i ?_)
  | (with_reducible refine rd_ne_i ?_)
  | (with_reducible refine rd_eq_s ?_)
  | (with_reducible refine rd_ne_s ?_)
  | (with_reducible refine rd_notB ?_)
  | (with_reducible refine cd_tup_l ?_)
  | (with_reducible refine cd_tup_t ?_)
  | (with_reducible refine cd_lst_l ?_)
  | (with_reducible refine cd_lst_t ?_)
  | (with_reducible refine rd_in_l ?_)
  | (with_reducible refine rd_in_t ?_)
  | (with_reducible refine rd_ni_t ?_)
  | (with_reducible refine rd_eq_b ?_)
  | (with_reducible refine rd_ne_b ?_)
  | (with_reducible refine rd_isB ?_)
  | (with_reducible refine rd_isN ?_)
  | (with_reducible refine rd_notN ?_)
  | (with_reducible refine rd_in_sign ?_)
  | (with_reducible refine cd_len_l ?_)
  | (with_reducible refine cd_len_sq ?_)
  | (with_reducible refine cd_len_t ?_)
  | (with_reducible refine cd_int_i ?_)
  | (with_reducible refine cd_int_b ?_)
  | (with_reducible refine cd_abs ?_)
  | (with_reducible refine cd_max ?_)
  | (with_reducible refine cd_min ?_)
  | (with_reducible refine cd_str_s ?_)
  | (with_reducible refine cd_repr_b ?_)
  | (with_reducible refine ud_neg ?_)
  | ((with_reducible refine And.intro ?_ ?_); exact Nat.le_of_ble_eq_true rfl) | (with_reducible refine ed_dnew ?_) | (with_reducible refine ed_disp1 ?_) | ((with_reducible refine rd_mul_l ?_ ?_ ?_ ?_); decide; decide; exact Nat.le_of_ble_eq_true rfl) | ((with_reducible refine rd_add_l ?_ ?_); exact Nat.le_of_ble_eq_true rfl)
  | (with_reducible refine ⟨_, rfl, ?_⟩) | (with_reducible refine ⟨_, Or.inl rfl, ?_⟩))
local macro_rules | `(tactic| walk_at "nv") => `(tactic| first | walk_at "nv1" | walk_at "nv2")
local macro_rules | `(tactic| walk_at "cx") => `(tactic| dsimp only [cxOf, Cx.nox, Cx.wish, Cx.blk, List.length_cons, List.length_nil])
section
variable {P : Program} {w : World} {K : PySem.W.Frag} {mg : Str → Option Value} {base : Heap} {ea : EA}
theorem gf__law_roll (T : Tx P K mg ea) : Gf P w K mg base "_law_roll" 1 ["_law_dice_here", "_law_total"] PreRoll := by
  obtain ⟨f, fd, F, b, m⟩ := T.D__law_roll
  refine ⟨f, fd, roll_hide (F.ok sc__law_roll (fun vs H Q E h => ?_) (fun cdv A outer s H vs Q E hr h => ⟨_, (pss_cons (ps_if (pt_cmpR op_gt (pe_ix (ixA (K := K) rfl) (pv 0) pe_int (fun _ _ => rfl)) pe_int (nomark _)) (pss_cons (ps_set (i := 4) sc__law_roll.nd rfl (by first | exact Or.inl rfl | exact Or.inr rfl) (pe_op op_mod (pe_callTy call_int1 (by rfl) T.m_int (by decide +kernel) (pa_cons (pe_ix (ixA (K := K) rfl) (pv 0) pe_int (fun _ _ => rfl)) pa_nil)) (pv 1))) (pss_cons (ps_asg (pe_op op_fdivW (pe_ix (ixA (K := K) rfl) (pv 0) pe_int (fun _ _ => rfl)) (pv 1)) (pg_sub (pv 0) pe_int set_list)) (pss_one (ps_ret (pv 4))))) pss_nil) (pss_cons (ps_asg (pe_op (opAdd (K := K) rfl) (pe_ix (ixA (K := K) rfl) (pv 0) pe_int (fun _ _ => rfl)) pe_int) (pg_sub (pv 0) pe_int set_list)) (pss_cons (ps_set (i := 2) sc__law_roll.nd rfl (by first | exact Or.inl rfl | exact Or.inr rfl) (pe_op op_mod (pe_callTy call_int1 (by rfl) T.m_int (by decide +kernel) (pa_cons (pe_op (opAdd (K := K) rfl) (pe_ix (ixA (K := K) rfl) (pv 0) pe_int (fun _ _ => rfl)) (pe_op (opMul (K := K) rfl) pe_int (pe_ix (ixA (K := K) rfl) (pv 0) pe_int (fun _ _ => rfl)))) pa_nil)) pe_int)) (pss_cons (ps_set (i := 3) sc__law_roll.nd rfl (by first | exact Or.inl rfl | exact Or.inr rfl) (pe_op (opAdd (K := K) rfl) (pe_op (opMul (K := K) rfl) (pe_op op_mod (pe_callTy call_int1 (by rfl) T.m_int (by decide +kernel) (pa_cons (pe_op (opMul (K := K) rfl) (pv 2) (pv 2)) pa_nil)) pe_int) (pv 2)) (pe_op (opMul (K := K) rfl) pe_int (pe_ix (ixA (K := K) rfl) (pv 0) pe_int (fun _ _ => rfl))))) (pss_cons (ps_set (i := 3) sc__law_roll.nd rfl (by first | exact Or.inl rfl | exact Or.inr rfl) (pe_op op_mod (pe_callTy call_int1 (by rfl) T.m_int (by decide +kernel) (pa_cons (pv 3) pa_nil)) pe_int)) (pss_one (ps_ret (pe_op op_mod (pe_callTy call_int1 (by rfl) T.m_int (by decide +kernel) (pa_cons (pe_op op_fdivW (pv 3) pe_int) pa_nil)) (pv 1))))))))), ?_⟩)), b, m, F.kp, lk_of F⟩
  · obtain ⟨d, n, x, y, z, rfl, _⟩ := h; rfl
  · obtain ⟨d, n, x, y, z, rfl, hd, h0, h1, k⟩ := h
    refine ⟨_, rfl, .inl ⟨d, _, _, _, rfl, rfl, .inl (.inl hd), rfl, _, _, rfl, rfl, _, rfl, ifb (fun h2 => ?_) fun h2 => ?_⟩⟩
    · refine ⟨_, rfl, .inl ⟨d, _, _, _, rfl, rfl, .inl (.inl hd), rfl, .inl ⟨_, rfl, _, rfl, _, _, rfl, rfl, h0, ?_⟩⟩⟩
      refine ⟨_, rfl, .inl ⟨d, _, _, _, rfl, rfl, .inl (.inl hd), rfl, _, rfl, _, _, rfl, rfl, divw h0 h1, _, rfl, d, _, _, _, rfl, rfl, hd, rfl, ?_⟩⟩
      exact ⟨_, rfl, k _ _ y z (Int.emod_nonneg _ (by omega)) (Int.emod_lt_of_pos _ h0)⟩
    · refine ⟨_, rfl, .inl ⟨d, _, _, _, rfl, rfl, .inl (.inl hd), rfl, .inl ⟨_, _, rfl, rfl, _, rfl, d, _, _, _, rfl, rfl, hd, rfl, ?_⟩⟩⟩
      refine ⟨_, rfl, .inl ⟨d, _, _, _, rfl, rfl, .inl (.inl upd_same), rfl, _, rfl, .inl ⟨d, _, _, _, rfl, rfl, .inl (.inl upd_same), rfl, .inl ⟨_, _, rfl, rfl, .inl ⟨by decide, by decide⟩, .inl ⟨_, _, rfl, rfl, .inl ⟨_, rfl, _, _, rfl, rfl, (by show (0 : Int) < _; decide), ?_⟩⟩⟩⟩⟩⟩
      refine ⟨_, rfl, _, rfl, .inl ⟨_, _, rfl, rfl, modm (by decide) (by decide), .inl ⟨_, rfl, _, _, rfl, rfl, (by show (0 : Int) < _; decide), _, rfl, .inl ⟨_, _, rfl, rfl, modm (by decide) (by decide), _, rfl, .inl ⟨d, _, _, _, rfl, rfl, .inl (.inl upd_same), rfl, .inl ⟨_, _, rfl, rfl, .inl ⟨by decide, by decide⟩, .inl ⟨_, _, rfl, rfl, ?_⟩⟩⟩⟩⟩⟩⟩
      refine ⟨_, rfl, .inl ⟨_, rfl, _, _, rfl, rfl, (by show (0 : Int) < _; decide), ?_⟩⟩
      exact ⟨_, rfl, _, _, rfl, rfl, divw (by decide) (by decide), .inl ⟨_, rfl, _, rfl, _, _, rfl, rfl, h0, k _ x y _ (Int.emod_nonneg _ (by omega)) (Int.emod_lt_of_pos _ h0)⟩⟩
theorem gf__law_dice (T : Tx P K mg ea) : Gf P w K mg base "_law_dice" 1 ["_law_script", "_law_at"] PreDice := by
  obtain ⟨f, fd, F, b, m⟩ := T.D__law_dice
  refine ⟨f, fd, dice_hide (F.ok sc__law_dice (fun vs H Q E h => ?_) (fun cdv A outer s H vs Q E hr h => ⟨_, (pss_cons (ps_set (i := 2) sc__law_dice.nd rfl (by first | exact Or.inl rfl | exact Or.inr rfl) (pe_ifExp (pt_cmpR op_lt (pv 1) (pe_callB (callLen (K := K) rfl) (by rfl) T.m_len (by decide +kernel) (pa_cons (pv 0) pa_nil)) (nomark _)) (pe_ix (ixA (K := K) rfl) (pv 0) (pv 1) (fun _ _ => rfl)) (pe_op (opAdd (K := K) rfl) (pe_op (opMul (K := K) rfl) pe_int (pv 1)) pe_int))) (pss_cons (ps_set (i := 3) sc__law_dice.nd rfl (by first | exact Or.inl rfl | exact Or.inr rfl) (pe_op op_mod (pe_callTy call_int1 (by rfl) T.m_int (by decide +kernel) (pa_cons (pe_callB call_abs (by rfl) T.m_abs (by decide +kernel) (pa_cons (pv 2) pa_nil)) pa_nil)) (pe_op op_powW (pe_op op_powW pe_int pe_int) pe_int))) (pss_cons (ps_set (i := 4) sc__law_dice.nd rfl (by first | exact Or.inl rfl | exact Or.inr rfl) (pe_op (opAdd (K := K) rfl) (pe_op (opAdd (K := K) rfl) (pe_op (opAdd (K := K) rfl) (pe_op (opMul (K := K) rfl) (pe_op op_mod (pe_callTy call_int1 (by rfl) T.m_int (by decide +kernel) (pa_cons (pv 3) pa_nil)) pe_int) pe_int) (pe_op (opMul (K := K) rfl) pe_int (pv 1))) (pe_op (opMul (K := K) rfl) pe_int (pe_callTy call_int1 (by rfl) T.m_int (by decide +kernel) (pa_cons (pe_cmpR op_lt (pv 2) pe_int (nomark _)) pa_nil)))) pe_int)) (pss_one (ps_ret (pe_lst (pa_cons (pe_callB (call_max2 rfl) (by rfl) T.m_max (by decide +kernel) (pa_cons pe_int (pa_cons (pe_op op_sub (pv 3) (pe_op op_powW pe_int pe_int)) pa_nil))) (pa_cons (pe_op op_mod (pe_callTy call_int1 (by rfl) T.m_int (by decide +kernel) (pa_cons (pv 4) pa_nil)) pe_int) (pa_cons pe_int pa_nil))))))))), ?_⟩)), b, m, F.kp, lk_of F⟩
  · obtain ⟨a, ns, i, rfl, _⟩ := h; rfl
  · obtain ⟨a, ns, i, rfl, hs, k⟩ := h
    have d0 : ∀ {ns : List Int}, Dats K H (ns.map .int) (ns.map V.int) := fun {ns} => by
      induction ns with
      | nil => rfl
      | cons n ns ih => exact ⟨.int n, _, rfl, rfl, ih⟩
    have sv : Sv K H (L2.start ["_law_script", "_law_at", "_law_cell", "_law_great", "_law_mixed"] [V.ref a, V.int i]) (startS 5 [.sq (ns.map .int), .int i]) :=
      (sl_start (N := ["_law_script", "_law_at", "_law_cell", "_law_great", "_law_mixed"]) (Same.refl H) (show Dats K H [.sq (ns.map .int), .int i] [.ref a, .int i] from ⟨_, _, rfl, ⟨a, _, rfl, hs, d0⟩, _, _, rfl, rfl, rfl⟩)).sv
    refine st_asg_raw (R := fun d => ∃ j, d = .int j) ?_ (Same.refl H) sv fun v1 c1 G1 H1 g1 e1 ⟨j1, q1⟩ => ?_
    · repeat walk_at "nv"
      refine ifb (fun h1 => ?_) fun h1 => ?_
      · repeat walk_at "nv"
        have hi : i < ns.length := by have := of_decide_eq_true h1; simp at this; exact this
        exact rd_ix_sq (d := .int ns[i]) (atI_nat (by simp [hi])) ⟨_, rfl⟩
      · repeat walk_at "nv"
        refine rd_mul_i (.inl ⟨by decide, by decide⟩) ?_
        repeat walk_at "nv"
        exact ⟨_, rfl⟩
    subst q1
    have sv1 := (sv.up g1.kn).set (j := 2) e1
    refine st_asg_raw (R := fun d => ∃ j, d = .int j) ?_ g1.ink sv1 fun v2 c2 G2 H2 g2 e2 ⟨j2, q2⟩ => ?_
    · repeat walk_at "nv"
      refine rd_I ⟨by decide, by decide +kernel⟩ ?_
      repeat walk_at "nv"
      refine rd_I ⟨by decide, by decide +kernel⟩ ?_
      exact rd_I (Int.pow_pos (Int.pow_pos (by decide))) ⟨_, rfl⟩
    subst q2
    have sv2 := (sv1.up g2.kn).set (j := 3) e2
    refine st_asg_raw (R := fun d => ∃ j, d = .int j) ?_ g2.ink sv2 fun v3 c3 G3 H3 g3 e3 ⟨j3, q3⟩ => ?_
    · repeat walk_at "nv"
      refine rd_I (by show (0 : Int) < _; decide) ?_
      repeat walk_at "nv"
      refine rd_mul_i (modm (by decide) (by decide)) ?_
      repeat walk_at "nv"
      refine rd_mul_i (.inl ⟨by decide, by decide⟩) ?_
      repeat walk_at "nv"
      refine rd_mul_i (.inl ⟨by decide, by decide⟩) ?_
      repeat walk_at "nv"
      exact ⟨_, rfl⟩
    subst q3
    have sv3 := (sv2.up g3.kn).set (j := 4) e3
    refine ret_new_raw (R := fun ds => ∃ x y z, ds = [.int x, .int y, .int z]) ?_ g3.ink sv3 fun vs ds G4 H4 g4 e4 ⟨x, y, z, q4⟩ => ?_
    · repeat walk_at "nv"
      refine rd_I ⟨by decide, by decide +kernel⟩ ?_
      repeat walk_at "nv"
      refine rd_I (by show (0 : Int) < _; decide) ?_
      repeat walk_at "nv"
      exact ⟨_, _, _, rfl⟩
    subst q4
    obtain ⟨_, _, rfl, z1, _, _, rfl, z2, _, _, rfl, z3, z4⟩ := e4
    cases z1; cases z2; cases z3; cases z4
    refine ⟨(by show 3 ≤ 1000; decide), fun p hp => k p x y z _ ?_ ?_ upd_same⟩
    · exact ((g1.trans (g2.trans (g3.trans g4))).up).trans (Ex.new hp)
    · exact (g1.trans (g2.trans (g3.trans g4))).up.free hp
theorem gf__law_one_of (T : Tx P K mg ea) (g__law_roll : Gf P w K mg base "_law_roll" 1 ["_law_dice_here", "_law_total"] PreRoll) :
    Gf P w K mg base "_law_one_of" 2 ["_law_dice_here", "_law_items"] PreOneOf := by
  refine gf_of T.D__law_one_of sc__law_one_of (fun ds R ⟨it, l, h, _⟩ => by rw [h]; rfl) fun f cdv A outer s H E hr => ⟨_, (pss_one (ps_ret (pe_ix (ixA (K := K) rfl) (pv 1) (pe_gf g__law_roll ⟨rfl, rfl, rfl, rfl, rfl⟩ (hr.mono (by decide)) rfl (pa_cons (pv 0) (pa_cons (pe_callB (callLen (K := K) rfl) (by rfl) T.m_len (by decide +kernel) (pa_cons (pv 1) pa_nil)) pa_nil))) (fun _ _ => rfl)))), fun ds R ⟨it, l, h, hi, hn, hl, hR⟩ => ?_⟩
  subst h
  repeat walk_at "nv"
  refine cd_len_items hi hl ?_
  repeat walk_at "nv"
  have h0 : 0 < l.length := List.length_pos_iff.mpr hn
  refine ⟨_, rfl, by omega, by omega, fun r h1 h2 => ?_⟩
  obtain ⟨i, rfl⟩ : ∃ i : Nat, r = i := ⟨r.toNat, by omega⟩
  have hi' : i < l.length := by omega
  exact rd_ix_items hi hl (List.getElem?_eq_getElem hi') (hR _ (List.getElem_mem hi'))
end
end Nv

set_option Elab.async false
set_option linter.all false
set_option maxRecDepth 100000
set_option maxHeartbeats 4000000
namespace Nv
open PySem PySem.Spec PyProof.Rows L2
open SX (S)
local macro_rules | `(tactic| walk_at "nv1") => `(tactic| first
  | ((with_reducible apply ed_var); exact rfl)
  | (with_reducible refine sd_seq ?_)
  | (with_reducible refine sd_ret ?_)
  | (with_reducible refine sd_if ?_)
  | (with_reducible refine sd_asg ?_)
  | (with_reducible refine sd_next ?_)
  | (with_reducible refine sd_unl ?_)
  | (with_reducible refine ed_makeR ?_)
  | (with_reducible refine ed_methR ?_)
  | (with_reducible refine ed_propR ?_)
  | (with_reducible refine ed_cmeth ?_)
  | (with_reducible refine ed_fld ?_)
  | (with_reducible refine ed_lstRg ?_)
  | (with_reducible refine ed_tupRg ?_)
  | (with_reducible refine ea_star ?_)
  | (with_reducible refine ed_op ?_)
  | (with_reducible refine ed_and ?_)
  | (with_reducible refine ed_or ?_)
  | (with_reducible refine ed_not ?_)
  | (with_reducible refine ed_if ?_)
  | (with_reducible refine ed_cb ?_)
  | (with_reducible refine ed_call ?_)
  | (with_reducible refine ed_lst ?_)
  | (with_reducible refine ed_tup ?_)
  | (with_reducible refine ed_un ?_)
  | (with_reducible refine ed_sl ?_)
  | (with_reducible refine ea_cons ?_)
  | (with_reducible refine ea_nil ?_)
  | (with_reducible refine eo_none ?_)
  | (with_reducible refine eo_some ?_)
  | (with_reducible refine et_test ?_)
  | (with_reducible refine et_B ?_)
  | (with_reducible refine et_and ?_)
  | (with_reducible refine et_or ?_)
  | (with_reducible refine et_not ?_)
  | (with_reducible refine et_yes ?_)
  | (with_reducible refine ed_int ?_)
  | (with_reducible refine ed_str ?_)
  | (with_reducible refine ed_bl ?_)
  | (with_reducible refine ed_non ?_)
  | (with_reducible refine ed_ty ?_)
  | (with_reducible refine ed_obj ?_))
local macro_rules | `(tactic| walk_at "nv2") => `(tactic| first
  | (with_reducible refine rd_add_i ?_)
  | (with_reducible refine rd_I0i ?_)
  | (with_reducible refine rd_I0b ?_)
  | (with_reducible refine rd_eq_i ?_)
  | (with_reducible refine rd_ne_i ?_)
  | (with_reducible refine rd_eq_s ?_)
  | (with_reducible refine rd_ne_s ?_)
  | (with_reducible refine rd_notB ?_)
  | (with_reducible refine cd_tup_l ?_)
  | (with_reducible refine cd_tup_t ?_)
  | (with_reducible refine cd_lst_l ?_)
  | (with_reducible refine cd_lst_t ?_)
  | (with_reducible refine rd_in_l ?_)
  | (with_reducible refine rd_in_t ?_)
  | (with_reducible refine rd_ni_t ?_)
  | (with_reducible refine rd_eq_b ?_)
  | (with_reducible refine rd_ne_b ?_)
  | (with_reducible refine rd_isB ?_)
  | (with_reducible refine rd_isN ?_)
  | (with_reducible refine rd_notN ?_)
  | (with_reducible refine rd_in_sign ?_)
  | (with_reducible refine cd_len_l ?_)
  | (with_reducible refine cd_len_sq ?_)
  | (with_reducible refine cd_len_t ?_)
  | (with_reducible refine cd_int_i ?_)
  | (with_reducible refine cd_int_b ?_)
  | (with_reducible refine cd_abs ?_)
  | (with_reducible refine cd_max ?_)
  | (with_reducible refine cd_min ?_)
  | (with_reducible refine cd_str_s ?_)
  | (with_reducible refine cd_repr_b ?_)
  | (with_reducible refine ud_neg ?_)
  | ((with_reducible refine And.intro ?_ ?_); exact Nat.le_of_ble_eq_true rfl) | (with_reducible refine ed_dnew ?_) | (with_reducible refine ed_disp1 ?_) | ((with_reducible refine rd_mul_l ?_ ?_ ?_ ?_); decide; decide; exact Nat.le_of_ble_eq_true rfl) | ((with_reducible refine rd_add_l ?_ ?_); exact Nat.le_of_ble_eq_true rfl)
  | (with_reducible refine ⟨_, rfl, ?_⟩) | (with_reducible refine ⟨_, Or.inl rfl, ?_⟩))
local macro_rules | `(tactic| walk_at "nv") => `(tactic| first | walk_at "nv1" | walk_at "nv2")
local macro_rules | `(tactic| walk_at "cx") => `(tactic| dsimp only [cxOf, Cx.nox, Cx.wish, Cx.blk, List.length_cons, List.length_nil])
section
variable {P : Program} {w : World} {K : PySem.W.Frag} {mg : Str → Option Value} {base : Heap} {ea : EA}
def PreLSigns : List Dt → (Dt → Prop) → Prop := fun ds R => ∃ m : Nat, ds = [dice, .int m] ∧ m ≤ 10 ∧ ∀ bs : List Bool, bs.length ≤ m → R (.str (S (bs.map sg)))
theorem gf__law_signs (T : Tx P K mg ea) (g__law_roll : Gf P w K mg base "_law_roll" 1 ["_law_dice_here", "_law_total"] PreRoll) (g__law_one_of : Gf P w K mg base "_law_one_of" 2 ["_law_dice_here", "_law_items"] PreOneOf) :
    Gf P w K mg base "_law_signs" 3 ["_law_dice_here", "_law_much"] PreLSigns := by
  refine gf_of T.D__law_signs sc__law_signs (fun ds R ⟨m, h, _⟩ => by rw [h]; rfl) fun f cdv A outer s H E hr => ⟨_, (pss_one (ps_ret (peBm (K := K) rfl PySem.F.plainAttrs_str PySem.F.slot_str_join PySem.F.type_str_join (mtJoin (K := K) rfl) pe_str (pa_cons (pe_lc (own := [("_law_turn", 2)]) (g := gName 2) rfl sc__law_signs.nd (pi_range1 rfl T.m_range (pa_cons (pe_gf g__law_roll ⟨rfl, rfl, rfl, rfl, rfl⟩ (hr.mono (by decide)) rfl (pa_cons (pv 0) (pa_cons (pe_op (opAdd (K := K) rfl) (pv 1) pe_int) pa_nil))) pa_nil)) (blkOk_by (own := [("_law_turn", 2)]) (N := ["_law_dice_here", "_law_much", "_law_turn"]) (sc := defScope s__law_signs) (by decide +kernel)) (fun _ _ _ _ _ => (pg_name (i := 2) sc__law_signs.nd rfl (by first | exact Or.inl rfl | exact Or.inr rfl))) (fun _ _ _ _ _ => pts_nil) (fun _ _ _ _ _ => (pe_gf g__law_one_of ⟨rfl, rfl, rfl, rfl, rfl⟩ (hr.mono (by decide)) rfl (pa_cons (pv 0) (pa_cons (pe_lst (pa_cons pe_str (pa_cons pe_str (pa_cons pe_str pa_nil)))) pa_nil))))) pa_nil)))), fun ds R ⟨m, h, hm, hR⟩ => ?_⟩
  subst h
  repeat walk_at "nv"
  refine ed_bm ?_
  refine ed_str ⟨fun G H v e d => ty_s e d, ?_⟩
  repeat walk_at "nv"
  refine ed_lc (fun d => gd_name) ?_
  refine ei_rng1 ?_
  repeat walk_at "nv"
  refine ⟨_, rfl, by omega, by omega, fun r h1 h2 => ?_⟩
  repeat walk_at "nv"
  refine ⟨⟨by omega, by omega⟩, fun i acc => ∃ bs : List Bool, acc = bs.map (fun b => Dt.str (S [sg b])) ∧ bs.length = i, ⟨[], rfl, rfl⟩, by simp [rangeD]; omega, fun i x acc hx ⟨bs, h3, h4⟩ => ?_, fun acc ⟨bs, h3, h4⟩ => ?_⟩
  · subst h3
    walk_at "nv"
    rw [if_pos rfl]
    repeat walk_at "nv"
    refine ⟨_, _, rfl, rfl, by decide, by decide, fun x hx => ?_⟩
    have : ∃ b, x = Dt.str (S [sg b]) := by
      revert x
      simp only [List.forall_mem_cons]
      exact ⟨⟨true, rfl⟩, ⟨true, rfl⟩, ⟨false, rfl⟩, fun x hx => nomatch hx⟩
    obtain ⟨b, rfl⟩ := this
    exact ⟨bs ++ [b], by simp, by simp [h4]⟩
  · have hl : bs.length ≤ m := by rw [h4]; simp [rangeD]; omega
    clear h4
    subst h3
    repeat walk_at "nv"
    have e : bs.map (fun b => Dt.str (S [sg b])) = ((bs.map fun b => [sg b]).map S).map Dt.str := by simp
    rw [e]
    refine md_join_l (by rw [sum_signs, show (Str.ofString "" : Str).length = 0 from rfl]; omega) ?_
    rw [join_signs]
    exact hR bs hl
def PreLPart : List Dt → (Dt → Prop) → Prop := fun ds R => ds = [dice] ∧ ∀ p : Part, p.ok → R p.d
theorem gf__law_part (T : Tx P K mg ea) (g__law_roll : Gf P w K mg base "_law_roll" 1 ["_law_dice_here", "_law_total"] PreRoll) (g__law_one_of : Gf P w K mg base "_law_one_of" 2 ["_law_dice_here", "_law_items"] PreOneOf)
    (g__law_signs : Gf P w K mg base "_law_signs" 3 ["_law_dice_here", "_law_much"] PreLSigns) : Gf P w K mg base "_law_part" 4 ["_law_dice_here"] PreLPart := by
  refine gf_of T.D__law_part sc__law_part (fun ds R ⟨h, _⟩ => by rw [h]; rfl) fun f cdv A outer s H E hr => ⟨_, (pss_cons (ps_set (i := 1) sc__law_part.nd rfl (by first | exact Or.inl rfl | exact Or.inr rfl) (pe_lst (pa_cons pe_str (pa_cons pe_str (pa_cons pe_str (pa_cons pe_str (pa_cons pe_str (pa_cons pe_str (pa_cons pe_str (pa_cons pe_str (pa_cons pe_str (pa_cons pe_str pa_nil)))))))))))) (pss_cons (ps_if (pt_cmpR op_gt (pe_gf g__law_roll ⟨rfl, rfl, rfl, rfl, rfl⟩ (hr.mono (by decide)) rfl (pa_cons (pv 0) (pa_cons pe_int pa_nil))) pe_int (nomark _)) (pss_one (ps_ret (pe_gf g__law_one_of ⟨rfl, rfl, rfl, rfl, rfl⟩ (hr.mono (by decide)) rfl (pa_cons (pv 0) (pa_cons (pv 1) pa_nil))))) pss_nil) (pss_one (ps_ret (pe_op (opAdd (K := K) rfl) (pe_op (opAdd (K := K) rfl) (pe_gf g__law_signs ⟨rfl, rfl, rfl, rfl, rfl⟩ (hr.mono (by decide)) rfl (pa_cons (pv 0) (pa_cons pe_int pa_nil))) pe_str) (pe_gf g__law_signs ⟨rfl, rfl, rfl, rfl, rfl⟩ (hr.mono (by decide)) rfl (pa_cons (pv 0) (pa_cons pe_int pa_nil)))))))), fun ds R ⟨h, hR⟩ => ?_⟩
  subst h
  repeat walk_at "nv"
  refine ⟨_, rfl, by decide, by decide, fun r h1 h2 => ?_⟩
  repeat walk_at "nv"
  refine ifb (fun _ => ?_) fun _ => ?_
  · repeat walk_at "nv"
    refine ⟨_, _, rfl, rfl, by decide, by decide, fun x hx => ?_⟩
    have : ∃ p : Part, p.ok ∧ x = p.d := by
      revert x
      simp only [List.forall_mem_cons]
      have hk : ∀ f b : List Bool, f.length ≤ 2 ∧ b.length ≤ 3 → (Part.pat f b).ok := fun f b h => h
      exact ⟨⟨.all, trivial, rfl⟩, ⟨.all, trivial, rfl⟩, ⟨.pat [] [true], hk _ _ (by decide), rfl⟩, ⟨.pat [] [true, true], hk _ _ (by decide), rfl⟩, ⟨.pat [true] [], hk _ _ (by decide), rfl⟩, ⟨.pat [true] [true], hk _ _ (by decide), rfl⟩, ⟨.pat [] [true, true, true], hk _ _ (by decide), rfl⟩, ⟨.pat [] [], hk _ _ (by decide), rfl⟩, ⟨.pat [true] [true, true], hk _ _ (by decide), rfl⟩, ⟨.pat [] [false, true], hk _ _ (by decide), rfl⟩, fun x hx => nomatch hx⟩
    obtain ⟨p, hp, rfl⟩ := this
    exact hR p hp
  · repeat walk_at "nv"
    refine ⟨2, rfl, by decide, fun f hf => ?_⟩
    repeat walk_at "nv"
    refine rd_add_s (by rw [SX.S_len]; simp; show f.length + 2 ≤ _; omega) ?_
    repeat walk_at "nv"
    refine ⟨3, rfl, by decide, fun b hb => ?_⟩
    rw [show (".." : Str) = S [46, 46] from rfl, S_app]
    refine rd_add_s (by rw [SX.S_len, SX.S_len]; simp; omega) ?_
    rw [S_app]
    exact hR (.pat f b) ⟨hf, hb⟩
def PreLParts : List Dt → (Dt → Prop) → Prop := fun ds R => ∃ m : Int, ds = [dice, .int m] ∧ 2 ≤ m ∧ m ≤ 4 ∧ ∀ ps : List Part, (∀ p ∈ ps, p.ok) → (ps.length : Int) ≤ m → R (.lst (ps.map Part.d))
theorem gf__law_parts (T : Tx P K mg ea) (g__law_one_of : Gf P w K mg base "_law_one_of" 2 ["_law_dice_here", "_law_items"] PreOneOf)
    (g__law_part : Gf P w K mg base "_law_part" 4 ["_law_dice_here"] PreLPart) : Gf P w K mg base "_law_parts" 5 ["_law_dice_here", "_law_much"] PreLParts := by
  refine gf_of T.D__law_parts sc__law_parts (fun ds R ⟨m, h, _⟩ => by rw [h]; rfl) fun f cdv A outer s H E hr => ⟨_, (pss_one (ps_ret (pe_lc (own := [("_law_turn", 2)]) (g := gName 2) rfl sc__law_parts.nd (pi_range1 rfl T.m_range (pa_cons (pe_gf g__law_one_of ⟨rfl, rfl, rfl, rfl, rfl⟩ (hr.mono (by decide)) rfl (pa_cons (pv 0) (pa_cons (pe_lst (pa_cons pe_int (pa_cons pe_int (pa_cons pe_int (pa_cons pe_int (pa_cons (pe_callB (call_min2 rfl) (by rfl) T.m_min (by decide +kernel) (pa_cons pe_int (pa_cons (pv 1) pa_nil))) (pa_cons (pv 1) pa_nil))))))) pa_nil))) pa_nil)) (blkOk_by (own := [("_law_turn", 2)]) (N := ["_law_dice_here", "_law_much", "_law_turn"]) (sc := defScope s__law_parts) (by decide +kernel)) (fun _ _ _ _ _ => (pg_name (i := 2) sc__law_parts.nd rfl (by first | exact Or.inl rfl | exact Or.inr rfl))) (fun _ _ _ _ _ => pts_nil) (fun _ _ _ _ _ => (pe_gf g__law_part ⟨rfl, rfl, rfl, rfl, rfl⟩ (hr.mono (by decide)) rfl (pa_cons (pv 0) pa_nil)))))), fun ds R ⟨m, h, h0, h1, hR⟩ => ?_⟩
  subst h
  repeat walk_at "nv"
  refine ed_lc (fun d => gd_name) ?_
  refine ei_rng1 ?_
  repeat walk_at "nv"
  refine ⟨_, _, rfl, rfl, by simp, by simp, fun x hx => ?_⟩
  have : ∃ k : Int, x = .int k ∧ 0 ≤ k ∧ k ≤ m := by
    revert x
    simp only [List.forall_mem_cons]
    refine ⟨⟨_, rfl, by omega, by omega⟩, ⟨_, rfl, by omega, by omega⟩, ⟨_, rfl, by omega, by omega⟩, ⟨_, rfl, by omega, by omega⟩, ⟨_, rfl, ?_, ?_⟩, ⟨_, rfl, by omega, by omega⟩, fun x hx => nomatch hx⟩
    · split <;> omega
    · split <;> omega
  obtain ⟨k, rfl, h2, h3⟩ := this
  repeat walk_at "nv"
  refine ⟨⟨by omega, by omega⟩, fun i acc => ∃ ps : List Part, acc = ps.map Part.d ∧ ps.length = i ∧ ∀ p ∈ ps, p.ok, ⟨[], rfl, rfl, fun p hp => nomatch hp⟩, by simp [rangeD]; omega, fun i x acc hx ⟨ps, h4, h5, h6⟩ => ?_, fun acc ⟨ps, h4, h5, h6⟩ => ?_⟩
  · subst h4
    walk_at "nv"
    rw [if_pos rfl]
    repeat walk_at "nv"
    refine ⟨rfl, fun p hp => ⟨ps ++ [p], by simp, by simp [h5], fun q hq => ?_⟩⟩
    rcases List.mem_append.mp hq with h | h
    · exact h6 q h
    · cases List.mem_singleton.mp h; exact hp
  · subst h4
    exact hR ps h6 (by rw [h5]; simp [rangeD]; omega)
end
end Nv

set_option Elab.async false
set_option linter.all false
set_option maxRecDepth 100000
set_option maxHeartbeats 4000000
namespace Nv
open PySem PySem.Spec PyProof.Rows L2
open SX (S)
local macro_rules | `(tactic| walk_at "nv1") => `(tactic| first
  | ((with_reducible apply ed_var); exact rfl)
  | (with_reducible refine sd_seq ?_)
  | (with_reducible refine sd_ret ?_)
  | (with_reducible refine sd_if ?_)
  | (with_reducible refine sd_asg ?_)
  | (with_reducible refine sd_next ?_)
  | (with_reducible refine sd_unl ?_)
  | (with_reducible refine ed_makeR ?_)
  | (with_reducible refine ed_methR ?_)
  | (with_reducible refine ed_propR ?_)
  | (with_reducible refine ed_cmeth ?_)
  | (with_reducible refine ed_fld ?_)
  | (with_reducible refine ed_lstRg ?_)
  | (with_reducible refine ed_tupRg ?_)
  | (with_reducible refine ea_star ?_)
  | (with_reducible refine ed_op ?_)
  | (with_reducible refine ed_and ?_)
  | (with_reducible refine ed_or ?_)
  | (with_reducible refine ed_not ?_)
  | (with_reducible refine ed_if ?_)
  | (with_reducible refine ed_cb ?_)
  | (with_reducible refine ed_call ?_)
  | (with_reducible refine ed_lst ?_)
  | (with_reducible refine ed_tup ?_)
  | (with_reducible refine ed_un ?_)
  | (with_reducible refine ed_sl ?_)
  | (with_reducible refine ea_cons ?_)
  | (with_reducible refine ea_nil ?_)
  | (with_reducible refine eo_none ?_)
  | (with_reducible refine eo_some ?_)
  | (with_reducible refine et_test ?_)
  | (with_reducible refine et_B ?_)
  | (with_reducible refine et_and ?_)
  | (with_reducible refine et_or ?_)
  | (with_reducible refine et_not ?_)
  | (with_reducible refine et_yes ?_)
  | (with_reducible refine ed_int ?_)
  | (with_reducible refine ed_str ?_)
  | (with_reducible refine ed_bl ?_)
  | (with_reducible refine ed_non ?_)
  | (with_reducible refine ed_ty ?_)
  | (with_reducible refine ed_obj ?_))
local macro_rules | `(tactic| walk_at "nv2") => `(tactic| first
  | (with_reducible refine rd_add_i ?_)
  | (with_reducible refine rd_I0i ?_)
  | (with_reducible refine rd_I0b ?_)
  | (with_reducible refine rd_eq_i ?_)
  | (with_reducible refine rd_ne_i ?_)
  | (with_reducible refine rd_eq_s ?_)
  | (with_reducible refine rd_ne_s ?_)
  | (with_reducible refine rd_notB ?_)
  | (with_reducible refine cd_tup_l ?_)
  | (with_reducible refine cd_tup_t ?_)
  | (with_reducible refine cd_lst_l ?_)
  | (with_reducible refine cd_lst_t ?_)
  | (with_reducible refine rd_in_l ?_)
  | (with_reducible refine rd_in_t ?_)
  | (with_reducible refine rd_ni_t ?_)
  | (with_reducible refine rd_eq_b ?_)
  | (with_reducible refine rd_ne_b ?_)
  | (with_reducible refine rd_isB ?_)
  | (with_reducible refine rd_isN ?_)
  | (with_reducible refine rd_notN ?_)
  | (with_reducible refine rd_in_sign ?_)
  | (with_reducible refine cd_len_l ?_)
  | (with_reducible refine cd_len_sq ?_)
  | (with_reducible refine cd_len_t ?_)
  | (with_reducible refine cd_int_i ?_)
  | (with_reducible refine cd_int_b ?_)
  | (with_reducible refine cd_abs ?_)
  | (with_reducible refine cd_max ?_)
  | (with_reducible refine cd_min ?_)
  | (with_reducible refine cd_str_s ?_)
  | (with_reducible refine cd_repr_b ?_)
  | (with_reducible refine ud_neg ?_)
  | ((with_reducible refine And.intro ?_ ?_); exact Nat.le_of_ble_eq_true rfl) | (with_reducible refine ed_dnew ?_) | (with_reducible refine ed_disp1 ?_) | ((with_reducible refine rd_mul_l ?_ ?_ ?_ ?_); decide; decide; exact Nat.le_of_ble_eq_true rfl) | ((with_reducible refine rd_add_l ?_ ?_); exact Nat.le_of_ble_eq_true rfl)
  | (with_reducible refine ⟨_, rfl, ?_⟩) | (with_reducible refine ⟨_, Or.inl rfl, ?_⟩))
local macro_rules | `(tactic| walk_at "nv") => `(tactic| first | walk_at "nv1" | walk_at "nv2")
local macro_rules | `(tactic| walk_at "cx") => `(tactic| dsimp only [cxOf, Cx.nox, Cx.wish, Cx.blk, List.length_cons, List.length_nil])
section
variable {P : Program} {w : World} {K : PySem.W.Frag} {mg : Str → Option Value} {base : Heap} {ea : EA}
def PreLKept : List Dt → (Dt → Prop) → Prop := fun ds R => ∃ (ps : List Part) (row : List Dt) (it : Dt), ds = [.lst (ps.map Part.d), it] ∧ (it = .lst row ∨ it = .tup row) ∧ (∀ p ∈ ps, p.ok) ∧ row.length ≤ 1000 ∧ R (.tup (kept ps row))
theorem gf__law_kept (T : Tx P K mg ea) : Gf P w K mg base "_law_kept" 1 ["_law_parts_here", "_law_row"] PreLKept := by
  refine gf_of T.D__law_kept sc__law_kept (fun ds R ⟨p, n, i, h, _⟩ => by rw [h]; rfl) fun f cdv A outer s H E hr => ⟨_, (pss_cons (ps_set (i := 1) sc__law_kept.nd rfl (by first | exact Or.inl rfl | exact Or.inr rfl) (pe_callTy (callTuple (K := K) rfl) (by rfl) T.m_tuple (by decide +kernel) (pa_cons (pv 1) pa_nil))) (pss_cons (ps_for PassesOwn.never rfl (piList (K := K) rfl (pv 0)) (pg_name (i := 2) sc__law_kept.nd rfl (by first | exact Or.inl rfl | exact Or.inr rfl)) (pss_one (ps_if (pt_cmpR (opNe (K := K) rfl hr.units) (pv 2) pe_str (nomark _)) (pss_cons (ps_asg (peBm (K := K) rfl PySem.F.plainAttrs_str PySem.F.slot_str_split PySem.F.type_str_split mtSplit (pv 2) (pa_cons pe_str pa_nil)) (pgUnl (K := K) (n := 2) rfl rfl (pgs_cons (pg_name (i := 4) sc__law_kept.nd rfl (by first | exact Or.inl rfl | exact Or.inr rfl)) (pgs_cons (pg_name (i := 5) sc__law_kept.nd rfl (by first | exact Or.inl rfl | exact Or.inr rfl)) pgs_nil)))) (pss_cons (ps_par (i := 6) (j := 7) rfl sc__law_kept.nd rfl rfl (by decide) rfl rfl (pa_cons (pe_callB (callLen (K := K) rfl) (by rfl) T.m_len (by decide +kernel) (pa_cons (pv 1) pa_nil)) (pa_cons (pe_lst pa_nil) pa_nil)) (by rfl)) (pss_cons (ps_for PassesOwn.never rfl (pi_range1 rfl T.m_range (pa_cons (pv 6) pa_nil)) (pg_name (i := 3) sc__law_kept.nd rfl (by first | exact Or.inl rfl | exact Or.inr rfl)) (pss_cons (ps_set (i := 8) sc__law_kept.nd rfl (by first | exact Or.inl rfl | exact Or.inr rfl) (pe_and (pe_cmpR op_lt (pv 3) (pe_callB (callLen (K := K) rfl) (by rfl) T.m_len (by decide +kernel) (pa_cons (pv 4) pa_nil)) (nomark _)) (pe_one (pe_cmpR (opEq (K := K) rfl hr.units) (pe_ix (ixA (K := K) rfl) (pv 4) (pv 3) (fun _ _ => rfl)) pe_str (nomark _))))) (pss_one (ps_if (PW.pt (pw_or (pt_val (pv 8)) (pw_or1 (PW.pt (pw_and (pt_cmpR op_le (pe_op op_sub (pv 6) (pv 3)) (pe_callB (callLen (K := K) rfl) (by rfl) T.m_len (by decide +kernel) (pa_cons (pv 5) pa_nil)) (nomark _)) (pw_and1 (pt_cmpR (opEq (K := K) rfl hr.units) (pe_ix (ixA (K := K) rfl) (pv 5) (pe_op (opAdd (K := K) rfl) (pe_op op_sub (pe_callB (callLen (K := K) rfl) (by rfl) T.m_len (by decide +kernel) (pa_cons (pv 5) pa_nil)) (pv 6)) (pv 3)) (fun _ _ => rfl)) pe_str (nomark _)))))))) (pss_one (ps_expr (peBm (K := K) rfl PySem.F.plainAttrs_list PySem.F.slot_list_append PySem.F.type_list_append mt_append (pv 7) (pa_cons (pe_ix (ixA (K := K) rfl) (pv 1) (pv 3) (fun _ _ => rfl)) pa_nil)))) pss_nil)))) (pss_one (ps_set (i := 1) sc__law_kept.nd rfl (by first | exact Or.inl rfl | exact Or.inr rfl) (pe_callTy (callTuple (K := K) rfl) (by rfl) T.m_tuple (by decide +kernel) (pa_cons (pv 7) pa_nil))))))) pss_nil))) (pss_one (ps_ret (pv 1))))), fun ds R ⟨ps, row, it, h, hit, hp, hn, hR⟩ => ?_⟩
  subst h
  refine sd_seq (sd_asg (EvD.imp (R := fun d => d = .tup row) ?_ fun d hd => ?_))
  · repeat walk_at "nv"
    rcases hit with rfl | rfl
    · exact cd_tup_l rfl
    · exact cd_tup_t rfl
  subst hd
  repeat walk_at "nv"
  refine sd_for ?_
  refine ei_list ?_
  repeat walk_at "nv"
  refine ⟨fun i s1 => ∃ (r : List Dt) (a b c d e g h : Sd), s1 = [.dt (.lst (ps.map Part.d)), .dt (.tup r), a, b, c, d, e, g, h] ∧ r = kept (ps.take i) row, ⟨_, _, _, _, _, _, _, _, rfl, rfl⟩, fun i x s1 hx ⟨r, a, b, c, d, e, g, h, hs, hrow⟩ => ?_, fun s1 ⟨r, a, b, c, d, e, g, h, hs, hrow⟩ => ?_⟩
  · rw [List.getElem?_map] at hx
    obtain ⟨p, hp', rfl⟩ := Option.map_eq_some_iff.mp hx
    have hok : p.ok := hp p (List.mem_of_getElem? hp')
    have e1 : kept (ps.take (i + 1)) row = cutRow p (kept (ps.take i) row) := by
      rw [List.take_add_one, hp']; exact kept_snoc p _ _
    have hl : (kept (ps.take i) row).length ≤ 1000 := Nat.le_trans (kept_sub _ _).length_le hn
    rw [← hrow] at e1 hl
    subst hs
    repeat walk_at "nv"
    rw [part_all hok]
    cases p with
    | all =>
      refine ifF rfl ?_
      repeat walk_at "nv"
      exact ⟨_, _, _, _, _, _, _, _, rfl, by rw [e1, cut_all]⟩
    | pat f bk =>
      have hf : f.length ≤ 2 := hok.1
      have hb : bk.length ≤ 3 := hok.2
      refine ifT rfl ?_
      repeat walk_at "nv"
      refine ed_bm ?_
      repeat walk_at "nv"
      refine ⟨fun G H v e d => ty_s e d, ?_⟩
      repeat walk_at "nv"
      refine md_split rfl (by rw [SX.S_len]; have := txt_len hok; omega) ?_
      rw [show (".." : Str) = S [46, 46] from rfl, split_pat hf hb]
      refine ⟨_, _, rfl, ?_⟩
      repeat walk_at "nv"
      refine sd_parL ?_
      repeat walk_at "nv"
      intro ad
      repeat walk_at "nv"
      refine sd_for ?_
      refine ei_rng1 ?_
      repeat walk_at "nv"
      refine ⟨⟨by omega, by omega⟩, fun j s1 => ∃ (acc : List Dt) (x y : Sd), s1 = [.dt (.lst (ps.map Part.d)), .dt (.tup r), .dt (Part.pat f bk).d, x, .dt (.str (S (f.map sg))), .dt (.str (S (bk.map sg))), .dt (.int r.length), .own ad (.lst acc), y] ∧ acc = ((List.range j).filter (keepB f bk r.length)).filterMap (r[·]?), ⟨[], _, _, rfl, rfl⟩, fun j x s1 hx ⟨acc, x', y', hs, hacc⟩ => ?_, fun s1 ⟨acc, x', y', hs, hacc⟩ => ?_⟩
      · rw [Int.toNat_natCast] at hx
        obtain ⟨hj, rfl⟩ := range_at hx
        subst hs
        refine sd_seq (sd_asg (EvD.imp (R := fun d => d = .bl (f.getD j false)) ?_ fun d hd => ?_))
        · repeat walk_at "nv"
          refine cd_len_s (by rw [SX.S_len]; simp; omega) ?_
          rw [SX.S_len, List.length_map]
          repeat walk_at "nv"
          refine ifb (fun h1 => ?_) fun h1 => ?_
          · have h1 : j < f.length := by have := of_decide_eq_true h1; omega
            repeat walk_at "nv"
            refine rd_ix_s (by rw [SX.S_len]; simp; omega) (sgs_at h1) ?_
            repeat walk_at "nv"
            rw [plus_sg, List.getD_eq_getElem?_getD, List.getElem?_eq_getElem h1]; rfl
          · have h1 : ¬ j < f.length := by have := of_decide_eq_false h1; omega
            rw [List.getD_eq_getElem?_getD, List.getElem?_eq_none (by omega)]; rfl
        subst hd
        refine sd_if (EvT.imp (R := fun b => b = keepB f bk r.length j) ?_ fun b hb' => ?_)
        · have e2 : keepB f bk r.length j = (f.getD j false || (decide (r.length ≤ j + bk.length) && bk.getD (j + bk.length - r.length) false)) := rfl
          rw [e2]
          repeat walk_at "nv"
          refine ifb (fun h1 => by rw [h1]; rfl) fun h1 => ?_
          rw [h1, Bool.false_or]
          repeat walk_at "nv"
          refine cd_len_s (by rw [SX.S_len]; simp; omega) ?_
          rw [SX.S_len, List.length_map]
          repeat walk_at "nv"
          refine ifb (fun h2 => ?_) fun h2 => ?_
          · have h2 : r.length ≤ j + bk.length := by have := of_decide_eq_true h2; omega
            repeat walk_at "nv"
            refine cd_len_s (by rw [SX.S_len]; simp; omega) ?_
            rw [SX.S_len, List.length_map]
            repeat walk_at "nv"
            have h3 : j + bk.length - r.length < bk.length := by omega
            have e3 : (bk.length : Int) - (r.length : Int) + (j : Int) = ((j + bk.length - r.length : Nat) : Int) := by omega
            rw [e3]
            refine rd_ix_s (by rw [SX.S_len]; simp; omega) (sgs_at h3) ?_
            repeat walk_at "nv"
            rw [plus_sg, decide_eq_true h2, Bool.true_and, List.getD_eq_getElem?_getD, List.getElem?_eq_getElem h3]; rfl
          · have h2 : ¬ r.length ≤ j + bk.length := by have := of_decide_eq_false h2; omega
            rw [decide_eq_false h2]; rfl
        subst hb'
        have e4 := range_filt r (keepB f bk r.length) j
        have e5 : r[j]? = some r[j] := List.getElem?_eq_getElem hj
        refine ifb (fun h1 => ?_) fun h1 => ?_
        · refine sd_append rfl ?_
          repeat walk_at "nv"
          refine rd_ix_t (d := r[j]) (atI_nat e5) ?_
          repeat walk_at "nv"
          refine ⟨?_, ?_⟩
          · have q1 := List.length_filterMap_le (r[·]?) ((List.range j).filter (keepB f bk r.length))
            have q2 := List.length_filter_le (keepB f bk r.length) (List.range j)
            rw [List.length_range] at q2
            rw [hacc]
            omega
          · exact ⟨_, _, _, rfl, by rw [e4, if_pos h1, e5, hacc]; rfl⟩
        · repeat walk_at "nv"
          exact ⟨_, _, _, rfl, by rw [e4, if_neg (by rw [h1]; exact Bool.false_ne_true), List.append_nil, hacc]⟩
      · subst hs
        refine sd_tell (j := 7) rfl ?_
        repeat walk_at "nv"
        have e6 : (rangeD 0 (r.length : Int).toNat).length = r.length := by simp [rangeD]
        rw [e6] at hacc
        exact ⟨acc, _, _, _, _, _, _, _, rfl, by rw [e1, hacc]; rfl⟩
  · subst hs
    rw [List.length_map, List.take_length] at hrow
    subst hrow
    repeat walk_at "nv"
    exact hR
end
end Nv

set_option Elab.async false
set_option linter.all false
set_option maxRecDepth 100000
set_option maxHeartbeats 4000000
namespace Nv
open PySem PySem.Spec PyProof.Rows L2
open SX (S)
local macro_rules | `(tactic| walk_at "nv1") => `(tactic| first
  | ((with_reducible apply ed_var); exact rfl)
  | (with_reducible refine sd_seq ?_)
  | (with_reducible refine sd_ret ?_)
  | (with_reducible refine sd_if ?_)
  | (with_reducible refine sd_asg ?_)
  | (with_reducible refine sd_next ?_)
  | (with_reducible refine sd_unl ?_)
  | (with_reducible refine ed_makeR ?_)
  | (with_reducible refine ed_methR ?_)
  | (with_reducible refine ed_propR ?_)
  | (with_reducible refine ed_cmeth ?_)
  | (with_reducible refine ed_fld ?_)
  | (with_reducible refine ed_lstRg ?_)
  | (with_reducible refine ed_tupRg ?_)
  | (with_reducible refine ea_star ?_)
  | (with_reducible refine ed_op ?_)
  | (with_reducible refine ed_and ?_)
  | (with_reducible refine ed_or ?_)
  | (with_reducible refine ed_not ?_)
  | (with_reducible refine ed_if ?_)
  | (with_reducible refine ed_cb ?_)
  | (with_reducible refine ed_call ?_)
  | (with_reducible refine ed_lst ?_)
  | (with_reducible refine ed_tup ?_)
  | (with_reducible refine ed_un ?_)
  | (with_reducible refine ed_sl ?_)
  | (with_reducible refine ea_cons ?_)
  | (with_reducible refine ea_nil ?_)
  | (with_reducible refine eo_none ?_)
  | (with_reducible refine eo_some ?_)
  | (with_reducible refine et_test ?_)
  | (with_reducible refine et_B ?_)
  | (with_reducible refine et_and ?_)
  | (with_reducible refine et_or ?_)
  | (with_reducible refine et_not ?_)
  | (with_reducible refine et_yes ?_)
  | (with_reducible refine ed_int ?_)
  | (with_reducible refine ed_str ?_)
  | (with_reducible refine ed_bl ?_)
  | (with_reducible refine ed_non ?_)
  | (with_reducible refine ed_ty ?_)
  | (with_reducible refine ed_obj ?_))
local macro_rules | `(tactic| walk_at "nv2") => `(tactic| first
  | (with_reducible refine rd_add_i ?_)
  | (with_reducible refine rd_I0i ?_)
  | (with_reducible refine rd_I0b ?_)
  | (with_reducible refine rd_eq_i ?_)
  | (with_reducible refine rd_ne_i ?_)
  | (with_reducible refine rd_eq_s ?_)
  | (with_reducible refine rd_ne_s ?_)
  | (with_reducible refine rd_notB ?_)
  | (with_reducible refine cd_tup_l ?_)
  | (with_reducible refine cd_tup_t ?_)
  | (with_reducible refine cd_lst_l ?_)
  | (with_reducible refine cd_lst_t ?_)
  | (with_reducible refine rd_in_l ?_)
  | (with_reducible refine rd_in_t ?_)
  | (with_reducible refine rd_ni_t ?_)
  | (with_reducible refine rd_eq_b ?_)
  | (with_reducible refine rd_ne_b ?_)
  | (with_reducible refine rd_isB ?_)
  | (with_reducible refine rd_isN ?_)
  | (with_reducible refine rd_notN ?_)
  | (with_reducible refine rd_in_sign ?_)
  | (with_reducible refine cd_len_l ?_)
  | (with_reducible refine cd_len_sq ?_)
  | (with_reducible refine cd_len_t ?_)
  | (with_reducible refine cd_int_i ?_)
  | (with_reducible refine cd_int_b ?_)
  | (with_reducible refine cd_abs ?_)
  | (with_reducible refine cd_max ?_)
  | (with_reducible refine cd_min ?_)
  | (with_reducible refine cd_str_s ?_)
  | (with_reducible refine cd_repr_b ?_)
  | (with_reducible refine ud_neg ?_)
  | ((with_reducible refine And.intro ?_ ?_); exact Nat.le_of_ble_eq_true rfl) | (with_reducible refine ed_dnew ?_) | (with_reducible refine ed_disp1 ?_) | ((with_reducible refine rd_mul_l ?_ ?_ ?_ ?_); decide; decide; exact Nat.le_of_ble_eq_true rfl) | ((with_reducible refine rd_add_l ?_ ?_); exact Nat.le_of_ble_eq_true rfl)
  | (with_reducible refine ⟨_, rfl, ?_⟩) | (with_reducible refine ⟨_, Or.inl rfl, ?_⟩))
local macro_rules | `(tactic| walk_at "nv") => `(tactic| first | walk_at "nv1" | walk_at "nv2")
local macro_rules | `(tactic| walk_at "cx") => `(tactic| dsimp only [cxOf, Cx.nox, Cx.wish, Cx.blk, List.length_cons, List.length_nil])
section
variable {P : Program} {w : World} {K : PySem.W.Frag} {mg : Str → Option Value} {base : Heap} {ea : EA}
def PreJoined (C : Addr) : List Dt → (Dt → Prop) → Prop := fun ds R => ∃ ps qs : List Part, ds = [cutD C ps, cutD C qs] ∧ (∀ p ∈ ps, p.ok) ∧ (∀ p ∈ qs, p.ok) ∧ ps.length + qs.length ≤ 1000 ∧ (ps.length + qs.length ≤ 4 → R (cutD C (ps ++ qs))) ∧ (4 < ps.length + qs.length → R (.int 4))
theorem gf__law_joined (T : Tx P K mg ea) (g_Cutter___rshift__ : Gmx P w K mg base 6 ea.f_Cutter___rshift__ (PreShift ea.C_Cutter ea.C_TooMany)) : Gf P w K mg base "_law_joined" 7 ["_law_one", "_law_other"] (PreJoined ea.C_Cutter) := by
  refine gf_of T.D__law_joined sc__law_joined (fun ds R ⟨ps, qs, h, _⟩ => by rw [h]; rfl) fun f cdv A outer s H E hr => ⟨_, (pss_one (psTryAs (K := K) (i := 2) rfl rfl rfl sc__law_joined.nd rfl rfl ⟨rfl, by decide, .inl T.x_TooMany.m⟩ takes0 (fun W pn xe tk _ => (pss_one (ps_ret (pe_opS (K := K) rfl rfl T.mro_Cutter.choose_spec.1 T.mro_Cutter.choose_spec.2 T.m_Cutter___rshift__.at_ T.m_Cutter___rshift__.fn g_Cutter___rshift__ (hr.mono (by decide)) tk (pv 0) (pv 1))))) (fun a oe cls d pn hz hf => (pss_one (ps_ret (pe_xf T.x_TooMany.xf T.n_TooMany_limit hz hf (pv 2))))))), fun ds R ⟨ps, qs, h, hp, hq, hl, hR, hX⟩ => ?_⟩
  subst h
  refine sd_try_as (fun s1 C' l => C' = ea.C_TooMany ∧ l = [(("limit" : Str), Dt.int 4)] ∧ 4 < ps.length + qs.length ∧ s1 = [.dt (cutD ea.C_Cutter ps), .dt (cutD ea.C_Cutter qs), .no]) (fun W => ?_) ?_
  · refine sd_retX (ex_op ?_)
    repeat walk_at "nv"
    refine ⟨_, _, rfl, rfl, T.k_Cutter.ci, .inl rfl, ps, qs, rfl, hp, hq, hl, hR, fun h => ⟨rfl, rfl, h, rfl⟩⟩
  · rintro s1 C' l ⟨rfl, rfl, h4, rfl⟩
    refine ⟨true, T.exm_TooMany_TooMany, fun _ a od => ?_, (fun z => nomatch z)⟩
    refine sd_ret (ed_xf rfl ?_)
    repeat walk_at "nv"
    exact ⟨_, _, _, rfl, rfl, hX h4⟩
def PreIs (C : Addr) : List Dt → (Dt → Prop) → Prop := fun ds R => ∃ ps : List Part, ds = [cutD C ps, .lst (ps.map Part.d)] ∧ (∀ p ∈ ps, p.ok) ∧ ps.length ≤ 100 ∧ R (.bl true)
theorem gf__law_is (T : Tx P K mg ea) (g__law_kept : Gf P w K mg base "_law_kept" 1 ["_law_parts_here", "_law_row"] PreLKept) (g_Cutter_parts : Gm P w K mg base 1 ea.f_Cutter_parts (PreSelf ea.C_Cutter fun ps => .tup (ps.map Part.d)))
    (g_Cutter___len__ : Gm P w K mg base 1 ea.f_Cutter___len__ (PreSelf ea.C_Cutter fun ps => .int ps.length)) (g_Cutter_places : Gm P w K mg base 3 ea.f_Cutter_places (PreKept ea.C_Cutter)) (g_Cutter___call__ : Gm P w K mg base 3 ea.f_Cutter___call__ (PreCutRow ea.C_Cutter)) :
    Gf P w K mg base "_law_is" 4 ["_law_made", "_law_parts_here"] (PreIs ea.C_Cutter) := by
  refine gf_of T.D__law_is sc__law_is (fun ds R ⟨ps, h, _⟩ => by rw [h]; rfl) fun f cdv A outer s H E hr => ⟨_, (pss_cons (ps_if (PW.pt (pw_or (pt_cmpR (opNe (K := K) rfl hr.units) (pe_propR (pv 0) T.k_Cutter.cls T.m_Cutter_parts g_Cutter_parts (hr.mono (by decide))) (pe_callTy (callTuple (K := K) rfl) (by rfl) T.m_tuple (by decide +kernel) (pa_cons (pv 1) pa_nil)) (nomark _)) (pw_or1 (pt_cmpR (opNe (K := K) rfl hr.units) (pe_callB (callLenO (K := K) rfl T.m_Cutter___len__.at_ T.m_Cutter___len__.fn g_Cutter___len__ (hr.mono (by decide))) (by rfl) T.m_len (by decide +kernel) (pa_cons (pv 0) pa_nil)) (pe_callB (callLen (K := K) rfl) (by rfl) T.m_len (by decide +kernel) (pa_cons (pv 1) pa_nil)) (nomark _))))) (pss_one (ps_ret pe_bl)) pss_nil) (pss_cons (ps_for PassesOwn.never rfl (pi_range1 rfl T.m_range (pa_cons pe_int pa_nil)) (pg_name (i := 2) sc__law_is.nd rfl (by first | exact Or.inl rfl | exact Or.inr rfl)) (pss_cons (ps_set (i := 3) sc__law_is.nd rfl (by first | exact Or.inl rfl | exact Or.inr rfl) (pe_callTy (callTuple (K := K) rfl) (by rfl) T.m_tuple (by decide +kernel) (pa_cons (pe_lc (own := [("_law_place", 4)]) (g := gName 4) rfl sc__law_is.nd (pi_range1 rfl T.m_range (pa_cons (pv 2) pa_nil)) (blkOk_by (own := [("_law_place", 4)]) (N := ["_law_made", "_law_parts_here", "_law_many", "_law_row", "_law_place"]) (sc := defScope s__law_is) (by decide +kernel)) (fun _ _ _ _ _ => (pg_name (i := 4) sc__law_is.nd rfl (by first | exact Or.inl rfl | exact Or.inr rfl))) (fun _ _ _ _ _ => pts_nil) (fun _ _ _ _ _ => (pe_tup (pa_cons pe_str (pa_cons (pv 4) pa_nil))))) pa_nil))) (pss_one (ps_if (PW.pt (pw_or (pt_cmpR (opNe (K := K) rfl hr.units) (StX.pe_callO (pv 0) T.call_Cutter g_Cutter___call__ (hr.mono (by decide)) pass0 (pa_cons (pv 3) pa_nil)) (pe_gf g__law_kept ⟨rfl, rfl, rfl, rfl, rfl⟩ (hr.mono (by decide)) rfl (pa_cons (pv 1) (pa_cons (pv 3) pa_nil))) (nomark _)) (pw_or1 (pt_cmpR (opNe (K := K) rfl hr.units) (pe_methR (pv 0) T.k_Cutter.cls T.m_Cutter_places g_Cutter_places (hr.mono (by decide)) pass0 (pa_cons (pv 2) pa_nil)) (pe_gf g__law_kept ⟨rfl, rfl, rfl, rfl, rfl⟩ (hr.mono (by decide)) rfl (pa_cons (pv 1) (pa_cons (pe_listRg rfl (by rfl) T.m_list (prg_1 (by rfl) T.m_range (pv 2))) pa_nil))) (nomark _))))) (pss_one (ps_ret pe_bl)) pss_nil)))) (pss_one (ps_ret pe_bl)))), fun ds R ⟨ps, h, hp, hl, hR⟩ => ?_⟩
  subst h
  repeat walk_at "nv"
  refine ⟨ps, rfl, ?_⟩
  repeat walk_at "nv"
  refine rd_ne_refl (toPy_partsT ps) (sh_parts hp) ?_
  repeat walk_at "nv"
  refine ifF rfl ?_
  repeat walk_at "nv"
  refine cd_lenO ⟨ps, rfl, _, rfl, by omega, by omega, ?_⟩
  repeat walk_at "nv"
  rw [List.length_map]
  refine ifF (by simp) ?_
  repeat walk_at "nv"
  refine sd_for ?_
  refine ei_rng1 ?_
  repeat walk_at "nv"
  refine ⟨by decide, fun i s1 => ∃ a b c : Sd, s1 = [.dt (cutD ea.C_Cutter ps), .dt (.lst (ps.map Part.d)), a, b, c], ⟨_, _, _, rfl⟩, fun i x s1 hx ⟨a, b, c, hs⟩ => ?_, fun s1 ⟨a, b, c, hs⟩ => ?_⟩
  · obtain ⟨hi, rfl⟩ := range_at hx
    have hi : i < 10 := hi
    subst hs
    repeat walk_at "nv"
    refine ed_lc_map (fun d => gd_name) ?_
    refine ei_rng1 ?_
    repeat walk_at "nv"
    refine ⟨⟨by omega, by omega⟩, by simp [rangeD]; omega, fun d => vD (atN d), fun x hx => ?_, ?_⟩
    · rw [Int.toNat_natCast] at hx
      obtain ⟨p, hp', rfl⟩ := nat_of hx
      repeat walk_at "nv"
      rfl
    have e : (rangeD 0 (i : Int).toNat).map (fun d => vD (atN d)) = (List.range i).map vD := by
      rw [Int.toNat_natCast, rangeD_nats]
      simp only [natsD, List.map_map]
      refine List.map_congr_left fun k _ => ?_
      show vD (k : Int).toNat = _
      rw [Int.toNat_natCast]
    rw [e]
    repeat walk_at "nv"
    refine ed_callO ?_
    repeat walk_at "nv"
    refine ⟨ps, _, rfl, hp, by simp; omega, ?_⟩
    rw [kept_map]
    repeat walk_at "nv"
    refine ⟨ps, _, _, rfl, .inr rfl, hp, by simp; omega, ?_⟩
    rw [kept_map]
    refine rd_ne_vs _ ?_
    repeat walk_at "nv"
    refine ifF rfl ?_
    repeat walk_at "nv"
    refine ⟨rfl, ?_⟩
    repeat walk_at "nv"
    refine ⟨ps, i, rfl, hp, by omega, ?_⟩
    repeat walk_at "nv"
    refine ⟨Int.natCast_nonneg _, by omega, ?_⟩
    repeat walk_at "nv"
    refine ⟨ps, _, _, rfl, .inl rfl, hp, by simp [rangeD]; omega, ?_⟩
    rw [Int.toNat_natCast, kept_range]
    refine rd_ne_nats ?_
    repeat walk_at "nv"
    refine ifF (by simp) ?_
    repeat walk_at "nv"
    exact ⟨_, _, _, rfl⟩
  · subst hs
    repeat walk_at "nv"
    exact hR
end
end Nv

set_option Elab.async false
set_option linter.all false
set_option maxRecDepth 100000
set_option maxHeartbeats 4000000
namespace Nv
open PySem PySem.Spec PyProof.Rows L2
open SX (S)
local macro_rules | `(tactic| walk_at "nv1") => `(tactic| first
  | ((with_reducible apply ed_var); exact rfl)
  | (with_reducible refine sd_seq ?_)
  | (with_reducible refine sd_ret ?_)
  | (with_reducible refine sd_if ?_)
  | (with_reducible refine sd_asg ?_)
  | (with_reducible refine sd_next ?_)
  | (with_reducible refine sd_unl ?_)
  | (with_reducible refine ed_makeR ?_)
  | (with_reducible refine ed_methR ?_)
  | (with_reducible refine ed_propR ?_)
  | (with_reducible refine ed_cmeth ?_)
  | (with_reducible refine ed_fld ?_)
  | (with_reducible refine ed_lstRg ?_)
  | (with_reducible refine ed_tupRg ?_)
  | (with_reducible refine ea_star ?_)
  | (with_reducible refine ed_op ?_)
  | (with_reducible refine ed_and ?_)
  | (with_reducible refine ed_or ?_)
  | (with_reducible refine ed_not ?_)
  | (with_reducible refine ed_if ?_)
  | (with_reducible refine ed_cb ?_)
  | (with_reducible refine ed_call ?_)
  | (with_reducible refine ed_lst ?_)
  | (with_reducible refine ed_tup ?_)
  | (with_reducible refine ed_un ?_)
  | (with_reducible refine ed_sl ?_)
  | (with_reducible refine ea_cons ?_)
  | (with_reducible refine ea_nil ?_)
  | (with_reducible refine eo_none ?_)
  | (with_reducible refine eo_some ?_)
  | (with_reducible refine et_test ?_)
  | (with_reducible refine et_B ?_)
  | (with_reducible refine et_and ?_)
  | (with_reducible refine et_or ?_)
  | (with_reducible refine et_not ?_)
  | (with_reducible refine et_yes ?_)
  | (with_reducible refine ed_int ?_)
  | (with_reducible refine ed_str ?_)
  | (with_reducible refine ed_bl ?_)
  | (with_reducible refine ed_non ?_)
  | (with_reducible refine ed_ty ?_)
  | (with_reducible refine ed_obj ?_))
local macro_rules | `(tactic| walk_at "nv2") => `(tactic| first
  | (with_reducible refine rd_add_i ?_)
  | (with_reducible refine rd_I0i ?_)
  | (with_reducible refine rd_I0b ?_)
  | (with_reducible refine rd_eq_i ?_)
  | (with_reducible refine rd_ne_i ?_)
  | (with_reducible refine rd_eq_s ?_)
  | (with_reducible refine rd_ne_s ?_)
  | (with_reducible refine rd_notB ?_)
  | (with_reducible refine cd_tup_l ?_)
  | (with_reducible refine cd_tup_t ?_)
  | (with_reducible refine cd_lst_l ?_)
  | (with_reducible refine cd_lst_t ?_)
  | (with_reducible refine rd_in_l ?_)
  | (with_reducible refine rd_in_t ?_)
  | (with_reducible refine rd_ni_t ?_)
  | (with_reducible refine rd_eq_b ?_)
  | (with_reducible refine rd_ne_b ?_)
  | (with_reducible refine rd_isB ?_)
  | (with_reducible refine rd_isN ?_)
  | (with_reducible refine rd_notN ?_)
  | (with_reducible refine rd_in_sign ?_)
  | (with_reducible refine cd_len_l ?_)
  | (with_reducible refine cd_len_sq ?_)
  | (with_reducible refine cd_len_t ?_)
  | (with_reducible refine cd_int_i ?_)
  | (with_reducible refine cd_int_b ?_)
  | (with_reducible refine cd_abs ?_)
  | (with_reducible refine cd_max ?_)
  | (with_reducible refine cd_min ?_)
  | (with_reducible refine cd_str_s ?_)
  | (with_reducible refine cd_repr_b ?_)
  | (with_reducible refine ud_neg ?_)
  | ((with_reducible refine And.intro ?_ ?_); exact Nat.le_of_ble_eq_true rfl) | (with_reducible refine ed_dnew ?_) | (with_reducible refine ed_disp1 ?_) | ((with_reducible refine rd_mul_l ?_ ?_ ?_ ?_); decide; decide; exact Nat.le_of_ble_eq_true rfl) | ((with_reducible refine rd_add_l ?_ ?_); exact Nat.le_of_ble_eq_true rfl)
  | (with_reducible refine ⟨_, rfl, ?_⟩) | (with_reducible refine ⟨_, Or.inl rfl, ?_⟩))
local macro_rules | `(tactic| walk_at "nv") => `(tactic| first | walk_at "nv1" | walk_at "nv2")
local macro_rules | `(tactic| walk_at "cx") => `(tactic| dsimp only [cxOf, Cx.nox, Cx.wish, Cx.blk, List.length_cons, List.length_nil])
section
variable {P : Program} {w : World} {K : PySem.W.Frag} {mg : Str → Option Value} {base : Heap} {ea : EA}
def PrePair (C : Addr) : List Dt → (Dt → Prop) → Prop := fun ds R => ∃ ps qs : List Part, ds = [.lst (ps.map Part.d), .lst (qs.map Part.d), cutD C ps, cutD C qs] ∧ Oks ps ∧ Oks qs ∧ R (.bl true)
theorem gg__law_pair_right (T : Tx P K mg ea) (g__law_joined : Gf P w K mg base "_law_joined" 7 ["_law_one", "_law_other"] (PreJoined ea.C_Cutter)) (g__law_is : Gf P w K mg base "_law_is" 4 ["_law_made", "_law_parts_here"] (PreIs ea.C_Cutter))
    (g_Cutter_is_within : Gm P w K mg base 2 ea.f_Cutter_is_within (PreTwo ea.C_Cutter fun ps qs R => R (.bl (withinB (chain ps) (chain qs))))) (g_Cutter___call__ : Gm P w K mg base 3 ea.f_Cutter___call__ (PreCutRow ea.C_Cutter))
    (g_Cutter_keeps_all : Gm P w K mg base 1 ea.f_Cutter_keeps_all (PreSelf ea.C_Cutter fun ps => .bl (ps.all Part.isAll))) : Gg P w K mg base "_law_pair_right" 8 ["_law_one", "_law_other", "_law_first", "_law_last"] (PrePair ea.C_Cutter) := by
  refine gg_of T.D__law_pair_right sc__law_pair_right (fun ds R ⟨ps, qs, h, _⟩ => by rw [h]; rfl) fun f cdv A outer s H E hA hr => ⟨_, (pss_cons (ps_set (i := 4) sc__law_pair_right.nd rfl (by first | exact Or.inl rfl | exact Or.inr rfl) (pe_gf g__law_joined ⟨rfl, rfl, rfl, rfl, rfl⟩ (hr.mono (by decide)) rfl (pa_cons (pv 2) (pa_cons (pv 3) pa_nil)))) (pss_cons (ps_if (pt_cmpR op_gt (pe_op (opAdd (K := K) rfl) (pe_callB (callLen (K := K) rfl) (by rfl) T.m_len (by decide +kernel) (pa_cons (pv 0) pa_nil)) (pe_callB (callLen (K := K) rfl) (by rfl) T.m_len (by decide +kernel) (pa_cons (pv 1) pa_nil))) pe_int (nomark _)) (pss_one (ps_ret (pe_and (pe_cmpR (opEq (K := K) rfl hr.units) (pv 4) pe_int (nomark _)) (pe_and (pe_gf g__law_is ⟨rfl, rfl, rfl, rfl, rfl⟩ (hr.mono (by decide)) rfl (pa_cons (pv 2) (pa_cons (pv 0) pa_nil))) (pe_one (pe_gf g__law_is ⟨rfl, rfl, rfl, rfl, rfl⟩ (hr.mono (by decide)) rfl (pa_cons (pv 3) (pa_cons (pv 1) pa_nil)))))))) pss_nil) (pss_cons (ps_if (PW.pt (pw_or (pt_not (pt_val (pe_callB (callIsi (K := K) rfl) (by rfl) T.m_isinstance (by decide +kernel) (pa_cons (pv 4) (pa_cons (pe_cl rfl T.k_Cutter.m) pa_nil))))) (pw_or (pt_not (pt_val (pe_gf g__law_is ⟨rfl, rfl, rfl, rfl, rfl⟩ (hr.mono (by decide)) rfl (pa_cons (pv 4) (pa_cons (pe_op (opAdd (K := K) rfl) (pv 0) (pv 1)) pa_nil))))) (pw_or1 (pt_cmpR opIsNot (pe_methR (pv 4) T.k_Cutter.cls T.m_Cutter_is_within g_Cutter_is_within (hr.mono (by decide)) pass0 (pa_cons (pv 2) pa_nil)) pe_bl (nomark _)))))) (pss_one (ps_ret pe_bl)) pss_nil) (pss_cons (ps_for PassesOwn.never rfl (piTup (K := K) rfl (pe_tup (pa_cons pe_int (pa_cons pe_int (pa_cons pe_int (pa_cons pe_int (pa_cons pe_int pa_nil))))))) (pg_name (i := 5) sc__law_pair_right.nd rfl (by first | exact Or.inl rfl | exact Or.inr rfl)) (pss_cons (ps_set (i := 7) sc__law_pair_right.nd rfl (by first | exact Or.inl rfl | exact Or.inr rfl) (pe_tupRg rfl (by rfl) T.m_tuple (prg_1 (by rfl) T.m_range (pv 5)))) (pss_one (ps_if (pt_cmpR (opNe (K := K) rfl hr.units) (StX.pe_callO (pv 4) T.call_Cutter g_Cutter___call__ (hr.mono (by decide)) pass0 (pa_cons (pv 7) pa_nil)) (StX.pe_callO (pv 3) T.call_Cutter g_Cutter___call__ (hr.mono (by decide)) pass0 (pa_cons (StX.pe_callO (pv 2) T.call_Cutter g_Cutter___call__ (hr.mono (by decide)) pass0 (pa_cons (pv 7) pa_nil)) pa_nil)) (nomark _)) (pss_one (ps_ret pe_bl)) pss_nil)))) (pss_cons (ps_set (i := 6) sc__law_pair_right.nd rfl (by first | exact Or.inl rfl | exact Or.inr rfl) (pe_cmpR (opEq (K := K) rfl hr.units) (pe_lc (own := [("_law_part_here", 8)]) (g := gName 8) rfl sc__law_pair_right.nd (piList (K := K) rfl (pe_op (opAdd (K := K) rfl) (pv 0) (pv 1))) (blkOk_by (own := [("_law_part_here", 8)]) (N := ["_law_one", "_law_other", "_law_first", "_law_last", "_law_found", "_law_many", "_law_is_whole", "_law_row", "_law_part_here"]) (sc := defScope s__law_pair_right) (by decide +kernel)) (fun _ _ _ _ _ => (pg_name (i := 8) sc__law_pair_right.nd rfl (by first | exact Or.inl rfl | exact Or.inr rfl))) (fun _ _ _ _ _ => pts_one (pt_cmpR (opNe (K := K) rfl hr.units) (pv 8) pe_str (nomark _))) (fun _ _ _ _ _ => (pv 8))) (pe_lst pa_nil) (nomark _))) (pss_one (ps_ret (pe_cmpR (opEq (K := K) rfl hr.units) (pe_callB (callReprQ (K := K) rfl hA hr.units) (by rfl) T.m_repr (by decide +kernel) (pa_cons (pe_propR (pv 4) T.k_Cutter.cls T.m_Cutter_keeps_all g_Cutter_keeps_all (hr.mono (by decide))) pa_nil)) (pe_callB (callReprQ (K := K) rfl hA hr.units) (by rfl) T.m_repr (by decide +kernel) (pa_cons (pv 6) pa_nil)) (nomark _))))))))), fun ds R ⟨ps, qs, h, hp, hq, hR⟩ => ?_⟩
  subst h
  have h1 := hp.2
  have h2 := hq.2

  repeat walk_at "nv"
  refine ⟨ps, qs, rfl, hp.1, hq.1, by omega, fun h => ?_, fun h => ?_⟩
  · repeat walk_at "nv"
    rw [List.length_map, List.length_map]
    refine ifF (decide_eq_false (by omega)) ?_
    repeat walk_at "nv"
    refine cd_isO rfl T.k_Cutter.ci kit_self ?_
    repeat walk_at "nv"
    refine ifF rfl ?_
    repeat walk_at "nv"
    refine rd_add_l (by simp; omega) ?_
    rw [← List.map_append]
    repeat walk_at "nv"
    refine ⟨ps ++ qs, rfl, oks_app hp.1 hq.1, by simp; omega, ?_⟩
    repeat walk_at "nv"
    refine ifF rfl ?_
    repeat walk_at "nv"
    refine ⟨rfl, ?_⟩
    repeat walk_at "nv"
    have hw : ∀ R' : Dt → Prop, R' (.bl true) → R' (.bl (withinB (chain (ps ++ qs)) (chain ps))) := fun R' h => by rw [within_app]; exact h
    refine ⟨ps ++ qs, ps, rfl, ⟨oks_app hp.1 hq.1, by simp; omega⟩, hp, hw _ ?_⟩
    repeat walk_at "nv"
    refine ifF (by decide) ?_
    repeat walk_at "nv"
    refine sd_for ?_
    refine ei_tup ?_
    repeat walk_at "nv"
    refine ⟨fun i s1 => ∃ a b c : Sd, s1 = [.dt (.lst (ps.map Part.d)), .dt (.lst (qs.map Part.d)), .dt (cutD ea.C_Cutter ps), .dt (cutD ea.C_Cutter qs), .dt (cutD ea.C_Cutter (ps ++ qs)), a, .no, b, c], ⟨_, _, _, rfl⟩, fun i x s1 hx ⟨a, b, c, hs⟩ => ?_, fun s1 ⟨a, b, c, hs⟩ => ?_⟩
    · obtain ⟨n, rfl, hn⟩ : ∃ n : Nat, x = .int n ∧ n ≤ 9 := by
        have hm := List.mem_of_getElem? hx
        revert hm
        revert x
        intro x _
        simp only [List.mem_cons, List.not_mem_nil, or_false]
        rintro (rfl | rfl | rfl | rfl | rfl)
        · exact ⟨0, rfl, by decide⟩
        · exact ⟨3, rfl, by decide⟩
        · exact ⟨5, rfl, by decide⟩
        · exact ⟨6, rfl, by decide⟩
        · exact ⟨9, rfl, by decide⟩
      subst hs
      repeat walk_at "nv"
      refine ⟨Int.natCast_nonneg _, by omega, ?_⟩
      rw [Int.toNat_natCast, rangeD_nats]
      repeat walk_at "nv"
      refine ed_callO ?_
      repeat walk_at "nv"
      refine ⟨ps ++ qs, _, rfl, oks_app hp.1 hq.1, by simp [natsD]; omega, ?_⟩
      rw [kept_app, kept_nats, kept_nats]
      refine ed_callO ?_
      repeat walk_at "nv"
      refine ed_callO ?_
      repeat walk_at "nv"
      refine ⟨ps, _, rfl, hp.1, by simp [natsD]; omega, ?_⟩
      rw [kept_nats]
      have hk := chain_len ps n
      repeat walk_at "nv"
      refine ⟨qs, _, rfl, hq.1, by show (natsD (chain ps n)).length ≤ 1000; simp only [natsD, List.length_map]; omega, ?_⟩
      rw [kept_nats]
      refine rd_ne_nats ?_
      repeat walk_at "nv"
      refine ifF (by simp) ?_
      repeat walk_at "nv"
      exact ⟨_, _, _, rfl⟩
    · subst hs
      repeat walk_at "nv"
      refine ed_lc_filter (fun d => gd_name) ?_
      refine ei_list ?_
      repeat walk_at "nv"
      refine rd_add_l (by simp; omega) ?_
      rw [← List.map_append]
      have hok := oks_app hp.1 hq.1
      refine ⟨_, Or.inl rfl, by simp; omega, noAll, id, fun x hx => ?_, fun x hx _ => ?_, ?_⟩
      · obtain ⟨p, hp', rfl⟩ := List.mem_map.mp hx
        repeat walk_at "nv"
        rfl
      · repeat walk_at "nv"
        rfl
      rw [filt_parts hok]
      repeat walk_at "nv"
      refine rd_parts_nil (fun p hp' => hok p (List.mem_filter.mp hp').1) ?_
      rw [whole_is]
      repeat walk_at "nv"
      refine ⟨ps ++ qs, rfl, ?_⟩
      repeat walk_at "nv"
      have k : ∀ (b : Bool) (R' : Dt → Prop), R' (.str (PyData.bool b).shown) → CD K (rReprQ K) [.bl b] R' := fun b R' h => cd_reprQ (p := .bool b) rfl rfl (by show 0 ≤ 60; decide) (by show 5 ≤ 1000000; decide) h
      refine k _ _ ?_
      repeat walk_at "nv"
      refine k _ _ ?_
      repeat walk_at "nv"
      rw [decide_eq_true rfl]
      exact hR
  · repeat walk_at "nv"
    rw [List.length_map, List.length_map]
    refine ifT (decide_eq_true (by omega)) ?_
    repeat walk_at "nv"
    refine ifT rfl ?_
    repeat walk_at "nv"
    refine ⟨ps, rfl, hp.1, by omega, _, rfl, ifT rfl ?_⟩
    repeat walk_at "nv"
    exact ⟨qs, rfl, hq.1, by omega, hR⟩
end
end Nv

set_option Elab.async false
set_option linter.all false
set_option maxRecDepth 100000
set_option maxHeartbeats 4000000
namespace Nv
open PySem PySem.Spec PyProof.Rows L2
open SX (S)
local macro_rules | `(tactic| walk_at "nv1") => `(tactic| first
  | ((with_reducible apply ed_var); exact rfl)
  | (with_reducible refine sd_seq ?_)
  | (with_reducible refine sd_ret ?_)
  | (with_reducible refine sd_if ?_)
  | (with_reducible refine sd_asg ?_)
  | (with_reducible refine sd_next ?_)
  | (with_reducible refine sd_unl ?_)
  | (with_reducible refine ed_makeR ?_)
  | (with_reducible refine ed_methR ?_)
  | (with_reducible refine ed_propR ?_)
  | (with_reducible refine ed_cmeth ?_)
  | (with_reducible refine ed_fld ?_)
  | (with_reducible refine ed_lstRg ?_)
  | (with_reducible refine ed_tupRg ?_)
  | (with_reducible refine ea_star ?_)
  | (with_reducible refine ed_op ?_)
  | (with_reducible refine ed_and ?_)
  | (with_reducible refine ed_or ?_)
  | (with_reducible refine ed_not ?_)
  | (with_reducible refine ed_if ?_)
  | (with_reducible refine ed_cb ?_)
  | (with_reducible refine ed_call ?_)
  | (with_reducible refine ed_lst ?_)
  | (with_reducible refine ed_tup ?_)
  | (with_reducible refine ed_un ?_)
  | (with_reducible refine ed_sl ?_)
  | (with_reducible refine ea_cons ?_)
  | (with_reducible refine ea_nil ?_)
  | (with_reducible refine eo_none ?_)
  | (with_reducible refine eo_some ?_)
  | (with_reducible refine et_test ?_)
  | (with_reducible refine et_B ?_)
  | (with_reducible refine et_and ?_)
  | (with_reducible refine et_or ?_)
  | (with_reducible refine et_not ?_)
  | (with_reducible refine et_yes ?_)
  | (with_reducible refine ed_int ?_)
  | (with_reducible refine ed_str ?_)
  | (with_reducible refine ed_bl ?_)
  | (with_reducible refine ed_non ?_)
  | (with_reducible refine ed_ty ?_)
  | (with_reducible refine ed_obj ?_))
local macro_rules | `(tactic| walk_at "nv2") => `(tactic| first
  | (with_reducible refine rd_add_i ?_)
  | (with_reducible refine rd_I0i ?_)
  | (with_reducible refine rd_I0b ?_)
  | (with_reducible refine rd_eq_i ?_)
  | (with_reducible refine rd_ne_i ?_)
  | (with_reducible refine rd_eq_s ?_)
  | (with_reducible refine rd_ne_s ?_)
  | (with_reducible refine rd_notB ?_)
  | (with_reducible refine cd_tup_l ?_)
  | (with_reducible refine cd_tup_t ?_)
  | (with_reducible refine cd_lst_l ?_)
  | (with_reducible refine cd_lst_t ?_)
  | (with_reducible refine rd_in_l ?_)
  | (with_reducible refine rd_in_t ?_)
  | (with_reducible refine rd_ni_t ?_)
  | (with_reducible refine rd_eq_b ?_)
  | (with_reducible refine rd_ne_b ?_)
  | (with_reducible refine rd_isB ?_)
  | (with_reducible refine rd_isN ?_)
  | (with_reducible refine rd_notN ?_)
  | (with_reducible refine rd_in_sign ?_)
  | (with_reducible refine cd_len_l ?_)
  | (with_reducible refine cd_len_sq ?_)
  | (with_reducible refine cd_len_t ?_)
  | (with_reducible refine cd_int_i ?_)
  | (with_reducible refine cd_int_b ?_)
  | (with_reducible refine cd_abs ?_)
  | (with_reducible refine cd_max ?_)
  | (with_reducible refine cd_min ?_)
  | (with_reducible refine cd_str_s ?_)
  | (with_reducible refine cd_repr_b ?_)
  | (with_reducible refine ud_neg ?_)
  | ((with_reducible refine And.intro ?_ ?_); exact Nat.le_of_ble_eq_true rfl) | (with_reducible refine ed_dnew ?_) | (with_reducible refine ed_disp1 ?_) | ((with_reducible refine rd_mul_l ?_ ?_ ?_ ?_); decide; decide; exact Nat.le_of_ble_eq_true rfl) | ((with_reducible refine rd_add_l ?_ ?_); exact Nat.le_of_ble_eq_true rfl)
  | (with_reducible refine ⟨_, rfl, ?_⟩) | (with_reducible refine ⟨_, Or.inl rfl, ?_⟩))
local macro_rules | `(tactic| walk_at "nv") => `(tactic| first | walk_at "nv1" | walk_at "nv2")
local macro_rules | `(tactic| walk_at "cx") => `(tactic| dsimp only [cxOf, Cx.nox, Cx.wish, Cx.blk, List.length_cons, List.length_nil])
abbrev lstD (ps : List Part) : Dt := .lst (ps.map Part.d)
theorem same_self (ps : List Part) : sameB ps ps = true := by
  unfold sameB
  rw [decide_eq_true rfl, decide_eq_true rfl]; rfl
theorem lt3 {i : Nat} (h : i < 3) : i = 0 ∨ i = 1 ∨ i = 2 := by omega
section
variable {P : Program} {w : World} {K : PySem.W.Frag} {mg : Str → Option Value} {base : Heap} {ea : EA}
def PreRight : List Dt → (Dt → Prop) → Prop := fun ds R => ds = [dice] ∧ R (.bl true)
theorem gg__law_right (T : Tx P K mg ea) (g__law_parts : Gf P w K mg base "_law_parts" 5 ["_law_dice_here", "_law_much"] PreLParts) (g_Cutter_of : Gm P w K mg base 5 ea.f_Cutter_of (PreOf ea.C_Cutter)) (g_Cutter_parts : Gm P w K mg base 1 ea.f_Cutter_parts (PreSelf ea.C_Cutter fun ps => .tup (ps.map Part.d)))
    (g_Cutter___init__ : FnR P w K mg base CX0 3 ea.f_Cutter___init__ (spI K ea.C_Cutter fun ds R => ds.length ≤ 1000000 ∧ PreInit ea.C_Known ds R)) (g_Cutter___rshift__ : Gmx P w K mg base 6 ea.f_Cutter___rshift__ (PreShift ea.C_Cutter ea.C_TooMany)) (g_Cutter___eq__ : Gm P w K mg base 1 ea.f_Cutter___eq__ (PreEq (K := K) ea.C_Cutter))
    (g__law_is : Gf P w K mg base "_law_is" 4 ["_law_made", "_law_parts_here"] (PreIs ea.C_Cutter)) (g__law_pair_right : Gg P w K mg base "_law_pair_right" 8 ["_law_one", "_law_other", "_law_first", "_law_last"] (PrePair ea.C_Cutter)) : Gg P w K mg base "_law_right" 9 ["_law_dice_here"] PreRight := by
  refine gg_of T.D__law_right sc__law_right (fun ds R ⟨h, _⟩ => by rw [h]; rfl) fun f cdv A outer s H E hA hr => ⟨_, (pss_cons (ps_set (i := 1) sc__law_right.nd rfl (by first | exact Or.inl rfl | exact Or.inr rfl) (pe_lc (own := [("_law_turn", 7)]) (g := gName 7) rfl sc__law_right.nd (pi_range1 rfl T.m_range (pa_cons pe_int pa_nil)) (blkOk_by (own := [("_law_turn", 7)]) (N := ["_law_dice_here", "_law_plain", "_law_made", "_law_at", "_law_empty", "_law_spot", "_law_ways", "_law_turn", "_law_parts_here"]) (sc := defScope s__law_right) (by decide +kernel)) (fun _ _ _ _ _ => (pg_name (i := 7) sc__law_right.nd rfl (by first | exact Or.inl rfl | exact Or.inr rfl))) (fun _ _ _ _ _ => pts_nil) (fun _ _ _ _ _ => (pe_gf g__law_parts ⟨rfl, rfl, rfl, rfl, rfl⟩ (hr.mono (by decide)) rfl (pa_cons (pv 0) (pa_cons pe_int pa_nil)))))) (pss_cons (ps_set (i := 2) sc__law_right.nd rfl (by first | exact Or.inl rfl | exact Or.inr rfl) (pe_lc (own := [("_law_parts_here", 8)]) (g := gName 8) rfl sc__law_right.nd (piList (K := K) rfl (pv 1)) (blkOk_by (own := [("_law_parts_here", 8)]) (N := ["_law_dice_here", "_law_plain", "_law_made", "_law_at", "_law_empty", "_law_spot", "_law_ways", "_law_turn", "_law_parts_here"]) (sc := defScope s__law_right) (by decide +kernel)) (fun _ _ _ _ _ => (pg_name (i := 8) sc__law_right.nd rfl (by first | exact Or.inl rfl | exact Or.inr rfl))) (fun _ _ _ _ _ => pts_nil) (fun _ _ _ _ _ => (ClX.pe_cmeth (pe_cl rfl T.k_Cutter.m) T.k_Cutter.cr T.m_Cutter_of g_Cutter_of (hr.mono (by decide)) pass0 (pa_cons (pe_callTy (callTuple (K := K) rfl) (by rfl) T.m_tuple (by decide +kernel) (pa_cons (pv 8) pa_nil)) pa_nil))))) (pss_cons (ps_for PassesOwn.never rfl (pi_range1 rfl T.m_range (pa_cons pe_int pa_nil)) (pg_name (i := 3) sc__law_right.nd rfl (by first | exact Or.inl rfl | exact Or.inr rfl)) (pss_one (ps_for PassesOwn.never rfl (pi_range1 rfl T.m_range (pa_cons pe_int pa_nil)) (pg_name (i := 5) sc__law_right.nd rfl (by first | exact Or.inl rfl | exact Or.inr rfl)) (pss_one (ps_if (pt_not (pt_val (pe_gg g__law_pair_right ⟨rfl, rfl, rfl, rfl, rfl⟩ hA (hr.mono (by decide)) rfl (pa_cons (pe_ix (ixA (K := K) rfl) (pv 1) (pv 3) (fun _ _ => rfl)) (pa_cons (pe_ix (ixA (K := K) rfl) (pv 1) (pv 5) (fun _ _ => rfl)) (pa_cons (pe_ix (ixA (K := K) rfl) (pv 2) (pv 3) (fun _ _ => rfl)) (pa_cons (pe_ix (ixA (K := K) rfl) (pv 2) (pv 5) (fun _ _ => rfl)) pa_nil))))))) (pss_one (ps_ret pe_bl)) pss_nil))))) (pss_cons (ps_set (i := 4) sc__law_right.nd rfl (by first | exact Or.inl rfl | exact Or.inr rfl) (pe_makeR0 T.mak_Cutter g_Cutter___init__ (hr.mono (by decide)) (by rfl) T.k_Cutter.m pass0)) (pss_cons (ps_for PassesOwn.never rfl (pi_range1 rfl T.m_range (pa_cons pe_int pa_nil)) (pg_name (i := 3) sc__law_right.nd rfl (by first | exact Or.inl rfl | exact Or.inr rfl)) (pss_one (ps_if (PW.pt (pw_or (pt_cmpR (opNe (K := K) rfl hr.units) (pe_propR (pe_op (opOwn0 (K := K) rfl rfl T.mro_Cutter.choose_spec.1 T.mro_Cutter.choose_spec.2 T.m_Cutter___rshift__.at_ T.m_Cutter___rshift__.fn g_Cutter___rshift__ (hr.mono (by decide))) (pe_ix (ixA (K := K) rfl) (pv 2) (pv 3) (fun _ _ => rfl)) (pv 4)) T.k_Cutter.cls T.m_Cutter_parts g_Cutter_parts (hr.mono (by decide))) (pe_propR (pe_ix (ixA (K := K) rfl) (pv 2) (pv 3) (fun _ _ => rfl)) T.k_Cutter.cls T.m_Cutter_parts g_Cutter_parts (hr.mono (by decide))) (nomark _)) (pw_or1 (pt_cmpR (opNeO (K := K) rfl T.m_Cutter___eq__.at_ T.m_Cutter___eq__.fn T.k_Cutter.q_ne T.k_Cutter.q_ob g_Cutter___eq__ (hr.mono (by decide))) (pe_op (opOwn0 (K := K) rfl rfl T.mro_Cutter.choose_spec.1 T.mro_Cutter.choose_spec.2 T.m_Cutter___rshift__.at_ T.m_Cutter___rshift__.fn g_Cutter___rshift__ (hr.mono (by decide))) (pv 4) (pe_ix (ixA (K := K) rfl) (pv 2) (pv 3) (fun _ _ => rfl))) (pe_ix (ixA (K := K) rfl) (pv 2) (pv 3) (fun _ _ => rfl)) (nomark _))))) (pss_one (ps_ret pe_bl)) pss_nil))) (pss_cons (ps_if (pt_cmpR op_lt (pe_op (opAdd (K := K) rfl) (pe_op (opAdd (K := K) rfl) (pe_callB (callLen (K := K) rfl) (by rfl) T.m_len (by decide +kernel) (pa_cons (pe_ix (ixA (K := K) rfl) (pv 1) pe_int (fun _ _ => rfl)) pa_nil)) (pe_callB (callLen (K := K) rfl) (by rfl) T.m_len (by decide +kernel) (pa_cons (pe_ix (ixA (K := K) rfl) (pv 1) pe_int (fun _ _ => rfl)) pa_nil))) (pe_callB (callLen (K := K) rfl) (by rfl) T.m_len (by decide +kernel) (pa_cons (pe_ix (ixA (K := K) rfl) (pv 1) pe_int (fun _ _ => rfl)) pa_nil))) pe_int (nomark _)) (pss_cons (ps_set (i := 6) sc__law_right.nd rfl (by first | exact Or.inl rfl | exact Or.inr rfl) (pe_lst (pa_cons (pe_op (opOwn0 (K := K) rfl rfl T.mro_Cutter.choose_spec.1 T.mro_Cutter.choose_spec.2 T.m_Cutter___rshift__.at_ T.m_Cutter___rshift__.fn g_Cutter___rshift__ (hr.mono (by decide))) (pe_op (opOwn0 (K := K) rfl rfl T.mro_Cutter.choose_spec.1 T.mro_Cutter.choose_spec.2 T.m_Cutter___rshift__.at_ T.m_Cutter___rshift__.fn g_Cutter___rshift__ (hr.mono (by decide))) (pe_ix (ixA (K := K) rfl) (pv 2) pe_int (fun _ _ => rfl)) (pe_ix (ixA (K := K) rfl) (pv 2) pe_int (fun _ _ => rfl))) (pe_ix (ixA (K := K) rfl) (pv 2) pe_int (fun _ _ => rfl))) (pa_cons (pe_op (opOwn0 (K := K) rfl rfl T.mro_Cutter.choose_spec.1 T.mro_Cutter.choose_spec.2 T.m_Cutter___rshift__.at_ T.m_Cutter___rshift__.fn g_Cutter___rshift__ (hr.mono (by decide))) (pe_ix (ixA (K := K) rfl) (pv 2) pe_int (fun _ _ => rfl)) (pe_op (opOwn0 (K := K) rfl rfl T.mro_Cutter.choose_spec.1 T.mro_Cutter.choose_spec.2 T.m_Cutter___rshift__.at_ T.m_Cutter___rshift__.fn g_Cutter___rshift__ (hr.mono (by decide))) (pe_ix (ixA (K := K) rfl) (pv 2) pe_int (fun _ _ => rfl)) (pe_ix (ixA (K := K) rfl) (pv 2) pe_int (fun _ _ => rfl)))) pa_nil)))) (pss_one (ps_if (PW.pt (pw_or (pt_cmpR (opNeO (K := K) rfl T.m_Cutter___eq__.at_ T.m_Cutter___eq__.fn T.k_Cutter.q_ne T.k_Cutter.q_ob g_Cutter___eq__ (hr.mono (by decide))) (pe_ix (ixA (K := K) rfl) (pv 6) pe_int (fun _ _ => rfl)) (pe_ix (ixA (K := K) rfl) (pv 6) pe_int (fun _ _ => rfl)) (nomark _)) (pw_or (pt_cmpR (opNe (K := K) rfl hr.units) (pe_propR (pe_ix (ixA (K := K) rfl) (pv 6) pe_int (fun _ _ => rfl)) T.k_Cutter.cls T.m_Cutter_parts g_Cutter_parts (hr.mono (by decide))) (pe_propR (pe_ix (ixA (K := K) rfl) (pv 6) pe_int (fun _ _ => rfl)) T.k_Cutter.cls T.m_Cutter_parts g_Cutter_parts (hr.mono (by decide))) (nomark _)) (pw_or1 (pt_not (pt_val (pe_gf g__law_is ⟨rfl, rfl, rfl, rfl, rfl⟩ (hr.mono (by decide)) rfl (pa_cons (pe_ix (ixA (K := K) rfl) (pv 6) pe_int (fun _ _ => rfl)) (pa_cons (pe_op (opAdd (K := K) rfl) (pe_op (opAdd (K := K) rfl) (pe_ix (ixA (K := K) rfl) (pv 1) pe_int (fun _ _ => rfl)) (pe_ix (ixA (K := K) rfl) (pv 1) pe_int (fun _ _ => rfl))) (pe_ix (ixA (K := K) rfl) (pv 1) pe_int (fun _ _ => rfl))) pa_nil))))))))) (pss_one (ps_ret pe_bl)) pss_nil))) pss_nil) (pss_one (ps_ret (pe_cmpR (opEq (K := K) rfl hr.units) (pe_lc (own := [("_law_at", 3)]) (g := gName 3) rfl sc__law_right.nd (pi_range1 rfl T.m_range (pa_cons pe_int pa_nil)) (blkOk_by (own := [("_law_at", 3)]) (N := ["_law_dice_here", "_law_plain", "_law_made", "_law_at", "_law_empty", "_law_spot", "_law_ways", "_law_turn", "_law_parts_here"]) (sc := defScope s__law_right) (by decide +kernel)) (fun _ _ _ _ _ => (pg_name (i := 3) sc__law_right.nd rfl (by first | exact Or.inl rfl | exact Or.inr rfl))) (fun _ _ _ _ _ => pts_one (pt_not (pt_val (pe_gf g__law_is ⟨rfl, rfl, rfl, rfl, rfl⟩ (hr.mono (by decide)) rfl (pa_cons (pe_ix (ixA (K := K) rfl) (pv 2) (pv 3) (fun _ _ => rfl)) (pa_cons (pe_ix (ixA (K := K) rfl) (pv 1) (pv 3) (fun _ _ => rfl)) pa_nil)))))) (fun _ _ _ _ _ => (pv 3))) (pe_lst pa_nil) (nomark _)))))))))), fun ds R ⟨h, hR⟩ => ?_⟩
  subst h
  repeat walk_at "nv"
  refine ed_lc (fun d => gd_name) ?_
  refine ei_rng1 ?_
  repeat walk_at "nv"
  refine ⟨by decide, fun i acc => ∃ l : List (List Part), acc = l.map lstD ∧ l.length = i ∧ ∀ ps ∈ l, (∀ p ∈ ps, p.ok) ∧ ps.length ≤ 3, ⟨[], rfl, rfl, fun p hp => nomatch hp⟩, by decide, fun i x acc hx ⟨l, h1, h2, h3⟩ => ?_, fun acc ⟨l, h1, h2, h3⟩ => ?_⟩
  · subst h1
    walk_at "nv"
    rw [if_pos rfl]
    repeat walk_at "nv"
    refine ⟨3, rfl, by decide, by decide, fun ps hp hl => ⟨l ++ [ps], by simp, by simp [h2], fun q hq => ?_⟩⟩
    rcases List.mem_append.mp hq with h | h
    · exact h3 q h
    · cases List.mem_singleton.mp h; exact ⟨hp, by omega⟩
  subst h1
  have h2 : l.length = 3 := h2
  match l, h2 with
  | [p0, p1, p2], _ =>
  obtain ⟨o0, l0⟩ := h3 p0 (by simp)
  obtain ⟨o1, l1⟩ := h3 p1 (by simp)
  obtain ⟨o2, l2⟩ := h3 p2 (by simp)
  have ok : ∀ ps ∈ [p0, p1, p2], Oks ps := fun ps h => ⟨(h3 ps h).1, by have := (h3 ps h).2; omega⟩
  repeat walk_at "nv"
  refine ed_lc (fun d => gd_name) ?_
  refine ei_list ?_
  repeat walk_at "nv"
  refine ⟨fun i acc => acc = ([p0, p1, p2].take i).map (cutD ea.C_Cutter), rfl, by show 3 < 1000000; decide, fun i x acc hx ha => ?_, fun acc ha => ?_⟩
  · rw [List.getElem?_map] at hx
    obtain ⟨ps, hp', rfl⟩ := Option.map_eq_some_iff.mp hx
    subst ha
    walk_at "nv"
    rw [if_pos rfl]
    repeat walk_at "nv"
    refine ⟨rfl, ?_⟩
    repeat walk_at "nv"
    refine ⟨ps, rfl, ok ps (List.mem_of_getElem? hp'), ?_⟩
    show _ = List.map (cutD ea.C_Cutter) (List.take (i+1) [p0, p1, p2])
    rw [List.take_add_one, hp']; simp
  have ha : acc = [cutD ea.C_Cutter p0, cutD ea.C_Cutter p1, cutD ea.C_Cutter p2] := ha
  subst ha
  have pick : ∀ i : Nat, i < 3 → ∃ ps, Oks ps ∧ atI (List.map lstD [p0, p1, p2]) (i : Int) = some (lstD ps) ∧ atI [cutD ea.C_Cutter p0, cutD ea.C_Cutter p1, cutD ea.C_Cutter p2] (i : Int) = some (cutD ea.C_Cutter ps) := by
    intro i hi
    rcases lt3 hi with rfl | rfl | rfl
    · exact ⟨p0, ok _ (by simp), rfl, rfl⟩
    · exact ⟨p1, ok _ (by simp), rfl, rfl⟩
    · exact ⟨p2, ok _ (by simp), rfl, rfl⟩
  have oke : Oks [] := ⟨fun p hp => (nomatch hp), by decide⟩
  refine sd_seq (sd_for ?_)
  refine ei_rng1 ?_
  repeat walk_at "nv"
  refine ⟨by decide, fun i s1 => ∃ a b c d e : Sd, s1 = [.dt dice, .dt (.lst (List.map lstD [p0, p1, p2])), .dt (.lst [cutD ea.C_Cutter p0, cutD ea.C_Cutter p1, cutD ea.C_Cutter p2]), a, .no, b, c, d, e], ⟨_, _, _, _, _, rfl⟩, fun i x s1 hx ⟨a, b, c, d, e, hs⟩ => ?_, fun s1 ⟨a, b, c, d, e, hs⟩ => ?_⟩
  · obtain ⟨hi, rfl⟩ := range_at hx
    obtain ⟨ps, kp, e1, e2⟩ := pick i hi
    subst hs
    refine sd_for ?_
    refine ei_rng1 ?_
    repeat walk_at "nv"
    refine ⟨by decide, fun j s2 => ∃ b c d e : Sd, s2 = [.dt dice, .dt (.lst (List.map lstD [p0, p1, p2])), .dt (.lst [cutD ea.C_Cutter p0, cutD ea.C_Cutter p1, cutD ea.C_Cutter p2]), .dt (.int i), .no, b, c, d, e], ⟨_, _, _, _, rfl⟩, fun j x s2 hx ⟨b, c, d, e, hs⟩ => ?_, fun s2 ⟨b, c, d, e, hs⟩ => ⟨_, _, _, _, _, hs⟩⟩
    obtain ⟨hj, rfl⟩ := range_at hx
    obtain ⟨qs, kq, f1, f2⟩ := pick j hj
    subst hs
    repeat walk_at "nv"
    refine rd_ix_l e1 ?_
    repeat walk_at "nv"
    refine rd_ix_l f1 ?_
    repeat walk_at "nv"
    refine rd_ix_l e2 ?_
    repeat walk_at "nv"
    refine rd_ix_l f2 ?_
    repeat walk_at "nv"
    refine ⟨ps, qs, rfl, kp, kq, _, rfl, ifF rfl ?_⟩
    walk_at "nv"
    exact ⟨_, _, _, _, rfl⟩
  subst hs
  repeat walk_at "nv"
  refine ⟨[], oke.1, by decide, .inl ⟨rfl, by decide⟩, ?_⟩
  refine sd_seq (sd_for ?_)
  refine ei_rng1 ?_
  repeat walk_at "nv"
  refine ⟨by decide, fun i s1 => ∃ a b c d e : Sd, s1 = [.dt dice, .dt (.lst (List.map lstD [p0, p1, p2])), .dt (.lst [cutD ea.C_Cutter p0, cutD ea.C_Cutter p1, cutD ea.C_Cutter p2]), a, .dt (cutD ea.C_Cutter []), b, c, d, e], ⟨_, _, _, _, _, rfl⟩, fun i x s1 hx ⟨a, b, c, d, e, hs⟩ => ?_, fun s1 ⟨a, b, c, d, e, hs⟩ => ?_⟩
  · obtain ⟨hi, rfl⟩ := range_at hx
    obtain ⟨ps, kp, e1, e2⟩ := pick i hi
    have kl := kp.2
    subst hs
    repeat walk_at "nv"
    refine rd_ix_l e2 ?_
    repeat walk_at "nv"
    refine rd_opO rfl T.k_Cutter.ci (.inl rfl) ⟨ps, [], rfl, kp.1, oke.1, by simp; omega, fun _ => ?_, fun h => absurd h (by simp; omega)⟩
    rw [List.append_nil]
    repeat walk_at "nv"
    refine ⟨ps, rfl, ?_⟩
    repeat walk_at "nv"
    refine rd_ix_l e2 ?_
    repeat walk_at "nv"
    refine ⟨ps, rfl, ?_⟩
    repeat walk_at "nv"
    refine rd_ne_refl (toPy_partsT ps) (sh_parts kp.1) ?_
    repeat walk_at "nv"
    refine ifF rfl ?_
    repeat walk_at "nv"
    refine rd_ix_l e2 ?_
    repeat walk_at "nv"
    refine rd_opO rfl T.k_Cutter.ci (.inl rfl) ⟨[], ps, rfl, oke.1, kp.1, by simp; omega, fun _ => ?_, fun h => absurd h (by simp; omega)⟩
    rw [List.nil_append]
    repeat walk_at "nv"
    refine rd_ix_l e2 ?_
    repeat walk_at "nv"
    refine rd_neO (t := .ref ea.C_Cutter) rfl T.k_Cutter.ci nfC ⟨ps, .inl ⟨ps, rfl, ?_⟩⟩
    rw [same_self]
    repeat walk_at "nv"
    refine ifF rfl ?_
    repeat walk_at "nv"
    exact ⟨_, _, _, _, _, rfl⟩
  subst hs
  refine sd_cut (fun s1 => ∃ a b c d e : Sd, s1 = [.dt dice, .dt (.lst (List.map lstD [p0, p1, p2])), .dt (.lst [cutD ea.C_Cutter p0, cutD ea.C_Cutter p1, cutD ea.C_Cutter p2]), a, .dt (cutD ea.C_Cutter []), b, c, d, e]) (sd_if ?_) ?_
  · repeat walk_at "nv"
    refine rd_ix_l (d := lstD p0) rfl ?_
    repeat walk_at "nv"
    refine rd_ix_l (d := lstD p1) rfl ?_
    repeat walk_at "nv"
    refine rd_ix_l (d := lstD p2) rfl ?_
    repeat walk_at "nv"
    rw [List.length_map, List.length_map, List.length_map]
    refine ifb (fun hlt => ?_) fun _ => ?_
    · have hlt := of_decide_eq_true hlt
      repeat walk_at "nv"
      refine rd_ix_l (d := cutD ea.C_Cutter p0) rfl ?_
      repeat walk_at "nv"
      refine rd_ix_l (d := cutD ea.C_Cutter p1) rfl ?_
      repeat walk_at "nv"
      refine rd_opO rfl T.k_Cutter.ci (.inl rfl) ⟨p0, p1, rfl, o0, o1, by omega, fun _ => ?_, fun h => absurd h (by omega)⟩
      repeat walk_at "nv"
      refine rd_ix_l (d := cutD ea.C_Cutter p2) rfl ?_
      repeat walk_at "nv"
      refine rd_opO rfl T.k_Cutter.ci (.inl rfl) ⟨p0 ++ p1, p2, rfl, oks_app o0 o1, o2, by simp; omega, fun _ => ?_, fun h => absurd h (by simp; omega)⟩
      repeat walk_at "nv"
      refine rd_ix_l (d := cutD ea.C_Cutter p0) rfl ?_
      repeat walk_at "nv"
      refine rd_ix_l (d := cutD ea.C_Cutter p1) rfl ?_
      repeat walk_at "nv"
      refine rd_ix_l (d := cutD ea.C_Cutter p2) rfl ?_
      repeat walk_at "nv"
      refine rd_opO rfl T.k_Cutter.ci (.inl rfl) ⟨p1, p2, rfl, o1, o2, by omega, fun _ => ?_, fun h => absurd h (by omega)⟩
      repeat walk_at "nv"
      refine rd_opO rfl T.k_Cutter.ci (.inl rfl) ⟨p0, p1 ++ p2, rfl, o0, oks_app o1 o2, by simp; omega, fun _ => ?_, fun h => absurd h (by simp; omega)⟩
      rw [← List.append_assoc]
      have oo := oks_app (oks_app o0 o1) o2
      repeat walk_at "nv"
      refine rd_ix_l (d := cutD ea.C_Cutter (p0 ++ p1 ++ p2)) rfl ?_
      repeat walk_at "nv"
      refine rd_ix_l (d := cutD ea.C_Cutter (p0 ++ p1 ++ p2)) rfl ?_
      repeat walk_at "nv"
      refine rd_neO (t := .ref ea.C_Cutter) rfl T.k_Cutter.ci nfC ⟨_, .inl ⟨_, rfl, ?_⟩⟩
      rw [same_self]
      repeat walk_at "nv"
      refine ifF rfl ?_
      repeat walk_at "nv"
      refine rd_ix_l (d := cutD ea.C_Cutter (p0 ++ p1 ++ p2)) rfl ?_
      repeat walk_at "nv"
      refine ⟨_, rfl, ?_⟩
      repeat walk_at "nv"
      refine rd_ix_l (d := cutD ea.C_Cutter (p0 ++ p1 ++ p2)) rfl ?_
      repeat walk_at "nv"
      refine ⟨_, rfl, ?_⟩
      repeat walk_at "nv"
      refine rd_ne_refl (toPy_partsT _) (sh_parts oo) ?_
      repeat walk_at "nv"
      refine ifF rfl ?_
      repeat walk_at "nv"
      refine rd_ix_l (d := cutD ea.C_Cutter (p0 ++ p1 ++ p2)) rfl ?_
      repeat walk_at "nv"
      refine rd_ix_l (d := lstD p0) rfl ?_
      repeat walk_at "nv"
      refine rd_ix_l (d := lstD p1) rfl ?_
      repeat walk_at "nv"
      refine rd_add_l (by simp; omega) ?_
      rw [← List.map_append]
      repeat walk_at "nv"
      refine rd_ix_l (d := lstD p2) rfl ?_
      repeat walk_at "nv"
      refine rd_add_l (by simp; omega) ?_
      rw [← List.map_append]
      repeat walk_at "nv"
      refine ⟨_, rfl, oo, by simp; omega, _, rfl, ifF rfl ?_⟩
      repeat walk_at "nv"
      exact ⟨_, _, _, _, _, rfl⟩
    · exact sd_next ⟨_, _, _, _, _, rfl⟩
  rintro s1 ⟨a, b, c, d, e, rfl⟩
  repeat walk_at "nv"
  refine ed_lc_filter (fun d => gd_name) ?_
  refine ei_rng1 ?_
  repeat walk_at "nv"
  refine ⟨by decide, by decide, fun _ => false, id, fun x hx => ?_, fun x hx h => (nomatch h), ?_⟩
  · obtain ⟨i, hi, rfl⟩ := nat_of hx
    obtain ⟨ps, kp, e1, e2⟩ := pick i hi
    repeat walk_at "nv"
    refine rd_ix_l e2 ?_
    repeat walk_at "nv"
    refine rd_ix_l e1 ?_
    repeat walk_at "nv"
    refine ⟨_, rfl, kp.1, by have := kp.2; omega, _, rfl, rfl⟩
  repeat walk_at "nv"
  refine rd_eq_d (p := .list []) (q := .list []) rfl rfl (by decide) (by decide) ?_
  exact hR
def PreLaw : List Dt → (Dt → Prop) → Prop := fun ds R => ∃ ns : List Int, ds = [.sq (ns.map .int)] ∧ ns.length ≤ 63 ∧ R (.bl true)
abbrev tw : Part := .pat [] [true, true]
abbrev fi : Part := .pat [true] []
theorem tw_ok : Part.ok tw := by show 0 ≤ 2 ∧ 2 ≤ 3; decide
theorem fi_ok : Part.ok fi := by show 1 ≤ 2 ∧ 0 ≤ 3; decide
theorem oky : ∀ p ∈ [fi, tw], p.ok := fun p hp => by
  simp only [List.mem_cons, List.not_mem_nil, or_false] at hp
  rcases hp with rfl | rfl
  · exact fi_ok
  · exact tw_ok
theorem ok1 : ∀ p ∈ [fi], p.ok := fun p hp => oky p (by simp at hp ⊢; exact .inl hp)
theorem ok2 : ∀ p ∈ [tw], p.ok := fun p hp => oky p (by simp at hp ⊢; exact .inr hp)
theorem gg_law (T : Tx P K mg ea) (g__law_dice : Gf P w K mg base "_law_dice" 1 ["_law_script", "_law_at"] PreDice) (g__law_right : Gg P w K mg base "_law_right" 9 ["_law_dice_here"] PreRight)
    (g_Cutter___init__ : FnR P w K mg base CX0 3 ea.f_Cutter___init__ (spI K ea.C_Cutter fun ds R => ds.length ≤ 1000000 ∧ PreInit ea.C_Known ds R)) (g_Cutter_places : Gm P w K mg base 3 ea.f_Cutter_places (PreKept ea.C_Cutter)) (g_Cutter___rshift__ : Gmx P w K mg base 6 ea.f_Cutter___rshift__ (PreShift ea.C_Cutter ea.C_TooMany)) (g_Cutter___eq__ : Gm P w K mg base 1 ea.f_Cutter___eq__ (PreEq (K := K) ea.C_Cutter)) (g_Cutter___str__ : Gm P w K mg base 1 ea.f_Cutter___str__ (PreStr ea.C_Cutter)) (g__law_joined : Gf P w K mg base "_law_joined" 7 ["_law_one", "_law_other"] (PreJoined ea.C_Cutter)) :
    Gg P w K mg base "law" 10 ["_law_script"] PreLaw := by
  refine gg_of T.D_law sc_law (fun ds R ⟨ns, h, _⟩ => by rw [h]; rfl) fun f cdv A outer s H E hA hr => ⟨_, (pss_cons (ps_for PassesOwn.never rfl (pi_range1 rfl T.m_range (pa_cons (pe_callB (call_max2 rfl) (by rfl) T.m_max (by decide +kernel) (pa_cons pe_int (pa_cons (pe_callB (call_min2 rfl) (by rfl) T.m_min (by decide +kernel) (pa_cons pe_int (pa_cons (pe_callB (callLen (K := K) rfl) (by rfl) T.m_len (by decide +kernel) (pa_cons (pv 0) pa_nil)) pa_nil))) pa_nil))) pa_nil)) (pg_name (i := 1) sc_law.nd rfl (by first | exact Or.inl rfl | exact Or.inr rfl)) (pss_one (ps_if (pt_not (pt_val (pe_gg g__law_right ⟨rfl, rfl, rfl, rfl, rfl⟩ hA (hr.mono (by decide)) rfl (pa_cons (pe_gf g__law_dice ⟨rfl, rfl, rfl, rfl, rfl⟩ (hr.mono (by decide)) rfl (pa_cons (pv 0) (pa_cons (pv 1) pa_nil))) pa_nil)))) (pss_one (ps_ret pe_bl)) pss_nil))) (pss_cons (ps_par (i := 3) (j := 4) rfl sc_law.nd rfl rfl (by decide) rfl rfl (pa_cons (StX.pe_makeR T.mak_Cutter g_Cutter___init__ (hr.mono (by decide)) (by rfl) T.k_Cutter.m pass0 (pa_cons pe_str pa_nil)) (pa_cons (StX.pe_makeR T.mak_Cutter g_Cutter___init__ (hr.mono (by decide)) (by rfl) T.k_Cutter.m pass0 (pa_cons pe_str pa_nil)) pa_nil)) (by rfl)) (pss_cons (ps_set (i := 2) sc_law.nd rfl (by first | exact Or.inl rfl | exact Or.inr rfl) (pe_lst (pa_cons (pe_methR (pe_op (opOwn0 (K := K) rfl rfl T.mro_Cutter.choose_spec.1 T.mro_Cutter.choose_spec.2 T.m_Cutter___rshift__.at_ T.m_Cutter___rshift__.fn g_Cutter___rshift__ (hr.mono (by decide))) (pv 3) (pv 4)) T.k_Cutter.cls T.m_Cutter_places g_Cutter_places (hr.mono (by decide)) pass0 (pa_cons pe_int pa_nil)) (pa_cons (pe_methR (pe_op (opOwn0 (K := K) rfl rfl T.mro_Cutter.choose_spec.1 T.mro_Cutter.choose_spec.2 T.m_Cutter___rshift__.at_ T.m_Cutter___rshift__.fn g_Cutter___rshift__ (hr.mono (by decide))) (pv 4) (pv 3)) T.k_Cutter.cls T.m_Cutter_places g_Cutter_places (hr.mono (by decide)) pass0 (pa_cons pe_int pa_nil)) (pa_cons (pe_callTy (callStrO (K := K) rfl T.m_Cutter___str__.at_ T.m_Cutter___str__.fn g_Cutter___str__ (hr.mono (by decide))) (by rfl) T.m_str (by decide +kernel) (pa_cons (pe_op (opOwn0 (K := K) rfl rfl T.mro_Cutter.choose_spec.1 T.mro_Cutter.choose_spec.2 T.m_Cutter___rshift__.at_ T.m_Cutter___rshift__.fn g_Cutter___rshift__ (hr.mono (by decide))) (pv 4) (pv 3)) pa_nil)) (pa_cons (pe_cmpR (opEqO (K := K) rfl T.m_Cutter___eq__.at_ T.m_Cutter___eq__.fn g_Cutter___eq__ (hr.mono (by decide))) (pe_op (opOwn0 (K := K) rfl rfl T.mro_Cutter.choose_spec.1 T.mro_Cutter.choose_spec.2 T.m_Cutter___rshift__.at_ T.m_Cutter___rshift__.fn g_Cutter___rshift__ (hr.mono (by decide))) (pv 3) (pv 3)) (pv 3) (nomark _)) pa_nil)))))) (pss_one (ps_ret (pe_and (pe_cmpR (opEq (K := K) rfl hr.units) (pv 2) (pe_lst (pa_cons (pe_tup (pa_cons pe_int pa_nil)) (pa_cons (pe_tup (pa_cons pe_int pa_nil)) (pa_cons pe_str (pa_cons pe_bl pa_nil))))) (nomark _)) (pe_one (pe_cmpR (opEq (K := K) rfl hr.units) (pe_gf g__law_joined ⟨rfl, rfl, rfl, rfl, rfl⟩ (hr.mono (by decide)) rfl (pa_cons (pe_op (opOwn0 (K := K) rfl rfl T.mro_Cutter.choose_spec.1 T.mro_Cutter.choose_spec.2 T.m_Cutter___rshift__.at_ T.m_Cutter___rshift__.fn g_Cutter___rshift__ (hr.mono (by decide))) (pv 3) (pv 3)) (pa_cons (pe_op (opOwn0 (K := K) rfl rfl T.mro_Cutter.choose_spec.1 T.mro_Cutter.choose_spec.2 T.m_Cutter___rshift__.at_ T.m_Cutter___rshift__.fn g_Cutter___rshift__ (hr.mono (by decide))) (pe_op (opOwn0 (K := K) rfl rfl T.mro_Cutter.choose_spec.1 T.mro_Cutter.choose_spec.2 T.m_Cutter___rshift__.at_ T.m_Cutter___rshift__.fn g_Cutter___rshift__ (hr.mono (by decide))) (pv 3) (pv 3)) (pv 3)) pa_nil))) pe_int (nomark _))))))))), fun ds R ⟨ns, h, hl, hR⟩ => ?_⟩
  subst h
  repeat walk_at "nv"
  refine sd_for ?_
  refine ei_rng1 ?_
  repeat walk_at "nv"
  have hb : ∀ z : Int, 0 ≤ z → z ≤ 63 → (if (if z < 8 then z else 8) > 1 then (if z < 8 then z else 8) else 1) < 2 ^ 62 ∧ -(2 ^ 62) ≤ (if (if z < 8 then z else 8) > 1 then (if z < 8 then z else 8) else (1 : Int)) := fun z h0 h1 => by
    split <;> split <;> omega
  refine ⟨hb _ (by omega) (by simp; omega), fun i s1 => ∃ x1 x2 x3 x4, s1 = [.dt (.sq (ns.map .int)), x1, x2, x3, x4], ⟨_, _, _, _, rfl⟩, fun i x s1 hx ⟨x1, x2, x3, x4, h⟩ => ?_, fun s1 ⟨x1, x2, x3, x4, h⟩ => ?_⟩
  · subst h
    obtain ⟨_, rfl⟩ := range_at hx
    repeat walk_at "nv"
    refine ⟨ns, i, rfl, ?_⟩
    repeat walk_at "nv"
    refine ⟨rfl, _, rfl, ifF rfl ?_⟩
    walk_at "nv"
    exact ⟨_, _, _, _, rfl⟩
  · subst h
    refine sd_seq (sd_par ?_)
    repeat walk_at "nv"
    refine ⟨[tw], ok2, by decide, .inl ⟨rfl, by decide⟩, ?_⟩
    repeat walk_at "nv"
    refine ⟨[fi], ok1, by decide, .inl ⟨rfl, by decide⟩, ?_⟩
    repeat walk_at "nv"
    refine ⟨_, _, rfl, ?_⟩
    repeat walk_at "nv"
    refine rd_opO rfl T.k_Cutter.ci (.inl rfl) ⟨[tw], [fi], rfl, ok2, ok1, by decide, fun _ => ?_, fun h => absurd h (by decide)⟩
    repeat walk_at "nv"
    refine ⟨rfl, ?_⟩
    repeat walk_at "nv"
    refine ⟨[tw] ++ [fi], 5, rfl, oks_app ok2 ok1, by decide, ?_⟩
    repeat walk_at "nv"
    refine rd_opO rfl T.k_Cutter.ci (.inl rfl) ⟨[fi], [tw], rfl, ok1, ok2, by decide, fun _ => ?_, fun h => absurd h (by decide)⟩
    repeat walk_at "nv"
    refine ⟨rfl, ?_⟩
    repeat walk_at "nv"
    refine ⟨[fi] ++ [tw], 5, rfl, oks_app ok1 ok2, by decide, ?_⟩
    repeat walk_at "nv"
    refine rd_opO rfl T.k_Cutter.ci (.inl rfl) ⟨[fi], [tw], rfl, ok1, ok2, by decide, fun _ => ?_, fun h => absurd h (by decide)⟩
    repeat walk_at "nv"
    refine cd_strO ⟨[fi] ++ [tw], rfl, oks_app ok1 ok2, by decide, ?_⟩
    repeat walk_at "nv"
    refine rd_opO rfl T.k_Cutter.ci (.inl rfl) ⟨[tw], [tw], rfl, ok2, ok2, by decide, fun _ => ?_, fun h => absurd h (by decide)⟩
    repeat walk_at "nv"
    refine rd_eqO (t := .ref ea.C_Cutter) rfl T.k_Cutter.ci nfC ⟨[tw] ++ [tw], .inl ⟨[tw], rfl, ?_⟩⟩
    have c0 : sameB ([tw] ++ [tw]) [tw] = true := by decide +kernel
    have c1 : chain ([tw] ++ [fi]) 5 = [3] := by decide +kernel
    have c2 : chain ([fi] ++ [tw]) 5 = [0] := by decide +kernel
    have c3 : strOf ([fi] ++ [tw]) = "+.. > ..++" := by decide +kernel
    rw [c0, c1, c2, c3]
    repeat walk_at "nv"
    refine rd_eq_d (p := .list [.tuple [.int 3], .tuple [.int 0], .str "+.. > ..++", .bool true]) (q := .list [.tuple [.int 3], .tuple [.int 0], .str "+.. > ..++", .bool true]) rfl rfl (by decide +kernel) (by decide +kernel) ?_
    refine ⟨_, rfl, ifT (by decide +kernel) ?_⟩
    repeat walk_at "nv"
    refine rd_opO rfl T.k_Cutter.ci (.inl rfl) ⟨[tw], [tw], rfl, ok2, ok2, by decide, fun _ => ?_, fun h => absurd h (by decide)⟩
    repeat walk_at "nv"
    refine rd_opO rfl T.k_Cutter.ci (.inl rfl) ⟨[tw], [tw], rfl, ok2, ok2, by decide, fun _ => ?_, fun h => absurd h (by decide)⟩
    repeat walk_at "nv"
    refine rd_opO rfl T.k_Cutter.ci (.inl rfl) ⟨[tw] ++ [tw], [tw], rfl, (oks_app ok2 ok2), ok2, by decide, fun _ => ?_, fun h => absurd h (by decide)⟩
    repeat walk_at "nv"
    refine ⟨[tw] ++ [tw], [tw] ++ [tw] ++ [tw], rfl, oks_app ok2 ok2, oks_app (oks_app ok2 ok2) ok2, by decide, fun h => absurd h (by decide), fun _ => ?_⟩
    repeat walk_at "nv"
    exact hR
end
end Nv

set_option Elab.async false
set_option linter.all false
set_option maxRecDepth 100000
set_option maxHeartbeats 4000000
namespace Nv
open PySem PySem.Spec PyProof.Rows L2
theorem all_mk {l : PySem.W.OpenLaw} {w : World} {K : PySem.W.Frag} {h : Heap} {mg : Str → Option Value} {fa : Addr} (X : K.In h) (G : h.Ns mainGlobals mg) (hfa : mg "law" = some (.ref fa))
    (z_isinstance : PySem.W.nsIn K mainGlobals "isinstance" = some none)
    (z_int : PySem.W.nsIn K mainGlobals "int" = some none)
    (z_bool : PySem.W.nsIn K mainGlobals "bool" = some none)
    (z_all : PySem.W.nsIn K mainGlobals "all" = some none)
    (z_len : PySem.W.nsIn K mainGlobals "len" = some none)
    (z_str : PySem.W.nsIn K mainGlobals "str" = some none)
    (z_list : PySem.W.nsIn K mainGlobals "list" = some none)
    (z_range : PySem.W.nsIn K mainGlobals "range" = some none)
    (z_enumerate : PySem.W.nsIn K mainGlobals "enumerate" = some none)
    (z_tuple : PySem.W.nsIn K mainGlobals "tuple" = some none)
    (z_max : PySem.W.nsIn K mainGlobals "max" = some none)
    (z_abs : PySem.W.nsIn K mainGlobals "abs" = some none)
    (z_min : PySem.W.nsIn K mainGlobals "min" = some none)
    (z_repr : PySem.W.nsIn K mainGlobals "repr" = some none)
    {u_MAX_PARTS : Value} (y_MAX_PARTS : PySem.W.nsIn K mainGlobals "MAX_PARTS" = some (some u_MAX_PARTS)) (r_MAX_PARTS : RelV (.int 4) u_MAX_PARTS)
    {u_MAX_ROW : Value} (y_MAX_ROW : PySem.W.nsIn K mainGlobals "MAX_ROW" = some (some u_MAX_ROW)) (r_MAX_ROW : RelV (.int 1000) u_MAX_ROW)
    {u_MOST_FRONT : Value} (y_MOST_FRONT : PySem.W.nsIn K mainGlobals "MOST_FRONT" = some (some u_MOST_FRONT)) (r_MOST_FRONT : RelV (.int 2) u_MOST_FRONT)
    {u_MOST_BACK : Value} (y_MOST_BACK : PySem.W.nsIn K mainGlobals "MOST_BACK" = some (some u_MOST_BACK)) (r_MOST_BACK : RelV (.int 3) u_MOST_BACK)
    {u_FEW : Value} (y_FEW : PySem.W.nsIn K mainGlobals "FEW" = some (some u_FEW)) (r_FEW : RelV (.int 5) u_FEW)
    {u_WHOLE : Value} (y_WHOLE : PySem.W.nsIn K mainGlobals "WHOLE" = some (some u_WHOLE)) (r_WHOLE : RelV (.str "all") u_WHOLE)
    {u_GAP : Value} (y_GAP : PySem.W.nsIn K mainGlobals "GAP" = some (some u_GAP)) (r_GAP : RelV (.str "..") u_GAP)
    {f_is_integer : Addr} {od_is_integer an_is_integer : Option Addr} {sl_is_integer : Array (Option Value)} {oc_is_integer kV_is_integer dc_is_integer pm_is_integer cd_is_integer ct_is_integer : Value} (a_is_integer : PySem.W.nsIn K mainGlobals "is_integer" = some (some (.ref f_is_integer))) (l_is_integer : K.lookup f_is_integer = some ⟨oc_is_integer, od_is_integer, .func (PySem.W.fnOf "is_integer" "is_integer" (defArgs s_is_integer) (defBody s_is_integer) (defScope s_is_integer) .none kV_is_integer dc_is_integer pm_is_integer an_is_integer cd_is_integer ct_is_integer), sl_is_integer⟩) (c_is_integer : PySem.W.codeIn K cd_is_integer "is_integer" = true) (k_is_integer : PySem.W.keepIn K (.ref f_is_integer) = true)
    {tt_require_number : Addr} {tc_require_number : Value} {td_require_number : Option Addr} {tn_require_number : Nat} {ts_require_number : Array (Option Value)} {f_require_number : Addr} {od_require_number an_require_number : Option Addr} {sl_require_number : Array (Option Value)} {oc_require_number kV_require_number dc_require_number pm_require_number cd_require_number ct_require_number : Value} (a_require_number : PySem.W.nsIn K mainGlobals "require_number" = some (some (.ref f_require_number))) (l_require_number : K.lookup f_require_number = some ⟨oc_require_number, od_require_number, .func (PySem.W.fnOf "require_number" "require_number" (defArgs s_require_number) (defBody s_require_number) (defScope s_require_number) (.ref tt_require_number) kV_require_number dc_require_number pm_require_number an_require_number cd_require_number ct_require_number), sl_require_number⟩) (c_require_number : PySem.W.codeIn K cd_require_number "require_number" = true) (k_require_number : PySem.W.keepIn K (.ref f_require_number) = true) (t_require_number : K.lookup tt_require_number = some ⟨tc_require_number, td_require_number, .seq [Value.none].toArray tn_require_number, ts_require_number⟩)
    {f_are_signs : Addr} {od_are_signs an_are_signs : Option Addr} {sl_are_signs : Array (Option Value)} {oc_are_signs kV_are_signs dc_are_signs pm_are_signs cd_are_signs ct_are_signs : Value} (a_are_signs : PySem.W.nsIn K mainGlobals "are_signs" = some (some (.ref f_are_signs))) (l_are_signs : K.lookup f_are_signs = some ⟨oc_are_signs, od_are_signs, .func (PySem.W.fnOf "are_signs" "are_signs" (defArgs s_are_signs) (defBody s_are_signs) (defScope s_are_signs) .none kV_are_signs dc_are_signs pm_are_signs an_are_signs cd_are_signs ct_are_signs), sl_are_signs⟩) (c_are_signs : PySem.W.codeIn K cd_are_signs "are_signs" = true) (k_are_signs : PySem.W.keepIn K (.ref f_are_signs) = true)
    {f_is_part : Addr} {od_is_part an_is_part : Option Addr} {sl_is_part : Array (Option Value)} {oc_is_part kV_is_part dc_is_part pm_is_part cd_is_part ct_is_part : Value} (a_is_part : PySem.W.nsIn K mainGlobals "is_part" = some (some (.ref f_is_part))) (l_is_part : K.lookup f_is_part = some ⟨oc_is_part, od_is_part, .func (PySem.W.fnOf "is_part" "is_part" (defArgs s_is_part) (defBody s_is_part) (defScope s_is_part) .none kV_is_part dc_is_part pm_is_part an_is_part cd_is_part ct_is_part), sl_is_part⟩) (c_is_part : PySem.W.codeIn K cd_is_part "is_part" = true) (k_is_part : PySem.W.keepIn K (.ref f_is_part) = true)
    {f_part_places : Addr} {od_part_places an_part_places : Option Addr} {sl_part_places : Array (Option Value)} {oc_part_places kV_part_places dc_part_places pm_part_places cd_part_places ct_part_places : Value} (a_part_places : PySem.W.nsIn K mainGlobals "part_places" = some (some (.ref f_part_places))) (l_part_places : K.lookup f_part_places = some ⟨oc_part_places, od_part_places, .func (PySem.W.fnOf "part_places" "part_places" (defArgs s_part_places) (defBody s_part_places) (defScope s_part_places) .none kV_part_places dc_part_places pm_part_places an_part_places cd_part_places ct_part_places), sl_part_places⟩) (c_part_places : PySem.W.codeIn K cd_part_places "part_places" = true) (k_part_places : PySem.W.keepIn K (.ref f_part_places) = true)
    {f_chain_places : Addr} {od_chain_places an_chain_places : Option Addr} {sl_chain_places : Array (Option Value)} {oc_chain_places kV_chain_places dc_chain_places pm_chain_places cd_chain_places ct_chain_places : Value} (a_chain_places : PySem.W.nsIn K mainGlobals "chain_places" = some (some (.ref f_chain_places))) (l_chain_places : K.lookup f_chain_places = some ⟨oc_chain_places, od_chain_places, .func (PySem.W.fnOf "chain_places" "chain_places" (defArgs s_chain_places) (defBody s_chain_places) (defScope s_chain_places) .none kV_chain_places dc_chain_places pm_chain_places an_chain_places cd_chain_places ct_chain_places), sl_chain_places⟩) (c_chain_places : PySem.W.codeIn K cd_chain_places "chain_places" = true) (k_chain_places : PySem.W.keepIn K (.ref f_chain_places) = true)
    {f_kept_places : Addr} {od_kept_places an_kept_places : Option Addr} {sl_kept_places : Array (Option Value)} {oc_kept_places kV_kept_places dc_kept_places pm_kept_places cd_kept_places ct_kept_places : Value} (a_kept_places : PySem.W.nsIn K mainGlobals "kept_places" = some (some (.ref f_kept_places))) (l_kept_places : K.lookup f_kept_places = some ⟨oc_kept_places, od_kept_places, .func (PySem.W.fnOf "kept_places" "kept_places" (defArgs s_kept_places) (defBody s_kept_places) (defScope s_kept_places) .none kV_kept_places dc_kept_places pm_kept_places an_kept_places cd_kept_places ct_kept_places), sl_kept_places⟩) (c_kept_places : PySem.W.codeIn K cd_kept_places "kept_places" = true) (k_kept_places : PySem.W.keepIn K (.ref f_kept_places) = true)
    {f_cut : Addr} {od_cut an_cut : Option Addr} {sl_cut : Array (Option Value)} {oc_cut kV_cut dc_cut pm_cut cd_cut ct_cut : Value} (a_cut : PySem.W.nsIn K mainGlobals "cut" = some (some (.ref f_cut))) (l_cut : K.lookup f_cut = some ⟨oc_cut, od_cut, .func (PySem.W.fnOf "cut" "cut" (defArgs s_cut) (defBody s_cut) (defScope s_cut) .none kV_cut dc_cut pm_cut an_cut cd_cut ct_cut), sl_cut⟩) (c_cut : PySem.W.codeIn K cd_cut "cut" = true) (k_cut : PySem.W.keepIn K (.ref f_cut) = true)
    {f_chained : Addr} {od_chained an_chained : Option Addr} {sl_chained : Array (Option Value)} {oc_chained kV_chained dc_chained pm_chained cd_chained ct_chained : Value} (a_chained : PySem.W.nsIn K mainGlobals "chained" = some (some (.ref f_chained))) (l_chained : K.lookup f_chained = some ⟨oc_chained, od_chained, .func (PySem.W.fnOf "chained" "chained" (defArgs s_chained) (defBody s_chained) (defScope s_chained) .none kV_chained dc_chained pm_chained an_chained cd_chained ct_chained), sl_chained⟩) (c_chained : PySem.W.codeIn K cd_chained "chained" = true) (k_chained : PySem.W.keepIn K (.ref f_chained) = true)
    {f_require_cutter : Addr} {od_require_cutter an_require_cutter : Option Addr} {sl_require_cutter : Array (Option Value)} {oc_require_cutter kV_require_cutter dc_require_cutter pm_require_cutter cd_require_cutter ct_require_cutter : Value} (a_require_cutter : PySem.W.nsIn K mainGlobals "require_cutter" = some (some (.ref f_require_cutter))) (l_require_cutter : K.lookup f_require_cutter = some ⟨oc_require_cutter, od_require_cutter, .func (PySem.W.fnOf "require_cutter" "require_cutter" (defArgs s_require_cutter) (defBody s_require_cutter) (defScope s_require_cutter) .none kV_require_cutter dc_require_cutter pm_require_cutter an_require_cutter cd_require_cutter ct_require_cutter), sl_require_cutter⟩) (c_require_cutter : PySem.W.codeIn K cd_require_cutter "require_cutter" = true) (k_require_cutter : PySem.W.keepIn K (.ref f_require_cutter) = true)
    {f__law_dice : Addr} {od__law_dice an__law_dice : Option Addr} {sl__law_dice : Array (Option Value)} {oc__law_dice kV__law_dice dc__law_dice pm__law_dice cd__law_dice ct__law_dice : Value} (a__law_dice : PySem.W.nsIn K mainGlobals "_law_dice" = some (some (.ref f__law_dice))) (l__law_dice : K.lookup f__law_dice = some ⟨oc__law_dice, od__law_dice, .func (PySem.W.fnOf "_law_dice" "_law_dice" (defArgs s__law_dice) (defBody s__law_dice) (defScope s__law_dice) .none kV__law_dice dc__law_dice pm__law_dice an__law_dice cd__law_dice ct__law_dice), sl__law_dice⟩) (c__law_dice : PySem.W.codeIn K cd__law_dice "_law_dice" = true) (k__law_dice : PySem.W.keepIn K (.ref f__law_dice) = true)
    {f__law_roll : Addr} {od__law_roll an__law_roll : Option Addr} {sl__law_roll : Array (Option Value)} {oc__law_roll kV__law_roll dc__law_roll pm__law_roll cd__law_roll ct__law_roll : Value} (a__law_roll : PySem.W.nsIn K mainGlobals "_law_roll" = some (some (.ref f__law_roll))) (l__law_roll : K.lookup f__law_roll = some ⟨oc__law_roll, od__law_roll, .func (PySem.W.fnOf "_law_roll" "_law_roll" (defArgs s__law_roll) (defBody s__law_roll) (defScope s__law_roll) .none kV__law_roll dc__law_roll pm__law_roll an__law_roll cd__law_roll ct__law_roll), sl__law_roll⟩) (c__law_roll : PySem.W.codeIn K cd__law_roll "_law_roll" = true) (k__law_roll : PySem.W.keepIn K (.ref f__law_roll) = true)
    {f__law_one_of : Addr} {od__law_one_of an__law_one_of : Option Addr} {sl__law_one_of : Array (Option Value)} {oc__law_one_of kV__law_one_of dc__law_one_of pm__law_one_of cd__law_one_of ct__law_one_of : Value} (a__law_one_of : PySem.W.nsIn K mainGlobals "_law_one_of" = some (some (.ref f__law_one_of))) (l__law_one_of : K.lookup f__law_one_of = some ⟨oc__law_one_of, od__law_one_of, .func (PySem.W.fnOf "_law_one_of" "_law_one_of" (defArgs s__law_one_of) (defBody s__law_one_of) (defScope s__law_one_of) .none kV__law_one_of dc__law_one_of pm__law_one_of an__law_one_of cd__law_one_of ct__law_one_of), sl__law_one_of⟩) (c__law_one_of : PySem.W.codeIn K cd__law_one_of "_law_one_of" = true) (k__law_one_of : PySem.W.keepIn K (.ref f__law_one_of) = true)
    {f__law_signs : Addr} {od__law_signs an__law_signs : Option Addr} {sl__law_signs : Array (Option Value)} {oc__law_signs kV__law_signs dc__law_signs pm__law_signs cd__law_signs ct__law_signs : Value} (a__law_signs : PySem.W.nsIn K mainGlobals "_law_signs" = some (some (.ref f__law_signs))) (l__law_signs : K.lookup f__law_signs = some ⟨oc__law_signs, od__law_signs, .func (PySem.W.fnOf "_law_signs" "_law_signs" (defArgs s__law_signs) (defBody s__law_signs) (defScope s__law_signs) .none kV__law_signs dc__law_signs pm__law_signs an__law_signs cd__law_signs ct__law_signs), sl__law_signs⟩) (c__law_signs : PySem.W.codeIn K cd__law_signs "_law_signs" = true) (k__law_signs : PySem.W.keepIn K (.ref f__law_signs) = true)
    {f__law_part : Addr} {od__law_part an__law_part : Option Addr} {sl__law_part : Array (Option Value)} {oc__law_part kV__law_part dc__law_part pm__law_part cd__law_part ct__law_part : Value} (a__law_part : PySem.W.nsIn K mainGlobals "_law_part" = some (some (.ref f__law_part))) (l__law_part : K.lookup f__law_part = some ⟨oc__law_part, od__law_part, .func (PySem.W.fnOf "_law_part" "_law_part" (defArgs s__law_part) (defBody s__law_part) (defScope s__law_part) .none kV__law_part dc__law_part pm__law_part an__law_part cd__law_part ct__law_part), sl__law_part⟩) (c__law_part : PySem.W.codeIn K cd__law_part "_law_part" = true) (k__law_part : PySem.W.keepIn K (.ref f__law_part) = true)
    {f__law_parts : Addr} {od__law_parts an__law_parts : Option Addr} {sl__law_parts : Array (Option Value)} {oc__law_parts kV__law_parts dc__law_parts pm__law_parts cd__law_parts ct__law_parts : Value} (a__law_parts : PySem.W.nsIn K mainGlobals "_law_parts" = some (some (.ref f__law_parts))) (l__law_parts : K.lookup f__law_parts = some ⟨oc__law_parts, od__law_parts, .func (PySem.W.fnOf "_law_parts" "_law_parts" (defArgs s__law_parts) (defBody s__law_parts) (defScope s__law_parts) .none kV__law_parts dc__law_parts pm__law_parts an__law_parts cd__law_parts ct__law_parts), sl__law_parts⟩) (c__law_parts : PySem.W.codeIn K cd__law_parts "_law_parts" = true) (k__law_parts : PySem.W.keepIn K (.ref f__law_parts) = true)
    {f__law_kept : Addr} {od__law_kept an__law_kept : Option Addr} {sl__law_kept : Array (Option Value)} {oc__law_kept kV__law_kept dc__law_kept pm__law_kept cd__law_kept ct__law_kept : Value} (a__law_kept : PySem.W.nsIn K mainGlobals "_law_kept" = some (some (.ref f__law_kept))) (l__law_kept : K.lookup f__law_kept = some ⟨oc__law_kept, od__law_kept, .func (PySem.W.fnOf "_law_kept" "_law_kept" (defArgs s__law_kept) (defBody s__law_kept) (defScope s__law_kept) .none kV__law_kept dc__law_kept pm__law_kept an__law_kept cd__law_kept ct__law_kept), sl__law_kept⟩) (c__law_kept : PySem.W.codeIn K cd__law_kept "_law_kept" = true) (k__law_kept : PySem.W.keepIn K (.ref f__law_kept) = true)
    {f__law_joined : Addr} {od__law_joined an__law_joined : Option Addr} {sl__law_joined : Array (Option Value)} {oc__law_joined kV__law_joined dc__law_joined pm__law_joined cd__law_joined ct__law_joined : Value} (a__law_joined : PySem.W.nsIn K mainGlobals "_law_joined" = some (some (.ref f__law_joined))) (l__law_joined : K.lookup f__law_joined = some ⟨oc__law_joined, od__law_joined, .func (PySem.W.fnOf "_law_joined" "_law_joined" (defArgs s__law_joined) (defBody s__law_joined) (defScope s__law_joined) .none kV__law_joined dc__law_joined pm__law_joined an__law_joined cd__law_joined ct__law_joined), sl__law_joined⟩) (c__law_joined : PySem.W.codeIn K cd__law_joined "_law_joined" = true) (k__law_joined : PySem.W.keepIn K (.ref f__law_joined) = true)
    {f__law_is : Addr} {od__law_is an__law_is : Option Addr} {sl__law_is : Array (Option Value)} {oc__law_is kV__law_is dc__law_is pm__law_is cd__law_is ct__law_is : Value} (a__law_is : PySem.W.nsIn K mainGlobals "_law_is" = some (some (.ref f__law_is))) (l__law_is : K.lookup f__law_is = some ⟨oc__law_is, od__law_is, .func (PySem.W.fnOf "_law_is" "_law_is" (defArgs s__law_is) (defBody s__law_is) (defScope s__law_is) .none kV__law_is dc__law_is pm__law_is an__law_is cd__law_is ct__law_is), sl__law_is⟩) (c__law_is : PySem.W.codeIn K cd__law_is "_law_is" = true) (k__law_is : PySem.W.keepIn K (.ref f__law_is) = true)
    {f__law_pair_right : Addr} {od__law_pair_right an__law_pair_right : Option Addr} {sl__law_pair_right : Array (Option Value)} {oc__law_pair_right kV__law_pair_right dc__law_pair_right pm__law_pair_right cd__law_pair_right ct__law_pair_right : Value} (a__law_pair_right : PySem.W.nsIn K mainGlobals "_law_pair_right" = some (some (.ref f__law_pair_right))) (l__law_pair_right : K.lookup f__law_pair_right = some ⟨oc__law_pair_right, od__law_pair_right, .func (PySem.W.fnOf "_law_pair_right" "_law_pair_right" (defArgs s__law_pair_right) (defBody s__law_pair_right) (defScope s__law_pair_right) .none kV__law_pair_right dc__law_pair_right pm__law_pair_right an__law_pair_right cd__law_pair_right ct__law_pair_right), sl__law_pair_right⟩) (c__law_pair_right : PySem.W.codeIn K cd__law_pair_right "_law_pair_right" = true) (k__law_pair_right : PySem.W.keepIn K (.ref f__law_pair_right) = true)
    {f__law_right : Addr} {od__law_right an__law_right : Option Addr} {sl__law_right : Array (Option Value)} {oc__law_right kV__law_right dc__law_right pm__law_right cd__law_right ct__law_right : Value} (a__law_right : PySem.W.nsIn K mainGlobals "_law_right" = some (some (.ref f__law_right))) (l__law_right : K.lookup f__law_right = some ⟨oc__law_right, od__law_right, .func (PySem.W.fnOf "_law_right" "_law_right" (defArgs s__law_right) (defBody s__law_right) (defScope s__law_right) .none kV__law_right dc__law_right pm__law_right an__law_right cd__law_right ct__law_right), sl__law_right⟩) (c__law_right : PySem.W.codeIn K cd__law_right "_law_right" = true) (k__law_right : PySem.W.keepIn K (.ref f__law_right) = true)
    {f_law : Addr} {od_law an_law : Option Addr} {sl_law : Array (Option Value)} {oc_law kV_law dc_law pm_law cd_law ct_law : Value} (a_law : PySem.W.nsIn K mainGlobals "law" = some (some (.ref f_law))) (l_law : K.lookup f_law = some ⟨oc_law, od_law, .func (PySem.W.fnOf "law" "law" (defArgs s_law) (defBody s_law) (defScope s_law) .none kV_law dc_law pm_law an_law cd_law ct_law), sl_law⟩) (c_law : PySem.W.codeIn K cd_law "law" = true) (k_law : PySem.W.keepIn K (.ref f_law) = true)
    {C_Known : Addr} (aC_Known : PySem.W.nsIn K mainGlobals "Known" = some (some (.ref C_Known)))
    (pg_Known : PySem.W.plainGet K C_Known Str.empty = true)
    (hd_Known : PySem.W.hasDictIn K C_Known = true)
    (po_Known : PySem.W.plainOver K C_Known = true)
    (sa_Known : PySem.W.findIn K (.ref C_Known) "__setattr__" = some (some (.builtin "object.__setattr__")))
    (kc_Known : PySem.W.keepIn K (.ref C_Known) = true)
    (ca_Known : PySem.W.findIn K (.ref C_Known) "__class__" = some (some (.builtin "object.__class__")))
    (cn_Known : PySem.W.specialIn K (.builtin "object.__class__") "__get__" = some (some (.builtin "getset_descriptor.__get__")))
    (ct_Known : PySem.W.takesIn K (.builtin "object.__class__") = some true)
    (cm_Known : PySem.W.mroIn K C_Known (.type "object") = some true)
    (crd_Known : PySem.W.readsIn K C_Known (.type "type") = true)
    (cga_Known : PySem.W.specialIn K (.ref C_Known) "__getattribute__" = some (some (.builtin "type.__getattribute__")))
    (qne_Known : PySem.W.findIn K (.ref C_Known) "__ne__" = some (some (.builtin "object.__ne__")))
    (qob_Known : PySem.W.subIn K (.ref C_Known) (.type "object") = some true)
    (nf0_Known : PySem.W.notFirst K C_Known (.type "NoneType") = true)
    (nf1_Known : PySem.W.notFirst K C_Known (.type "bool") = true)
    (nf2_Known : PySem.W.notFirst K C_Known (.type "int") = true)
    (nf3_Known : PySem.W.notFirst K C_Known (.type "str") = true)
    (nf4_Known : PySem.W.notFirst K C_Known (.type "tuple") = true)
    (nf5_Known : PySem.W.notFirst K C_Known (.type "list") = true)
    (nf6_Known : PySem.W.notFirst K C_Known (.type "dict") = true)
    (ki0_Known : PySem.W.subIn K (.type "NoneType") (.ref C_Known) = some false)
    (ki1_Known : PySem.W.subIn K (.type "bool") (.ref C_Known) = some false)
    (ki2_Known : PySem.W.subIn K (.type "int") (.ref C_Known) = some false)
    (ki3_Known : PySem.W.subIn K (.type "str") (.ref C_Known) = some false)
    (ki4_Known : PySem.W.subIn K (.type "tuple") (.ref C_Known) = some false)
    (ki5_Known : PySem.W.subIn K (.type "list") (.ref C_Known) = some false)
    (ki6_Known : PySem.W.subIn K (.type "dict") (.ref C_Known) = some false)
    (isC_Known : PySem.W.isClsIn K C_Known = true)
    (tyC_Known : PySem.W.typeIn K (.ref C_Known) = some (.type "type"))
    {cdt_Known : ClassData} (cdl_Known : PySem.W.clsIn K C_Known = some cdt_Known) (cdm_Known : cdt_Known.mro = [.ref C_Known, .type "object"])
    {f_Known___init__ : Addr} {od_Known___init__ an_Known___init__ : Option Addr} {sl_Known___init__ : Array (Option Value)} {oc_Known___init__ kV_Known___init__ dc_Known___init__ pm_Known___init__ cd_Known___init__ ct_Known___init__ : Value} (a_Known___init__ : PySem.W.findIn K (.ref C_Known) "__init__" = some (some (.ref f_Known___init__))) (i_Known___init__ : PySem.W.isFn K (.ref f_Known___init__) = true) (l_Known___init__ : K.lookup f_Known___init__ = some ⟨oc_Known___init__, od_Known___init__, .func (PySem.W.fnOf "__init__" "Known.__init__" (defArgs s_Known___init__) (defBody s_Known___init__) (defScope s_Known___init__) .none kV_Known___init__ dc_Known___init__ pm_Known___init__ an_Known___init__ cd_Known___init__ ct_Known___init__), sl_Known___init__⟩) (c_Known___init__ : PySem.W.codeIn K cd_Known___init__ "Known.__init__" = true) (k_Known___init__ : PySem.W.keepIn K (.ref f_Known___init__) = true)
    (mk_Known : PySem.W.makesIn K C_Known = true)
    (n_Known_own_parts : PySem.W.findIn K (.ref C_Known) "own_parts" = some none)
    {C_Cutter : Addr} (aC_Cutter : PySem.W.nsIn K mainGlobals "Cutter" = some (some (.ref C_Cutter)))
    (pg_Cutter : PySem.W.plainGet K C_Cutter Str.empty = true)
    (hd_Cutter : PySem.W.hasDictIn K C_Cutter = true)
    (po_Cutter : PySem.W.plainOver K C_Cutter = true)
    (sa_Cutter : PySem.W.findIn K (.ref C_Cutter) "__setattr__" = some (some (.builtin "object.__setattr__")))
    (kc_Cutter : PySem.W.keepIn K (.ref C_Cutter) = true)
    (ca_Cutter : PySem.W.findIn K (.ref C_Cutter) "__class__" = some (some (.builtin "object.__class__")))
    (cn_Cutter : PySem.W.specialIn K (.builtin "object.__class__") "__get__" = some (some (.builtin "getset_descriptor.__get__")))
    (ct_Cutter : PySem.W.takesIn K (.builtin "object.__class__") = some true)
    (cm_Cutter : PySem.W.mroIn K C_Cutter (.type "object") = some true)
    (crd_Cutter : PySem.W.readsIn K C_Cutter (.type "type") = true)
    (cga_Cutter : PySem.W.specialIn K (.ref C_Cutter) "__getattribute__" = some (some (.builtin "type.__getattribute__")))
    (qne_Cutter : PySem.W.findIn K (.ref C_Cutter) "__ne__" = some (some (.builtin "object.__ne__")))
    (qob_Cutter : PySem.W.subIn K (.ref C_Cutter) (.type "object") = some true)
    (nf0_Cutter : PySem.W.notFirst K C_Cutter (.type "NoneType") = true)
    (nf1_Cutter : PySem.W.notFirst K C_Cutter (.type "bool") = true)
    (nf2_Cutter : PySem.W.notFirst K C_Cutter (.type "int") = true)
    (nf3_Cutter : PySem.W.notFirst K C_Cutter (.type "str") = true)
    (nf4_Cutter : PySem.W.notFirst K C_Cutter (.type "tuple") = true)
    (nf5_Cutter : PySem.W.notFirst K C_Cutter (.type "list") = true)
    (nf6_Cutter : PySem.W.notFirst K C_Cutter (.type "dict") = true)
    (ki0_Cutter : PySem.W.subIn K (.type "NoneType") (.ref C_Cutter) = some false)
    (ki1_Cutter : PySem.W.subIn K (.type "bool") (.ref C_Cutter) = some false)
    (ki2_Cutter : PySem.W.subIn K (.type "int") (.ref C_Cutter) = some false)
    (ki3_Cutter : PySem.W.subIn K (.type "str") (.ref C_Cutter) = some false)
    (ki4_Cutter : PySem.W.subIn K (.type "tuple") (.ref C_Cutter) = some false)
    (ki5_Cutter : PySem.W.subIn K (.type "list") (.ref C_Cutter) = some false)
    (ki6_Cutter : PySem.W.subIn K (.type "dict") (.ref C_Cutter) = some false)
    (isC_Cutter : PySem.W.isClsIn K C_Cutter = true)
    (tyC_Cutter : PySem.W.typeIn K (.ref C_Cutter) = some (.type "type"))
    {cdt_Cutter : ClassData} (cdl_Cutter : PySem.W.clsIn K C_Cutter = some cdt_Cutter) (cdm_Cutter : cdt_Cutter.mro = [.ref C_Cutter, .type "object"])
    {f_Cutter___init__ : Addr} {od_Cutter___init__ an_Cutter___init__ : Option Addr} {sl_Cutter___init__ : Array (Option Value)} {oc_Cutter___init__ kV_Cutter___init__ dc_Cutter___init__ pm_Cutter___init__ cd_Cutter___init__ ct_Cutter___init__ : Value} (a_Cutter___init__ : PySem.W.findIn K (.ref C_Cutter) "__init__" = some (some (.ref f_Cutter___init__))) (i_Cutter___init__ : PySem.W.isFn K (.ref f_Cutter___init__) = true) (l_Cutter___init__ : K.lookup f_Cutter___init__ = some ⟨oc_Cutter___init__, od_Cutter___init__, .func (PySem.W.fnOf "__init__" "Cutter.__init__" (defArgs s_Cutter___init__) (defBody s_Cutter___init__) (defScope s_Cutter___init__) .none kV_Cutter___init__ dc_Cutter___init__ pm_Cutter___init__ an_Cutter___init__ cd_Cutter___init__ ct_Cutter___init__), sl_Cutter___init__⟩) (c_Cutter___init__ : PySem.W.codeIn K cd_Cutter___init__ "Cutter.__init__" = true) (k_Cutter___init__ : PySem.W.keepIn K (.ref f_Cutter___init__) = true)
    (mk_Cutter : PySem.W.makesIn K C_Cutter = true)
    {p_Cutter_of : Addr} {r_Cutter_of : List Value}
    {f_Cutter_of : Addr} {od_Cutter_of an_Cutter_of : Option Addr} {sl_Cutter_of : Array (Option Value)} {oc_Cutter_of kV_Cutter_of dc_Cutter_of pm_Cutter_of cd_Cutter_of ct_Cutter_of : Value} (a_Cutter_of : PySem.W.findCls K (.ref C_Cutter) (.type "type") "of" = some (.get (.builtin "classmethod.__get__") (.ref p_Cutter_of) .none (.ref C_Cutter))) (e_Cutter_of : PySem.W.recIn K p_Cutter_of "classmethod" = some (.ref f_Cutter_of :: r_Cutter_of)) (i_Cutter_of : PySem.W.fnIn K f_Cutter_of = true) (l_Cutter_of : K.lookup f_Cutter_of = some ⟨oc_Cutter_of, od_Cutter_of, .func (PySem.W.fnOf "of" "Cutter.of" (defArgs s_Cutter_of) (defBody s_Cutter_of) (defScope s_Cutter_of) .none kV_Cutter_of dc_Cutter_of pm_Cutter_of an_Cutter_of cd_Cutter_of ct_Cutter_of), sl_Cutter_of⟩) (c_Cutter_of : PySem.W.codeIn K cd_Cutter_of "Cutter.of" = true) (k_Cutter_of : PySem.W.keepIn K (.ref f_Cutter_of) = true)
    {p_Cutter_parts : Addr} {r_Cutter_parts : List Value}
    {f_Cutter_parts : Addr} {od_Cutter_parts an_Cutter_parts : Option Addr} {sl_Cutter_parts : Array (Option Value)} {oc_Cutter_parts kV_Cutter_parts dc_Cutter_parts pm_Cutter_parts cd_Cutter_parts ct_Cutter_parts : Value} (a_Cutter_parts : PySem.W.findIn K (.ref C_Cutter) "parts" = some (some (.ref p_Cutter_parts))) (g_Cutter_parts : PySem.W.specialIn K (.ref p_Cutter_parts) "__get__" = some (some (.builtin "property.__get__"))) (h_Cutter_parts : PySem.W.takesIn K (.ref p_Cutter_parts) = some true) (e_Cutter_parts : PySem.W.recIn K p_Cutter_parts "property" = some (.ref f_Cutter_parts :: r_Cutter_parts)) (l_Cutter_parts : K.lookup f_Cutter_parts = some ⟨oc_Cutter_parts, od_Cutter_parts, .func (PySem.W.fnOf "parts" "Cutter.parts" (defArgs s_Cutter_parts) (defBody s_Cutter_parts) (defScope s_Cutter_parts) .none kV_Cutter_parts dc_Cutter_parts pm_Cutter_parts an_Cutter_parts cd_Cutter_parts ct_Cutter_parts), sl_Cutter_parts⟩) (c_Cutter_parts : PySem.W.codeIn K cd_Cutter_parts "Cutter.parts" = true) (k_Cutter_parts : PySem.W.keepIn K (.ref f_Cutter_parts) = true)
    {p_Cutter_keeps_all : Addr} {r_Cutter_keeps_all : List Value}
    {f_Cutter_keeps_all : Addr} {od_Cutter_keeps_all an_Cutter_keeps_all : Option Addr} {sl_Cutter_keeps_all : Array (Option Value)} {oc_Cutter_keeps_all kV_Cutter_keeps_all dc_Cutter_keeps_all pm_Cutter_keeps_all cd_Cutter_keeps_all ct_Cutter_keeps_all : Value} (a_Cutter_keeps_all : PySem.W.findIn K (.ref C_Cutter) "keeps_all" = some (some (.ref p_Cutter_keeps_all))) (g_Cutter_keeps_all : PySem.W.specialIn K (.ref p_Cutter_keeps_all) "__get__" = some (some (.builtin "property.__get__"))) (h_Cutter_keeps_all : PySem.W.takesIn K (.ref p_Cutter_keeps_all) = some true) (e_Cutter_keeps_all : PySem.W.recIn K p_Cutter_keeps_all "property" = some (.ref f_Cutter_keeps_all :: r_Cutter_keeps_all)) (l_Cutter_keeps_all : K.lookup f_Cutter_keeps_all = some ⟨oc_Cutter_keeps_all, od_Cutter_keeps_all, .func (PySem.W.fnOf "keeps_all" "Cutter.keeps_all" (defArgs s_Cutter_keeps_all) (defBody s_Cutter_keeps_all) (defScope s_Cutter_keeps_all) .none kV_Cutter_keeps_all dc_Cutter_keeps_all pm_Cutter_keeps_all an_Cutter_keeps_all cd_Cutter_keeps_all ct_Cutter_keeps_all), sl_Cutter_keeps_all⟩) (c_Cutter_keeps_all : PySem.W.codeIn K cd_Cutter_keeps_all "Cutter.keeps_all" = true) (k_Cutter_keeps_all : PySem.W.keepIn K (.ref f_Cutter_keeps_all) = true)
    {f_Cutter_places : Addr} {od_Cutter_places an_Cutter_places : Option Addr} {sl_Cutter_places : Array (Option Value)} {oc_Cutter_places kV_Cutter_places dc_Cutter_places pm_Cutter_places cd_Cutter_places ct_Cutter_places : Value} (a_Cutter_places : PySem.W.findIn K (.ref C_Cutter) "places" = some (some (.ref f_Cutter_places))) (i_Cutter_places : PySem.W.isFn K (.ref f_Cutter_places) = true) (l_Cutter_places : K.lookup f_Cutter_places = some ⟨oc_Cutter_places, od_Cutter_places, .func (PySem.W.fnOf "places" "Cutter.places" (defArgs s_Cutter_places) (defBody s_Cutter_places) (defScope s_Cutter_places) .none kV_Cutter_places dc_Cutter_places pm_Cutter_places an_Cutter_places cd_Cutter_places ct_Cutter_places), sl_Cutter_places⟩) (c_Cutter_places : PySem.W.codeIn K cd_Cutter_places "Cutter.places" = true) (k_Cutter_places : PySem.W.keepIn K (.ref f_Cutter_places) = true)
    {f_Cutter_is_within : Addr} {od_Cutter_is_within an_Cutter_is_within : Option Addr} {sl_Cutter_is_within : Array (Option Value)} {oc_Cutter_is_within kV_Cutter_is_within dc_Cutter_is_within pm_Cutter_is_within cd_Cutter_is_within ct_Cutter_is_within : Value} (a_Cutter_is_within : PySem.W.findIn K (.ref C_Cutter) "is_within" = some (some (.ref f_Cutter_is_within))) (i_Cutter_is_within : PySem.W.isFn K (.ref f_Cutter_is_within) = true) (l_Cutter_is_within : K.lookup f_Cutter_is_within = some ⟨oc_Cutter_is_within, od_Cutter_is_within, .func (PySem.W.fnOf "is_within" "Cutter.is_within" (defArgs s_Cutter_is_within) (defBody s_Cutter_is_within) (defScope s_Cutter_is_within) .none kV_Cutter_is_within dc_Cutter_is_within pm_Cutter_is_within an_Cutter_is_within cd_Cutter_is_within ct_Cutter_is_within), sl_Cutter_is_within⟩) (c_Cutter_is_within : PySem.W.codeIn K cd_Cutter_is_within "Cutter.is_within" = true) (k_Cutter_is_within : PySem.W.keepIn K (.ref f_Cutter_is_within) = true)
    {f_Cutter___call__ : Addr} {od_Cutter___call__ an_Cutter___call__ : Option Addr} {sl_Cutter___call__ : Array (Option Value)} {oc_Cutter___call__ kV_Cutter___call__ dc_Cutter___call__ pm_Cutter___call__ cd_Cutter___call__ ct_Cutter___call__ : Value} (a_Cutter___call__ : PySem.W.findIn K (.ref C_Cutter) "__call__" = some (some (.ref f_Cutter___call__))) (i_Cutter___call__ : PySem.W.isFn K (.ref f_Cutter___call__) = true) (l_Cutter___call__ : K.lookup f_Cutter___call__ = some ⟨oc_Cutter___call__, od_Cutter___call__, .func (PySem.W.fnOf "__call__" "Cutter.__call__" (defArgs s_Cutter___call__) (defBody s_Cutter___call__) (defScope s_Cutter___call__) .none kV_Cutter___call__ dc_Cutter___call__ pm_Cutter___call__ an_Cutter___call__ cd_Cutter___call__ ct_Cutter___call__), sl_Cutter___call__⟩) (c_Cutter___call__ : PySem.W.codeIn K cd_Cutter___call__ "Cutter.__call__" = true) (k_Cutter___call__ : PySem.W.keepIn K (.ref f_Cutter___call__) = true)
    (fi_Cutter___call__ : PySem.W.fnIn K f_Cutter___call__ = true)
    {f_Cutter___rshift__ : Addr} {od_Cutter___rshift__ an_Cutter___rshift__ : Option Addr} {sl_Cutter___rshift__ : Array (Option Value)} {oc_Cutter___rshift__ kV_Cutter___rshift__ dc_Cutter___rshift__ pm_Cutter___rshift__ cd_Cutter___rshift__ ct_Cutter___rshift__ : Value} (a_Cutter___rshift__ : PySem.W.findIn K (.ref C_Cutter) "__rshift__" = some (some (.ref f_Cutter___rshift__))) (i_Cutter___rshift__ : PySem.W.isFn K (.ref f_Cutter___rshift__) = true) (l_Cutter___rshift__ : K.lookup f_Cutter___rshift__ = some ⟨oc_Cutter___rshift__, od_Cutter___rshift__, .func (PySem.W.fnOf "__rshift__" "Cutter.__rshift__" (defArgs s_Cutter___rshift__) (defBody s_Cutter___rshift__) (defScope s_Cutter___rshift__) .none kV_Cutter___rshift__ dc_Cutter___rshift__ pm_Cutter___rshift__ an_Cutter___rshift__ cd_Cutter___rshift__ ct_Cutter___rshift__), sl_Cutter___rshift__⟩) (c_Cutter___rshift__ : PySem.W.codeIn K cd_Cutter___rshift__ "Cutter.__rshift__" = true) (k_Cutter___rshift__ : PySem.W.keepIn K (.ref f_Cutter___rshift__) = true)
    {f_Cutter___len__ : Addr} {od_Cutter___len__ an_Cutter___len__ : Option Addr} {sl_Cutter___len__ : Array (Option Value)} {oc_Cutter___len__ kV_Cutter___len__ dc_Cutter___len__ pm_Cutter___len__ cd_Cutter___len__ ct_Cutter___len__ : Value} (a_Cutter___len__ : PySem.W.findIn K (.ref C_Cutter) "__len__" = some (some (.ref f_Cutter___len__))) (i_Cutter___len__ : PySem.W.isFn K (.ref f_Cutter___len__) = true) (l_Cutter___len__ : K.lookup f_Cutter___len__ = some ⟨oc_Cutter___len__, od_Cutter___len__, .func (PySem.W.fnOf "__len__" "Cutter.__len__" (defArgs s_Cutter___len__) (defBody s_Cutter___len__) (defScope s_Cutter___len__) .none kV_Cutter___len__ dc_Cutter___len__ pm_Cutter___len__ an_Cutter___len__ cd_Cutter___len__ ct_Cutter___len__), sl_Cutter___len__⟩) (c_Cutter___len__ : PySem.W.codeIn K cd_Cutter___len__ "Cutter.__len__" = true) (k_Cutter___len__ : PySem.W.keepIn K (.ref f_Cutter___len__) = true)
    {f_Cutter___eq__ : Addr} {od_Cutter___eq__ an_Cutter___eq__ : Option Addr} {sl_Cutter___eq__ : Array (Option Value)} {oc_Cutter___eq__ kV_Cutter___eq__ dc_Cutter___eq__ pm_Cutter___eq__ cd_Cutter___eq__ ct_Cutter___eq__ : Value} (a_Cutter___eq__ : PySem.W.findIn K (.ref C_Cutter) "__eq__" = some (some (.ref f_Cutter___eq__))) (i_Cutter___eq__ : PySem.W.isFn K (.ref f_Cutter___eq__) = true) (l_Cutter___eq__ : K.lookup f_Cutter___eq__ = some ⟨oc_Cutter___eq__, od_Cutter___eq__, .func (PySem.W.fnOf "__eq__" "Cutter.__eq__" (defArgs s_Cutter___eq__) (defBody s_Cutter___eq__) (defScope s_Cutter___eq__) .none kV_Cutter___eq__ dc_Cutter___eq__ pm_Cutter___eq__ an_Cutter___eq__ cd_Cutter___eq__ ct_Cutter___eq__), sl_Cutter___eq__⟩) (c_Cutter___eq__ : PySem.W.codeIn K cd_Cutter___eq__ "Cutter.__eq__" = true) (k_Cutter___eq__ : PySem.W.keepIn K (.ref f_Cutter___eq__) = true)
    {f_Cutter___str__ : Addr} {od_Cutter___str__ an_Cutter___str__ : Option Addr} {sl_Cutter___str__ : Array (Option Value)} {oc_Cutter___str__ kV_Cutter___str__ dc_Cutter___str__ pm_Cutter___str__ cd_Cutter___str__ ct_Cutter___str__ : Value} (a_Cutter___str__ : PySem.W.findIn K (.ref C_Cutter) "__str__" = some (some (.ref f_Cutter___str__))) (i_Cutter___str__ : PySem.W.isFn K (.ref f_Cutter___str__) = true) (l_Cutter___str__ : K.lookup f_Cutter___str__ = some ⟨oc_Cutter___str__, od_Cutter___str__, .func (PySem.W.fnOf "__str__" "Cutter.__str__" (defArgs s_Cutter___str__) (defBody s_Cutter___str__) (defScope s_Cutter___str__) .none kV_Cutter___str__ dc_Cutter___str__ pm_Cutter___str__ an_Cutter___str__ cd_Cutter___str__ ct_Cutter___str__), sl_Cutter___str__⟩) (c_Cutter___str__ : PySem.W.codeIn K cd_Cutter___str__ "Cutter.__str__" = true) (k_Cutter___str__ : PySem.W.keepIn K (.ref f_Cutter___str__) = true)
    (n_Cutter_own_parts : PySem.W.findIn K (.ref C_Cutter) "own_parts" = some none)
    (n_Cutter_own_tables : PySem.W.findIn K (.ref C_Cutter) "own_tables" = some none)
    (n_Cutter_own_is_whole : PySem.W.findIn K (.ref C_Cutter) "own_is_whole" = some none)
    {C_LetterError : Addr} (aC_LetterError : PySem.W.nsIn K mainGlobals "LetterError" = some (some (.ref C_LetterError)))
    (kp_LetterError : PySem.W.keepIn K (.ref C_LetterError) = true)
    (sb_LetterError : PySem.W.subIn K (.ref C_LetterError) (.type "BaseException") = some true)
    (ty_LetterError : PySem.W.typeIn K (.ref C_LetterError) = some (.type "type"))
    (hd_LetterError : PySem.W.hasDictIn K C_LetterError = true)
    (xi_LetterError : PySem.W.excIn K C_LetterError [.type "ValueError", .type "Exception", .type "BaseException", .type "object"] "ValueError.__new__" = true)
    {C_InvalidCutter : Addr} (aC_InvalidCutter : PySem.W.nsIn K mainGlobals "InvalidCutter" = some (some (.ref C_InvalidCutter)))
    (kp_InvalidCutter : PySem.W.keepIn K (.ref C_InvalidCutter) = true)
    (sb_InvalidCutter : PySem.W.subIn K (.ref C_InvalidCutter) (.type "BaseException") = some true)
    (ty_InvalidCutter : PySem.W.typeIn K (.ref C_InvalidCutter) = some (.type "type"))
    (hd_InvalidCutter : PySem.W.hasDictIn K C_InvalidCutter = true)
    (xi_InvalidCutter : PySem.W.excIn K C_InvalidCutter [.type "ValueError", .type "Exception", .type "BaseException", .type "object"] "ValueError.__new__" = true)
    {C_InvalidOperation : Addr} (aC_InvalidOperation : PySem.W.nsIn K mainGlobals "InvalidOperation" = some (some (.ref C_InvalidOperation)))
    (kp_InvalidOperation : PySem.W.keepIn K (.ref C_InvalidOperation) = true)
    (sb_InvalidOperation : PySem.W.subIn K (.ref C_InvalidOperation) (.type "BaseException") = some true)
    (ty_InvalidOperation : PySem.W.typeIn K (.ref C_InvalidOperation) = some (.type "type"))
    (hd_InvalidOperation : PySem.W.hasDictIn K C_InvalidOperation = true)
    (xi_InvalidOperation : PySem.W.excIn K C_InvalidOperation [.type "ValueError", .type "Exception", .type "BaseException", .type "object"] "ValueError.__new__" = true)
    {C_InvalidNumber : Addr} (aC_InvalidNumber : PySem.W.nsIn K mainGlobals "InvalidNumber" = some (some (.ref C_InvalidNumber)))
    (kp_InvalidNumber : PySem.W.keepIn K (.ref C_InvalidNumber) = true)
    (sb_InvalidNumber : PySem.W.subIn K (.ref C_InvalidNumber) (.type "BaseException") = some true)
    (ty_InvalidNumber : PySem.W.typeIn K (.ref C_InvalidNumber) = some (.type "type"))
    (hd_InvalidNumber : PySem.W.hasDictIn K C_InvalidNumber = true)
    {f_InvalidNumber : Addr} {nm_InvalidNumber q_InvalidNumber : Str} {N_InvalidNumber : Addr} {bs_InvalidNumber : List Value} {sn_InvalidNumber : List Str} {su_InvalidNumber : List Value} {ab_InvalidNumber : Bool} {co_InvalidNumber : Option Bool} {dd_InvalidNumber : Option Addr} {k0_InvalidNumber k1_InvalidNumber k2_InvalidNumber k3_InvalidNumber k5_InvalidNumber : Option Value} {oc_InvalidNumber dc_InvalidNumber pm_InvalidNumber ct_InvalidNumber kV_InvalidNumber cl_InvalidNumber ccl_InvalidNumber : Value} {od_InvalidNumber an_InvalidNumber cld_InvalidNumber cdd_InvalidNumber : Option Addr} {cda_InvalidNumber cc_InvalidNumber : Addr} {osl_InvalidNumber csl_InvalidNumber ccs_InvalidNumber : Array (Option Value)} {vs_InvalidNumber : Array Value} {file_InvalidNumber : Str} {tf_InvalidNumber : Tok}
    (lk_InvalidNumber : K.lookup C_InvalidNumber = some (excClassObj nm_InvalidNumber q_InvalidNumber C_InvalidNumber N_InvalidNumber bs_InvalidNumber [.type "RuntimeError", .type "Exception", .type "BaseException", .type "object"] true sn_InvalidNumber su_InvalidNumber ab_InvalidNumber co_InvalidNumber dd_InvalidNumber k0_InvalidNumber k1_InvalidNumber k2_InvalidNumber k3_InvalidNumber k5_InvalidNumber "RuntimeError.__new__"))
    (sa_InvalidNumber : PySem.W.findIn K (.ref C_InvalidNumber) "__setattr__" = some (some (.builtin "object.__setattr__")))
    (nf_InvalidNumber : PySem.W.findIn K (.ref C_InvalidNumber) "value" = some none)
    (ini_InvalidNumber : PySem.W.findIn K (.ref C_InvalidNumber) "__init__" = some (some (.ref f_InvalidNumber)))
    (tyf_InvalidNumber : PySem.W.typeIn K (.ref f_InvalidNumber) = some (.type "function"))
    (subB_InvalidNumber : PySem.W.subIn K (.ref C_InvalidNumber) (.type "RuntimeError") = some true)
    (subC_InvalidNumber : PySem.W.subIn K (.ref C_InvalidNumber) (.ref C_InvalidNumber) = some true)
    (op_InvalidNumber : PySem.W.nsIn K cStatics "thirdparty.any" = some none)
    (sup_InvalidNumber : PySem.W.nsIn K mainGlobals "super" = some none)
    (lf_InvalidNumber : K.lookup f_InvalidNumber = some ⟨oc_InvalidNumber, od_InvalidNumber, .func (PySem.W.ksFn "__init__" "InvalidNumber.__init__" (defArgs s_InvalidNumber___init__) (defBody s_InvalidNumber___init__) (defScope s_InvalidNumber___init__) .none kV_InvalidNumber dc_InvalidNumber pm_InvalidNumber an_InvalidNumber (.ref cda_InvalidNumber) ct_InvalidNumber cc_InvalidNumber), osl_InvalidNumber⟩)
    (cd_InvalidNumber : PySem.W.codeIn K (.ref cda_InvalidNumber) "InvalidNumber.__init__" = true)
    (lcd_InvalidNumber : K.lookup cda_InvalidNumber = some ⟨ccl_InvalidNumber, cdd_InvalidNumber, .fields vs_InvalidNumber, ccs_InvalidNumber⟩)
    (vs2_InvalidNumber : vs_InvalidNumber[2]? = some (.str file_InvalidNumber tf_InvalidNumber))
    (fi_InvalidNumber : ((l.prog.main.file : Str) == file_InvalidNumber) = true)
    (lcc_InvalidNumber : K.lookup cc_InvalidNumber = some ⟨cl_InvalidNumber, cld_InvalidNumber, .cell (some (.ref C_InvalidNumber)), csl_InvalidNumber⟩)
    (top_InvalidNumber : (l.prog.main.scope.names.lookup ("super" : Str)).isSome = false)
    (ga_InvalidNumber : PySem.W.findIn K (.ref C_InvalidNumber) "__getattribute__" = some (some (.builtin "BaseException.__getattribute__")))
    (gg_InvalidNumber : PySem.W.findIn K (.ref C_InvalidNumber) "__getattr__" = some none)
    {C_TooMany : Addr} (aC_TooMany : PySem.W.nsIn K mainGlobals "TooMany" = some (some (.ref C_TooMany)))
    (kp_TooMany : PySem.W.keepIn K (.ref C_TooMany) = true)
    (sb_TooMany : PySem.W.subIn K (.ref C_TooMany) (.type "BaseException") = some true)
    (ty_TooMany : PySem.W.typeIn K (.ref C_TooMany) = some (.type "type"))
    (hd_TooMany : PySem.W.hasDictIn K C_TooMany = true)
    {f_TooMany : Addr} {nm_TooMany q_TooMany : Str} {N_TooMany : Addr} {bs_TooMany : List Value} {sn_TooMany : List Str} {su_TooMany : List Value} {ab_TooMany : Bool} {co_TooMany : Option Bool} {dd_TooMany : Option Addr} {k0_TooMany k1_TooMany k2_TooMany k3_TooMany k5_TooMany : Option Value} {oc_TooMany dc_TooMany pm_TooMany ct_TooMany kV_TooMany cl_TooMany ccl_TooMany : Value} {od_TooMany an_TooMany cld_TooMany cdd_TooMany : Option Addr} {cda_TooMany cc_TooMany : Addr} {osl_TooMany csl_TooMany ccs_TooMany : Array (Option Value)} {vs_TooMany : Array Value} {file_TooMany : Str} {tf_TooMany : Tok}
    (lk_TooMany : K.lookup C_TooMany = some (excClassObj nm_TooMany q_TooMany C_TooMany N_TooMany bs_TooMany [.type "OverflowError", .type "ArithmeticError", .type "Exception", .type "BaseException", .type "object"] true sn_TooMany su_TooMany ab_TooMany co_TooMany dd_TooMany k0_TooMany k1_TooMany k2_TooMany k3_TooMany k5_TooMany "OverflowError.__new__"))
    (sa_TooMany : PySem.W.findIn K (.ref C_TooMany) "__setattr__" = some (some (.builtin "object.__setattr__")))
    (nf_TooMany : PySem.W.findIn K (.ref C_TooMany) "limit" = some none)
    (ini_TooMany : PySem.W.findIn K (.ref C_TooMany) "__init__" = some (some (.ref f_TooMany)))
    (tyf_TooMany : PySem.W.typeIn K (.ref f_TooMany) = some (.type "function"))
    (subB_TooMany : PySem.W.subIn K (.ref C_TooMany) (.type "OverflowError") = some true)
    (subC_TooMany : PySem.W.subIn K (.ref C_TooMany) (.ref C_TooMany) = some true)
    (op_TooMany : PySem.W.nsIn K cStatics "thirdparty.any" = some none)
    (sup_TooMany : PySem.W.nsIn K mainGlobals "super" = some none)
    (lf_TooMany : K.lookup f_TooMany = some ⟨oc_TooMany, od_TooMany, .func (PySem.W.ksFn "__init__" "TooMany.__init__" (defArgs s_TooMany___init__) (defBody s_TooMany___init__) (defScope s_TooMany___init__) .none kV_TooMany dc_TooMany pm_TooMany an_TooMany (.ref cda_TooMany) ct_TooMany cc_TooMany), osl_TooMany⟩)
    (cd_TooMany : PySem.W.codeIn K (.ref cda_TooMany) "TooMany.__init__" = true)
    (lcd_TooMany : K.lookup cda_TooMany = some ⟨ccl_TooMany, cdd_TooMany, .fields vs_TooMany, ccs_TooMany⟩)
    (vs2_TooMany : vs_TooMany[2]? = some (.str file_TooMany tf_TooMany))
    (fi_TooMany : ((l.prog.main.file : Str) == file_TooMany) = true)
    (lcc_TooMany : K.lookup cc_TooMany = some ⟨cl_TooMany, cld_TooMany, .cell (some (.ref C_TooMany)), csl_TooMany⟩)
    (top_TooMany : (l.prog.main.scope.names.lookup ("super" : Str)).isSome = false)
    (ga_TooMany : PySem.W.findIn K (.ref C_TooMany) "__getattribute__" = some (some (.builtin "BaseException.__getattribute__")))
    (gg_TooMany : PySem.W.findIn K (.ref C_TooMany) "__getattr__" = some none)
    (es_LetterError_TooMany : PySem.W.subIn K (.ref C_LetterError) (.ref C_TooMany) = some false)
    (es_InvalidCutter_TooMany : PySem.W.subIn K (.ref C_InvalidCutter) (.ref C_TooMany) = some false)
    (es_InvalidOperation_TooMany : PySem.W.subIn K (.ref C_InvalidOperation) (.ref C_TooMany) = some false)
    (es_InvalidNumber_TooMany : PySem.W.subIn K (.ref C_InvalidNumber) (.ref C_TooMany) = some false)
    (es_TooMany_TooMany : PySem.W.subIn K (.ref C_TooMany) (.ref C_TooMany) = some true)
    (ne_Known_Cutter : C_Known ≠ C_Cutter) (su_Known_Cutter : PySem.W.subIn K (.ref C_Known) (.ref C_Cutter) = some false)
    (nf_Known_Cutter : PySem.W.notFirst K C_Known (.ref C_Cutter) = true)
    (ne_Cutter_Known : C_Cutter ≠ C_Known) (su_Cutter_Known : PySem.W.subIn K (.ref C_Cutter) (.ref C_Known) = some false)
    (nf_Cutter_Known : PySem.W.notFirst K C_Cutter (.ref C_Known) = true) :
    ∃ fd : FuncData, (∀ (s : Shared) (v : Value), BindsTo s fd ⟨[v], []⟩ [("_law_script", v)]) ∧ ∀ base : Heap, FnG l.prog w K mg base 10 fa fd ["_law_script"] (spD K PreLaw) := by
  have e := hfa.symm.trans (PySem.W.mg_of X G a_law)
  cases e
  have T : Tx l.prog K mg { C_LetterError := C_LetterError, C_InvalidCutter := C_InvalidCutter, C_InvalidOperation := C_InvalidOperation, C_InvalidNumber := C_InvalidNumber, f_InvalidNumber := f_InvalidNumber, C_TooMany := C_TooMany, f_TooMany := f_TooMany, C_Known := C_Known, f_Known___init__ := f_Known___init__, C_Cutter := C_Cutter, f_Cutter___init__ := f_Cutter___init__, p_Cutter_of := p_Cutter_of, f_Cutter_of := f_Cutter_of, p_Cutter_parts := p_Cutter_parts, f_Cutter_parts := f_Cutter_parts, p_Cutter_keeps_all := p_Cutter_keeps_all, f_Cutter_keeps_all := f_Cutter_keeps_all, f_Cutter_places := f_Cutter_places, f_Cutter_is_within := f_Cutter_is_within, f_Cutter___call__ := f_Cutter___call__, f_Cutter___rshift__ := f_Cutter___rshift__, f_Cutter___len__ := f_Cutter___len__, f_Cutter___eq__ := f_Cutter___eq__, f_Cutter___str__ := f_Cutter___str__ } :=
    {
      m_isinstance := PySem.W.mg_none_of X G z_isinstance
      m_int := PySem.W.mg_none_of X G z_int
      m_bool := PySem.W.mg_none_of X G z_bool
      m_all := PySem.W.mg_none_of X G z_all
      m_len := PySem.W.mg_none_of X G z_len
      m_str := PySem.W.mg_none_of X G z_str
      m_list := PySem.W.mg_none_of X G z_list
      m_range := PySem.W.mg_none_of X G z_range
      m_enumerate := PySem.W.mg_none_of X G z_enumerate
      m_tuple := PySem.W.mg_none_of X G z_tuple
      m_max := PySem.W.mg_none_of X G z_max
      m_abs := PySem.W.mg_none_of X G z_abs
      m_min := PySem.W.mg_none_of X G z_min
      m_repr := PySem.W.mg_none_of X G z_repr
      g_MAX_PARTS := ⟨_, PySem.W.mg_of X G y_MAX_PARTS, r_MAX_PARTS⟩
      g_MAX_ROW := ⟨_, PySem.W.mg_of X G y_MAX_ROW, r_MAX_ROW⟩
      g_MOST_FRONT := ⟨_, PySem.W.mg_of X G y_MOST_FRONT, r_MOST_FRONT⟩
      g_MOST_BACK := ⟨_, PySem.W.mg_of X G y_MOST_BACK, r_MOST_BACK⟩
      g_FEW := ⟨_, PySem.W.mg_of X G y_FEW, r_FEW⟩
      g_WHOLE := ⟨_, PySem.W.mg_of X G y_WHOLE, r_WHOLE⟩
      g_GAP := ⟨_, PySem.W.mg_of X G y_GAP, r_GAP⟩
      D_is_integer := ⟨_, _, fun_mk (st := s_is_integer) l_is_integer c_is_integer k_is_integer, (fun_mk (st := s_is_integer) l_is_integer c_is_integer k_is_integer).binds fun _ _ _ _ _ _ us hl => match us, hl with | [_], _ => rfl, PySem.W.mg_of X G a_is_integer⟩
      D_require_number := (by
          have FD : FunD K "require_number" "require_number" (defArgs s_require_number) (defBody s_require_number) (defScope s_require_number) [.non] [] f_require_number _ := ⟨⟨_, _, _, _, _, _, _, _, _, _, rfl, l_require_number, c_require_number, .inr ⟨by simp, tt_require_number, _, [Value.none], _, rfl, t_require_number, rfl, .cons rfl .nil⟩, .inl rfl⟩, k_require_number⟩
          obtain ⟨ds, hv, hb⟩ := FD.binds1 (ps := ["value", "least", "most"]) 3 1 (by simp) rfl (fun _ _ _ _ _ _ _ us its h1 h2 => match us, h1, its, h2 with | [_, _, _], _, [_], _ => ⟨_, rfl, rfl⟩)
          cases hv
          exact ⟨_, _, _, FD, hb, PySem.W.mg_of X G a_require_number⟩)
      D_are_signs := ⟨_, _, fun_mk (st := s_are_signs) l_are_signs c_are_signs k_are_signs, (fun_mk (st := s_are_signs) l_are_signs c_are_signs k_are_signs).binds fun _ _ _ _ _ _ us hl => match us, hl with | [_, _], _ => rfl, PySem.W.mg_of X G a_are_signs⟩
      D_is_part := ⟨_, _, fun_mk (st := s_is_part) l_is_part c_is_part k_is_part, (fun_mk (st := s_is_part) l_is_part c_is_part k_is_part).binds fun _ _ _ _ _ _ us hl => match us, hl with | [_], _ => rfl, PySem.W.mg_of X G a_is_part⟩
      D_part_places := ⟨_, _, fun_mk (st := s_part_places) l_part_places c_part_places k_part_places, (fun_mk (st := s_part_places) l_part_places c_part_places k_part_places).binds fun _ _ _ _ _ _ us hl => match us, hl with | [_, _], _ => rfl, PySem.W.mg_of X G a_part_places⟩
      D_chain_places := ⟨_, _, fun_mk (st := s_chain_places) l_chain_places c_chain_places k_chain_places, (fun_mk (st := s_chain_places) l_chain_places c_chain_places k_chain_places).binds fun _ _ _ _ _ _ us hl => match us, hl with | [_, _], _ => rfl, PySem.W.mg_of X G a_chain_places⟩
      D_kept_places := ⟨_, _, fun_mk (st := s_kept_places) l_kept_places c_kept_places k_kept_places, (fun_mk (st := s_kept_places) l_kept_places c_kept_places k_kept_places).binds fun _ _ _ _ _ _ us hl => match us, hl with | [_, _], _ => rfl, PySem.W.mg_of X G a_kept_places⟩
      D_cut := ⟨_, _, fun_mk (st := s_cut) l_cut c_cut k_cut, (fun_mk (st := s_cut) l_cut c_cut k_cut).binds fun _ _ _ _ _ _ us hl => match us, hl with | [_, _], _ => rfl, PySem.W.mg_of X G a_cut⟩
      D_chained := ⟨_, _, fun_mk (st := s_chained) l_chained c_chained k_chained, (fun_mk (st := s_chained) l_chained c_chained k_chained).binds fun _ _ _ _ _ _ us hl => match us, hl with | [_, _], _ => rfl, PySem.W.mg_of X G a_chained⟩
      D_require_cutter := ⟨_, _, fun_mk (st := s_require_cutter) l_require_cutter c_require_cutter k_require_cutter, (fun_mk (st := s_require_cutter) l_require_cutter c_require_cutter k_require_cutter).binds fun _ _ _ _ _ _ us hl => match us, hl with | [_], _ => rfl, PySem.W.mg_of X G a_require_cutter⟩
      D__law_dice := ⟨_, _, fun_mk (st := s__law_dice) l__law_dice c__law_dice k__law_dice, (fun_mk (st := s__law_dice) l__law_dice c__law_dice k__law_dice).binds fun _ _ _ _ _ _ us hl => match us, hl with | [_, _], _ => rfl, PySem.W.mg_of X G a__law_dice⟩
      D__law_roll := ⟨_, _, fun_mk (st := s__law_roll) l__law_roll c__law_roll k__law_roll, (fun_mk (st := s__law_roll) l__law_roll c__law_roll k__law_roll).binds fun _ _ _ _ _ _ us hl => match us, hl with | [_, _], _ => rfl, PySem.W.mg_of X G a__law_roll⟩
      D__law_one_of := ⟨_, _, fun_mk (st := s__law_one_of) l__law_one_of c__law_one_of k__law_one_of, (fun_mk (st := s__law_one_of) l__law_one_of c__law_one_of k__law_one_of).binds fun _ _ _ _ _ _ us hl => match us, hl with | [_, _], _ => rfl, PySem.W.mg_of X G a__law_one_of⟩
      D__law_signs := ⟨_, _, fun_mk (st := s__law_signs) l__law_signs c__law_signs k__law_signs, (fun_mk (st := s__law_signs) l__law_signs c__law_signs k__law_signs).binds fun _ _ _ _ _ _ us hl => match us, hl with | [_, _], _ => rfl, PySem.W.mg_of X G a__law_signs⟩
      D__law_part := ⟨_, _, fun_mk (st := s__law_part) l__law_part c__law_part k__law_part, (fun_mk (st := s__law_part) l__law_part c__law_part k__law_part).binds fun _ _ _ _ _ _ us hl => match us, hl with | [_], _ => rfl, PySem.W.mg_of X G a__law_part⟩
      D__law_parts := ⟨_, _, fun_mk (st := s__law_parts) l__law_parts c__law_parts k__law_parts, (fun_mk (st := s__law_parts) l__law_parts c__law_parts k__law_parts).binds fun _ _ _ _ _ _ us hl => match us, hl with | [_, _], _ => rfl, PySem.W.mg_of X G a__law_parts⟩
      D__law_kept := ⟨_, _, fun_mk (st := s__law_kept) l__law_kept c__law_kept k__law_kept, (fun_mk (st := s__law_kept) l__law_kept c__law_kept k__law_kept).binds fun _ _ _ _ _ _ us hl => match us, hl with | [_, _], _ => rfl, PySem.W.mg_of X G a__law_kept⟩
      D__law_joined := ⟨_, _, fun_mk (st := s__law_joined) l__law_joined c__law_joined k__law_joined, (fun_mk (st := s__law_joined) l__law_joined c__law_joined k__law_joined).binds fun _ _ _ _ _ _ us hl => match us, hl with | [_, _], _ => rfl, PySem.W.mg_of X G a__law_joined⟩
      D__law_is := ⟨_, _, fun_mk (st := s__law_is) l__law_is c__law_is k__law_is, (fun_mk (st := s__law_is) l__law_is c__law_is k__law_is).binds fun _ _ _ _ _ _ us hl => match us, hl with | [_, _], _ => rfl, PySem.W.mg_of X G a__law_is⟩
      D__law_pair_right := ⟨_, _, fun_mk (st := s__law_pair_right) l__law_pair_right c__law_pair_right k__law_pair_right, (fun_mk (st := s__law_pair_right) l__law_pair_right c__law_pair_right k__law_pair_right).binds fun _ _ _ _ _ _ us hl => match us, hl with | [_, _, _, _], _ => rfl, PySem.W.mg_of X G a__law_pair_right⟩
      D__law_right := ⟨_, _, fun_mk (st := s__law_right) l__law_right c__law_right k__law_right, (fun_mk (st := s__law_right) l__law_right c__law_right k__law_right).binds fun _ _ _ _ _ _ us hl => match us, hl with | [_], _ => rfl, PySem.W.mg_of X G a__law_right⟩
      D_law := ⟨_, _, fun_mk (st := s_law) l_law c_law k_law, (fun_mk (st := s_law) l_law c_law k_law).binds fun _ _ _ _ _ _ us hl => match us, hl with | [_], _ => rfl, PySem.W.mg_of X G a_law⟩
      k_Known := klass_mk (PySem.W.mg_of X G aC_Known) pg_Known hd_Known po_Known sa_Known kc_Known ca_Known cn_Known ct_Known cm_Known crd_Known cga_Known qne_Known qob_Known nf0_Known nf1_Known nf2_Known nf3_Known nf4_Known nf5_Known nf6_Known ki0_Known ki1_Known ki2_Known ki3_Known ki4_Known ki5_Known ki6_Known isC_Known tyC_Known
      mro_Known := ⟨_, cdl_Known, cdm_Known⟩
      m_Known___init__ := ⟨a_Known___init__, i_Known___init__, k_Known___init__⟩
      mak_Known := ⟨mk_Known, a_Known___init__, i_Known___init__, kc_Known⟩
      D_Known___init__ := ⟨_, fun_mk (st := s_Known___init__) l_Known___init__ c_Known___init__ k_Known___init__, (fun_mk (st := s_Known___init__) l_Known___init__ c_Known___init__ k_Known___init__).binds fun _ _ _ _ _ _ us hl => match us, hl with | [_, _], _ => rfl⟩
      n_Known_own_parts := n_Known_own_parts
      k_Cutter := klass_mk (PySem.W.mg_of X G aC_Cutter) pg_Cutter hd_Cutter po_Cutter sa_Cutter kc_Cutter ca_Cutter cn_Cutter ct_Cutter cm_Cutter crd_Cutter cga_Cutter qne_Cutter qob_Cutter nf0_Cutter nf1_Cutter nf2_Cutter nf3_Cutter nf4_Cutter nf5_Cutter nf6_Cutter ki0_Cutter ki1_Cutter ki2_Cutter ki3_Cutter ki4_Cutter ki5_Cutter ki6_Cutter isC_Cutter tyC_Cutter
      mro_Cutter := ⟨_, cdl_Cutter, cdm_Cutter⟩
      m_Cutter___init__ := ⟨a_Cutter___init__, i_Cutter___init__, k_Cutter___init__⟩
      mak_Cutter := ⟨mk_Cutter, a_Cutter___init__, i_Cutter___init__, kc_Cutter⟩
      D_Cutter___init__ := ⟨_, fun_mk (st := s_Cutter___init__) l_Cutter___init__ c_Cutter___init__ k_Cutter___init__, StX.bind_star1 (B := fun xs => bindArgs (PySem.W.fnOf "__init__" "Cutter.__init__" (defArgs s_Cutter___init__) (defBody s_Cutter___init__) (defScope s_Cutter___init__) .none kV_Cutter___init__ dc_Cutter___init__ pm_Cutter___init__ an_Cutter___init__ cd_Cutter___init__ ct_Cutter___init__) ⟨xs, []⟩) (p1 := "self") (pv := "parts") (fun _ => rfl) (fun _ _ _ => rfl)⟩
      m_Cutter_of := ⟨a_Cutter_of, ⟨_, e_Cutter_of⟩, i_Cutter_of⟩
      D_Cutter_of := ⟨_, fun_mk (st := s_Cutter_of) l_Cutter_of c_Cutter_of k_Cutter_of, (fun_mk (st := s_Cutter_of) l_Cutter_of c_Cutter_of k_Cutter_of).binds fun _ _ _ _ _ _ us hl => match us, hl with | [_, _], _ => rfl⟩
      m_Cutter_parts := ⟨a_Cutter_parts, g_Cutter_parts, h_Cutter_parts, ⟨_, e_Cutter_parts⟩⟩
      D_Cutter_parts := ⟨_, fun_mk (st := s_Cutter_parts) l_Cutter_parts c_Cutter_parts k_Cutter_parts, (fun_mk (st := s_Cutter_parts) l_Cutter_parts c_Cutter_parts k_Cutter_parts).binds fun _ _ _ _ _ _ us hl => match us, hl with | [_], _ => rfl⟩
      m_Cutter_keeps_all := ⟨a_Cutter_keeps_all, g_Cutter_keeps_all, h_Cutter_keeps_all, ⟨_, e_Cutter_keeps_all⟩⟩
      D_Cutter_keeps_all := ⟨_, fun_mk (st := s_Cutter_keeps_all) l_Cutter_keeps_all c_Cutter_keeps_all k_Cutter_keeps_all, (fun_mk (st := s_Cutter_keeps_all) l_Cutter_keeps_all c_Cutter_keeps_all k_Cutter_keeps_all).binds fun _ _ _ _ _ _ us hl => match us, hl with | [_], _ => rfl⟩
      m_Cutter_places := ⟨a_Cutter_places, i_Cutter_places, k_Cutter_places⟩
      D_Cutter_places := ⟨_, fun_mk (st := s_Cutter_places) l_Cutter_places c_Cutter_places k_Cutter_places, (fun_mk (st := s_Cutter_places) l_Cutter_places c_Cutter_places k_Cutter_places).binds fun _ _ _ _ _ _ us hl => match us, hl with | [_, _], _ => rfl⟩
      m_Cutter_is_within := ⟨a_Cutter_is_within, i_Cutter_is_within, k_Cutter_is_within⟩
      D_Cutter_is_within := ⟨_, fun_mk (st := s_Cutter_is_within) l_Cutter_is_within c_Cutter_is_within k_Cutter_is_within, (fun_mk (st := s_Cutter_is_within) l_Cutter_is_within c_Cutter_is_within k_Cutter_is_within).binds fun _ _ _ _ _ _ us hl => match us, hl with | [_, _], _ => rfl⟩
      m_Cutter___call__ := ⟨a_Cutter___call__, i_Cutter___call__, k_Cutter___call__⟩
      call_Cutter := ⟨a_Cutter___call__, i_Cutter___call__, fi_Cutter___call__⟩
      D_Cutter___call__ := ⟨_, fun_mk (st := s_Cutter___call__) l_Cutter___call__ c_Cutter___call__ k_Cutter___call__, (fun_mk (st := s_Cutter___call__) l_Cutter___call__ c_Cutter___call__ k_Cutter___call__).binds fun _ _ _ _ _ _ us hl => match us, hl with | [_, _], _ => rfl⟩
      m_Cutter___rshift__ := ⟨a_Cutter___rshift__, i_Cutter___rshift__, k_Cutter___rshift__⟩
      D_Cutter___rshift__ := ⟨_, fun_mk (st := s_Cutter___rshift__) l_Cutter___rshift__ c_Cutter___rshift__ k_Cutter___rshift__, (fun_mk (st := s_Cutter___rshift__) l_Cutter___rshift__ c_Cutter___rshift__ k_Cutter___rshift__).binds fun _ _ _ _ _ _ us hl => match us, hl with | [_, _], _ => rfl⟩
      m_Cutter___len__ := ⟨a_Cutter___len__, i_Cutter___len__, k_Cutter___len__⟩
      D_Cutter___len__ := ⟨_, fun_mk (st := s_Cutter___len__) l_Cutter___len__ c_Cutter___len__ k_Cutter___len__, (fun_mk (st := s_Cutter___len__) l_Cutter___len__ c_Cutter___len__ k_Cutter___len__).binds fun _ _ _ _ _ _ us hl => match us, hl with | [_], _ => rfl⟩
      m_Cutter___eq__ := ⟨a_Cutter___eq__, i_Cutter___eq__, k_Cutter___eq__⟩
      D_Cutter___eq__ := ⟨_, fun_mk (st := s_Cutter___eq__) l_Cutter___eq__ c_Cutter___eq__ k_Cutter___eq__, (fun_mk (st := s_Cutter___eq__) l_Cutter___eq__ c_Cutter___eq__ k_Cutter___eq__).binds fun _ _ _ _ _ _ us hl => match us, hl with | [_, _], _ => rfl⟩
      m_Cutter___str__ := ⟨a_Cutter___str__, i_Cutter___str__, k_Cutter___str__⟩
      D_Cutter___str__ := ⟨_, fun_mk (st := s_Cutter___str__) l_Cutter___str__ c_Cutter___str__ k_Cutter___str__, (fun_mk (st := s_Cutter___str__) l_Cutter___str__ c_Cutter___str__ k_Cutter___str__).binds fun _ _ _ _ _ _ us hl => match us, hl with | [_], _ => rfl⟩
      n_Cutter_own_parts := n_Cutter_own_parts
      n_Cutter_own_tables := n_Cutter_own_tables
      n_Cutter_own_is_whole := n_Cutter_own_is_whole
      x_LetterError := ⟨PySem.W.mg_of X G aC_LetterError, xi_LetterError, kp_LetterError, sb_LetterError, ty_LetterError, hd_LetterError⟩
      x_InvalidCutter := ⟨PySem.W.mg_of X G aC_InvalidCutter, xi_InvalidCutter, kp_InvalidCutter, sb_InvalidCutter, ty_InvalidCutter, hd_InvalidCutter⟩
      x_InvalidOperation := ⟨PySem.W.mg_of X G aC_InvalidOperation, xi_InvalidOperation, kp_InvalidOperation, sb_InvalidOperation, ty_InvalidOperation, hd_InvalidOperation⟩
      x_InvalidNumber := ⟨PySem.W.mg_of X G aC_InvalidNumber, kp_InvalidNumber, sb_InvalidNumber, ty_InvalidNumber, hd_InvalidNumber, ⟨PySem.W.kxs_RuntimeError, PySem.F.excBase_RuntimeError, ⟨_, _, _, _, _, _, _, _, _, _, _, _, _, _, _, lk_InvalidNumber, (fun _ => rfl), (fun y => by rw [refuseLoop_ref]; exact PySem.F.store_RuntimeError.passes y), (by kernel_rfl), by decide +kernel⟩, sa_InvalidNumber, nf_InvalidNumber, ini_InvalidNumber, tyf_InvalidNumber, subB_InvalidNumber, subC_InvalidNumber, op_InvalidNumber, PySem.W.mg_none_of X G sup_InvalidNumber, ⟨_, _, _, _, _, _, _, _, _, _, _, _, _, _, _, _, _, _, _, _, lf_InvalidNumber, cd_InvalidNumber, lcd_InvalidNumber, vs2_InvalidNumber, fi_InvalidNumber, lcc_InvalidNumber⟩, top_InvalidNumber⟩, ⟨ga_InvalidNumber, gg_InvalidNumber, sb_InvalidNumber, hd_InvalidNumber⟩⟩
      n_InvalidNumber_value := nf_InvalidNumber
      x_TooMany := ⟨PySem.W.mg_of X G aC_TooMany, kp_TooMany, sb_TooMany, ty_TooMany, hd_TooMany, ⟨PySem.W.kxs_OverflowError, PySem.F.excBase_OverflowError, ⟨_, _, _, _, _, _, _, _, _, _, _, _, _, _, _, lk_TooMany, (fun _ => rfl), (fun y => by rw [refuseLoop_ref]; exact PySem.F.store_OverflowError.passes y), (by kernel_rfl), by decide +kernel⟩, sa_TooMany, nf_TooMany, ini_TooMany, tyf_TooMany, subB_TooMany, subC_TooMany, op_TooMany, PySem.W.mg_none_of X G sup_TooMany, ⟨_, _, _, _, _, _, _, _, _, _, _, _, _, _, _, _, _, _, _, _, lf_TooMany, cd_TooMany, lcd_TooMany, vs2_TooMany, fi_TooMany, lcc_TooMany⟩, top_TooMany⟩, ⟨ga_TooMany, gg_TooMany, sb_TooMany, hd_TooMany⟩⟩
      n_TooMany_limit := nf_TooMany
      exm_LetterError_TooMany := PySem.W.exm_ref sb_TooMany hd_TooMany ty_TooMany es_LetterError_TooMany
      exm_InvalidCutter_TooMany := PySem.W.exm_ref sb_TooMany hd_TooMany ty_TooMany es_InvalidCutter_TooMany
      exm_InvalidOperation_TooMany := PySem.W.exm_ref sb_TooMany hd_TooMany ty_TooMany es_InvalidOperation_TooMany
      exm_InvalidNumber_TooMany := PySem.W.exm_ref sb_TooMany hd_TooMany ty_TooMany es_InvalidNumber_TooMany
      exm_TooMany_TooMany := PySem.W.exm_ref sb_TooMany hd_TooMany ty_TooMany es_TooMany_TooMany
      kit_Known_Cutter := kit_no (fun z => ne_Known_Cutter (Value.ref.inj z)) isC_Cutter tyC_Cutter su_Known_Cutter
      nf_Known_Cutter := nf_Known_Cutter
      kit_Cutter_Known := kit_no (fun z => ne_Cutter_Known (Value.ref.inj z)) isC_Known tyC_Known su_Cutter_Known
      nf_Cutter_Known := nf_Cutter_Known }
  refine ⟨PySem.W.fnOf "law" "law" (defArgs s_law) (defBody s_law) (defScope s_law) .none kV_law dc_law pm_law an_law cd_law ct_law, fun s v => .of_eq rfl, fun base => ?_⟩
  have g_are_signs := gf_are_signs (P := l.prog) (w := w) (base := base) T 
  have g_is_part := gf_is_part (P := l.prog) (w := w) (base := base) T g_are_signs
  have g_part_places := gf_part_places (P := l.prog) (w := w) (base := base) T 
  have g_chain_places := gf_chain_places (P := l.prog) (w := w) (base := base) T g_part_places
  have g_Cutter___init__ := gi_Cutter___init__ (P := l.prog) (w := w) (base := base) T g_is_part g_chain_places
  have g_is_integer := gf_is_integer (P := l.prog) (w := w) (base := base) T 
  have g_require_number := gf_require_number (P := l.prog) (w := w) (base := base) T g_is_integer
  have g_require_cutter := gf_require_cutter (P := l.prog) (w := w) (base := base) T 
  have g_kept_places := gf_kept_places (P := l.prog) (w := w) (base := base) T 
  have g_Cutter_of := gm_Cutter_of (P := l.prog) (w := w) (base := base) T g_Cutter___init__
  have g_Cutter_parts := gm_Cutter_parts (P := l.prog) (w := w) (base := base) T 
  have g_Cutter_places := gm_Cutter_places (P := l.prog) (w := w) (base := base) T g_require_number g_kept_places
  have g_Cutter___eq__ := gm_Cutter___eq__ (P := l.prog) (w := w) (base := base) T 
  have g_Cutter___str__ := gm_Cutter___str__ (P := l.prog) (w := w) (base := base) T 
  have g_cut := gf_cut (P := l.prog) (w := w) (base := base) T g_kept_places
  have g_Cutter_keeps_all := gm_Cutter_keeps_all (P := l.prog) (w := w) (base := base) T 
  have g_Cutter___len__ := gm_Cutter___len__ (P := l.prog) (w := w) (base := base) T 
  have g_Cutter___call__ := gm_Cutter___call__ (P := l.prog) (w := w) (base := base) T g_cut
  have g_Cutter_is_within := gm_Cutter_is_within (P := l.prog) (w := w) (base := base) T g_require_cutter g_kept_places
  have g_Known___init__ := gi_Known___init__ (P := l.prog) (w := w) (base := base) T 
  have g_chained := gf_chained (P := l.prog) (w := w) (base := base) T g_Known___init__ g_Cutter___init__
  have g_Cutter___rshift__ := gmx_Cutter___rshift__ (P := l.prog) (w := w) (base := base) T g_require_cutter g_chained
  have g__law_roll := gf__law_roll (P := l.prog) (w := w) (base := base) T 
  have g__law_dice := gf__law_dice (P := l.prog) (w := w) (base := base) T 
  have g__law_one_of := gf__law_one_of (P := l.prog) (w := w) (base := base) T g__law_roll
  have g__law_signs := gf__law_signs (P := l.prog) (w := w) (base := base) T g__law_roll g__law_one_of
  have g__law_part := gf__law_part (P := l.prog) (w := w) (base := base) T g__law_roll g__law_one_of g__law_signs
  have g__law_parts := gf__law_parts (P := l.prog) (w := w) (base := base) T g__law_one_of g__law_part
  have g__law_kept := gf__law_kept (P := l.prog) (w := w) (base := base) T 
  have g__law_joined := gf__law_joined (P := l.prog) (w := w) (base := base) T g_Cutter___rshift__
  have g__law_is := gf__law_is (P := l.prog) (w := w) (base := base) T g__law_kept g_Cutter_parts g_Cutter___len__ g_Cutter_places g_Cutter___call__
  have g__law_pair_right := gg__law_pair_right (P := l.prog) (w := w) (base := base) T g__law_joined g__law_is g_Cutter_is_within g_Cutter___call__ g_Cutter_keeps_all
  have g__law_right := gg__law_right (P := l.prog) (w := w) (base := base) T g__law_parts g_Cutter_of g_Cutter_parts g_Cutter___init__ g_Cutter___rshift__ g_Cutter___eq__ g__law_is g__law_pair_right
  obtain ⟨f', fd', F', _, m', _, oc', od', osl', lk'⟩ := gg_law (P := l.prog) (w := w) (base := base) T g__law_dice g__law_right g_Cutter___init__ g_Cutter_places g_Cutter___rshift__ g_Cutter___eq__ g_Cutter___str__ g__law_joined
  rw [hfa] at m'
  cases m'
  rw [l_law] at lk'
  cases lk'
  exact F'
theorem dats_scr {K : PySem.W.Frag} {H : Hp} : ∀ {ns : List Int}, Dats K H (ns.map .int) (ns.map V.int)
  | [] => rfl
  | n :: ns => ⟨.int n, _, rfl, rfl, dats_scr⟩
theorem walk {l : PySem.W.OpenLaw} {q : Program} {loose : List Str} {XP : (Str → Option Value) → Heap → Prop} {YP : World → Heap → Prop} {d : DefRec} {K : Params → PySem.W.Frag} (hn : l.most = some 63) (hdf : d.params.defaults = [])
    (hY : ∀ (w : World) (h : Heap), YP w h → (K w.params).In h)
    (F : ∀ (w : World) (mg : Str → Option Value) (fa : Addr) (h : Heap), (K w.params).In h → h.Ns mainGlobals mg → mg d.name = some (.ref fa) →
      ∃ fd : FuncData, (∀ (s : Shared) (u : Value), BindsTo s fd ⟨[u], []⟩ [("_law_script", u)]) ∧ ∀ base : Heap, FnG l.prog w (K w.params) mg base 10 fa fd ["_law_script"] (spD (K w.params) PreLaw)) :
    PySem.W.WalkO q loose XP YP l.row.toRowW d [] (fun f vs => PySem.call f vs) :=
  walk_ofG (n := 63) (k := 10) (x := "_law_script") (sp := fun w => spD (K w.params) PreLaw) hn (by decide) hdf ⟨rfl, by decide, by decide⟩ hY F
    (fun w H a ns hl hS => ⟨H, [.sq (ns.map .int)], fun d => d = .bl true, Same.refl H, ⟨.ref a, [], rfl, ⟨a, _, rfl, hS, dats_scr⟩, rfl⟩, ⟨ns, rfl, hl, rfl⟩, fun v d G' H' _ hd hr => by subst hr; exact hd⟩)
end Nv
open PySem PySem.W PyProof.Rows
set_option maxRecDepth 100000 in
set_option maxHeartbeats 0 in
theorem PySem.Challenge.cw_namedabove_k04_cutters_one_after_another_holds : PySem.Challenge.rw_namedabove_k04_cutters_one_after_another.Holds := by
  w_on; o_law; k_head; (case hw => w_witness2)
  k_fill
  refine Nv.walk (l := PySem.Challenge.rw_namedabove_k04_cutters_one_after_another) rfl rfl (fun w h Y => PySem.W.kIn_of Y) ?F
  case F =>
    intro w mg fa h KX G hmg
    refine' Nv.all_mk KX G hmg ?z_isinstance ?z_int ?z_bool ?z_all ?z_len ?z_str ?z_list ?z_range ?z_enumerate ?z_tuple ?z_max ?z_abs ?z_min ?z_repr ?y_MAX_PARTS ?r_MAX_PARTS ?y_MAX_ROW ?r_MAX_ROW ?y_MOST_FRONT ?r_MOST_FRONT ?y_MOST_BACK ?r_MOST_BACK ?y_FEW ?r_FEW ?y_WHOLE ?r_WHOLE ?y_GAP ?r_GAP ?a_is_integer ?l_is_integer ?c_is_integer ?k_is_integer ?a_require_number ?l_require_number ?c_require_number ?k_require_number ?t_require_number ?a_are_signs ?l_are_signs ?c_are_signs ?k_are_signs ?a_is_part ?l_is_part ?c_is_part ?k_is_part ?a_part_places ?l_part_places ?c_part_places ?k_part_places ?a_chain_places ?l_chain_places ?c_chain_places ?k_chain_places ?a_kept_places ?l_kept_places ?c_kept_places ?k_kept_places ?a_cut ?l_cut ?c_cut ?k_cut ?a_chained ?l_chained ?c_chained ?k_chained ?a_require_cutter ?l_require_cutter ?c_require_cutter ?k_require_cutter ?a__law_dice ?l__law_dice ?c__law_dice ?k__law_dice ?a__law_roll ?l__law_roll ?c__law_roll ?k__law_roll ?a__law_one_of ?l__law_one_of ?c__law_one_of ?k__law_one_of ?a__law_signs ?l__law_signs ?c__law_signs ?k__law_signs ?a__law_part ?l__law_part ?c__law_part ?k__law_part ?a__law_parts ?l__law_parts ?c__law_parts ?k__law_parts ?a__law_kept ?l__law_kept ?c__law_kept ?k__law_kept ?a__law_joined ?l__law_joined ?c__law_joined ?k__law_joined ?a__law_is ?l__law_is ?c__law_is ?k__law_is ?a__law_pair_right ?l__law_pair_right ?c__law_pair_right ?k__law_pair_right ?a__law_right ?l__law_right ?c__law_right ?k__law_right ?a_law ?l_law ?c_law ?k_law ?aC_Known ?pg_Known ?hd_Known ?po_Known ?sa_Known ?kc_Known ?ca_Known ?cn_Known ?ct_Known ?cm_Known ?crd_Known ?cga_Known ?qne_Known ?qob_Known ?nf0_Known ?nf1_Known ?nf2_Known ?nf3_Known ?nf4_Known ?nf5_Known ?nf6_Known ?ki0_Known ?ki1_Known ?ki2_Known ?ki3_Known ?ki4_Known ?ki5_Known ?ki6_Known ?isC_Known ?tyC_Known ?cdl_Known ?cdm_Known ?a_Known___init__ ?i_Known___init__ ?l_Known___init__ ?c_Known___init__ ?k_Known___init__ ?mk_Known ?n_Known_own_parts ?aC_Cutter ?pg_Cutter ?hd_Cutter ?po_Cutter ?sa_Cutter ?kc_Cutter ?ca_Cutter ?cn_Cutter ?ct_Cutter ?cm_Cutter ?crd_Cutter ?cga_Cutter ?qne_Cutter ?qob_Cutter ?nf0_Cutter ?nf1_Cutter ?nf2_Cutter ?nf3_Cutter ?nf4_Cutter ?nf5_Cutter ?nf6_Cutter ?ki0_Cutter ?ki1_Cutter ?ki2_Cutter ?ki3_Cutter ?ki4_Cutter ?ki5_Cutter ?ki6_Cutter ?isC_Cutter ?tyC_Cutter ?cdl_Cutter ?cdm_Cutter ?a_Cutter___init__ ?i_Cutter___init__ ?l_Cutter___init__ ?c_Cutter___init__ ?k_Cutter___init__ ?mk_Cutter ?a_Cutter_of ?e_Cutter_of ?i_Cutter_of ?l_Cutter_of ?c_Cutter_of ?k_Cutter_of ?a_Cutter_parts ?g_Cutter_parts ?h_Cutter_parts ?e_Cutter_parts ?l_Cutter_parts ?c_Cutter_parts ?k_Cutter_parts ?a_Cutter_keeps_all ?g_Cutter_keeps_all ?h_Cutter_keeps_all ?e_Cutter_keeps_all ?l_Cutter_keeps_all ?c_Cutter_keeps_all ?k_Cutter_keeps_all ?a_Cutter_places ?i_Cutter_places ?l_Cutter_places ?c_Cutter_places ?k_Cutter_places ?a_Cutter_is_within ?i_Cutter_is_within ?l_Cutter_is_within ?c_Cutter_is_within ?k_Cutter_is_within ?a_Cutter___call__ ?i_Cutter___call__ ?l_Cutter___call__ ?c_Cutter___call__ ?k_Cutter___call__ ?fi_Cutter___call__ ?a_Cutter___rshift__ ?i_Cutter___rshift__ ?l_Cutter___rshift__ ?c_Cutter___rshift__ ?k_Cutter___rshift__ ?a_Cutter___len__ ?i_Cutter___len__ ?l_Cutter___len__ ?c_Cutter___len__ ?k_Cutter___len__ ?a_Cutter___eq__ ?i_Cutter___eq__ ?l_Cutter___eq__ ?c_Cutter___eq__ ?k_Cutter___eq__ ?a_Cutter___str__ ?i_Cutter___str__ ?l_Cutter___str__ ?c_Cutter___str__ ?k_Cutter___str__ ?n_Cutter_own_parts ?n_Cutter_own_tables ?n_Cutter_own_is_whole ?aC_LetterError ?kp_LetterError ?sb_LetterError ?ty_LetterError ?hd_LetterError ?xi_LetterError ?aC_InvalidCutter ?kp_InvalidCutter ?sb_InvalidCutter ?ty_InvalidCutter ?hd_InvalidCutter ?xi_InvalidCutter ?aC_InvalidOperation ?kp_InvalidOperation ?sb_InvalidOperation ?ty_InvalidOperation ?hd_InvalidOperation ?xi_InvalidOperation ?aC_InvalidNumber ?kp_InvalidNumber ?sb_InvalidNumber ?ty_InvalidNumber ?hd_InvalidNumber ?lk_InvalidNumber ?sa_InvalidNumber ?nf_InvalidNumber ?ini_InvalidNumber ?tyf_InvalidNumber ?subB_InvalidNumber ?subC_InvalidNumber ?op_InvalidNumber ?sup_InvalidNumber ?lf_InvalidNumber ?cd_InvalidNumber ?lcd_InvalidNumber ?vs2_InvalidNumber ?fi_InvalidNumber ?lcc_InvalidNumber ?top_InvalidNumber ?ga_InvalidNumber ?gg_InvalidNumber ?aC_TooMany ?kp_TooMany ?sb_TooMany ?ty_TooMany ?hd_TooMany ?lk_TooMany ?sa_TooMany ?nf_TooMany ?ini_TooMany ?tyf_TooMany ?subB_TooMany ?subC_TooMany ?op_TooMany ?sup_TooMany ?lf_TooMany ?cd_TooMany ?lcd_TooMany ?vs2_TooMany ?fi_TooMany ?lcc_TooMany ?top_TooMany ?ga_TooMany ?gg_TooMany ?es_LetterError_TooMany ?es_InvalidCutter_TooMany ?es_InvalidOperation_TooMany ?es_InvalidNumber_TooMany ?es_TooMany_TooMany ?ne_Known_Cutter ?su_Known_Cutter ?nf_Known_Cutter ?ne_Cutter_Known ?su_Cutter_Known ?nf_Cutter_Known
    (case z_isinstance => k_is)
    (case z_int => k_is)
    (case z_bool => k_is)
    (case z_all => k_is)
    (case z_len => k_is)
    (case z_str => k_is)
    (case z_list => k_is)
    (case z_range => k_is)
    (case z_enumerate => k_is)
    (case z_tuple => k_is)
    (case z_max => k_is)
    (case z_abs => k_is)
    (case z_min => k_is)
    (case z_repr => k_is)
    (case y_MAX_PARTS => k_is)
    (case r_MAX_PARTS => exact ⟨_, rfl⟩)
    (case y_MAX_ROW => k_is)
    (case r_MAX_ROW => exact ⟨_, rfl⟩)
    (case y_MOST_FRONT => k_is)
    (case r_MOST_FRONT => exact ⟨_, rfl⟩)
    (case y_MOST_BACK => k_is)
    (case r_MOST_BACK => exact ⟨_, rfl⟩)
    (case y_FEW => k_is)
    (case r_FEW => exact ⟨_, rfl⟩)
    (case y_WHOLE => k_is)
    (case r_WHOLE => exact ⟨_, rfl⟩)
    (case y_GAP => k_is)
    (case r_GAP => exact ⟨_, rfl⟩)
    (case a_is_integer => k_is)
    (case l_is_integer => k_is)
    (case c_is_integer => k_is)
    (case k_is_integer => k_is)
    (case a_require_number => k_is)
    (case l_require_number => k_is)
    (case c_require_number => k_is)
    (case k_require_number => k_is)
    (case t_require_number => k_is)
    (case a_are_signs => k_is)
    (case l_are_signs => k_is)
    (case c_are_signs => k_is)
    (case k_are_signs => k_is)
    (case a_is_part => k_is)
    (case l_is_part => k_is)
    (case c_is_part => k_is)
    (case k_is_part => k_is)
    (case a_part_places => k_is)
    (case l_part_places => k_is)
    (case c_part_places => k_is)
    (case k_part_places => k_is)
    (case a_chain_places => k_is)
    (case l_chain_places => k_is)
    (case c_chain_places => k_is)
    (case k_chain_places => k_is)
    (case a_kept_places => k_is)
    (case l_kept_places => k_is)
    (case c_kept_places => k_is)
    (case k_kept_places => k_is)
    (case a_cut => k_is)
    (case l_cut => k_is)
    (case c_cut => k_is)
    (case k_cut => k_is)
    (case a_chained => k_is)
    (case l_chained => k_is)
    (case c_chained => k_is)
    (case k_chained => k_is)
    (case a_require_cutter => k_is)
    (case l_require_cutter => k_is)
    (case c_require_cutter => k_is)
    (case k_require_cutter => k_is)
    (case a__law_dice => k_is)
    (case l__law_dice => k_is)
    (case c__law_dice => k_is)
    (case k__law_dice => k_is)
    (case a__law_roll => k_is)
    (case l__law_roll => k_is)
    (case c__law_roll => k_is)
    (case k__law_roll => k_is)
    (case a__law_one_of => k_is)
    (case l__law_one_of => k_is)
    (case c__law_one_of => k_is)
    (case k__law_one_of => k_is)
    (case a__law_signs => k_is)
    (case l__law_signs => k_is)
    (case c__law_signs => k_is)
    (case k__law_signs => k_is)
    (case a__law_part => k_is)
    (case l__law_part => k_is)
    (case c__law_part => k_is)
    (case k__law_part => k_is)
    (case a__law_parts => k_is)
    (case l__law_parts => k_is)
    (case c__law_parts => k_is)
    (case k__law_parts => k_is)
    (case a__law_kept => k_is)
    (case l__law_kept => k_is)
    (case c__law_kept => k_is)
    (case k__law_kept => k_is)
    (case a__law_joined => k_is)
    (case l__law_joined => k_is)
    (case c__law_joined => k_is)
    (case k__law_joined => k_is)
    (case a__law_is => k_is)
    (case l__law_is => k_is)
    (case c__law_is => k_is)
    (case k__law_is => k_is)
    (case a__law_pair_right => k_is)
    (case l__law_pair_right => k_is)
    (case c__law_pair_right => k_is)
    (case k__law_pair_right => k_is)
    (case a__law_right => k_is)
    (case l__law_right => k_is)
    (case c__law_right => k_is)
    (case k__law_right => k_is)
    (case a_law => k_is)
    (case l_law => k_is)
    (case c_law => k_is)
    (case k_law => k_is)
    (case aC_Known => k_is)
    (case pg_Known => k_is)
    (case hd_Known => k_is)
    (case po_Known => k_is)
    (case sa_Known => k_is)
    (case kc_Known => k_is)
    (case ca_Known => k_is)
    (case cn_Known => k_is)
    (case ct_Known => k_is)
    (case cm_Known => k_is)
    (case crd_Known => k_is)
    (case cga_Known => k_is)
    (case qne_Known => k_is)
    (case qob_Known => k_is)
    (case nf0_Known => k_is)
    (case nf1_Known => k_is)
    (case nf2_Known => k_is)
    (case nf3_Known => k_is)
    (case nf4_Known => k_is)
    (case nf5_Known => k_is)
    (case nf6_Known => k_is)
    (case ki0_Known => k_is)
    (case ki1_Known => k_is)
    (case ki2_Known => k_is)
    (case ki3_Known => k_is)
    (case ki4_Known => k_is)
    (case ki5_Known => k_is)
    (case ki6_Known => k_is)
    (case isC_Known => k_is)
    (case tyC_Known => k_is)
    (case cdl_Known => k_is)
    (case cdm_Known => rfl)
    (case a_Known___init__ => k_is)
    (case i_Known___init__ => k_is)
    (case l_Known___init__ => k_is)
    (case c_Known___init__ => k_is)
    (case k_Known___init__ => k_is)
    (case mk_Known => k_is)
    (case n_Known_own_parts => k_is)
    (case aC_Cutter => k_is)
    (case pg_Cutter => k_is)
    (case hd_Cutter => k_is)
    (case po_Cutter => k_is)
    (case sa_Cutter => k_is)
    (case kc_Cutter => k_is)
    (case ca_Cutter => k_is)
    (case cn_Cutter => k_is)
    (case ct_Cutter => k_is)
    (case cm_Cutter => k_is)
    (case crd_Cutter => k_is)
    (case cga_Cutter => k_is)
    (case qne_Cutter => k_is)
    (case qob_Cutter => k_is)
    (case nf0_Cutter => k_is)
    (case nf1_Cutter => k_is)
    (case nf2_Cutter => k_is)
    (case nf3_Cutter => k_is)
    (case nf4_Cutter => k_is)
    (case nf5_Cutter => k_is)
    (case nf6_Cutter => k_is)
    (case ki0_Cutter => k_is)
    (case ki1_Cutter => k_is)
    (case ki2_Cutter => k_is)
    (case ki3_Cutter => k_is)
    (case ki4_Cutter => k_is)
    (case ki5_Cutter => k_is)
    (case ki6_Cutter => k_is)
    (case isC_Cutter => k_is)
    (case tyC_Cutter => k_is)
    (case cdl_Cutter => k_is)
    (case cdm_Cutter => rfl)
    (case a_Cutter___init__ => k_is)
    (case i_Cutter___init__ => k_is)
    (case l_Cutter___init__ => k_is)
    (case c_Cutter___init__ => k_is)
    (case k_Cutter___init__ => k_is)
    (case mk_Cutter => k_is)
    (case a_Cutter_of => k_is)
    (case e_Cutter_of => k_is)
    (case i_Cutter_of => k_is)
    (case l_Cutter_of => k_is)
    (case c_Cutter_of => k_is)
    (case k_Cutter_of => k_is)
    (case a_Cutter_parts => k_is)
    (case g_Cutter_parts => k_is)
    (case h_Cutter_parts => k_is)
    (case e_Cutter_parts => k_is)
    (case l_Cutter_parts => k_is)
    (case c_Cutter_parts => k_is)
    (case k_Cutter_parts => k_is)
    (case a_Cutter_keeps_all => k_is)
    (case g_Cutter_keeps_all => k_is)
    (case h_Cutter_keeps_all => k_is)
    (case e_Cutter_keeps_all => k_is)
    (case l_Cutter_keeps_all => k_is)
    (case c_Cutter_keeps_all => k_is)
    (case k_Cutter_keeps_all => k_is)
    (case a_Cutter_places => k_is)
    (case i_Cutter_places => k_is)
    (case l_Cutter_places => k_is)
    (case c_Cutter_places => k_is)
    (case k_Cutter_places => k_is)
    (case a_Cutter_is_within => k_is)
    (case i_Cutter_is_within => k_is)
    (case l_Cutter_is_within => k_is)
    (case c_Cutter_is_within => k_is)
    (case k_Cutter_is_within => k_is)
    (case a_Cutter___call__ => k_is)
    (case i_Cutter___call__ => k_is)
    (case l_Cutter___call__ => k_is)
    (case c_Cutter___call__ => k_is)
    (case k_Cutter___call__ => k_is)
    (case fi_Cutter___call__ => k_is)
    (case a_Cutter___rshift__ => k_is)
    (case i_Cutter___rshift__ => k_is)
    (case l_Cutter___rshift__ => k_is)
    (case c_Cutter___rshift__ => k_is)
    (case k_Cutter___rshift__ => k_is)
    (case a_Cutter___len__ => k_is)
    (case i_Cutter___len__ => k_is)
    (case l_Cutter___len__ => k_is)
    (case c_Cutter___len__ => k_is)
    (case k_Cutter___len__ => k_is)
    (case a_Cutter___eq__ => k_is)
    (case i_Cutter___eq__ => k_is)
    (case l_Cutter___eq__ => k_is)
    (case c_Cutter___eq__ => k_is)
    (case k_Cutter___eq__ => k_is)
    (case a_Cutter___str__ => k_is)
    (case i_Cutter___str__ => k_is)
    (case l_Cutter___str__ => k_is)
    (case c_Cutter___str__ => k_is)
    (case k_Cutter___str__ => k_is)
    (case n_Cutter_own_parts => k_is)
    (case n_Cutter_own_tables => k_is)
    (case n_Cutter_own_is_whole => k_is)
    (case aC_LetterError => k_is)
    (case kp_LetterError => k_is)
    (case sb_LetterError => k_is)
    (case ty_LetterError => k_is)
    (case hd_LetterError => k_is)
    (case xi_LetterError => k_exc)
    (case aC_InvalidCutter => k_is)
    (case kp_InvalidCutter => k_is)
    (case sb_InvalidCutter => k_is)
    (case ty_InvalidCutter => k_is)
    (case hd_InvalidCutter => k_is)
    (case xi_InvalidCutter => k_exc)
    (case aC_InvalidOperation => k_is)
    (case kp_InvalidOperation => k_is)
    (case sb_InvalidOperation => k_is)
    (case ty_InvalidOperation => k_is)
    (case hd_InvalidOperation => k_is)
    (case xi_InvalidOperation => k_exc)
    (case aC_InvalidNumber => k_is)
    (case kp_InvalidNumber => k_is)
    (case sb_InvalidNumber => k_is)
    (case ty_InvalidNumber => k_is)
    (case hd_InvalidNumber => k_is)
    (case lk_InvalidNumber => k_is)
    (case sa_InvalidNumber => k_is)
    (case nf_InvalidNumber => k_is)
    (case ini_InvalidNumber => k_is)
    (case tyf_InvalidNumber => k_is)
    (case subB_InvalidNumber => k_is)
    (case subC_InvalidNumber => k_is)
    (case op_InvalidNumber => k_is)
    (case sup_InvalidNumber => k_is)
    (case lf_InvalidNumber => k_is)
    (case cd_InvalidNumber => k_is)
    (case lcd_InvalidNumber => k_is)
    (case vs2_InvalidNumber => rfl)
    (case fi_InvalidNumber => first | decide | rfl | decide +kernel)
    (case lcc_InvalidNumber => k_is)
    (case top_InvalidNumber => first | decide | rfl | decide +kernel)
    (case ga_InvalidNumber => k_is)
    (case gg_InvalidNumber => k_is)
    (case aC_TooMany => k_is)
    (case kp_TooMany => k_is)
    (case sb_TooMany => k_is)
    (case ty_TooMany => k_is)
    (case hd_TooMany => k_is)
    (case lk_TooMany => k_is)
    (case sa_TooMany => k_is)
    (case nf_TooMany => k_is)
    (case ini_TooMany => k_is)
    (case tyf_TooMany => k_is)
    (case subB_TooMany => k_is)
    (case subC_TooMany => k_is)
    (case op_TooMany => k_is)
    (case sup_TooMany => k_is)
    (case lf_TooMany => k_is)
    (case cd_TooMany => k_is)
    (case lcd_TooMany => k_is)
    (case vs2_TooMany => rfl)
    (case fi_TooMany => first | decide | rfl | decide +kernel)
    (case lcc_TooMany => k_is)
    (case top_TooMany => first | decide | rfl | decide +kernel)
    (case ga_TooMany => k_is)
    (case gg_TooMany => k_is)
    (case es_LetterError_TooMany => k_is)
    (case es_InvalidCutter_TooMany => k_is)
    (case es_InvalidOperation_TooMany => k_is)
    (case es_InvalidNumber_TooMany => k_is)
    (case es_TooMany_TooMany => k_is)
    (case ne_Known_Cutter => first | decide | rfl | decide +kernel)
    (case su_Known_Cutter => k_is)
    (case nf_Known_Cutter => k_is)
    (case ne_Cutter_Known => first | decide | rfl | decide +kernel)
    (case su_Cutter_Known => k_is)
    (case nf_Cutter_Known => k_is)
#print axioms PySem.Challenge.cw_namedabove_k04_cutters_one_after_another_holds
