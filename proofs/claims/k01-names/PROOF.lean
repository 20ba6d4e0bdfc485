import PyProof.Rows.All
import Wide.All
import OpenK.AllK
import Wide.FinOn
import HandS.ForMost
import HandS.Walk
import HandS.IsInst
import HandS.Wide
import HandS.Style
import HandS.TupAny
import HandS.TupMul
import HandS.TupLe
import HandS.RaiseMore
import HandS.Codes
import PySem.Challenge.RW_namedabove_k01_names_and_marks
set_option Elab.async false
set_option linter.all false
set_option maxRecDepth 100000
set_option maxHeartbeats 4000000
/-! Nv: pure data in place of heaps. G is what is known of the heap, H what is there. -/
namespace Nv
open PySem PySem.Spec PyProof.Rows L2

/-! ### heaps -/
abbrev Ex (G H : Hp) : Prop := L2.Same G H
theorem Ex.new {H : Hp} {p : Addr} {o : HO} (h : H p = none) : Ex H (upd H p o) := fun a u e => by
  rw [upd_ne (ne_of_none e h)]; exact e
theorem Ex.tup {K : PySem.W.Frag} {H H' : Hp} {a : Addr} {xs : List V} (e : Ex H H') (h : SqT K H a xs) : SqT K H' a xs := by
  rcases h with (h | ⟨o, h⟩) | h
  · exact .inl (.inl (e _ _ h))
  · exact .inl (.inr ⟨o, e _ _ h⟩)
  · exact .inr h
/-- from the known G in the heap H to the known G' in the heap H': what was known is known, what is new was free -/
structure Go (G H G' H' : Hp) : Prop where
  kn : Ex G G'
  nw : ∀ a, G a = none → H a ≠ none → G' a = none
  ink : Ex G' H'
  up : Ex H H'
theorem Go.refl {G H : Hp} (e : Ex G H) : Go G H G H := ⟨Same.refl G, fun _ h _ => h, e, Same.refl H⟩
theorem ne_up {H H' : Hp} (e : Ex H H') {a : Addr} (h : H a ≠ none) : H' a ≠ none := fun z => by
  cases q : H a with
  | none => exact h q
  | some o => rw [e a o q] at z; cases z
theorem Go.trans {G H G1 H1 G2 H2 : Hp} (a : Go G H G1 H1) (b : Go G1 H1 G2 H2) : Go G H G2 H2 :=
  ⟨a.kn.trans b.kn, fun x h1 h2 => b.nw x (a.nw x h1 h2) (ne_up a.up h2), b.ink, a.up.trans b.up⟩
theorem upd_mono {G H : Hp} (e : Ex G H) (p : Addr) (o : HO) : Ex (upd G p o) (upd H p o) := fun a u h => by
  by_cases c : a = p
  · subst c; rw [upd_same] at h ⊢; exact h
  · rw [upd_ne c] at h ⊢; exact e a u h
theorem Go.new {G H : Hp} {p : Addr} {o : HO} (e : Ex G H) (h : H p = none) : Go G H (upd G p o) (upd H p o) :=
  ⟨Ex.new (e.free h), fun a h1 h2 => by rw [upd_ne (fun c => h2 (by rw [c]; exact h))]; exact h1, upd_mono e p o, Ex.new h⟩
/-- an unknown new object changes nothing of what is known -/
theorem Go.put {G H : Hp} {p : Addr} {o : HO} (e : Ex G H) (h : H p = none) : Go G H G (upd H p o) :=
  ⟨Same.refl G, fun _ h _ => h, e.trans (Ex.new h), Ex.new h⟩

/-! ### data -/
inductive Dt where
  | non | bl (b : Bool) | int (i : Int) | str (x : Str) | ty (n : String)
  | lst (l : List Dt) | sq (l : List Dt) | tup (l : List Dt)
  | dic (l : List (Key × Dt))
  | ins (C : Addr) (l : List (Str × Dt))
  | ext (φ : Addr → Heap → Prop)
  | obj (a : Addr)
mutual
def Dat (K : PySem.W.Frag) (G : Hp) : Dt → V → Prop
  | .non, v => v = .non
  | .bl b, v => v = .bl b
  | .int i, v => v = .int i
  | .str x, v => v = .str x
  | .ty n, v => v = .ty n
  | .lst l, v => ∃ a xs, v = .ref a ∧ G a = some (.lst xs) ∧ Dats K G l xs
  | .sq l, v => ∃ a xs, v = .ref a ∧ SqL K G a xs ∧ Dats K G l xs
  | .tup l, v => ∃ a xs, v = .ref a ∧ SqT K G a xs ∧ Dats K G l xs
  | .dic l, v => ∃ a kvs, v = .ref a ∧ G a = some (.dK kvs) ∧ Datk K G l kvs
  | .ins C l, v => ∃ a dx fs, v = .ref a ∧ G a = some (.ins C dx fs) ∧ Datf K G l fs
  | .ext φ, v => ∃ a, v = .ref a ∧ G a = some (.ext (φ a))
  | .obj a, v => v = .ref a
def Dats (K : PySem.W.Frag) (G : Hp) : List Dt → List V → Prop
  | [], xs => xs = []
  | d :: l, xs => ∃ x r, xs = x :: r ∧ Dat K G d x ∧ Dats K G l r
def Datk (K : PySem.W.Frag) (G : Hp) : List (Key × Dt) → List (Key × V) → Prop
  | [], xs => xs = []
  | (k, d) :: l, xs => ∃ x r, xs = (k, x) :: r ∧ Dat K G d x ∧ Datk K G l r
def Datf (K : PySem.W.Frag) (G : Hp) : List (Str × Dt) → List (Str × V) → Prop
  | [], xs => xs = []
  | (k, d) :: l, xs => ∃ x r, xs = (k, x) :: r ∧ Dat K G d x ∧ Datf K G l r
end
section
variable {K : PySem.W.Frag} {G G' : Hp}
mutual
theorem Dat.up (e : Ex G G') : ∀ {d : Dt} {v : V}, Dat K G d v → Dat K G' d v
  | .non, _, h => h
  | .bl _, _, h => h
  | .int _, _, h => h
  | .str _, _, h => h
  | .ty _, _, h => h
  | .obj _, _, h => h
  | .lst _, _, ⟨a, xs, h1, h2, h3⟩ => ⟨a, xs, h1, e _ _ h2, Dats.up e h3⟩
  | .sq _, _, ⟨a, xs, h1, h2, h3⟩ => ⟨a, xs, h1, e.seq h2, Dats.up e h3⟩
  | .tup _, _, ⟨a, xs, h1, h2, h3⟩ => ⟨a, xs, h1, Ex.tup e h2, Dats.up e h3⟩
  | .dic _, _, ⟨a, xs, h1, h2, h3⟩ => ⟨a, xs, h1, e _ _ h2, Datk.up e h3⟩
  | .ins _ _, _, ⟨a, dx, fs, h1, h2, h3⟩ => ⟨a, dx, fs, h1, e _ _ h2, Datf.up e h3⟩
  | .ext _, _, ⟨a, h1, h2⟩ => ⟨a, h1, e _ _ h2⟩
theorem Dats.up (e : Ex G G') : ∀ {l : List Dt} {xs : List V}, Dats K G l xs → Dats K G' l xs
  | [], _, h => h
  | _ :: _, _, ⟨x, r, h1, h2, h3⟩ => ⟨x, r, h1, Dat.up e h2, Dats.up e h3⟩
theorem Datk.up (e : Ex G G') : ∀ {l : List (Key × Dt)} {xs : List (Key × V)}, Datk K G l xs → Datk K G' l xs
  | [], _, h => h
  | (_, _) :: _, _, ⟨x, r, h1, h2, h3⟩ => ⟨x, r, h1, Dat.up e h2, Datk.up e h3⟩
theorem Datf.up (e : Ex G G') : ∀ {l : List (Str × Dt)} {xs : List (Str × V)}, Datf K G l xs → Datf K G' l xs
  | [], _, h => h
  | (_, _) :: _, _, ⟨x, r, h1, h2, h3⟩ => ⟨x, r, h1, Dat.up e h2, Datf.up e h3⟩
end
theorem Dats.len : ∀ {l : List Dt} {xs : List V}, Dats K G l xs → xs.length = l.length
  | [], _, h => by cases h; rfl
  | _ :: _, _, ⟨x, r, h1, _, h3⟩ => by subst h1; simp [Dats.len h3]
theorem Dats.get : ∀ {l : List Dt} {xs : List V} {i : Nat} {d : Dt}, Dats K G l xs → l[i]? = some d → ∃ x, xs[i]? = some x ∧ Dat K G d x
  | [], _, _, _, _, h => by simp at h
  | _ :: _, _, 0, _, ⟨x, r, h1, h2, _⟩, h => by
    simp at h; subst h; subst h1; exact ⟨x, rfl, h2⟩
  | _ :: _, _, i + 1, d, ⟨x, r, h1, _, h3⟩, h => by
    subst h1
    obtain ⟨y, q1, q2⟩ := Dats.get (i := i) (d := d) h3 (by simpa using h)
    exact ⟨y, by simpa using q1, q2⟩
theorem Dats.getV : ∀ {l : List Dt} {xs : List V} {i : Nat} {x : V}, Dats K G l xs → xs[i]? = some x → ∃ d, l[i]? = some d ∧ Dat K G d x
  | [], _, _, _, h, q => by cases h; simp at q
  | d :: _, _, 0, _, ⟨x, r, h1, h2, _⟩, h => by
    subst h1; simp at h; subst h; exact ⟨d, rfl, h2⟩
  | _ :: _, _, i + 1, y, ⟨x, r, h1, _, h3⟩, h => by
    subst h1
    obtain ⟨d, q1, q2⟩ := Dats.getV (i := i) (x := y) h3 (by simpa using h)
    exact ⟨d, by simpa using q1, q2⟩
theorem Dats.snoc : ∀ {l : List Dt} {xs : List V} {d : Dt} {x : V}, Dats K G l xs → Dat K G d x → Dats K G (l ++ [d]) (xs ++ [x])
  | [], _, _, x, h, q => by cases h; exact ⟨x, [], rfl, q, rfl⟩
  | _ :: _, _, _, _, ⟨y, r, h1, h2, h3⟩, q => by subst h1; exact ⟨y, r ++ [_], rfl, h2, Dats.snoc h3 q⟩
theorem Dats.app : ∀ {l m : List Dt} {xs ys : List V}, Dats K G l xs → Dats K G m ys → Dats K G (l ++ m) (xs ++ ys)
  | [], _, _, _, h, q => by cases h; exact q
  | _ :: _, _, _, _, ⟨y, r, h1, h2, h3⟩, q => by subst h1; exact ⟨y, r ++ _, rfl, h2, Dats.app h3 q⟩
theorem Dats.take : ∀ {l : List Dt} {xs : List V} (n : Nat), Dats K G l xs → Dats K G (l.take n) (xs.take n)
  | _, _, 0, _ => by simp [Dats]
  | [], _, _ + 1, h => by cases h; simp [Dats]
  | _ :: _, _, n + 1, ⟨y, r, h1, h2, h3⟩ => by subst h1; exact ⟨y, r.take n, rfl, h2, Dats.take n h3⟩
theorem Dats.drop : ∀ {l : List Dt} {xs : List V} (n : Nat), Dats K G l xs → Dats K G (l.drop n) (xs.drop n)
  | _, _, 0, h => h
  | [], _, _ + 1, h => by cases h; simp [Dats]
  | _ :: _, _, n + 1, ⟨y, r, h1, h2, h3⟩ => by subst h1; exact Dats.drop n h3
end

/-! ### slots -/
inductive Sd where
  | no | dt (d : Dt) | own (l : List Dt)
/-- the values of the slots that hold data -/
structure Sv (K : PySem.W.Frag) (G : Hp) (σ : L2.St) (ss : List Sd) : Prop where
  len : σ.length = ss.length
  dat : ∀ (i : Nat) (d : Dt), ss[i]? = some (.dt d) → ∃ v, σ[i]? = some (some v) ∧ Dat K G d v
/-- and of those that hold lists of their own: H0 is the heap at the def's entry -/
structure Sl (K : PySem.W.Frag) (H0 G H : Hp) (σ : L2.St) (ss : List Sd) : Prop where
  sv : Sv K G σ ss
  own : ∀ (i : Nat) (l : List Dt), ss[i]? = some (.own l) → ∃ a xs, σ[i]? = some (some (.ref a)) ∧ H0 a = none ∧ G a = none ∧ H a = some (.lst xs) ∧ Dats K G l xs
  sep : ∀ (i j : Nat) (l m : List Dt) (a : Addr), ss[i]? = some (.own l) → ss[j]? = some (.own m) → σ[i]? = some (some (.ref a)) → σ[j]? = some (some (.ref a)) → i = j
section
variable {K : PySem.W.Frag} {G G' H H' H0 : Hp} {σ : L2.St} {ss : List Sd}
theorem Sv.up (h : Sv K G σ ss) (e : Ex G G') : Sv K G' σ ss := ⟨h.len, fun i d q => let ⟨v, h1, h2⟩ := h.dat i d q; ⟨v, h1, h2.up e⟩⟩
theorem Sv.set (h : Sv K G σ ss) {j : Nat} {d : Dt} {v : V} (q : Dat K G d v) : Sv K G (σ.set j (some v)) (ss.set j (.dt d)) := by
  refine ⟨by simp [h.len], fun i e z => ?_⟩
  by_cases c : j = i
  · subst c
    by_cases b : j < ss.length
    · rw [List.getElem?_set_self b] at z
      cases z
      exact ⟨v, by rw [List.getElem?_set_self (by rw [h.len]; exact b)], q⟩
    · rw [List.getElem?_eq_none (by simpa using b)] at z; cases z
  · rw [List.getElem?_set_ne c] at z ⊢
    exact h.dat i e z
theorem Sv.forget (h : Sv K G σ ss) {j : Nat} {o : Option V} : Sv K G (σ.set j o) (ss.set j .no) := by
  refine ⟨by simp [h.len], fun i e z => ?_⟩
  by_cases c : j = i
  · subst c
    by_cases b : j < ss.length
    · rw [List.getElem?_set_self b] at z; cases z
    · rw [List.getElem?_eq_none (by simpa using b)] at z; cases z
  · rw [List.getElem?_set_ne c] at z ⊢
    exact h.dat i e z
theorem Sl.go (h : Sl K H0 G H σ ss) (g : Go G H G' H') : Sl K H0 G' H' σ ss :=
  ⟨h.sv.up g.kn, fun i l q => let ⟨a, xs, h1, h2, h3, h4, h5⟩ := h.own i l q; ⟨a, xs, h1, h2, g.nw a h3 (by rw [h4]; exact fun z => nomatch z), g.up a _ h4, h5.up g.kn⟩, h.sep⟩
theorem get_set_own {j i : Nat} {x : Sd} {l : List Dt} (hx : ∀ m, x ≠ .own m) (z : (ss.set j x)[i]? = some (.own l)) : ss[i]? = some (.own l) ∧ j ≠ i := by
  by_cases c : j = i
  · subst c
    by_cases b : j < ss.length
    · rw [List.getElem?_set_self b] at z; exact absurd (Option.some.inj z) (hx l)
    · rw [List.getElem?_eq_none (by simpa using b)] at z; cases z
  · rw [List.getElem?_set_ne c] at z
    exact ⟨z, c⟩
theorem Sl.set (h : Sl K H0 G H σ ss) {j : Nat} {d : Dt} {v : V} (q : Dat K G d v) : Sl K H0 G H (σ.set j (some v)) (ss.set j (.dt d)) := by
  refine ⟨h.sv.set q, fun i l z => ?_, fun i k l m a z1 z2 e1 e2 => ?_⟩
  · obtain ⟨z', c⟩ := get_set_own (fun m => Sd.noConfusion) z
    rw [List.getElem?_set_ne c]
    exact h.own i l z'
  · obtain ⟨y1, c1⟩ := get_set_own (fun m => Sd.noConfusion) z1
    obtain ⟨y2, c2⟩ := get_set_own (fun m => Sd.noConfusion) z2
    rw [List.getElem?_set_ne c1] at e1
    rw [List.getElem?_set_ne c2] at e2
    exact h.sep i k l m a y1 y2 e1 e2
end

/-! ### what an expression, a test, arguments come to: R is what is wanted of the data -/
def EvD (K : PySem.W.Frag) (te : TE) (ss : List Sd) (R : Dt → Prop) : Prop := ∀ (G : Hp) (σ : L2.St) (H : Hp), Ex G H → Sv K G σ ss → ∀ Q : VK, (∀ v d G' H', Go G H G' H' → Dat K G' d v → R d → Q v H') → te σ H Q
def EvT (K : PySem.W.Frag) (tt : TT) (ss : List Sd) (R : Bool → Prop) : Prop := ∀ (G : Hp) (σ : L2.St) (H : Hp), Ex G H → Sv K G σ ss → ∀ Q : Bool → Hp → Prop, (∀ b G' H', Go G H G' H' → R b → Q b H') → tt σ H Q
def EvA (K : PySem.W.Frag) (ta : TA) (ss : List Sd) (R : List Dt → Prop) : Prop := ∀ (G : Hp) (σ : L2.St) (H : Hp), Ex G H → Sv K G σ ss → ∀ Q : List V → Hp → Prop, (∀ vs ds G' H', Go G H G' H' → Dats K G' ds vs → R ds → Q vs H') → ta σ H Q
def EvO (K : PySem.W.Frag) (to : TO) (ss : List Sd) (R : Option Int → Prop) : Prop := ∀ (G : Hp) (σ : L2.St) (H : Hp), Ex G H → Sv K G σ ss → ∀ Q : Option Int → Hp → Prop, (∀ o G' H', Go G H G' H' → R o → Q o H') → to σ H Q
/-- an operator, a one-place operator, a call, by data -/
def RD (K : PySem.W.Frag) (r : R2) (x y : Dt) (R : Dt → Prop) : Prop := ∀ (G H : Hp) (v w : V), Ex G H → Dat K G x v → Dat K G y w → ∀ Q : VK, (∀ z d G' H', Go G H G' H' → Dat K G' d z → R d → Q z H') → r v w H Q
def UD (K : PySem.W.Frag) (r : V → Hp → VK → Prop) (x : Dt) (R : Dt → Prop) : Prop := ∀ (G H : Hp) (v : V), Ex G H → Dat K G x v → ∀ Q : VK, (∀ z d G' H', Go G H G' H' → Dat K G' d z → R d → Q z H') → r v H Q
def CD (K : PySem.W.Frag) (r : List V → Hp → VK → Prop) (ds : List Dt) (R : Dt → Prop) : Prop := ∀ (G H : Hp) (vs : List V), Ex G H → Dats K G ds vs → ∀ Q : VK, (∀ z d G' H', Go G H G' H' → Dat K G' d z → R d → Q z H') → r vs H Q
section
variable {K : PySem.W.Frag} {ss : List Sd} {R R' : Dt → Prop} {ta tb te : TE} {t u : TT} {r : R2}
theorem EvD.imp (h : EvD K te ss R) (f : ∀ d, R d → R' d) : EvD K te ss R' := fun G σ H e s Q q => h G σ H e s Q fun v d G' H' g hd hr => q v d G' H' g hd (f d hr)
theorem EvT.imp {R R' : Bool → Prop} (h : EvT K t ss R) (f : ∀ d, R d → R' d) : EvT K t ss R' := fun G σ H e s Q q => h G σ H e s Q fun b G' H' g hr => q b G' H' g (f b hr)
theorem ed_var {i : Nat} {d : Dt} (h : ss[i]? = some (.dt d)) (hr : R d) : EvD K (tVar i) ss R := fun G σ H e s Q q => by
  obtain ⟨v, h1, h2⟩ := s.dat i d h
  exact ⟨v, h1, q v d G H (Go.refl e) h2 hr⟩
theorem ed_c {v : V} {d : Dt} (hd : ∀ G, Dat K G d v) (hr : R d) : EvD K (tC v) ss R := fun G σ H e s Q q => q v d G H (Go.refl e) (hd G) hr
theorem ed_int {i : Int} (hr : R (.int i)) : EvD K (tC (.int i)) ss R := ed_c (d := .int i) (fun _ => rfl) hr
theorem ed_bl {i : Bool} (hr : R (.bl i)) : EvD K (tC (.bl i)) ss R := ed_c (d := .bl i) (fun _ => rfl) hr
theorem ed_str {i : Str} (hr : R (.str i)) : EvD K (tC (.str i)) ss R := ed_c (d := .str i) (fun _ => rfl) hr
theorem ed_non (hr : R .non) : EvD K (tC .non) ss R := ed_c (d := .non) (fun _ => rfl) hr
theorem ed_ty {n : String} (hr : R (.ty n)) : EvD K (tC (.ty n)) ss R := ed_c (d := .ty n) (fun _ => rfl) hr
theorem ed_obj {a : Addr} (hr : R (.obj a)) : EvD K (tC (.ref a)) ss R := ed_c (d := .obj a) (fun _ => rfl) hr
theorem ed_op (h : EvD K ta ss fun x => EvD K tb ss fun y => RD K r x y R) : EvD K (tOp r ta tb) ss R := fun G σ H e s Q q =>
  h G σ H e s _ fun v x G1 H1 g1 d1 h2 => h2 G1 σ H1 g1.ink (s.up g1.kn) _ fun w y G2 H2 g2 d2 h3 =>
    h3 G2 H2 v w g2.ink (d1.up g2.kn) d2 Q fun z d G3 H3 g3 d3 hr => q z d G3 H3 (g1.trans (g2.trans g3)) d3 hr
theorem ed_un {r : V → Hp → VK → Prop} (h : EvD K ta ss fun x => UD K r x R) : EvD K (tUn r ta) ss R := fun G σ H e s Q q =>
  h G σ H e s _ fun v x G1 H1 g1 d1 h2 => h2 G1 H1 v g1.ink d1 Q fun z d G3 H3 g3 d3 hr => q z d G3 H3 (g1.trans g3) d3 hr
theorem ea_nil {R : List Dt → Prop} (h : R []) : EvA K tNil ss R := fun G σ H e s Q q => q [] [] G H (Go.refl e) rfl h
theorem ea_cons {tr : TA} {R : List Dt → Prop} (h : EvD K ta ss fun x => EvA K tr ss fun l => R (x :: l)) : EvA K (tCons ta tr) ss R := fun G σ H e s Q q =>
  h G σ H e s _ fun v x G1 H1 g1 d1 h2 => h2 G1 σ H1 g1.ink (s.up g1.kn) _ fun vs l G2 H2 g2 d2 h3 => q (v :: vs) (x :: l) G2 H2 (g1.trans g2) ⟨v, vs, rfl, d1.up g2.kn, d2⟩ h3
theorem ed_cb {r : List V → Hp → VK → Prop} {ta : TA} (h : EvA K ta ss fun l => CD K r l R) : EvD K (tCB r ta) ss R := fun G σ H e s Q q =>
  h G σ H e s _ fun vs l G1 H1 g1 d1 h2 => h2 G1 H1 vs g1.ink d1 Q fun z d G3 H3 g3 d3 hr => q z d G3 H3 (g1.trans g3) d3 hr
theorem sz_of {n : Nat} (h : n ≤ 1000000) : n ≤ sizeLine := Nat.le_trans h (by decide)
theorem sz_lt {n : Nat} (h : n < 1000000) : n < sizeLine := Nat.lt_of_lt_of_le h (by decide)
theorem dat_newL {G : Hp} {p : Addr} {l : List Dt} {xs : List V} (d : Dats K G l xs) (h : G p = none) : Dat K (upd G p (.lst xs)) (.lst l) (.ref p) := ⟨p, xs, rfl, upd_same, d.up (Ex.new h)⟩
theorem dat_newT {G : Hp} {p : Addr} {l : List Dt} {xs : List V} (d : Dats K G l xs) (h : G p = none) : Dat K (upd G p (.tup xs)) (.tup l) (.ref p) := ⟨p, xs, rfl, .inl (.inl upd_same), d.up (Ex.new h)⟩
theorem ed_lst {ta : TA} (h : EvA K ta ss fun l => l.length ≤ 1000000 ∧ R (.lst l)) : EvD K (tLst ta) ss R := fun G σ H e s Q q =>
  h G σ H e s _ fun vs l G1 H1 g1 d1 h2 => ⟨by rw [d1.len]; exact sz_of h2.1, fun p hp => q (.ref p) (.lst l) _ _ (g1.trans (Go.new g1.ink hp)) (dat_newL d1 (g1.ink.free hp)) h2.2⟩
theorem ed_tup {ta : TA} (h : EvA K ta ss fun l => l.length ≤ 1000000 ∧ R (.tup l)) : EvD K (tTup ta) ss R := fun G σ H e s Q q =>
  h G σ H e s _ fun vs l G1 H1 g1 d1 h2 => ⟨by rw [d1.len]; exact sz_of h2.1, fun p hp => q (.ref p) (.tup l) _ _ (g1.trans (Go.new g1.ink hp)) (dat_newT d1 (g1.ink.free hp)) h2.2⟩
/-! tests -/
theorem et_test {S : Bool → Prop} (h : EvD K te ss fun d => ∃ b, d = .bl b ∧ S b) : EvT K (tTest te) ss S := fun G σ H e s Q q =>
  h G σ H e s _ fun v d G1 H1 g1 d1 ⟨b, h2, h3⟩ => by subst h2; exact ⟨b, d1, q b G1 H1 g1 h3⟩
theorem et_B {S : Bool → Prop} (h : EvD K te ss fun d => ∃ b, d = .bl b ∧ S b) : EvT K (tB te) ss S := fun G σ H e s Q q =>
  h G σ H e s _ fun v d G1 H1 g1 d1 ⟨b, h2, h3⟩ => by subst h2; exact ⟨b, d1, q b G1 H1 g1 h3⟩
theorem et_and {S : Bool → Prop} (h : EvT K t ss fun b => if b = true then EvT K u ss S else S false) : EvT K (tAnd t u) ss S := fun G σ H e s Q q =>
  h G σ H e s _ fun b G1 H1 g1 h2 => by
    cases b with
    | true => exact h2 G1 σ H1 g1.ink (s.up g1.kn) Q fun b G2 H2 g2 h3 => q b G2 H2 (g1.trans g2) h3
    | false => exact q false G1 H1 g1 h2
theorem et_or {S : Bool → Prop} (h : EvT K t ss fun b => if b = true then S true else EvT K u ss S) : EvT K (tOr t u) ss S := fun G σ H e s Q q =>
  h G σ H e s _ fun b G1 H1 g1 h2 => by
    cases b with
    | true => exact q true G1 H1 g1 h2
    | false => exact h2 G1 σ H1 g1.ink (s.up g1.kn) Q fun b G2 H2 g2 h3 => q b G2 H2 (g1.trans g2) h3
theorem et_not {S : Bool → Prop} (h : EvT K t ss fun b => S (!b)) : EvT K (tNot t) ss S := fun G σ H e s Q q =>
  h G σ H e s _ fun b G1 H1 g1 h2 => q (!b) G1 H1 g1 h2
theorem et_yes {S : Bool → Prop} (h : S true) : EvT K tYes ss S := fun G σ H e s Q q => q true G H (Go.refl e) h
theorem ed_and (h : EvD K ta ss fun d => ∃ b, d = .bl b ∧ if b = true then EvD K tb ss R else R (.bl false)) : EvD K (tAndV ta tb) ss R := fun G σ H e s Q q =>
  h G σ H e s _ fun v d G1 H1 g1 d1 ⟨b, h2, h3⟩ => by
    subst h2
    refine ⟨b, d1, ?_⟩
    cases b with
    | true => exact h3 G1 σ H1 g1.ink (s.up g1.kn) Q fun z d G2 H2 g2 d2 h4 => q z d G2 H2 (g1.trans g2) d2 h4
    | false => exact q (.bl false) (.bl false) G1 H1 g1 rfl h3
theorem ed_or (h : EvD K ta ss fun d => ∃ b, d = .bl b ∧ if b = true then R (.bl true) else EvD K tb ss R) : EvD K (tOrV ta tb) ss R := fun G σ H e s Q q =>
  h G σ H e s _ fun v d G1 H1 g1 d1 ⟨b, h2, h3⟩ => by
    subst h2
    refine ⟨b, d1, ?_⟩
    cases b with
    | true => exact q (.bl true) (.bl true) G1 H1 g1 rfl h3
    | false => exact h3 G1 σ H1 g1.ink (s.up g1.kn) Q fun z d G2 H2 g2 d2 h4 => q z d G2 H2 (g1.trans g2) d2 h4
theorem ed_not (h : EvD K ta ss fun d => ∃ b, d = .bl b ∧ R (.bl (!b))) : EvD K (tNotV ta) ss R := fun G σ H e s Q q =>
  h G σ H e s _ fun v d G1 H1 g1 d1 ⟨b, h2, h3⟩ => by subst h2; exact ⟨b, d1, q (.bl (!b)) (.bl (!b)) G1 H1 g1 rfl h3⟩
theorem ed_if (h : EvT K t ss fun b => if b = true then EvD K ta ss R else EvD K tb ss R) : EvD K (tIf t ta tb) ss R := fun G σ H e s Q q =>
  h G σ H e s _ fun b G1 H1 g1 h2 => by
    cases b with
    | true => exact h2 G1 σ H1 g1.ink (s.up g1.kn) Q fun z d G2 H2 g2 d2 h4 => q z d G2 H2 (g1.trans g2) d2 h4
    | false => exact h2 G1 σ H1 g1.ink (s.up g1.kn) Q fun z d G2 H2 g2 d2 h4 => q z d G2 H2 (g1.trans g2) d2 h4
theorem ed_chain {r' : R2} {tc : TE} (h : EvD K ta ss fun x => EvD K tb ss fun y => RD K r x y fun d => ∃ b, d = .bl b ∧ if b = true then EvD K tc ss fun z => RD K r' y z R else R (.bl false)) : EvD K (tChain r r' ta tb tc) ss R := fun G σ H e s Q q =>
  h G σ H e s _ fun v x G1 H1 g1 d1 h2 => h2 G1 σ H1 g1.ink (s.up g1.kn) _ fun w y G2 H2 g2 d2 h3 =>
    h3 G2 H2 v w g2.ink (d1.up g2.kn) d2 _ fun z d G3 H3 g3 d3 ⟨b, h4, h5⟩ => by
      subst h4
      refine ⟨b, d3, ?_⟩
      cases b with
      | true => exact h5 G3 σ H3 g3.ink (((s.up g1.kn).up g2.kn).up g3.kn) _ fun z' d' G4 H4 g4 d4 h6 => h6 G4 H4 w z' g4.ink ((d2.up g3.kn).up g4.kn) d4 Q fun z d G5 H5 g5 d5 hr => q z d G5 H5 (g1.trans (g2.trans (g3.trans (g4.trans g5)))) d5 hr
      | false => exact q (.bl false) (.bl false) G3 H3 (g1.trans (g2.trans g3)) rfl h5
/-! slices -/
theorem eo_none {S : Option Int → Prop} (h : S none) : EvO K tNoPart ss S := fun G σ H e s Q q => q none G H (Go.refl e) h
theorem eo_some {S : Option Int → Prop} (h : EvD K te ss fun d => ∃ i, d = .int i ∧ S (some i)) : EvO K (tPart te) ss S := fun G σ H e s Q q =>
  h G σ H e s _ fun v d G1 H1 g1 d1 ⟨i, h2, h3⟩ => by subst h2; exact ⟨i, d1, q (some i) G1 H1 g1 h3⟩
def SD (K : PySem.W.Frag) (r : V → Option Int → Option Int → Hp → VK → Prop) (x : Dt) (lo hi : Option Int) (R : Dt → Prop) : Prop := ∀ (G H : Hp) (v : V), Ex G H → Dat K G x v → ∀ Q : VK, (∀ z d G' H', Go G H G' H' → Dat K G' d z → R d → Q z H') → r v lo hi H Q
theorem ed_sl {r : V → Option Int → Option Int → Hp → VK → Prop} {tl th : TO} (h : EvD K te ss fun x => EvO K tl ss fun lo => EvO K th ss fun hi => SD K r x lo hi R) : EvD K (tSl r te tl th) ss R := fun G σ H e s Q q =>
  h G σ H e s _ fun v x G1 H1 g1 d1 h2 => h2 G1 σ H1 g1.ink (s.up g1.kn) _ fun lo G2 H2 g2 h3 => h3 G2 σ H2 g2.ink ((s.up g1.kn).up g2.kn) _ fun hi G3 H3 g3 h4 =>
    h4 G3 H3 v g3.ink ((d1.up g2.kn).up g3.kn) Q fun z d G4 H4 g4 d4 hr => q z d G4 H4 (g1.trans (g2.trans (g3.trans g4))) d4 hr
/-! methods of built-in types -/
def MD (K : PySem.W.Frag) (T : String) (r : V → List V → Hp → VK → Prop) (x : Dt) (ds : List Dt) (R : Dt → Prop) : Prop := ∀ (G H : Hp) (v : V) (vs : List V), Ex G H → Dat K G x v → Dats K G ds vs → ∀ Q : VK, (∀ z d G' H', Go G H G' H' → Dat K G' d z → R d → Q z H') → r v vs H Q
theorem ed_bm {T : String} {r : V → List V → Hp → VK → Prop} {ta : TA} (h : EvD K te ss fun x => (∀ (G H : Hp) (v : V), Ex G H → Dat K G x v → tyV K T v H) ∧ EvA K ta ss fun l => MD K T r x l R) : EvD K (tBM K T r te ta) ss R := fun G σ H e s Q q =>
  h G σ H e s _ fun v x G1 H1 g1 d1 h2 => ⟨h2.1 G1 H1 v g1.ink d1, h2.2 G1 σ H1 g1.ink (s.up g1.kn) _ fun vs l G2 H2 g2 d2 h3 =>
    h3 G2 H2 v vs g2.ink (d1.up g2.kn) d2 Q fun z d G4 H4 g4 d4 hr => q z d G4 H4 (g1.trans (g2.trans g4)) d4 hr⟩
theorem ed_bm0 {T : String} {r : V → List V → Hp → VK → Prop} (h : EvD K te ss fun x => (∀ (G H : Hp) (v : V), Ex G H → Dat K G x v → tyV K T v H) ∧ MD K T r x [] R) : EvD K (tBM0 K T r te) ss R := fun G σ H e s Q q =>
  h G σ H e s _ fun v x G1 H1 g1 d1 h2 => ⟨h2.1 G1 H1 v g1.ink d1, h2.2 G1 H1 v [] g1.ink d1 rfl Q fun z d G4 H4 g4 d4 hr => q z d G4 H4 (g1.trans g4) d4 hr⟩
/-! calls of defs: Pre is what the def asks of its arguments and of R -/
def spD (K : PySem.W.Frag) (Pre : List Dt → (Dt → Prop) → Prop) : Sp := fun vs H Q _ => ∃ (G : Hp) (ds : List Dt) (R : Dt → Prop), Ex G H ∧ Dats K G ds vs ∧ Pre ds R ∧ ∀ v d G' H', Go G H G' H' → Dat K G' d v → R d → Q v H'
theorem ed_call {Pre : List Dt → (Dt → Prop) → Prop} {E : XK} {ta : TA} (h : EvA K ta ss fun l => Pre l R) : EvD K (tCall (spD K Pre) [] E ta) ss R := fun G σ H e s Q q =>
  h G σ H e s _ fun vs l G1 H1 g1 d1 h2 => by
    rw [List.append_nil]
    exact ⟨G1, l, R, g1.ink, d1, h2, fun v d G' H' g hd hr => q v d G' H' (g1.trans g) hd hr⟩
/-! what is walked -/
/-- J gives the data of l, one by one, while G0 stands -/
def WalkD (K : PySem.W.Frag) (J : It) (l : List Dt) (G0 : Hp) : Prop := Walk J l.length (fun H => Ex G0 H) (fun i H x H' => ∀ G : Hp, Ex G0 G → Ex G H → ∃ d G2, l[i]? = some d ∧ Go G H G2 H' ∧ Dat K G2 d x)
def EvI (K : PySem.W.Frag) (wi : TI) (ss : List Sd) (R : List Dt → Prop) : Prop := ∀ (G : Hp) (σ : L2.St) (H : Hp), Ex G H → Sv K G σ ss → ∀ Q : It → Hp → Prop, (∀ J l G' H', Go G H G' H' → WalkD K J l G' → R l → Q J H') → wi σ H Q
theorem wd_list {G : Hp} {a : Addr} {l : List Dt} {xs : List V} (hs : SqL K G a xs) (d : Dats K G l xs) : WalkD K (Itl K a) l G := by
  have w := walk_list (K := K) (a := a) (xs := xs)
  rw [d.len] at w
  refine w.mono (fun H e => e.seq hs) fun i H x H' hi e y G2 e2 e3 => ?_
  obtain ⟨rfl, y⟩ := y
  obtain ⟨dd, h1, h2⟩ := d.getV y
  exact ⟨dd, G2, h1, Go.refl e3, h2.up e2⟩
theorem wd_tup {G : Hp} {a : Addr} {l : List Dt} {xs : List V} (hs : SqT K G a xs) (d : Dats K G l xs) : WalkD K (Itt K a) l G := by
  have w := walk_tup (K := K) (a := a) (xs := xs)
  rw [d.len] at w
  refine w.mono (fun H e => Ex.tup e hs) fun i H x H' hi e y G2 e2 e3 => ?_
  obtain ⟨rfl, y⟩ := y
  obtain ⟨dd, h1, h2⟩ := d.getV y
  exact ⟨dd, G2, h1, Go.refl e3, h2.up e2⟩
def rangeD (lo : Int) (n : Nat) : List Dt := (List.range n).map fun i : Nat => .int (lo + (i : Int))
theorem wd_range {G : Hp} {lo : Int} {n : Nat} : WalkD K (Itr lo n) (rangeD lo n) G := by
  have w := walk_range (lo := lo) (n := n)
  have e : (rangeD lo n).length = n := by simp [rangeD]
  unfold WalkD
  rw [e]
  refine w.mono (fun H e => True.intro) fun i H x H' hi e y G2 e2 e3 => ?_
  obtain ⟨rfl, rfl⟩ := y
  exact ⟨.int (lo + (i : Int)), G2, by simp [rangeD, hi], Go.refl e3, rfl⟩
def signsD (z : Str) : List Dt := z.cps.toList.map fun c => .str ⟨#[c]⟩
theorem wd_str {G : Hp} {z : Str} : WalkD K (Its z) (signsD z) G := by
  have w := walk_str (z := z)
  have e : (signsD z).length = z.cps.size := by simp [signsD]
  unfold WalkD
  rw [e]
  refine w.mono (fun H e => True.intro) fun i H x H' hi e y G2 e2 e3 => ?_
  obtain ⟨rfl, c, h1, rfl⟩ := y
  have h2 : z.cps.toList[i]? = some c := by simpa using h1
  exact ⟨.str ⟨#[c]⟩, G2, by simp [signsD, h2], Go.refl e3, rfl⟩
theorem ei_list {S : List Dt → Prop} (h : EvD K te ss fun d => ∃ l, (d = .lst l ∨ d = .sq l) ∧ S l) : EvI K (iList K te) ss S := fun G σ H e s Q q =>
  h G σ H e s _ fun v d G1 H1 g1 d1 ⟨l, h2, h3⟩ => by
    rcases h2 with rfl | rfl
    · obtain ⟨a, xs, rfl, hs, hd⟩ := d1
      exact ⟨a, rfl, ⟨xs, .inl (.inl (g1.ink _ _ hs))⟩, q _ l G1 H1 g1 (wd_list (.inl (.inl hs)) hd) h3⟩
    · obtain ⟨a, xs, rfl, hs, hd⟩ := d1
      exact ⟨a, rfl, ⟨xs, g1.ink.seq hs⟩, q _ l G1 H1 g1 (wd_list hs hd) h3⟩
theorem ei_tup {S : List Dt → Prop} (h : EvD K te ss fun d => ∃ l, d = .tup l ∧ S l) : EvI K (iTup K te) ss S := fun G σ H e s Q q =>
  h G σ H e s _ fun v d G1 H1 g1 d1 ⟨l, h2, h3⟩ => by
    subst h2
    obtain ⟨a, xs, rfl, hs, hd⟩ := d1
    exact ⟨a, rfl, ⟨xs, Ex.tup g1.ink hs⟩, q _ l G1 H1 g1 (wd_tup hs hd) h3⟩
theorem ei_rng1 {ta : TA} {S : List Dt → Prop} (h : EvA K ta ss fun l => ∃ j : Int, l = [.int j] ∧ (j < 2 ^ 62 ∧ -(2 ^ 62) ≤ j) ∧ S (rangeD 0 j.toNat)) : EvI K (iRng1 ta) ss S := fun G σ H e s Q q =>
  h G σ H e s _ fun vs l G1 H1 g1 d1 ⟨j, h2, h3, h4⟩ => by
    subst h2
    obtain ⟨x, r, rfl, hx, hr⟩ := d1
    cases hx; cases hr
    exact ⟨j, rfl, h3.2, h3.1, q _ _ G1 H1 g1 wd_range h4⟩
theorem ei_str {S : List Dt → Prop} (h : EvD K te ss fun d => ∃ z, d = .str z ∧ S (signsD z)) : EvI K (iStr te) ss S := fun G σ H e s Q q =>
  h G σ H e s _ fun v d G1 H1 g1 d1 ⟨l, h2, h3⟩ => by
    subst h2
    cases d1
    exact ⟨l, rfl, q _ _ G1 H1 g1 wd_str h3⟩
/-! targets: what the slots hold behind it -/
def GD (K : PySem.W.Frag) (g : TG) (vs : List Nat) (ss : List Sd) (d : Dt) (ss' : List Sd) : Prop := ∀ (G H : Hp) (σ : L2.St) (x : V), Ex G H → Sv K G σ ss → Dat K G d x → ∀ Q : L2.St → Hp → Prop, (∀ σ', Sv K G σ' ss' → wipe σ' vs = wipe σ vs → Q σ' H) → g x (wipe σ vs) H Q
theorem wipe1 (σ : L2.St) (j : Nat) : wipe σ [j] = σ.set j none := rfl
theorem gd_name {j : Nat} {d : Dt} : GD K (gName j) [j] ss d (ss.set j (.dt d)) := fun G H σ x e s hd Q q => by
  refine q _ ?_ ?_
  · rw [wipe1]
    have := (s.forget (j := j) (o := none)).set (j := j) hd
    rw [List.set_set] at this ⊢
    rw [List.set_set] at this
    exact this
  · simp [wipe]
/-- [e for x in .. if ..]: I, what holds of the list so far behind i items -/
theorem ed_lc {wi : TI} {g : TG} {vs : List Nat} {sx : Dt → List Sd} (hg : ∀ d, GD K g vs ss d (sx d))
    (h : EvI K wi ss fun l => ∃ I : Nat → List Dt → Prop, I 0 [] ∧ l.length < 1000000 ∧ (∀ i x acc, l[i]? = some x → I i acc → EvT K t (sx x) fun b => if b = true then EvD K te (sx x) fun y => I (i + 1) (acc ++ [y]) else I (i + 1) acc) ∧ ∀ acc, I l.length acc → R (.lst acc)) :
    EvD K (tLc wi g t te vs) ss R := fun G σ H e s Q q =>
  h G σ H e s _ fun J l G1 H1 g1 w ⟨I, h0, hl, hs, hd⟩ => by
    have s1 := s.up g1.kn
    intro D nD
    have nG : G1 D = none := g1.ink.free nD
    refine lc_it w (fun i H' => ∃ (G' : Hp) (acc : List Dt) (xs : List V), Go G1 H1 G' H' ∧ G' D = none ∧ H' D = some (.lst xs) ∧ Dats K G' acc xs ∧ acc.length ≤ i ∧ I i acc) ?_ ?_ ?_ ?_
    · exact ⟨G1, [], [], Go.put g1.ink nD, nG, upd_same, rfl, Nat.le_refl _, h0⟩
    · rintro i H' _ ⟨G', acc, xs, g2, _⟩
      exact g2.kn.trans g2.ink
    · rintro i x H2 H3 hi ⟨G2, acc, xs, g2, n2, e2, d2, l2, i2⟩ y
      obtain ⟨d, G3, hd3, g3, dx⟩ := y G2 g2.kn g2.ink
      have e3 : H3 D = some (.lst xs) := g3.up D _ e2
      have n3 : G3 D = none := g3.nw D n2 (by rw [e2]; exact fun z => nomatch z)
      refine hg d G3 H3 σ x g3.ink ((s1.up g2.kn).up g3.kn) dx _ fun σ4 s4 w4 => ⟨w4, ?_⟩
      refine hs i d acc hd3 i2 G3 σ4 H3 g3.ink s4 _ fun b G5 H5 g5 h5 => ?_
      have e5 : H5 D = some (.lst xs) := g5.up D _ e3
      have n5 : G5 D = none := g5.nw D n3 (by rw [e3]; exact fun z => nomatch z)
      cases b with
      | false => exact ⟨G5, acc, xs, (g2.trans g3).trans g5, n5, e5, (d2.up g3.kn).up g5.kn, by omega, h5⟩
      | true =>
        refine h5 G5 σ4 H5 g5.ink (s4.up g5.kn) _ fun y dy G6 H6 g6 d6 h6 => ?_
        have e6 : H6 D = some (.lst xs) := g6.up D _ e5
        have n6 : G6 D = none := g6.nw D n5 (by rw [e5]; exact fun z => nomatch z)
        have d7 : Dats K G6 (acc ++ [dy]) (xs ++ [y]) := Dats.snoc (((d2.up g3.kn).up g5.kn).up g6.kn) d6
        have g7 := ((g2.trans g3).trans g5).trans g6
        refine ⟨xs, e6, ?_, G6, acc ++ [dy], xs ++ [y], ⟨g7.kn, g7.nw, fun a u z => ?_, fun a u z => ?_⟩, n6, upd_same, d7, by simp; omega, h6⟩
        · rw [d2.len]; exact sz_lt (by omega)
        · rw [upd_ne (ne_of_none z n6)]; exact g7.ink a u z
        · rw [upd_ne (ne_of_none z nD)]; exact g7.up a u z
    · rintro H2 ⟨G2, acc, xs, g2, n2, e2, d2, l2, i2⟩
      refine q (.ref D) (.lst acc) (upd G2 D (.lst xs)) H2 (g1.trans ⟨g2.kn.trans (Ex.new n2), fun a h1 h2 => ?_, fun a u z => ?_, g2.up⟩) (dat_newL d2 n2) (hd acc i2)
      · rw [upd_ne (fun c => h2 (by rw [c]; exact nD))]; exact g2.nw a h1 h2
      · by_cases c : a = D
        · subst c; rw [upd_same] at z; rw [e2]; exact z
        · rw [upd_ne c] at z; exact g2.ink a u z
end
/-- the list of what is made, one by one -/
theorem ed_lc_map {K : PySem.W.Frag} {ss : List Sd} {R : Dt → Prop} {te : TE} {wi : TI} {g : TG} {vs : List Nat} {sx : Dt → List Sd} (hg : ∀ d, GD K g vs ss d (sx d))
    (h : EvI K wi ss fun l => l.length < 1000000 ∧ ∃ f : Dt → Dt, (∀ x ∈ l, EvD K te (sx x) fun y => y = f x) ∧ R (.lst (l.map f))) : EvD K (tLc wi g tYes te vs) ss R :=
  ed_lc hg fun G σ H e s Q q => h G σ H e s Q fun J l G' H' g' w ⟨h1, f, h2, h3⟩ => q J l G' H' g' w
    ⟨fun i acc => acc = (l.take i).map f, by simp, h1, fun i x acc hx ha => et_yes (by
      rw [if_pos rfl]
      refine (h2 x (List.mem_of_getElem? hx)).imp fun y hy => ?_
      subst hy ha
      rw [List.take_add_one, hx]; simp), fun acc ha => by
      subst ha
      rw [List.take_length]; exact h3⟩
theorem ed_lc_filter {K : PySem.W.Frag} {ss : List Sd} {R : Dt → Prop} {tt : TT} {te : TE} {wi : TI} {g : TG} {vs : List Nat} {sx : Dt → List Sd} (hg : ∀ d, GD K g vs ss d (sx d))
    (h : EvI K wi ss fun l => l.length < 1000000 ∧ ∃ (p : Dt → Bool) (f : Dt → Dt), (∀ x ∈ l, EvT K tt (sx x) fun b => b = p x) ∧ (∀ x ∈ l, p x = true → EvD K te (sx x) fun y => y = f x) ∧ R (.lst ((l.filter p).map f))) : EvD K (tLc wi g tt te vs) ss R :=
  ed_lc hg fun G σ H e s Q q => h G σ H e s Q fun J l G' H' g' w ⟨h1, p, f, h2, h3, h4⟩ => q J l G' H' g' w
    ⟨fun i acc => acc = ((l.take i).filter p).map f, by simp, h1, fun i x acc hx ha => (h2 x (List.mem_of_getElem? hx)).imp fun b hb => by
      have ht : l.take (i + 1) = l.take i ++ [x] := by rw [List.take_add_one, hx]; simp
      subst hb ha
      cases hp : p x with
      | true =>
        rw [if_pos rfl]
        refine (h3 x (List.mem_of_getElem? hx) hp).imp fun y hy => ?_
        subst hy
        rw [ht]; simp [hp]
      | false =>
        rw [if_neg (by simp)]
        show _ = _
        rw [ht]; simp [hp], fun acc ha => by
      subst ha
      rw [List.take_length]; exact h4⟩

/-! ### statements: N, B, C what is wanted of the slots behind it, at a break, at a continue; R of what is returned -/
abbrev SP := List Sd → Prop
def StD (K : PySem.W.Frag) (ts : TS) (ss : List Sd) (N B C : SP) (R : Dt → Prop) : Prop := ∀ (G0 H0 : Hp) (D : Ends) (σ : L2.St) (G H : Hp), Go G0 H0 G H → Sl K H0 G H σ ss →
  (∀ σ' ss' G' H', Go G0 H0 G' H' → Sl K H0 G' H' σ' ss' → N ss' → D.nx σ' H') → (∀ σ' ss' G' H', Go G0 H0 G' H' → Sl K H0 G' H' σ' ss' → B ss' → D.bk σ' H') →
  (∀ σ' ss' G' H', Go G0 H0 G' H' → Sl K H0 G' H' σ' ss' → C ss' → D.ct σ' H') → (∀ v d G' H', Go G0 H0 G' H' → Dat K G' d v → R d → D.rt v H') → ts D σ H
section
variable {K : PySem.W.Frag} {ss : List Sd} {R : Dt → Prop} {N B C : SP} {te : TE} {tt : TT} {t u : TS}
theorem sd_next (h : N ss) : StD K tNext ss N B C R := fun G0 H0 D σ G H g s n b c r => n σ ss G H g s h
theorem sd_seq (h : StD K t ss (fun s1 => StD K u s1 N B C R) B C R) : StD K (tSeq t u) ss N B C R := fun G0 H0 D σ G H g s n b c r =>
  h G0 H0 { D with nx := u D } σ G H g s (fun σ1 s1 G1 H1 g1 l1 h1 => h1 G0 H0 D σ1 G1 H1 g1 l1 n b c r) b c r
theorem sd_brk (h : B ss) : StD K tBreak ss N B C R := fun G0 H0 D σ G H g s n b c r => b σ ss G H g s h
theorem sd_cont (h : C ss) : StD K tCont ss N B C R := fun G0 H0 D σ G H g s n b c r => c σ ss G H g s h
theorem sd_drop (h : EvD K te ss fun _ => N ss) : StD K (tDrop te) ss N B C R := fun G0 H0 D σ G H g s n b c r =>
  h G σ H g.ink s.sv _ fun v d G1 H1 g1 _ h1 => n σ ss G1 H1 (g.trans g1) (s.go g1) h1
theorem sd_ret (h : EvD K te ss R) : StD K (tRet te) ss N B C R := fun G0 H0 D σ G H g s n b c r =>
  h G σ H g.ink s.sv _ fun v d G1 H1 g1 d1 h1 => r v d G1 H1 (g.trans g1) d1 h1
theorem sd_retN (h : R .non) : StD K tRetN ss N B C R := fun G0 H0 D σ G H g s n b c r => r .non .non G H g rfl h
theorem sd_if (h : EvT K tt ss fun b => if b = true then StD K t ss N B C R else StD K u ss N B C R) : StD K (tIfS tt t u) ss N B C R := fun G0 H0 D σ G H g s n b c r =>
  h G σ H g.ink s.sv _ fun k G1 H1 g1 h1 => by
    cases k with
    | true => exact h1 G0 H0 D σ G1 H1 (g.trans g1) (s.go g1) n b c r
    | false => exact h1 G0 H0 D σ G1 H1 (g.trans g1) (s.go g1) n b c r
theorem sd_asg {i : Nat} (h : EvD K te ss fun d => N (ss.set i (.dt d))) : StD K (tAsg te (gName i)) ss N B C R := fun G0 H0 D σ G H g s n b c r =>
  h G σ H g.ink s.sv _ fun v d G1 H1 g1 d1 h1 => n _ _ G1 H1 (g.trans g1) ((s.go g1).set d1) h1
/-- a for: I by the turn and the slots -/
theorem sd_for {wi : TI} {j : Nat} (h : EvI K wi ss fun l => ∃ I : Nat → SP, I 0 ss ∧ (∀ i x s1, l[i]? = some x → I i s1 → StD K t (s1.set j (.dt x)) (I (i + 1)) N (I (i + 1)) R) ∧ ∀ s1, I l.length s1 → N s1) :
    StD K (tFor wi (gName j) t) ss N B C R := fun G0 H0 D σ G H g s n b c r =>
  h G σ H g.ink s.sv _ fun J l G1 H1 g1 w ⟨I, h0, hs, hd⟩ => by
    have gg : Go G0 H0 G1 H1 := g.trans g1
    have back : ∀ {G' H' : Hp}, Go G1 H0 G' H' → Go G0 H0 G' H' := fun {G' H'} z => ⟨gg.kn.trans z.kn, fun a h1 h2 => z.nw a (gg.nw a h1 h2) h2, z.ink, z.up⟩
    refine for_it w (fun i σ' H' => ∃ G' s', Go G1 H0 G' H' ∧ Sl K H0 G' H' σ' s' ∧ I i s') ⟨G1, ss, ⟨Same.refl _, fun _ h _ => h, gg.ink, gg.up⟩, s.go g1, h0⟩ ?_ ?_ ?_
    · rintro i σ' H' _ ⟨G', s', g2, _⟩
      exact g2.kn.trans g2.ink
    · rintro i x σ' H' H2 hi ⟨G', s', g2, l2, i2⟩ y
      obtain ⟨d, G3, hd3, g3, dx⟩ := y G' g2.kn g2.ink
      refine hs i d s' hd3 i2 G1 H0 { D with nx := _, ct := _, bk := D.nx } _ G3 H2 (g2.trans g3) ((l2.go g3).set dx) (fun σ4 s4 G4 H4 g4 l4 h4 => ⟨G4, s4, g4, l4, h4⟩)
        (fun σ4 s4 G4 H4 g4 l4 h4 => n σ4 s4 G4 H4 (back g4) l4 h4) (fun σ4 s4 G4 H4 g4 l4 h4 => ⟨G4, s4, g4, l4, h4⟩) fun v d G' H' z1 z2 z3 => r v d G' H' (back z1) z2 z3
    · rintro σ' H' ⟨G', s', g2, l2, i2⟩
      exact n σ' s' G' H' (back g2) l2 (hd s' i2)
end

/-! ### defs -/
def startS (n : Nat) (ds : List Dt) : List Sd := ds.map .dt ++ List.replicate (n - ds.length) .no
theorem sl_start {K : PySem.W.Frag} {G H : Hp} {ds : List Dt} {vs : List V} {N : List Str} (e : Ex G H) (d : Dats K G ds vs) : Sl K H G H (L2.start N vs) (startS N.length ds) := by
  have hl := d.len
  have noown : ∀ (i : Nat) (l : List Dt), (startS N.length ds)[i]? ≠ some (.own l) := fun i l z => by
    unfold startS at z
    by_cases c : i < (ds.map Sd.dt).length
    · rw [List.getElem?_append_left c, List.getElem?_map] at z
      cases q : ds[i]? with
      | none => rw [q] at z; cases z
      | some x => rw [q] at z; cases z
    · rw [List.getElem?_append_right (by omega), List.getElem?_replicate] at z
      split at z <;> cases z
  refine ⟨⟨by simp [L2.start, startS, hl], fun i x z => ?_⟩, fun i l z => absurd z (noown i l), fun i j l m a z => absurd z (noown i l)⟩
  unfold startS at z
  unfold L2.start
  by_cases c : i < ds.length
  · rw [List.getElem?_append_left (by simpa using c), List.getElem?_map] at z
    cases q : ds[i]? with
    | none => rw [q] at z; cases z
    | some y =>
      rw [q] at z
      cases z
      obtain ⟨v, h1, h2⟩ := d.get q
      exact ⟨v, by rw [List.getElem?_append_left (by simpa [hl] using c), List.getElem?_map, h1]; rfl, h2⟩
  · rw [List.getElem?_append_right (by simpa using c), List.getElem?_replicate] at z
    split at z <;> cases z
/-- a def of the text that keeps the promise Pre by level k: with all that a caller asks -/
def Gf (P : Program) (w : World) (K : PySem.W.Frag) (mg : Str → Option Value) (base : Heap) (x : Str) (k : Nat) (ps : List Str) (Pre : List Dt → (Dt → Prop) → Prop) : Prop :=
  ∃ f fd, FnOk P w K mg base CX0 k f fd ps (spD K Pre) ∧ Binds K fd ps [] ∧ mg x = some (.ref f) ∧ PySem.W.keepIn K (.ref f) = true ∧ ∃ oc od osl, K.lookup f = some ⟨oc, od, .func fd, osl⟩
/-- a def's object, and its name -/
def Df (K : PySem.W.Frag) (mg : Str → Option Value) (x : Str) (st : Stmt) (ps : List Str) : Prop :=
  ∃ f fd, Fun K x x st f fd ∧ Binds K fd ps [] ∧ mg x = some (.ref f)
section
variable {P : Program} {w : World} {K : PySem.W.Frag} {mg : Str → Option Value} {base : Heap}
theorem lk_of {x q : Str} {st : Stmt} {f : Addr} {fd : FuncData} (F : Fun K x q st f fd) : ∃ oc od osl, K.lookup f = some ⟨oc, od, .func fd, osl⟩ := by
  obtain ⟨oc, od, kV, doc, pm, an, cdv, ct, osl, _, lk, _⟩ := F.ex
  exact ⟨oc, od, osl, lk⟩
/-- the same def, by any of its names -/
theorem Gf.at {x : Str} {k : Nat} {ps : List Str} {Pre : List Dt → (Dt → Prop) → Prop} (g : Gf P w K mg base x k ps Pre) {f : Addr} {fd : FuncData} (m : mg x = some (.ref f)) (l : ∃ oc od osl, K.lookup f = some ⟨oc, od, .func fd, osl⟩) : FnOk P w K mg base CX0 k f fd ps (spD K Pre) := by
  obtain ⟨f', fd', F, _, m', _, oc, od, osl, l'⟩ := g
  rw [m] at m'
  cases m'
  obtain ⟨_, _, _, l⟩ := l
  rw [l] at l'
  cases l'
  exact F
theorem gf_of {x : Str} {st : Stmt} {N ps : List Str} {k : Nat} {Pre : List Dt → (Dt → Prop) → Prop} (F : Df K mg x st ps) (S : FnScope N ps (defScope st)) (len : ∀ ds R, Pre ds R → ds.length = ps.length)
    (hbody : ∀ (f : Addr) (cdv : Value) (A : Around) (outer : List Env) (s : Shared) (H : Hp) (E : XK), Room k (A.deeper (envOfC x (defScope st) s.heap.objs.size f cdv)) →
      ∃ t, PSs (cxOf CX0 P w K mg base N x (defScope st) f cdv A outer s H E).nox (defBody st) t ∧ ∀ ds R, Pre ds R → StD K t (startS N.length ds) (fun _ => R .non) (fun _ => False) (fun _ => False) R) :
    Gf P w K mg base x (k + 1) ps Pre := by
  obtain ⟨f, fd, F, b, m⟩ := F
  refine ⟨f, fd, F.ok S (fun vs H Q E h => ?_) (fun cdv A outer s H vs Q E hr h => ?_), b, m, F.kp, lk_of F⟩
  · obtain ⟨G, ds, R, e, d, p, _⟩ := h
    rw [d.len]; exact len ds R p
  · obtain ⟨G, ds, R, e, d, p, q⟩ := h
    obtain ⟨t, ht, hs⟩ := hbody f cdv A outer s H E hr
    exact ⟨t, ht, hs ds R p G H _ _ G H (Go.refl e) (sl_start e d) (fun σ' s' G' H' g' _ hn => q .non .non G' H' g' rfl hn) (fun σ' s' G' H' g' _ hn => hn.elim) (fun σ' s' G' H' g' _ hn => hn.elim) fun v d G' H' g' dd hr => q v d G' H' g' dd hr⟩
theorem pe_gf {X : Cx} {x : Str} {k : Nat} {ps : List Str} {Pre : List Dt → (Dt → Prop) → Prop} {p pos : Pos} {e : Expr} {es : List Expr} {t : TA} (F : Gf P w K mg base x k ps Pre) (hX : X.prog = P ∧ X.w = w ∧ X.K = K ∧ X.mg = mg ∧ X.base = base) (hr : Room k X.A) (hg : Gl X x) (ha : PA X (e :: es) t)
    (hdb : (x == ("__debug__" : Str)) = false := by decide) (he : starEach (e :: es) X.env = (false, eval e X.env) :: starEach es X.env := by rfl) (hpl : (backTo pos (starEach es X.env)).any (·.1) = false := by rfl) :
    PE X (.Call (.Name x p) (e :: es) [] pos) (tCall (spD K Pre) [] E0 t) := by
  obtain ⟨rfl, rfl, rfl, rfl, rfl⟩ := hX
  obtain ⟨f, fd, F, b, m, kp, _⟩ := F
  exact pe_call F hr hg m kp b .nil pass0 ha hdb he hpl
end
end Nv

set_option Elab.async false
set_option linter.all false
set_option maxRecDepth 100000
set_option maxHeartbeats 4000000
namespace Nv
open PySem PySem.Spec PyProof.Rows L2
/-! ### operators, any kind of data -/
def CPowW (i j : Int) : Prop := 0 ≤ j ∧ (Builtin.Int.intBits i : Int) * j ≤ 2 ^ 27
section
variable {X : Cx}
theorem op_powW : OpR X (binaryOp .Pow) (rI CPowW fun i j => .int (i ^ j.toNat)) := opI fun _ _ _ _ _ _ _ hc q => pow_int hc.1 hc.2 q
abbrev rAddS : R2 := fun x y H Q => ∃ i j, x = .str i ∧ y = .str j ∧ i.length + j.length ≤ sizeLine ∧ Q (.str (i ++ j)) H
def rAddA (K : PySem.W.Frag) : R2 := fun x y H Q => (rI0 fun i j => .int (i + j)) x y H Q ∨ (rAddS x y H Q ∨ (rCat x y H Q ∨ rCatA K x y H Q))
theorem opAdd {K : PySem.W.Frag} (hK : X.K = K) : OpR X (binaryOp .Add) (rAddA K) := by subst hK; exact op_add.or (op_add_str.or (op_cat.or op_catA))
def rMulS : R2 := fun x y H Q => ∃ z n, x = .str z ∧ y = .int n ∧ PySem.MulOk z n ∧ Q (.str (Txt.mul z n)) H
theorem op_mulS : OpR X (binaryOp .Mult) rMulS := by
  intro pins s σ H x y v u Q I rx ry h
  obtain ⟨z, n, rfl, rfl, ok, q⟩ := h
  obtain ⟨t, rfl⟩ := rx
  obtain ⟨t', rfl⟩ := ry
  exact PySem.SB.mul ok fun t' k => ⟨.str _, H, I.tok _, ⟨_, rfl⟩, q⟩
def rMulA (K : PySem.W.Frag) : R2 := fun x y H Q => (rI CMul fun i j => .int (i * j)) x y H Q ∨ ((rI CMulW fun i j => .int (i * j)) x y H Q ∨ (rRep x y H Q ∨ (rRepT K x y H Q ∨ rMulS x y H Q)))
theorem opMul {K : PySem.W.Frag} (hK : X.K = K) : OpR X (binaryOp .Mult) (rMulA K) := by subst hK; exact op_mul.or (op_mulW.or (op_rep.or (op_repT.or op_mulS)))
def rEqA (K : PySem.W.Frag) : R2 := fun x y H Q => rEq x y H Q ∨ rEqD K x y H Q
theorem opEq {K : PySem.W.Frag} (hK : X.K = K) (hu : X.A.units + 64 < cLine) : OpR X (compareOp .Eq) (rEqA K) := by subst hK; exact op_eq.or (op_eqD hu)
def rNeA (K : PySem.W.Frag) : R2 := fun x y H Q => rNe x y H Q ∨ rNeD K x y H Q
theorem opNe {K : PySem.W.Frag} (hK : X.K = K) (hu : X.A.units + 64 < cLine) : OpR X (compareOp .NotEq) (rNeA K) := by subst hK; exact op_ne.or (op_neD hu)
abbrev rIsNA : R2 := fun x y H Q => y = .non ∧ Q (.bl (decide (x = .non))) H
abbrev rIsBA : R2 := fun x y H Q => ∃ a b, x = .bl a ∧ y = .bl b ∧ Q (.bl (decide (a = b))) H
def rIsA : R2 := fun x y H Q => rIsNA x y H Q ∨ rIsBA x y H Q
theorem opIs : OpR X (compareOp .Is) rIsA := op_isN.or op_is_bl
abbrev rNotNA : R2 := fun x y H Q => y = .non ∧ Q (.bl (!decide (x = .non))) H
abbrev rNotBA : R2 := fun x y H Q => ∃ a b, x = .bl a ∧ y = .bl b ∧ Q (.bl (!decide (a = b))) H
def rNotA : R2 := fun x y H Q => rNotNA x y H Q ∨ rNotBA x y H Q
theorem opIsNot : OpR X (compareOp .IsNot) rNotA := op_notN.or op_isnot_bl
abbrev rInS : R2 := fun x y H Q => ∃ (c : Nat) (z : Str), x = .str ⟨#[c]⟩ ∧ y = .str z ∧ Q (.bl (decide (c ∈ z.cps.toList))) H
def rInA (K : PySem.W.Frag) : R2 := fun x y H Q => rInS x y H Q ∨ rIn K false x y H Q
theorem opIn {K : PySem.W.Frag} (hK : X.K = K) : OpR X (compareOp .In) (rInA K) := by subst hK; exact op_in_sign.or op_in_seq
abbrev rNiS : R2 := fun x y H Q => ∃ (c : Nat) (z : Str), x = .str ⟨#[c]⟩ ∧ y = .str z ∧ Q (.bl (!decide (c ∈ z.cps.toList))) H
def rNiA (K : PySem.W.Frag) : R2 := fun x y H Q => rNiS x y H Q ∨ rIn K true x y H Q
theorem opNotIn {K : PySem.W.Frag} (hK : X.K = K) : OpR X (compareOp .NotIn) (rNiA K) := by subst hK; exact op_notIn_sign.or op_notIn_seq
/-! names -/
theorem pe_g {x : Str} {v : V} {pos : Pos} (hg : Gl X x) (h : ∃ u, X.mg x = some u ∧ RelV v u) (hd : (x == ("__debug__" : Str)) = false := by decide) : PE X (.Name x pos) (tC v) :=
  let ⟨_, h1, h2⟩ := h
  pe_glob hg h1 h2 hd
theorem pe_bty (n : String) {x : Str} {pos : Pos} (hg : Gl X x) (hm : X.mg x = none) (hv : bootBuiltins x = some (.type n)) (hn : x ≠ "__name__" := by decide) (hd : (x == ("__debug__" : Str)) = false := by decide) : PE X (.Name x pos) (tC (.ty n)) :=
  pe_bltn hg hm hv rfl hn hd
/-! calls -/
def rRepr1 : List V → Hp → VK → Prop := fun xs H Q => (xs = [.non] ∧ Q (.str "None") H) ∨ (∃ b, xs = [.bl b] ∧ Q (.str (if b then "True" else "False")) H)
theorem call_repr1 : CallR X (.builtin "repr") rRepr1 := by
  intro pins s σ H xs us Q I r h
  rcases h with ⟨rfl, q⟩ | ⟨b, rfl, q⟩
  · obtain ⟨u, rfl, rx⟩ := vals1 r
    cases rx
    exact PySem.P.repr_of_none ⟨.str _, H, I.tok _, ⟨_, rfl⟩, q⟩
  · obtain ⟨u, rfl, rx⟩ := vals1 r
    cases rx
    exact PySem.P.repr_of_bool ⟨.str _, H, I.tok _, ⟨_, rfl⟩, q⟩
abbrev rStrI : List V → Hp → VK → Prop := fun xs H Q => ∃ i, xs = [.int i] ∧ i.natAbs.log2 < 1920 ∧ Q (.str (toString i)) H
abbrev rStrS : List V → Hp → VK → Prop := fun xs H Q => ∃ a, xs = [.str a] ∧ Q (.str a) H
def rStrA : List V → Hp → VK → Prop := fun xs H Q => rStrI xs H Q ∨ rStrS xs H Q
theorem callStr : CallR X (.type "str") rStrA := call_str_int.or SkE.call_str_str
abbrev rLenV (K : PySem.W.Frag) : List V → Hp → VK → Prop := fun xs H Q => ∃ x n, xs = [x] ∧ LenV K x H n ∧ Q (.int n) H
abbrev rLenD : List V → Hp → VK → Prop := fun xs H Q => ∃ a kvs, xs = [V.ref a] ∧ H a = some (.dK kvs) ∧ Q (.int kvs.length) H
def rLenA (K : PySem.W.Frag) : List V → Hp → VK → Prop := fun xs H Q => rLenV K xs H Q ∨ rLenD xs H Q
theorem callLen {K : PySem.W.Frag} (hK : X.K = K) : CallR X (.builtin "len") (rLenA K) := by subst hK; exact call_len.or call_lenD
theorem callAll {K : PySem.W.Frag} (hK : X.K = K) (hc : X.calm = true) : CallR X (.builtin "all") (rAll K) := by subst hK; exact cr_all hc
theorem callIsi {K : PySem.W.Frag} (hK : X.K = K) : CallR X (.builtin "isinstance") (rIsi K) := by subst hK; exact call_isi
theorem ixA {K : PySem.W.Frag} (hK : X.K = K) : IxR X (rIx K) := by subst hK; exact ix_seq
theorem piList {K : PySem.W.Frag} (hK : X.K = K) {tg e : Expr} {te : TE} (he : PE X e te) : PI X tg e (iList K te) := by subst hK; exact pi_list he
theorem piTup {K : PySem.W.Frag} (hK : X.K = K) {tg e : Expr} {te : TE} (he : PE X e te) : PI X tg e (iTup K te) := by subst hK; exact pi_tup he
theorem mtJoin {K : PySem.W.Frag} (hK : X.K = K) : MtR X "str.join" (fun x xs H Q => ∃ a p, ∃ ys : List Str, x = .str a ∧ xs = [.ref p] ∧ (SqL K H p (ys.map V.str) ∨ SqT K H p (ys.map V.str)) ∧ (ys.map (·.length)).sum + ys.length * a.length ≤ 16777216 ∧ Q (.str (Txt.join a ys)) H) := by
  subst hK
  exact mt_join
theorem peBm {K : PySem.W.Frag} (hK : X.K = K) {o e : Expr} {es : List Expr} {to : TE} {t : TA} {name : Str} {apos cpos : Pos} {T id : String} {r : V → List V → Hp → VK → Prop} (pa : PlainAttrs T) (slot : Slot T name id) (hty : typeOf (.builtin id) = pure (.type "method_descriptor")) (hm : MtR X id r) (ho : PE X o to) (ha : PA X (e :: es) t)
    (hbase : attributeBase o name X.env (eval o X.env) = eval o X.env := by rfl)
    (hfew : ((backTo cpos (starEach (e :: es) X.env)).all (fun x => !x.1) && (backToKw cpos (keywordEach [] X.env)).all (fun x => x.1.isSome) && decide ((e :: es).length + ([] : List Keyword).length + (if ([] : List Keyword).isEmpty then 0 else 1) < 30)) = true := by rfl)
    (hline : (apos.endLine == cpos.line) = true := by rfl) (hs : starEach (e :: es) X.env = (false, eval e X.env) :: starEach es X.env := by rfl) (hplain : (backTo cpos (starEach es X.env)).any (·.1) = false := by rfl) :
    PE X (.Call (.Attribute o name apos) (e :: es) [] cpos) (tBM K T r to t) := by
  subst hK
  exact pe_bm pa slot hty hm ho ha hbase hfew hline hs hplain
end

/-! ### the same by data -/
section
variable {K : PySem.W.Frag} {R : Dt → Prop} {i j : Int} {x y : Str}
theorem rd_add_i (h : R (.int (i + j))) : RD K (rAddA K) (.int i) (.int j) R := fun G H v w e d1 d2 Q q => by
  cases d1; cases d2
  exact .inl ⟨i, j, rfl, rfl, q _ (.int (i + j)) G H (Go.refl e) rfl h⟩
theorem rd_add_s (hl : x.length + y.length ≤ 1000000) (h : R (.str (x ++ y))) : RD K (rAddA K) (.str x) (.str y) R := fun G H v w e d1 d2 Q q => by
  cases d1; cases d2
  exact .inr (.inl ⟨x, y, rfl, rfl, sz_of hl, q _ (.str (x ++ y)) G H (Go.refl e) rfl h⟩)
theorem rd_add_l {l m : List Dt} (hl : l.length + m.length ≤ 1000000) (h : R (.lst (l ++ m))) : RD K (rAddA K) (.lst l) (.lst m) R := fun G H v w e d1 d2 Q q => by
  obtain ⟨a, xs, rfl, h1, h2⟩ := d1
  obtain ⟨b, ys, rfl, h3, h4⟩ := d2
  exact .inr (.inr (.inl ⟨a, b, xs, ys, rfl, rfl, e _ _ h1, e _ _ h3, by rw [h2.len, h4.len]; exact sz_of hl, fun p hp => q _ (.lst (l ++ m)) _ _ (Go.new e hp) (dat_newL (h2.app h4) (e.free hp)) h⟩))
theorem rd_add_t {l m : List Dt} (hl : l.length + m.length ≤ 1000000) (h : R (.tup (l ++ m))) : RD K (rAddA K) (.tup l) (.tup m) R := fun G H v w e d1 d2 Q q => by
  obtain ⟨a, xs, rfl, h1, h2⟩ := d1
  obtain ⟨b, ys, rfl, h3, h4⟩ := d2
  have l1 := h2.len
  have l2 := h4.len
  refine .inr (.inr (.inr ⟨a, b, xs, ys, rfl, rfl, Ex.tup e h1, Ex.tup e h3, by rw [l1, l2]; exact sz_of hl, fun z => ?_, fun _ z => ?_, fun _ _ p hp => q _ (.tup (l ++ m)) _ _ (Go.new e hp) (dat_newT (h2.app h4) (e.free hp)) h⟩))
  · subst z
    have z : l = [] := List.length_eq_zero_iff.mp (by rw [← l1]; rfl)
    subst z
    exact q _ (.tup m) G H (Go.refl e) ⟨b, ys, rfl, h3, h4⟩ h
  · subst z
    have z : m = [] := List.length_eq_zero_iff.mp (by rw [← l2]; rfl)
    subst z
    rw [List.append_nil] at h
    exact q _ (.tup l) G H (Go.refl e) ⟨a, xs, rfl, h1, h2⟩ h
theorem rd_I0i {g : Int → Int → Int} (h : R (.int (g i j))) : RD K (rI0 fun i j => .int (g i j)) (.int i) (.int j) R := fun G H v w e d1 d2 Q q => by
  cases d1; cases d2
  exact ⟨i, j, rfl, rfl, q _ (.int (g i j)) G H (Go.refl e) rfl h⟩
theorem rd_I0b {g : Int → Int → Bool} (h : R (.bl (g i j))) : RD K (rI0 fun i j => .bl (g i j)) (.int i) (.int j) R := fun G H v w e d1 d2 Q q => by
  cases d1; cases d2
  exact ⟨i, j, rfl, rfl, q _ (.bl (g i j)) G H (Go.refl e) rfl h⟩
theorem rd_I {g : Int → Int → Int} {C : Int → Int → Prop} (hc : C i j) (h : R (.int (g i j))) : RD K (rI C fun i j => .int (g i j)) (.int i) (.int j) R := fun G H v w e d1 d2 Q q => by
  cases d1; cases d2
  exact ⟨i, j, rfl, rfl, hc, q _ (.int (g i j)) G H (Go.refl e) rfl h⟩
theorem rd_mul_i (hc : CMul i j) (h : R (.int (i * j))) : RD K (rMulA K) (.int i) (.int j) R := fun G H v w e d1 d2 Q q => by
  cases d1; cases d2
  exact .inl ⟨i, j, rfl, rfl, hc, q _ (.int (i * j)) G H (Go.refl e) rfl h⟩
theorem Dats.rep {G : Hp} {l : List Dt} {xs : List V} (d : Dats K G l xs) : ∀ n : Nat, Dats K G (List.replicate n l).flatten (List.replicate n xs).flatten
  | 0 => rfl
  | n + 1 => by
    rw [List.replicate_succ, List.replicate_succ, List.flatten_cons, List.flatten_cons]
    exact d.app (Dats.rep d n)
theorem rd_mul_l {l : List Dt} (h0 : 0 ≤ j) (hj : j ≤ 1000) (hl : l.length ≤ 1000) (h : R (.lst (List.replicate j.toNat l).flatten)) : RD K (rMulA K) (.lst l) (.int j) R := fun G H v w e d1 d2 Q q => by
  obtain ⟨a, xs, rfl, h1, h2⟩ := d1
  cases d2
  have hz : l.length * j.toNat ≤ 1000 * 1000 := Nat.mul_le_mul hl (by omega)
  exact .inr (.inr (.inl ⟨a, j, xs, rfl, rfl, e _ _ h1, by omega, by omega, by rw [h2.len]; exact sz_of hz, fun p hp => q _ (.lst _) _ _ (Go.new e hp) (dat_newL (h2.rep j.toNat) (e.free hp)) h⟩))
theorem rd_mul_s (hok : PySem.MulOk x j) (h : R (.str (Txt.mul x j))) : RD K (rMulA K) (.str x) (.int j) R := fun G H v w e d1 d2 Q q => by
  cases d1; cases d2
  exact .inr (.inr (.inr (.inr ⟨x, j, rfl, rfl, hok, q _ (.str _) G H (Go.refl e) rfl h⟩)))
/-- what is read as data of the library's own kind -/
def toPy : Dt → Option PyData
  | .non => some .none
  | .bl b => some (.bool b)
  | .int i => some (.int i)
  | .str x => some (.str x)
  | .lst l => (toPys l).map .list
  | .sq l => (toPys l).map .list
  | .tup l => (toPys l).map .tuple
  | _ => none
where toPys : List Dt → Option (List PyData)
  | [] => some []
  | d :: l => match toPy d, toPys l with
    | some p, some q => some (p :: q)
    | _, _ => none
mutual
theorem dp_of {G : Hp} : ∀ {d : Dt} {p : PyData} {v : V}, Dat K G d v → toPy d = some p → Dp K G v p
  | .non, _, _, h, e => by cases h; cases e; exact .non
  | .bl _, _, _, h, e => by cases h; cases e; exact .bl _
  | .int _, _, _, h, e => by cases h; cases e; exact .int _
  | .str _, _, _, h, e => by cases h; cases e; exact .str _
  | .lst l, _, _, ⟨a, xs, h1, h2, h3⟩, e => by
    subst h1
    unfold toPy at e
    cases q : toPy.toPys l with
    | none => rw [q] at e; cases e
    | some ps => rw [q] at e; cases e; exact .lst (.inl (.inl h2)) (dps_of h3 q)
  | .sq l, _, _, ⟨a, xs, h1, h2, h3⟩, e => by
    subst h1
    unfold toPy at e
    cases q : toPy.toPys l with
    | none => rw [q] at e; cases e
    | some ps => rw [q] at e; cases e; exact .lst h2 (dps_of h3 q)
  | .tup l, _, _, ⟨a, xs, h1, h2, h3⟩, e => by
    subst h1
    unfold toPy at e
    cases q : toPy.toPys l with
    | none => rw [q] at e; cases e
    | some ps => rw [q] at e; cases e; exact .tup h2 (dps_of h3 q)
  | .ty _, _, _, _, e => by cases e
  | .dic _, _, _, _, e => by cases e
  | .ins _ _, _, _, _, e => by cases e
  | .ext _, _, _, _, e => by cases e
  | .obj _, _, _, _, e => by cases e
theorem dps_of {G : Hp} : ∀ {l : List Dt} {ps : List PyData} {xs : List V}, Dats K G l xs → toPy.toPys l = some ps → DpAll K G xs ps
  | [], _, _, h, e => by cases h; cases e; exact .nil
  | d :: l, _, _, ⟨x, r, h1, h2, h3⟩, e => by
    subst h1
    unfold toPy.toPys at e
    cases q1 : toPy d with
    | none => rw [q1] at e; cases e
    | some p =>
      cases q2 : toPy.toPys l with
      | none => rw [q1, q2] at e; cases e
      | some ps => rw [q1, q2] at e; cases e; exact .cons (dp_of h2 q1) (dps_of h3 q2)
end
theorem Dp.up {G H : Hp} {v : V} {p : PyData} (e : Ex G H) {d : Dt} (h : Dat K G d v) (q : toPy d = some p) : Dp K H v p := dp_of (h.up e) q
theorem rd_eq_d {x y : Dt} {p q : PyData} (hx : toPy x = some p) (hy : toPy y = some q) (sp : SeqAt.shaped p = true) (sq : SeqAt.shaped q = true) (h : R (.bl (PyData.eqv p q))) : RD K (rEqA K) x y R := fun G H v w e d1 d2 Q k =>
  .inr ⟨p, q, Dp.up e d1 hx, Dp.up e d2 hy, sp, sq, k _ (.bl _) G H (Go.refl e) rfl h⟩
theorem rd_ne_d {x y : Dt} {p q : PyData} (hx : toPy x = some p) (hy : toPy y = some q) (sp : SeqAt.shaped p = true) (sq : SeqAt.shaped q = true) (h : R (.bl (!PyData.eqv p q))) : RD K (rNeA K) x y R := fun G H v w e d1 d2 Q k =>
  .inr ⟨p, q, Dp.up e d1 hx, Dp.up e d2 hy, sp, sq, k _ (.bl _) G H (Go.refl e) rfl h⟩
theorem rd_ne_s (h : R (.bl (!decide (x = y)))) : RD K (rNeA K) (.str x) (.str y) R := fun G H v w e d1 d2 Q k => by
  cases d1; cases d2
  refine .inl ⟨rfl, k _ (.bl _) G H (Go.refl e) rfl ?_⟩
  have z : decide ((V.str x) = V.str y) = decide (x = y) := by simp
  rw [z]; exact h
theorem rd_eq_s (h : R (.bl (decide (x = y)))) : RD K (rEqA K) (.str x) (.str y) R := fun G H v w e d1 d2 Q k => by
  cases d1; cases d2
  refine .inl ⟨rfl, k _ (.bl _) G H (Go.refl e) rfl ?_⟩
  have z : decide ((V.str x) = V.str y) = decide (x = y) := by simp
  rw [z]; exact h
theorem rd_eq_i (h : R (.bl (decide (i = j)))) : RD K (rEqA K) (.int i) (.int j) R := fun G H v w e d1 d2 Q k => by
  cases d1; cases d2
  refine .inl ⟨rfl, k _ (.bl _) G H (Go.refl e) rfl ?_⟩
  have z : decide ((V.int i) = V.int j) = decide (i = j) := by simp
  rw [z]; exact h
theorem rd_ne_i (h : R (.bl (!decide (i = j)))) : RD K (rNeA K) (.int i) (.int j) R := fun G H v w e d1 d2 Q k => by
  cases d1; cases d2
  refine .inl ⟨rfl, k _ (.bl _) G H (Go.refl e) rfl ?_⟩
  have z : decide ((V.int i) = V.int j) = decide (i = j) := by simp
  rw [z]; exact h
theorem rd_notB {a b : Bool} (h : R (.bl (!decide (a = b)))) : RD K rNotA (.bl a) (.bl b) R := fun G H v w e d1 d2 Q k => by
  cases d1; cases d2
  exact .inr ⟨a, b, rfl, rfl, k _ (.bl _) G H (Go.refl e) rfl h⟩
theorem rd_isB {a b : Bool} (h : R (.bl (decide (a = b)))) : RD K rIsA (.bl a) (.bl b) R := fun G H v w e d1 d2 Q k => by
  cases d1; cases d2
  exact .inr ⟨a, b, rfl, rfl, k _ (.bl _) G H (Go.refl e) rfl h⟩
def isN : Dt → Bool
  | .non => true
  | _ => false
theorem dat_non {G : Hp} {d : Dt} {v : V} (h : Dat K G d v) : decide (v = .non) = isN d := by
  cases d with
  | non => cases h; rfl
  | bl _ => cases h; rfl
  | int _ => cases h; rfl
  | str _ => cases h; rfl
  | ty _ => cases h; rfl
  | obj _ => cases h; rfl
  | lst _ => obtain ⟨_, _, rfl, _⟩ := h; rfl
  | sq _ => obtain ⟨_, _, rfl, _⟩ := h; rfl
  | tup _ => obtain ⟨_, _, rfl, _⟩ := h; rfl
  | dic _ => obtain ⟨_, _, rfl, _⟩ := h; rfl
  | ins _ _ => obtain ⟨_, _, _, rfl, _⟩ := h; rfl
  | ext _ => obtain ⟨_, rfl, _⟩ := h; rfl
theorem rd_isN {x : Dt} (h : R (.bl (isN x))) : RD K rIsA x .non R := fun G H v w e d1 d2 Q k => by
  cases d2
  rw [← dat_non d1] at h
  exact .inl ⟨rfl, k _ (.bl _) G H (Go.refl e) rfl h⟩
theorem rd_notN {x : Dt} (h : R (.bl (!isN x))) : RD K rNotA x .non R := fun G H v w e d1 d2 Q k => by
  cases d2
  rw [← dat_non d1] at h
  exact .inl ⟨rfl, k _ (.bl _) G H (Go.refl e) rfl h⟩
theorem rd_in_sign {c : Nat} {z : Str} (h : R (.bl (decide (c ∈ z.cps.toList)))) : RD K (rInA K) (.str ⟨#[c]⟩) (.str z) R := fun G H v w e d1 d2 Q k => by
  cases d1; cases d2
  exact .inl ⟨c, z, rfl, rfl, k _ (.bl _) G H (Go.refl e) rfl h⟩
theorem ud_neg (h : R (.int (-i))) : UD K (rU fun i => .int (-i)) (.int i) R := fun G H v e d Q k => by
  cases d
  exact ⟨i, rfl, k _ (.int _) G H (Go.refl e) rfl h⟩
/-! calls -/
theorem cd_len_s (hl : x.length ≤ 1000000) (h : R (.int x.length)) : CD K (rLenA K) [.str x] R := fun G H vs e d Q k => by
  obtain ⟨v, r, rfl, d1, d2⟩ := d
  cases d1; cases d2
  exact .inl ⟨_, _, rfl, ⟨sz_of hl, rfl⟩, k _ (.int _) G H (Go.refl e) rfl h⟩
theorem cd_len_l {l : List Dt} (h : R (.int l.length)) : CD K (rLenA K) [.lst l] R := fun G H vs e d Q k => by
  obtain ⟨v, r, rfl, ⟨a, xs, rfl, h1, h2⟩, d2⟩ := d
  cases d2
  rw [← h2.len] at h
  exact .inl ⟨_, _, rfl, .inl ⟨xs, .inl (.inl (e _ _ h1)), rfl⟩, k _ (.int _) G H (Go.refl e) rfl h⟩
theorem cd_len_sq {l : List Dt} (h : R (.int l.length)) : CD K (rLenA K) [.sq l] R := fun G H vs e d Q k => by
  obtain ⟨v, r, rfl, ⟨a, xs, rfl, h1, h2⟩, d2⟩ := d
  cases d2
  rw [← h2.len] at h
  exact .inl ⟨_, _, rfl, .inl ⟨xs, e.seq h1, rfl⟩, k _ (.int _) G H (Go.refl e) rfl h⟩
theorem cd_len_t {l : List Dt} (h : R (.int l.length)) : CD K (rLenA K) [.tup l] R := fun G H vs e d Q k => by
  obtain ⟨v, r, rfl, ⟨a, xs, rfl, h1, h2⟩, d2⟩ := d
  cases d2
  rw [← h2.len] at h
  exact .inl ⟨_, _, rfl, .inr ⟨xs, Ex.tup e h1, rfl⟩, k _ (.int _) G H (Go.refl e) rfl h⟩
abbrev rInt1 : List V → Hp → VK → Prop := fun xs H Q => (∃ i, xs = [.int i] ∧ Q (.int i) H) ∨ ∃ k, xs = [.bl k] ∧ Q (.int (if k then 1 else 0)) H
abbrev rAbs : List V → Hp → VK → Prop := fun xs H Q => ∃ i, xs = [.int i] ∧ Q (.int (if i < 0 then -i else i)) H
abbrev rMax2 : List V → Hp → VK → Prop := fun xs H Q => ∃ i j, xs = [.int i, .int j] ∧ Q (.int (if j > i then j else i)) H
abbrev rMin2 : List V → Hp → VK → Prop := fun xs H Q => ∃ i j, xs = [.int i, .int j] ∧ Q (.int (if j < i then j else i)) H
theorem cd_int_i (h : R (.int i)) : CD K rInt1 [.int i] R := fun G H vs e d Q k => by
  obtain ⟨v, r, rfl, d1, d2⟩ := d
  cases d1; cases d2
  exact .inl ⟨i, rfl, k _ (.int _) G H (Go.refl e) rfl h⟩
theorem cd_int_b {b : Bool} (h : R (.int (if b then 1 else 0))) : CD K rInt1 [.bl b] R := fun G H vs e d Q k => by
  obtain ⟨v, r, rfl, d1, d2⟩ := d
  cases d1; cases d2
  exact .inr ⟨b, rfl, k _ (.int _) G H (Go.refl e) rfl h⟩
theorem cd_abs (h : R (.int (if i < 0 then -i else i))) : CD K rAbs [.int i] R := fun G H vs e d Q k => by
  obtain ⟨v, r, rfl, d1, d2⟩ := d
  cases d1; cases d2
  exact ⟨i, rfl, k _ (.int _) G H (Go.refl e) rfl h⟩
theorem cd_max (h : R (.int (if j > i then j else i))) : CD K rMax2 [.int i, .int j] R := fun G H vs e d Q k => by
  obtain ⟨v, r, rfl, d1, v2, r2, rfl, d2, d3⟩ := d
  cases d1; cases d2; cases d3
  exact ⟨i, j, rfl, k _ (.int _) G H (Go.refl e) rfl h⟩
theorem cd_min (h : R (.int (if j < i then j else i))) : CD K rMin2 [.int i, .int j] R := fun G H vs e d Q k => by
  obtain ⟨v, r, rfl, d1, v2, r2, rfl, d2, d3⟩ := d
  cases d1; cases d2; cases d3
  exact ⟨i, j, rfl, k _ (.int _) G H (Go.refl e) rfl h⟩
theorem dats_bl {G : Hp} : ∀ {bs : List Bool} {xs : List V}, Dats K G (bs.map .bl) xs → xs = bs.map V.bl
  | [], _, h => h
  | _ :: _, _, ⟨x, r, h1, h2, h3⟩ => by cases h2; rw [h1, dats_bl h3]; rfl
theorem cd_all {bs : List Bool} (h : R (.bl (bs.all id))) : CD K (rAll K) [.lst (bs.map .bl)] R := fun G H vs e d Q k => by
  obtain ⟨v, r, rfl, ⟨a, xs, rfl, h1, h2⟩, d2⟩ := d
  cases d2
  rw [dats_bl h2] at h1
  exact ⟨a, bs, rfl, .inl (.inl (e _ _ h1)), k _ (.bl _) G H (Go.refl e) rfl h⟩
theorem cd_str_i (hl : i.natAbs.log2 < 1920) (h : R (.str (toString i))) : CD K rStrA [.int i] R := fun G H vs e d Q k => by
  obtain ⟨v, r, rfl, d1, d2⟩ := d
  cases d1; cases d2
  exact .inl ⟨i, rfl, hl, k _ (.str _) G H (Go.refl e) rfl h⟩
theorem cd_str_s (h : R (.str x)) : CD K rStrA [.str x] R := fun G H vs e d Q k => by
  obtain ⟨v, r, rfl, d1, d2⟩ := d
  cases d1; cases d2
  exact .inr ⟨x, rfl, k _ (.str _) G H (Go.refl e) rfl h⟩
theorem cd_repr_b {b : Bool} (h : R (.str (if b then "True" else "False"))) : CD K rRepr1 [.bl b] R := fun G H vs e d Q k => by
  obtain ⟨v, r, rfl, d1, d2⟩ := d
  cases d1; cases d2
  exact .inr ⟨b, rfl, k _ (.str _) G H (Go.refl e) rfl h⟩
/-! isinstance -/
def tyD : Dt → Option String
  | .non => some "NoneType"
  | .bl _ => some "bool"
  | .int _ => some "int"
  | .str _ => some "str"
  | .lst _ => some "list"
  | .tup _ => some "tuple"
  | .dic _ => some "dict"
  | _ => none
theorem tyx_of {G : Hp} {d : Dt} {v : V} {T : String} (h : Dat K G d v) (e : tyD d = some T) : TyX K G v (.type T) := by
  cases d with
  | non => cases h; cases e; exact .base .non
  | bl _ => cases h; cases e; exact .base (.bl _)
  | int _ => cases h; cases e; exact .base (.int _)
  | str _ => cases h; cases e; exact .base (.str _)
  | lst _ => obtain ⟨_, _, rfl, h, _⟩ := h; cases e; exact .base (.lst h)
  | tup _ =>
    obtain ⟨_, _, rfl, h, _⟩ := h
    cases e
    rcases h with (h | ⟨o, h⟩) | ⟨o, _, _, h, c, _⟩
    · exact .base (.tup h)
    · exact .fTuple h
    · exact .kTuple h c
  | dic _ => obtain ⟨_, _, rfl, h, _⟩ := h; cases e; exact .base (.dK h)
  | _ => cases e
theorem cd_isi {d : Dt} {T n : String} {b : Bool} (ht : tyD d = some T) (hk : kitB T n = some b) (h : R (.bl b)) : CD K (rIsi K) [d, .ty n] R := fun G H vs e dd Q k => by
  obtain ⟨v, r, rfl, d1, v2, r2, rfl, d2, d3⟩ := dd
  cases d2; cases d3
  exact ⟨v, .ty n, .type T, .type n, b, rfl, .ty n, tyx_of (d1.up e) ht, kit_ty hk, k _ (.bl _) G H (Go.refl e) rfl h⟩
/-! items, slices -/
theorem atI_map {α β : Type} {l : List α} {m : List β} (h : l.length = m.length) {i : Int} {b : β} (e : atI m i = some b) : ∃ (j : Nat) (a : α), atI l i = some a ∧ l[j]? = some a ∧ m[j]? = some b := by
  unfold atI at e ⊢
  rw [h]
  cases q : ixN m.length i with
  | none => rw [q] at e; cases e
  | some j =>
    rw [q] at e
    have e' : m[j]? = some b := e
    have hj : j < m.length := (List.getElem?_eq_some_iff.mp e').1
    exact ⟨j, l[j]'(by omega), by simp [h, hj], by simp [h, hj], e'⟩
theorem rd_ix_l {l : List Dt} {d : Dt} (ha : atI l i = some d) (h : R d) : RD K (rIx K) (.lst l) (.int i) R := fun G H v w e d1 d2 Q k => by
  obtain ⟨a, xs, rfl, h1, h2⟩ := d1
  cases d2
  obtain ⟨j, z, z1, z2, z3⟩ := atI_map h2.len ha
  obtain ⟨y, y1, y2⟩ := h2.get z3
  rw [z2] at y1; cases y1
  exact .inl ⟨a, xs, i, z, rfl, rfl, .inl (.inl (e _ _ h1)), z1, k z d G H (Go.refl e) y2 h⟩
theorem rd_ix_sq {l : List Dt} {d : Dt} (ha : atI l i = some d) (h : R d) : RD K (rIx K) (.sq l) (.int i) R := fun G H v w e d1 d2 Q k => by
  obtain ⟨a, xs, rfl, h1, h2⟩ := d1
  cases d2
  obtain ⟨j, z, z1, z2, z3⟩ := atI_map h2.len ha
  obtain ⟨y, y1, y2⟩ := h2.get z3
  rw [z2] at y1; cases y1
  exact .inl ⟨a, xs, i, z, rfl, rfl, e.seq h1, z1, k z d G H (Go.refl e) y2 h⟩
theorem rd_ix_t {l : List Dt} {d : Dt} (ha : atI l i = some d) (h : R d) : RD K (rIx K) (.tup l) (.int i) R := fun G H v w e d1 d2 Q k => by
  obtain ⟨a, xs, rfl, h1, h2⟩ := d1
  cases d2
  obtain ⟨j, z, z1, z2, z3⟩ := atI_map h2.len ha
  obtain ⟨y, y1, y2⟩ := h2.get z3
  rw [z2] at y1; cases y1
  exact .inr (.inl ⟨a, xs, i, z, rfl, rfl, Ex.tup e h1, z1, k z d G H (Go.refl e) y2 h⟩)
theorem rd_ix_s {c : Nat} (hl : x.length ≤ 1000000) (ha : atI x.cps.toList i = some c) (h : R (.str ⟨#[c]⟩)) : RD K (rIx K) (.str x) (.int i) R := fun G H v w e d1 d2 Q k => by
  cases d1; cases d2
  exact .inr (.inr ⟨x, i, c, rfl, rfl, sz_of hl, ha, k _ (.str _) G H (Go.refl e) rfl h⟩)
theorem sd_sl_s {lo hi : Option Int} (hl : x.length ≤ 1000000) (h : R (.str (cutS x lo hi))) : SD K rSlS (.str x) lo hi R := fun G H v e d Q k => by
  cases d
  exact ⟨x, rfl, sz_of hl, k _ (.str _) G H (Go.refl e) rfl h⟩
/-! join -/
theorem dats_str {G : Hp} : ∀ {bs : List Str} {xs : List V}, Dats K G (bs.map .str) xs → xs = bs.map V.str
  | [], _, h => h
  | _ :: _, _, ⟨x, r, h1, h2, h3⟩ => by cases h2; rw [h1, dats_str h3]; rfl
abbrev rJoin (K : PySem.W.Frag) : V → List V → Hp → VK → Prop := fun x xs H Q => ∃ a p, ∃ ys : List Str, x = .str a ∧ xs = [.ref p] ∧ (SqL K H p (ys.map V.str) ∨ SqT K H p (ys.map V.str)) ∧
    (ys.map (·.length)).sum + ys.length * a.length ≤ 16777216 ∧ Q (.str (Txt.join a ys)) H
theorem ty_s {G H : Hp} {v : V} (_ : Ex G H) (d : Dat K G (.str x) v) : tyV K "str" v H := by cases d; rfl
theorem md_join_l {ys : List Str} (hz : (ys.map (·.length)).sum + ys.length * x.length ≤ 16777216) (h : R (.str (Txt.join x ys))) : MD K "str" (rJoin K) (.str x) [.lst (ys.map .str)] R := fun G H v vs e d1 d2 Q k => by
  obtain ⟨v, r, rfl, ⟨a, xs, rfl, h1, h2⟩, d3⟩ := d2
  cases d1; cases d3
  rw [dats_str h2] at h1
  exact ⟨x, a, ys, rfl, rfl, .inl (.inl (.inl (e _ _ h1))), hz, k _ (.str _) G H (Go.refl e) rfl h⟩
end
end Nv

set_option Elab.async false
set_option linter.all false
set_option maxRecDepth 100000
set_option maxHeartbeats 4000000
namespace Nv
open PySem PySem.Spec PyProof.Rows L2
/-! ### dice: a list of three ints, hidden: a roll leaves what is known of the heap as it was -/
def DiceH : Addr → Heap → Prop := fun a h => ∃ (x y z : Int) (its : List Value) (n : Nat), Vals [.int x, .int y, .int z] its ∧ h.get? a = some { cls := .type "list", data := .seq its.toArray n }
abbrev dice : Dt := .ext DiceH
/-- the def's own promise, with the list in sight -/
def spRoll0 : Sp := fun vs H Q _ => ∃ (d : Addr) (n x y z : Int), vs = [.ref d, .int n] ∧ H d = some (.lst [.int x, .int y, .int z]) ∧ 0 < n ∧ n < 2 ^ 64 ∧
  ∀ r x' y' z', 0 ≤ r → r < n → Q (.int r) (upd H d (.lst [.int x', .int y', .int z']))
def PreRoll : List Dt → (Dt → Prop) → Prop := fun ds R => ∃ n, ds = [dice, .int n] ∧ 0 < n ∧ n < 2 ^ 64 ∧ ∀ r, 0 ≤ r → r < n → R (.int r)
def spDice0 (K : PySem.W.Frag) : Sp := fun vs H Q _ => ∃ (a : Addr) (ns : List Int) (i : Nat), vs = [.ref a, .int i] ∧ SqL K H a (ns.map V.int) ∧
  ∀ p x y z H', Ex H H' → H p = none → H' p = some (.lst [.int x, .int y, .int z]) → Q (.ref p) H'
def PreDice : List Dt → (Dt → Prop) → Prop := fun ds R => ∃ (ns : List Int) (i : Nat), ds = [.sq (ns.map .int), .int i] ∧ R dice
section
variable {P : Program} {w : World} {K : PySem.W.Frag} {mg : Str → Option Value} {base : Heap}
theorem ok_ext {H' : Hp} {h : Heap} {a : Addr} {x y z : Int} (ok : ObjOk P w H' h a (.lst [.int x, .int y, .int z])) : ∀ H : Hp, ObjOk P w H h a (.ext (DiceH a)) := fun H => by
  obtain ⟨_, its, n, r, e⟩ := ok
  exact ⟨⟨x, y, z, its, n, r, e⟩, ⟨_, e⟩, fun h1 h2 ⟨x, y, z, its, n, r, e⟩ k => ⟨x, y, z, its, n, r, k _ e⟩⟩
/-- other objects do not ask how a list or a hidden thing is told -/
theorem ok_turn {H H' : Hp} {h : Heap} {a b : Addr} {u o : HO} (ok : ObjOk P w H h b u) (ha : H a = some o) (h1 : ∀ c, o ≠ .own c) (h2 : ∀ xs, o ≠ .tup xs) (hb : ∀ c, c ≠ a → H' c = H c) : ObjOk P w H' h b u := by
  refine ok.stay (fun _ _ _ q => q) (fun c q => ?_) fun c xs q => ?_
  · rw [hb c (fun z => by subst z; rw [ha] at q; exact h1 b (Option.some.inj q))]; exact q
  · rw [hb c (fun z => by subst z; rw [ha] at q; exact h2 xs (Option.some.inj q))]; exact q
theorem roll_hide {k : Nat} {f : Addr} {fd : FuncData} {ps : List Str} (F : FnOk P w K mg base CX0 k f fd ps spRoll0) : FnOk P w K mg base CX0 k f fd ps (spD K PreRoll) := by
  refine ⟨fun vs H Q E h => ?_, fun A outer s H args us vs Q E hr e0 hb hv h => ?_⟩
  · obtain ⟨G, ds, R, e, d, ⟨n, rfl, h0, h1, hR⟩, q⟩ := h
    obtain ⟨v, r, rfl, ⟨a, rfl, ha⟩, v2, r2, rfl, d2, d3⟩ := d
    cases d2; cases d3
    exact F.len _ (upd H a (.lst [.int 0, .int 0, .int 0])) (fun _ _ => True) E ⟨a, n, 0, 0, 0, rfl, upd_same, h0, h1, fun _ _ _ _ _ _ => trivial⟩
  · obtain ⟨G, ds, R, e, d, ⟨n, rfl, h0, h1, hR⟩, q⟩ := h
    obtain ⟨v, r, rfl, ⟨a, rfl, ha⟩, v2, r2, rfl, d2, d3⟩ := d
    cases d2; cases d3
    have hH : H a = some (.ext (DiceH a)) := e _ _ ha
    obtain ⟨⟨x, y, z, its, m, rv, eo⟩, _, _⟩ := e0.hok a _ hH
    have e1 : Env0 P w K mg base A outer s (upd H a (.lst [.int x, .int y, .int z])) := by
      refine ⟨e0.frames, e0.mod, fun b o hb => ⟨(e0.bs b o hb).1, ?_⟩, e0.bsz, e0.funs, fun b hb => ?_, fun b u hb => ?_, e0.bare⟩
      · rw [upd_ne (fun z => by subst z; rw [(e0.bs _ o hb).2] at hH; cases hH)]; exact (e0.bs b o hb).2
      · rw [upd_ne (fun z => by subst z; rw [e0.frf _ hb] at hH; cases hH)]; exact e0.frf b hb
      · by_cases c : b = a
        · subst c
          rw [upd_same] at hb
          cases hb
          exact ⟨by show 3 ≤ sizeLine; decide, its, m, rv, eo⟩
        · rw [upd_ne c] at hb
          exact ok_turn (e0.hok b u hb) hH (fun _ z => nomatch z) (fun _ z => nomatch z) fun c' hc => upd_ne hc
    refine codeAny_mono (F.run A outer s _ args us _ (fun v H' => ∃ r x' y' z', v = .int r ∧ 0 ≤ r ∧ r < n ∧ H' = upd H a (.lst [.int x', .int y', .int z'])) E hr e1 hb hv
      ⟨a, n, x, y, z, rfl, upd_same, h0, h1, fun r x' y' z' hr0 hr1 => ⟨r, x', y', z', rfl, hr0, hr1, upd_upd⟩⟩) fun r s' hq => ?_
    cases r with
    | error _ => exact hq
    | ok fl =>
      cases fl with
      | next => exact hq
      | brk => exact hq
      | cont => exact hq
      | ret u =>
        obtain ⟨v, H', os, bare, un, hok, rl, r, x', y', z', rfl, hr0, hr1, rfl⟩ := hq
        have ne : ∀ {b}, H b = none → b ≠ a := fun {b} q z => by rw [z, hH] at q; cases q
        refine ⟨.int r, H, os, bare, ⟨fun b o q n1 n2 n3 => un.keep b o q (by rw [upd_ne (ne n1)]; exact n1) n2 n3, fun b o q n1 n2 n3 => un.slot b o q (by rw [upd_ne (ne n1)]; exact n1) n2 n3,
          fun b o q n1 n2 => n1, un.there, fun b xs q => q, fun b o u q => q, fun b ps q => ⟨#[], by rw [q]; simp⟩⟩, fun b u hb => ?_, rl, q _ (.int r) G H (Go.refl e) rfl (hR r hr0 hr1)⟩
        by_cases c : b = a
        · subst c
          rw [hH] at hb
          cases hb
          exact ok_ext (hok b _ upd_same) H
        · exact ok_turn (hok b u (by rw [upd_ne c]; exact hb)) (a := a) upd_same (fun _ z => nomatch z) (fun _ z => nomatch z) fun c' hc => (upd_ne hc).symm
theorem dice_hide {k : Nat} {f : Addr} {fd : FuncData} {ps : List Str} (F : FnOk P w K mg base CX0 k f fd ps (spDice0 K)) : FnOk P w K mg base CX0 k f fd ps (spD K PreDice) := by
  have itsOf : ∀ {G : Hp} {ns : List Int} {xs : List V}, Dats K G (ns.map .int) xs → xs = ns.map V.int := fun {G} {ns} => by
    induction ns with
    | nil => intro xs h; exact h
    | cons n ns ih => rintro xs ⟨x, r, h1, h2, h3⟩; cases h2; rw [h1, ih h3]; rfl
  have pre : ∀ {vs H Q E}, spD K PreDice vs H Q E → spDice0 K vs H (fun v H' => ∃ p, v = .ref p ∧ Ex H H' ∧ H p = none ∧ (∃ x y z, H' p = some (.lst [.int x, .int y, .int z])) ∧ Q (.ref p) (upd H' p (.ext (DiceH p)))) E := fun {vs H Q E} h => by
    obtain ⟨G, ds, R, e, d, ⟨ns, i, rfl, hR⟩, q⟩ := h
    obtain ⟨v, r, rfl, ⟨a, xs, rfl, ha, hd⟩, v2, r2, rfl, d2, d3⟩ := d
    cases d2; cases d3
    refine ⟨a, ns, i, rfl, by rw [← itsOf hd]; exact e.seq ha, fun p x y z H' e' hp hl => ⟨p, rfl, e', hp, ⟨x, y, z, hl⟩, q _ dice (upd G p (.ext (DiceH p))) _ ⟨Ex.new (e.free hp), fun b h1 h2 => ?_, upd_mono (e.trans e') p _, fun b o z => ?_⟩ ⟨p, rfl, upd_same⟩ hR⟩⟩
    · rw [upd_ne (fun c => h2 (by rw [c]; exact hp))]; exact h1
    · rw [upd_ne (ne_of_none z hp)]; exact e' b o z
  refine ⟨fun vs H Q E h => F.len _ _ _ _ (pre h), fun A outer s H args us vs Q E hr e0 hb hv h => ?_⟩
  refine codeAny_mono (F.run A outer s H args us vs _ E hr e0 hb hv (pre h)) fun r s' hq => ?_
  cases r with
  | error _ => exact hq
  | ok fl =>
    cases fl with
    | next => exact hq
    | brk => exact hq
    | cont => exact hq
    | ret u =>
      obtain ⟨v, H', os, bare, un, hok, rl, p, rfl, e', hp, ⟨x, y, z, hl⟩, q⟩ := hq
      have np : ∀ {b}, H' b = none → b ≠ p := fun {b} q z => by rw [z, hl] at q; cases q
      refine ⟨.ref p, _, os, bare, ⟨un.keep, un.slot, fun b o q1 n1 n2 => ?_, un.there, fun b xs q => ?_, fun b o u q => ?_, fun b ps q => ?_⟩, fun b u hb => ?_, rl, q⟩
      · have := un.free b o q1 n1 n2
        rw [upd_ne (np this)]; exact this
      · rw [upd_ne (ne_of_none q hp)]; exact un.tups b xs q
      · rw [upd_ne (ne_of_none q hp)]; exact un.frzs b o u q
      · rw [upd_ne (ne_of_none q hp)]; exact un.tbls b ps q
      · by_cases c : b = p
        · subst c
          rw [upd_same] at hb
          cases hb
          exact ok_ext (hok b _ hl) _
        · rw [upd_ne c] at hb
          exact ok_turn (hok b u hb) (a := p) hl (fun _ z => nomatch z) (fun _ z => nomatch z) fun c' hc => by rw [upd_ne hc]
end
section
variable {K : PySem.W.Frag}
theorem st_asg_raw {te : TE} {i : Nat} {ss : List Sd} {R : Dt → Prop} {D : Ends} {σ : L2.St} {G H : Hp} {u : TS} (h : EvD K te ss R) (e : Ex G H) (sv : Sv K G σ ss)
    (k : ∀ v d G' H', Go G H G' H' → Dat K G' d v → R d → u D (σ.set i (some v)) H') : tSeq (tAsg te (gName i)) u D σ H := h G σ H e sv _ fun v d G' H' g dv hr => k v d G' H' g dv hr
theorem ret_new_raw {ta : TA} {ss : List Sd} {R : List Dt → Prop} {D : Ends} {σ : L2.St} {G H : Hp} (h : EvA K ta ss R) (e : Ex G H) (sv : Sv K G σ ss)
    (k : ∀ vs ds G' H', Go G H G' H' → Dats K G' ds vs → R ds → vs.length ≤ 1000 ∧ ∀ p, H' p = none → D.rt (.ref p) (upd H' p (.lst vs))) : tRet (tLst ta) D σ H := h G σ H e sv _ fun vs ds G' H' g dv hr => let ⟨k1, k2⟩ := k vs ds G' H' g dv hr; ⟨sz_of (by omega), k2⟩
theorem modb {e m : Int} (h : 0 < m) (h2 : m < 2 ^ 64) : -(2 ^ 64) < e % m ∧ e % m < 2 ^ 64 := by
  have h3 := Int.emod_nonneg e (by omega : m ≠ 0)
  have h4 := Int.emod_lt_of_pos e h
  omega
theorem modm {e m j : Int} (h : 0 < m) (h2 : m < 2 ^ 64) : CMul (e % m) j := .inl (modb h h2)
theorem divw {i n : Int} (h0 : 0 < n) (h1 : n < 2 ^ 64) : CDivW i n := wide_div h0 (b := 64) (by omega) (by decide) (by decide)
end
end Nv

set_option Elab.async false
set_option linter.all false
set_option maxRecDepth 100000
set_option maxHeartbeats 4000000
namespace Nv
open PySem PySem.Spec PyProof.Rows L2
/-! ### dicts that are written -/
section
variable {K : PySem.W.Frag} {R : Dt → Prop} {ss : List Sd}
def keyD : Key → Dt
  | .inl i => .int i
  | .inr x => .str x
theorem dat_key {G : Hp} {k : Key} {v : V} (h : Dat K G (keyD k) v) : v = kV k := by cases k <;> exact h
theorem dat_newK {G : Hp} {p : Addr} {l : List (Key × Dt)} {xs : List (Key × V)} (d : Datk K G l xs) (h : G p = none) : Dat K (upd G p (.dK xs)) (.dic l) (.ref p) := ⟨p, xs, rfl, upd_same, d.up (Ex.new h)⟩
theorem ed_dnew (h : R (.dic [])) : EvD K tDNewK ss R := fun G σ H e s Q q p hp => q (.ref p) (.dic []) _ _ (Go.new e hp) (dat_newK (show Datk K G [] [] from rfl) (e.free hp)) h
theorem ed_disp1 {tk tv : TE} (h : EvD K tk ss fun dk => ∃ k, dk = keyD k ∧ EvD K tv ss fun dv => R (.dic [(k, dv)])) : EvD K (tDisp [(tk, tv)]) ss R := fun G σ H e s Q q p hp => by
  have g0 : Go G H G (upd H p (.dK [])) := Go.put e hp
  have nG : G p = none := e.free hp
  refine h G σ _ g0.ink s _ fun x dk G1 H1 g1 d1 ⟨k, hk, h2⟩ => ?_
  subst hk
  refine h2 G1 σ H1 g1.ink (s.up g1.kn) _ fun y dv G2 H2 g2 d2 h3 => ?_
  have g12 := g1.trans g2
  have eH : H2 p = some (.dK []) := g12.up p _ upd_same
  have n2 : G2 p = none := g12.nw p nG (by rw [upd_same]; exact fun z => nomatch z)
  refine ⟨eH, [(k, y)], by rw [dat_key d1]; rfl, by show 1 ≤ 15; decide, ?_⟩
  have g02 := g0.trans g12
  refine q (.ref p) (.dic [(k, dv)]) (upd G2 p (.dK [(k, y)])) _ ⟨g02.kn.trans (Ex.new n2), fun a h1 h2 => ?_, upd_mono g02.ink p _, fun a u z => ?_⟩ (dat_newK (show Datk K G2 [(k, dv)] [(k, y)] from ⟨y, [], rfl, d2, rfl⟩) n2) h3
  · rw [upd_ne (fun c => h2 (by rw [c]; exact hp))]; exact g02.nw a h1 h2
  · rw [upd_ne (ne_of_none z hp)]; exact g02.up a u z
end
/-! ### texts by their codes -/
open SX (S)
theorem str_S (x : Str) : x = S x.cps.toList := (SX.S_tl x).symm
theorem cut_to {l : List Nat} {n : Nat} : cutS (S l) none (some (n : Int)) = S (l.take n) := by
  unfold cutS
  rw [HT.sIx_none, HT.sIx_nat, SX.S_len]
  simp
theorem cut_from {l : List Nat} {n : Nat} : cutS (S l) (some (n : Int)) none = S (l.drop n) := by
  unfold cutS
  rw [HT.sIx_none, HT.sIx_nat, SX.S_len]
  simp
  show List.take (l.length - min n l.length) (List.drop (min n l.length) l) = List.drop n l
  by_cases h : n ≤ l.length
  · rw [Nat.min_eq_left h, List.take_of_length_le (by simp)]
  · rw [Nat.min_eq_right (by omega), List.drop_length, List.drop_of_length_le (by omega)]; simp
theorem joinE : ∀ ys : List (List Nat), TL.joinL [] ys = ys.flatten
  | [] => rfl
  | [p] => by simp [TL.joinL]
  | p :: q :: r => by
    show p ++ ([] ++ TL.joinL [] (q :: r)) = _
    rw [joinE (q :: r)]; simp
theorem joinOnes (cs : List Nat) : TL.joinL [] (cs.map fun c => [c]) = cs := by
  rw [joinE]
  induction cs with
  | nil => rfl
  | cons c cs ih => simpa using ih
/-! ### one of the items -/
def itemsOf : Dt → Option (List Dt)
  | .lst l => some l
  | .tup l => some l
  | .str z => some (signsD z)
  | _ => none
def PreOneOf : List Dt → (Dt → Prop) → Prop := fun ds R => ∃ it l, ds = [dice, it] ∧ itemsOf it = some l ∧ l ≠ [] ∧ l.length ≤ 100000 ∧ ∀ x ∈ l, R x
theorem cd_len_items {K : PySem.W.Frag} {R : Dt → Prop} {it : Dt} {l : List Dt} (h : itemsOf it = some l) (hl : l.length ≤ 100000) (hR : R (.int l.length)) : CD K (rLenA K) [it] R := by
  cases it with
  | lst m => cases h; exact cd_len_l hR
  | tup m => cases h; exact cd_len_t hR
  | str z =>
    cases h
    have e : (signsD z).length = z.length := by simp [signsD]; rfl
    rw [e] at hR hl
    exact cd_len_s (by omega) hR
  | _ => cases h
theorem rd_ix_items {K : PySem.W.Frag} {R : Dt → Prop} {it : Dt} {l : List Dt} {i : Nat} {x : Dt} (h : itemsOf it = some l) (hl : l.length ≤ 100000) (hx : l[i]? = some x) (hR : R x) : RD K (rIx K) it (.int i) R := by
  cases it with
  | lst m => cases h; exact rd_ix_l (atI_nat hx) hR
  | tup m => cases h; exact rd_ix_t (atI_nat hx) hR
  | str z =>
    cases h
    have e : (signsD z).length = z.length := by simp [signsD]; rfl
    rw [e] at hl
    unfold signsD at hx
    rw [List.getElem?_map] at hx
    cases q : z.cps.toList[i]? with
    | none => rw [q] at hx; cases hx
    | some c => rw [q] at hx; cases hx; exact rd_ix_s (by omega) (atI_nat q) hR
  | _ => cases h
end Nv

set_option Elab.async false
set_option linter.all false
set_option maxRecDepth 100000
set_option maxHeartbeats 4000000
namespace Nv
open PySem PySem.Spec PyProof.Rows L2
local macro_rules | `(tactic| walk_at "nv1") => `(tactic| first
  | ((with_reducible apply ed_var); exact rfl)
  | (with_reducible refine sd_seq ?_)
  | (with_reducible refine sd_ret ?_)
  | (with_reducible refine sd_if ?_)
  | (with_reducible refine sd_asg ?_)
  | (with_reducible refine sd_next ?_)
  | (with_reducible refine ed_op ?_)
  | (with_reducible refine ed_and ?_)
  | (with_reducible refine ed_or ?_)
  | (with_reducible refine ed_not ?_)
  | (with_reducible refine ed_if ?_)
  | (with_reducible refine ed_cb ?_)
  | (with_reducible refine ed_call ?_)
  | (with_reducible refine ed_lst ?_)
  | (with_reducible refine ed_tup ?_)
  | (with_reducible refine ed_un ?_)
  | (with_reducible refine ed_sl ?_)
  | (with_reducible refine ea_cons ?_)
  | (with_reducible refine ea_nil ?_)
  | (with_reducible refine eo_none ?_)
  | (with_reducible refine eo_some ?_)
  | (with_reducible refine et_test ?_)
  | (with_reducible refine et_B ?_)
  | (with_reducible refine et_and ?_)
  | (with_reducible refine et_or ?_)
  | (with_reducible refine et_not ?_)
  | (with_reducible refine et_yes ?_)
  | (with_reducible refine ed_int ?_)
  | (with_reducible refine ed_str ?_)
  | (with_reducible refine ed_bl ?_)
  | (with_reducible refine ed_non ?_)
  | (with_reducible refine ed_ty ?_)
  | (with_reducible refine ed_obj ?_))
local macro_rules | `(tactic| walk_at "nv2") => `(tactic| first
  | (with_reducible refine rd_add_i ?_)
  | (with_reducible refine rd_I0i ?_)
  | (with_reducible refine rd_I0b ?_)
  | (with_reducible refine rd_eq_i ?_)
  | (with_reducible refine rd_ne_i ?_)
  | (with_reducible refine rd_eq_s ?_)
  | (with_reducible refine rd_ne_s ?_)
  | (with_reducible refine rd_notB ?_)
  | (with_reducible refine rd_isB ?_)
  | (with_reducible refine rd_isN ?_)
  | (with_reducible refine rd_notN ?_)
  | (with_reducible refine rd_in_sign ?_)
  | (with_reducible refine cd_len_l ?_)
  | (with_reducible refine cd_len_sq ?_)
  | (with_reducible refine cd_len_t ?_)
  | (with_reducible refine cd_int_i ?_)
  | (with_reducible refine cd_int_b ?_)
  | (with_reducible refine cd_abs ?_)
  | (with_reducible refine cd_max ?_)
  | (with_reducible refine cd_min ?_)
  | (with_reducible refine cd_str_s ?_)
  | (with_reducible refine cd_repr_b ?_)
  | (with_reducible refine ud_neg ?_)
  | ((with_reducible refine And.intro ?_ ?_); exact Nat.le_of_ble_eq_true rfl) | (with_reducible refine ed_dnew ?_) | (with_reducible refine ed_disp1 ?_) | ((with_reducible refine rd_mul_l ?_ ?_ ?_ ?_); decide; decide; exact Nat.le_of_ble_eq_true rfl) | ((with_reducible refine rd_add_l ?_ ?_); exact Nat.le_of_ble_eq_true rfl)
  | (with_reducible refine ⟨_, rfl, ?_⟩) | (with_reducible refine ⟨_, Or.inl rfl, ?_⟩))
local macro_rules | `(tactic| walk_at "nv") => `(tactic| first | walk_at "nv1" | walk_at "nv2")
local macro_rules | `(tactic| walk_at "cx") => `(tactic| dsimp only [cxOf, Cx.nox, Cx.wish, Cx.blk, List.length_cons, List.length_nil])

def top (i : Nat) : Stmt := PySem.Challenge.pw_namedabove_k01_names_and_marks.main.body.getD i (.Pass ⟨0, 0, 0, 0⟩)
abbrev s_is_name : Stmt := top 3
abbrev s_is_integer : Stmt := top 4
abbrev s_is_mark : Stmt := top 5
abbrev s__law_dice : Stmt := top 7
abbrev s__law_roll : Stmt := top 8
abbrev s__law_one_of : Stmt := top 9
abbrev s__law_right : Stmt := top 10
abbrev s_law : Stmt := top 11
structure Txt (mg : Str → Option Value) : Prop where
  m_len : mg "len" = none
  m_isinstance : mg "isinstance" = none
  m_str : mg "str" = none
  m_int : mg "int" = none
  m_bool : mg "bool" = none
  m_all : mg "all" = none
  m_abs : mg "abs" = none
  m_max : mg "max" = none
  m_min : mg "min" = none
  m_range : mg "range" = none
  m_repr : mg "repr" = none
  g_LETTERS : ∃ u, mg "LETTERS" = some u ∧ RelV (.str "abcdefghijklmnopqrstuvwxyz") u
  g_LONGEST : ∃ u, mg "LONGEST" = some u ∧ RelV (.int 8) u
theorem sc_is_name : FnScope ["value", "sign"] ["value"] (defScope s_is_name) := ⟨rfl, rfl, rfl, by decide +kernel, rfl, by decide +kernel, by decide +kernel⟩
theorem sc_is_integer : FnScope ["value"] ["value"] (defScope s_is_integer) := ⟨rfl, rfl, rfl, by decide +kernel, rfl, by decide +kernel, by decide +kernel⟩
theorem sc_is_mark : FnScope ["value"] ["value"] (defScope s_is_mark) := ⟨rfl, rfl, rfl, by decide +kernel, rfl, by decide +kernel, by decide +kernel⟩
theorem sc__law_dice : FnScope ["_law_script", "_law_at", "_law_cell", "_law_great", "_law_mixed"] ["_law_script", "_law_at"] (defScope s__law_dice) := ⟨rfl, rfl, rfl, by decide +kernel, rfl, by decide +kernel, by decide +kernel⟩
theorem sc__law_roll : FnScope ["_law_dice_here", "_law_total", "_law_one", "_law_two", "_law_found"] ["_law_dice_here", "_law_total"] (defScope s__law_roll) := ⟨rfl, rfl, rfl, by decide +kernel, rfl, by decide +kernel, by decide +kernel⟩
theorem sc__law_one_of : FnScope ["_law_dice_here", "_law_items"] ["_law_dice_here", "_law_items"] (defScope s__law_one_of) := ⟨rfl, rfl, rfl, by decide +kernel, rfl, by decide +kernel, by decide +kernel⟩
theorem sc__law_right : FnScope ["_law_dice_here", "_law_letters", "_law_text", "_law_sign", "_law_at", "_law_spoilt", "_law_number", "_law_told", "_law_odd", "_law_one"] ["_law_dice_here"] (defScope s__law_right) := ⟨rfl, rfl, rfl, by decide +kernel, rfl, by decide +kernel, by decide +kernel⟩
theorem sc_law : FnScope ["_law_script", "_law_at", "_law_odd", "_law_dice_here", "_law_turn", "_law_one"] ["_law_script"] (defScope s_law) := ⟨rfl, rfl, rfl, by decide +kernel, rfl, by decide +kernel, by decide +kernel⟩
theorem ifb {b : Bool} {A B : Prop} (h1 : b = true → A) (h2 : b = false → B) : if b = true then A else B := by
  cases b with
  | true => exact h1 rfl
  | false => exact h2 rfl
def kinds (d : Dt) : Bool := (tyD d).isSome
def isaInt : Dt → Bool
  | .int _ => true
  | .bl _ => true
  | _ => false
def isaBool : Dt → Bool
  | .bl _ => true
  | _ => false
def isaStr : Dt → Bool
  | .str _ => true
  | _ => false
theorem cd_isaInt {K : PySem.W.Frag} {R : Dt → Prop} {d : Dt} (hk : kinds d = true) (h : R (.bl (isaInt d))) : CD K (rIsi K) [d, .ty "int"] R := by
  cases d <;> first | exact absurd (show false = true from hk) Bool.false_ne_true | exact cd_isi (b := true) rfl (by decide +kernel) h | exact cd_isi (b := false) rfl (by decide +kernel) h
theorem cd_isaBool {K : PySem.W.Frag} {R : Dt → Prop} {d : Dt} (hk : kinds d = true) (h : R (.bl (isaBool d))) : CD K (rIsi K) [d, .ty "bool"] R := by
  cases d <;> first | exact absurd (show false = true from hk) Bool.false_ne_true | exact cd_isi (b := true) rfl (by decide +kernel) h | exact cd_isi (b := false) rfl (by decide +kernel) h
theorem cd_isaStr {K : PySem.W.Frag} {R : Dt → Prop} {d : Dt} (hk : kinds d = true) (h : R (.bl (isaStr d))) : CD K (rIsi K) [d, .ty "str"] R := by
  cases d <;> first | exact absurd (show false = true from hk) Bool.false_ne_true | exact cd_isi (b := true) rfl (by decide +kernel) h | exact cd_isi (b := false) rfl (by decide +kernel) h
section
variable {P : Program} {w : World} {K : PySem.W.Frag} {mg : Str → Option Value} {base : Heap}
def isInt : Dt → Bool
  | .int _ => true
  | _ => false
def isMark : Dt → Bool
  | .int i => decide (0 ≤ i)
  | _ => false
def Pre1 (ok : Dt → Bool) (f : Dt → Bool) : List Dt → (Dt → Prop) → Prop := fun ds R => ∃ d, ds = [d] ∧ ok d = true ∧ R (.bl (f d))
theorem gf_is_integer (T : Txt mg) (F : Df K mg "is_integer" s_is_integer ["value"]) : Gf P w K mg base "is_integer" 1 ["value"] (Pre1 kinds isInt) := by
  refine gf_of F sc_is_integer (fun ds R ⟨d, h, _⟩ => by rw [h]; rfl) fun f cdv A outer s H E hr => ⟨_, (pss_one (ps_ret (pe_and (pe_callB (callIsi (K := K) rfl) (by rfl) T.m_isinstance (by decide +kernel) (pa_cons (pv 0) (pa_cons (pe_bty "int" rfl T.m_int (by decide +kernel)) pa_nil))) (pe_one (pe_not (pe_callB (callIsi (K := K) rfl) (by rfl) T.m_isinstance (by decide +kernel) (pa_cons (pv 0) (pa_cons (pe_bty "bool" rfl T.m_bool (by decide +kernel)) pa_nil)))))))), fun ds R ⟨d, h, hk, hR⟩ => ?_⟩
  subst h
  repeat walk_at "nv"
  refine cd_isaInt hk ⟨_, rfl, ifb (fun h1 => ?_) fun h1 => ?_⟩
  · repeat walk_at "nv"
    refine cd_isaBool hk ⟨_, rfl, ?_⟩
    cases d <;> first | exact hR | exact absurd (show false = true from h1) Bool.false_ne_true | exact absurd (show true = false from h1) (fun z => nomatch z)
  · cases d <;> first | exact hR | exact absurd (show false = true from h1) Bool.false_ne_true | exact absurd (show true = false from h1) (fun z => nomatch z)
theorem gf_is_mark (T : Txt mg) (F : Df K mg "is_mark" s_is_mark ["value"]) (g_is_integer : Gf P w K mg base "is_integer" 1 ["value"] (Pre1 kinds isInt)) : Gf P w K mg base "is_mark" 2 ["value"] (Pre1 kinds isMark) := by
  refine gf_of F sc_is_mark (fun ds R ⟨d, h, _⟩ => by rw [h]; rfl) fun f cdv A outer s H E hr => ⟨_, (pss_one (ps_ret (pe_and (pe_gf g_is_integer ⟨rfl, rfl, rfl, rfl, rfl⟩ (hr.mono (by decide)) rfl (pa_cons (pv 0) pa_nil)) (pe_one (pe_cmpR op_ge (pv 0) pe_int (nomark _)))))), fun ds R ⟨d, h, hk, hR⟩ => ?_⟩
  subst h
  repeat walk_at "nv"
  refine ⟨_, rfl, hk, _, rfl, ifb (fun h1 => ?_) fun h1 => ?_⟩
  · cases d <;> first | exact absurd (show false = true from h1) Bool.false_ne_true | exact absurd (show true = false from h1) (fun z => nomatch z) | ((repeat walk_at "nv"); exact hR)
  · cases d <;> first | exact hR | exact absurd (show false = true from h1) Bool.false_ne_true | exact absurd (show true = false from h1) (fun z => nomatch z)
abbrev letters : List Nat := [97, 98, 99, 100, 101, 102, 103, 104, 105, 106, 107, 108, 109, 110, 111, 112, 113, 114, 115, 116, 117, 118, 119, 120, 121, 122]
theorem letters_eq : ("abcdefghijklmnopqrstuvwxyz" : Str).cps.toList = letters := by decide +kernel
def isName : Dt → Bool
  | .str z => decide (1 ≤ z.length ∧ z.length ≤ 8) && z.cps.toList.all fun c => decide (c ∈ letters)
  | _ => false
def short : Dt → Bool
  | .str z => decide (z.length ≤ 100)
  | d => kinds d
def inLet : Dt → Bool
  | .str z => match z.cps.toList with
    | c :: _ => decide (c ∈ letters)
    | [] => false
  | _ => false
theorem gf_is_name (T : Txt mg) (F : Df K mg "is_name" s_is_name ["value"]) : Gf P w K mg base "is_name" 1 ["value"] (Pre1 short isName) := by
  refine gf_of F sc_is_name (fun ds R ⟨d, h, _⟩ => by rw [h]; rfl) fun f cdv A outer s H E hr => ⟨_, (pss_one (ps_ret (pe_and (pe_callB (callIsi (K := K) rfl) (by rfl) T.m_isinstance (by decide +kernel) (pa_cons (pv 0) (pa_cons (pe_bty "str" rfl T.m_str (by decide +kernel)) pa_nil))) (pe_and (pe_chain op_le op_le pe_int (pe_callB (callLen (K := K) rfl) (by rfl) T.m_len (by decide +kernel) (pa_cons (pv 0) pa_nil)) (pe_g rfl T.g_LONGEST)) (pe_one (pe_callB (callAll (K := K) rfl rfl) (by rfl) T.m_all (by decide +kernel) (pa_cons (pe_lc (own := [("sign", 1)]) (g := gName 1) rfl sc_is_name.nd (pi_str (pv 0)) (blkOk_by (own := [("sign", 1)]) (N := ["value", "sign"]) (sc := defScope s_is_name) (by decide +kernel)) (fun _ _ _ _ _ => (pg_name (i := 1) sc_is_name.nd rfl (by first | exact Or.inl rfl | exact Or.inr rfl))) (fun _ _ _ _ _ => pts_nil) (fun _ _ _ _ _ => (pe_cmpR (opIn (K := K) rfl) (pv 1) (pe_g rfl T.g_LETTERS) rfl))) pa_nil))))))), fun ds R ⟨d, h, hk, hR⟩ => ?_⟩
  subst h
  have hk' : kinds d = true := by cases d <;> first | rfl | exact hk
  repeat walk_at "nv"
  refine cd_isaStr hk' ⟨_, rfl, ifb (fun h1 => ?_) fun h1 => ?_⟩
  · obtain ⟨z, rfl⟩ : ∃ z, d = .str z := by cases d <;> first | exact ⟨_, rfl⟩ | exact absurd (show false = true from h1) Bool.false_ne_true | exact absurd (show true = false from h1) (fun z => nomatch z)
    have hz : z.length ≤ 100 := of_decide_eq_true hk
    repeat walk_at "nv"
    refine ed_chain ?_
    repeat walk_at "nv"
    refine cd_len_s (by omega) ?_
    repeat walk_at "nv"
    refine ifb (fun h2 => ?_) fun h2 => ?_
    · repeat walk_at "nv"
      refine ifb (fun h3 => ?_) fun h3 => ?_
      · repeat walk_at "nv"
        refine ed_lc_map (fun d => gd_name) ?_
        refine ei_str ?_
        repeat walk_at "nv"
        refine ⟨by simp [signsD]; show z.length < _; omega, fun d => .bl (inLet d), fun x hx => ?_, ?_⟩
        · obtain ⟨c, hc, rfl⟩ := List.mem_map.mp hx
          repeat walk_at "nv"
          rw [letters_eq]; rfl
        · repeat walk_at "nv"
          have e : (signsD z).map (fun d => Dt.bl (inLet d)) = (z.cps.toList.map fun c => decide (c ∈ letters)).map Dt.bl := by
            simp only [signsD, List.map_map]
            exact List.map_congr_left fun c _ => rfl
          rw [e]
          refine cd_all ?_
          have e2 : (z.cps.toList.map fun c => decide (c ∈ letters)).all id = isName (.str z) := by
            have h4 : 1 ≤ z.length ∧ z.length ≤ 8 := by have := of_decide_eq_true h2; have := of_decide_eq_true h3; omega
            show _ = (decide (1 ≤ z.length ∧ z.length ≤ 8) && _)
            rw [decide_eq_true h4, Bool.true_and, List.all_map]
            rfl
          rw [e2]; exact hR
      · have e2 : isName (.str z) = false := by
          have h4 : ¬ (1 ≤ z.length ∧ z.length ≤ 8) := by have := of_decide_eq_false h3; omega
          show (decide (1 ≤ z.length ∧ z.length ≤ 8) && _) = false
          rw [decide_eq_false h4]; rfl
        rw [e2] at hR
        exact hR
    · have e2 : isName (.str z) = false := by
        have h4 : ¬ (1 ≤ z.length ∧ z.length ≤ 8) := by have := of_decide_eq_false h2; omega
        show (decide (1 ≤ z.length ∧ z.length ≤ 8) && _) = false
        rw [decide_eq_false h4]; rfl
      rw [e2] at hR
      exact ⟨_, rfl, by rw [if_neg Bool.false_ne_true]; exact hR⟩
  · cases d <;> first | exact hR | exact absurd (show true = false from h1) (fun z => nomatch z)
/-! the dice -/
theorem gf_roll (T : Txt mg) (F : Df K mg "_law_roll" s__law_roll ["_law_dice_here", "_law_total"]) : Gf P w K mg base "_law_roll" 1 ["_law_dice_here", "_law_total"] PreRoll := by
  obtain ⟨f, fd, F, b, m⟩ := F
  refine ⟨f, fd, roll_hide (F.ok sc__law_roll (fun vs H Q E h => ?_) (fun cdv A outer s H vs Q E hr h => ⟨_, (pss_cons (ps_if (pt_cmpR op_gt (pe_ix (ixA (K := K) rfl) (pv 0) pe_int (fun _ _ => rfl)) pe_int (nomark _)) (pss_cons (ps_set (i := 4) sc__law_roll.nd rfl (by first | exact Or.inl rfl | exact Or.inr rfl) (pe_op op_mod (pe_callTy call_int1 (by rfl) T.m_int (by decide +kernel) (pa_cons (pe_ix (ixA (K := K) rfl) (pv 0) pe_int (fun _ _ => rfl)) pa_nil)) (pv 1))) (pss_cons (ps_asg (pe_op op_fdivW (pe_ix (ixA (K := K) rfl) (pv 0) pe_int (fun _ _ => rfl)) (pv 1)) (pg_sub (pv 0) pe_int set_list)) (pss_one (ps_ret (pv 4))))) pss_nil) (pss_cons (ps_asg (pe_op (opAdd (K := K) rfl) (pe_ix (ixA (K := K) rfl) (pv 0) pe_int (fun _ _ => rfl)) pe_int) (pg_sub (pv 0) pe_int set_list)) (pss_cons (ps_set (i := 2) sc__law_roll.nd rfl (by first | exact Or.inl rfl | exact Or.inr rfl) (pe_op op_mod (pe_callTy call_int1 (by rfl) T.m_int (by decide +kernel) (pa_cons (pe_op (opAdd (K := K) rfl) (pe_ix (ixA (K := K) rfl) (pv 0) pe_int (fun _ _ => rfl)) (pe_op (opMul (K := K) rfl) pe_int (pe_ix (ixA (K := K) rfl) (pv 0) pe_int (fun _ _ => rfl)))) pa_nil)) pe_int)) (pss_cons (ps_set (i := 3) sc__law_roll.nd rfl (by first | exact Or.inl rfl | exact Or.inr rfl) (pe_op (opAdd (K := K) rfl) (pe_op (opMul (K := K) rfl) (pe_op op_mod (pe_callTy call_int1 (by rfl) T.m_int (by decide +kernel) (pa_cons (pe_op (opMul (K := K) rfl) (pv 2) (pv 2)) pa_nil)) pe_int) (pv 2)) (pe_op (opMul (K := K) rfl) pe_int (pe_ix (ixA (K := K) rfl) (pv 0) pe_int (fun _ _ => rfl))))) (pss_cons (ps_set (i := 3) sc__law_roll.nd rfl (by first | exact Or.inl rfl | exact Or.inr rfl) (pe_op op_mod (pe_callTy call_int1 (by rfl) T.m_int (by decide +kernel) (pa_cons (pv 3) pa_nil)) pe_int)) (pss_one (ps_ret (pe_op op_mod (pe_callTy call_int1 (by rfl) T.m_int (by decide +kernel) (pa_cons (pe_op op_fdivW (pv 3) pe_int) pa_nil)) (pv 1))))))))), ?_⟩)), b, m, F.kp, lk_of F⟩
  · obtain ⟨d, n, x, y, z, rfl, _⟩ := h; rfl
  · obtain ⟨d, n, x, y, z, rfl, hd, h0, h1, k⟩ := h
    refine ⟨_, rfl, .inl ⟨d, _, _, _, rfl, rfl, .inl (.inl hd), rfl, _, _, rfl, rfl, _, rfl, ifb (fun h2 => ?_) fun h2 => ?_⟩⟩
    · refine ⟨_, rfl, .inl ⟨d, _, _, _, rfl, rfl, .inl (.inl hd), rfl, .inl ⟨_, rfl, _, rfl, _, _, rfl, rfl, h0, ?_⟩⟩⟩
      refine ⟨_, rfl, .inl ⟨d, _, _, _, rfl, rfl, .inl (.inl hd), rfl, _, rfl, _, _, rfl, rfl, divw h0 h1, _, rfl, d, _, _, _, rfl, rfl, hd, rfl, ?_⟩⟩
      exact ⟨_, rfl, k _ _ y z (Int.emod_nonneg _ (by omega)) (Int.emod_lt_of_pos _ h0)⟩
    · refine ⟨_, rfl, .inl ⟨d, _, _, _, rfl, rfl, .inl (.inl hd), rfl, .inl ⟨_, _, rfl, rfl, _, rfl, d, _, _, _, rfl, rfl, hd, rfl, ?_⟩⟩⟩
      refine ⟨_, rfl, .inl ⟨d, _, _, _, rfl, rfl, .inl (.inl upd_same), rfl, _, rfl, .inl ⟨d, _, _, _, rfl, rfl, .inl (.inl upd_same), rfl, .inl ⟨_, _, rfl, rfl, .inl ⟨by decide, by decide⟩, .inl ⟨_, _, rfl, rfl, .inl ⟨_, rfl, _, _, rfl, rfl, (by show (0 : Int) < _; decide), ?_⟩⟩⟩⟩⟩⟩
      refine ⟨_, rfl, _, rfl, .inl ⟨_, _, rfl, rfl, modm (by decide) (by decide), .inl ⟨_, rfl, _, _, rfl, rfl, (by show (0 : Int) < _; decide), _, rfl, .inl ⟨_, _, rfl, rfl, modm (by decide) (by decide), _, rfl, .inl ⟨d, _, _, _, rfl, rfl, .inl (.inl upd_same), rfl, .inl ⟨_, _, rfl, rfl, .inl ⟨by decide, by decide⟩, .inl ⟨_, _, rfl, rfl, ?_⟩⟩⟩⟩⟩⟩⟩
      refine ⟨_, rfl, .inl ⟨_, rfl, _, _, rfl, rfl, (by show (0 : Int) < _; decide), ?_⟩⟩
      exact ⟨_, rfl, _, _, rfl, rfl, divw (by decide) (by decide), .inl ⟨_, rfl, _, rfl, _, _, rfl, rfl, h0, k _ x y _ (Int.emod_nonneg _ (by omega)) (Int.emod_lt_of_pos _ h0)⟩⟩
theorem gf_dice (T : Txt mg) (F : Df K mg "_law_dice" s__law_dice ["_law_script", "_law_at"]) : Gf P w K mg base "_law_dice" 1 ["_law_script", "_law_at"] PreDice := by
  obtain ⟨f, fd, F, b, m⟩ := F
  refine ⟨f, fd, dice_hide (F.ok sc__law_dice (fun vs H Q E h => ?_) (fun cdv A outer s H vs Q E hr h => ⟨_, (pss_cons (ps_set (i := 2) sc__law_dice.nd rfl (by first | exact Or.inl rfl | exact Or.inr rfl) (pe_ifExp (pt_cmpR op_lt (pv 1) (pe_callB (callLen (K := K) rfl) (by rfl) T.m_len (by decide +kernel) (pa_cons (pv 0) pa_nil)) (nomark _)) (pe_ix (ixA (K := K) rfl) (pv 0) (pv 1) (fun _ _ => rfl)) (pe_op (opAdd (K := K) rfl) (pe_op (opMul (K := K) rfl) pe_int (pv 1)) pe_int))) (pss_cons (ps_set (i := 3) sc__law_dice.nd rfl (by first | exact Or.inl rfl | exact Or.inr rfl) (pe_op op_mod (pe_callTy call_int1 (by rfl) T.m_int (by decide +kernel) (pa_cons (pe_callB call_abs (by rfl) T.m_abs (by decide +kernel) (pa_cons (pv 2) pa_nil)) pa_nil)) (pe_op op_powW (pe_op op_powW pe_int pe_int) pe_int))) (pss_cons (ps_set (i := 4) sc__law_dice.nd rfl (by first | exact Or.inl rfl | exact Or.inr rfl) (pe_op (opAdd (K := K) rfl) (pe_op (opAdd (K := K) rfl) (pe_op (opAdd (K := K) rfl) (pe_op (opMul (K := K) rfl) (pe_op op_mod (pe_callTy call_int1 (by rfl) T.m_int (by decide +kernel) (pa_cons (pv 3) pa_nil)) pe_int) pe_int) (pe_op (opMul (K := K) rfl) pe_int (pv 1))) (pe_op (opMul (K := K) rfl) pe_int (pe_callTy call_int1 (by rfl) T.m_int (by decide +kernel) (pa_cons (pe_cmpR op_lt (pv 2) pe_int (nomark _)) pa_nil)))) pe_int)) (pss_one (ps_ret (pe_lst (pa_cons (pe_callB (call_max2 rfl) (by rfl) T.m_max (by decide +kernel) (pa_cons pe_int (pa_cons (pe_op op_sub (pv 3) (pe_op op_powW pe_int pe_int)) pa_nil))) (pa_cons (pe_op op_mod (pe_callTy call_int1 (by rfl) T.m_int (by decide +kernel) (pa_cons (pv 4) pa_nil)) pe_int) (pa_cons pe_int pa_nil))))))))), ?_⟩)), b, m, F.kp, lk_of F⟩
  · obtain ⟨a, ns, i, rfl, _⟩ := h; rfl
  · obtain ⟨a, ns, i, rfl, hs, k⟩ := h
    have d0 : ∀ {ns : List Int}, Dats K H (ns.map .int) (ns.map V.int) := fun {ns} => by
      induction ns with
      | nil => rfl
      | cons n ns ih => exact ⟨.int n, _, rfl, rfl, ih⟩
    have sv : Sv K H (L2.start ["_law_script", "_law_at", "_law_cell", "_law_great", "_law_mixed"] [V.ref a, V.int i]) (startS 5 [.sq (ns.map .int), .int i]) :=
      (sl_start (N := ["_law_script", "_law_at", "_law_cell", "_law_great", "_law_mixed"]) (Same.refl H) (show Dats K H [.sq (ns.map .int), .int i] [.ref a, .int i] from ⟨_, _, rfl, ⟨a, _, rfl, hs, d0⟩, _, _, rfl, rfl, rfl⟩)).sv
    refine st_asg_raw (R := fun d => ∃ j, d = .int j) ?_ (Same.refl H) sv fun v1 c1 G1 H1 g1 e1 ⟨j1, q1⟩ => ?_
    · repeat walk_at "nv"
      refine ifb (fun h1 => ?_) fun h1 => ?_
      · repeat walk_at "nv"
        have hi : i < ns.length := by have := of_decide_eq_true h1; simp at this; exact this
        exact rd_ix_sq (d := .int ns[i]) (atI_nat (by simp [hi])) ⟨_, rfl⟩
      · repeat walk_at "nv"
        refine rd_mul_i (.inl ⟨by decide, by decide⟩) ?_
        repeat walk_at "nv"
        exact ⟨_, rfl⟩
    subst q1
    have sv1 := (sv.up g1.kn).set (j := 2) e1
    refine st_asg_raw (R := fun d => ∃ j, d = .int j) ?_ g1.ink sv1 fun v2 c2 G2 H2 g2 e2 ⟨j2, q2⟩ => ?_
    · repeat walk_at "nv"
      refine rd_I ⟨by decide, by decide +kernel⟩ ?_
      repeat walk_at "nv"
      refine rd_I ⟨by decide, by decide +kernel⟩ ?_
      exact rd_I (Int.pow_pos (Int.pow_pos (by decide))) ⟨_, rfl⟩
    subst q2
    have sv2 := (sv1.up g2.kn).set (j := 3) e2
    refine st_asg_raw (R := fun d => ∃ j, d = .int j) ?_ g2.ink sv2 fun v3 c3 G3 H3 g3 e3 ⟨j3, q3⟩ => ?_
    · repeat walk_at "nv"
      refine rd_I (by show (0 : Int) < _; decide) ?_
      repeat walk_at "nv"
      refine rd_mul_i (modm (by decide) (by decide)) ?_
      repeat walk_at "nv"
      refine rd_mul_i (.inl ⟨by decide, by decide⟩) ?_
      repeat walk_at "nv"
      refine rd_mul_i (.inl ⟨by decide, by decide⟩) ?_
      repeat walk_at "nv"
      exact ⟨_, rfl⟩
    subst q3
    have sv3 := (sv2.up g3.kn).set (j := 4) e3
    refine ret_new_raw (R := fun ds => ∃ x y z, ds = [.int x, .int y, .int z]) ?_ g3.ink sv3 fun vs ds G4 H4 g4 e4 ⟨x, y, z, q4⟩ => ?_
    · repeat walk_at "nv"
      refine rd_I ⟨by decide, by decide +kernel⟩ ?_
      repeat walk_at "nv"
      refine rd_I (by show (0 : Int) < _; decide) ?_
      repeat walk_at "nv"
      exact ⟨_, _, _, rfl⟩
    subst q4
    obtain ⟨_, _, rfl, z1, _, _, rfl, z2, _, _, rfl, z3, z4⟩ := e4
    cases z1; cases z2; cases z3; cases z4
    refine ⟨(by show 3 ≤ 1000; decide), fun p hp => k p x y z _ ?_ ?_ upd_same⟩
    · exact ((g1.trans (g2.trans (g3.trans g4))).up).trans (Ex.new hp)
    · exact (g1.trans (g2.trans (g3.trans g4))).up.free hp
end
end Nv

set_option Elab.async false
set_option linter.all false
set_option maxRecDepth 100000
set_option maxHeartbeats 4000000
namespace Nv
open PySem PySem.Spec PyProof.Rows L2
local macro_rules | `(tactic| walk_at "nv1") => `(tactic| first
  | ((with_reducible apply ed_var); exact rfl)
  | (with_reducible refine sd_seq ?_)
  | (with_reducible refine sd_ret ?_)
  | (with_reducible refine sd_if ?_)
  | (with_reducible refine sd_asg ?_)
  | (with_reducible refine sd_next ?_)
  | (with_reducible refine ed_op ?_)
  | (with_reducible refine ed_and ?_)
  | (with_reducible refine ed_or ?_)
  | (with_reducible refine ed_not ?_)
  | (with_reducible refine ed_if ?_)
  | (with_reducible refine ed_cb ?_)
  | (with_reducible refine ed_call ?_)
  | (with_reducible refine ed_lst ?_)
  | (with_reducible refine ed_tup ?_)
  | (with_reducible refine ed_un ?_)
  | (with_reducible refine ed_sl ?_)
  | (with_reducible refine ea_cons ?_)
  | (with_reducible refine ea_nil ?_)
  | (with_reducible refine eo_none ?_)
  | (with_reducible refine eo_some ?_)
  | (with_reducible refine et_test ?_)
  | (with_reducible refine et_B ?_)
  | (with_reducible refine et_and ?_)
  | (with_reducible refine et_or ?_)
  | (with_reducible refine et_not ?_)
  | (with_reducible refine et_yes ?_)
  | (with_reducible refine ed_int ?_)
  | (with_reducible refine ed_str ?_)
  | (with_reducible refine ed_bl ?_)
  | (with_reducible refine ed_non ?_)
  | (with_reducible refine ed_ty ?_)
  | (with_reducible refine ed_obj ?_))
local macro_rules | `(tactic| walk_at "nv2") => `(tactic| first
  | (with_reducible refine rd_add_i ?_)
  | (with_reducible refine rd_I0i ?_)
  | (with_reducible refine rd_I0b ?_)
  | (with_reducible refine rd_eq_i ?_)
  | (with_reducible refine rd_ne_i ?_)
  | (with_reducible refine rd_eq_s ?_)
  | (with_reducible refine rd_ne_s ?_)
  | (with_reducible refine rd_notB ?_)
  | (with_reducible refine rd_isB ?_)
  | (with_reducible refine rd_isN ?_)
  | (with_reducible refine rd_notN ?_)
  | (with_reducible refine rd_in_sign ?_)
  | (with_reducible refine cd_len_l ?_)
  | (with_reducible refine cd_len_sq ?_)
  | (with_reducible refine cd_len_t ?_)
  | (with_reducible refine cd_int_i ?_)
  | (with_reducible refine cd_int_b ?_)
  | (with_reducible refine cd_abs ?_)
  | (with_reducible refine cd_max ?_)
  | (with_reducible refine cd_min ?_)
  | (with_reducible refine cd_str_s ?_)
  | (with_reducible refine cd_repr_b ?_)
  | (with_reducible refine ud_neg ?_)
  | ((with_reducible refine And.intro ?_ ?_); exact Nat.le_of_ble_eq_true rfl) | (with_reducible refine ed_dnew ?_) | (with_reducible refine ed_disp1 ?_) | ((with_reducible refine rd_mul_l ?_ ?_ ?_ ?_); decide; decide; exact Nat.le_of_ble_eq_true rfl) | ((with_reducible refine rd_add_l ?_ ?_); exact Nat.le_of_ble_eq_true rfl)
  | (with_reducible refine ⟨_, rfl, ?_⟩) | (with_reducible refine ⟨_, Or.inl rfl, ?_⟩))
local macro_rules | `(tactic| walk_at "nv") => `(tactic| first | walk_at "nv1" | walk_at "nv2")
local macro_rules | `(tactic| walk_at "cx") => `(tactic| dsimp only [cxOf, Cx.nox, Cx.wish, Cx.blk, List.length_cons, List.length_nil])

open SX (S)
section
variable {P : Program} {w : World} {K : PySem.W.Frag} {mg : Str → Option Value} {base : Heap}
theorem gf_one_of (T : Txt mg) (F : Df K mg "_law_one_of" s__law_one_of ["_law_dice_here", "_law_items"]) (g__law_roll : Gf P w K mg base "_law_roll" 1 ["_law_dice_here", "_law_total"] PreRoll) :
    Gf P w K mg base "_law_one_of" 2 ["_law_dice_here", "_law_items"] PreOneOf := by
  refine gf_of F sc__law_one_of (fun ds R ⟨it, l, h, _⟩ => by rw [h]; rfl) fun f cdv A outer s H E hr => ⟨_, (pss_one (ps_ret (pe_ix (ixA (K := K) rfl) (pv 1) (pe_gf g__law_roll ⟨rfl, rfl, rfl, rfl, rfl⟩ (hr.mono (by decide)) rfl (pa_cons (pv 0) (pa_cons (pe_callB (callLen (K := K) rfl) (by rfl) T.m_len (by decide +kernel) (pa_cons (pv 1) pa_nil)) pa_nil))) (fun _ _ => rfl)))), fun ds R ⟨it, l, h, hi, hn, hl, hR⟩ => ?_⟩
  subst h
  repeat walk_at "nv"
  refine cd_len_items hi hl ?_
  repeat walk_at "nv"
  have h0 : 0 < l.length := List.length_pos_iff.mpr hn
  refine ⟨_, rfl, by omega, by omega, fun r h1 h2 => ?_⟩
  obtain ⟨i, rfl⟩ : ∃ i : Nat, r = i := ⟨r.toNat, by omega⟩
  have hi' : i < l.length := by omega
  exact rd_ix_items hi hl (List.getElem?_eq_getElem hi') (hR _ (List.getElem_mem hi'))
theorem sum_ones : ∀ cs : List Nat, ((cs.map fun c => [c]).map List.length).sum = cs.length
  | [] => rfl
  | c :: cs => by
    have := sum_ones cs
    simp at this ⊢
    omega
theorem filt0 : ∀ l : List Dt, l.filter (fun _ => false) = []
  | [] => rfl
  | x :: l => filt0 l
theorem ifF {b : Bool} {A B : Prop} (h : b = false) (hB : B) : if b = true then A else B := by rw [h, if_neg Bool.false_ne_true]; exact hB
theorem ifT {b : Bool} {A B : Prop} (h : b = true) (hA : A) : if b = true then A else B := by rw [h, if_pos rfl]; exact hA
theorem isName_S (l : List Nat) : isName (.str (S l)) = (decide (1 ≤ l.length ∧ l.length ≤ 8) && l.all fun c => decide (c ∈ letters)) := by
  show (decide (1 ≤ (S l).length ∧ (S l).length ≤ 8) && _) = _
  rw [SX.S_len]
def PreRight : List Dt → (Dt → Prop) → Prop := fun ds R => ds = [dice] ∧ R (.bl true)
theorem gf_right (T : Txt mg) (F : Df K mg "_law_right" s__law_right ["_law_dice_here"]) (g__law_roll : Gf P w K mg base "_law_roll" 1 ["_law_dice_here", "_law_total"] PreRoll) (g__law_one_of : Gf P w K mg base "_law_one_of" 2 ["_law_dice_here", "_law_items"] PreOneOf)
    (g_is_mark : Gf P w K mg base "is_mark" 2 ["value"] (Pre1 kinds isMark)) (g_is_name : Gf P w K mg base "is_name" 1 ["value"] (Pre1 short isName)) :
    Gf P w K mg base "_law_right" 3 ["_law_dice_here"] PreRight := by
  refine gf_of F sc__law_right (fun ds R ⟨h, _⟩ => by rw [h]; rfl) fun f cdv A outer s H E hr => ⟨_, (pss_cons (ps_set (i := 1) sc__law_right.nd rfl (by first | exact Or.inl rfl | exact Or.inr rfl) pe_str) (pss_cons (ps_set (i := 2) sc__law_right.nd rfl (by first | exact Or.inl rfl | exact Or.inr rfl) (peBm (K := K) rfl PySem.F.plainAttrs_str PySem.F.slot_str_join PySem.F.type_str_join (mtJoin (K := K) rfl) pe_str (pa_cons (pe_lc (own := [("_law_sign", 3)]) (g := gName 3) rfl sc__law_right.nd (pi_range1 rfl T.m_range (pa_cons (pe_gf g__law_roll ⟨rfl, rfl, rfl, rfl, rfl⟩ (hr.mono (by decide)) rfl (pa_cons (pv 0) (pa_cons pe_int pa_nil))) pa_nil)) (blkOk_by (own := [("_law_sign", 3)]) (N := ["_law_dice_here", "_law_letters", "_law_text", "_law_sign", "_law_at", "_law_spoilt", "_law_number", "_law_told", "_law_odd", "_law_one"]) (sc := defScope s__law_right) (by decide +kernel)) (fun _ _ _ _ _ => (pg_name (i := 3) sc__law_right.nd rfl (by first | exact Or.inl rfl | exact Or.inr rfl))) (fun _ _ _ _ _ => pts_nil) (fun _ _ _ _ _ => (pe_gf g__law_one_of ⟨rfl, rfl, rfl, rfl, rfl⟩ (hr.mono (by decide)) rfl (pa_cons (pv 0) (pa_cons (pv 1) pa_nil))))) pa_nil))) (pss_cons (ps_set (i := 3) sc__law_right.nd rfl (by first | exact Or.inl rfl | exact Or.inr rfl) (pe_gf g__law_one_of ⟨rfl, rfl, rfl, rfl, rfl⟩ (hr.mono (by decide)) rfl (pa_cons (pv 0) (pa_cons (pe_lst (pa_cons pe_str (pa_cons pe_str (pa_cons pe_str (pa_cons pe_str (pa_cons pe_str (pa_cons pe_str (pa_cons pe_str (pa_cons pe_str (pa_cons pe_str (pa_cons pe_str (pa_cons pe_str (pa_cons pe_str pa_nil))))))))))))) pa_nil)))) (pss_cons (ps_set (i := 4) sc__law_right.nd rfl (by first | exact Or.inl rfl | exact Or.inr rfl) (pe_gf g__law_roll ⟨rfl, rfl, rfl, rfl, rfl⟩ (hr.mono (by decide)) rfl (pa_cons (pv 0) (pa_cons (pe_op (opAdd (K := K) rfl) (pe_callB (callLen (K := K) rfl) (by rfl) T.m_len (by decide +kernel) (pa_cons (pv 2) pa_nil)) pe_int) pa_nil)))) (pss_cons (ps_set (i := 5) sc__law_right.nd rfl (by first | exact Or.inl rfl | exact Or.inr rfl) (pe_op (opAdd (K := K) rfl) (pe_op (opAdd (K := K) rfl) (pe_slice sl_str (pv 2) po_none (po_some (pv 4))) (pv 3)) (pe_slice sl_str (pv 2) (po_some (pv 4)) po_none))) (pss_cons (ps_if (PW.pt (pw_or (pt_cmpR (opNe (K := K) rfl hr.units) (pe_callB call_repr1 (by rfl) T.m_repr (by decide +kernel) (pa_cons (pe_gf g_is_name ⟨rfl, rfl, rfl, rfl, rfl⟩ (hr.mono (by decide)) rfl (pa_cons (pv 2) pa_nil)) pa_nil)) (pe_callB call_repr1 (by rfl) T.m_repr (by decide +kernel) (pa_cons (pe_chain op_lt op_lt pe_int (pe_callB (callLen (K := K) rfl) (by rfl) T.m_len (by decide +kernel) (pa_cons (pv 2) pa_nil)) pe_int) pa_nil)) (nomark _)) (pw_or (pt_cmpR opIsNot (pe_gf g_is_name ⟨rfl, rfl, rfl, rfl, rfl⟩ (hr.mono (by decide)) rfl (pa_cons (pv 5) pa_nil)) pe_bl (nomark _)) (pw_or1 (pt_cmpR opIsNot (pe_gf g_is_mark ⟨rfl, rfl, rfl, rfl, rfl⟩ (hr.mono (by decide)) rfl (pa_cons (pv 2) pa_nil)) pe_bl (nomark _)))))) (pss_one (ps_ret pe_bl)) pss_nil) (pss_cons (ps_set (i := 6) sc__law_right.nd rfl (by first | exact Or.inl rfl | exact Or.inr rfl) (pe_gf g__law_roll ⟨rfl, rfl, rfl, rfl, rfl⟩ (hr.mono (by decide)) rfl (pa_cons (pv 0) (pa_cons (pe_op op_powW pe_int pe_int) pa_nil)))) (pss_cons (ps_set (i := 7) sc__law_right.nd rfl (by first | exact Or.inl rfl | exact Or.inr rfl) (pe_lst (pa_cons (pe_gf g_is_mark ⟨rfl, rfl, rfl, rfl, rfl⟩ (hr.mono (by decide)) rfl (pa_cons (pv 6) pa_nil)) (pa_cons (pe_gf g_is_mark ⟨rfl, rfl, rfl, rfl, rfl⟩ (hr.mono (by decide)) rfl (pa_cons (pe_op op_sub (pe_op op_sub pe_int pe_int) (pv 6)) pa_nil)) (pa_cons (pe_gf g_is_mark ⟨rfl, rfl, rfl, rfl, rfl⟩ (hr.mono (by decide)) rfl (pa_cons (pe_tup (pa_cons (pv 6) pa_nil)) pa_nil)) (pa_cons (pe_gf g_is_mark ⟨rfl, rfl, rfl, rfl, rfl⟩ (hr.mono (by decide)) rfl (pa_cons (pe_lst (pa_cons (pv 6) pa_nil)) pa_nil)) (pa_cons (pe_gf g_is_mark ⟨rfl, rfl, rfl, rfl, rfl⟩ (hr.mono (by decide)) rfl (pa_cons (pe_callTy callStr (by rfl) T.m_str (by decide +kernel) (pa_cons (pv 6) pa_nil)) pa_nil)) pa_nil))))))) (pss_cons (ps_set (i := 8) sc__law_right.nd rfl (by first | exact Or.inl rfl | exact Or.inr rfl) (pe_lst (pa_cons pe_non (pa_cons pe_bl (pa_cons pe_bl (pa_cons (pe_tup pa_nil) (pa_cons (pe_tup (pa_cons (pv 2) pa_nil)) (pa_cons (pe_lst (pa_cons (pv 2) pa_nil)) (pa_cons (pe_disp (pps_cons (pv 2) pe_int pps_nil) (by rfl) (by rfl) (fun z => by cases z) (by decide)) (pa_cons pe_dnewK (pa_cons (pv 6) (pa_cons (pe_lst (pa_cons (pe_lst pa_nil) pa_nil)) pa_nil)))))))))))) (pss_one (ps_ret (pe_and (pe_cmpR (opEq (K := K) rfl hr.units) (pv 7) (pe_op (opAdd (K := K) rfl) (pe_lst (pa_cons pe_bl pa_nil)) (pe_op (opMul (K := K) rfl) (pe_lst (pa_cons pe_bl pa_nil)) pe_int)) (nomark _)) (pe_one (pe_cmpR (opEq (K := K) rfl hr.units) (pe_lc (own := [("_law_one", 9)]) (g := gName 9) rfl sc__law_right.nd (piList (K := K) rfl (pv 8)) (blkOk_by (own := [("_law_one", 9)]) (N := ["_law_dice_here", "_law_letters", "_law_text", "_law_sign", "_law_at", "_law_spoilt", "_law_number", "_law_told", "_law_odd", "_law_one"]) (sc := defScope s__law_right) (by decide +kernel)) (fun _ _ _ _ _ => (pg_name (i := 9) sc__law_right.nd rfl (by first | exact Or.inl rfl | exact Or.inr rfl))) (fun _ _ _ _ _ => pts_one (pt_cmpR opIsNot (pe_gf g_is_name ⟨rfl, rfl, rfl, rfl, rfl⟩ (hr.mono (by decide)) rfl (pa_cons (pv 9) pa_nil)) pe_bl (nomark _))) (fun _ _ _ _ _ => (pv 9))) (pe_lst pa_nil) (nomark _))))))))))))))), fun ds R ⟨h, hR⟩ => ?_⟩
  subst h
  repeat walk_at "nv"
  refine ed_bm ?_
  refine ed_str ⟨fun G H v e d => ty_s e d, ?_⟩
  repeat walk_at "nv"
  refine ed_lc (fun d => gd_name) ?_
  refine ei_rng1 ?_
  repeat walk_at "nv"
  refine ⟨11, rfl, by decide, by decide, fun r h1 h2 => ?_⟩
  repeat walk_at "nv"
  refine ⟨⟨by omega, by omega⟩, fun i acc => ∃ cs : List Nat, acc = cs.map (fun c => Dt.str (S [c])) ∧ cs.length = i ∧ ∀ c ∈ cs, c ∈ letters, ⟨[], rfl, rfl, fun c hc => nomatch hc⟩, by simp [rangeD]; omega, fun i x acc hx ⟨cs, h3, h4, h5⟩ => ?_, fun acc ⟨cs, h3, h4, h5⟩ => ?_⟩
  · subst h3
    walk_at "nv"
    rw [if_pos rfl]
    repeat walk_at "nv"
    refine ⟨_, _, rfl, rfl, by decide, by decide, fun x hx => ?_⟩
    obtain ⟨c, hc, rfl⟩ := List.mem_map.mp hx
    rw [letters_eq] at hc
    exact ⟨cs ++ [c], by simp, by simp [h4], fun d hd => by
      rcases List.mem_append.mp hd with h | h
      · exact h5 d h
      · cases List.mem_singleton.mp h; exact hc⟩
  · have hlen : cs.length ≤ 10 := by rw [h4]; simp [rangeD]; omega
    clear h4
    subst h3
    repeat walk_at "nv"
    have e : cs.map (fun c => Dt.str (S [c])) = ((cs.map fun c => [c]).map S).map Dt.str := by simp
    rw [e]
    refine md_join_l (by rw [SX.lens, show (Str.ofString "" : Str).length = 0 from rfl, sum_ones]; omega) ?_
    rw [show (Str.ofString "" : Str) = S [] from rfl, SX.join_S, joinOnes]
    repeat walk_at "nv"
    refine ⟨_, _, rfl, rfl, by decide, by decide, fun d hd => ?_⟩
    obtain ⟨c0, rfl, hc0⟩ : ∃ c, d = .str (S [c]) ∧ c ∉ letters := by
      revert d
      simp only [List.forall_mem_cons]
      exact ⟨⟨32, rfl, by decide⟩, ⟨65, rfl, by decide⟩, ⟨90, rfl, by decide⟩, ⟨48, rfl, by decide⟩, ⟨95, rfl, by decide⟩, ⟨45, rfl, by decide⟩, ⟨46, rfl, by decide⟩, ⟨10, rfl, by decide⟩, ⟨123, rfl, by decide⟩, ⟨64, rfl, by decide⟩, ⟨96, rfl, by decide⟩, ⟨91, rfl, by decide⟩, fun x hx => nomatch hx⟩
    repeat walk_at "nv"
    refine cd_len_s (by rw [SX.S_len]; omega) ?_
    rw [SX.S_len]
    repeat walk_at "nv"
    refine ⟨_, rfl, by omega, by omega, fun r h6 h7 => ?_⟩
    obtain ⟨at', rfl⟩ : ∃ i : Nat, r = i := ⟨r.toNat, by omega⟩
    repeat walk_at "nv"
    refine sd_sl_s (by rw [SX.S_len]; omega) ?_
    rw [cut_to]
    repeat walk_at "nv"
    refine rd_add_s (by rw [SX.S_len, SX.S_len]; simp; omega) ?_
    rw [SX.S_cat]
    repeat walk_at "nv"
    refine sd_sl_s (by rw [SX.S_len]; omega) ?_
    rw [cut_from]
    refine rd_add_s (by rw [SX.S_len, SX.S_len]; simp; omega) ?_
    rw [SX.S_cat]
    repeat walk_at "nv"
    have hN : isName (.str (S cs)) = decide (1 ≤ cs.length ∧ cs.length ≤ 8) := by
      rw [isName_S, List.all_eq_true.mpr fun c hc => decide_eq_true (h5 c hc), Bool.and_true]
    have hsp : isName (.str (S (List.take at' cs ++ [c0] ++ List.drop at' cs))) = false := by
      rw [isName_S]
      have h8 : (List.take at' cs ++ [c0] ++ List.drop at' cs).all (fun c => decide (c ∈ letters)) = false := by
        rw [List.all_eq_false]
        exact ⟨c0, by simp, by rw [decide_eq_false hc0]; exact Bool.false_ne_true⟩
      rw [h8, Bool.and_false]
    refine ⟨_, rfl, decide_eq_true (by rw [SX.S_len]; omega), ?_⟩
    repeat walk_at "nv"
    refine EvD.imp (R := fun d => d = Dt.bl (isName (.str (S cs)))) ?_ fun d hd => ?_
    · refine ed_chain ?_
      repeat walk_at "nv"
      refine cd_len_s (by rw [SX.S_len]; omega) ?_
      rw [SX.S_len]
      repeat walk_at "nv"
      refine ifb (fun h8 => ?_) fun h8 => ?_
      · repeat walk_at "nv"
        have h9 := of_decide_eq_true h8
        rw [hN]
        refine congrArg Dt.bl ?_
        rw [decide_eq_decide]
        omega
      · have h9 := of_decide_eq_false h8
        rw [hN]
        refine congrArg Dt.bl ?_
        rw [decide_eq_false (by omega)]
    subst hd
    repeat walk_at "nv"
    rw [decide_eq_true rfl]
    refine ifF rfl ?_
    repeat walk_at "nv"
    refine ⟨_, rfl, decide_eq_true (by rw [SX.S_len]; simp; omega), ?_⟩
    rw [hsp]
    repeat walk_at "nv"
    refine ifF rfl ?_
    repeat walk_at "nv"
    refine ⟨_, rfl, rfl, ?_⟩
    repeat walk_at "nv"
    refine ifF rfl ?_
    repeat walk_at "nv"
    refine rd_I ⟨by decide, by decide +kernel⟩ ?_
    repeat walk_at "nv"
    refine ⟨_, rfl, by decide, by decide, fun n hn0 hn1 => ?_⟩
    have hn2 : n < 10 ^ 12 := hn1
    repeat walk_at "nv"
    refine ⟨_, rfl, rfl, ?_⟩
    rw [show isMark (.int n) = true from decide_eq_true hn0]
    repeat walk_at "nv"
    refine ⟨_, rfl, rfl, ?_⟩
    rw [show isMark (.int (0 - 1 - n)) = false from decide_eq_false (by omega)]
    repeat walk_at "nv"
    refine ⟨_, rfl, rfl, ?_⟩
    repeat walk_at "nv"
    refine ⟨_, rfl, rfl, ?_⟩
    repeat walk_at "nv"
    refine cd_str_i (Nat.lt_trans (PySem.Flt.log2_lt_of (k := 64) (by decide) (by omega)) (by decide)) ?_
    repeat walk_at "nv"
    refine ⟨_, rfl, rfl, ?_⟩
    repeat walk_at "nv"
    refine ⟨Sum.inr (S cs), rfl, ?_⟩
    repeat walk_at "nv"
    refine rd_eq_d (p := .list [.bool true, .bool false, .bool false, .bool false, .bool false]) rfl rfl (by decide) (by decide) ?_
    refine ⟨_, rfl, ifT (by decide) ?_⟩
    repeat walk_at "nv"
    refine ed_lc_filter (fun d => gd_name) ?_
    refine ei_list ?_
    repeat walk_at "nv"
    have hall : ∀ x ∈ [Dt.non, Dt.bl true, Dt.bl false, Dt.tup [], Dt.tup [Dt.str (S cs)], Dt.lst [Dt.str (S cs)], Dt.dic [(Sum.inr (S cs), Dt.int 1)], Dt.dic [], Dt.int n, Dt.lst [Dt.lst []]], short x = true ∧ isName x = false := by
      simp only [List.forall_mem_cons]
      exact ⟨⟨rfl, rfl⟩, ⟨rfl, rfl⟩, ⟨rfl, rfl⟩, ⟨rfl, rfl⟩, ⟨rfl, rfl⟩, ⟨rfl, rfl⟩, ⟨rfl, rfl⟩, ⟨rfl, rfl⟩, ⟨rfl, rfl⟩, ⟨rfl, rfl⟩, fun x hx => nomatch hx⟩
    refine ⟨fun _ => false, id, fun x hx => ?_, (fun x hx h => nomatch h), ?_⟩
    · repeat walk_at "nv"
      refine ⟨_, rfl, (hall x hx).1, ?_⟩
      rw [(hall x hx).2]
      repeat walk_at "nv"
      rfl
    · rw [filt0]
      repeat walk_at "nv"
      exact rd_eq_d rfl rfl (by decide) (by decide) hR
theorem range_get {n : Nat} {i : Nat} {x : Dt} (h : (rangeD 0 n)[i]? = some x) : .int i = x := by
  unfold rangeD at h
  rw [List.getElem?_map] at h
  cases q : (List.range n)[i]? with
  | none => rw [q] at h; cases h
  | some j =>
    rw [q] at h
    have e : j = i := by
      rw [List.getElem?_eq_some_iff] at q
      obtain ⟨h1, h2⟩ := q
      simpa using h2.symm
    subst e
    have h' := Option.some.inj h
    rw [← h']
    simp
def PreLaw : List Dt → (Dt → Prop) → Prop := fun ds R => ∃ ns : List Int, ds = [.sq (ns.map .int)] ∧ ns.length ≤ 63 ∧ R (.bl true)
theorem gf_law (T : Txt mg) (F : Df K mg "law" s_law ["_law_script"]) (g__law_dice : Gf P w K mg base "_law_dice" 1 ["_law_script", "_law_at"] PreDice) (g__law_right : Gf P w K mg base "_law_right" 3 ["_law_dice_here"] PreRight)
    (g_is_mark : Gf P w K mg base "is_mark" 2 ["value"] (Pre1 kinds isMark)) (g_is_name : Gf P w K mg base "is_name" 1 ["value"] (Pre1 short isName)) :
    Gf P w K mg base "law" 4 ["_law_script"] PreLaw := by
  refine gf_of F sc_law (fun ds R ⟨ns, h, _⟩ => by rw [h]; rfl) fun f cdv A outer s H E hr => ⟨_, (pss_cons (ps_for PassesOwn.never rfl (pi_range1 rfl T.m_range (pa_cons (pe_callB (call_max2 rfl) (by rfl) T.m_max (by decide +kernel) (pa_cons pe_int (pa_cons (pe_callB (call_min2 rfl) (by rfl) T.m_min (by decide +kernel) (pa_cons pe_int (pa_cons (pe_callB (callLen (K := K) rfl) (by rfl) T.m_len (by decide +kernel) (pa_cons (pv 0) pa_nil)) pa_nil))) pa_nil))) pa_nil)) (pg_name (i := 1) sc_law.nd rfl (by first | exact Or.inl rfl | exact Or.inr rfl)) (pss_cons (ps_set (i := 3) sc_law.nd rfl (by first | exact Or.inl rfl | exact Or.inr rfl) (pe_gf g__law_dice ⟨rfl, rfl, rfl, rfl, rfl⟩ (hr.mono (by decide)) rfl (pa_cons (pv 0) (pa_cons (pv 1) pa_nil)))) (pss_one (ps_for PassesOwn.never rfl (pi_range1 rfl T.m_range (pa_cons pe_int pa_nil)) (pg_name (i := 4) sc_law.nd rfl (by first | exact Or.inl rfl | exact Or.inr rfl)) (pss_one (ps_if (pt_not (pt_val (pe_gf g__law_right ⟨rfl, rfl, rfl, rfl, rfl⟩ (hr.mono (by decide)) rfl (pa_cons (pv 3) pa_nil)))) (pss_one (ps_ret pe_bl)) pss_nil)))))) (pss_cons (ps_set (i := 2) sc_law.nd rfl (by first | exact Or.inl rfl | exact Or.inr rfl) (pe_lst (pa_cons pe_non (pa_cons pe_bl (pa_cons pe_bl (pa_cons pe_str (pa_cons pe_str (pa_cons (pe_tup pa_nil) (pa_cons (pe_tup (pa_cons pe_int pa_nil)) (pa_cons (pe_lst pa_nil) (pa_cons pe_dnewK (pa_cons (pe_un un_neg pe_int) pa_nil)))))))))))) (pss_one (ps_ret (pe_and (pe_gf g_is_mark ⟨rfl, rfl, rfl, rfl, rfl⟩ (hr.mono (by decide)) rfl (pa_cons pe_int pa_nil)) (pe_and (pe_cmpR (opEq (K := K) rfl hr.units) (pe_lc (own := [("_law_one", 5)]) (g := gName 5) rfl sc_law.nd (piList (K := K) rfl (pv 2)) (blkOk_by (own := [("_law_one", 5)]) (N := ["_law_script", "_law_at", "_law_odd", "_law_dice_here", "_law_turn", "_law_one"]) (sc := defScope s_law) (by decide +kernel)) (fun _ _ _ _ _ => (pg_name (i := 5) sc_law.nd rfl (by first | exact Or.inl rfl | exact Or.inr rfl))) (fun _ _ _ _ _ => pts_one (pt_cmpR opIsNot (pe_gf g_is_mark ⟨rfl, rfl, rfl, rfl, rfl⟩ (hr.mono (by decide)) rfl (pa_cons (pv 5) pa_nil)) pe_bl (nomark _))) (fun _ _ _ _ _ => (pv 5))) (pe_lst pa_nil) (nomark _)) (pe_and (pe_gf g_is_name ⟨rfl, rfl, rfl, rfl, rfl⟩ (hr.mono (by decide)) rfl (pa_cons pe_str pa_nil)) (pe_one (pe_gf g_is_name ⟨rfl, rfl, rfl, rfl, rfl⟩ (hr.mono (by decide)) rfl (pa_cons (pe_op (opMul (K := K) rfl) pe_str pe_int) pa_nil)))))))))), fun ds R ⟨ns, h, hl, hR⟩ => ?_⟩
  subst h
  repeat walk_at "nv"
  refine sd_for ?_
  refine ei_rng1 ?_
  repeat walk_at "nv"
  have hb : ∀ z : Int, 0 ≤ z → z ≤ 63 → (if (if z < 9 then z else 9) > 1 then (if z < 9 then z else 9) else 1) < 2 ^ 62 ∧ -(2 ^ 62) ≤ (if (if z < 9 then z else 9) > 1 then (if z < 9 then z else 9) else (1 : Int)) := fun z h0 h1 => by
    split <;> split <;> omega
  refine ⟨hb _ (by omega) (by simp; omega), fun i s1 => ∃ x1 x2 x3 x4 x5, s1 = [.dt (.sq (ns.map .int)), x1, x2, x3, x4, x5], ⟨_, _, _, _, _, rfl⟩, fun i x s1 hx ⟨x1, x2, x3, x4, x5, h⟩ => ?_, fun s1 ⟨x1, x2, x3, x4, x5, h⟩ => ?_⟩
  · subst h
    obtain ⟨rfl⟩ := range_get hx
    repeat walk_at "nv"
    refine ⟨ns, i, rfl, ?_⟩
    refine sd_for ?_
    refine ei_rng1 ?_
    repeat walk_at "nv"
    refine ⟨⟨by decide, by decide⟩, fun j s2 => ∃ x1 x2 x4 x5, s2 = [.dt (.sq (ns.map .int)), x1, x2, .dt dice, x4, x5], ⟨_, _, _, _, rfl⟩, fun j x s2 hx ⟨x1, x2, x4, x5, h⟩ => ?_, fun s2 ⟨x1, x2, x4, x5, h⟩ => ⟨_, _, _, _, _, h⟩⟩
    subst h
    repeat walk_at "nv"
    refine ⟨rfl, _, rfl, ifF rfl ?_⟩
    walk_at "nv"
    exact ⟨_, _, _, _, rfl⟩
  · subst h
    repeat walk_at "nv"
    refine ⟨_, rfl, rfl, _, rfl, ifT rfl ?_⟩
    repeat walk_at "nv"
    refine ed_lc_filter (fun d => gd_name) ?_
    refine ei_list ?_
    repeat walk_at "nv"
    have hall : ∀ x ∈ [Dt.non, Dt.bl true, Dt.bl false, Dt.str (Str.ofString ""), Dt.str (Str.ofString "0"), Dt.tup [], Dt.tup [Dt.int 0], Dt.lst [], Dt.dic [], Dt.int (-1)], kinds x = true ∧ isMark x = false := by
      simp only [List.forall_mem_cons]
      exact ⟨⟨rfl, rfl⟩, ⟨rfl, rfl⟩, ⟨rfl, rfl⟩, ⟨rfl, rfl⟩, ⟨rfl, rfl⟩, ⟨rfl, rfl⟩, ⟨rfl, rfl⟩, ⟨rfl, rfl⟩, ⟨rfl, rfl⟩, ⟨rfl, rfl⟩, fun x hx => nomatch hx⟩
    refine ⟨fun _ => false, id, fun x hx => ?_, (fun x hx h => nomatch h), ?_⟩
    · repeat walk_at "nv"
      refine ⟨_, rfl, (hall x hx).1, ?_⟩
      rw [(hall x hx).2]
      repeat walk_at "nv"
      rfl
    · rw [filt0]
      repeat walk_at "nv"
      refine rd_eq_d rfl rfl (by decide) (by decide) ⟨_, rfl, ifT (by decide) ?_⟩
      repeat walk_at "nv"
      refine ⟨_, rfl, rfl, _, rfl, ifT (by decide +kernel) ?_⟩
      repeat walk_at "nv"
      refine rd_mul_s ⟨by decide +kernel, fun _ _ => by decide +kernel, fun _ _ => by decide +kernel⟩ ?_
      repeat walk_at "nv"
      refine ⟨_, rfl, by decide +kernel, ?_⟩
      rw [show isName (.str (Txt.mul (Str.ofString "z") 8)) = true by decide +kernel]
      exact hR
end
end Nv

set_option Elab.async false
set_option linter.all false
set_option maxRecDepth 100000
set_option maxHeartbeats 4000000

namespace Nv
open PySem PySem.Spec PyProof.Rows L2
theorem all_mk {l : PySem.W.OpenLaw} {w : World} {K : PySem.W.Frag} {h : Heap} {mg : Str → Option Value} {fa : Addr} (X : K.In h) (G : h.Ns mainGlobals mg) (hfa : mg "law" = some (.ref fa))
    {f1 : Addr} {od1 an1 : Option Addr} {sl1 : Array (Option Value)} {oc1 kV1 dc1 pm1 cd1 ct1 : Value} (a1 : PySem.W.nsIn K mainGlobals "is_name" = some (some (.ref f1))) (l1 : K.lookup f1 = some ⟨oc1, od1, .func (PySem.W.fnOf "is_name" "is_name" (defArgs s_is_name) (defBody s_is_name) (defScope s_is_name) .none kV1 dc1 pm1 an1 cd1 ct1), sl1⟩) (c1 : PySem.W.codeIn K cd1 "is_name" = true) (k1 : PySem.W.keepIn K (.ref f1) = true)
    {f2 : Addr} {od2 an2 : Option Addr} {sl2 : Array (Option Value)} {oc2 kV2 dc2 pm2 cd2 ct2 : Value} (a2 : PySem.W.nsIn K mainGlobals "is_integer" = some (some (.ref f2))) (l2 : K.lookup f2 = some ⟨oc2, od2, .func (PySem.W.fnOf "is_integer" "is_integer" (defArgs s_is_integer) (defBody s_is_integer) (defScope s_is_integer) .none kV2 dc2 pm2 an2 cd2 ct2), sl2⟩) (c2 : PySem.W.codeIn K cd2 "is_integer" = true) (k2 : PySem.W.keepIn K (.ref f2) = true)
    {f3 : Addr} {od3 an3 : Option Addr} {sl3 : Array (Option Value)} {oc3 kV3 dc3 pm3 cd3 ct3 : Value} (a3 : PySem.W.nsIn K mainGlobals "is_mark" = some (some (.ref f3))) (l3 : K.lookup f3 = some ⟨oc3, od3, .func (PySem.W.fnOf "is_mark" "is_mark" (defArgs s_is_mark) (defBody s_is_mark) (defScope s_is_mark) .none kV3 dc3 pm3 an3 cd3 ct3), sl3⟩) (c3 : PySem.W.codeIn K cd3 "is_mark" = true) (k3 : PySem.W.keepIn K (.ref f3) = true)
    {f4 : Addr} {od4 an4 : Option Addr} {sl4 : Array (Option Value)} {oc4 kV4 dc4 pm4 cd4 ct4 : Value} (a4 : PySem.W.nsIn K mainGlobals "_law_dice" = some (some (.ref f4))) (l4 : K.lookup f4 = some ⟨oc4, od4, .func (PySem.W.fnOf "_law_dice" "_law_dice" (defArgs s__law_dice) (defBody s__law_dice) (defScope s__law_dice) .none kV4 dc4 pm4 an4 cd4 ct4), sl4⟩) (c4 : PySem.W.codeIn K cd4 "_law_dice" = true) (k4 : PySem.W.keepIn K (.ref f4) = true)
    {f5 : Addr} {od5 an5 : Option Addr} {sl5 : Array (Option Value)} {oc5 kV5 dc5 pm5 cd5 ct5 : Value} (a5 : PySem.W.nsIn K mainGlobals "_law_roll" = some (some (.ref f5))) (l5 : K.lookup f5 = some ⟨oc5, od5, .func (PySem.W.fnOf "_law_roll" "_law_roll" (defArgs s__law_roll) (defBody s__law_roll) (defScope s__law_roll) .none kV5 dc5 pm5 an5 cd5 ct5), sl5⟩) (c5 : PySem.W.codeIn K cd5 "_law_roll" = true) (k5 : PySem.W.keepIn K (.ref f5) = true)
    {f6 : Addr} {od6 an6 : Option Addr} {sl6 : Array (Option Value)} {oc6 kV6 dc6 pm6 cd6 ct6 : Value} (a6 : PySem.W.nsIn K mainGlobals "_law_one_of" = some (some (.ref f6))) (l6 : K.lookup f6 = some ⟨oc6, od6, .func (PySem.W.fnOf "_law_one_of" "_law_one_of" (defArgs s__law_one_of) (defBody s__law_one_of) (defScope s__law_one_of) .none kV6 dc6 pm6 an6 cd6 ct6), sl6⟩) (c6 : PySem.W.codeIn K cd6 "_law_one_of" = true) (k6 : PySem.W.keepIn K (.ref f6) = true)
    {f7 : Addr} {od7 an7 : Option Addr} {sl7 : Array (Option Value)} {oc7 kV7 dc7 pm7 cd7 ct7 : Value} (a7 : PySem.W.nsIn K mainGlobals "_law_right" = some (some (.ref f7))) (l7 : K.lookup f7 = some ⟨oc7, od7, .func (PySem.W.fnOf "_law_right" "_law_right" (defArgs s__law_right) (defBody s__law_right) (defScope s__law_right) .none kV7 dc7 pm7 an7 cd7 ct7), sl7⟩) (c7 : PySem.W.codeIn K cd7 "_law_right" = true) (k7 : PySem.W.keepIn K (.ref f7) = true)
    {f8 : Addr} {od8 an8 : Option Addr} {sl8 : Array (Option Value)} {oc8 kV8 dc8 pm8 cd8 ct8 : Value} (a8 : PySem.W.nsIn K mainGlobals "law" = some (some (.ref f8))) (l8 : K.lookup f8 = some ⟨oc8, od8, .func (PySem.W.fnOf "law" "law" (defArgs s_law) (defBody s_law) (defScope s_law) .none kV8 dc8 pm8 an8 cd8 ct8), sl8⟩) (c8 : PySem.W.codeIn K cd8 "law" = true) (k8 : PySem.W.keepIn K (.ref f8) = true)
    (z_len : PySem.W.nsIn K mainGlobals "len" = some none)
    (z_isinstance : PySem.W.nsIn K mainGlobals "isinstance" = some none)
    (z_str : PySem.W.nsIn K mainGlobals "str" = some none)
    (z_int : PySem.W.nsIn K mainGlobals "int" = some none)
    (z_bool : PySem.W.nsIn K mainGlobals "bool" = some none)
    (z_all : PySem.W.nsIn K mainGlobals "all" = some none)
    (z_abs : PySem.W.nsIn K mainGlobals "abs" = some none)
    (z_max : PySem.W.nsIn K mainGlobals "max" = some none)
    (z_min : PySem.W.nsIn K mainGlobals "min" = some none)
    (z_range : PySem.W.nsIn K mainGlobals "range" = some none)
    (z_repr : PySem.W.nsIn K mainGlobals "repr" = some none)
    {u_LETTERS : Value} (y_LETTERS : PySem.W.nsIn K mainGlobals "LETTERS" = some (some u_LETTERS)) (r_LETTERS : RelV (.str "abcdefghijklmnopqrstuvwxyz") u_LETTERS)
    {u_LONGEST : Value} (y_LONGEST : PySem.W.nsIn K mainGlobals "LONGEST" = some (some u_LONGEST)) (r_LONGEST : RelV (.int 8) u_LONGEST) :
    ∃ fd : FuncData, (∀ (s : Shared) (v : Value), BindsTo s fd ⟨[v], []⟩ [("_law_script", v)]) ∧ ∀ base : Heap, K.In base → base.Ns mainGlobals mg → FnOk l.prog w K mg base CX0 4 fa fd ["_law_script"] (spD K PreLaw) := by
  have e := hfa.symm.trans (PySem.W.mg_of X G a8)
  cases e
  have D_is_name : Df K mg "is_name" s_is_name ["value"] := ⟨_, _, fun_mk (st := s_is_name) l1 c1 k1, (fun_mk (st := s_is_name) l1 c1 k1).binds fun _ _ _ _ _ _ us hl => match us, hl with | [_], _ => rfl, PySem.W.mg_of X G a1⟩
  have D_is_integer : Df K mg "is_integer" s_is_integer ["value"] := ⟨_, _, fun_mk (st := s_is_integer) l2 c2 k2, (fun_mk (st := s_is_integer) l2 c2 k2).binds fun _ _ _ _ _ _ us hl => match us, hl with | [_], _ => rfl, PySem.W.mg_of X G a2⟩
  have D_is_mark : Df K mg "is_mark" s_is_mark ["value"] := ⟨_, _, fun_mk (st := s_is_mark) l3 c3 k3, (fun_mk (st := s_is_mark) l3 c3 k3).binds fun _ _ _ _ _ _ us hl => match us, hl with | [_], _ => rfl, PySem.W.mg_of X G a3⟩
  have D__law_dice : Df K mg "_law_dice" s__law_dice ["_law_script", "_law_at"] := ⟨_, _, fun_mk (st := s__law_dice) l4 c4 k4, (fun_mk (st := s__law_dice) l4 c4 k4).binds fun _ _ _ _ _ _ us hl => match us, hl with | [_, _], _ => rfl, PySem.W.mg_of X G a4⟩
  have D__law_roll : Df K mg "_law_roll" s__law_roll ["_law_dice_here", "_law_total"] := ⟨_, _, fun_mk (st := s__law_roll) l5 c5 k5, (fun_mk (st := s__law_roll) l5 c5 k5).binds fun _ _ _ _ _ _ us hl => match us, hl with | [_, _], _ => rfl, PySem.W.mg_of X G a5⟩
  have D__law_one_of : Df K mg "_law_one_of" s__law_one_of ["_law_dice_here", "_law_items"] := ⟨_, _, fun_mk (st := s__law_one_of) l6 c6 k6, (fun_mk (st := s__law_one_of) l6 c6 k6).binds fun _ _ _ _ _ _ us hl => match us, hl with | [_, _], _ => rfl, PySem.W.mg_of X G a6⟩
  have D__law_right : Df K mg "_law_right" s__law_right ["_law_dice_here"] := ⟨_, _, fun_mk (st := s__law_right) l7 c7 k7, (fun_mk (st := s__law_right) l7 c7 k7).binds fun _ _ _ _ _ _ us hl => match us, hl with | [_], _ => rfl, PySem.W.mg_of X G a7⟩
  have D_law : Df K mg "law" s_law ["_law_script"] := ⟨_, _, fun_mk (st := s_law) l8 c8 k8, (fun_mk (st := s_law) l8 c8 k8).binds fun _ _ _ _ _ _ us hl => match us, hl with | [_], _ => rfl, PySem.W.mg_of X G a8⟩
  have T : Txt mg := ⟨PySem.W.mg_none_of X G z_len, PySem.W.mg_none_of X G z_isinstance, PySem.W.mg_none_of X G z_str, PySem.W.mg_none_of X G z_int, PySem.W.mg_none_of X G z_bool, PySem.W.mg_none_of X G z_all, PySem.W.mg_none_of X G z_abs, PySem.W.mg_none_of X G z_max, PySem.W.mg_none_of X G z_min, PySem.W.mg_none_of X G z_range, PySem.W.mg_none_of X G z_repr, ⟨_, PySem.W.mg_of X G y_LETTERS, r_LETTERS⟩, ⟨_, PySem.W.mg_of X G y_LONGEST, r_LONGEST⟩⟩
  refine ⟨PySem.W.fnOf "law" "law" (defArgs s_law) (defBody s_law) (defScope s_law) .none kV8 dc8 pm8 an8 cd8 ct8, fun s v => .of_eq rfl, fun base _ _ => ?_⟩
  have g1 : Gf l.prog w K mg base "is_integer" 1 ["value"] (Pre1 kinds isInt) := gf_is_integer T D_is_integer
  have g2 := gf_is_mark T D_is_mark g1
  have g3 : Gf l.prog w K mg base "is_name" 1 ["value"] (Pre1 short isName) := gf_is_name T D_is_name
  have g4 : Gf l.prog w K mg base "_law_dice" 1 ["_law_script", "_law_at"] PreDice := gf_dice T D__law_dice
  have g5 : Gf l.prog w K mg base "_law_roll" 1 ["_law_dice_here", "_law_total"] PreRoll := gf_roll T D__law_roll
  have g6 := gf_one_of T D__law_one_of g5
  have g7 := gf_right T D__law_right g5 g6 g2 g3
  exact (gf_law T D_law g4 g7 g2 g3).at hfa ⟨_, _, _, l8⟩
theorem dats_ints {K : PySem.W.Frag} {H : Hp} : ∀ {ns : List Int}, Dats K H (ns.map .int) (ns.map V.int)
  | [] => rfl
  | n :: ns => ⟨.int n, _, rfl, rfl, dats_ints⟩
theorem walk {l : PySem.W.OpenLaw} {q : Program} {loose : List Str} {XP : (Str → Option Value) → Heap → Prop} {YP : World → Heap → Prop} {d : DefRec} {K : Params → PySem.W.Frag} (hn : l.most = some 63) (hdf : d.params.defaults = [])
    (hY : ∀ (w : World) (h : Heap), YP w h → (K w.params).In h)
    (F : ∀ (w : World) (mg : Str → Option Value) (fa : Addr) (h : Heap), (K w.params).In h → h.Ns mainGlobals mg → mg d.name = some (.ref fa) →
      ∃ fd : FuncData, (∀ (s : Shared) (u : Value), BindsTo s fd ⟨[u], []⟩ [("_law_script", u)]) ∧ ∀ base : Heap, (K w.params).In base → base.Ns mainGlobals mg → FnOk l.prog w (K w.params) mg base CX0 4 fa fd ["_law_script"] (spD (K w.params) PreLaw)) :
    PySem.W.WalkO q loose XP YP l.row.toRowW d [] (fun f vs => PySem.call f vs) :=
  L2.walk_of (n := 63) (k := 4) (x := "_law_script") (CX := fun _ => CX0) (sp := fun w => spD (K w.params) PreLaw) hn (by decide) hdf ⟨rfl, by decide, by decide⟩ hY F
    (fun w H a ns hl _ hS => ⟨H, [.sq (ns.map .int)], fun d => d = .bl true, Same.refl H, ⟨.ref a, [], rfl, ⟨a, _, rfl, hS, dats_ints⟩, rfl⟩, ⟨ns, rfl, hl, rfl⟩, fun v d G' H' _ hd hr => by subst hr; exact hd⟩) fun _ _ _ _ _ z => z
end Nv
open PySem PySem.W PyProof.Rows
set_option maxRecDepth 100000 in
set_option maxHeartbeats 0 in
theorem PySem.Challenge.cw_namedabove_k01_names_and_marks_holds : PySem.Challenge.rw_namedabove_k01_names_and_marks.Holds := by
  w_on; o_law; k_head; (case hw => w_witness2)
  k_fill
  refine Nv.walk (l := PySem.Challenge.rw_namedabove_k01_names_and_marks) rfl rfl (fun w h Y => PySem.W.kIn_of Y) ?F
  case F =>
    intro w mg fa h KX G hmg
    refine' Nv.all_mk KX G hmg ?a1 ?l1 ?c1 ?k1 ?a2 ?l2 ?c2 ?k2 ?a3 ?l3 ?c3 ?k3 ?a4 ?l4 ?c4 ?k4 ?a5 ?l5 ?c5 ?k5 ?a6 ?l6 ?c6 ?k6 ?a7 ?l7 ?c7 ?k7 ?a8 ?l8 ?c8 ?k8 ?z_len ?z_isinstance ?z_str ?z_int ?z_bool ?z_all ?z_abs ?z_max ?z_min ?z_range ?z_repr ?y_LETTERS ?r_LETTERS ?y_LONGEST ?r_LONGEST
    (case a1 => k_is)
    (case l1 => k_is)
    (case c1 => k_is)
    (case k1 => k_is)
    (case a2 => k_is)
    (case l2 => k_is)
    (case c2 => k_is)
    (case k2 => k_is)
    (case a3 => k_is)
    (case l3 => k_is)
    (case c3 => k_is)
    (case k3 => k_is)
    (case a4 => k_is)
    (case l4 => k_is)
    (case c4 => k_is)
    (case k4 => k_is)
    (case a5 => k_is)
    (case l5 => k_is)
    (case c5 => k_is)
    (case k5 => k_is)
    (case a6 => k_is)
    (case l6 => k_is)
    (case c6 => k_is)
    (case k6 => k_is)
    (case a7 => k_is)
    (case l7 => k_is)
    (case c7 => k_is)
    (case k7 => k_is)
    (case a8 => k_is)
    (case l8 => k_is)
    (case c8 => k_is)
    (case k8 => k_is)
    (case z_len => k_is)
    (case z_isinstance => k_is)
    (case z_str => k_is)
    (case z_int => k_is)
    (case z_bool => k_is)
    (case z_all => k_is)
    (case z_abs => k_is)
    (case z_max => k_is)
    (case z_min => k_is)
    (case z_range => k_is)
    (case z_repr => k_is)
    (case y_LETTERS => k_is)
    (case r_LETTERS => exact ⟨_, rfl⟩)
    (case y_LONGEST => k_is)
    (case r_LONGEST => exact ⟨_, rfl⟩)
#print axioms PySem.Challenge.cw_namedabove_k01_names_and_marks_holds
