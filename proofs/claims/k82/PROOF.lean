import PyProof.Rows.All
import PySem.Challenge.RW_wholesayings_k82_whole_values_that_are_b
import HandS.ForMost
import HandS.ForExc
import HandS.IsInst
import HandS.TupAny
import HandS.Gcd
import HandS.Walk
import HandS.Deep
import HandS.Flow
import HandS.Style
import HandS.TupMul
import HandS.More
import KE.KRevSl
import HandS.Zip
import HandS.SortInts
import HandS.SetBool
import HandS.Strs
import HandS.SetFor
import KE.KMathG
set_option Elab.async false
set_option linter.all false
set_option maxRecDepth 100000
namespace Pu
open PySem PySem.Spec PyProof.Rows L2

abbrev D := PyData
abbrev Fr := PySem.W.Frag
def Le (F G : Hp) : Prop := ∀ a o, F a = some o → G a = some o
theorem Le.refl (F : Hp) : Le F F := fun _ _ h => h
theorem Le.trans {F G H : Hp} (a : Le F G) (b : Le G H) : Le F H := fun x o h => b x o (a x o h)
theorem Le.new {F : Hp} {p : Addr} {o : HO} (h : F p = none) : Le F (upd F p o) := fun a u e => by
  rw [upd_ne (ne_of_none e h)]; exact e
theorem Le.rd {F G : Hp} {a : Addr} {u : HO} (e : Le F G) (h : Rd F a u) : Rd G a u := by
  rcases h with h | ⟨o, h⟩
  · exact .inl (e _ _ h)
  · exact .inr ⟨o, e _ _ h⟩
theorem Le.sql {K : Fr} {F G : Hp} {a : Addr} {xs : List V} (e : Le F G) (h : SqL K F a xs) : SqL K G a xs := by
  rcases h with h | h
  · exact .inl (e.rd h)
  · exact .inr h
theorem Le.sqt {K : Fr} {F G : Hp} {a : Addr} {xs : List V} (e : Le F G) (h : SqT K F a xs) : SqT K G a xs := by
  rcases h with h | h
  · exact .inl (e.rd h)
  · exact .inr h
mutual
theorem dp_mono {K : Fr} {F G : Hp} (e : Le F G) : ∀ {v : V} {d : D}, Dp K F v d → Dp K G v d
  | _, _, .non => .non
  | _, _, .bl b => .bl b
  | _, _, .int i => .int i
  | _, _, .str x => .str x
  | _, _, .lst h a => .lst (e.sql h) (dpa_mono e a)
  | _, _, .tup h a => .tup (e.sqt h) (dpa_mono e a)
theorem dpa_mono {K : Fr} {F G : Hp} (e : Le F G) : ∀ {vs : List V} {ds : List D}, DpAll K F vs ds → DpAll K G vs ds
  | _, _, .nil => .nil
  | _, _, .cons h t => .cons (dp_mono e h) (dpa_mono e t)
end

/-- what is known of a slot -/
inductive Sl where
  | no
  | fr (d : D)
  | ow (d : D)
  | ln (d : D)
abbrev En := List Sl
inductive Rv where
  | fr (d : D)
  | nw (d : D)
def Rv.d : Rv → D
  | .fr d => d
  | .nw d => d
/-- a's content, that may change -/
def Mu (K : Fr) (F H : Hp) (a : Addr) (d : D) : Prop := F a = none ∧ ∃ ds xs, d = .list ds ∧ H a = some (.lst xs) ∧ DpAll K F xs ds
def Sl.own : Sl → Bool
  | .ow _ => true
  | .ln _ => true
  | _ => false
/-- where one stands: the heap at the start, what is held, what is lent (by slots) -/
structure Ct where
  H0 : Hp
  Pn : Hp
  A : Nat → Option Addr
def SlOk (K : Fr) (C : Ct) (F H : Hp) (i : Nat) (v : Option (Option V)) : Sl → Prop
  | .no => True
  | .fr d => ∃ x, v = some (some x) ∧ Dp K F x d
  | .ow d => ∃ a, v = some (some (.ref a)) ∧ C.H0 a = none ∧ Mu K F H a d
  | .ln d => ∃ a, v = some (some (.ref a)) ∧ C.A i = some a ∧ Mu K F H a d
structure Rel (K : Fr) (C : Ct) (F H : Hp) (σ : L2.St) (Γ : En) : Prop where
  sub : Le F H
  len : σ.length = Γ.length
  ok : ∀ (i : Nat) (s : Sl), Γ[i]? = some s → SlOk K C F H i σ[i]? s
  apart : ∀ (i j : Nat) (s t : Sl) (a : Addr), i ≠ j → Γ[i]? = some s → Γ[j]? = some t → s.own = true → t.own = true → σ[i]? = some (some (.ref a)) → σ[j]? ≠ some (some (.ref a))
  keep : Le C.Pn H
  hid : ∀ a o, C.Pn a = some o → F a = none
  pin : ∀ (i : Nat) (s : Sl) (a : Addr), Γ[i]? = some s → s.own = true → σ[i]? = some (some (.ref a)) → C.Pn a = none
  there : ∀ a o, C.H0 a = some o → ∃ u, H a = some u
def Got (K : Fr) (C : Ct) (F H : Hp) (σ : L2.St) (Γ : En) (v : V) : Rv → Prop
  | .fr d => Dp K F v d
  | .nw d => ∃ a, v = .ref a ∧ C.H0 a = none ∧ C.Pn a = none ∧ Mu K F H a d ∧ ∀ (i : Nat) (s : Sl), Γ[i]? = some s → s.own = true → σ[i]? ≠ some (some (.ref a))

/-! readings -/
abbrev CE := En → Option (D × En)
abbrev CN := En → Option (Rv × En)
abbrev CT := En → Option (Bool × En)
abbrev CA := En → Option (List D × En)
inductive Fl where
  | nx | bk | ct
  | rt (r : Rv)
abbrev CS := En → Option (Fl × En)
abbrev CG := D → En → Option En
abbrev CI := En → Option (List D × En)

section
variable (K : Fr)
def tE (c : CE) : TE := fun σ H Q => ∃ C F Γ d Γ', Rel K C F H σ Γ ∧ c Γ = some (d, Γ') ∧ ∀ F' H' v, Le F F' → Rel K C F' H' σ Γ' → Dp K F' v d → Q v H'
def tN (c : CN) : TE := fun σ H Q => ∃ C F Γ r Γ', Rel K C F H σ Γ ∧ c Γ = some (r, Γ') ∧ ∀ F' H' v, Le F F' → Rel K C F' H' σ Γ' → Got K C F' H' σ Γ' v r → Q v H'
def tT (c : CT) : TT := fun σ H Q => ∃ C F Γ b Γ', Rel K C F H σ Γ ∧ c Γ = some (b, Γ') ∧ ∀ F' H', Le F F' → Rel K C F' H' σ Γ' → Q b H'
def tA (c : CA) : TA := fun σ H Q => ∃ C F Γ ds Γ', Rel K C F H σ Γ ∧ c Γ = some (ds, Γ') ∧ ∀ F' H' vs, Le F F' → Rel K C F' H' σ Γ' → DpAll K F' vs ds → Q vs H'
def Post (C : Ct) (De : Ends) (F : Hp) (H : Hp) (σ : L2.St) (Γ : En) : Fl → Prop
  | .nx => De.nx σ H
  | .bk => De.bk σ H
  | .ct => De.ct σ H
  | .rt r => ∀ v, Got K C F H σ Γ v r → De.rt v H
def tS (c : CS) : TS := fun De σ H => ∃ C F Γ fl Γ', Rel K C F H σ Γ ∧ c Γ = some (fl, Γ') ∧ ∀ F' H' σ', Le F F' → Rel K C F' H' σ' Γ' → Post K C De F' H' σ' Γ' fl
/-- all but the slots ts are as they were -/
def Same (ts : List Nat) (σ σ' : L2.St) : Prop := σ'.length = σ.length ∧ ∀ j, j ∉ ts → σ'[j]? = σ[j]?
def tG (ts : List Nat) (c : CG) : TG := fun v σ H Q => ∃ C F Γ d Γ', Rel K C F H σ Γ ∧ Dp K F v d ∧ c d Γ = some Γ' ∧ ∀ F' H' σ', Le F F' → Rel K C F' H' σ' Γ' → Same ts σ σ' → Q σ' H'
/-- what a walk yields: the i-th datum, old or a new tuple -/
def YD (F : Hp) (ds : List D) (i : Nat) (H : Hp) (x : V) (H' : Hp) : Prop :=
  (H' = H ∧ ∃ d, ds[i]? = some d ∧ Dp K F x d) ∨ ∃ T vs es, x = .ref T ∧ H T = none ∧ H' = upd H T (.tup vs) ∧ ds[i]? = some (.tuple es) ∧ DpAll K F vs es
def WalkD (F : Hp) (J : It) (ds : List D) : Prop := Walk J ds.length (fun H => Le F H) (YD K F ds)
def tI (c : CI) : TI := fun σ H R => ∃ C F Γ ds Γ', Rel K C F H σ Γ ∧ c Γ = some (ds, Γ') ∧ ∀ F' H' J, Le F F' → Rel K C F' H' σ Γ' → WalkD K F' J ds → R J H'
end
abbrev E (X : Cx) (e : Expr) (c : CE) : Prop := PE X e (tE X.K c)
abbrev N (X : Cx) (e : Expr) (c : CN) : Prop := PE X e (tN X.K c)
abbrev T (X : Cx) (e : Expr) (c : CT) : Prop := PT X e (tT X.K c)
abbrev TW (X : Cx) (e : Expr) (c : CT) : Prop := PW X e (tT X.K c)
abbrev Ar (X : Cx) (es : List Expr) (c : CA) : Prop := PA X es (tA X.K c)
abbrev S (X : Cx) (st : Stmt) (c : CS) : Prop := PS X st (tS X.K c)
abbrev B (X : Cx) (sts : List Stmt) (c : CS) : Prop := PSs X sts (tS X.K c)
abbrev G (X : Cx) (e : Expr) (ts : List Nat) (c : CG) : Prop := PG X e (tG X.K ts c)
abbrev I (X : Cx) (tg e : Expr) (c : CI) : Prop := PI X tg e (tI X.K c)

theorem PE.imp {X : Cx} {e : Expr} {t u : TE} (h : PE X e t) (i : ∀ σ H Q, u σ H Q → t σ H Q) : PE X e u := ⟨fun pins s σ H Q I q => h.run pins s σ H Q I (i _ _ _ q)⟩
theorem PT.imp {X : Cx} {e : Expr} {t u : TT} (h : PT X e t) (i : ∀ σ H Q, u σ H Q → t σ H Q) : PT X e u := ⟨fun pins s σ H Q I q => h.run pins s σ H Q I (i _ _ _ q)⟩
theorem PW.imp {X : Cx} {e : Expr} {t u : TT} (h : PW X e t) (i : ∀ σ H Q, u σ H Q → t σ H Q) : PW X e u := ⟨fun w pins s σ H Q I q => h.run w pins s σ H Q I (i _ _ _ q)⟩
theorem PA.imp {X : Cx} {es : List Expr} {t u : TA} (h : PA X es t) (i : ∀ σ H Q, u σ H Q → t σ H Q) : PA X es u := ⟨fun p pins s σ H Q I q => h.run p pins s σ H Q I (i _ _ _ q)⟩
theorem PS.imp {X : Cx} {st : Stmt} {t u : TS} (h : PS X st t) (i : ∀ D σ H, u D σ H → t D σ H) : PS X st u := ⟨fun pins s σ H D I q => h.run pins s σ H D I (i _ _ _ q)⟩
theorem PSs.imp {X : Cx} {st : List Stmt} {t u : TS} (h : PSs X st t) (i : ∀ D σ H, u D σ H → t D σ H) : PSs X st u := ⟨fun pins s σ H D I q => h.run pins s σ H D I (i _ _ _ q)⟩

/-! ### the heap grows -/
structure Grow (F H F' H' : Hp) : Prop where
  f : Le F F'
  h : Le H H'
  s : Le F' H'
  o : ∀ a o, F a = none → H a = some o → F' a = none
theorem Grow.refl {F H : Hp} (h : Le F H) : Grow F H F H := ⟨Le.refl _, Le.refl _, h, fun _ _ e _ => e⟩
theorem Grow.trans {F H F1 H1 F2 H2 : Hp} (a : Grow F H F1 H1) (b : Grow F1 H1 F2 H2) : Grow F H F2 H2 :=
  ⟨a.f.trans b.f, a.h.trans b.h, b.s, fun x o e1 e2 => b.o x o (a.o x o e1 e2) (a.h x o e2)⟩
theorem Grow.new {F H : Hp} (s : Le F H) {p : Addr} {o : HO} (h : H p = none) : Grow F H (upd F p o) (upd H p o) := by
  have fp : F p = none := by
    cases e : F p with
    | none => rfl
    | some u => rw [s p u e] at h; cases h
  refine ⟨Le.new fp, Le.new h, fun a u e => ?_, fun a u e1 e2 => ?_⟩
  · by_cases ha : a = p
    · subst ha; rw [upd_same] at e ⊢; exact e
    · rw [upd_ne ha] at e ⊢; exact s a u e
  · rw [upd_ne (ne_of_none e2 h)]; exact e1
theorem Grow.raw {F H : Hp} (s : Le F H) {p : Addr} {o : HO} (h : H p = none) : Grow F H F (upd H p o) :=
  ⟨Le.refl _, Le.new h, s.trans (Le.new h), fun _ _ e _ => e⟩
section
variable {K : Fr} {C : Ct} {F H F' H' : Hp} {σ : L2.St} {Γ : En}
theorem Mu.grow {a : Addr} {d : D} (g : Grow F H F' H') (m : Mu K F H a d) : Mu K F' H' a d := by
  obtain ⟨m1, ds, xs, e, h, q⟩ := m
  exact ⟨g.o a _ m1 h, ds, xs, e, g.h _ _ h, dpa_mono g.f q⟩
theorem SlOk.grow (g : Grow F H F' H') {i : Nat} {v : Option (Option V)} : ∀ {s : Sl}, SlOk K C F H i v s → SlOk K C F' H' i v s
  | .no, _ => trivial
  | .fr d, ⟨x, e, h⟩ => ⟨x, e, dp_mono g.f h⟩
  | .ow d, ⟨a, e, h, m⟩ => ⟨a, e, h, m.grow g⟩
  | .ln d, ⟨a, e, h, m⟩ => ⟨a, e, h, m.grow g⟩
theorem Rel.grow (r : Rel K C F H σ Γ) (g : Grow F H F' H') : Rel K C F' H' σ Γ :=
  ⟨g.s, r.len, fun i s e => (r.ok i s e).grow g, r.apart, r.keep.trans g.h, fun a o e => g.o a o (r.hid a o e) (r.keep a o e), r.pin, fun a o e => let ⟨u, h⟩ := r.there a o e; ⟨u, g.h a u h⟩⟩
theorem Got.grow {v : V} (g : Grow F H F' H') : ∀ {r : Rv}, Got K C F H σ Γ v r → Got K C F' H' σ Γ v r
  | .fr _, h => dp_mono g.f h
  | .nw _, ⟨a, e, h, h2, m, n⟩ => ⟨a, e, h, h2, m.grow g, n⟩
/-- what is new and no slot's may be frozen -/
theorem Rel.freeze (r : Rel K C F H σ Γ) {a : Addr} {u : HO} (h : H a = some u) (n : ∀ (i : Nat) (s : Sl), Γ[i]? = some s → s.own = true → σ[i]? ≠ some (some (.ref a))) (hF : F a = none) (hP : C.Pn a = none) :
    Rel K C (upd F a u) H σ Γ := by
  refine ⟨fun b o e => ?_, r.len, fun i s e => ?_, r.apart, r.keep, fun b o e => by rw [upd_ne (fun z => by rw [z, hP] at e; cases e)]; exact r.hid b o e, r.pin, r.there⟩
  · by_cases hb : b = a
    · subst hb; rw [upd_same] at e; rw [h]; exact e
    · rw [upd_ne hb] at e; exact r.sub b o e
  · have q := r.ok i s e
    cases s with
    | no => trivial
    | fr d => obtain ⟨x, e1, e2⟩ := q; exact ⟨x, e1, dp_mono (Le.new hF) e2⟩
    | ow d =>
      obtain ⟨b, e1, e2, m1, ds, xs, m2, m3, m4⟩ := q
      have hb : b ≠ a := fun z => n i _ e rfl (by rw [e1, z])
      exact ⟨b, e1, e2, by rw [upd_ne hb]; exact m1, ds, xs, m2, m3, dpa_mono (Le.new hF) m4⟩
    | ln d =>
      obtain ⟨b, e1, e2, m1, ds, xs, m2, m3, m4⟩ := q
      have hb : b ≠ a := fun z => n i _ e rfl (by rw [e1, z])
      exact ⟨b, e1, e2, by rw [upd_ne hb]; exact m1, ds, xs, m2, m3, dpa_mono (Le.new hF) m4⟩
/-- a got value as frozen -/
theorem Got.frz {v : V} {r : Rv} (R : Rel K C F H σ Γ) (g : Got K C F H σ Γ v r) : ∃ F', Le F F' ∧ Rel K C F' H σ Γ ∧ Dp K F' v r.d := by
  cases r with
  | fr d => exact ⟨F, Le.refl _, R, g⟩
  | nw d =>
    obtain ⟨a, rfl, h0, hP, ⟨m1, ds, xs, rfl, m3, m4⟩, n⟩ := g
    exact ⟨upd F a (.lst xs), Le.new m1, R.freeze m3 n m1 hP, .lst (SqL.of upd_same) (dpa_mono (Le.new m1) m4)⟩
theorem get_set_eq {α : Type} {l : List α} {i : Nat} {x : α} (h : i < l.length) : (l.set i x)[i]? = some x := by
  rw [List.getElem?_set_self h]
theorem lt_of_get {α : Type} {l : List α} {i : Nat} {x : α} (h : l[i]? = some x) : i < l.length := (List.getElem?_eq_some_iff.mp h).1
/-- a slot forgets that it owns -/
theorem Rel.weak (r : Rel K C F H σ Γ) {i : Nat} {s : Sl} (hs : s.own = false) (q : SlOk K C F H i σ[i]? s) : Rel K C F H σ (Γ.set i s) := by
  refine ⟨r.sub, by rw [List.length_set]; exact r.len, fun j t e => ?_, fun j k t u a hj e1 e2 o1 o2 => ?_, r.keep, r.hid, fun j u a e1 o1 e2 => ?_, r.there⟩
  · rw [List.getElem?_set] at e
    split at e
    · rename_i hij; subst hij
      split at e
      · cases e; exact q
      · cases e
    · exact r.ok j t e
  · rw [List.getElem?_set] at e1 e2
    split at e1
    · split at e1
      · cases e1; rw [hs] at o1; cases o1
      · cases e1
    · split at e2
      · split at e2
        · cases e2; rw [hs] at o2; cases o2
        · cases e2
      · exact r.apart j k t u a hj e1 e2 o1 o2
  · rw [List.getElem?_set] at e1
    split at e1
    · split at e1
      · cases e1; rw [hs] at o1; cases o1
      · cases e1
    · exact r.pin j u a e1 o1 e2
/-- a slot is stored, frozen -/
theorem Rel.store (r : Rel K C F H σ Γ) {i : Nat} {s t : Sl} {x : V} (ht : Γ[i]? = some t) (hl : ∀ d, t ≠ .ln d) (hs : s.own = false) (q : SlOk K C F H i (some (some x)) s) : Rel K C F H (σ.set i (some x)) (Γ.set i s) := by
  have hi : i < σ.length := by rw [r.len]; exact lt_of_get ht
  refine ⟨r.sub, by rw [List.length_set, List.length_set]; exact r.len, fun j u e => ?_, fun j k u w a hj e1 e2 o1 o2 => ?_, r.keep, r.hid, fun j u a e1 o1 e2 => ?_, r.there⟩
  · by_cases hij : i = j
    · subst hij
      rw [get_set_eq (by rw [← r.len]; exact hi)] at e
      cases e
      rw [get_set_eq hi]
      exact q
    · rw [List.getElem?_set_ne hij] at e ⊢
      exact r.ok j u e
  · have hik : j ≠ i := fun z => by
      subst z
      rw [get_set_eq (by rw [← r.len]; exact hi)] at e1
      cases e1; rw [hs] at o1; cases o1
    have hik' : k ≠ i := fun z => by
      subst z
      rw [get_set_eq (by rw [← r.len]; exact hi)] at e2
      cases e2; rw [hs] at o2; cases o2
    rw [List.getElem?_set_ne (Ne.symm hik)] at e1 ⊢
    rw [List.getElem?_set_ne (Ne.symm hik')] at e2 ⊢
    exact r.apart j k u w a hj e1 e2 o1 o2
  · have hik : j ≠ i := fun z => by
      subst z
      rw [get_set_eq (by rw [← r.len]; exact hi)] at e1
      cases e1; rw [hs] at o1; cases o1
    rw [List.getElem?_set_ne (Ne.symm hik)] at e1 e2
    exact r.pin j u a e1 o1 e2
/-- a slot is stored, its own -/
theorem Rel.storeOw (r : Rel K C F H σ Γ) {i : Nat} {t : Sl} {d : D} {a : Addr} (ht : Γ[i]? = some t) (hl : ∀ d, t ≠ .ln d) (h0 : C.H0 a = none) (hP : C.Pn a = none) (m : Mu K F H a d)
    (n : ∀ (i : Nat) (s : Sl), Γ[i]? = some s → s.own = true → σ[i]? ≠ some (some (.ref a))) : Rel K C F H (σ.set i (some (.ref a))) (Γ.set i (.ow d)) := by
  have hi : i < σ.length := by rw [r.len]; exact lt_of_get ht
  have hi' : i < Γ.length := lt_of_get ht
  refine ⟨r.sub, by rw [List.length_set, List.length_set]; exact r.len, fun j u e => ?_, fun j k u w b hj e1 e2 o1 o2 => ?_, r.keep, r.hid, fun j u b e1 o1 e2 => ?_, r.there⟩
  · by_cases hij : i = j
    · subst hij
      rw [get_set_eq hi'] at e
      cases e
      rw [get_set_eq hi]
      exact ⟨a, rfl, h0, m⟩
    · rw [List.getElem?_set_ne hij] at e ⊢
      exact r.ok j u e
  · by_cases hij : i = j
    · subst hij
      have hik : i ≠ k := hj
      rw [get_set_eq hi'] at e1
      rw [List.getElem?_set_ne hik] at e2 ⊢
      rw [get_set_eq hi]
      rintro z; cases z
      exact n k w e2 o2
    · rw [List.getElem?_set_ne hij] at e1 ⊢
      by_cases hik : i = k
      · subst hik
        rw [get_set_eq hi]
        rintro z q; cases q
        exact n j u e1 o1 z
      · rw [List.getElem?_set_ne hik] at e2 ⊢
        exact r.apart j k u w b hj e1 e2 o1 o2
  · by_cases hij : i = j
    · subst hij
      rw [get_set_eq hi] at e2
      cases e2; exact hP
    · rw [List.getElem?_set_ne hij] at e1 e2
      exact r.pin j u b e1 o1 e2
/-- an own object is written -/
theorem Rel.write (r : Rel K C F H σ Γ) {i : Nat} {s : Sl} {a : Addr} {ds : List D} {xs : List V} (hs : Γ[i]? = some s) (own : s.own = true) (hσ : σ[i]? = some (some (.ref a))) (q : DpAll K F xs ds) :
    Rel K C F (upd H a (.lst xs)) σ (Γ.set i (match s with | .ln _ => .ln (.list ds) | _ => .ow (.list ds))) := by
  have hi : i < Γ.length := lt_of_get hs
  have hF : F a = none := by
    have z := r.ok i s hs
    cases s with
    | no => cases own
    | fr d => cases own
    | ow d => obtain ⟨b, e1, _, m, _⟩ := z; rw [hσ] at e1; cases e1; exact m
    | ln d => obtain ⟨b, e1, _, m, _⟩ := z; rw [hσ] at e1; cases e1; exact m
  have hsub : Le F (upd H a (.lst xs)) := fun b o e => by
    rw [upd_ne (fun z => by rw [z, hF] at e; cases e)]; exact r.sub b o e
  refine ⟨hsub, by rw [List.length_set]; exact r.len, fun j u e => ?_, fun j k u w b hj e1 e2 o1 o2 => ?_, fun b o e => ?_, r.hid, fun j u b e1 o1 e2 => ?_, fun b o e => ?_⟩
  · by_cases hij : i = j
    · subst hij
      rw [get_set_eq hi] at e
      have z := r.ok i s hs
      cases s with
      | no => cases own
      | fr d => cases own
      | ow d => obtain ⟨b, e1, e2, m, _⟩ := z; cases e; rw [hσ] at e1 ⊢; cases e1; exact ⟨a, rfl, e2, hF, ds, xs, rfl, upd_same, q⟩
      | ln d => obtain ⟨b, e1, e2, m, _⟩ := z; cases e; rw [hσ] at e1 ⊢; cases e1; exact ⟨a, rfl, e2, hF, ds, xs, rfl, upd_same, q⟩
    · rw [List.getElem?_set_ne hij] at e
      have z := r.ok j u e
      cases u with
      | no => trivial
      | fr d => exact z
      | ow d =>
        obtain ⟨b, e1, e2, m1, ds', xs', m2, m3, m4⟩ := z
        have hb : b ≠ a := fun z => r.apart i j s _ a hij hs e own rfl hσ (by rw [e1, z])
        exact ⟨b, e1, e2, m1, ds', xs', m2, by rw [upd_ne hb]; exact m3, m4⟩
      | ln d =>
        obtain ⟨b, e1, e2, m1, ds', xs', m2, m3, m4⟩ := z
        have hb : b ≠ a := fun z => r.apart i j s _ a hij hs e own rfl hσ (by rw [e1, z])
        exact ⟨b, e1, e2, m1, ds', xs', m2, by rw [upd_ne hb]; exact m3, m4⟩
  · have c1 : ∃ u', Γ[j]? = some u' ∧ u'.own = true := by
      by_cases hij : i = j
      · subst hij; exact ⟨s, hs, own⟩
      · rw [List.getElem?_set_ne hij] at e1; exact ⟨u, e1, o1⟩
    have c2 : ∃ u', Γ[k]? = some u' ∧ u'.own = true := by
      by_cases hij : i = k
      · subst hij; exact ⟨s, hs, own⟩
      · rw [List.getElem?_set_ne hij] at e2; exact ⟨w, e2, o2⟩
    obtain ⟨u', q1, q2⟩ := c1
    obtain ⟨w', q3, q4⟩ := c2
    exact r.apart j k u' w' b hj q1 q3 q2 q4
  · have hb : b ≠ a := fun z => by rw [z, r.pin i s a hs own hσ] at e; cases e
    rw [upd_ne hb]; exact r.keep b o e
  · have c1 : ∃ u', Γ[j]? = some u' ∧ u'.own = true := by
      by_cases hij : i = j
      · subst hij; exact ⟨s, hs, own⟩
      · rw [List.getElem?_set_ne hij] at e1; exact ⟨u, e1, o1⟩
    obtain ⟨u', q1, q2⟩ := c1
    exact r.pin j u' b q1 q2 e2
  · by_cases hb : b = a
    · exact ⟨_, by rw [hb]; exact upd_same⟩
    · rw [upd_ne hb]; exact r.there b o e
theorem Rel.fresh (r : Rel K C F H σ Γ) {p : Addr} (h : H p = none) : C.H0 p = none := by
  cases e : C.H0 p with
  | none => rfl
  | some o => obtain ⟨u, q⟩ := r.there p o e; rw [h] at q; cases q
theorem Rel.freshP (r : Rel K C F H σ Γ) {p : Addr} (h : H p = none) : C.Pn p = none := by
  cases e : C.Pn p with
  | none => rfl
  | some o => have q := r.keep p o e; rw [h] at q; cases q
theorem Rel.freshF (r : Rel K C F H σ Γ) {p : Addr} (h : H p = none) : F p = none := by
  cases e : F p with
  | none => rfl
  | some o => have q := r.sub p o e; rw [h] at q; cases q
end
end Pu

namespace Pu
open PySem PySem.Spec PyProof.Rows L2

/-! ### operands: an expression, or a slot that is looked at -/
inductive Od where
  | e (c : CE)
  | v (i : Nat)
def Sl.dat : Sl → Option D
  | .no => none
  | .fr d => some d
  | .ow d => some d
  | .ln d => some d
def datAt (Γ : En) (i : Nat) : Option D := Γ[i]?.bind Sl.dat
def Od.run : Od → CE
  | .e c => c
  | .v i => fun Γ => (datAt Γ i).bind fun d => some (d, Γ)
def Od.fin : Od → D → En → Option D
  | .e _, d, _ => some d
  | .v i, _, Γ => datAt Γ i
def Lk (K : Fr) (F H : Hp) (v : V) (d : D) : Prop := Dp K F v d ∨ ∃ a ds xs, v = .ref a ∧ d = .list ds ∧ H a = some (.lst xs) ∧ DpAll K F xs ds
theorem Lk.dp {K : Fr} {F H : Hp} {v : V} {d : D} (s : Le F H) (l : Lk K F H v d) : Dp K H v d := by
  rcases l with l | ⟨a, ds, xs, rfl, rfl, h, q⟩
  · exact dp_mono s l
  · exact .lst (SqL.of h) (dpa_mono s q)
section
variable {K : Fr} {C : Ct} {F H F' H' : Hp} {σ : L2.St} {Γ : En}
theorem Rel.look (r : Rel K C F H σ Γ) {i : Nat} {d : D} (h : datAt Γ i = some d) : ∃ v, σ[i]? = some (some v) ∧ Lk K F H v d := by
  unfold datAt at h
  cases hs : Γ[i]? with
  | none => rw [hs] at h; cases h
  | some s =>
    rw [hs] at h
    have q := r.ok i s hs
    cases s with
    | no => cases h
    | fr e => cases h; obtain ⟨x, e1, e2⟩ := q; exact ⟨x, e1, .inl e2⟩
    | ow e => cases h; obtain ⟨a, e1, _, _, ds, xs, e2, e3, e4⟩ := q; exact ⟨.ref a, e1, .inr ⟨a, ds, xs, rfl, e2, e3, e4⟩⟩
    | ln e => cases h; obtain ⟨a, e1, _, _, ds, xs, e2, e3, e4⟩ := q; exact ⟨.ref a, e1, .inr ⟨a, ds, xs, rfl, e2, e3, e4⟩⟩
end
def tO (K : Fr) (o : Od) : TE := fun σ H Q => ∃ C F Γ d Γ', Rel K C F H σ Γ ∧ o.run Γ = some (d, Γ') ∧
  ∀ F' H' v, Le F F' → Rel K C F' H' σ Γ' → (∀ F2 H2 Γ2 d2, Le F' F2 → Rel K C F2 H2 σ Γ2 → o.fin d Γ2 = some d2 → Lk K F2 H2 v d2) → Q v H'
abbrev O (X : Cx) (e : Expr) (o : Od) : Prop := PE X e (tO X.K o)
section
variable {X : Cx} {e a b : Expr} {c : CE} {oa ob : Od} {pos : Pos}
theorem o_e (h : E X e c) : O X e (.e c) := PE.imp h fun σ H Q ⟨C, F, Γ, d, Γ', R, hc, k⟩ =>
  ⟨C, F, Γ, d, Γ', R, hc, fun F' H' v l R' q => k F' H' v l R' fun F2 H2 Γ2 d2 l2 R2 hd => by
    cases (show some d = some d2 from hd)
    exact .inl (dp_mono l2 q)⟩
theorem o_v {i : Nat} (h : PE X e (tVar i)) : O X e (.v i) := PE.imp h fun σ H Q ⟨C, F, Γ, d, Γ', R, hc, k⟩ => by
  unfold Od.run at hc
  cases hd : datAt Γ i with
  | none => simp [hd] at hc
  | some d0 =>
    simp [hd] at hc
    obtain ⟨rfl, rfl⟩ := hc
    obtain ⟨v, e1, e2⟩ := R.look hd
    refine ⟨v, e1, k F H v (Le.refl _) R fun F2 H2 Γ2 d2 l2 R2 hd2 => ?_⟩
    obtain ⟨w, e3, e4⟩ := R2.look (show datAt Γ2 i = some d2 from hd2)
    rw [e1] at e3; cases e3
    exact e4
/-- a slot as a value: what it owns is frozen -/
def cVar (i : Nat) : CE := fun Γ => match Γ[i]? with
  | some (.fr d) => some (d, Γ)
  | some (.ow d) => some (d, Γ.set i (.fr d))
  | _ => none
theorem e_v {i : Nat} (h : PE X e (tVar i)) : E X e (cVar i) := PE.imp h fun σ H Q ⟨C, F, Γ, d, Γ', R, hc, k⟩ => by
  unfold cVar at hc
  split at hc
  · rename_i d0 hs
    cases hc
    obtain ⟨x, e1, e2⟩ := R.ok i _ hs
    exact ⟨x, e1, k F H x (Le.refl _) R e2⟩
  · rename_i d0 hs
    cases hc
    obtain ⟨a, e1, e2, m1, ds, xs, rfl, m3, m4⟩ := R.ok i _ hs
    have hF : Le F (upd F a (.lst xs)) := Le.new m1
    have hD : Dp X.K (upd F a (.lst xs)) (.ref a) (.list ds) := .lst (SqL.of upd_same) (dpa_mono hF m4)
    have R1 : Rel X.K C F H σ (Γ.set i .no) := R.weak rfl trivial
    have R2 : Rel X.K C (upd F a (.lst xs)) H σ (Γ.set i .no) := R1.freeze m3 (fun j s hj ho z => by
      rw [List.getElem?_set] at hj
      split at hj
      · split at hj
        · cases hj; cases ho
        · cases hj
      · rename_i hij
        exact R.apart i j _ s a hij hs hj rfl ho e1 z) m1 (R.pin i _ a hs rfl e1)
    have R3 : Rel X.K C (upd F a (.lst xs)) H σ ((Γ.set i .no).set i (.fr (.list ds))) := R2.weak rfl ⟨.ref a, e1, hD⟩
    rw [List.set_set] at R3
    exact ⟨.ref a, e1, k _ H _ hF R3 hD⟩
  · cases hc
/-- a slot that owns, handed on as new (a return) -/
def nVar (i : Nat) : CN := fun Γ => match Γ[i]? with
  | some (.fr d) => some (.fr d, Γ)
  | some (.ow d) => some (.nw d, Γ.set i .no)
  | _ => none
theorem n_v {i : Nat} (h : PE X e (tVar i)) : N X e (nVar i) := PE.imp h fun σ H Q ⟨C, F, Γ, d, Γ', R, hc, k⟩ => by
  unfold nVar at hc
  split at hc
  · rename_i d0 hs
    cases hc
    obtain ⟨x, e1, e2⟩ := R.ok i _ hs
    exact ⟨x, e1, k F H x (Le.refl _) R e2⟩
  · rename_i d0 hs
    cases hc
    obtain ⟨a, e1, e2, m⟩ := R.ok i _ hs
    refine ⟨.ref a, e1, k F H _ (Le.refl _) (R.weak rfl trivial) ⟨a, rfl, e2, R.pin i _ a hs rfl e1, m, fun j s hj ho z => ?_⟩⟩
    rw [List.getElem?_set] at hj
    split at hj
    · split at hj
      · cases hj; cases ho
      · cases hj
    · rename_i hij
      exact R.apart i j _ s a hij hs hj rfl ho e1 z
  · cases hc
def frz (c : CN) : CE := fun Γ => (c Γ).bind fun p => some (p.1.d, p.2)
theorem e_n {c : CN} (h : N X e c) : E X e (frz c) := PE.imp h fun σ H Q ⟨C, F, Γ, d, Γ', R, hc, k⟩ => by
  unfold frz at hc
  cases h1 : c Γ with
  | none => simp [h1] at hc
  | some p =>
    simp [h1] at hc
    obtain ⟨rfl, rfl⟩ := hc
    refine ⟨C, F, Γ, p.1, p.2, R, h1, fun F' H' v l R' g => ?_⟩
    obtain ⟨F2, l2, R2, q⟩ := g.frz R'
    exact k F2 H' v (l.trans l2) R2 q
def asN (c : CE) : CN := fun Γ => (c Γ).bind fun p => some (.fr p.1, p.2)
theorem n_e (h : E X e c) : N X e (asN c) := PE.imp h fun σ H Q ⟨C, F, Γ, d, Γ', R, hc, k⟩ => by
  unfold asN at hc
  cases h1 : c Γ with
  | none => simp [h1] at hc
  | some p =>
    simp [h1] at hc
    obtain ⟨rfl, rfl⟩ := hc
    exact ⟨C, F, Γ, p.1, p.2, R, h1, fun F' H' v l R' q => k F' H' v l R' q⟩

/-! ### constants -/
def cC (d : D) : CE := fun Γ => some (d, Γ)
theorem e_c {v : V} {d : D} (h : PE X e (tC v)) (q : ∀ F : Hp, Dp X.K F v d) : E X e (cC d) := PE.imp h fun σ H Q ⟨C, F, Γ, d, Γ', R, hc, k⟩ => by
  cases hc
  exact k F H v (Le.refl _) R (q F)
theorem e_int {i j} : E X (.Constant (.int i) j pos) (cC (.int i)) := e_c pe_int fun _ => .int i
theorem e_bl {i j} : E X (.Constant (.bool i) j pos) (cC (.bool i)) := e_c pe_bl fun _ => .bl i
theorem e_non {j} : E X (.Constant .none j pos) (cC .none) := e_c pe_non fun _ => .non
theorem e_str {x j} : E X (.Constant (.str x) j pos) (cC (.str x)) := e_c pe_str fun _ => .str x

/-! ### operators -/
def rD2 (K : Fr) (f : D → D → Option D) : R2 := fun x y H Q => ∃ F d e z, Le F H ∧ Lk K F H x d ∧ Lk K F H y e ∧ f d e = some z ∧ ∀ F' H' v, Grow F H F' H' → Dp K F' v z → Q v H'
def cOp (f : D → D → Option D) (a b : Od) : CE := fun Γ => (a.run Γ).bind fun p => (b.run p.2).bind fun q => (a.fin p.1 q.2).bind fun x => (b.fin q.1 q.2).bind fun y => (f x y).bind fun z => some (z, q.2)
theorem op_to {f : D → D → Option D} {σ : L2.St} {H : Hp} {Q : VK} {K : Fr} (h : tE K (cOp f oa ob) σ H Q) : tOp (rD2 K f) (tO K oa) (tO K ob) σ H Q := by
  obtain ⟨C, F, Γ, d, Γ', R, hc, k⟩ := h
  unfold cOp at hc
  cases h1 : oa.run Γ with
  | none => simp [h1] at hc
  | some p =>
    obtain ⟨da, Γ1⟩ := p
    simp [h1] at hc
    cases h2 : ob.run Γ1 with
    | none => simp [h2] at hc
    | some q =>
      obtain ⟨db, Γ2⟩ := q
      simp only [h2, Option.bind_some, Option.bind_eq_some_iff, Option.some.injEq, Prod.mk.injEq] at hc
      obtain ⟨x, hx, y, hy, z, hz, rfl, rfl⟩ := hc
      refine ⟨C, F, Γ, da, Γ1, R, h1, fun F1 H1 v l1 R1 lk1 => ?_⟩
      refine ⟨C, F1, Γ1, db, Γ2, R1, h2, fun F2 H2 u l2 R2 lk2 => ?_⟩
      refine ⟨F2, x, y, z, R2.sub, lk1 F2 H2 Γ2 x l2 R2 hx, lk2 F2 H2 Γ2 y (Le.refl _) R2 hy, hz, fun F3 H3 w g q => ?_⟩
      exact k F3 H3 w ((l1.trans l2).trans g.f) (R2.grow g) q
theorem e_op {op : Operator} {f : D → D → Option D} (ho : OpR X (binaryOp op) (rD2 X.K f)) (ha : O X a oa) (hb : O X b ob) : E X (.BinOp a op b pos) (cOp f oa ob) :=
  PE.imp (pe_op ho ha hb) fun _ _ _ h => op_to h
theorem e_cmp {op : CmpOp} {f : D → D → Option D} (ho : OpR X (compareOp op) (rD2 X.K f)) (ha : O X a oa) (hb : O X b ob) (hm : behindInMarks op b = false) : E X (.Compare a [op] [b] pos) (cOp f oa ob) :=
  PE.imp (pe_cmpR ho ha hb hm) fun _ _ _ h => op_to h
def rD1 (K : Fr) (f : D → Option D) : V → Hp → VK → Prop := fun x H Q => ∃ F d z, Le F H ∧ Lk K F H x d ∧ f d = some z ∧ ∀ F' H' v, Grow F H F' H' → Dp K F' v z → Q v H'
def cUn (f : D → Option D) (a : Od) : CE := fun Γ => (a.run Γ).bind fun p => (a.fin p.1 p.2).bind fun x => (f x).bind fun z => some (z, p.2)
theorem un_to {f : D → Option D} {σ : L2.St} {H : Hp} {Q : VK} {K : Fr} (h : tE K (cUn f oa) σ H Q) : tUn (rD1 K f) (tO K oa) σ H Q := by
  obtain ⟨C, F, Γ, d, Γ', R, hc, k⟩ := h
  unfold cUn at hc
  cases h1 : oa.run Γ with
  | none => simp [h1] at hc
  | some p =>
    obtain ⟨da, Γ1⟩ := p
    simp only [h1, Option.bind_some, Option.bind_eq_some_iff, Option.some.injEq, Prod.mk.injEq] at hc
    obtain ⟨x, hx, z, hz, rfl, rfl⟩ := hc
    refine ⟨C, F, Γ, da, Γ1, R, h1, fun F1 H1 v l1 R1 lk1 => ?_⟩
    exact ⟨F1, x, z, R1.sub, lk1 F1 H1 Γ1 x (Le.refl _) R1 hx, hz, fun F3 H3 w g q => k F3 H3 w (l1.trans g.f) (R1.grow g) q⟩
theorem e_un {op : UnaryOp} {f : D → Option D} (ho : UnR X (unaryOp op) (rD1 X.K f)) (ha : O X a oa) : E X (.UnaryOp op a pos) (cUn f oa) :=
  PE.imp (pe_un ho ha) fun _ _ _ h => un_to h
theorem e_ix {f : D → D → Option D} (ho : IxR X (rD2 X.K f)) (ha : O X a oa) (hb : O X b ob) (hs : PlainIx b := by exact fun _ _ => rfl) : E X (.Subscript a b pos) (cOp f oa ob) :=
  PE.imp (pe_ix ho ha hb hs) fun _ _ _ h => op_to h

/-! ### tests -/
def toB : D → Option Bool
  | .bool b => some b
  | _ => none
theorem dp_bool {K : Fr} {F : Hp} {v : V} {b : Bool} (h : Dp K F v (.bool b)) : v = .bl b := by cases h; rfl
def cB (c : CE) : CT := fun Γ => (c Γ).bind fun p => (toB p.1).bind fun b => some (b, p.2)
theorem toB_some {d : D} {b : Bool} (h : toB d = some b) : d = .bool b := by
  cases d <;> simp [toB] at h
  rw [h]
theorem tB_to {σ : L2.St} {H : Hp} {Q : Bool → Hp → Prop} {K : Fr} (h : tT K (cB c) σ H Q) : tE K c σ H fun x H' => ∃ k, x = .bl k ∧ Q k H' := by
  obtain ⟨C, F, Γ, b, Γ', R, hc, k⟩ := h
  unfold cB at hc
  cases h1 : c Γ with
  | none => simp [h1] at hc
  | some p =>
    obtain ⟨d, Γ1⟩ := p
    simp only [h1, Option.bind_some, Option.bind_eq_some_iff, Option.some.injEq, Prod.mk.injEq] at hc
    obtain ⟨b1, hb, rfl, rfl⟩ := hc
    have e := toB_some hb
    subst e
    exact ⟨C, F, Γ, _, Γ1, R, h1, fun F' H' v l R' q => ⟨_, dp_bool q, k F' H' l R'⟩⟩
theorem t_val (h : E X e c) (he : ∀ whole, isTrue e X.env whole = (do let v ← whole; standAt e.pos; holding [v] (truthy v)) := by intro _; rfl) : T X e (cB c) :=
  PT.imp (pt_val h he) fun _ _ _ h => tB_to h
theorem t_cmp {op : CmpOp} {f : D → D → Option D} (ho : OpR X (compareOp op) (rD2 X.K f)) (ha : O X a oa) (hb : O X b ob) (hm : behindInMarks op b = false) : T X (.Compare a [op] [b] pos) (cB (cOp f oa ob)) :=
  PT.imp (pt_cmpR ho ha hb hm) fun _ _ _ h => by
    have q := tB_to h
    exact op_to q
def cAnd (s t : CT) : CT := fun Γ => (s Γ).bind fun p => if p.1 = true then t p.2 else some (false, p.2)
def cOr (s t : CT) : CT := fun Γ => (s Γ).bind fun p => if p.1 = true then some (true, p.2) else t p.2
def cNot (s : CT) : CT := fun Γ => (s Γ).bind fun p => some (!p.1, p.2)
theorem tw_and1 {s : CT} (h : T X a s) : TW X (.BoolOp .And [a] pos) s := pw_and1 h
theorem tw_or1 {s : CT} (h : T X a s) : TW X (.BoolOp .Or [a] pos) s := pw_or1 h
theorem and_to {s t : CT} {σ : L2.St} {H : Hp} {Q : Bool → Hp → Prop} {K : Fr} (h : tT K (cAnd s t) σ H Q) : tAnd (tT K s) (tT K t) σ H Q := by
  obtain ⟨C, F, Γ, b, Γ', R, hc, k⟩ := h
  unfold cAnd at hc
  cases h1 : s Γ with
  | none => simp [h1] at hc
  | some p =>
    obtain ⟨d, Γ1⟩ := p
    refine ⟨C, F, Γ, d, Γ1, R, h1, fun F' H' l R' => ?_⟩
    cases d with
    | true =>
      simp [h1] at hc
      exact ⟨C, F', Γ1, b, Γ', R', hc, fun F2 H2 l2 R2 => k F2 H2 (l.trans l2) R2⟩
    | false =>
      simp [h1] at hc
      obtain ⟨rfl, rfl⟩ := hc
      exact k F' H' l R'
theorem or_to {s t : CT} {σ : L2.St} {H : Hp} {Q : Bool → Hp → Prop} {K : Fr} (h : tT K (cOr s t) σ H Q) : tOr (tT K s) (tT K t) σ H Q := by
  obtain ⟨C, F, Γ, b, Γ', R, hc, k⟩ := h
  unfold cOr at hc
  cases h1 : s Γ with
  | none => simp [h1] at hc
  | some p =>
    obtain ⟨d, Γ1⟩ := p
    refine ⟨C, F, Γ, d, Γ1, R, h1, fun F' H' l R' => ?_⟩
    cases d with
    | false =>
      simp [h1] at hc
      exact ⟨C, F', Γ1, b, Γ', R', hc, fun F2 H2 l2 R2 => k F2 H2 (l.trans l2) R2⟩
    | true =>
      simp [h1] at hc
      obtain ⟨rfl, rfl⟩ := hc
      exact k F' H' l R'
theorem tw_and {s t : CT} {rest : List Expr} (h : T X a s) (h2 : TW X (.BoolOp .And (b :: rest) pos) t) : TW X (.BoolOp .And (a :: b :: rest) pos) (cAnd s t) := PW.imp (pw_and h h2) fun _ _ _ h => and_to h
theorem tw_or {s t : CT} {rest : List Expr} (h : T X a s) (h2 : TW X (.BoolOp .Or (b :: rest) pos) t) : TW X (.BoolOp .Or (a :: b :: rest) pos) (cOr s t) := PW.imp (pw_or h h2) fun _ _ _ h => or_to h
theorem t_w {s : CT} (h : TW X a s) : T X a s := PW.pt h
theorem t_not {s : CT} (h : T X a s) : T X (.UnaryOp .Not a pos) (cNot s) := PT.imp (pt_not h) fun _ _ _ h => by
  obtain ⟨C, F, Γ, b, Γ', R, hc, k⟩ := h
  unfold cNot at hc
  cases h1 : s Γ with
  | none => simp [h1] at hc
  | some p =>
    obtain ⟨d, Γ1⟩ := p
    simp [h1] at hc
    obtain ⟨rfl, rfl⟩ := hc
    exact ⟨C, F, Γ, _, _, R, h1, fun F' H' l R' => by
      have q := k F' H' l R'
      simpa using q⟩
/-! and, or, not as values, of truth values -/
def cAndV (s t : CE) : CE := fun Γ => (cB s Γ).bind fun p => if p.1 = true then t p.2 else some (.bool false, p.2)
def cOrV (s t : CE) : CE := fun Γ => (cB s Γ).bind fun p => if p.1 = true then some (.bool true, p.2) else t p.2
def cNotV (s : CE) : CE := fun Γ => (cB s Γ).bind fun p => some (.bool (!p.1), p.2)
theorem e_one {op} (h : E X a c) : E X (.BoolOp op [a] pos) c := pe_one h
theorem e_and {s t : CE} {rest : List Expr} (h : E X a s) (h2 : E X (.BoolOp .And (b :: rest) pos) t) : E X (.BoolOp .And (a :: b :: rest) pos) (cAndV s t) := PE.imp (pe_and h h2) fun _ _ _ h => by
  obtain ⟨C, F, Γ, b, Γ', R, hc, k⟩ := h
  unfold cAndV at hc
  cases h1 : cB s Γ with
  | none => simp [h1] at hc
  | some p =>
    obtain ⟨d, Γ1⟩ := p
    refine tB_to ⟨C, F, Γ, d, Γ1, R, h1, fun F' H' l R' => ?_⟩
    cases d with
    | true =>
      simp [h1] at hc
      exact ⟨C, F', Γ1, b, Γ', R', hc, fun F2 H2 v l2 R2 q => k F2 H2 v (l.trans l2) R2 q⟩
    | false =>
      simp [h1] at hc
      obtain ⟨rfl, rfl⟩ := hc
      exact k F' H' _ l R' (.bl false)
theorem e_or {s t : CE} {rest : List Expr} (h : E X a s) (h2 : E X (.BoolOp .Or (b :: rest) pos) t) : E X (.BoolOp .Or (a :: b :: rest) pos) (cOrV s t) := PE.imp (pe_or h h2) fun _ _ _ h => by
  obtain ⟨C, F, Γ, b, Γ', R, hc, k⟩ := h
  unfold cOrV at hc
  cases h1 : cB s Γ with
  | none => simp [h1] at hc
  | some p =>
    obtain ⟨d, Γ1⟩ := p
    refine tB_to ⟨C, F, Γ, d, Γ1, R, h1, fun F' H' l R' => ?_⟩
    cases d with
    | false =>
      simp [h1] at hc
      exact ⟨C, F', Γ1, b, Γ', R', hc, fun F2 H2 v l2 R2 q => k F2 H2 v (l.trans l2) R2 q⟩
    | true =>
      simp [h1] at hc
      obtain ⟨rfl, rfl⟩ := hc
      exact k F' H' _ l R' (.bl true)
theorem e_not {s : CE} (h : E X a s) : E X (.UnaryOp .Not a pos) (cNotV s) := PE.imp (pe_not h) fun _ _ _ h => by
  obtain ⟨C, F, Γ, b0, Γ', R, hc, k⟩ := h
  unfold cNotV at hc
  cases h1 : cB s Γ with
  | none => simp [h1] at hc
  | some p =>
    obtain ⟨d, Γ1⟩ := p
    simp [h1] at hc
    obtain ⟨rfl, rfl⟩ := hc
    exact tB_to ⟨C, F, Γ, _, _, R, h1, fun F' H' l R' => k F' H' _ l R' (.bl _)⟩
def cIf (s : CT) (t u : CE) : CE := fun Γ => (s Γ).bind fun p => if p.1 = true then t p.2 else u p.2
theorem e_if {s : CT} {t u : CE} {x : Expr} (hc : T X x s) (ha : E X a t) (hb : E X b u) : E X (.IfExp x a b pos) (cIf s t u) := PE.imp (pe_ifExp hc ha hb) fun _ _ _ h => by
  obtain ⟨C, F, Γ, b, Γ', R, hc, k⟩ := h
  unfold cIf at hc
  cases h1 : s Γ with
  | none => simp [h1] at hc
  | some p =>
    obtain ⟨d, Γ1⟩ := p
    refine ⟨C, F, Γ, d, Γ1, R, h1, fun F' H' l R' => ?_⟩
    cases d <;> simp [h1] at hc
    · exact ⟨C, F', Γ1, b, Γ', R', hc, fun F2 H2 v l2 R2 q => k F2 H2 v (l.trans l2) R2 q⟩
    · exact ⟨C, F', Γ1, b, Γ', R', hc, fun F2 H2 v l2 R2 q => k F2 H2 v (l.trans l2) R2 q⟩
end

/-! ### argument lists, frozen; and as operands -/
def cNil : CA := fun Γ => some ([], Γ)
def cCons (c : CE) (r : CA) : CA := fun Γ => (c Γ).bind fun p => (r p.2).bind fun q => some (p.1 :: q.1, q.2)
section
variable {X : Cx} {e : Expr} {es : List Expr} {c : CE} {r : CA} {pos : Pos}
theorem a_nil : Ar X [] cNil := PA.imp pa_nil fun _ H _ ⟨C, F, Γ, ds, Γ', R, hc, k⟩ => by
  cases hc
  exact k F H [] (Le.refl _) R .nil
theorem a_cons (h : E X e c) (hr : Ar X es r) (hs : starEach (e :: es) X.env = (false, eval e X.env) :: starEach es X.env := by rfl) : Ar X (e :: es) (cCons c r) := PA.imp (pa_cons h hr hs) fun _ H _ ⟨C, F, Γ, ds, Γ', R, hc, k⟩ => by
  unfold cCons at hc
  cases h1 : c Γ with
  | none => simp [h1] at hc
  | some p =>
    obtain ⟨d, Γ1⟩ := p
    cases h2 : r Γ1 with
    | none => simp [h1, h2] at hc
    | some q =>
      obtain ⟨dr, Γ2⟩ := q
      simp [h1, h2] at hc
      obtain ⟨rfl, rfl⟩ := hc
      refine ⟨C, F, Γ, d, Γ1, R, h1, fun F1 H1 v l1 R1 q1 => ?_⟩
      refine ⟨C, F1, Γ1, dr, Γ2, R1, h2, fun F2 H2 vs l2 R2 q2 => ?_⟩
      exact k F2 H2 (v :: vs) (l1.trans l2) R2 (.cons (dp_mono l2 q1) q2)
theorem dpa_len {K : Fr} {F : Hp} : ∀ {vs : List V} {ds : List D}, DpAll K F vs ds → vs.length = ds.length
  | _, _, .nil => rfl
  | _, _, .cons _ t => congrArg (· + 1) (dpa_len t)
def cTup (r : CA) : CE := fun Γ => (r Γ).bind fun p => if p.1.length ≤ sizeLine then some (.tuple p.1, p.2) else none
theorem e_tup {x1} (h : Ar X es r) : E X (.Tuple es x1 pos) (cTup r) := PE.imp (pe_tup h) fun _ H _ ⟨C, F, Γ, ds, Γ', R, hc, k⟩ => by
  unfold cTup at hc
  cases h1 : r Γ with
  | none => simp [h1] at hc
  | some p =>
    obtain ⟨d, Γ1⟩ := p
    simp [h1] at hc
    obtain ⟨hz, rfl, rfl⟩ := hc
    refine ⟨C, F, Γ, d, Γ1, R, h1, fun F1 H1 vs l1 R1 q1 => ⟨by rw [dpa_len q1]; exact hz, fun p np => ?_⟩⟩
    have g := Grow.new R1.sub (o := .tup vs) np
    exact k _ _ _ (l1.trans g.f) (R1.grow g) (.tup (SqT.of upd_same) (dpa_mono g.f q1))
/-- a new list is got -/
theorem got_new {K : Fr} {C : Ct} {F H : Hp} {σ : L2.St} {Γ : En} {p : Addr} {vs : List V} {ds : List D} (R : Rel K C F H σ Γ) (np : H p = none) (q : DpAll K F vs ds) :
    Got K C F (upd H p (.lst vs)) σ Γ (.ref p) (.nw (.list ds)) := by
  have fp : F p = none := by
    cases e : F p with
    | none => rfl
    | some u => rw [R.sub p u e] at np; cases np
  refine ⟨p, rfl, R.fresh np, R.freshP np, ⟨fp, ds, vs, rfl, upd_same, q⟩, fun i s hs ho z => ?_⟩
  have w := R.ok i s hs
  cases s with
  | no => cases ho
  | fr d => cases ho
  | ow d => obtain ⟨a, e1, _, _, _, _, _, e2, _⟩ := w; rw [z] at e1; cases e1; rw [np] at e2; cases e2
  | ln d => obtain ⟨a, e1, _, _, _, _, _, e2, _⟩ := w; rw [z] at e1; cases e1; rw [np] at e2; cases e2
end
end Pu

namespace Pu
open PySem PySem.Spec PyProof.Rows L2

/-! ### statements -/
def put (Γ : En) (i : Nat) (s : Sl) : Option En := match Γ[i]? with
  | some (.ln _) => none
  | some _ => some (Γ.set i s)
  | none => none
theorem put_some {Γ Γ' : En} {i : Nat} {s : Sl} (h : put Γ i s = some Γ') : ∃ t, Γ[i]? = some t ∧ (∀ d, t ≠ .ln d) ∧ Γ' = Γ.set i s := by
  unfold put at h
  split at h
  · cases h
  · rename_i t hn ht
    cases h
    exact ⟨_, ht, fun d z => hn d z, rfl⟩
  · cases h
section
variable {X : Cx} {e : Expr} {c : CE} {pos : Pos}
theorem asg_name {K : Fr} {C : Ct} {F H : Hp} {σ : L2.St} {Γ Γ' : En} {i : Nat} {v : V} {d : D} (R : Rel K C F H σ Γ) (q : Dp K F v d) (h : put Γ i (.fr d) = some Γ') : Rel K C F H (σ.set i (some v)) Γ' := by
  obtain ⟨t, ht, hl, rfl⟩ := put_some h
  exact R.store ht hl rfl ⟨v, rfl, q⟩
theorem same_set (σ : L2.St) (i : Nat) (v : Option V) : Same [i] σ (σ.set i v) := ⟨List.length_set, fun j hj => by
  rw [List.getElem?_set_ne (fun e => hj (by simp [e]))]⟩
theorem Same.refl (σ : L2.St) : Same [] σ σ := ⟨rfl, fun _ _ => rfl⟩
theorem Same.app {ts us : List Nat} {σ σ1 σ2 : L2.St} (a : Same ts σ σ1) (b : Same us σ1 σ2) : Same (ts ++ us) σ σ2 :=
  ⟨b.1.trans a.1, fun j hj => (b.2 j fun z => hj (List.mem_append_right _ z)).trans (a.2 j fun z => hj (List.mem_append_left _ z))⟩
def gN (i : Nat) : CG := fun d Γ => put Γ i (.fr d)
theorem g_name {i : Nat} {x : Str} (hN : X.N.Nodup) (hi : X.N[i]? = some x) (hx : Loc X.env.scope x) (hf : X.fn x = true ∨ X.env.scope.names.lookup x = some .local := by first | exact .inl rfl | exact .inr rfl | assumption) : G X (.Name x pos) [i] (gN i) :=
  ⟨fun pins s σ H v u Q I r ⟨C, F, Γ, d, Γ', R, q, hc, k⟩ => (pg_name hN hi hx hf).run pins s σ H v u Q I r (k F H _ (Le.refl _) (asg_name R q hc) (same_set _ _ _))⟩
abbrev CGs := List D → En → Option En
def tGs (K : Fr) (ts : List Nat) (c : CGs) : TGs := fun vs σ H Q => ∃ C F Γ ds Γ', Rel K C F H σ Γ ∧ DpAll K F vs ds ∧ c ds Γ = some Γ' ∧ ∀ F' H' σ', Le F F' → Rel K C F' H' σ' Γ' → Same ts σ σ' → Q σ' H'
abbrev Gs (X : Cx) (es : List Expr) (ts : List Nat) (c : CGs) : Prop := PGs X es (tGs X.K ts c)
def gNil2 : CGs := fun ds Γ => match ds with
  | [] => some Γ
  | _ => none
def gCons2 (g : CG) (r : CGs) : CGs := fun ds Γ => match ds with
  | d :: ds => (g d Γ).bind fun Γ1 => r ds Γ1
  | [] => none
theorem PGs.imp {es : List Expr} {t u : TGs} (h : PGs X es t) (i : ∀ vs σ H Q, u vs σ H Q → t vs σ H Q) : PGs X es u := ⟨fun pins s σ H vs us Q I r q => h.run pins s σ H vs us Q I r (i _ _ _ _ q)⟩
theorem PG.imp {e : Expr} {t u : TG} (h : PG X e t) (i : ∀ v σ H Q, u v σ H Q → t v σ H Q) : PG X e u := ⟨fun pins s σ H v w Q I r q => h.run pins s σ H v w Q I r (i _ _ _ _ q)⟩
theorem gs_nil : Gs X [] [] gNil2 := PGs.imp pgs_nil fun vs σ H Q ⟨C, F, Γ, ds, Γ', R, q, hc, k⟩ => by
  unfold gNil2 at hc
  split at hc
  · cases hc; cases q; exact ⟨rfl, k F H σ (Le.refl _) R (Same.refl _)⟩
  · cases hc
theorem gs_cons {e : Expr} {es : List Expr} {ts us : List Nat} {g : CG} {r : CGs} (h1 : G X e ts g) (h2 : Gs X es us r) (hs : (assignEach (e :: es) X.env).map (·.2) = assign e X.env :: (assignEach es X.env).map (·.2) := by rfl) : Gs X (e :: es) (ts ++ us) (gCons2 g r) := PGs.imp (pgs_cons h1 h2 hs) fun vs σ H Q ⟨C, F, Γ, ds, Γ', R, q, hc, k⟩ => by
  unfold gCons2 at hc
  split at hc
  · rename_i d ds
    cases q with
    | @cons v vs _ _ q1 q2 =>
      cases h1 : g d Γ with
      | none => simp [h1] at hc
      | some Γ1 =>
        simp only [h1, Option.bind_some] at hc
        refine ⟨v, vs, rfl, C, F, Γ, d, Γ1, R, q1, h1, fun F' H' σ' l R' s1 => ?_⟩
        exact ⟨C, F', Γ1, ds, Γ', R', dpa_mono l q2, hc, fun F2 H2 σ2 l2 R2 s2 => k F2 H2 σ2 (l.trans l2) R2 (s1.app s2)⟩
  · cases hc
def gT (g : CGs) : CG := fun d Γ => match d with
  | .tuple ds => g ds Γ
  | _ => none
theorem gs_len {g : CGs} {K : Fr} : True := trivial
/-- how many the targets are -/
def nG (g : CGs) (n : Nat) : Prop := ∀ ds Γ Γ', g ds Γ = some Γ' → ds.length = n
theorem nG_nil : nG gNil2 0 := fun ds Γ Γ' h => by
  unfold gNil2 at h
  split at h
  · rfl
  · cases h
theorem nG_cons {g : CG} {r : CGs} {n : Nat} (h : nG r n) : nG (gCons2 g r) (n + 1) := fun ds Γ Γ' q => by
  unfold gCons2 at q
  split at q
  · rename_i d ds
    cases h1 : g d Γ with
    | none => simp [h1] at q
    | some Γ1 =>
      simp only [h1, Option.bind_some] at q
      rw [List.length_cons, h _ _ _ q]
  · cases q
theorem g_tup {es : List Expr} {k : Nat} {ts : List Nat} {g : CGs} {n : Nat} (hc : X.calm = true) (h : Gs X es ts g) (hg : nG g n) (hn : (assignEach es X.env).length = n := by rfl) (hst : (assignEach es X.env).findIdx? (·.1) = none := by rfl) : G X (.Tuple es k pos) ts (gT g) := PG.imp (pg_tup hc h hn hst) fun v σ H Q ⟨C, F, Γ, d, Γ', R, q, hc, k⟩ => by
  unfold gT at hc
  split at hc
  · rename_i ds
    cases q with
    | @tup a xs _ hs hd =>
      refine ⟨a, xs, rfl, (R.sub).sqt hs, by rw [dpa_len hd]; exact hg _ _ _ hc, ?_⟩
      exact ⟨C, F, Γ, ds, Γ', R, hd, hc, fun F' H' σ' l R' s => k F' H' σ' l R' s⟩
  · cases hc
def cAsg (c : CE) (g : CG) : CS := fun Γ => (c Γ).bind fun p => (g p.1 p.2).bind fun Γ' => some (.nx, Γ')
theorem asg_to {K : Fr} {ts : List Nat} {g : CG} {De : Ends} {σ : L2.St} {H : Hp} (h : tS K (cAsg c g) De σ H) : tAsg (tE K c) (tG K ts g) De σ H := by
  obtain ⟨C, F, Γ, fl, Γ', R, hc, k⟩ := h
  unfold cAsg at hc
  simp only [Option.bind_eq_some_iff, Option.some.injEq, Prod.mk.injEq] at hc
  obtain ⟨⟨d, Γ1⟩, h1, Γ2, h2, rfl, rfl⟩ := hc
  refine ⟨C, F, Γ, d, Γ1, R, h1, fun F' H' v l R' q => ?_⟩
  exact ⟨C, F', Γ1, d, Γ2, R', q, h2, fun F2 H2 σ2 l2 R2 _ => k F2 H2 σ2 (l.trans l2) R2⟩
theorem s_asg {tg : Expr} {ts : List Nat} {g : CG} (he : E X e c) (hg : G X tg ts g) (hs : swapsWithSole [tg] e pos.line X.env = pure false := by rfl) (hw : swappedStores [tg] e X.env = pure none := by rfl) (h1 : (assignEach [tg] X.env).map (·.2) = [assign tg X.env] := by rfl) : S X (.Assign [tg] e pos) (cAsg c g) :=
  PS.imp (ps_asg he hg hs hw h1) fun _ _ _ h => asg_to h
def cSet (i : Nat) (c : CE) : CS := cAsg c (gN i)
theorem set_to {K : Fr} {i : Nat} {De : Ends} {σ : L2.St} {H : Hp} (h : tS K (cSet i c) De σ H) : tAsg (tE K c) (gName i) De σ H := by
  obtain ⟨C, F, Γ, fl, Γ', R, hc, k⟩ := h
  unfold cSet cAsg at hc
  simp only [Option.bind_eq_some_iff, Option.some.injEq, Prod.mk.injEq] at hc
  obtain ⟨⟨d, Γ1⟩, h1, Γ2, h2, rfl, rfl⟩ := hc
  exact ⟨C, F, Γ, d, Γ1, R, h1, fun F' H' v l R' q => k F' H' _ l (asg_name R' q h2)⟩
def slOf : Rv → Sl
  | .fr d => .fr d
  | .nw d => .ow d
def cSetN (i : Nat) (c : CN) : CS := fun Γ => (c Γ).bind fun p => (put p.2 i (slOf p.1)).bind fun Γ' => some (.nx, Γ')
theorem asg_new {K : Fr} {C : Ct} {F H : Hp} {σ : L2.St} {Γ Γ' : En} {i : Nat} {v : V} {r : Rv} (R : Rel K C F H σ Γ) (q : Got K C F H σ Γ v r) (h : put Γ i (slOf r) = some Γ') : Rel K C F H (σ.set i (some v)) Γ' := by
  cases r with
  | fr d => exact asg_name R q h
  | nw d =>
    obtain ⟨t, ht, hl, rfl⟩ := put_some h
    obtain ⟨a, rfl, h0, hP, m, n⟩ := q
    exact R.storeOw ht hl h0 hP m n
theorem setN_to {K : Fr} {c : CN} {i : Nat} {De : Ends} {σ : L2.St} {H : Hp} (h : tS K (cSetN i c) De σ H) : tAsg (tN K c) (gName i) De σ H := by
  obtain ⟨C, F, Γ, fl, Γ', R, hc, k⟩ := h
  unfold cSetN at hc
  simp only [Option.bind_eq_some_iff, Option.some.injEq, Prod.mk.injEq] at hc
  obtain ⟨⟨r, Γ1⟩, h1, Γ2, h2, rfl, rfl⟩ := hc
  exact ⟨C, F, Γ, r, Γ1, R, h1, fun F' H' v l R' q => k F' H' _ l (asg_new R' q h2)⟩
theorem s_set {i : Nat} {x : Str} {pos' : Pos} (hN : X.N.Nodup) (hi : X.N[i]? = some x) (hx : Loc X.env.scope x) (he : E X e c) (hs : swapsWith e (some (.Name x pos')) pos.line X.env = pure false := by rfl)
    (hf : X.fn x = true ∨ X.env.scope.names.lookup x = some .local := by first | exact .inl rfl | exact .inr rfl | assumption) : S X (.Assign [.Name x pos'] e pos) (cSet i c) :=
  PS.imp (ps_set hN hi hx he hs hf) fun _ _ _ h => set_to h
theorem s_setN {c : CN} {i : Nat} {x : Str} {pos' : Pos} (hN : X.N.Nodup) (hi : X.N[i]? = some x) (hx : Loc X.env.scope x) (he : N X e c) (hs : swapsWith e (some (.Name x pos')) pos.line X.env = pure false := by rfl)
    (hf : X.fn x = true ∨ X.env.scope.names.lookup x = some .local := by first | exact .inl rfl | exact .inr rfl | assumption) : S X (.Assign [.Name x pos'] e pos) (cSetN i c) :=
  PS.imp (ps_set hN hi hx he hs hf) fun _ _ _ h => setN_to h
def cPar (i j : Nat) (c : CA) : CS := fun Γ => (c Γ).bind fun p => match p.1 with
  | [a, b] => (put p.2 i (.fr a)).bind fun Γ1 => (put Γ1 j (.fr b)).bind fun Γ2 => some (.nx, Γ2)
  | _ => none
theorem par_to {K : Fr} {c : CA} {i j : Nat} {De : Ends} {σ : L2.St} {H : Hp} (h : tS K (cPar i j c) De σ H) : tPar i j (tA K c) De σ H := by
  obtain ⟨C, F, Γ, fl, Γ', R, hc, k⟩ := h
  unfold cPar at hc
  simp only [Option.bind_eq_some_iff] at hc
  obtain ⟨⟨ds, Γ1⟩, h1, hc⟩ := hc
  refine ⟨C, F, Γ, ds, Γ1, R, h1, fun F' H' vs l R' q => ?_⟩
  split at hc
  · rename_i a b e
    simp only at e
    subst e
    simp only [Option.bind_eq_some_iff, Option.some.injEq, Prod.mk.injEq] at hc
    obtain ⟨Γ2, h2, Γ3, h3, rfl, rfl⟩ := hc
    cases q with
    | @cons v vs _ _ q1 q2 =>
      cases q2 with
      | @cons w ws _ _ q3 q4 =>
        cases q4
        exact ⟨v, w, rfl, k F' H' _ l (asg_name (asg_name R' q1 h2) q3 h3)⟩
  · cases hc
theorem s_par {c : CA} {i j : Nat} {x y : Str} {a b : Expr} {px py pt : Pos} {kt k2 pt2} (hc : X.calm = true) (hN : X.N.Nodup) (hi : X.N[i]? = some x) (hj : X.N[j]? = some y) (hij : i ≠ j)
    (hx : X.env.scope.names.lookup x = some .local) (hy : X.env.scope.names.lookup y = some .local) (ha : Ar X [a, b] c)
    (hw : swappedStores [.Tuple [.Name x px, .Name y py] kt pt] (.Tuple [a, b] k2 pt2) X.env = pure (some [x, y]))
    (hs : swapsWithSole [.Tuple [.Name x px, .Name y py] kt pt] (.Tuple [a, b] k2 pt2) pos.line X.env = pure false := by rfl) :
    S X (.Assign [.Tuple [.Name x px, .Name y py] kt pt] (.Tuple [a, b] k2 pt2) pos) (cPar i j c) :=
  PS.imp (ps_par hc hN hi hj hij hx hy ha hw hs) fun _ _ _ h => par_to h
def cDrop (c : CE) : CS := fun Γ => (c Γ).bind fun p => some (.nx, p.2)
theorem s_expr (he : E X e c) (hs : swapsWith e none pos.line X.env = pure false := by rfl) : S X (.Expr e pos) (cDrop c) := PS.imp (ps_expr he hs) fun De σ H ⟨C, F, Γ, fl, Γ', R, hc, k⟩ => by
  unfold cDrop at hc
  simp only [Option.bind_eq_some_iff, Option.some.injEq, Prod.mk.injEq] at hc
  obtain ⟨⟨d, Γ1⟩, h1, rfl, rfl⟩ := hc
  exact ⟨C, F, Γ, d, Γ1, R, h1, fun F' H' v l R' q => k F' H' σ l R'⟩
def cRet (c : CN) : CS := fun Γ => (c Γ).bind fun p => some (.rt p.1, p.2)
theorem s_ret {c : CN} (he : N X e c) : S X (.Return (some e) pos) (cRet c) := PS.imp (ps_ret he) fun De σ H ⟨C, F, Γ, fl, Γ', R, hc, k⟩ => by
  unfold cRet at hc
  simp only [Option.bind_eq_some_iff, Option.some.injEq, Prod.mk.injEq] at hc
  obtain ⟨⟨r, Γ1⟩, h1, rfl, rfl⟩ := hc
  exact ⟨C, F, Γ, r, Γ1, R, h1, fun F' H' v l R' q => k F' H' σ l R' v q⟩
def cNext : CS := fun Γ => some (.nx, Γ)
def cBreak : CS := fun Γ => some (.bk, Γ)
def cCont : CS := fun Γ => some (.ct, Γ)
def cSeq (s t : CS) : CS := fun Γ => (s Γ).bind fun p => match p.1 with
  | .nx => t p.2
  | f => some (f, p.2)
theorem next_to {K : Fr} {De : Ends} {σ : L2.St} {H : Hp} (h : tS K cNext De σ H) : tNext De σ H := by
  obtain ⟨C, F, Γ, fl, Γ', R, hc, k⟩ := h
  cases hc
  exact k F H σ (Le.refl _) R
theorem b_nil : B X [] cNext := PSs.imp pss_nil fun _ _ _ h => next_to h
theorem s_pass : S X (.Pass pos) cNext := PS.imp ps_pass fun _ _ _ h => next_to h
theorem s_break : S X (.Break pos) cBreak := PS.imp ps_break fun De σ H ⟨C, F, Γ, fl, Γ', R, hc, k⟩ => by
  cases hc
  exact k F H σ (Le.refl _) R
theorem s_cont : S X (.Continue pos) cCont := PS.imp ps_continue fun De σ H ⟨C, F, Γ, fl, Γ', R, hc, k⟩ => by
  cases hc
  exact k F H σ (Le.refl _) R
theorem seq_to {K : Fr} {s t : CS} {De : Ends} {σ : L2.St} {H : Hp} (h : tS K (cSeq s t) De σ H) : tSeq (tS K s) (tS K t) De σ H := by
  obtain ⟨C, F, Γ, fl, Γ', R, hc, k⟩ := h
  unfold cSeq at hc
  simp only [Option.bind_eq_some_iff] at hc
  obtain ⟨⟨f1, Γ1⟩, h1, hc⟩ := hc
  refine ⟨C, F, Γ, f1, Γ1, R, h1, fun F' H' σ' l R' => ?_⟩
  cases f1 with
  | nx => exact ⟨C, F', Γ1, fl, Γ', R', hc, fun F2 H2 σ2 l2 R2 => k F2 H2 σ2 (l.trans l2) R2⟩
  | bk => cases hc; exact k F' H' σ' l R'
  | ct => cases hc; exact k F' H' σ' l R'
  | rt r => cases hc; exact k F' H' σ' l R'
theorem b_cons {st : Stmt} {rest : List Stmt} {s t : CS} (h1 : S X st s) (h2 : B X rest t) : B X (st :: rest) (cSeq s t) := PSs.imp (pss_cons h1 h2) fun _ _ _ h => seq_to h
theorem b_one {st : Stmt} {s : CS} (h1 : S X st s) : B X [st] s := pss_one h1
def cIfS (c : CT) (s t : CS) : CS := fun Γ => (c Γ).bind fun p => if p.1 = true then s p.2 else t p.2
theorem s_if {c : CT} {x : Expr} {a b : List Stmt} {s t : CS} (hc : T X x c) (ha : B X a s) (hb : B X b t) : S X (.If x a b pos) (cIfS c s t) := PS.imp (ps_if hc ha hb) fun De σ H ⟨C, F, Γ, fl, Γ', R, hc, k⟩ => by
  unfold cIfS at hc
  simp only [Option.bind_eq_some_iff] at hc
  obtain ⟨⟨b, Γ1⟩, h1, hc⟩ := hc
  refine ⟨C, F, Γ, b, Γ1, R, h1, fun F' H' l R' => ?_⟩
  cases b with
  | true => exact ⟨C, F', Γ1, fl, Γ', R', hc, fun F2 H2 σ2 l2 R2 => k F2 H2 σ2 (l.trans l2) R2⟩
  | false => exact ⟨C, F', Γ1, fl, Γ', R', hc, fun F2 H2 σ2 l2 R2 => k F2 H2 σ2 (l.trans l2) R2⟩
def cNever : CS := fun _ => none
theorem s_never {st : Stmt} : S X st cNever := ⟨fun _ _ _ _ _ _ ⟨_, _, _, _, _, _, hc, _⟩ => by cases hc⟩

/-! ### loops -/
def forL (g : CG) (body : CS) : List D → CS
  | [], Γ => some (.nx, Γ)
  | d :: ds, Γ => (g d Γ).bind fun Γ1 => (body Γ1).bind fun p => match p.1 with
    | .nx => forL g body ds p.2
    | .ct => forL g body ds p.2
    | .bk => some (.nx, p.2)
    | .rt r => some (.rt r, p.2)
def cFor (ci : CI) (g : CG) (body : CS) : CS := fun Γ => (ci Γ).bind fun p => forL g body p.1 p.2
/-- what is yielded is frozen -/
theorem yd_get {K : Fr} {C : Ct} {F1 F H H' : Hp} {σ : L2.St} {Γ : En} {ds : List D} {i : Nat} {x : V} (l : Le F1 F) (R : Rel K C F H σ Γ) (y : YD K F1 ds i H x H') : ∃ F' d, Le F F' ∧ Rel K C F' H' σ Γ ∧ ds[i]? = some d ∧ Dp K F' x d := by
  rcases y with ⟨rfl, d, h1, h2⟩ | ⟨T, vs, es, rfl, hT, rfl, h1, h2⟩
  · exact ⟨F, d, Le.refl _, R, h1, dp_mono l h2⟩
  · have g := Grow.new R.sub (o := .tup vs) hT
    exact ⟨_, _, g.f, R.grow g, h1, .tup (SqT.of upd_same) (dpa_mono (l.trans g.f) h2)⟩
theorem drop_cons {α : Type} {l : List α} {i : Nat} {x : α} (h : l[i]? = some x) : l.drop i = x :: l.drop (i + 1) := by
  obtain ⟨h1, h2⟩ := List.getElem?_eq_some_iff.mp h
  rw [List.drop_eq_getElem_cons h1, h2]
theorem for_to {K : Fr} {ci : CI} {ts : List Nat} {g : CG} {body : CS} {De : Ends} {σ : L2.St} {H : Hp} (h : tS K (cFor ci g body) De σ H) : tFor (tI K ci) (tG K ts g) (tS K body) De σ H := by
  obtain ⟨C, F, Γ, fl, Γ', R, hc, k⟩ := h
  unfold cFor at hc
  simp only [Option.bind_eq_some_iff] at hc
  obtain ⟨⟨ds, Γ1⟩, h1, hc⟩ := hc
  refine ⟨C, F, Γ, ds, Γ1, R, h1, fun F1 H1 J l1 R1 w => ?_⟩
  refine ⟨fun i m σ H => m = ds.length - i ∧ i ≤ ds.length ∧ ∃ F2 Γ2, Le F1 F2 ∧ Rel K C F2 H σ Γ2 ∧ forL g body (ds.drop i) Γ2 = some (fl, Γ'), ⟨ds.length, by simp, Nat.zero_le _, F1, Γ1, Le.refl _, R1, hc⟩, ?_⟩
  rintro i m σ H ⟨rfl, hi, F2, Γ2, l2, R2, hf⟩
  by_cases hlt : i < ds.length
  · refine .inr ⟨w.goes i H hlt (l2.trans R2.sub), fun σ' H' => ∃ F2 Γ2, Le F1 F2 ∧ Rel K C F2 H' σ' Γ2 ∧ forL g body (ds.drop (i + 1)) Γ2 = some (fl, Γ'), fun σ' H' ⟨F3, Γ3, q⟩ => ⟨ds.length - (i + 1), by omega, rfl, hlt, F3, Γ3, q⟩, fun x H' y => ?_⟩
    obtain ⟨F3, d, l3, R3, hd, q⟩ := yd_get l2 R2 (w.yields i H x H' hlt (l2.trans R2.sub) y)
    rw [drop_cons hd] at hf
    unfold forL at hf
    simp only [Option.bind_eq_some_iff] at hf
    obtain ⟨Γ3, h3, ⟨f4, Γ4⟩, h4, hf⟩ := hf
    refine ⟨C, F3, Γ2, d, Γ3, R3, q, h3, fun F4 H4 σ4 l4 R4 _ => ?_⟩
    refine ⟨C, F4, Γ3, f4, Γ4, R4, h4, fun F5 H5 σ5 l5 R5 => ?_⟩
    have l15 : Le F1 F5 := (l2.trans l3).trans (l4.trans l5)
    cases f4 with
    | nx => exact ⟨F5, Γ4, l15, R5, hf⟩
    | ct => exact ⟨F5, Γ4, l15, R5, hf⟩
    | bk => cases hf; exact k F5 H5 σ5 (l1.trans l15) R5
    | rt r => cases hf; exact k F5 H5 σ5 (l1.trans l15) R5
  · have e : i = ds.length := by omega
    subst e
    rw [List.drop_length] at hf
    cases hf
    exact .inl ⟨w.stops H (l2.trans R2.sub), k F2 H σ (l1.trans l2) R2⟩
theorem s_for {iter tg : Expr} {body : List Stmt} {ci : CI} {ts : List Nat} {g : CG} {s : CS} (hp : PassesOwn (model X.prog X.w) X.A X.env X.xe) (hc : X.calm = true) (hi : I X tg iter ci) (hg : G X tg ts g) (hb : B X body s)
    (hs : ∀ x, foldedSetIterable iter X.env x = pure x := by intro _; rfl) : S X (.For tg iter body [] pos) (cFor ci g s) :=
  PS.imp (ps_for hp hc hi hg hb hs) fun _ _ _ h => for_to h
def whL (c : CT) (body : CS) : Nat → CS
  | 0, _ => none
  | n + 1, Γ => (c Γ).bind fun p => if p.1 = true then (body p.2).bind fun q => (match q.1 with
    | .nx => whL c body n q.2
    | .ct => whL c body n q.2
    | .bk => some (.nx, q.2)
    | .rt r => some (.rt r, q.2)) else some (.nx, p.2)
theorem whL_mono {c : CT} {body : CS} : ∀ {n : Nat} {Γ : En} {x}, whL c body n Γ = some x → ∀ m, n ≤ m → whL c body m Γ = some x
  | 0, _, _, h, _, _ => by cases h
  | n + 1, Γ, x, h, 0, hm => by omega
  | n + 1, Γ, x, h, m + 1, hm => by
    unfold whL at h ⊢
    simp only [Option.bind_eq_some_iff] at h ⊢
    obtain ⟨p, h1, h2⟩ := h
    refine ⟨p, h1, ?_⟩
    split
    · rename_i hp
      rw [if_pos hp] at h2
      simp only [Option.bind_eq_some_iff] at h2 ⊢
      obtain ⟨⟨f, Γ2⟩, h3, h4⟩ := h2
      refine ⟨⟨f, Γ2⟩, h3, ?_⟩
      cases f with
      | nx => exact whL_mono h4 m (by omega)
      | ct => exact whL_mono h4 m (by omega)
      | bk => exact h4
      | rt r => exact h4
    · rename_i hp
      rw [if_neg hp] at h2
      exact h2
open Classical in
noncomputable def cWh (c : CT) (body : CS) : CS := fun Γ => if h : ∃ x, ∃ n, whL c body n Γ = some x then some (choose h) else none
theorem cWh_of {c : CT} {body : CS} {n : Nat} {Γ : En} {x : Fl × En} (h : whL c body n Γ = some x) : cWh c body Γ = some x := by
  have e : ∃ x, ∃ n, whL c body n Γ = some x := ⟨x, n, h⟩
  unfold cWh
  rw [dif_pos e]
  obtain ⟨m, hm⟩ := Classical.choose_spec e
  have h1 := whL_mono h (max n m) (Nat.le_max_left _ _)
  have h2 := whL_mono hm (max n m) (Nat.le_max_right _ _)
  rw [h1] at h2
  exact h2.symm
theorem cWh_ex {c : CT} {body : CS} {Γ : En} {x : Fl × En} (h : cWh c body Γ = some x) : ∃ n, whL c body n Γ = some x := by
  unfold cWh at h
  split at h
  · rename_i e
    cases h
    exact Classical.choose_spec e
  · cases h
theorem while_to {K : Fr} {c : CT} {body : CS} {De : Ends} {σ : L2.St} {H : Hp} (h : tS K (cWh c body) De σ H) : tWhile (tT K c) (tS K body) De σ H := by
  obtain ⟨C, F, Γ, fl, Γ', R, hc, k⟩ := h
  obtain ⟨n, hc⟩ := cWh_ex hc
  refine ⟨fun m σ H => ∃ F2 Γ2, Le F F2 ∧ Rel K C F2 H σ Γ2 ∧ whL c body m Γ2 = some (fl, Γ'), ⟨n, F, Γ, Le.refl _, R, hc⟩, ?_⟩
  rintro m σ H ⟨F2, Γ2, l2, R2, hw⟩
  cases m with
  | zero => cases hw
  | succ m =>
    unfold whL at hw
    simp only [Option.bind_eq_some_iff] at hw
    obtain ⟨⟨b, Γ3⟩, h3, hw⟩ := hw
    refine ⟨C, F2, Γ2, b, Γ3, R2, h3, fun F3 H3 l3 R3 => ?_⟩
    cases b with
    | false => cases hw; exact k F3 H3 σ (l2.trans l3) R3
    | true =>
      rw [if_pos rfl] at hw ⊢
      simp only [Option.bind_eq_some_iff] at hw
      obtain ⟨⟨f4, Γ4⟩, h4, hf⟩ := hw
      refine ⟨fun σ' H' => ∃ F2 Γ2, Le F F2 ∧ Rel K C F2 H' σ' Γ2 ∧ whL c body m Γ2 = some (fl, Γ'), fun σ' H' q => ⟨m, Nat.lt_succ_self m, q⟩, ?_⟩
      refine ⟨C, F3, Γ3, f4, Γ4, R3, h4, fun F5 H5 σ5 l5 R5 => ?_⟩
      have l15 : Le F F5 := l2.trans (l3.trans l5)
      cases f4 with
      | nx => exact ⟨F5, Γ4, l15, R5, hf⟩
      | ct => exact ⟨F5, Γ4, l15, R5, hf⟩
      | bk => cases hf; exact k F5 H5 σ5 l15 R5
      | rt r => cases hf; exact k F5 H5 σ5 l15 R5
theorem s_while {x : Expr} {body : List Stmt} {c : CT} {s : CS} (hp : PassesOwn (model X.prog X.w) X.A X.env X.xe) (hc : T X x c) (hb : B X body s) : S X (.While x body [] pos) (cWh c s) :=
  PS.imp (ps_while hp hc hb) fun _ _ _ h => while_to h
end
end Pu

namespace Pu
open PySem PySem.Spec PyProof.Rows L2

/-! ### comprehensions -/
def wipeG (Γ : En) : List Nat → En
  | [] => Γ
  | v :: vs => (wipeG Γ vs).set v .no
def restore (Γ1 Γ2 : En) : List Nat → En
  | [] => Γ2
  | v :: vs => match Γ1[v]? with
    | some s => (restore Γ1 Γ2 vs).set v s
    | none => restore Γ1 Γ2 vs
def lcL (g : CG) (cond : CT) (elt : CE) (vs : List Nat) : List D → List D → En → Option (List D × En)
  | [], acc, Γ => some (acc, Γ)
  | d :: ds, acc, Γ => (g d Γ).bind fun Γ1 => (cond Γ1).bind fun p => if p.1 = true then
      (elt p.2).bind fun q => if acc.length < sizeLine then lcL g cond elt vs ds (acc ++ [q.1]) (wipeG q.2 vs) else none
    else lcL g cond elt vs ds acc (wipeG p.2 vs)
def notOwn (Γ : En) (v : Nat) : Bool := match Γ[v]? with
  | some s => !s.own
  | none => false
def cLc (vs : List Nat) (ci : CI) (g : CG) (cond : CT) (elt : CE) : CN := fun Γ => (ci Γ).bind fun p =>
  if vs.all (notOwn p.2) = true then (lcL g cond elt vs p.1 [] (wipeG p.2 vs)).bind fun q => some (.nw (.list q.1), restore p.2 q.2 vs) else none
theorem wipe_get (σ : L2.St) : ∀ (vs : List Nat) (j : Nat), (wipe σ vs)[j]? = if j ∈ vs then (if j < σ.length then some none else none) else σ[j]?
  | [], j => by simp [wipe]
  | v :: vs, j => by
    unfold wipe
    by_cases hv : v = j
    · subst hv
      simp only [List.mem_cons, true_or, if_true]
      by_cases hl : v < σ.length
      · rw [get_set_eq (by rw [wipe_length]; exact hl), if_pos hl]
      · rw [List.getElem?_eq_none (by rw [List.length_set, wipe_length]; omega), if_neg hl]
    · rw [List.getElem?_set_ne hv, wipe_get σ vs j]
      have : (j ∈ v :: vs) ↔ j ∈ vs := by simp [Ne.symm hv]
      simp only [this]
theorem same_wipe {ts vs : List Nat} {σ σ' : L2.St} (h : Same ts (wipe σ vs) σ') (hs : ∀ t ∈ ts, t ∈ vs) : wipe σ' vs = wipe σ vs := by
  apply List.ext_getElem?
  intro j
  rw [wipe_get, wipe_get]
  have hl : σ'.length = σ.length := by rw [h.1, wipe_length]
  split
  · rw [hl]
  · rename_i hj
    rw [h.2 j (fun z => hj (hs j z)), wipe_get, if_neg hj]
theorem wipeG_len (Γ : En) : ∀ vs, (wipeG Γ vs).length = Γ.length
  | [] => rfl
  | v :: vs => by unfold wipeG; rw [List.length_set, wipeG_len Γ vs]
theorem restore_get (Γ1 Γ2 : En) (hl : Γ2.length = Γ1.length) : ∀ (vs : List Nat), (restore Γ1 Γ2 vs).length = Γ2.length ∧ ∀ j, (restore Γ1 Γ2 vs)[j]? = if j ∈ vs then Γ1[j]? else Γ2[j]?
  | [] => ⟨rfl, fun j => by simp [restore]⟩
  | v :: vs => by
    obtain ⟨h1, h2⟩ := restore_get Γ1 Γ2 hl vs
    unfold restore
    split
    · rename_i s hs
      refine ⟨by rw [List.length_set]; exact h1, fun j => ?_⟩
      by_cases hv : v = j
      · subst hv
        rw [get_set_eq (by rw [h1, hl]; exact lt_of_get hs)]
        simp [hs]
      · rw [List.getElem?_set_ne hv, h2 j]
        have : (j ∈ v :: vs) ↔ j ∈ vs := by simp [Ne.symm hv]
        simp only [this]
    · rename_i hs
      refine ⟨h1, fun j => ?_⟩
      rw [h2 j]
      by_cases hv : v = j
      · subst hv
        have e2 : Γ2[v]? = none := by
          rw [List.getElem?_eq_none_iff] at hs ⊢; omega
        simp [hs, e2]
      · have : (j ∈ v :: vs) ↔ j ∈ vs := by simp [Ne.symm hv]
        simp only [this]
section
variable {K : Fr} {C : Ct} {F H F' H' : Hp} {σ : L2.St} {Γ : En}
theorem Rel.unset (r : Rel K C F H σ Γ) (i : Nat) : Rel K C F H (σ.set i none) (Γ.set i .no) := by
  have key : ∀ (j : Nat) (s : Sl), (Γ.set i .no)[j]? = some s → s = .no ∨ (i ≠ j ∧ Γ[j]? = some s ∧ (σ.set i none)[j]? = σ[j]?) := fun j s e => by
    by_cases hij : i = j
    · subst hij
      rw [List.getElem?_set] at e
      simp only [if_true] at e
      split at e
      · cases e; exact .inl rfl
      · cases e
    · rw [List.getElem?_set_ne hij] at e
      exact .inr ⟨hij, e, List.getElem?_set_ne hij⟩
  refine ⟨r.sub, by rw [List.length_set, List.length_set]; exact r.len, fun j s e => ?_, fun j k s t a hj e1 e2 o1 o2 => ?_, r.keep, r.hid, fun j u a e1 o1 e2 => ?_, r.there⟩
  · rcases key j s e with rfl | ⟨h1, h2, h3⟩
    · trivial
    · rw [h3]; exact r.ok j s h2
  · rcases key j s e1 with rfl | ⟨h1, h2, h3⟩
    · cases o1
    · rcases key k t e2 with rfl | ⟨h4, h5, h6⟩
      · cases o2
      · rw [h3, h6]; exact r.apart j k s t a hj h2 h5 o1 o2
  · rcases key j u e1 with rfl | ⟨h1, h2, h3⟩
    · cases o1
    · rw [h3] at e2; exact r.pin j u a h2 o1 e2
theorem Rel.wiped (r : Rel K C F H σ Γ) : ∀ vs, Rel K C F H (wipe σ vs) (wipeG Γ vs)
  | [] => r
  | v :: vs => (Rel.wiped r vs).unset v
theorem Rel.restored {F1 H1 : Hp} {Γ1 Γ2 : En} {vs : List Nat} (r1 : Rel K C F1 H1 σ Γ1) (r2 : Rel K C F H (wipe σ vs) Γ2) (l : Le F1 F) (hv : vs.all (notOwn Γ1) = true) : Rel K C F H σ (restore Γ1 Γ2 vs) := by
  have hlen : Γ2.length = Γ1.length := by rw [← r1.len, ← r2.len, wipe_length]
  obtain ⟨q1, q2⟩ := restore_get Γ1 Γ2 hlen vs
  have key : ∀ (j : Nat) (s : Sl), (restore Γ1 Γ2 vs)[j]? = some s → (s.own = false ∧ Γ1[j]? = some s) ∨ (Γ2[j]? = some s ∧ (wipe σ vs)[j]? = σ[j]?) := fun j s e => by
    rw [q2 j] at e
    split at e
    · rename_i hj
      refine .inl ⟨?_, e⟩
      have z := List.all_eq_true.mp hv j hj
      unfold notOwn at z
      rw [e] at z
      simpa using z
    · rename_i hj
      exact .inr ⟨e, by rw [wipe_get, if_neg hj]⟩
  refine ⟨r2.sub, by rw [q1, ← r2.len, wipe_length], fun j s e => ?_, fun j k s t a hj e1 e2 o1 o2 => ?_, r2.keep, r2.hid, fun j u a e1 o1 e2 => ?_, r2.there⟩
  · rcases key j s e with ⟨h1, h2⟩ | ⟨h1, h2⟩
    · have z := r1.ok j s h2
      cases s with
      | no => trivial
      | fr d => obtain ⟨x, w1, w2⟩ := z; exact ⟨x, w1, dp_mono l w2⟩
      | ow d => cases h1
      | ln d => cases h1
    · rw [← h2]; exact r2.ok j s h1
  · rcases key j s e1 with ⟨h1, h2⟩ | ⟨h1, h2⟩
    · rw [h1] at o1; cases o1
    · rcases key k t e2 with ⟨h4, h5⟩ | ⟨h4, h5⟩
      · rw [h4] at o2; cases o2
      · rw [← h2, ← h5]; exact r2.apart j k s t a hj h1 h4 o1 o2
  · rcases key j u e1 with ⟨h1, h2⟩ | ⟨h1, h2⟩
    · rw [h1] at o1; cases o1
    · rw [← h2] at e2; exact r2.pin j u a h1 o1 e2
/-- not any slot's own -/
def NoOwn (σ : L2.St) (Γ : En) (a : Addr) : Prop := ∀ (i : Nat) (s : Sl), Γ[i]? = some s → s.own = true → σ[i]? ≠ some (some (.ref a))
/-- an object that stands for itself is held -/
theorem Rel.held (r : Rel K C F H σ Γ) {D : Addr} {o : HO} (h : H D = some o) (hF : F D = none) (n : NoOwn σ Γ D) : Rel K { C with Pn := upd C.Pn D o } F H σ Γ := by
  refine ⟨r.sub, r.len, r.ok, r.apart, fun a u e => ?_, fun a u e => ?_, fun i s a e1 o1 e2 => ?_, r.there⟩
  · by_cases ha : a = D
    · subst ha; have e' : upd C.Pn a o a = some u := e; rw [upd_same] at e'; rw [h]; exact e'
    · have e' : upd C.Pn D o a = some u := e; rw [upd_ne ha] at e'; exact r.keep a u e'
  · by_cases ha : a = D
    · subst ha; exact hF
    · have e' : upd C.Pn D o a = some u := e; rw [upd_ne ha] at e'; exact r.hid a u e'
  · have ha : a ≠ D := fun z => n i s e1 o1 (by rw [e2, z])
    show upd C.Pn D o a = none
    rw [upd_ne ha]; exact r.pin i s a e1 o1 e2
theorem Rel.unheld {D : Addr} {o : HO} (r : Rel K { C with Pn := upd C.Pn D o } F H σ Γ) (hP : C.Pn D = none) : Rel K C F H σ Γ ∧ H D = some o ∧ F D = none ∧ NoOwn σ Γ D := by
  have l : Le C.Pn (upd C.Pn D o) := Le.new hP
  refine ⟨⟨r.sub, r.len, r.ok, r.apart, fun a u e => r.keep a u (l a u e), fun a u e => r.hid a u (l a u e), fun i s a e1 o1 e2 => ?_, r.there⟩, r.keep D o upd_same, r.hid D o upd_same, fun i s e1 o1 e2 => ?_⟩
  · have q := r.pin i s a e1 o1 e2
    have q' : upd C.Pn D o a = none := q
    cases h : C.Pn a with
    | none => rfl
    | some u => rw [l a u h] at q'; cases q'
  · have q : upd C.Pn D o D = none := r.pin i s D e1 o1 e2
    rw [upd_same] at q; cases q
/-- such an object changes -/
theorem Rel.chg (r : Rel K C F H σ Γ) {D : Addr} {o : HO} (hF : F D = none) (hP : C.Pn D = none) (n : NoOwn σ Γ D) : Rel K C F (upd H D o) σ Γ := by
  refine ⟨fun a u e => ?_, r.len, fun i s e => ?_, r.apart, fun a u e => ?_, r.hid, r.pin, fun a u e => ?_⟩
  · rw [upd_ne (fun z => by rw [z, hF] at e; cases e)]; exact r.sub a u e
  · have z := r.ok i s e
    cases s with
    | no => trivial
    | fr d => exact z
    | ow d =>
      obtain ⟨a, e1, e2, m1, ds, xs, m2, m3, m4⟩ := z
      exact ⟨a, e1, e2, m1, ds, xs, m2, by rw [upd_ne (fun z => n i _ e rfl (by rw [e1, z]))]; exact m3, m4⟩
    | ln d =>
      obtain ⟨a, e1, e2, m1, ds, xs, m2, m3, m4⟩ := z
      exact ⟨a, e1, e2, m1, ds, xs, m2, by rw [upd_ne (fun z => n i _ e rfl (by rw [e1, z]))]; exact m3, m4⟩
  · rw [upd_ne (fun z => by rw [z, hP] at e; cases e)]; exact r.keep a u e
  · by_cases ha : a = D
    · exact ⟨_, by rw [ha]; exact upd_same⟩
    · rw [upd_ne ha]; exact r.there a u e
theorem NoOwn.fresh (r : Rel K C F H σ Γ) {p : Addr} (h : H p = none) : NoOwn σ Γ p := fun i s e o z => by
  have w := r.ok i s e
  cases s with
  | no => cases o
  | fr d => cases o
  | ow d => obtain ⟨a, e1, _, _, _, _, _, e2, _⟩ := w; rw [z] at e1; cases e1; rw [h] at e2; cases e2
  | ln d => obtain ⟨a, e1, _, _, _, _, _, e2, _⟩ := w; rw [z] at e1; cases e1; rw [h] at e2; cases e2
theorem NoOwn.wiped {p : Addr} (n : NoOwn σ Γ p) : ∀ vs, NoOwn (wipe σ vs) (wipeG Γ vs) p
  | [] => n
  | v :: vs => fun i s e o z => by
    unfold wipe at z
    unfold wipeG at e
    by_cases hv : v = i
    · subst hv
      rw [List.getElem?_set] at e
      simp only [if_true] at e
      split at e
      · cases e; cases o
      · cases e
    · rw [List.getElem?_set_ne hv] at e z
      exact NoOwn.wiped n vs i s e o z
theorem dpa_snoc {F : Hp} {x : V} {d : D} : ∀ {vs : List V} {ds : List D}, DpAll K F vs ds → Dp K F x d → DpAll K F (vs ++ [x]) (ds ++ [d])
  | _, _, .nil, h => .cons h .nil
  | _, _, .cons a t, h => .cons a (dpa_snoc t h)
end
theorem lc_to {K : Fr} {ci : CI} {ts vs : List Nat} {g : CG} {cond : CT} {elt : CE} {σ : L2.St} {H : Hp} {Q : VK} (hs : ∀ t ∈ ts, t ∈ vs) (h : tN K (cLc vs ci g cond elt) σ H Q) : tLc (tI K ci) (tG K ts g) (tT K cond) (tE K elt) vs σ H Q := by
  obtain ⟨C, F, Γ, r, Γ', R, hc, k⟩ := h
  unfold cLc at hc
  simp only [Option.bind_eq_some_iff] at hc
  obtain ⟨⟨ds, Γ1⟩, h1, hc⟩ := hc
  split at hc
  · rename_i hv
    simp only [Option.bind_eq_some_iff, Option.some.injEq, Prod.mk.injEq] at hc
    obtain ⟨⟨out, Γz⟩, hl, rfl, rfl⟩ := hc
    refine ⟨C, F, Γ, ds, Γ1, R, h1, fun F1 H1 J l1 R1 w A nA => ?_⟩
    have hP : C.Pn A = none := R1.freshP nA
    have h0 : C.H0 A = none := R1.fresh nA
    refine lc_it w (fun i H => ∃ F2 Γ2 acc xs, Le F1 F2 ∧ Rel K C F2 H (wipe σ vs) Γ2 ∧ H A = some (.lst xs) ∧ F2 A = none ∧ DpAll K F2 xs acc ∧ NoOwn (wipe σ vs) Γ2 A ∧ lcL g cond elt vs (ds.drop i) acc Γ2 = some (out, Γz))
      ⟨F1, wipeG Γ1 vs, [], [], Le.refl _, (R1.chg (R1.freshF nA) hP (NoOwn.fresh R1 nA)).wiped vs, upd_same, R1.freshF nA, .nil, (NoOwn.fresh R1 nA).wiped vs, hl⟩
      (fun i H _ ⟨F2, Γ2, acc, xs, l2, R2, _⟩ => l2.trans R2.sub) ?_ ?_
    · rintro i x H2 H3 hi ⟨F2, Γ2, acc, xs, l2, R2, hA, hF, hD, hn, hf⟩ y
      have Rp := R2.held hA hF hn
      obtain ⟨F3, d, l3, R3, hd, q⟩ := yd_get l2 Rp y
      rw [drop_cons hd] at hf
      unfold lcL at hf
      simp only [Option.bind_eq_some_iff] at hf
      obtain ⟨Γ3, h3, ⟨b, Γ4⟩, h4, hf⟩ := hf
      refine ⟨_, F3, Γ2, d, Γ3, R3, q, h3, fun F4 H4 σ4 l4 R4 sm => ⟨same_wipe sm hs, ?_⟩⟩
      have ew : wipe σ4 vs = wipe σ vs := same_wipe sm hs
      refine ⟨_, F4, Γ3, b, Γ4, R4, h4, fun F5 H5 l5 R5 => ?_⟩
      have l25 : Le F2 F5 := l3.trans (l4.trans l5)
      cases b with
      | false =>
        rw [if_neg Bool.false_ne_true] at hf
        refine iteF ?_
        obtain ⟨R6, hA6, hF6, hn6⟩ := R5.unheld hP
        exact ⟨F5, wipeG Γ4 vs, acc, xs, l2.trans l25, by rw [← ew]; exact R6.wiped vs, hA6, hF6, dpa_mono l25 hD, by rw [← ew]; exact hn6.wiped vs, hf⟩
      | true =>
        rw [if_pos rfl] at hf
        refine iteT ?_
        simp only [Option.bind_eq_some_iff] at hf
        obtain ⟨⟨z, Γ5⟩, h5, hf⟩ := hf
        refine ⟨_, F5, Γ4, z, Γ5, R5, h5, fun F6 H6 u l6 R6 qz => ?_⟩
        obtain ⟨R7, hA7, hF7, hn7⟩ := R6.unheld hP
        split at hf
        · rename_i hz
          have l26 : Le F2 F6 := l25.trans l6
          refine ⟨xs, hA7, by rw [dpa_len hD]; exact hz, F6, wipeG Γ5 vs, acc ++ [z], xs ++ [u], l2.trans l26, ?_, upd_same, hF7, dpa_snoc (dpa_mono l26 hD) qz, by rw [← ew]; exact hn7.wiped vs, hf⟩
          rw [← ew]
          exact (R7.chg hF7 hP hn7).wiped vs
        · cases hf
    · rintro H2 ⟨F2, Γ2, acc, xs, l2, R2, hA, hF, hD, hn, hf⟩
      rw [List.drop_length] at hf
      unfold lcL at hf
      cases hf
      have R3 := R1.restored R2 l2 hv
      refine k F2 H2 _ (l1.trans l2) R3 ⟨A, rfl, h0, hP, ⟨hF, _, xs, rfl, hA, hD⟩, fun i s e o z => ?_⟩
      have hlen : Γz.length = Γ1.length := by rw [← R1.len, ← R2.len, wipe_length]
      obtain ⟨q1, q2⟩ := restore_get Γ1 Γz hlen vs
      rw [q2 i] at e
      split at e
      · rename_i hj
        have z := List.all_eq_true.mp hv i hj
        unfold notOwn at z
        rw [e] at z
        simp [o] at z
      · rename_i hj
        exact hn i s e o (by rw [wipe_get, if_neg hj]; exact z)
  · cases hc
section
variable {X : Cx}
theorem n_lc {elt tg iter : Expr} {ifs : List Expr} {scope : Scope} {own : List (Str × Nat)} {pos : Pos} {ci : CI} {ts : List Nat} {g : CG} {cond : CT} {ce : CE} (hc : X.calm = true) (hN : X.N.Nodup) (hi : I X tg iter ci) (ok : BlkOk X.N X.env.scope scope own)
    (hg : ∀ (s : Shared) (H : Hp) (C : Addr) (cl : List (Str × Addr)) (fp : List Addr), G (X.blk s H scope (compEnvC scope cl C X.env) fp) tg ts g) (ht : ∀ (s : Shared) (H : Hp) (C : Addr) (cl : List (Str × Addr)) (fp : List Addr), PTs (X.blk s H scope (compEnvC scope cl C X.env) fp) ifs (tT X.K cond))
    (he : ∀ (s : Shared) (H : Hp) (C : Addr) (cl : List (Str × Addr)) (fp : List Addr), E (X.blk s H scope (compEnvC scope cl C X.env) fp) elt ce) (hts : ∀ t ∈ ts, t ∈ own.map (·.2) := by decide) (hs : ∀ x, foldedSetIterable iter X.env x = pure x := by intro _; rfl) :
    N X (.ListComp elt [⟨tg, iter, ifs, 0⟩] scope pos) (cLc (own.map (·.2)) ci g cond ce) :=
  PE.imp (pe_lc hc hN hi ok hg ht he hs) fun _ _ _ h => lc_to hts h
/-- name = [..] on one line, the name a local: frozen, or its own -/
theorem s_setLc {i : Nat} {y : Str} {py : Pos} {elt tg iter : Expr} {ifs : List Expr} {scope : Scope} {own : List (Str × Nat)} {pos spos : Pos} {ci : CI} {ts : List Nat} {g : CG} {cond : CT} {ce : CE} (hc : X.calm = true) (hN : X.N.Nodup) (hy : X.N[i]? = some y) (hyl : X.env.scope.names.lookup y = some .local)
    (hsw : swapsWith (.ListComp elt [⟨tg, iter, ifs, 0⟩] scope pos) (some (.Name y py)) spos.line X.env = pure true) (hi : I X tg iter ci) (ok : BlkOk X.N X.env.scope scope own)
    (hg : ∀ (s : Shared) (H : Hp) (C : Addr) (cl : List (Str × Addr)) (fp : List Addr), G (X.blk s H scope (compEnvC scope cl C X.env) fp) tg ts g) (ht : ∀ (s : Shared) (H : Hp) (C : Addr) (cl : List (Str × Addr)) (fp : List Addr), PTs (X.blk s H scope (compEnvC scope cl C X.env) fp) ifs (tT X.K cond))
    (he : ∀ (s : Shared) (H : Hp) (C : Addr) (cl : List (Str × Addr)) (fp : List Addr), E (X.blk s H scope (compEnvC scope cl C X.env) fp) elt ce) (hts : ∀ t ∈ ts, t ∈ own.map (·.2) := by decide) (hs : ∀ x, foldedSetIterable iter X.env x = pure x := by intro _; rfl) :
    S X (.Assign [.Name y py] (.ListComp elt [⟨tg, iter, ifs, 0⟩] scope pos) spos) (cSetN i (cLc (own.map (·.2)) ci g cond ce)) :=
  PS.imp (ps_setLc hc hN hy hyl hsw hi ok hg ht he hs) fun _ _ _ h => lc_to hts (setN_to h)
def cYes : CT := fun Γ => some (true, Γ)
theorem ts_nil : PTs X [] (tT X.K cYes) := ⟨fun pins s σ H Q I ⟨C, F, Γ, b, Γ', R, hc, k⟩ => by
  cases hc
  exact pts_nil.run pins s σ H Q I (k F H (Le.refl _) R)⟩
theorem ts_one {x : Expr} {c : CT} (h : T X x c) : PTs X [x] (tT X.K c) := pts_one h
end

/-! ### what is walked -/
section
variable {X : Cx} {tg e : Expr} {c : CE}
theorem walkD_list {K : Fr} {F : Hp} {a : Addr} {xs : List V} {ds : List D} (h : SqL K F a xs) (q : DpAll K F xs ds) : WalkD K F (Itl K a) ds := by
  have w := (walk_list (K := K) (a := a) (xs := xs)).mono (G' := fun H => Le F H) (Y' := YD K F ds) (fun H l => l.sql h) fun i H x H' hi l y => .inl ⟨y.1, dpa_get q y.2⟩
  rw [dpa_len q] at w
  exact w
where dpa_get {K : Fr} {F : Hp} {x : V} : ∀ {xs : List V} {ds : List D} {i : Nat}, DpAll K F xs ds → xs[i]? = some x → ∃ d, ds[i]? = some d ∧ Dp K F x d
  | _, _, 0, .cons h _, e => by simp at e; subst e; exact ⟨_, rfl, h⟩
  | _, _, i + 1, .cons _ t, e => by
    obtain ⟨d, h1, h2⟩ := dpa_get (i := i) t (by simpa using e)
    exact ⟨d, by simpa using h1, h2⟩
theorem walkD_tup {K : Fr} {F : Hp} {a : Addr} {xs : List V} {ds : List D} (h : SqT K F a xs) (q : DpAll K F xs ds) : WalkD K F (Itt K a) ds := by
  have w := (walk_tup (K := K) (a := a) (xs := xs)).mono (G' := fun H => Le F H) (Y' := YD K F ds) (fun H l => l.sqt h) fun i H x H' hi l y => .inl ⟨y.1, walkD_list.dpa_get q y.2⟩
  rw [dpa_len q] at w
  exact w
def rngD (lo : Int) (n : Nat) : List D := (List.range n).map fun i => .int (lo + (i : Nat))
theorem walkD_range {K : Fr} {F : Hp} {lo : Int} {n : Nat} : WalkD K F (Itr lo n) (rngD lo n) := by
  have w := (walk_range (lo := lo) (n := n)).mono (G' := fun H => Le F H) (Y' := YD K F (rngD lo n)) (fun H l => trivial) fun i H x H' hi l y => .inl ⟨y.1, .int (lo + (i : Nat)), by unfold rngD; simp [hi], by rw [y.2]; exact .int _⟩
  have e : (rngD lo n).length = n := by unfold rngD; simp
  unfold WalkD
  rw [e]
  exact w
/-- a list or a tuple -/
def cIt (c : CE) : CI := fun Γ => (c Γ).bind fun p => match p.1 with
  | .list ds => some (ds, p.2)
  | .tuple ds => some (ds, p.2)
  | _ => none
theorem PI.imp {t u : TI} (h : PI X tg e t) (i : ∀ σ H R, u σ H R → t σ H R) : PI X tg e u := ⟨fun pins s σ H R I q => h.run pins s σ H R I (i _ _ _ q)⟩
theorem i_seq (h : E X e c) : I X tg e (cIt c) := ⟨fun pins s σ H R J ⟨C, F, Γ, ds, Γ', Rl, hc, k⟩ => by
  unfold cIt at hc
  simp only [Option.bind_eq_some_iff] at hc
  obtain ⟨⟨d, Γ1⟩, h1, hc⟩ := hc
  cases d with
  | list es =>
    cases hc
    refine (pi_list h).run pins s σ H R J ⟨C, F, Γ, _, _, Rl, h1, fun F' H' v l R' q => ?_⟩
    cases q with
    | @lst a xs _ hs hd => exact ⟨a, rfl, ⟨xs, R'.sub.sql hs⟩, k F' H' _ l R' (walkD_list hs hd)⟩
  | tuple es =>
    cases hc
    refine (pi_tup h).run pins s σ H R J ⟨C, F, Γ, _, _, Rl, h1, fun F' H' v l R' q => ?_⟩
    cases q with
    | @tup a xs _ hs hd => exact ⟨a, rfl, ⟨xs, R'.sub.sqt hs⟩, k F' H' _ l R' (walkD_tup hs hd)⟩
  | _ => cases hc⟩
def cRng1 (c : CA) : CI := fun Γ => (c Γ).bind fun p => match p.1 with
  | [.int j] => if -(2 ^ 62) ≤ j ∧ j < 2 ^ 62 then some (rngD 0 j.toNat, p.2) else none
  | _ => none
theorem i_rng1 {a : Expr} {c : CA} {p pos : Pos} (hg : Gl X "range") (hm : X.mg "range" = none) (ha : Ar X [a] c) (hs : starEach [a] X.env = [(false, eval a X.env)] := by rfl) : I X tg (.Call (.Name "range" p) [a] [] pos) (cRng1 c) :=
  PI.imp (pi_range1 hg hm ha hs) fun σ H R ⟨C, F, Γ, ds, Γ', Rl, hc, k⟩ => by
    unfold cRng1 at hc
    simp only [Option.bind_eq_some_iff] at hc
    obtain ⟨⟨es, Γ1⟩, h1, hc⟩ := hc
    refine ⟨C, F, Γ, es, Γ1, Rl, h1, fun F' H' vs l R' q => ?_⟩
    split at hc
    · rename_i j e
      simp only at e
      subst e
      split at hc
      · rename_i hj
        cases hc
        cases q with
        | cons q1 q2 =>
          cases q2
          cases q1
          exact ⟨j, rfl, hj.1, hj.2, k F' H' _ l R' walkD_range⟩
      · cases hc
    · cases hc
def cRng2 (c : CA) : CI := fun Γ => (c Γ).bind fun p => match p.1 with
  | [.int i, .int j] => if -(2 ^ 62) ≤ i ∧ i < 2 ^ 62 ∧ -(2 ^ 62) ≤ j ∧ j < 2 ^ 62 then some (rngD i (j - i).toNat, p.2) else none
  | _ => none
theorem i_rng2 {a b : Expr} {c : CA} {p pos : Pos} (hg : Gl X "range") (hm : X.mg "range" = none) (ha : Ar X [a, b] c) (hs : starEach [a, b] X.env = [(false, eval a X.env), (false, eval b X.env)] := by rfl) (hs2 : starEach [b] X.env = [(false, eval b X.env)] := by rfl) :
    I X tg (.Call (.Name "range" p) [a, b] [] pos) (cRng2 c) :=
  PI.imp (pi_range2 hg hm ha hs hs2) fun σ H R ⟨C, F, Γ, ds, Γ', Rl, hc, k⟩ => by
    unfold cRng2 at hc
    simp only [Option.bind_eq_some_iff] at hc
    obtain ⟨⟨es, Γ1⟩, h1, hc⟩ := hc
    refine ⟨C, F, Γ, es, Γ1, Rl, h1, fun F' H' vs l R' q => ?_⟩
    split at hc
    · rename_i i j e
      simp only at e
      subst e
      split at hc
      · rename_i hj
        cases hc
        cases q with
        | cons q1 q2 =>
          cases q2 with
          | cons q3 q4 =>
            cases q4
            cases q1
            cases q3
            exact ⟨i, j, rfl, hj, k F' H' _ l R' walkD_range⟩
      · cases hc
    · cases hc
end
end Pu

namespace Pu
open PySem PySem.Spec PyProof.Rows L2

/-! ### defs -/
abbrev CF := En → Option (Rv × En)
/-- what is left of the slots behind a call: what was lent -/
def kept : Sl → Sl
  | .ln d => .ln d
  | _ => .no
def cFun (n m : Nat) (body : CS) : CF := fun as => if as.length = m then (body (as ++ List.replicate (n - m) .no)).bind fun p => match p.1 with
  | .nx => some (.fr .none, (p.2.take m).map kept)
  | .rt r => some (r, (p.2.take m).map kept)
  | _ => none else none
theorem kept_ln {Γ : En} {m i : Nat} {d : D} (h : ((Γ.take m).map kept)[i]? = some (.ln d)) : Γ[i]? = some (.ln d) := by
  rw [List.getElem?_map] at h
  cases e : (Γ.take m)[i]? with
  | none => rw [e] at h; simp at h
  | some s =>
    rw [e] at h
    rw [List.getElem?_take] at e
    split at e
    · rw [e]
      cases s <;> simp [kept] at h
      rw [h]
    · cases e
/-- an argument as it stands -/
def ArgOk (K : Fr) (F H : Hp) (v : V) : Sl → Prop
  | .fr d => Dp K F v d
  | .ln d => ∃ a, v = .ref a ∧ Mu K F H a d
  | _ => False
structure ArgsOk (K : Fr) (F H : Hp) (vs : List V) (as : En) : Prop where
  len : vs.length = as.length
  ok : ∀ (i : Nat) (v : V) (s : Sl), vs[i]? = some v → as[i]? = some s → ArgOk K F H v s
  apart : ∀ (i j : Nat) (d e : D) (a b : Addr), i ≠ j → as[i]? = some (.ln d) → as[j]? = some (.ln e) → vs[i]? = some (.ref a) → vs[j]? = some (.ref b) → a ≠ b
def Lent (vs : List V) (as : En) (a : Addr) : Prop := ∃ (i : Nat) (d : D), as[i]? = some (.ln d) ∧ vs[i]? = some (.ref a)
structure Back (K : Fr) (F H F' H' : Hp) (vs : List V) (as Γf : En) : Prop where
  f : Le F F'
  s : Le F' H'
  keep : ∀ a o, H a = some o → ¬ Lent vs as a → H' a = some o
  hid : ∀ a o, H a = some o → F a = none → ¬ Lent vs as a → F' a = none
  there : ∀ a o, H a = some o → ∃ u, H' a = some u
  back : ∀ (i : Nat) (d : D), Γf[i]? = some (.ln d) → ∃ a, vs[i]? = some (.ref a) ∧ (∃ e, as[i]? = some (.ln e)) ∧ Mu K F' H' a d
def Res (K : Fr) (H F' H' : Hp) (v : V) : Rv → Prop
  | .fr d => Dp K F' v d
  | .nw d => ∃ a, v = .ref a ∧ H a = none ∧ Mu K F' H' a d
def spP (K : Fr) (cf : CF) : Sp := fun vs H Q _ => ∃ F as r Γf, cf as = some (r, Γf) ∧ Le F H ∧ ArgsOk K F H vs as ∧ ∀ F' H' v, Back K F H F' H' vs as Γf → Res K H F' H' v r → Q v H'
open Classical in
/-- where a body stands at its start -/
noncomputable def ctOf (F H : Hp) (vs : List V) (as : En) : Ct where
  H0 := H
  Pn := fun a => if (F a).isSome = true ∨ Lent vs as a then none else H a
  A := fun i => match as[i]?, vs[i]? with
    | some (.ln _), some (.ref a) => some a
    | _, _ => none
theorem ctOf_A {F H : Hp} {vs : List V} {as : En} {i : Nat} {a : Addr} (h : (ctOf F H vs as).A i = some a) : vs[i]? = some (.ref a) ∧ ∃ e, as[i]? = some (.ln e) := by
  have h' : (match as[i]?, vs[i]? with
    | some (.ln _), some (.ref a) => some a
    | _, _ => none) = some a := h
  split at h'
  · rename_i d b e1 e2
    cases h'
    exact ⟨e2, d, e1⟩
  · cases h'
theorem app_get {α : Type} {l r : List α} {i : Nat} {x : α} (h : (l ++ r)[i]? = some x) : l[i]? = some x ∨ (l.length ≤ i ∧ r[i - l.length]? = some x) := by
  by_cases hi : i < l.length
  · rw [List.getElem?_append_left hi] at h; exact .inl h
  · rw [List.getElem?_append_right (by omega)] at h; exact .inr ⟨by omega, h⟩
open Classical in
theorem rel_start {K : Fr} {F H : Hp} {vs : List V} {as : En} {N : List Str} (s : Le F H) (a : ArgsOk K F H vs as) (hN : vs.length ≤ N.length) : Rel K (ctOf F H vs as) F H (L2.start N vs) (as ++ List.replicate (N.length - as.length) .no) := by
  have key : ∀ (i : Nat) (s : Sl), (as ++ List.replicate (N.length - as.length) Sl.no)[i]? = some s → s = .no ∨ (as[i]? = some s ∧ ∃ v, vs[i]? = some v ∧ (L2.start N vs)[i]? = some (some v)) := fun i s e => by
    rcases app_get e with e | ⟨_, e⟩
    · refine .inr ⟨e, ?_⟩
      have hi : i < vs.length := by rw [a.len]; exact lt_of_get e
      refine ⟨vs[i], List.getElem?_eq_getElem hi, ?_⟩
      unfold L2.start
      rw [List.getElem?_append_left (by simpa using hi)]
      simp [hi]
    · rw [List.getElem?_replicate] at e
      split at e
      · cases e; exact .inl rfl
      · cases e
  refine ⟨s, ?_, fun i s e => ?_, fun i j s t b hij e1 e2 o1 o2 z1 z2 => ?_, fun b o e => ?_, fun b o e => ?_, fun i s b e o z => ?_, fun b o e => ⟨o, e⟩⟩
  · unfold L2.start
    have := a.len
    simp; omega
  · rcases key i s e with rfl | ⟨h1, v, h2, h3⟩
    · trivial
    · rw [h3]
      have q := a.ok i v s h2 h1
      cases s with
      | no => cases q
      | fr d => exact ⟨v, rfl, q⟩
      | ow d => cases q
      | ln d =>
        obtain ⟨b, rfl, m⟩ := q
        refine ⟨b, rfl, ?_, m⟩
        show (match as[i]?, vs[i]? with
          | some (.ln _), some (.ref a) => some a
          | _, _ => none) = some b
        rw [h1, h2]
  · rcases key i s e1 with rfl | ⟨h1, v, h2, h3⟩
    · cases o1
    · rcases key j t e2 with rfl | ⟨h4, w, h5, h6⟩
      · cases o2
      · rw [z1] at h3; cases h3
        rw [z2] at h6; cases h6
        have q1 := a.ok i _ s h2 h1
        have q2 := a.ok j _ t h5 h4
        cases s with
        | no => cases o1
        | fr d => cases o1
        | ow d => cases q1
        | ln d =>
          cases t with
          | no => cases o2
          | fr d => cases o2
          | ow d => cases q2
          | ln d2 => exact a.apart i j d d2 b b hij h1 h4 h2 h5 rfl
  · have e' : (if (F b).isSome = true ∨ Lent vs as b then none else H b) = some o := e
    split at e'
    · cases e'
    · exact e'
  · have e' : (if (F b).isSome = true ∨ Lent vs as b then none else H b) = some o := e
    split at e'
    · cases e'
    · rename_i h
      cases hF : F b with
      | none => rfl
      | some u => exact absurd (.inl (by simp [hF])) h
  · rcases key i s e with rfl | ⟨h1, v, h2, h3⟩
    · cases o
    · rw [z] at h3; cases h3
      have q := a.ok i _ s h2 h1
      show (if (F b).isSome = true ∨ Lent vs as b then none else H b) = none
      cases s with
      | no => cases o
      | fr d => cases o
      | ow d => cases q
      | ln d => rw [if_pos (.inr ⟨i, d, h1, h2⟩)]
open Classical in
theorem rel_end {K : Fr} {F H F' H' : Hp} {vs : List V} {as : En} {σ : L2.St} {Γ : En} (s0 : Le F H) (l : Le F F') (r : Rel K (ctOf F H vs as) F' H' σ Γ) : Back K F H F' H' vs as Γ := by
  have hPn : ∀ a o, H a = some o → F a = none → ¬ Lent vs as a → (ctOf F H vs as).Pn a = some o := fun a o e hF n => by
    show (if (F a).isSome = true ∨ Lent vs as a then none else H a) = some o
    rw [if_neg (fun z => z.elim (by simp [hF]) n)]; exact e
  refine ⟨l, r.sub, fun a o e n => ?_, fun a o e hF n => ?_, fun a o e => r.there a o e, fun i d e => ?_⟩
  · cases hF : F a with
    | some u =>
      have e2 := s0 a u hF
      rw [e] at e2; cases e2
      exact r.sub a o (l a o hF)
    | none => exact r.keep a o (hPn a o e hF n)
  · exact r.hid a o (hPn a o e hF n)
  · obtain ⟨a, e1, e2, m⟩ := r.ok i _ e
    obtain ⟨h1, h2⟩ := ctOf_A e2
    exact ⟨a, h1, h2, m⟩
theorem ok_fun {P : Program} {w : World} {K : Fr} {mg : Str → Option Value} {base : Heap} {x qual : Str} {st : Stmt} {f : Addr} {fd : FuncData} {N ps : List Str} {k : Nat} {body : CS} (Fn : Fun K x qual st f fd) (Sc : FnScope N ps (defScope st)) (hN : ps.length ≤ N.length)
    (hb : ∀ (cdv : Value) (A : Around) (outer : List Env) (s : Shared) (H : Hp) (E : XK), Room k (A.deeper (envOfC qual (defScope st) s.heap.objs.size f cdv)) → B (cxOf CX0 P w K mg base N qual (defScope st) f cdv A outer s H E).nox (defBody st) body) :
    FnOk P w K mg base CX0 (k + 1) f fd ps (spP K (cFun N.length ps.length body)) := by
  have hlen : ∀ {as : En} {r : Rv} {Γf : En}, cFun N.length ps.length body as = some (r, Γf) → as.length = ps.length := fun h => by
    unfold cFun at h
    split at h
    · assumption
    · cases h
  refine Fn.ok Sc (fun vs H Q E h => ?_) (fun cdv A outer s H vs Q E hr h => ?_)
  · obtain ⟨F, as, r, Γf, hc, _, a, _⟩ := h
    rw [a.len]; exact hlen hc
  · obtain ⟨F, as, r, Γf, hc, s0, a, k⟩ := h
    have h1 := hlen hc
    refine ⟨_, hb cdv A outer s H E hr, ?_⟩
    unfold cFun at hc
    rw [if_pos h1] at hc
    simp only [Option.bind_eq_some_iff] at hc
    obtain ⟨⟨fl, Γ1⟩, h2, hc⟩ := hc
    have hs := rel_start (N := N) s0 a (by rw [a.len, h1]; exact hN)
    rw [h1] at hs
    refine ⟨ctOf F H vs as, F, _, fl, Γ1, hs, h2, fun F' H' σ' l R => ?_⟩
    have bk0 := rel_end s0 l R
    have bk : Back K F H F' H' vs as ((Γ1.take ps.length).map kept) := ⟨bk0.f, bk0.s, bk0.keep, bk0.hid, bk0.there, fun i d e => bk0.back i d (kept_ln e)⟩
    cases fl with
    | nx => cases hc; exact k F' H' _ bk .non
    | rt q =>
      cases hc
      intro v g
      refine k F' H' v bk ?_
      cases r with
      | fr d => exact g
      | nw d => obtain ⟨a, e, h0, _, m, _⟩ := g; exact ⟨a, e, h0, m⟩
    | bk => cases hc
    | ct => cases hc

/-! ### calls: the slots that are lent come first -/
def lnd (Γ : En) : List Nat → Option En
  | [] => some []
  | i :: is => match Γ[i]? with
    | some (.ow d) => (lnd Γ is).bind fun r => some (.ln d :: r)
    | some (.ln d) => (lnd Γ is).bind fun r => some (.ln d :: r)
    | _ => none
def backS (Γ : En) (i : Nat) (d : D) : En := Γ.set i (match Γ[i]? with
  | some (.ln _) => .ln d
  | _ => .ow d)
def backL (Γ : En) : List Nat → En → Option En
  | [], _ => some Γ
  | i :: is, .ln d :: r => backL (backS Γ i d) is r
  | _, _ => none
def cCall (cf : CF) (ls : List Nat) (ca : CA) : CN := fun Γ => (lnd Γ ls).bind fun _ => (ca Γ).bind fun p => (lnd p.2 ls).bind fun as => if ls.Nodup then
  (cf (as ++ p.1.map .fr)).bind fun q => (backL p.2 ls q.2).bind fun Γ2 => some (q.1, Γ2) else none
theorem lnd_spec {Γ : En} : ∀ {ls : List Nat} {as : En}, lnd Γ ls = some as → as.length = ls.length ∧ ∀ (k i : Nat), ls[k]? = some i → ∃ d, as[k]? = some (.ln d) ∧ (Γ[i]? = some (.ow d) ∨ Γ[i]? = some (.ln d))
  | [], as, h => by cases h; exact ⟨rfl, fun k i e => by simp at e⟩
  | i :: is, as, h => by
    unfold lnd at h
    split at h <;> first | cases h | skip
    · rename_i d hd
      simp only [Option.bind_eq_some_iff, Option.some.injEq] at h
      obtain ⟨r, h1, rfl⟩ := h
      obtain ⟨q1, q2⟩ := lnd_spec h1
      refine ⟨by simp [q1], fun k j e => ?_⟩
      cases k with
      | zero => simp at e; subst e; exact ⟨d, rfl, .inl hd⟩
      | succ k => simp at e; obtain ⟨d', e1, e2⟩ := q2 k j e; exact ⟨d', by simpa using e1, e2⟩
    · rename_i d hd
      simp only [Option.bind_eq_some_iff, Option.some.injEq] at h
      obtain ⟨r, h1, rfl⟩ := h
      obtain ⟨q1, q2⟩ := lnd_spec h1
      refine ⟨by simp [q1], fun k j e => ?_⟩
      cases k with
      | zero => simp at e; subst e; exact ⟨d, rfl, .inr hd⟩
      | succ k => simp at e; obtain ⟨d', e1, e2⟩ := q2 k j e; exact ⟨d', by simpa using e1, e2⟩
theorem backL_spec : ∀ {ls : List Nat} {Γ Γf Γ2 : En}, ls.Nodup → backL Γ ls Γf = some Γ2 → Γ2.length = Γ.length ∧ (∀ j, j ∉ ls → Γ2[j]? = Γ[j]?) ∧
    ∀ (k i : Nat), ls[k]? = some i → i < Γ.length → ∃ d, Γf[k]? = some (.ln d) ∧ Γ2[i]? = some (match Γ[i]? with | some (.ln _) => .ln d | _ => .ow d)
  | [], Γ, Γf, Γ2, _, h => by unfold backL at h; cases h; exact ⟨rfl, fun _ _ => rfl, fun k i e => by simp at e⟩
  | i :: is, Γ, Γf, Γ2, hn, h => by
    cases Γf with
    | nil => unfold backL at h; cases h
    | cons s r =>
      cases s with
      | ln d =>
        have h' : backL (backS Γ i d) is r = some Γ2 := h
        obtain ⟨hi, hn'⟩ := List.nodup_cons.mp hn
        obtain ⟨q1, q2, q3⟩ := backL_spec hn' h'
        have hlen : (backS Γ i d).length = Γ.length := by unfold backS; rw [List.length_set]
        refine ⟨by rw [q1, hlen], fun j hj => ?_, fun k j e hl => ?_⟩
        · rw [q2 j (fun z => hj (List.mem_cons_of_mem _ z))]
          unfold backS
          rw [List.getElem?_set_ne (fun z => hj (by simp [z]))]
        · cases k with
          | zero =>
            simp at e; subst e
            refine ⟨d, rfl, ?_⟩
            rw [q2 i hi]
            unfold backS
            rw [get_set_eq hl]
          | succ k =>
            simp at e
            obtain ⟨d', e1, e2⟩ := q3 k j e (by rw [hlen]; exact hl)
            have hij : i ≠ j := fun z => hi (by rw [z]; exact List.mem_of_getElem? e)
            refine ⟨d', by simpa using e1, ?_⟩
            rw [e2]
            unfold backS
            rw [List.getElem?_set_ne hij]
      | _ => unfold backL at h; cases h
theorem dpa_at {K : Fr} {F : Hp} : ∀ {vs : List V} {ds : List D} {i : Nat} {v : V} {d : D}, DpAll K F vs ds → vs[i]? = some v → ds[i]? = some d → Dp K F v d
  | _, _, 0, _, _, .cons h _, e1, e2 => by simp at e1 e2; subst e1 e2; exact h
  | _, _, i + 1, _, _, .cons _ t, e1, e2 => dpa_at (i := i) t (by simpa using e1) (by simpa using e2)
section
variable {K : Fr} {C : Ct} {F H F' H' : Hp} {σ : L2.St} {Γ : En}
/-- behind a call -/
theorem Rel.called (R : Rel K C F H σ Γ) {ls : List Nat} {las : En} {ws vs : List V} {ds : List D} {Γf Γ2 : En} {r : Rv} {v : V} (hn : ls.Nodup) (hl : lnd Γ ls = some las) (hw : ws.length = ls.length) (hwσ : ∀ (k i : Nat), ls[k]? = some i → ∃ x, σ[i]? = some (some x) ∧ ws[k]? = some x)
    (q : DpAll K F vs ds) (hb : backL Γ ls Γf = some Γ2) (b : Back K F H F' H' (ws ++ vs) (las ++ ds.map .fr) Γf) (hr : Res K H F' H' v r) : Rel K C F' H' σ Γ2 ∧ Got K C F' H' σ Γ2 v r := by
  obtain ⟨n1, n2⟩ := lnd_spec hl
  obtain ⟨m1, m2, m3⟩ := backL_spec hn hb
  have dn := dpa_len q
  -- who is lent
  have lent : ∀ a, Lent (ws ++ vs) (las ++ ds.map .fr) a → ∃ (k i : Nat), ls[k]? = some i ∧ σ[i]? = some (some (.ref a)) := fun a ⟨k, d, e1, e2⟩ => by
    rcases app_get e1 with e1 | ⟨_, e1⟩
    · have hk : k < ls.length := by rw [← n1]; exact lt_of_get e1
      obtain ⟨x, x1, x2⟩ := hwσ k ls[k] (List.getElem?_eq_getElem hk)
      rw [List.getElem?_append_left (by rw [hw]; exact hk), x2] at e2
      cases e2
      exact ⟨k, ls[k], List.getElem?_eq_getElem hk, x1⟩
    · rw [List.getElem?_map] at e1
      cases h : ds[k - las.length]? with
      | none => rw [h] at e1; simp at e1
      | some d' => rw [h] at e1; simp at e1
  have own_i : ∀ (k i : Nat), ls[k]? = some i → ∃ s : Sl, Γ[i]? = some s ∧ s.own = true := fun k i e => by
    obtain ⟨d, _, e2 | e2⟩ := n2 k i e
    · exact ⟨_, e2, rfl⟩
    · exact ⟨_, e2, rfl⟩
  have notL : ∀ (j : Nat) (s : Sl) (a : Addr), j ∉ ls → Γ[j]? = some s → s.own = true → σ[j]? = some (some (.ref a)) → ¬ Lent (ws ++ vs) (las ++ ds.map .fr) a := fun j s a hj e o z lt => by
    obtain ⟨k, i, e1, e2⟩ := lent a lt
    obtain ⟨t, t1, t2⟩ := own_i k i e1
    have hij : i ≠ j := fun w => hj (by rw [← w]; exact List.mem_of_getElem? e1)
    exact R.apart i j t s a hij t1 e t2 o e2 z
  -- the slots behind
  have key : ∀ (j : Nat) (s : Sl), Γ2[j]? = some s → (j ∉ ls ∧ Γ[j]? = some s) ∨ ∃ (k : Nat) (d : D) (a : Addr), ls[k]? = some j ∧ σ[j]? = some (some (.ref a)) ∧ Mu K F' H' a d ∧ ((s = .ow d ∧ ∃ e, Γ[j]? = some (.ow e)) ∨ (s = .ln d ∧ ∃ e, Γ[j]? = some (.ln e))) := fun j s e => by
    by_cases hj : j ∈ ls
    · obtain ⟨k, hk⟩ := List.getElem?_of_mem hj
      obtain ⟨t, t1, t2⟩ := own_i k j hk
      obtain ⟨d, d1, d2⟩ := m3 k j hk (lt_of_get t1)
      obtain ⟨a, a1, _, a3⟩ := b.back k d d1
      obtain ⟨x, x1, x2⟩ := hwσ k j hk
      rw [List.getElem?_append_left (by rw [hw]; exact lt_of_get hk), x2] at a1
      cases a1
      rw [e] at d2
      cases d2
      refine .inr ⟨k, d, a, hk, x1, a3, ?_⟩
      obtain ⟨d0, _, z | z⟩ := n2 k j hk
      · rw [z]; exact .inl ⟨rfl, d0, rfl⟩
      · rw [z]; exact .inr ⟨rfl, d0, rfl⟩
    · rw [m2 j hj] at e; exact .inl ⟨hj, e⟩
  have ownOf : ∀ (j : Nat) (s : Sl), Γ2[j]? = some s → s.own = true → ∃ t, Γ[j]? = some t ∧ t.own = true := fun j s e o => by
    rcases key j s e with ⟨_, h⟩ | ⟨_, d, a, _, _, _, ⟨rfl, e', h⟩ | ⟨rfl, e', h⟩⟩
    · exact ⟨s, h, o⟩
    · exact ⟨_, h, rfl⟩
    · exact ⟨_, h, rfl⟩
  have pnL : ∀ a o, C.Pn a = some o → ¬ Lent (ws ++ vs) (las ++ ds.map .fr) a := fun a o e lt => by
    obtain ⟨k, i, e1, e2⟩ := lent a lt
    obtain ⟨t, t1, t2⟩ := own_i k i e1
    rw [R.pin i t a t1 t2 e2] at e; cases e
  have R2 : Rel K C F' H' σ Γ2 := by
    refine ⟨b.s, by rw [m1]; exact R.len, fun j s e => ?_, fun j k s t a hj e1 e2 o1 o2 z1 z2 => ?_, fun a o e => ?_, fun a o e => ?_, fun j s a e o z => ?_, fun a o e => ?_⟩
    · rcases key j s e with ⟨hj, h⟩ | ⟨k, d, a, hk, hσ, mu, ⟨rfl, e', h⟩ | ⟨rfl, e', h⟩⟩
      · have z := R.ok j s h
        cases s with
        | no => trivial
        | fr d => obtain ⟨x, x1, x2⟩ := z; exact ⟨x, x1, dp_mono b.f x2⟩
        | ow d =>
          obtain ⟨a, x1, x2, x3, es, xs, x4, x5, x6⟩ := z
          have nl := notL j _ a hj h rfl x1
          exact ⟨a, x1, x2, b.hid a _ x5 x3 nl, es, xs, x4, b.keep a _ x5 nl, dpa_mono b.f x6⟩
        | ln d =>
          obtain ⟨a, x1, x2, x3, es, xs, x4, x5, x6⟩ := z
          have nl := notL j _ a hj h rfl x1
          exact ⟨a, x1, x2, b.hid a _ x5 x3 nl, es, xs, x4, b.keep a _ x5 nl, dpa_mono b.f x6⟩
      · obtain ⟨a', x1, x2, _⟩ := R.ok j _ h
        rw [hσ] at x1; cases x1
        exact ⟨a, hσ, x2, mu⟩
      · obtain ⟨a', x1, x2, _⟩ := R.ok j _ h
        rw [hσ] at x1; cases x1
        exact ⟨a, hσ, x2, mu⟩
    · obtain ⟨s', s1, s2⟩ := ownOf j s e1 o1
      obtain ⟨t', t1, t2⟩ := ownOf k t e2 o2
      exact R.apart j k s' t' a hj s1 t1 s2 t2 z1 z2
    · exact b.keep a o (R.keep a o e) (pnL a o e)
    · exact b.hid a o (R.keep a o e) (R.hid a o e) (pnL a o e)
    · obtain ⟨s', s1, s2⟩ := ownOf j s e o
      exact R.pin j s' a s1 s2 z
    · obtain ⟨u, hu⟩ := R.there a o e
      exact b.there a u hu
  refine ⟨R2, ?_⟩
  cases r with
  | fr d => exact hr
  | nw d =>
    obtain ⟨a, rfl, h0, m⟩ := hr
    refine ⟨a, rfl, R.fresh h0, R.freshP h0, m, fun i s e o z => ?_⟩
    obtain ⟨t, t1, t2⟩ := ownOf i s e o
    exact NoOwn.fresh R h0 i t t1 t2 z
end
/-- the lent names, then the other arguments -/
def tL (K : Fr) (ls : List Nat) (c : CA) : TA := fun σ H Q => (∀ i ∈ ls, ∃ x, σ[i]? = some (some x)) ∧ ∃ C F Γ ds Γ', Rel K C F H σ Γ ∧ c Γ = some (ds, Γ') ∧
  ∀ F' H' ws vs, Le F F' → Rel K C F' H' σ Γ' → DpAll K F' vs ds → ws.length = ls.length → (∀ (k i : Nat), ls[k]? = some i → ∃ x, σ[i]? = some (some x) ∧ ws[k]? = some x) → Q (ws ++ vs) H'
abbrev AL (X : Cx) (es : List Expr) (ls : List Nat) (c : CA) : Prop := PA X es (tL X.K ls c)
section
variable {X : Cx} {e : Expr} {es : List Expr} {c : CA} {pos : Pos}
theorem al_nil (h : Ar X es c) : AL X es [] c := PA.imp h fun σ H Q ⟨_, C, F, Γ, ds, Γ', R, hc, k⟩ =>
  ⟨C, F, Γ, ds, Γ', R, hc, fun F' H' vs l R' q => k F' H' [] vs l R' q rfl fun k i e => by simp at e⟩
theorem al_cons {i : Nat} {ls : List Nat} (h : PE X e (tVar i)) (hr : AL X es ls c) (hs : starEach (e :: es) X.env = (false, eval e X.env) :: starEach es X.env := by rfl) : AL X (e :: es) (i :: ls) c :=
  PA.imp (pa_cons h hr hs) fun σ H Q ⟨hi, C, F, Γ, ds, Γ', R, hc, k⟩ => by
    obtain ⟨x, hx⟩ := hi i (by simp)
    refine ⟨x, hx, fun j hj => hi j (by simp [hj]), C, F, Γ, ds, Γ', R, hc, fun F' H' ws vs l R' q hw hσ => ?_⟩
    refine k F' H' (x :: ws) vs l R' q (by simp [hw]) fun m j e => ?_
    cases m with
    | zero => simp at e; subst e; exact ⟨x, hx, rfl⟩
    | succ m => simp at e; obtain ⟨y, y1, y2⟩ := hσ m j e; exact ⟨y, y1, by simpa using y2⟩
theorem call_to {K : Fr} {cf : CF} {ls : List Nat} {ca : CA} {σ : L2.St} {H : Hp} {Q : VK} {E : XK} (h : tN K (cCall cf ls ca) σ H Q) : tCall (spP K cf) [] E (tL K ls ca) σ H Q := by
  obtain ⟨C, F, Γ, r, Γ', R, hc, k⟩ := h
  unfold cCall at hc
  simp only [Option.bind_eq_some_iff] at hc
  obtain ⟨as0, h0, ⟨ds, Γ1⟩, h1, as, h2, hc⟩ := hc
  split at hc
  · rename_i hn
    simp only [Option.bind_eq_some_iff, Option.some.injEq, Prod.mk.injEq] at hc
    obtain ⟨⟨r', Γf⟩, h3, Γ2, h4, rfl, rfl⟩ := hc
    have hi : ∀ i ∈ ls, ∃ x, σ[i]? = some (some x) := fun i hi => by
      obtain ⟨k, hk⟩ := List.getElem?_of_mem hi
      obtain ⟨d, _, e | e⟩ := (lnd_spec h0).2 k i hk
      · obtain ⟨a, e1, _⟩ := R.ok i _ e; exact ⟨_, e1⟩
      · obtain ⟨a, e1, _⟩ := R.ok i _ e; exact ⟨_, e1⟩
    refine ⟨hi, C, F, Γ, ds, Γ1, R, h1, fun F1 H1 ws vs l R1 q hw hσ => ?_⟩
    obtain ⟨n1, n2⟩ := lnd_spec h2
    have dn := dpa_len q
    rw [List.append_nil]
    refine ⟨F1, as ++ ds.map .fr, r', Γf, h3, R1.sub, ⟨by simp [hw, n1, dn], fun i v s e1 e2 => ?_, fun i j d e a b hij e1 e2 e3 e4 => ?_⟩, fun F' H' v b hr => ?_⟩
    · rcases app_get e2 with e2 | ⟨hl, e2⟩
      · have hi' : i < ls.length := by rw [← n1]; exact lt_of_get e2
        obtain ⟨d, d1, d2⟩ := n2 i ls[i] (List.getElem?_eq_getElem hi')
        rw [e2] at d1; cases d1
        obtain ⟨x, x1, x2⟩ := hσ i ls[i] (List.getElem?_eq_getElem hi')
        rw [List.getElem?_append_left (by rw [hw]; exact hi'), x2] at e1
        cases e1
        rcases d2 with d2 | d2
        · obtain ⟨a, a1, _, m⟩ := R1.ok _ _ d2
          rw [x1] at a1; cases a1
          exact ⟨a, rfl, m⟩
        · obtain ⟨a, a1, _, m⟩ := R1.ok _ _ d2
          rw [x1] at a1; cases a1
          exact ⟨a, rfl, m⟩
      · rw [List.getElem?_append_right (by omega)] at e1
        rw [List.getElem?_map] at e2
        cases hd : ds[i - as.length]? with
        | none => rw [hd] at e2; simp at e2
        | some d =>
          rw [hd] at e2
          simp at e2
          subst e2
          have : i - ws.length = i - as.length := by omega
          rw [this] at e1
          exact dpa_at q e1 hd
    · have side : ∀ (m : Nat) (d : D) (a : Addr), (as ++ ds.map .fr)[m]? = some (.ln d) → (ws ++ vs)[m]? = some (.ref a) → ∃ z s, ls[m]? = some z ∧ Γ1[z]? = some s ∧ s.own = true ∧ σ[z]? = some (some (.ref a)) := fun m d a e1 e2 => by
        rcases app_get e1 with e1 | ⟨hl, e1⟩
        · have hi' : m < ls.length := by rw [← n1]; exact lt_of_get e1
          obtain ⟨d', d1, d2⟩ := n2 m ls[m] (List.getElem?_eq_getElem hi')
          obtain ⟨x, x1, x2⟩ := hσ m ls[m] (List.getElem?_eq_getElem hi')
          rw [List.getElem?_append_left (by rw [hw]; exact hi'), x2] at e2
          cases e2
          rcases d2 with d2 | d2
          · exact ⟨_, _, List.getElem?_eq_getElem hi', d2, rfl, x1⟩
          · exact ⟨_, _, List.getElem?_eq_getElem hi', d2, rfl, x1⟩
        · rw [List.getElem?_map] at e1
          cases hd : ds[m - as.length]? with
          | none => rw [hd] at e1; simp at e1
          | some d' => rw [hd] at e1; simp at e1
      obtain ⟨z1, s1, p1, p2, p3, p4⟩ := side i d a e1 e3
      obtain ⟨z2, s2, p5, p6, p7, p8⟩ := side j e b e2 e4
      have hz : z1 ≠ z2 := fun w => by
        subst w
        have h5 := List.getElem?_eq_some_iff.mp p1
        have h6 := List.getElem?_eq_some_iff.mp p5
        obtain ⟨w1, w2⟩ := h5
        obtain ⟨w3, w4⟩ := h6
        exact hij ((List.getElem_inj hn).mp (w2.trans w4.symm))
      rintro rfl
      exact R1.apart z1 z2 s1 s2 a hz p2 p6 p3 p7 p4 p8
    · obtain ⟨R3, g⟩ := R1.called hn h2 hw hσ q h4 b hr
      exact k F' H' v (l.trans b.f) R3 g
  · cases hc
theorem n_call {k : Nat} {f : Addr} {fd : FuncData} {ps : List Str} {x : Str} {p : Pos} {cf : CF} {ls : List Nat} (Fk : FnOk X.prog X.w X.K X.mg X.base CX0 k f fd ps (spP X.K cf)) (hr : Room k X.A) (hg : Gl X x) (hm : X.mg x = some (.ref f)) (hk : PySem.W.keepIn X.K (.ref f) = true) (hb : Binds X.K fd ps [])
    (ha : AL X (e :: es) ls c) (hdb : (x == ("__debug__" : Str)) = false := by decide) (he : starEach (e :: es) X.env = (false, eval e X.env) :: starEach es X.env := by rfl) (hpl : (backTo pos (starEach es X.env)).any (·.1) = false := by rfl) :
    N X (.Call (.Name x p) (e :: es) [] pos) (cCall cf ls c) :=
  PE.imp (pe_call Fk hr hg hm hk hb .nil pass0 ha hdb he hpl) fun _ _ _ h => call_to h
theorem n_call0 {k : Nat} {f : Addr} {fd : FuncData} {ps : List Str} {x : Str} {p : Pos} {cf : CF} (Fk : FnOk X.prog X.w X.K X.mg X.base CX0 k f fd ps (spP X.K cf)) (hr : Room k X.A) (hg : Gl X x) (hm : X.mg x = some (.ref f)) (hk : PySem.W.keepIn X.K (.ref f) = true) (hb : Binds X.K fd ps [])
    (hdb : (x == ("__debug__" : Str)) = false := by decide) : N X (.Call (.Name x p) [] [] pos) (cCall cf [] cNil) :=
  PE.imp (pe_call0 Fk hr hg hm hk hb .nil pass0 hdb) fun σ H Q h => by
    obtain ⟨C, F, Γ, r, Γ', R, hc, k⟩ := h
    have q := call_to (E := E0) (σ := σ) (H := H) (Q := Q) (K := X.K) (cf := cf) (ls := []) (ca := cNil) ⟨C, F, Γ, r, Γ', R, hc, k⟩
    obtain ⟨hi, C, F, Γ, ds, Γ', R, hc, k⟩ := q
    cases hc
    exact k F H [] [] (Le.refl _) R .nil rfl fun k i e => by simp at e
end
end Pu

namespace Pu
open PySem PySem.Spec PyProof.Rows L2

/-! ### the operators' worth -/
def dAdd : D → D → Option D
  | .int i, .int j => some (.int (i + j))
  | .int i, .bool b => some (.int (i + b2i b))
  | .str a, .str b => if a.length + b.length ≤ sizeLine then some (.str (a ++ b)) else none
  | .tuple a, .tuple b => if a.length + b.length ≤ sizeLine then some (.tuple (a ++ b)) else none
  | .list a, .list b => if a.length + b.length ≤ sizeLine then some (.list (a ++ b)) else none
  | _, _ => none
def dSub : D → D → Option D
  | .int i, .int j => some (.int (i - j))
  | _, _ => none
instance (i j : Int) : Decidable (CMul i j) := by unfold CMul; exact inferInstance
instance (i j : Int) : Decidable (CDivN i j) := by unfold CDivN; exact inferInstance
instance (i j : Int) : Decidable (CPow i j) := by unfold CPow; exact inferInstance
def dMul : D → D → Option D
  | .int i, .int j => if CMul i j then some (.int (i * j)) else none
  | _, _ => none
def dFdiv : D → D → Option D
  | .int i, .int j => if CDivN i j then some (.int (i.fdiv j)) else none
  | _, _ => none
def dMod : D → D → Option D
  | .int i, .int j => if j ≠ 0 then some (.int (i.fmod j)) else none
  | _, _ => none
def dPow : D → D → Option D
  | .int i, .int j => if CPow i j then some (.int (i ^ j.toNat)) else none
  | _, _ => none
def dCmp (p : Int → Int → Bool) : D → D → Option D
  | .int i, .int j => some (.bool (p i j))
  | _, _ => none
def dEq (neg : Bool) (a b : D) : Option D := if SeqAt.shaped a = true ∧ SeqAt.shaped b = true then some (.bool (if neg then !PyData.eqv a b else PyData.eqv a b)) else none
def dIsNone (neg : Bool) (a b : D) : Option D := match b with
  | .none => some (.bool (match a with | .none => !neg | _ => neg))
  | _ => none
def flatD : D → Bool
  | .none => true
  | .bool _ => true
  | .int _ => true
  | .str _ => true
  | _ => false
def dIn (neg : Bool) (a b : D) : Option D := match b with
  | .list ds => if SeqAt.shaped a = true ∧ SeqAt.shaped (.list ds) = true then some (.bool (if neg then !ds.any fun z => PyData.eqv z a else ds.any fun z => PyData.eqv z a)) else none
  | .tuple ds => if flatD a = true ∧ ds.all flatD = true then some (.bool (if neg then !ds.any fun z => PyData.eqv z a else ds.any fun z => PyData.eqv z a)) else none
  | _ => none
def dIx : D → D → Option D
  | .list ds, .int i => atI ds i
  | .tuple ds, .int i => atI ds i
  | .str z, .int i => if z.length ≤ sizeLine then (atI z.cps.toList i).map fun c => .str ⟨#[c]⟩ else none
  | _, _ => none
def dNeg : D → Option D
  | .int i => some (.int (-i))
  | _ => none
section
variable {K : Fr} {F H : Hp} {v : V} {d : D}
theorem Lk.int {i : Int} (h : Lk K F H v (.int i)) : v = .int i := by
  rcases h with h | ⟨_, _, _, _, e, _⟩
  · cases h; rfl
  · cases e
theorem Lk.bool {b : Bool} (h : Lk K F H v (.bool b)) : v = .bl b := by
  rcases h with h | ⟨_, _, _, _, e, _⟩
  · cases h; rfl
  · cases e
theorem Lk.str {x : Str} (h : Lk K F H v (.str x)) : v = .str x := by
  rcases h with h | ⟨_, _, _, _, e, _⟩
  · cases h; rfl
  · cases e
theorem Lk.none (h : Lk K F H v .none) : v = .non := by
  rcases h with h | ⟨_, _, _, _, e, _⟩
  · cases h; rfl
  · cases e
theorem Lk.tuple {ds : List D} (h : Lk K F H v (.tuple ds)) : ∃ a xs, v = .ref a ∧ SqT K F a xs ∧ DpAll K F xs ds := by
  rcases h with h | ⟨_, _, _, _, e, _⟩
  · cases h with
    | @tup a xs _ h1 h2 => exact ⟨a, xs, rfl, h1, h2⟩
  · cases e
theorem Lk.list {ds : List D} (s : Le F H) (h : Lk K F H v (.list ds)) : ∃ a xs, v = .ref a ∧ SqL K H a xs ∧ DpAll K F xs ds := by
  rcases h with h | ⟨a, es, xs, rfl, e, h1, h2⟩
  · cases h with
    | @lst a xs _ h1 h2 => exact ⟨a, xs, rfl, s.sql h1, h2⟩
  · cases e; exact ⟨a, xs, rfl, SqL.of h1, h2⟩
theorem lk_non_iff (h : Lk K F H v d) : decide (v = .non) = (match d with | .none => true | _ => false) := by
  rcases h with h | ⟨a, es, xs, rfl, rfl, _⟩
  · cases h <;> simp
  · simp
theorem lk_flat (h : Lk K F H v d) (f : flatD d = true) : flatV v = true := by
  rcases h with h | ⟨a, es, xs, rfl, rfl, _⟩
  · cases h <;> first | rfl | cases f
  · cases f
theorem dp_flat (h : Dp K F v d) (f : flatD d = true) : flatV v = true := lk_flat (H := F) (.inl h) f
theorem eqV_eqv {v' : V} {d' : D} (h : Dp K F v d) (f : flatD d = true) (h' : Dp K F v' d') (f' : flatD d' = true) : eqV v v' = PyData.eqv d d' := by
  cases h <;> first | cases f | skip
  all_goals (cases h' <;> first | cases f' | skip)
  all_goals first | rfl | (simp only [eqV, PyData.eqv]; done) | skip
theorem dpa_flat : ∀ {vs : List V} {ds : List D}, DpAll K F vs ds → ds.all flatD = true → vs.all flatV = true
  | _, _, .nil, _ => rfl
  | _, _, .cons h t, f => by
    simp only [List.all_cons, Bool.and_eq_true] at f ⊢
    exact ⟨dp_flat h f.1, dpa_flat t f.2⟩
theorem inV_any {x : V} {e : D} (hx : Dp K F x e) (fe : flatD e = true) : ∀ {vs : List V} {ds : List D}, DpAll K F vs ds → ds.all flatD = true → inV x vs = ds.any fun z => PyData.eqv z e
  | _, _, .nil, _ => rfl
  | _, _, .cons h t, f => by
    simp only [List.all_cons, Bool.and_eq_true] at f
    have := inV_any hx fe t f.2
    simp only [inV, List.any_cons] at this ⊢
    rw [this, eqV_eqv h f.1 hx fe]
end

section
variable {X : Cx}
theorem Inv.atL {pins : List (Addr × Obj)} {σ : L2.St} {H : Hp} {s : Shared} {a : Addr} {xs : List V} (I : Inv X pins σ H s) (h : SqL X.K H a xs) :
    xs.length ≤ sizeLine ∧ ∃ (its : List Value) (o : Obj) (n : Nat), Vals xs its ∧ xs.length = its.length ∧ s.heap.get? a = some o ∧ o.cls = .type "list" ∧ o.dict = none ∧ o.data = .seq its.toArray n := by
  obtain ⟨its, r, ⟨o, n, e, c, d, q⟩, hz⟩ := I.list h
  exact ⟨hz, its, o, n, r, r.length, e, c, d, q⟩
/-- a + b of two lists that are read -/
def rCatL (K : Fr) : R2 := fun x y H Q => ∃ l b xs zs, x = .ref l ∧ y = .ref b ∧ SqL K H l xs ∧ SqL K H b zs ∧ xs.length + zs.length ≤ sizeLine ∧ ∀ p, H p = none → Q (.ref p) (upd H p (.lst (xs ++ zs)))
theorem op_catL : OpR X (binaryOp .Add) (rCatL X.K) := by
  intro pins s σ H x y v u Q I rx ry h
  obtain ⟨l, b, xs, zs, rfl, rfl, hH, hB, hz, q⟩ := h
  cases rx
  cases ry
  obtain ⟨z, its, o, n, r, hl, e, c, d, dd⟩ := Inv.atL I hH
  obtain ⟨z2, its2, o2, n2, r2, hl2, e2, c2, d2, dd2⟩ := Inv.atL I hB
  obtain ⟨oc, od, odt, osl⟩ := o
  obtain ⟨oc2, od2, odt2, osl2⟩ := o2
  simp only at c d dd c2 d2 dd2
  subst c d dd c2 d2 dd2
  refine concat_meets ⟨_, e, rfl⟩ ⟨_, e2, rfl⟩ noFill_list_add seq_list_add PySem.F.slot_list_add PySem.F.entry_list_add (PySem.F.args_list_add_2 _ _)
    (list_addW l b its.toArray its2.toArray n n2 none none osl osl2 (by rw [List.size_toArray, List.size_toArray]; omega)) ⟨e, e2, ?_⟩
  have ea : its.toArray ++ its2.toArray = (its ++ its2).toArray := by simp
  rw [ea]
  exact ⟨.ref _, _, I.lnew (t' := s.toks) (r.append r2) (by rw [List.length_append]; omega), rfl, q _ I.fresh⟩

/-! ### the operators by data -/
theorem dpa_app {K : Fr} {F : Hp} : ∀ {vs ws : List V} {ds es : List D}, DpAll K F vs ds → DpAll K F ws es → DpAll K F (vs ++ ws) (ds ++ es)
  | _, _, _, _, .nil, h => h
  | _, _, _, _, .cons a t, h => .cons a (dpa_app t h)
theorem od_add : OpR X (binaryOp .Add) (rD2 X.K dAdd) := by
  intro pins s σ H x y v u Q I rx ry ⟨F, d, e, z, sb, lx, ly, hf, q⟩
  cases d <;> cases e <;> simp only [dAdd, reduceCtorEq, Option.ite_none_right_eq_some, Option.some.injEq] at hf
  · subst hf
    exact op_add_ib pins s σ H x y v u Q I rx ry ⟨_, _, lx.int, ly.bool, q F H _ (Grow.refl sb) (.int _)⟩
  · subst hf
    exact op_add pins s σ H x y v u Q I rx ry ⟨_, _, lx.int, ly.int, q F H _ (Grow.refl sb) (.int _)⟩
  · obtain ⟨hz, hf⟩ := hf
    subst hf
    exact op_add_str pins s σ H x y v u Q I rx ry ⟨_, _, lx.str, ly.str, hz, q F H _ (Grow.refl sb) (.str _)⟩
  · obtain ⟨hz, hf⟩ := hf
    subst hf
    obtain ⟨a, xs, rfl, h1, h2⟩ := lx.list sb
    obtain ⟨b, ys, rfl, h3, h4⟩ := ly.list sb
    refine op_catL pins s σ H _ _ v u Q I rx ry ⟨a, b, xs, ys, rfl, rfl, h1, h3, by rw [dpa_len h2, dpa_len h4]; exact hz, fun p np => ?_⟩
    have g := Grow.new sb (o := .lst (xs ++ ys)) np
    exact q _ _ _ g (.lst (SqL.of upd_same) (dpa_mono g.f (dpa_app h2 h4)))
  · obtain ⟨hz, hf⟩ := hf
    subst hf
    obtain ⟨a, xs, rfl, h1, h2⟩ := lx.tuple
    obtain ⟨b, ys, rfl, h3, h4⟩ := ly.tuple
    refine op_catA pins s σ H _ _ v u Q I rx ry ⟨a, b, xs, ys, rfl, rfl, sb.sqt h1, sb.sqt h3, by rw [dpa_len h2, dpa_len h4]; exact hz, fun e => ?_, fun e e2 => ?_, fun e e2 p np => ?_⟩
    · subst e
      cases h2
      exact q F H _ (Grow.refl sb) (.tup h3 h4)
    · subst e2
      cases h4
      rw [List.append_nil] at q
      exact q F H _ (Grow.refl sb) (.tup h1 h2)
    · have g := Grow.new sb (o := .tup (xs ++ ys)) np
      exact q _ _ _ g (.tup (SqT.of upd_same) (dpa_mono g.f (dpa_app h2 h4)))
theorem od_sub : OpR X (binaryOp .Sub) (rD2 X.K dSub) := by
  intro pins s σ H x y v u Q I rx ry ⟨F, d, e, z, sb, lx, ly, hf, q⟩
  cases d <;> cases e <;> simp only [dSub, reduceCtorEq, Option.some.injEq] at hf
  subst hf
  exact op_sub pins s σ H x y v u Q I rx ry ⟨_, _, lx.int, ly.int, q F H _ (Grow.refl sb) (.int _)⟩
theorem od_mul : OpR X (binaryOp .Mult) (rD2 X.K dMul) := by
  intro pins s σ H x y v u Q I rx ry ⟨F, d, e, z, sb, lx, ly, hf, q⟩
  cases d <;> cases e <;> simp only [dMul, reduceCtorEq, Option.ite_none_right_eq_some, Option.some.injEq] at hf
  obtain ⟨hz, hf⟩ := hf
  subst hf
  exact op_mul pins s σ H x y v u Q I rx ry ⟨_, _, lx.int, ly.int, hz, q F H _ (Grow.refl sb) (.int _)⟩
theorem od_fdiv : OpR X (binaryOp .FloorDiv) (rD2 X.K dFdiv) := by
  intro pins s σ H x y v u Q I rx ry ⟨F, d, e, z, sb, lx, ly, hf, q⟩
  cases d <;> cases e <;> simp only [dFdiv, reduceCtorEq, Option.ite_none_right_eq_some, Option.some.injEq] at hf
  obtain ⟨hz, hf⟩ := hf
  subst hf
  exact op_fdivN pins s σ H x y v u Q I rx ry ⟨_, _, lx.int, ly.int, hz, q F H _ (Grow.refl sb) (.int _)⟩
theorem od_mod : OpR X (binaryOp .Mod) (rD2 X.K dMod) := by
  intro pins s σ H x y v u Q I rx ry ⟨F, d, e, z, sb, lx, ly, hf, q⟩
  cases d <;> cases e <;> simp only [dMod, reduceCtorEq, Option.ite_none_right_eq_some, Option.some.injEq] at hf
  obtain ⟨hz, hf⟩ := hf
  subst hf
  exact op_modN pins s σ H x y v u Q I rx ry ⟨_, _, lx.int, ly.int, hz, q F H _ (Grow.refl sb) (.int _)⟩
theorem od_pow : OpR X (binaryOp .Pow) (rD2 X.K dPow) := by
  intro pins s σ H x y v u Q I rx ry ⟨F, d, e, z, sb, lx, ly, hf, q⟩
  cases d <;> cases e <;> simp only [dPow, reduceCtorEq, Option.ite_none_right_eq_some, Option.some.injEq] at hf
  obtain ⟨hz, hf⟩ := hf
  subst hf
  exact op_pow pins s σ H x y v u Q I rx ry ⟨_, _, lx.int, ly.int, hz, q F H _ (Grow.refl sb) (.int _)⟩
theorem od_cmp {op : CmpOp} {p : Int → Int → Bool} (h : OpR X (compareOp op) (rI0 fun i j => .bl (p i j))) : OpR X (compareOp op) (rD2 X.K (dCmp p)) := by
  intro pins s σ H x y v u Q I rx ry ⟨F, d, e, z, sb, lx, ly, hf, q⟩
  cases d <;> cases e <;> simp only [dCmp, reduceCtorEq, Option.some.injEq] at hf
  subst hf
  exact h pins s σ H x y v u Q I rx ry ⟨_, _, lx.int, ly.int, q F H _ (Grow.refl sb) (.bl _)⟩
abbrev dLt := dCmp fun i j => decide (i < j)
abbrev dLe := dCmp fun i j => decide (i ≤ j)
abbrev dGt := dCmp fun i j => decide (j < i)
abbrev dGe := dCmp fun i j => decide (j ≤ i)
theorem od_lt : OpR X (compareOp .Lt) (rD2 X.K dLt) := od_cmp op_lt
theorem od_le : OpR X (compareOp .LtE) (rD2 X.K dLe) := od_cmp op_le
theorem od_gt : OpR X (compareOp .Gt) (rD2 X.K dGt) := od_cmp op_gt
theorem od_ge : OpR X (compareOp .GtE) (rD2 X.K dGe) := od_cmp op_ge
theorem od_eq (hu : X.A.units + 64 < cLine) : OpR X (compareOp .Eq) (rD2 X.K (dEq false)) := by
  intro pins s σ H x y v u Q I rx ry ⟨F, d, e, z, sb, lx, ly, hf, q⟩
  unfold dEq at hf
  split at hf
  · rename_i hs
    cases hf
    exact op_eqD hu pins s σ H x y v u Q I rx ry ⟨d, e, lx.dp sb, ly.dp sb, hs.1, hs.2, q F H _ (Grow.refl sb) (.bl _)⟩
  · cases hf
theorem od_ne (hu : X.A.units + 64 < cLine) : OpR X (compareOp .NotEq) (rD2 X.K (dEq true)) := by
  intro pins s σ H x y v u Q I rx ry ⟨F, d, e, z, sb, lx, ly, hf, q⟩
  unfold dEq at hf
  split at hf
  · rename_i hs
    cases hf
    exact op_neD hu pins s σ H x y v u Q I rx ry ⟨d, e, lx.dp sb, ly.dp sb, hs.1, hs.2, q F H _ (Grow.refl sb) (.bl _)⟩
  · cases hf
theorem od_is : OpR X (compareOp .Is) (rD2 X.K (dIsNone false)) := by
  intro pins s σ H x y v u Q I rx ry ⟨F, d, e, z, sb, lx, ly, hf, q⟩
  unfold dIsNone at hf
  split at hf
  · cases hf
    refine op_isN pins s σ H x y v u Q I rx ry ⟨ly.none, ?_⟩
    rw [lk_non_iff lx]
    refine q F H _ (Grow.refl sb) ?_
    cases d <;> exact .bl _
  · cases hf
theorem od_isnot : OpR X (compareOp .IsNot) (rD2 X.K (dIsNone true)) := by
  intro pins s σ H x y v u Q I rx ry ⟨F, d, e, z, sb, lx, ly, hf, q⟩
  unfold dIsNone at hf
  split at hf
  · cases hf
    refine op_notN pins s σ H x y v u Q I rx ry ⟨ly.none, ?_⟩
    rw [lk_non_iff lx]
    refine q F H _ (Grow.refl sb) ?_
    cases d <;> exact .bl _
  · cases hf
theorem od_in (hu : X.A.units + 65 < cLine) : OpR X (compareOp .In) (rD2 X.K (dIn false)) := by
  intro pins s σ H x y v u Q I rx ry ⟨F, d, e, z, sb, lx, ly, hf, q⟩
  unfold dIn at hf
  split at hf
  · rename_i ds
    split at hf
    · rename_i hs
      cases hf
      exact op_inD hu pins s σ H x y v u Q I rx ry ⟨d, ds, lx.dp sb, ly.dp sb, hs.1, hs.2, q F H _ (Grow.refl sb) (.bl _)⟩
    · cases hf
  · rename_i ds
    split at hf
    · rename_i hs
      cases hf
      obtain ⟨a, xs, rfl, h1, h2⟩ := ly.tuple
      refine op_in_seq pins s σ H x _ v u Q I rx ry ⟨a, xs, rfl, .inr (sb.sqt h1), lk_flat lx hs.1, dpa_flat h2 hs.2, ?_⟩
      rw [inV_any (lx.dp sb) hs.1 (dpa_mono sb h2) hs.2]
      exact q F H _ (Grow.refl sb) (.bl _)
    · cases hf
  · cases hf
theorem od_notin (hu : X.A.units + 65 < cLine) : OpR X (compareOp .NotIn) (rD2 X.K (dIn true)) := by
  intro pins s σ H x y v u Q I rx ry ⟨F, d, e, z, sb, lx, ly, hf, q⟩
  unfold dIn at hf
  split at hf
  · rename_i ds
    split at hf
    · rename_i hs
      cases hf
      exact op_notInD hu pins s σ H x y v u Q I rx ry ⟨d, ds, lx.dp sb, ly.dp sb, hs.1, hs.2, q F H _ (Grow.refl sb) (.bl _)⟩
    · cases hf
  · rename_i ds
    split at hf
    · rename_i hs
      cases hf
      obtain ⟨a, xs, rfl, h1, h2⟩ := ly.tuple
      refine op_notIn_seq pins s σ H x _ v u Q I rx ry ⟨a, xs, rfl, .inr (sb.sqt h1), lk_flat lx hs.1, dpa_flat h2 hs.2, ?_⟩
      rw [inV_any (lx.dp sb) hs.1 (dpa_mono sb h2) hs.2]
      exact q F H _ (Grow.refl sb) (.bl _)
    · cases hf
  · cases hf
theorem ud_neg : UnR X (unaryOp .USub) (rD1 X.K dNeg) := by
  intro pins s σ H x v Q I rx ⟨F, d, z, sb, lx, hf, q⟩
  cases d <;> simp only [dNeg, reduceCtorEq, Option.some.injEq] at hf
  subst hf
  exact un_neg pins s σ H x v Q I rx ⟨_, lx.int, q F H _ (Grow.refl sb) (.int _)⟩
theorem at_dp {K : Fr} {F : Hp} {xs : List V} {ds : List D} {i : Int} {z : D} (h : DpAll K F xs ds) (e : atI ds i = some z) : ∃ v, atI xs i = some v ∧ Dp K F v z := by
  unfold atI at e ⊢
  rw [dpa_len h]
  cases hi : ixN ds.length i with
  | none => rw [hi] at e; cases e
  | some j =>
    rw [hi] at e
    have e' : ds[j]? = some z := e
    have hj : j < xs.length := by rw [dpa_len h]; exact lt_of_get e'
    exact ⟨xs[j], by simp [hj], dpa_at h (List.getElem?_eq_getElem hj) e'⟩
theorem id_ix : IxR X (rD2 X.K dIx) := by
  intro value slice pins s σ H x y v u Q I rx ry ⟨F, d, e, z, sb, lx, ly, hf, q⟩ hs
  cases d <;> cases e <;> simp only [dIx, reduceCtorEq, Option.ite_none_right_eq_some] at hf
  · obtain ⟨hz, hf⟩ := hf
    simp only [Option.map_eq_some_iff] at hf
    obtain ⟨c, hc, rfl⟩ := hf
    exact ix_str value slice pins s σ H x y v u Q I rx ry ⟨_, _, c, lx.str, ly.int, hz, hc, q F H _ (Grow.refl sb) (.str _)⟩ hs
  · rename_i ds i
    rcases lx with lx | ⟨a, es, xs, rfl, e, h1, h2⟩
    · cases lx with
      | @lst a xs _ h1 h2 =>
        obtain ⟨w, w1, w2⟩ := at_dp h2 hf
        exact ix_list value slice pins s σ H _ y v u Q I rx ry ⟨a, xs, i, w, rfl, ly.int, sb.sql h1, w1, q F H _ (Grow.refl sb) w2⟩ hs
    · cases e
      obtain ⟨w, w1, w2⟩ := at_dp h2 hf
      exact ix_list value slice pins s σ H _ y v u Q I rx ry ⟨a, xs, i, w, rfl, ly.int, SqL.of h1, w1, q F H _ (Grow.refl sb) w2⟩ hs
  · rename_i ds i
    obtain ⟨a, xs, rfl, h1, h2⟩ := lx.tuple
    obtain ⟨w, w1, w2⟩ := at_dp h2 hf
    exact ix_tup value slice pins s σ H _ y v u Q I rx ry ⟨a, xs, i, w, rfl, ly.int, sb.sqt h1, w1, q F H _ (Grow.refl sb) w2⟩ hs
end
end Pu

namespace Pu
open PySem PySem.Spec PyProof.Rows L2

/-! ### built-ins called with operands -/
def runL : List Od → CA
  | [] => fun Γ => some ([], Γ)
  | o :: os => fun Γ => (o.run Γ).bind fun p => (runL os p.2).bind fun q => some (p.1 :: q.1, q.2)
def finL : List Od → List D → En → Option (List D)
  | [], _, _ => some []
  | o :: os, d :: ds, Γ => (o.fin d Γ).bind fun x => (finL os ds Γ).bind fun r => some (x :: r)
  | _ :: _, [], _ => none
inductive LkAll (K : Fr) (F H : Hp) : List V → List D → Prop
  | nil : LkAll K F H [] []
  | cons {v vs d ds} : Lk K F H v d → LkAll K F H vs ds → LkAll K F H (v :: vs) (d :: ds)
def tOs (K : Fr) (os : List Od) : TA := fun σ H Q => ∃ C F Γ ds Γ', Rel K C F H σ Γ ∧ runL os Γ = some (ds, Γ') ∧
  ∀ F' H' vs, Le F F' → Rel K C F' H' σ Γ' → (∀ F2 H2 Γ2 ds2, Le F' F2 → Rel K C F2 H2 σ Γ2 → finL os ds Γ2 = some ds2 → LkAll K F2 H2 vs ds2) → Q vs H'
abbrev Os (X : Cx) (es : List Expr) (os : List Od) : Prop := PA X es (tOs X.K os)
def rDC (K : Fr) (g : List D → Option D) : List V → Hp → VK → Prop := fun vs H Q => ∃ F ds z, Le F H ∧ LkAll K F H vs ds ∧ g ds = some z ∧ ∀ F' H' v, Grow F H F' H' → Dp K F' v z → Q v H'
/-- a new list -/
def rDN (K : Fr) (g : List D → Option (List D)) : List V → Hp → VK → Prop := fun vs H Q => ∃ F ds zs, Le F H ∧ LkAll K F H vs ds ∧ g ds = some zs ∧ ∀ p xs, H p = none → DpAll K F xs zs → Q (.ref p) (upd H p (.lst xs))
def cCb (g : List D → Option D) (os : List Od) : CE := fun Γ => (runL os Γ).bind fun p => (finL os p.1 p.2).bind fun ds => (g ds).bind fun z => some (z, p.2)
def cCbN (g : List D → Option (List D)) (os : List Od) : CN := fun Γ => (runL os Γ).bind fun p => (finL os p.1 p.2).bind fun ds => (g ds).bind fun z => some (.nw (.list z), p.2)
section
variable {X : Cx} {e : Expr} {es : List Expr} {o : Od} {os : List Od} {pos p : Pos} {x : Str}
theorem os_nil : Os X [] [] := PA.imp pa_nil fun σ H Q ⟨C, F, Γ, ds, Γ', R, hc, k⟩ => by
  cases hc
  exact k F H [] (Le.refl _) R fun F2 H2 Γ2 ds2 _ _ h => by cases h; exact .nil
theorem os_cons (h : O X e o) (hr : Os X es os) (hs : starEach (e :: es) X.env = (false, eval e X.env) :: starEach es X.env := by rfl) : Os X (e :: es) (o :: os) := PA.imp (pa_cons h hr hs) fun σ H Q ⟨C, F, Γ, ds, Γ', R, hc, k⟩ => by
  unfold runL at hc
  simp only [Option.bind_eq_some_iff, Option.some.injEq, Prod.mk.injEq] at hc
  obtain ⟨⟨d, Γ1⟩, h1, ⟨dr, Γ2⟩, h2, rfl, rfl⟩ := hc
  refine ⟨C, F, Γ, d, Γ1, R, h1, fun F1 H1 v l1 R1 q1 => ?_⟩
  refine ⟨C, F1, Γ1, dr, Γ2, R1, h2, fun F2 H2 vs l2 R2 q2 => ?_⟩
  refine k F2 H2 (v :: vs) (l1.trans l2) R2 fun F3 H3 Γ3 ds3 l3 R3 h3 => ?_
  unfold finL at h3
  simp only [Option.bind_eq_some_iff, Option.some.injEq] at h3
  obtain ⟨y, y1, r, r1, rfl⟩ := h3
  exact .cons (q1 F3 H3 Γ3 y (l2.trans l3) R3 y1) (q2 F3 H3 Γ3 r l3 R3 r1)
theorem cb_to {g : List D → Option D} {σ : L2.St} {H : Hp} {Q : VK} {K : Fr} (h : tE K (cCb g os) σ H Q) : tCB (rDC K g) (tOs K os) σ H Q := by
  obtain ⟨C, F, Γ, d, Γ', R, hc, k⟩ := h
  unfold cCb at hc
  simp only [Option.bind_eq_some_iff, Option.some.injEq, Prod.mk.injEq] at hc
  obtain ⟨⟨ds, Γ1⟩, h1, ds2, h2, z, h3, rfl, rfl⟩ := hc
  exact ⟨C, F, Γ, ds, Γ1, R, h1, fun F1 H1 vs l R1 q => ⟨F1, ds2, z, R1.sub, q F1 H1 Γ1 ds2 (Le.refl _) R1 h2, h3, fun F3 H3 w g q => k F3 H3 w (l.trans g.f) (R1.grow g) q⟩⟩
theorem cbN_to {g : List D → Option (List D)} {σ : L2.St} {H : Hp} {Q : VK} {K : Fr} (h : tN K (cCbN g os) σ H Q) : tCB (rDN K g) (tOs K os) σ H Q := by
  obtain ⟨C, F, Γ, d, Γ', R, hc, k⟩ := h
  unfold cCbN at hc
  simp only [Option.bind_eq_some_iff, Option.some.injEq, Prod.mk.injEq] at hc
  obtain ⟨⟨ds, Γ1⟩, h1, ds2, h2, z, h3, rfl, rfl⟩ := hc
  refine ⟨C, F, Γ, ds, Γ1, R, h1, fun F1 H1 vs l R1 q => ⟨F1, ds2, z, R1.sub, q F1 H1 Γ1 ds2 (Le.refl _) R1 h2, h3, fun p xs np q => ?_⟩⟩
  exact k F1 _ _ l (R1.grow (Grow.raw R1.sub np)) (got_new R1 np q)
theorem e_cb {g : List D → Option D} {id : String} (hc : CallR X (.builtin id) (rDC X.K g)) (hg : Gl X x) (hm : X.mg x = none) (hv : bootBuiltins x = some (.builtin id)) (ha : Os X (e :: es) os) (hn : x ≠ "__name__" := by decide) (hdb : (x == ("__debug__" : Str)) = false := by decide)
    (he : starEach (e :: es) X.env = (false, eval e X.env) :: starEach es X.env := by rfl) (hpl : (backTo pos (starEach es X.env)).any (·.1) = false := by rfl) : E X (.Call (.Name x p) (e :: es) [] pos) (cCb g os) :=
  PE.imp (pe_callB hc hg hm hv ha hn hdb he hpl) fun _ _ _ h => cb_to h
theorem e_cty {g : List D → Option D} {T : String} (hc : CallR X (.type T) (rDC X.K g)) (hg : Gl X x) (hm : X.mg x = none) (hv : bootBuiltins x = some (.type T)) (ha : Os X (e :: es) os) (hn : x ≠ "__name__" := by decide) (hdb : (x == ("__debug__" : Str)) = false := by decide)
    (he : starEach (e :: es) X.env = (false, eval e X.env) :: starEach es X.env := by rfl) (hpl : (backTo pos (starEach es X.env)).any (·.1) = false := by rfl) : E X (.Call (.Name x p) (e :: es) [] pos) (cCb g os) :=
  PE.imp (pe_callTy hc hg hm hv ha hn hdb he hpl) fun _ _ _ h => cb_to h
theorem n_cty {g : List D → Option (List D)} {T : String} (hc : CallR X (.type T) (rDN X.K g)) (hg : Gl X x) (hm : X.mg x = none) (hv : bootBuiltins x = some (.type T)) (ha : Os X (e :: es) os) (hn : x ≠ "__name__" := by decide) (hdb : (x == ("__debug__" : Str)) = false := by decide)
    (he : starEach (e :: es) X.env = (false, eval e X.env) :: starEach es X.env := by rfl) (hpl : (backTo pos (starEach es X.env)).any (·.1) = false := by rfl) : N X (.Call (.Name x p) (e :: es) [] pos) (cCbN g os) :=
  PE.imp (pe_callTy hc hg hm hv ha hn hdb he hpl) fun _ _ _ h => cbN_to h
/-- a built-in that the module has imported -/
theorem e_cfun {g : List D → Option D} {id : String} (hc : CallR X (.builtin id) (rDC X.K g)) (hg : Gl X x) (hm : X.mg x = some (.builtin id)) (ha : Os X (e :: es) os) (hdb : (x == ("__debug__" : Str)) = false := by decide)
    (he : starEach (e :: es) X.env = (false, eval e X.env) :: starEach es X.env := by rfl) (hpl : (backTo pos (starEach es X.env)).any (·.1) = false := by rfl) : E X (.Call (.Name x p) (e :: es) [] pos) (cCb g os) :=
  PE.imp (pe_callBfun hc hg hm ha hdb he hpl) fun _ _ _ h => cb_to h

/-! the built-ins by data -/
def fLen : List D → Option D
  | [.list ds] => some (.int ds.length)
  | [.tuple ds] => some (.int ds.length)
  | [.str z] => if z.length ≤ sizeLine then some (.int z.length) else none
  | _ => none
theorem LkAll.one {K : Fr} {F H : Hp} {vs : List V} {d : D} (h : LkAll K F H vs [d]) : ∃ v, vs = [v] ∧ Lk K F H v d := by
  cases h with
  | cons h t => cases t; exact ⟨_, rfl, h⟩
theorem LkAll.two {K : Fr} {F H : Hp} {vs : List V} {d e : D} (h : LkAll K F H vs [d, e]) : ∃ v w, vs = [v, w] ∧ Lk K F H v d ∧ Lk K F H w e := by
  cases h with
  | cons h t =>
    obtain ⟨w, rfl, q⟩ := t.one
    exact ⟨_, w, rfl, h, q⟩
theorem cd_len : CallR X (.builtin "len") (rDC X.K fLen) := by
  intro pins s σ H vs us Q I r ⟨F, ds, z, sb, l, hf, q⟩
  unfold fLen at hf
  split at hf
  · cases hf
    obtain ⟨v, rfl, l1⟩ := l.one
    obtain ⟨a, xs, rfl, h1, h2⟩ := l1.list sb
    refine call_len pins s σ H _ us Q I r ⟨_, xs.length, rfl, .inl ⟨xs, h1, rfl⟩, ?_⟩
    rw [dpa_len h2]
    exact q F H _ (Grow.refl sb) (.int _)
  · cases hf
    obtain ⟨v, rfl, l1⟩ := l.one
    obtain ⟨a, xs, rfl, h1, h2⟩ := l1.tuple
    refine call_len pins s σ H _ us Q I r ⟨_, xs.length, rfl, .inr ⟨xs, sb.sqt h1, rfl⟩, ?_⟩
    rw [dpa_len h2]
    exact q F H _ (Grow.refl sb) (.int _)
  · split at hf
    · rename_i hz
      cases hf
      obtain ⟨v, rfl, l1⟩ := l.one
      exact call_len pins s σ H _ us Q I r ⟨_, _, rfl, by rw [l1.str]; exact ⟨hz, rfl⟩, q F H _ (Grow.refl sb) (.int _)⟩
    · cases hf
  · cases hf
def bools : List D → Option (List Bool)
  | [] => some []
  | d :: ds => (toB d).bind fun b => (bools ds).bind fun r => some (b :: r)
theorem bools_dp {K : Fr} {F : Hp} : ∀ {xs : List V} {ds : List D} {bs : List Bool}, DpAll K F xs ds → bools ds = some bs → xs = bs.map V.bl
  | _, _, bs, .nil, h => by cases h; rfl
  | _, _, bs, .cons h t, e => by
    unfold bools at e
    simp only [Option.bind_eq_some_iff, Option.some.injEq] at e
    obtain ⟨b, e1, r, e2, rfl⟩ := e
    have e1' := toB_some e1
    subst e1'
    cases h
    rw [bools_dp t e2]
    rfl
def fAll : List D → Option D
  | [.list ds] => (bools ds).bind fun bs => some (.bool (bs.all id))
  | _ => none
def fAny : List D → Option D
  | [.list ds] => (bools ds).bind fun bs => some (.bool (bs.any id))
  | _ => none
theorem cd_all (hc : X.calm = true) : CallR X (.builtin "all") (rDC X.K fAll) := by
  intro pins s σ H vs us Q I r ⟨F, ds, z, sb, l, hf, q⟩
  unfold fAll at hf
  split at hf
  · simp only [Option.bind_eq_some_iff, Option.some.injEq] at hf
    obtain ⟨bs, h1, rfl⟩ := hf
    obtain ⟨v, rfl, l1⟩ := l.one
    obtain ⟨a, xs, rfl, h2, h3⟩ := l1.list sb
    have e := bools_dp h3 h1
    subst e
    exact cr_all hc pins s σ H _ us Q I r ⟨a, bs, rfl, h2, q F H _ (Grow.refl sb) (.bl _)⟩
  · cases hf
theorem cd_any (hc : X.calm = true) : CallR X (.builtin "any") (rDC X.K fAny) := by
  intro pins s σ H vs us Q I r ⟨F, ds, z, sb, l, hf, q⟩
  unfold fAny at hf
  split at hf
  · simp only [Option.bind_eq_some_iff, Option.some.injEq] at hf
    obtain ⟨bs, h1, rfl⟩ := hf
    obtain ⟨v, rfl, l1⟩ := l.one
    obtain ⟨a, xs, rfl, h2, h3⟩ := l1.list sb
    have e := bools_dp h3 h1
    subst e
    exact cr_any hc pins s σ H _ us Q I r ⟨a, bs, rfl, h2, q F H _ (Grow.refl sb) (.bl _)⟩
  · cases hf
def fTuple : List D → Option D
  | [.list ds] => some (.tuple ds)
  | [.tuple ds] => some (.tuple ds)
  | _ => none
theorem cd_tuple : CallR X (.type "tuple") (rDC X.K fTuple) := by
  intro pins s σ H vs us Q I r ⟨F, ds, z, sb, l, hf, q⟩
  unfold fTuple at hf
  split at hf
  · cases hf
    obtain ⟨v, rfl, l1⟩ := l.one
    rcases l1 with l1 | ⟨a, es, xs, rfl, e, h1, h2⟩
    · cases l1 with
      | @lst a xs _ h1 h2 =>
        refine call_tuple_of pins s σ H _ us Q I r ⟨a, xs, rfl, .inl ⟨sb.sql h1, fun p np => ?_⟩⟩
        have g := Grow.new sb (o := .tup xs) np
        exact q _ _ _ g (.tup (SqT.of upd_same) (dpa_mono g.f h2))
    · cases e
      refine call_tuple_of pins s σ H _ us Q I r ⟨a, xs, rfl, .inl ⟨SqL.of h1, fun p np => ?_⟩⟩
      have g := Grow.new sb (o := .tup xs) np
      exact q _ _ _ g (.tup (SqT.of upd_same) (dpa_mono g.f h2))
  · cases hf
    obtain ⟨v, rfl, l1⟩ := l.one
    obtain ⟨a, xs, rfl, h1, h2⟩ := l1.tuple
    exact call_tuple_of pins s σ H _ us Q I r ⟨a, xs, rfl, .inr ⟨sb.sqt h1, q F H _ (Grow.refl sb) (.tup h1 h2)⟩⟩
  · cases hf
def fList : List D → Option (List D)
  | [.list ds] => some ds
  | [.tuple ds] => some ds
  | _ => none
theorem cd_list : CallR X (.type "list") (rDN X.K fList) := by
  intro pins s σ H vs us Q I r ⟨F, ds, z, sb, l, hf, q⟩
  unfold fList at hf
  split at hf
  · cases hf
    obtain ⟨v, rfl, l1⟩ := l.one
    rcases l1 with l1 | ⟨a, es, xs, rfl, e, h1, h2⟩
    · cases l1 with
      | @lst a xs _ h1 h2 => exact call_list_of pins s σ H _ us Q I r ⟨a, xs, rfl, .inl (sb.sql h1), fun p np => q p xs np h2⟩
    · cases e
      exact call_list_of pins s σ H _ us Q I r ⟨a, xs, rfl, .inl (SqL.of h1), fun p np => q p xs np h2⟩
  · cases hf
    obtain ⟨v, rfl, l1⟩ := l.one
    obtain ⟨a, xs, rfl, h1, h2⟩ := l1.tuple
    exact call_list_of pins s σ H _ us Q I r ⟨a, xs, rfl, .inr (sb.sqt h1), fun p np => q p xs np h2⟩
  · cases hf
def fAbs : List D → Option D
  | [.int i] => some (.int (if i < 0 then -i else i))
  | _ => none
theorem cd_abs : CallR X (.builtin "abs") (rDC X.K fAbs) := by
  intro pins s σ H vs us Q I r ⟨F, ds, z, sb, l, hf, q⟩
  unfold fAbs at hf
  split at hf
  · cases hf
    obtain ⟨v, rfl, l1⟩ := l.one
    exact call_abs pins s σ H _ us Q I r ⟨_, by rw [l1.int], q F H _ (Grow.refl sb) (.int _)⟩
  · cases hf
def fInt : List D → Option D
  | [.int i] => some (.int i)
  | [.bool b] => some (.int (if b then 1 else 0))
  | _ => none
theorem cd_int : CallR X (.type "int") (rDC X.K fInt) := by
  intro pins s σ H vs us Q I r ⟨F, ds, z, sb, l, hf, q⟩
  unfold fInt at hf
  split at hf
  · cases hf
    obtain ⟨v, rfl, l1⟩ := l.one
    exact call_int1 pins s σ H _ us Q I r (.inl ⟨_, by rw [l1.int], q F H _ (Grow.refl sb) (.int _)⟩)
  · cases hf
    obtain ⟨v, rfl, l1⟩ := l.one
    exact call_int1 pins s σ H _ us Q I r (.inr ⟨_, by rw [l1.bool], q F H _ (Grow.refl sb) (.int _)⟩)
  · cases hf
def fGcd : List D → Option D
  | [.int i, .int j] => some (.int ((Nat.gcd i.natAbs j.natAbs : Nat) : Int))
  | _ => none
theorem cd_gcd : CallR X (.builtin "math.gcd") (rDC X.K fGcd) := by
  intro pins s σ H vs us Q I r ⟨F, ds, z, sb, l, hf, q⟩
  unfold fGcd at hf
  split at hf
  · cases hf
    obtain ⟨v, w, rfl, l1, l2⟩ := l.two
    exact cr_gcd pins s σ H _ us Q I r ⟨_, _, by rw [l1.int, l2.int], q F H _ (Grow.refl sb) (.int _)⟩
  · cases hf
def fMax2 : List D → Option D
  | [.int i, .int j] => some (.int (if j > i then j else i))
  | _ => none
def fMin2 : List D → Option D
  | [.int i, .int j] => some (.int (if j < i then j else i))
  | _ => none
theorem cd_max2 (hc : X.calm = true) : CallR X (.builtin "max") (rDC X.K fMax2) := by
  intro pins s σ H vs us Q I r ⟨F, ds, z, sb, l, hf, q⟩
  unfold fMax2 at hf
  split at hf
  · cases hf
    obtain ⟨v, w, rfl, l1, l2⟩ := l.two
    exact call_max2 hc pins s σ H _ us Q I r ⟨_, _, by rw [l1.int, l2.int], q F H _ (Grow.refl sb) (.int _)⟩
  · cases hf
theorem cd_min2 (hc : X.calm = true) : CallR X (.builtin "min") (rDC X.K fMin2) := by
  intro pins s σ H vs us Q I r ⟨F, ds, z, sb, l, hf, q⟩
  unfold fMin2 at hf
  split at hf
  · cases hf
    obtain ⟨v, w, rfl, l1, l2⟩ := l.two
    exact call_min2 hc pins s σ H _ us Q I r ⟨_, _, by rw [l1.int, l2.int], q F H _ (Grow.refl sb) (.int _)⟩
  · cases hf
end

/-! ### isinstance -/
def dTy : D → String
  | .none => "NoneType"
  | .bool _ => "bool"
  | .int _ => "int"
  | .str _ => "str"
  | .list _ => "list"
  | .tuple _ => "tuple"
  | .dict _ => "dict"
def kitBs (a : String) : List String → Option Bool
  | [] => some false
  | b :: bs => match kitB a b with
    | some true => some true
    | some false => kitBs a bs
    | none => none
def isD (d : D) (ns : List String) : Option D := (kitBs (dTy d) ns).bind fun b => some (.bool b)
theorem lk_ty {K : Fr} {F H : Hp} {v : V} {d : D} (s : Le F H) (h : Lk K F H v d) : TyX K H v (.type (dTy d)) := by
  rcases h with h | ⟨a, es, xs, rfl, rfl, h1, h2⟩
  · cases h with
    | non => exact .base .non
    | bl b => exact .base (.bl b)
    | int i => exact .base (.int i)
    | str x => exact .base (.str x)
    | lst h1 h2 =>
      rcases h1 with (h1 | ⟨o, h1⟩) | ⟨o, _, _, h1, c, _⟩
      · exact .base (.lst (s _ _ h1))
      · exact .base (.frz (s _ _ h1))
      · exact .kList h1 c
    | tup h1 h2 =>
      rcases h1 with (h1 | ⟨o, h1⟩) | ⟨o, _, _, h1, c, _⟩
      · exact .base (.tup (s _ _ h1))
      · exact .fTuple (s _ _ h1)
      · exact .kTuple h1 c
  · exact .base (.lst h1)
section
variable {X : Cx} {a b : Expr} {o : Od} {pos p : Pos}
def cIsi (o : Od) (n : String) : CE := cUn (fun d => isD d [n]) o
theorem e_isi {n : String} (hg : Gl X "isinstance") (hm : X.mg "isinstance" = none) (ha : O X a o) (hb : PE X b (tC (.ty n))) (hv : bootBuiltins "isinstance" = some (.builtin "isinstance") := by decide +kernel)
    (he : starEach [a, b] X.env = [(false, eval a X.env), (false, eval b X.env)] := by rfl) (he2 : starEach [b] X.env = [(false, eval b X.env)] := by rfl) (hpl : (backTo pos (starEach [b] X.env)).any (·.1) = false := by rfl) :
    E X (.Call (.Name "isinstance" p) [a, b] [] pos) (cIsi o n) :=
  PE.imp (pe_callB call_isi hg hm hv (pa_cons ha (pa_cons hb pa_nil he2) (he.trans (by rw [he2]))) (by decide) (by decide) (he.trans (by rw [he2])) hpl) fun σ H Q ⟨C, F, Γ, d, Γ', R, hc, k⟩ => by
    unfold cIsi cUn at hc
    simp only [Option.bind_eq_some_iff, Option.some.injEq, Prod.mk.injEq] at hc
    obtain ⟨⟨da, Γ1⟩, h1, x, h2, z, h3, rfl, rfl⟩ := hc
    refine ⟨C, F, Γ, da, Γ1, R, h1, fun F1 H1 v l1 R1 q => ?_⟩
    have lk := q F1 H1 Γ1 x (Le.refl _) R1 h2
    unfold isD at h3
    simp only [Option.bind_eq_some_iff, Option.some.injEq] at h3
    obtain ⟨b, h4, rfl⟩ := h3
    refine ⟨v, .ty n, _, _, b, rfl, .ty n, lk_ty R1.sub lk, kit_ty ?_, k F1 H1 _ l1 R1 (.bl b)⟩
    unfold kitBs at h4
    split at h4
    · rename_i e; cases h4; exact e
    · rename_i e; unfold kitBs at h4; cases h4; exact e
    · cases h4
def cIsiT (o : Od) (ns : List String) : CE := cUn (fun d => isD d ns) o
theorem kitAny_of {K : Fr} {t : String} : ∀ {ns : List String} {b : Bool}, kitBs t ns = some b → PySem.W.kitAny K (.type t) (ns.map Value.type) = some b
  | [], b, h => by unfold kitBs at h; cases h; rfl
  | n :: ns, b, h => by
    unfold kitBs at h
    split at h
    · rename_i e; cases h; exact kitAny_cons (kit_ty e) (fun z => by cases z) (fun _ => rfl)
    · rename_i e; exact kitAny_cons (kit_ty e) (fun _ => kitAny_of h) (fun z => by cases z)
    · cases h
theorem tys_paired : ∀ ns : List String, Paired ClsV (ns.map V.ty) (ns.map Value.type)
  | [] => .nil
  | n :: ns => .cons (.ty n) (tys_paired ns)
/-- isinstance(x, (T1, T2)): the tuple is laid on the way -/
theorem e_isiT {ns : List String} {es : List Expr} {k : Nat} {p2 : Pos} {t : TA} (hg : Gl X "isinstance") (hm : X.mg "isinstance" = none) (ha : O X a o) (hb : PA X es t) (ht : ∀ σ H Q, Q (ns.map V.ty) H → t σ H Q) (hns : ns.length ≤ 100) (hv : bootBuiltins "isinstance" = some (.builtin "isinstance") := by decide +kernel)
    (he : starEach [a, .Tuple es k p2] X.env = [(false, eval a X.env), (false, eval (.Tuple es k p2) X.env)] := by rfl) (he2 : starEach [.Tuple es k p2] X.env = [(false, eval (.Tuple es k p2) X.env)] := by rfl) (hpl : (backTo pos (starEach [.Tuple es k p2] X.env)).any (·.1) = false := by rfl) :
    E X (.Call (.Name "isinstance" p) [a, .Tuple es k p2] [] pos) (cIsiT o ns) :=
  PE.imp (pe_callB call_isiT hg hm hv (pa_cons ha (pa_cons (pe_tup hb) pa_nil he2) (he.trans (by rw [he2]))) (by decide) (by decide) (he.trans (by rw [he2])) hpl) fun σ H Q ⟨C, F, Γ, d, Γ', R, hc, k⟩ => by
    unfold cIsiT cUn at hc
    simp only [Option.bind_eq_some_iff, Option.some.injEq, Prod.mk.injEq] at hc
    obtain ⟨⟨da, Γ1⟩, h1, x, h2, z, h3, rfl, rfl⟩ := hc
    refine ⟨C, F, Γ, da, Γ1, R, h1, fun F1 H1 v l1 R1 q => ?_⟩
    have lk := q F1 H1 Γ1 x (Le.refl _) R1 h2
    unfold isD at h3
    simp only [Option.bind_eq_some_iff, Option.some.injEq] at h3
    obtain ⟨b, h4, rfl⟩ := h3
    refine ht _ _ _ ⟨by rw [List.length_map]; exact Nat.le_trans hns (by decide), fun p np => ?_⟩
    have g := Grow.new R1.sub (o := .tup (ns.map V.ty)) np
    have lk2 : Lk X.K (upd F1 p (.tup (ns.map V.ty))) (upd H1 p (.tup (ns.map V.ty))) v x := by
      rcases lk with lk | ⟨a, es, xs, e1, e2, e3, e4⟩
      · exact .inl (dp_mono g.f lk)
      · exact .inr ⟨a, es, xs, e1, e2, g.h _ _ e3, dpa_mono g.f e4⟩
    exact ⟨v, p, ns.map V.ty, _, ns.map Value.type, b, rfl, upd_same, tys_paired ns, lk_ty g.s lk2, kitAny_of h4, k _ _ _ (l1.trans g.f) (R1.grow g) (.bl b)⟩
theorem pe_ty {x : Str} {n : String} {pos : Pos} (hg : Gl X x) (hm : X.mg x = none) (hv : bootBuiltins x = some (.type n)) (hn : x ≠ "__name__" := by decide) (hd : (x == ("__debug__" : Str)) = false := by decide) : PE X (.Name x pos) (tC (.ty n)) := pe_bltn hg hm hv rfl hn hd
end

/-! ### displays of lists -/
section
variable {X : Cx} {es : List Expr} {r : CA} {pos : Pos}
def cLst (r : CA) : CN := fun Γ => (r Γ).bind fun p => if p.1.length ≤ sizeLine then some (.nw (.list p.1), p.2) else none
theorem n_lst (h : Ar X es r) : N X (.List es pos) (cLst r) := PE.imp (pe_lst h) fun _ H _ ⟨C, F, Γ, ds, Γ', R, hc, k⟩ => by
  unfold cLst at hc
  cases h1 : r Γ with
  | none => simp [h1] at hc
  | some p =>
    obtain ⟨d, Γ1⟩ := p
    simp [h1] at hc
    obtain ⟨hz, rfl, rfl⟩ := hc
    refine ⟨C, F, Γ, d, Γ1, R, h1, fun F1 H1 vs l1 R1 q1 => ⟨by rw [dpa_len q1]; exact hz, fun p np => ?_⟩⟩
    exact k F1 _ _ l1 (R1.grow (Grow.raw R1.sub np)) (got_new R1 np q1)
/-- a + b of lists, new -/
def cCat (a b : Od) : CN := fun Γ => (a.run Γ).bind fun p => (b.run p.2).bind fun q => (a.fin p.1 q.2).bind fun x => (b.fin q.1 q.2).bind fun y => match x, y with
  | .list xs, .list ys => if xs.length + ys.length ≤ sizeLine then some (.nw (.list (xs ++ ys)), q.2) else none
  | _, _ => none
theorem n_cat {a b : Expr} {oa ob : Od} (ha : O X a oa) (hb : O X b ob) : N X (.BinOp a .Add b pos) (cCat oa ob) := PE.imp (pe_op op_catL ha hb) fun σ H Q ⟨C, F, Γ, d, Γ', R, hc, k⟩ => by
  unfold cCat at hc
  simp only [Option.bind_eq_some_iff] at hc
  obtain ⟨⟨da, Γ1⟩, h1, ⟨db, Γ2⟩, h2, x, hx, y, hy, hc⟩ := hc
  split at hc
  · rename_i xs ys
    split at hc
    · rename_i hz
      cases hc
      refine ⟨C, F, Γ, da, Γ1, R, h1, fun F1 H1 v l1 R1 lk1 => ?_⟩
      refine ⟨C, F1, Γ1, db, Γ2, R1, h2, fun F2 H2 u l2 R2 lk2 => ?_⟩
      have q1 := lk1 F2 H2 Γ2 _ l2 R2 hx
      have q2 := lk2 F2 H2 Γ2 _ (Le.refl _) R2 hy
      have inF : ∀ {v : V} {es : List D}, Lk X.K F2 H2 v (.list es) → ∃ a xs, v = .ref a ∧ SqL X.K H2 a xs ∧ DpAll X.K F2 xs es := fun lk => by
        rcases lk with lk | ⟨a, es', xs, rfl, e, h1, h2⟩
        · cases lk with
          | @lst a xs _ h1 h2 => exact ⟨a, xs, rfl, R2.sub.sql h1, h2⟩
        · cases e; exact ⟨a, xs, rfl, SqL.of h1, h2⟩
      obtain ⟨a, vs, rfl, s1, d1⟩ := inF q1
      obtain ⟨b, ws, rfl, s2, d2⟩ := inF q2
      refine ⟨a, b, vs, ws, rfl, rfl, s1, s2, by rw [dpa_len d1, dpa_len d2]; exact hz, fun p np => ?_⟩
      exact k F2 _ _ (l1.trans l2) (R2.grow (Grow.raw R2.sub np)) (got_new R2 np (dpa_app d1 d2))
    · cases hc
  · cases hc
end
end Pu

namespace Pu
open PySem PySem.Spec PyProof.Rows L2

/-! ### own lists that change -/
def ownAt (Γ : En) (i : Nat) : Option (List D) := match Γ[i]? with
  | some (.ow (.list ds)) => some ds
  | some (.ln (.list ds)) => some ds
  | _ => none
section
variable {K : Fr} {C : Ct} {F H : Hp} {σ : L2.St} {Γ : En}
theorem Rel.own (R : Rel K C F H σ Γ) {i : Nat} {ds : List D} (h : ownAt Γ i = some ds) : ∃ a s xs, Γ[i]? = some s ∧ s.own = true ∧ σ[i]? = some (some (.ref a)) ∧ H a = some (.lst xs) ∧ DpAll K F xs ds ∧ F a = none := by
  unfold ownAt at h
  split at h
  · rename_i es hs
    cases h
    obtain ⟨a, e1, _, m, es, xs, e2, e3, e4⟩ := R.ok i _ hs
    cases e2
    exact ⟨a, _, xs, hs, rfl, e1, e3, e4, m⟩
  · rename_i es hs
    cases h
    obtain ⟨a, e1, _, m, es, xs, e2, e3, e4⟩ := R.ok i _ hs
    cases e2
    exact ⟨a, _, xs, hs, rfl, e1, e3, e4, m⟩
  · cases h
/-- own content changed -/
theorem Rel.wrote (R : Rel K C F H σ Γ) {i : Nat} {a : Addr} {s : Sl} {ds : List D} {xs : List V} (hs : Γ[i]? = some s) (ho : s.own = true) (hσ : σ[i]? = some (some (.ref a))) (q : DpAll K F xs ds) : Rel K C F (upd H a (.lst xs)) σ (backS Γ i (.list ds)) := by
  have w := R.write hs ho hσ q
  unfold backS
  rw [hs]
  cases s <;> first | exact w | cases ho
end
section
variable {X : Cx} {o e : Expr} {c : CE} {i : Nat} {pos apos cpos : Pos}
/-- xs.append(e), as a value -/
def cApp (i : Nat) (c : CE) : CE := fun Γ => (ownAt Γ i).bind fun _ => (c Γ).bind fun p => (ownAt p.2 i).bind fun ds => if ds.length < sizeLine then some (.none, backS p.2 i (.list (ds ++ [p.1]))) else none
theorem e_app (ho : PE X o (tVar i)) (he : E X e c) (hbase : attributeBase o "append" X.env (eval o X.env) = eval o X.env := by rfl)
    (hfew : ((backTo cpos (starEach [e] X.env)).all (fun x => !x.1) && (backToKw cpos (keywordEach [] X.env)).all (fun x => x.1.isSome)
      && decide ([e].length + ([] : List Keyword).length + (if ([] : List Keyword).isEmpty then 0 else 1) < 30)) = true := by rfl)
    (hline : (apos.endLine == cpos.line) = true := by rfl) (hs : starEach [e] X.env = [(false, eval e X.env)] := by rfl) (hplain : (backTo cpos (starEach [] X.env)).any (·.1) = false := by rfl) :
    E X (.Call (.Attribute o "append" apos) [e] [] cpos) (cApp i c) :=
  PE.imp (pe_bm PySem.F.plainAttrs_list PySem.F.slot_list_append PySem.F.type_list_append mt_append ho (pa_cons he pa_nil hs) hbase hfew hline hs hplain) fun σ H Q ⟨C, F, Γ, d, Γ', R, hc, k⟩ => by
    unfold cApp at hc
    simp only [Option.bind_eq_some_iff] at hc
    obtain ⟨ds0, h0, ⟨x, Γ1⟩, h1, ds, h2, hc⟩ := hc
    split at hc
    · rename_i hz
      cases hc
      obtain ⟨a, s, xs, e1, e2, e3, e4, e5, e6⟩ := R.own h0
      refine ⟨.ref a, e3, .inl ⟨rfl, xs, SqL.of e4⟩, C, F, Γ, x, Γ1, R, h1, fun F1 H1 v l1 R1 q => ?_⟩
      obtain ⟨a', s', xs', f1, f2, f3, f4, f5, f6⟩ := R1.own h2
      rw [e3] at f3; cases f3
      exact ⟨a, xs', v, rfl, rfl, f4, by rw [dpa_len f5]; exact hz, k F1 _ _ l1 (R1.wrote f1 f2 e3 (dpa_snoc f5 q)) .non⟩
    · cases hc
theorem dpa_set {K : Fr} {F : Hp} {v : V} {d : D} (h : Dp K F v d) : ∀ {xs : List V} {ds : List D} (j : Nat), DpAll K F xs ds → DpAll K F (xs.set j v) (ds.set j d)
  | _, _, _, .nil => .nil
  | _, _, 0, .cons _ t => .cons h t
  | _, _, j + 1, .cons a t => .cons a (dpa_set h j t)
/-- xs[e] = c -/
def cPutI (i : Nat) (ix c : CE) : CS := fun Γ => (c Γ).bind fun p => (ownAt p.2 i).bind fun _ => (ix p.2).bind fun q => match q.1 with
  | .int k => (ownAt q.2 i).bind fun ds => (ixN ds.length k).bind fun j => some (.nx, backS q.2 i (.list (ds.set j p.1)))
  | _ => none
theorem s_putI {ix : Expr} {ci : CE} {tpos : Pos} (ho : PE X o (tVar i)) (hi : E X ix ci) (he : E X e c)
    (hsub : ∀ {to ti : TE} {t : TSet}, PE X o to → PE X ix ti → PSet X t → PG X (.Subscript o ix tpos) (gSub to ti t))
    (hs : swapsWithSole [.Subscript o ix tpos] e pos.line X.env = pure false := by rfl) (hw : swappedStores [.Subscript o ix tpos] e X.env = pure none := by rfl) (h1 : (assignEach [.Subscript o ix tpos] X.env).map (·.2) = [assign (.Subscript o ix tpos) X.env] := by rfl) :
    S X (.Assign [.Subscript o ix tpos] e pos) (cPutI i ci c) :=
  PS.imp (ps_asg he (hsub ho hi set_list) hs hw h1) fun De σ H ⟨C, F, Γ, fl, Γ', R, hc, k⟩ => by
    unfold cPutI at hc
    simp only [Option.bind_eq_some_iff] at hc
    obtain ⟨⟨d, Γ1⟩, q1, ds0, q2, ⟨w, Γ2⟩, q3, hc⟩ := hc
    split at hc
    · rename_i kk ew
      simp only at ew
      subst ew
      simp only [Option.bind_eq_some_iff, Option.some.injEq, Prod.mk.injEq] at hc
      obtain ⟨ds, q4, j, q5, rfl, rfl⟩ := hc
      refine ⟨C, F, Γ, d, Γ1, R, q1, fun F1 H1 v l1 R1 dv => ?_⟩
      obtain ⟨a, s, xs, e1, e2, e3, e4, e5, e6⟩ := R1.own q2
      refine ⟨.ref a, e3, C, F1, Γ1, _, Γ2, R1, q3, fun F2 H2 u l2 R2 du => ?_⟩
      cases du
      obtain ⟨a', s', xs', f1, f2, f3, f4, f5, f6⟩ := R2.own q4
      rw [e3] at f3; cases f3
      exact ⟨a, xs', kk, j, rfl, rfl, f4, by rw [dpa_len f5]; exact q5, k F2 _ σ (l1.trans l2) (R2.wrote f1 f2 e3 (dpa_set (dp_mono l2 dv) j f5))⟩
    · cases hc
/-- o[i] by values, a list -/
def rGetL (K : Fr) : V → V → Hp → VK → Prop := fun x y H Q => ∃ p xs i v, x = .ref p ∧ y = .int i ∧ SqL K H p xs ∧ atI xs i = some v ∧ Q v H
theorem get_listP : PGet X (rGetL X.K) := by
  intro pins s σ H x y v u Q I rx ry h
  obtain ⟨p, xs, i, z, rfl, rfl, hq, he, q⟩ := h
  cases rx
  obtain ⟨t, rfl⟩ := ry
  obtain ⟨its, r, pl, hz⟩ := I.list hq
  obtain ⟨j, h1, h2, h3, h4, h5⟩ := atI_get he
  obtain ⟨w, ew, rw'⟩ := r.get h2
  have hl := r.length
  have hn := line63
  have fin : EP X pins σ Q w s := ⟨z, H, I, rw', q⟩
  by_cases h0 : 0 ≤ i
  · have hj : i.toNat = j := by
      rw [seqIndex_of h0 h5] at h1
      exact Option.some.inj h1
    exact wpAny_getItem_list (x := w) (Q := fun r s' => EP X pins σ Q r s') pl.isList h0 (by omega) (by rw [hj]; simpa using ew) fin
  · have hj : (i + (its.toArray.size : Int)).toNat = j := by
      rw [seqIndex_neg (by omega) h4] at h1
      rw [List.size_toArray, ← hl]
      exact Option.some.inj h1
    exact wpAny_getItem_list_neg (x := w) (Q := fun r s' => EP X pins σ Q r s') pl.isList (by omega) (by rw [List.size_toArray] <;> omega) (by omega) (by rw [hj]; simpa using ew) fin
/-- a op= b by data -/
def rDip (K : Fr) (f : D → D → Option D) : TIp := rD2 K f
def dAddI : D → D → Option D
  | .int i, .int j => some (.int (i + j))
  | _, _ => none
theorem ipd_add : PIp X .Add (rD2 X.K dAddI) := by
  intro pins s σ H x y v u Q I rx ry ⟨F, d, e, z, sb, lx, ly, hf, q⟩
  cases d <;> cases e <;> simp only [dAddI, reduceCtorEq, Option.some.injEq] at hf
  subst hf
  exact ip_add pins s σ H x y v u Q I rx ry ⟨_, _, lx.int, ly.int, q F H _ (Grow.refl sb) (.int _)⟩
theorem ipd_sub : PIp X .Sub (rD2 X.K dSub) := by
  intro pins s σ H x y v u Q I rx ry ⟨F, d, e, z, sb, lx, ly, hf, q⟩
  cases d <;> cases e <;> simp only [dSub, reduceCtorEq, Option.some.injEq] at hf
  subst hf
  exact ip_sub pins s σ H x y v u Q I rx ry ⟨_, _, lx.int, ly.int, q F H _ (Grow.refl sb) (.int _)⟩
/-- x op= e, a local (its value frozen) -/
def cAug (i : Nat) (f : D → D → Option D) (c : CE) : CS := fun Γ => (datAt Γ i).bind fun _ => (c Γ).bind fun q => (datAt q.2 i).bind fun d => (f d q.1).bind fun z => (put q.2 i (.fr z)).bind fun Γ' => some (.nx, Γ')
theorem s_aug {x : Str} {op : Operator} {f : D → D → Option D} {pos' : Pos} (hN : X.N.Nodup) (hi : X.N[i]? = some x) (hx : Loc X.env.scope x) (he : E X e c) (ho : PIp X op (rD2 X.K f))
    (hf : X.fn x = true ∨ X.env.scope.names.lookup x = some .local := by first | exact .inl rfl | exact .inr rfl | assumption) : S X (.AugAssign (.Name x pos') op e pos) (cAug i f c) :=
  PS.imp (ps_aug hN hi hx he ho hf) fun De σ H ⟨C, F, Γ, fl, Γ', R, hc, k⟩ => by
    unfold cAug at hc
    simp only [Option.bind_eq_some_iff, Option.some.injEq, Prod.mk.injEq] at hc
    obtain ⟨d0, h0, ⟨y, Γ1⟩, h1, d, h2, z, h3, Γ2, h4, rfl, rfl⟩ := hc
    obtain ⟨v, e1, e2⟩ := R.look h0
    refine ⟨v, e1, C, F, Γ, y, Γ1, R, h1, fun F1 H1 w l1 R1 q => ?_⟩
    obtain ⟨v', f1, f2⟩ := R1.look h2
    rw [e1] at f1; cases f1
    exact ⟨F1, d, y, z, R1.sub, f2, .inl q, h3, fun F2 H2 u g du => k F2 H2 _ (l1.trans g.f) (asg_name (R1.grow g) du h4)⟩
/-- xs[ix] op= e -/
def cAugI (i : Nat) (ix : CE) (f : D → D → Option D) (c : CE) : CS := fun Γ => (ownAt Γ i).bind fun _ => (ix Γ).bind fun p => match p.1 with
  | .int k => (ownAt p.2 i).bind fun ds => (atI ds k).bind fun d => (c p.2).bind fun q => (f d q.1).bind fun z => (ownAt q.2 i).bind fun es => (ixN es.length k).bind fun j => some (.nx, backS q.2 i (.list (es.set j z)))
  | _ => none
theorem s_augI {ix : Expr} {ci : CE} {op : Operator} {f : D → D → Option D} {tpos : Pos} (ho : PE X o (tVar i)) (hi : E X ix ci) (he : E X e c) (hop : PIp X op (rD2 X.K f))
    (ha : ∀ ov iv new, augStore ix ov iv new = (do holding [new, ov, iv] (setItem ov iv new); release [new, ov, iv] []; pure .next) := by intros; rfl) : S X (.AugAssign (.Subscript o ix tpos) op e pos) (cAugI i ci f c) :=
  PS.imp (ps_augS ho hi get_listP he hop set_list ha) fun De σ H ⟨C, F, Γ, fl, Γ', R, hc, k⟩ => by
    unfold cAugI at hc
    simp only [Option.bind_eq_some_iff] at hc
    obtain ⟨ds0, h0, ⟨w, Γ1⟩, h1, hc⟩ := hc
    split at hc
    · rename_i kk ew
      simp only at ew
      subst ew
      simp only [Option.bind_eq_some_iff, Option.some.injEq, Prod.mk.injEq] at hc
      obtain ⟨ds, h2, d, h3, ⟨y, Γ2⟩, h4, z, h5, es, h6, j, h7, rfl, rfl⟩ := hc
      obtain ⟨a, s, xs, e1, e2, e3, e4, e5, e6⟩ := R.own h0
      refine ⟨.ref a, e3, C, F, Γ, _, Γ1, R, h1, fun F1 H1 u l1 R1 du => ?_⟩
      cases du
      obtain ⟨a', s', xs', f1, f2, f3, f4, f5, f6⟩ := R1.own h2
      rw [e3] at f3; cases f3
      obtain ⟨old, o1, o2⟩ := at_dp f5 h3
      refine ⟨a, xs', kk, old, rfl, rfl, SqL.of f4, o1, C, F1, Γ1, y, Γ2, R1, h4, fun F2 H2 v l2 R2 dv => ?_⟩
      refine ⟨F2, d, y, z, R2.sub, .inl (dp_mono l2 o2), .inl dv, h5, fun F3 H3 nw g dn => ?_⟩
      have R3 := R2.grow g
      obtain ⟨a', s', xs'', g1, g2, g3, g4, g5, g6⟩ := R3.own h6
      rw [e3] at g3; cases g3
      exact ⟨a, xs'', kk, j, rfl, rfl, g4, by rw [dpa_len g5]; exact h7, k F3 _ σ ((l1.trans l2).trans g.f) (R3.wrote g1 g2 e3 (dpa_set dn j g5))⟩
    · cases hc
/-- xs.pop() -/
def cPop (i : Nat) : CE := fun Γ => (ownAt Γ i).bind fun ds => (ds[ds.length - 1]?).bind fun d => some (d, backS Γ i (.list ds.dropLast))
theorem dpa_dropLast {K : Fr} {F : Hp} : ∀ {xs : List V} {ds : List D}, DpAll K F xs ds → DpAll K F xs.dropLast ds.dropLast
  | _, _, .nil => .nil
  | _, _, .cons h .nil => .nil
  | _, _, .cons h (.cons h2 t) => .cons h (dpa_dropLast (.cons h2 t))
theorem dpa_erase {K : Fr} {F : Hp} : ∀ {xs : List V} {ds : List D} (j : Nat), DpAll K F xs ds → DpAll K F (xs.eraseIdx j) (ds.eraseIdx j)
  | _, _, _, .nil => .nil
  | _, _, 0, .cons _ t => t
  | _, _, j + 1, .cons a t => .cons a (dpa_erase j t)
theorem dpa_ex {K : Fr} {F : Hp} {xs : List V} {ds : List D} {j : Nat} {d : D} (h : DpAll K F xs ds) (e : ds[j]? = some d) : ∃ v, xs[j]? = some v ∧ Dp K F v d := by
  have hj : j < xs.length := by rw [dpa_len h]; exact lt_of_get e
  exact ⟨xs[j], List.getElem?_eq_getElem hj, dpa_at h (List.getElem?_eq_getElem hj) e⟩
theorem e_pop (ho : PE X o (tVar i)) (hbase : attributeBase o "pop" X.env (eval o X.env) = eval o X.env := by rfl) (hline : (apos.endLine == cpos.line) = true := by rfl) : E X (.Call (.Attribute o "pop" apos) [] [] cpos) (cPop i) :=
  PE.imp (pe_bm0 PySem.F.plainAttrs_list PySem.F.slot_list_pop PySem.F.type_list_pop mt_pop ho hbase hline) fun σ H Q ⟨C, F, Γ, d, Γ', R, hc, k⟩ => by
    unfold cPop at hc
    simp only [Option.bind_eq_some_iff, Option.some.injEq, Prod.mk.injEq] at hc
    obtain ⟨ds, h0, d, h1, rfl, rfl⟩ := hc
    obtain ⟨a, s, xs, e1, e2, e3, e4, e5, e6⟩ := R.own h0
    rw [← dpa_len e5] at h1
    obtain ⟨v, v1, v2⟩ := dpa_ex e5 h1
    exact ⟨.ref a, e3, .inl ⟨rfl, xs, SqL.of e4⟩, a, xs, v, rfl, rfl, e4, v1, k F _ v (Le.refl _) (R.wrote e1 e2 e3 (dpa_dropLast e5)) v2⟩
/-- xs.pop(ix) -/
def cPopI (i : Nat) (c : CE) : CE := fun Γ => (ownAt Γ i).bind fun _ => (c Γ).bind fun p => match p.1 with
  | .int k => (ownAt p.2 i).bind fun ds => if -(2 ^ 63) ≤ k ∧ k < 2 ^ 63 then (seqIndex? k ds.length).bind fun j => (ds[j]?).bind fun d => some (d, backS p.2 i (.list (ds.eraseIdx j))) else none
  | _ => none
theorem e_popI (ho : PE X o (tVar i)) (he : E X e c) (hbase : attributeBase o "pop" X.env (eval o X.env) = eval o X.env := by rfl)
    (hfew : ((backTo cpos (starEach [e] X.env)).all (fun x => !x.1) && (backToKw cpos (keywordEach [] X.env)).all (fun x => x.1.isSome)
      && decide ([e].length + ([] : List Keyword).length + (if ([] : List Keyword).isEmpty then 0 else 1) < 30)) = true := by rfl)
    (hline : (apos.endLine == cpos.line) = true := by rfl) (hs : starEach [e] X.env = [(false, eval e X.env)] := by rfl) (hplain : (backTo cpos (starEach [] X.env)).any (·.1) = false := by rfl) :
    E X (.Call (.Attribute o "pop" apos) [e] [] cpos) (cPopI i c) :=
  PE.imp (pe_bm PySem.F.plainAttrs_list PySem.F.slot_list_pop PySem.F.type_list_pop mt_popAt ho (pa_cons he pa_nil hs) hbase hfew hline hs hplain) fun σ H Q ⟨C, F, Γ, d, Γ', R, hc, k⟩ => by
    unfold cPopI at hc
    simp only [Option.bind_eq_some_iff] at hc
    obtain ⟨ds0, h0, ⟨w, Γ1⟩, h1, hc⟩ := hc
    split at hc
    · rename_i kk ew
      simp only at ew
      subst ew
      simp only [Option.bind_eq_some_iff] at hc
      obtain ⟨ds, h2, hc⟩ := hc
      split at hc
      · rename_i hk
        simp only [Option.bind_eq_some_iff, Option.some.injEq, Prod.mk.injEq] at hc
        obtain ⟨j, h3, d, h4, rfl, rfl⟩ := hc
        obtain ⟨a, s, xs, e1, e2, e3, e4, e5, e6⟩ := R.own h0
        refine ⟨.ref a, e3, .inl ⟨rfl, xs, SqL.of e4⟩, C, F, Γ, _, Γ1, R, h1, fun F1 H1 u l1 R1 du => ?_⟩
        cases du
        obtain ⟨a', s', xs', f1, f2, f3, f4, f5, f6⟩ := R1.own h2
        rw [e3] at f3; cases f3
        obtain ⟨v, v1, v2⟩ := dpa_ex f5 h4
        exact ⟨a, xs', kk, j, v, rfl, rfl, f4, hk.1, hk.2, by rw [dpa_len f5]; exact h3, v1, k F1 _ v l1 (R1.wrote f1 f2 e3 (dpa_erase j f5)) v2⟩
      · cases hc
    · cases hc
end

/-! ### slices -/
section
variable {X : Cx} {e : Expr} {oe : Od} {pos p2 : Pos}
abbrev CO := En → Option (Option Int × En)
def tOI (K : Fr) (c : CO) : TO := fun σ H Q => ∃ C F Γ r Γ', Rel K C F H σ Γ ∧ c Γ = some (r, Γ') ∧ ∀ F' H', Le F F' → Rel K C F' H' σ Γ' → Q r H'
abbrev PI' (X : Cx) (e : Option Expr) (c : CO) : Prop := PO X e (tOI X.K c)
def cNoI : CO := fun Γ => some (none, Γ)
def cSomeI (c : CE) : CO := fun Γ => (c Γ).bind fun p => match p.1 with
  | .int i => some (some i, p.2)
  | _ => none
theorem PO.imp {e : Option Expr} {t u : TO} (h : PO X e t) (i : ∀ σ H Q, u σ H Q → t σ H Q) : PO X e u := ⟨fun pins s σ H Q I q => h.run pins s σ H Q I (i _ _ _ q)⟩
theorem o_none : PI' X none cNoI := PO.imp po_none fun σ H Q ⟨C, F, Γ, r, Γ', R, hc, k⟩ => by
  cases hc
  exact k F H (Le.refl _) R
theorem o_some {c : CE} (h : E X e c) : PI' X (some e) (cSomeI c) := PO.imp (po_some h) fun σ H Q ⟨C, F, Γ, r, Γ', R, hc, k⟩ => by
  unfold cSomeI at hc
  simp only [Option.bind_eq_some_iff] at hc
  obtain ⟨⟨d, Γ1⟩, h1, hc⟩ := hc
  split at hc
  · rename_i i e
    simp only at e
    subst e
    cases hc
    refine ⟨C, F, Γ, _, _, R, h1, fun F' H' v l R' q => ?_⟩
    cases q
    exact ⟨i, rfl, k F' H' l R'⟩
  · cases hc
def cutD (ds : List D) (lo hi : Option Int) : List D := (ds.drop (HT.sIx ds.length 0 lo)).take (HT.sIx ds.length ds.length hi - HT.sIx ds.length 0 lo)
theorem dpa_drop {K : Fr} {F : Hp} : ∀ {xs : List V} {ds : List D} (n : Nat), DpAll K F xs ds → DpAll K F (xs.drop n) (ds.drop n)
  | _, _, 0, h => h
  | _, _, n + 1, .nil => .nil
  | _, _, n + 1, .cons _ t => dpa_drop n t
theorem dpa_take {K : Fr} {F : Hp} : ∀ {xs : List V} {ds : List D} (n : Nat), DpAll K F xs ds → DpAll K F (xs.take n) (ds.take n)
  | _, _, 0, _ => .nil
  | _, _, n + 1, .nil => .nil
  | _, _, n + 1, .cons h t => .cons h (dpa_take n t)
theorem dpa_cut {K : Fr} {F : Hp} {xs : List V} {ds : List D} (h : DpAll K F xs ds) (lo hi : Option Int) : DpAll K F (cutV xs lo hi) (cutD ds lo hi) := by
  unfold cutV cutD
  rw [dpa_len h]
  exact dpa_take _ (dpa_drop _ h)
theorem sIx_le' (n d : Nat) (hd : d ≤ n) (o : Option Int) : HT.sIx n d o ≤ n := HT.sIx_le n d hd o
theorem cut_whole {α : Type} (xs : List α) {lo hi : Option Int} (h : HT.sIx xs.length 0 lo = 0 ∧ HT.sIx xs.length xs.length hi = xs.length) : (xs.drop (HT.sIx xs.length 0 lo)).take (HT.sIx xs.length xs.length hi - HT.sIx xs.length 0 lo) = xs := by
  rw [h.1, h.2]
  simp
/-- a slice of a tuple; of a list -/
def cSlT (oe : Od) (lo hi : CO) : CE := fun Γ => (oe.run Γ).bind fun p => (lo p.2).bind fun l => (hi l.2).bind fun h => (oe.fin p.1 h.2).bind fun d => match d with
  | .tuple ds => some (.tuple (cutD ds l.1 h.1), h.2)
  | _ => none
theorem e_slT {lo hi : Option Expr} {cl ch : CO} (he : O X e oe) (hl : PI' X lo cl) (hh : PI' X hi ch) : E X (.Subscript e (.Slice lo hi none p2) pos) (cSlT oe cl ch) :=
  PE.imp (pe_slice sl_tupA he hl hh) fun σ H Q ⟨C, F, Γ, d, Γ', R, hc, k⟩ => by
    unfold cSlT at hc
    simp only [Option.bind_eq_some_iff] at hc
    obtain ⟨⟨d1, Γ1⟩, h1, ⟨l, Γ2⟩, h2, ⟨h, Γ3⟩, h3, d3, h4, hc⟩ := hc
    split at hc
    · rename_i ds
      cases hc
      refine ⟨C, F, Γ, d1, Γ1, R, h1, fun F1 H1 v l1 R1 lk => ?_⟩
      refine ⟨C, F1, Γ1, l, Γ2, R1, h2, fun F2 H2 l2 R2 => ?_⟩
      refine ⟨C, F2, Γ2, h, Γ3, R2, h3, fun F3 H3 l3 R3 => ?_⟩
      obtain ⟨a, xs, rfl, s1, s2⟩ := (lk F3 H3 Γ3 _ (l2.trans l3) R3 h4).tuple
      refine ⟨a, xs, rfl, R3.sub.sqt s1, fun hw => ?_, fun hw p np => ?_⟩
      · refine k F3 H3 _ ((l1.trans l2).trans l3) R3 ?_
        have e : cutD ds l h = ds := by
          unfold cutD
          rw [dpa_len s2] at hw
          exact cut_whole ds hw
        rw [e]
        exact .tup s1 s2
      · have g := Grow.new R3.sub (o := .tup (cutV xs l h)) np
        exact k _ _ _ (((l1.trans l2).trans l3).trans g.f) (R3.grow g) (.tup (SqT.of upd_same) (dpa_mono g.f (dpa_cut s2 l h)))
    · cases hc
def cSlL (oe : Od) (lo hi : CO) : CN := fun Γ => (oe.run Γ).bind fun p => (lo p.2).bind fun l => (hi l.2).bind fun h => (oe.fin p.1 h.2).bind fun d => match d with
  | .list ds => some (.nw (.list (cutD ds l.1 h.1)), h.2)
  | _ => none
theorem n_slL {lo hi : Option Expr} {cl ch : CO} (he : O X e oe) (hl : PI' X lo cl) (hh : PI' X hi ch) : N X (.Subscript e (.Slice lo hi none p2) pos) (cSlL oe cl ch) :=
  PE.imp (pe_slice sl_list he hl hh) fun σ H Q ⟨C, F, Γ, d, Γ', R, hc, k⟩ => by
    unfold cSlL at hc
    simp only [Option.bind_eq_some_iff] at hc
    obtain ⟨⟨d1, Γ1⟩, h1, ⟨l, Γ2⟩, h2, ⟨h, Γ3⟩, h3, d3, h4, hc⟩ := hc
    split at hc
    · rename_i ds
      cases hc
      refine ⟨C, F, Γ, d1, Γ1, R, h1, fun F1 H1 v l1 R1 lk => ?_⟩
      refine ⟨C, F1, Γ1, l, Γ2, R1, h2, fun F2 H2 l2 R2 => ?_⟩
      refine ⟨C, F2, Γ2, h, Γ3, R2, h3, fun F3 H3 l3 R3 => ?_⟩
      have lk3 := lk F3 H3 Γ3 _ (l2.trans l3) R3 h4
      have inF : ∃ a xs, v = .ref a ∧ SqL X.K H3 a xs ∧ DpAll X.K F3 xs ds := by
        rcases lk3 with lk | ⟨a, es', xs, rfl, e, h1, h2⟩
        · cases lk with
          | @lst a xs _ h1 h2 => exact ⟨a, xs, rfl, R3.sub.sql h1, h2⟩
        · cases e; exact ⟨a, xs, rfl, SqL.of h1, h2⟩
      obtain ⟨a, xs, rfl, s1, s2⟩ := inF
      exact ⟨a, xs, rfl, s1, fun p np => k F3 _ _ ((l1.trans l2).trans l3) (R3.grow (Grow.raw R3.sub np)) (got_new R3 np (dpa_cut s2 l h))⟩
    · cases hc
end
end Pu

set_option maxHeartbeats 1000000
namespace Pu
open PySem PySem.Spec PyProof.Rows L2

/-! ### t[::-1] of a tuple -/
section
variable {prog : Program} {w : World} {A : Around} {E : Value → Shared → Prop} {s : Shared}
theorem rev_applied {sl : Addr} {vl vu vs : Value} {n : Nat} {Q : Int × Int × Nat → Shared → Prop} (hs : s.heap.IsSliceOf sl vl vu vs) (pl : IsPart vl none) (pu : IsPart vu none) (pv : IsPart vs (some (-1)))
    (h : Q ((n : Int) - 1, -1, n) s) : wpAny (model prog w) A (Builtin.Slice.sliceApplied (.ref sl) (pure (n : Int))) Q E s := by
  obtain ⟨os, hos, hcs, hds⟩ := id hs
  unfold Builtin.Slice.sliceApplied Builtin.Slice.sliceFields
  refine wpAny_bind (wpAny_bind (wpAny_field hos hds (x := vl) rfl (wpAny_bind (wpAny_field hos hds (x := vu) rfl (wpAny_bind (wpAny_field hos hds (x := vs) rfl (wpAny_pure ?_)))))))
  refine wpAny_bind (HT.slicePart_ pv ?_)
  refine wpAny_ite_false (by decide) ?_
  refine wpAny_bind (HT.slicePart_ pl (wpAny_bind (HT.slicePart_ pu (wpAny_bind (wpAny_pure ?_)))))
  have e1 : Builtin.Slice.sliceAdjust none none (-1) (n : Int) = ((n : Int) - 1, -1) := rfl
  have e2 : Builtin.Slice.slicePlaces ((n : Int) - 1) (-1) (-1) = n := by
    unfold Builtin.Slice.slicePlaces
    rw [if_neg (by decide)]
    split
    · have : ((n : Int) - 1 - -1 - 1) / (- -1) + 1 = (n : Int) := by
        rw [show (- -1 : Int) = 1 by decide, Int.ediv_one]; omega
      rw [this]; exact Int.toNat_natCast n
    · have : n = 0 := by omega
      subst this; rfl
  show wpAny _ _ (match Builtin.Slice.sliceAdjust none none (-1) (n : Int) with | (lo, hi) => pure (lo, (-1 : Int), Builtin.Slice.slicePlaces lo hi (-1))) _ _ s
  rw [e1]
  show wpAny _ _ (pure ((n : Int) - 1, (-1 : Int), Builtin.Slice.slicePlaces ((n : Int) - 1) (-1) (-1))) _ _ s
  rw [e2]
  exact wpAny_pure h
theorem pick_rev (xs : Array Value) : ((List.range xs.size).filterMap fun (k : Nat) => xs[((xs.size : Int) - 1 + (k : Int) * -1).toNat]?).toArray = xs.toList.reverse.toArray := by
  congr 1
  have e : (fun (k : Nat) => xs[((xs.size : Int) - 1 + (k : Int) * -1).toNat]?) = (fun x => xs[x]?) ∘ fun k => xs.size - 1 - k := by
    funext k
    have h1 : ((xs.size : Int) - 1 + (k : Int) * -1).toNat = xs.size - 1 - k := by omega
    show _ = xs[xs.size - 1 - k]?
    rw [h1]
  rw [e, ← List.filterMap_map, PySem.W.krv_range, List.filterMap_reverse, PySem.W.krv_all]
theorem item_rev {t sl : Addr} {items : Array Value} {vl vu vs : Value} {Q : Value → Shared → Prop} (ht : IsTup s.heap t items) (hs : s.heap.IsSliceOf sl vl vu vs) (pl : IsPart vl none) (pu : IsPart vu none) (pv : IsPart vs (some (-1)))
    (h : Q (.ref s.heap.objs.size) { s with heap := s.heap.push { cls := .type "tuple", data := .seq items.toList.reverse.toArray } }) (hsz : items.size ≤ sizeLine) : wpAny (model prog w) A (getItem (.ref t) (.ref sl)) Q E s := by
  have hok : sizeOk (.seq items.toList.reverse.toArray) := by
    show items.toList.reverse.toArray.size ≤ sizeLine
    simpa using hsz
  obtain ⟨os, hos, hcs, hds⟩ := id hs
  have hTs : s.TypeIs (.ref sl) "slice" := ⟨os, hos, hcs⟩
  unfold getItem
  try with_reducible refine wpAny_holding ?_
  first | refine wpAny_bind (wpAny_pure ?_) | skip
  refine wpAny_bind (wpAny_sequenceKey ht.typeIs (by decide) ?_)
  refine wpAny_bind (wpAny_callSpecial?_slot (name := Str.ofString "__getitem__") ht.typeIs PyProof.Rows.slot_tuple_getitem
    (wpAny_call_entry PyProof.Rows.slot_tuple_getitem ht.typeIs entry_tuple_getitem ?_ (args_tuple_getitem _ _)))
  show wpAny _ _ (Builtin.Tuple.tupleItemsOf (.ref t) >>= _) _ _ s
  refine wpAny_bind (tupleItemsOf_ ht ?_)
  refine wpAny_bind (wpAny_typeOf hTs ?_)
  rw [if_pos (by decide)]
  refine wpAny_bind (rev_applied hs pl pu pv ?_)
  have hno : ¬ ((((items.size : Int) - 1) == 0 && (-1 : Int) == 1 && items.size == items.size) = true) := by
    rw [Bool.and_assoc, show ((-1 : Int) == 1) = false by decide, Bool.false_and, Bool.and_false]
    exact Bool.false_ne_true
  show wpAny _ _ (if (((items.size : Int) - 1) == 0 && (-1 : Int) == 1 && items.size == items.size) = true then _ else _) _ _ s
  rw [if_neg hno, pick_rev]
  first
    | exact wpAny_bind (m := Builtin.Tuple.tupleExact _) (wpAny_newObj_type (wpAny_pure ⟨_, rfl, wpAny_pure h⟩) hok)
    | exact wpAny_bind (wpAny_bind (m := Builtin.Tuple.tupleExact _) (wpAny_newObj_type (wpAny_pure ⟨_, rfl, wpAny_pure h⟩) hok))
end
def tRevT (K : Fr) (te : TE) : TE := fun σ H Q => te σ H fun x H1 => ∃ a xs, x = .ref a ∧ SqT K H1 a xs ∧ ∀ p, H1 p = none → Q (.ref p) (upd H1 p (.tup xs.reverse))
section
variable {X : Cx} {e : Expr} {pos : Pos}
theorem pe_revT {te : TE} {k : Nat} {p1 p2 p3 : Pos} (he : PE X e te) : PE X (.Subscript e (.Slice none none (some (.UnaryOp .USub (.Constant (.int 1) k p1) p2)) p3) pos) (tRevT X.K te) := by
  refine ⟨fun pins s σ H Q I h => Subscript_ (thn (he.run pins s σ H _ I h) fun v s1 ⟨x, H1, I1, r1, a, xs, ex, hx, q⟩ => ?_)⟩
  subst ex
  cases r1
  have step : PO X (some (.UnaryOp .USub (.Constant (.int 1) k p1) p2)) (tPart (tUn (rU fun i => .int (-i)) (tC (.int 1)))) := po_some (pe_un un_neg pe_int)
  refine wpAny_Slice (thn (po_none.run pins s1 σ H1 (fun o H2 => o = none ∧ H2 = H1) I1 ⟨rfl, rfl⟩) fun vl s2 ⟨l, H2, I2, pl, el, e2⟩ => ?_)
  subst el e2
  refine thn (po_none.run pins s2 σ H2 (fun o H3 => o = none ∧ H3 = H2) I2 ⟨rfl, rfl⟩) fun vu s3 ⟨u, H3, I3, pu, eu, e3⟩ => ?_
  subst eu e3
  refine thn (step.run pins s3 σ H3 (fun o H4 => o = some (-1) ∧ H4 = H3) I3 ⟨1, rfl, -1, rfl, rfl, rfl⟩) fun vs s4 ⟨o, H4, I4, ps, eo, e4⟩ => ?_
  subst eo e4
  have I5 : Inv X pins σ H4 { s4 with heap := s4.heap.push { cls := .type "slice", data := .fields #[vl, vu, vs] } } := I4.kept (t' := s4.toks) fun b ob q => Heap.get?_push_of_some _ q
  obtain ⟨its, r, ht, hz⟩ := I5.tuple hx
  have hlen := r.length
  show wpAny (model X.prog X.w) X.A (subscriptTail e (.Slice none none (some (.UnaryOp .USub (.Constant (.int 1) k p1) p2)) p3) (.ref a) (.ref s4.heap.objs.size)) (EP X pins σ Q) X.xe { s4 with heap := s4.heap.push { cls := .type "slice", data := .fields #[vl, vu, vs] } }
  refine tail_any (ops := [.ref a, .ref s4.heap.objs.size]) ht.typeIs PyProof.Rows.slot_tuple_getitem.lookup ?_ (by with_unfolding_all rfl)
  refine item_rev ht (Heap.IsSliceOf.new _ vl vu vs) pl pu ps ?_ (by rw [List.size_toArray]; omega)
  refine ⟨.ref _, _, I5.laid (t' := s4.toks) (o := .tup xs.reverse) (fun b ob q => Heap.get?_push_of_some _ q) (Nat.le_refl _) ?_, rfl, q _ (I5.hok.fresh (Nat.le_refl _))⟩
  exact ⟨by rw [List.length_reverse]; exact hz, its.reverse, r.reverse, IsTup.new _ _⟩
theorem dpa_rev {K : Fr} {F : Hp} : ∀ {xs : List V} {ds : List D}, DpAll K F xs ds → DpAll K F xs.reverse ds.reverse
  | _, _, .nil => .nil
  | _, _, .cons h t => by rw [List.reverse_cons, List.reverse_cons]; exact dpa_snoc (dpa_rev t) h
def cRevT (oe : Od) : CE := cUn (fun d => match d with | .tuple ds => some (.tuple ds.reverse) | _ => none) oe
theorem e_revT {oe : Od} {k : Nat} {p1 p2 p3 : Pos} (he : O X e oe) : E X (.Subscript e (.Slice none none (some (.UnaryOp .USub (.Constant (.int 1) k p1) p2)) p3) pos) (cRevT oe) :=
  PE.imp (pe_revT he) fun σ H Q ⟨C, F, Γ, d, Γ', R, hc, kk⟩ => by
    unfold cRevT cUn at hc
    simp only [Option.bind_eq_some_iff, Option.some.injEq, Prod.mk.injEq] at hc
    obtain ⟨⟨da, Γ1⟩, h1, x, h2, z, h3, rfl, rfl⟩ := hc
    split at h3
    · rename_i ds
      cases h3
      refine ⟨C, F, Γ, da, Γ1, R, h1, fun F1 H1 v l1 R1 q => ?_⟩
      obtain ⟨a, xs, rfl, s1, s2⟩ := (q F1 H1 Γ1 _ (Le.refl _) R1 h2).tuple
      refine ⟨a, xs, rfl, R1.sub.sqt s1, fun p np => ?_⟩
      have g := Grow.new R1.sub (o := .tup xs.reverse) np
      exact kk _ _ _ (l1.trans g.f) (R1.grow g) (.tup (SqT.of upd_same) (dpa_mono g.f (dpa_rev s2)))
    · cases h3
def cRevL (oe : Od) : CN := fun Γ => (oe.run Γ).bind fun p => (oe.fin p.1 p.2).bind fun d => match d with
  | .list ds => some (.nw (.list ds.reverse), p.2)
  | _ => none
theorem n_revL {oe : Od} {k : Nat} {p1 p2 p3 : Pos} (he : O X e oe) : N X (.Subscript e (.Slice none none (some (.UnaryOp .USub (.Constant (.int 1) k p1) p2)) p3) pos) (cRevL oe) :=
  PE.imp (pe_revL he) fun σ H Q ⟨C, F, Γ, d, Γ', R, hc, kk⟩ => by
    unfold cRevL at hc
    simp only [Option.bind_eq_some_iff] at hc
    obtain ⟨⟨da, Γ1⟩, h1, x, h2, hc⟩ := hc
    split at hc
    · rename_i ds
      cases hc
      refine ⟨C, F, Γ, da, Γ1, R, h1, fun F1 H1 v l1 R1 q => ?_⟩
      have inF : ∃ a xs, v = .ref a ∧ SqL X.K H1 a xs ∧ DpAll X.K F1 xs ds := by
        rcases q F1 H1 Γ1 _ (Le.refl _) R1 h2 with lk | ⟨a, es', xs, rfl, e, h1, h2⟩
        · cases lk with
          | @lst a xs _ h1 h2 => exact ⟨a, xs, rfl, R1.sub.sql h1, h2⟩
        · cases e; exact ⟨a, xs, rfl, SqL.of h1, h2⟩
      obtain ⟨a, xs, rfl, s1, s2⟩ := inF
      exact ⟨a, xs, rfl, s1, fun p np => kk F1 _ _ l1 (R1.grow (Grow.raw R1.sub np)) (got_new R1 np (dpa_rev s2))⟩
    · cases hc

/-! ### a tuple times an int; a list's display times an int -/
theorem tuple_once (l : Addr) (items : Array Value) (n : Nat) (dd : Option Addr) (sl : Array (Option Value)) (u : Tok) :
    Meets (Builtin.«tuple.__mul__» ⟨[.ref l, .int 1 u], []⟩) (fun _ R s => s.heap.get? l = some { cls := .type "tuple", dict := dd, data := .seq items n, slots := sl } ∧ R (.ok (.ret (Value.ref l))) s) :=
  .of_wp fun prog w A R s h => by
    obtain ⟨hp, g, d, tk, os⟩ := s
    obtain ⟨hl, h⟩ := h
    have f1 := AutoSeq1.idx_int
    wp_walk using wpAny_loadPart' hl
    exact ⟨_, rfl, h⟩
theorem op_onceT : OpR X (binaryOp .Mult) (fun x y H Q => ∃ l xs, x = .ref l ∧ y = .int 1 ∧ SqT X.K H l xs ∧ Q (.ref l) H) := by
  intro pins s σ H x y v u Q I rx ry ⟨l, xs, ex, ey, hT, q⟩
  subst ex ey
  cases rx
  obtain ⟨t, rfl⟩ := ry
  obtain ⟨its, r, ⟨⟨cls, dd, data, sl⟩, ho, hc, n, hd⟩, hs⟩ := I.tuple hT
  simp only at hc hd
  subst hc hd
  exact wpAny_binaryOp_repeat_ref (T := "tuple") (U := "int") (by decide) ⟨_, ho, rfl⟩ (fun s' => typeIs_int s' 1 t) noFill_tuple_mul PySem.F.fills_int_mul PySem.F.slot_int_rmul repeat_tuple PySem.F.slot_int_index.lookup
    (call_meets PySem.F.slot_int_rmul (typeIs_int s 1 t) PySem.F.entry_int_rmul (PySem.F.args_int_rmul_2 _ _) (int_rmul_tuple 1 t l its.toArray n dd sl)
      ⟨ho, rfl, ⟨_, ho, rfl⟩, call_meets PySem.F.slot_tuple_mul ⟨_, ho, rfl⟩ PySem.F.entry_tuple_mul (PySem.F.args_tuple_mul_2 _ _) (tuple_once l its.toArray n dd sl t) ⟨ho, .ref l, H, I, rfl, q⟩⟩)
def dMulT : D → D → Option D
  | .tuple ds, .int k => if ds ≠ [] ∧ 1 ≤ k ∧ k ≤ 1000 ∧ ds.length ≤ 1000 then some (.tuple (List.replicate k.toNat ds).flatten) else none
  | a, b => dMul a b
theorem dpa_repl {K : Fr} {F : Hp} {xs : List V} {ds : List D} (h : DpAll K F xs ds) : ∀ k, DpAll K F (List.replicate k xs).flatten (List.replicate k ds).flatten
  | 0 => .nil
  | k + 1 => by
    rw [List.replicate_succ, List.replicate_succ, List.flatten_cons, List.flatten_cons]
    exact dpa_app h (dpa_repl h k)
theorem od_mulT : OpR X (binaryOp .Mult) (rD2 X.K dMulT) := by
  intro pins s σ H x y v u Q I rx ry ⟨F, d, e, z, sb, lx, ly, hf, q⟩
  unfold dMulT at hf
  split at hf
  · rename_i ds k
    split at hf
    · rename_i hk
      cases hf
      obtain ⟨a, xs, rfl, h1, h2⟩ := lx.tuple
      have ey := ly.int
      by_cases h : k = 1
      · subst h
        refine op_onceT pins s σ H _ _ v u Q I rx ry ⟨a, xs, rfl, ey, sb.sqt h1, q F H _ (Grow.refl sb) ?_⟩
        have e : (List.replicate (1 : Int).toNat ds).flatten = ds := by simp
        rw [e]
        exact .tup h1 h2
      · refine op_repT pins s σ H _ _ v u Q I rx ry ⟨a, k, xs, rfl, ey, sb.sqt h1, fun z => ?_, by omega, hk.2.2.1, by rw [dpa_len h2]; exact hk.2.2.2, fun p np => ?_⟩
        · subst z; cases h2; exact hk.1 rfl
        · have g := Grow.new sb (o := .tup (List.replicate k.toNat xs).flatten) np
          exact q _ _ _ g (.tup (SqT.of upd_same) (dpa_mono g.f (dpa_repl h2 _)))
    · cases hf
  · exact od_mul pins s σ H x y v u Q I rx ry ⟨F, _, _, z, sb, lx, ly, hf, q⟩
/-- [a, ..] * k -/
def cRep (r : CA) (c : CE) : CN := fun Γ => (r Γ).bind fun p => if p.1.length ≤ sizeLine then (c p.2).bind fun q => (match q.1 with
  | .int k => if -(2 ^ 63) ≤ k ∧ k < 2 ^ 63 ∧ p.1.length * k.toNat ≤ sizeLine then some (.nw (.list (List.replicate k.toNat p.1).flatten), q.2) else none
  | _ => none) else none
theorem n_rep {es : List Expr} {b : Expr} {r : CA} {c : CE} {pl : Pos} (h : Ar X es r) (hb : E X b c) : N X (.BinOp (.List es pl) .Mult b pos) (cRep r c) := PE.imp (pe_op op_rep (pe_lst h) hb) fun σ H Q ⟨C, F, Γ, d, Γ', R, hc, kk⟩ => by
  unfold cRep at hc
  simp only [Option.bind_eq_some_iff] at hc
  obtain ⟨⟨ds, Γ1⟩, h1, hc⟩ := hc
  split at hc
  · rename_i hz
    simp only [Option.bind_eq_some_iff] at hc
    obtain ⟨⟨w, Γ2⟩, h2, hc⟩ := hc
    split at hc
    · rename_i k ew
      simp only at ew
      subst ew
      split at hc
      · rename_i hk
        cases hc
        refine ⟨C, F, Γ, ds, Γ1, R, h1, fun F1 H1 vs l1 R1 q1 => ⟨by rw [dpa_len q1]; exact hz, fun p np => ?_⟩⟩
        have g := Grow.new R1.sub (o := .lst vs) np
        refine ⟨C, _, Γ1, _, Γ2, R1.grow g, h2, fun F2 H2 u l2 R2 du => ?_⟩
        cases du
        refine ⟨p, k, vs, rfl, rfl, R2.sub _ _ (l2 _ _ upd_same), hk.1, hk.2.1, by rw [dpa_len q1]; exact hk.2.2, fun p2 np2 => ?_⟩
        exact kk F2 _ _ ((l1.trans g.f).trans l2) (R2.grow (Grow.raw R2.sub np2)) (got_new R2 np2 (dpa_repl (dpa_mono (g.f.trans l2) q1) _))
      · cases hc
    · cases hc
  · cases hc

/-! ### dicts of the module, text keys -/
structure KD (K : Fr) (w : World) (a : Addr) (kvs : List (Str × D)) : Prop where
  ex : ∃ es n, K.lookup a = some ⟨.type "dict", none, .dict es n, #[]⟩ ∧ PySem.W.KeysLit w.params es.toList ∧ (a == sysModules) = false ∧
    Paired (fun (p : Str × D) (e : DictEntry) => (∀ z, e.key.isStr z = decide (p.1 = z)) ∧ e.refKey = false ∧ ∃ v, RelV v e.val ∧ ∀ F : Hp, Dp K F v p.2) kvs es.toList
def lookD (kvs : List (Str × D)) (z : Str) : Option D := (kvs.find? fun p => decide (p.1 = z)).map (·.2)
theorem KD.get {K : Fr} {w : World} {a : Addr} {kvs : List (Str × D)} (k : KD K w a kvs) : ∃ es n, KDict K w a es n ∧ ∀ z, (∃ u, PySem.W.nsIn K a z = some u ∧ u.isSome = (lookD kvs z).isSome ∧ ∀ d, lookD kvs z = some d → ∃ u' v, u = some u' ∧ RelV v u' ∧ ∀ F : Hp, Dp K F v d) := by
  obtain ⟨es, n, h1, h2, h3, h4⟩ := k.ex
  refine ⟨es, n, ⟨h1, h2, h3⟩, fun z => ?_⟩
  have key : ∀ {kvs : List (Str × D)} {l : List DictEntry}, Paired (fun (p : Str × D) (e : DictEntry) => (∀ z, e.key.isStr z = decide (p.1 = z)) ∧ e.refKey = false ∧ ∃ v, RelV v e.val ∧ ∀ F : Hp, Dp K F v p.2) kvs l →
      (∃ u, (match l.find? (·.key.isStr z) with | some e => some (some e.val) | none => if l.any (·.refKey) then none else some none) = some u ∧ u.isSome = (lookD kvs z).isSome ∧ ∀ d, lookD kvs z = some d → ∃ u' v, u = some u' ∧ RelV v u' ∧ ∀ F : Hp, Dp K F v d) ∧ l.any (·.refKey) = false := by
    intro kvs l h
    induction h with
    | nil => exact ⟨⟨none, rfl, rfl, fun d e => by cases e⟩, rfl⟩
    | @cons p e kvs l h t ih =>
      obtain ⟨q1, q2, v, q3, q4⟩ := h
      obtain ⟨⟨u, u1, u2, u3⟩, r⟩ := ih
      have ra : (e :: l).any (·.refKey) = false := by rw [List.any_cons, q2, r]; rfl
      refine ⟨?_, ra⟩
      by_cases hz : p.1 = z
      · refine ⟨some e.val, ?_, ?_, fun d hd => ⟨e.val, v, rfl, q3, ?_⟩⟩
        · rw [List.find?_cons, q1 z, decide_eq_true hz]
        · unfold lookD; rw [List.find?_cons, decide_eq_true hz]; rfl
        · unfold lookD at hd; rw [List.find?_cons, decide_eq_true hz] at hd
          cases hd; exact q4
      · have e1 : lookD (p :: kvs) z = lookD kvs z := by unfold lookD; rw [List.find?_cons, decide_eq_false hz]
        refine ⟨u, ?_, by rw [e1]; exact u2, fun d hd => u3 d (by rw [← e1]; exact hd)⟩
        rw [List.find?_cons, q1 z, decide_eq_false hz, ra]
        rw [r] at u1
        exact u1
  obtain ⟨⟨u, u1, u2, u3⟩, _⟩ := key h4
  refine ⟨u, ?_, u2, u3⟩
  unfold PySem.W.nsIn
  rw [h1]
  exact u1
def fHasK (kvs : List (Str × D)) (neg : Bool) : D → Option D
  | .str z => some (.bool (if neg then !(lookD kvs z).isSome else (lookD kvs z).isSome))
  | _ => none
def fGetK (kvs : List (Str × D)) : D → Option D
  | .str z => lookD kvs z
  | _ => none
theorem has_to {neg : Bool} {a : Addr} {kvs : List (Str × D)} {oe : Od} {r : R2} (hr : ∀ (z : Str) (H : Hp) (Q : VK), Q (.bl (if neg then !(lookD kvs z).isSome else (lookD kvs z).isSome)) H → r (.str z) (.ref a) H Q) {σ : L2.St} {H : Hp} {Q : VK} {K : Fr} (h : tE K (cUn (fHasK kvs neg) oe) σ H Q) :
    tOp r (tO K oe) (tC (.ref a)) σ H Q := by
  obtain ⟨C, F, Γ, d, Γ', R, hc, kk⟩ := h
  unfold cUn at hc
  simp only [Option.bind_eq_some_iff, Option.some.injEq, Prod.mk.injEq] at hc
  obtain ⟨⟨da, Γ1⟩, h1, x, h2, z, h3, rfl, rfl⟩ := hc
  unfold fHasK at h3
  split at h3
  · cases h3
    refine ⟨C, F, Γ, da, Γ1, R, h1, fun F1 H1 v l1 R1 q => ?_⟩
    have lk := q F1 H1 Γ1 _ (Le.refl _) R1 h2
    rw [lk.str]
    exact hr _ _ _ (kk F1 H1 _ l1 R1 (.bl _))
  · cases h3
theorem inK_r {a : Addr} {kvs : List (Str × D)} (k : KD X.K X.w a kvs) : ∃ r, OpR X (compareOp .In) r ∧ ∀ (z : Str) (H : Hp) (Q : VK), Q (.bl (if false then !(lookD kvs z).isSome else (lookD kvs z).isSome)) H → r (.str z) (.ref a) H Q := by
  obtain ⟨es, n, kd, g⟩ := k.get
  refine ⟨_, op_in_kd kd, fun z H Q q => ?_⟩
  obtain ⟨u, u1, u2, _⟩ := g z
  refine ⟨z, u, rfl, rfl, u1, ?_⟩
  rw [u2]; exact q
theorem notinK_r {a : Addr} {kvs : List (Str × D)} (k : KD X.K X.w a kvs) : ∃ r, OpR X (compareOp .NotIn) r ∧ ∀ (z : Str) (H : Hp) (Q : VK), Q (.bl (if true then !(lookD kvs z).isSome else (lookD kvs z).isSome)) H → r (.str z) (.ref a) H Q := by
  obtain ⟨es, n, kd, g⟩ := k.get
  refine ⟨_, op_notIn_kd kd, fun z H Q q => ?_⟩
  obtain ⟨u, u1, u2, _⟩ := g z
  refine ⟨z, u, rfl, rfl, u1, ?_⟩
  rw [u2]; exact q
theorem e_inK {a : Addr} {kvs : List (Str × D)} {x b : Expr} {oe : Od} (k : KD X.K X.w a kvs) (ha : O X x oe) (hb : PE X b (tC (.ref a))) (hm : behindInMarks .In b = false := by rfl) : E X (.Compare x [.In] [b] pos) (cUn (fHasK kvs false) oe) := by
  obtain ⟨r, h1, h2⟩ := inK_r k
  exact PE.imp (pe_cmpR h1 ha hb hm) fun _ _ _ h => has_to h2 h
theorem e_notinK {a : Addr} {kvs : List (Str × D)} {x b : Expr} {oe : Od} (k : KD X.K X.w a kvs) (ha : O X x oe) (hb : PE X b (tC (.ref a))) (hm : behindInMarks .NotIn b = false := by rfl) : E X (.Compare x [.NotIn] [b] pos) (cUn (fHasK kvs true) oe) := by
  obtain ⟨r, h1, h2⟩ := notinK_r k
  exact PE.imp (pe_cmpR h1 ha hb hm) fun _ _ _ h => has_to h2 h
theorem t_inK {a : Addr} {kvs : List (Str × D)} {x b : Expr} {oe : Od} (k : KD X.K X.w a kvs) (ha : O X x oe) (hb : PE X b (tC (.ref a))) (hm : behindInMarks .In b = false := by rfl) : T X (.Compare x [.In] [b] pos) (cB (cUn (fHasK kvs false) oe)) := by
  obtain ⟨r, h1, h2⟩ := inK_r k
  exact PT.imp (pt_cmpR h1 ha hb hm) fun _ _ _ h => by
    have q := tB_to h
    exact has_to h2 q
theorem t_notinK {a : Addr} {kvs : List (Str × D)} {x b : Expr} {oe : Od} (k : KD X.K X.w a kvs) (ha : O X x oe) (hb : PE X b (tC (.ref a))) (hm : behindInMarks .NotIn b = false := by rfl) : T X (.Compare x [.NotIn] [b] pos) (cB (cUn (fHasK kvs true) oe)) := by
  obtain ⟨r, h1, h2⟩ := notinK_r k
  exact PT.imp (pt_cmpR h1 ha hb hm) fun _ _ _ h => by
    have q := tB_to h
    exact has_to h2 q
theorem e_ixK {a : Addr} {kvs : List (Str × D)} {x b : Expr} {oe : Od} (k : KD X.K X.w a kvs) (hb : PE X b (tC (.ref a))) (ha : O X x oe) (hs : PlainIx x := by exact fun _ _ => rfl) : E X (.Subscript b x pos) (cUn (fGetK kvs) oe) := by
  refine PE.imp (pe_ix ix_kdict hb ha hs) fun σ H Q ⟨C, F, Γ, d, Γ', R, hc, kk⟩ => ?_
  unfold cUn at hc
  simp only [Option.bind_eq_some_iff, Option.some.injEq, Prod.mk.injEq] at hc
  obtain ⟨⟨da, Γ1⟩, h1, x, h2, z, h3, rfl, rfl⟩ := hc
  unfold fGetK at h3
  split at h3
  · rename_i y
    refine ⟨C, F, Γ, da, Γ1, R, h1, fun F1 H1 v l1 R1 q => ?_⟩
    have lk := q F1 H1 Γ1 _ (Le.refl _) R1 h2
    obtain ⟨es, n, kd, g⟩ := k.get
    obtain ⟨u, u1, _, u3⟩ := g y
    obtain ⟨u', v', rfl, r1, r2⟩ := u3 _ h3
    exact ⟨a, y, v', rfl, lk.str, ⟨es, n, u', kd.at_, kd.lit, u1, r1⟩, kk F1 H1 _ l1 R1 (r2 F1)⟩
  · cases h3

/-! ### a display of texts to constants, asked by get -/
/-- the pairs' readings -/
def trsOf (kvs : List (Str × V)) : List (TE × TE) := kvs.map fun p => (tC (.str p.1), tC p.2)
theorem pairs_to {σ : L2.St} {H : Hp} {Q : List (V × V) → Hp → Prop} : ∀ {kvs : List (Str × V)}, Q (kvs.map fun p => (V.str p.1, p.2)) H → tPairs (trsOf kvs) σ H Q
  | [], h => h
  | p :: kvs, h => by
    show tPairs (trsOf kvs) σ H fun ps H3 => Q ((.str p.1, p.2) :: ps) H3
    exact pairs_to (kvs := kvs) h
def fGetD (kvs : List (Str × D)) (dflt : D) : D → Option D
  | .str z => some ((lookD kvs z).getD dflt)
  | _ => none
theorem e_getD {keys : List (Option Expr)} {values : List Expr} {kvs : List (Str × V)} {dvs : List (Str × D)} {a f : Expr} {oe : Od} {vf : V} {df : D} {dp apos cpos : Pos} (hu : X.A.units + 1 < cLine) (hp : PPs X dp keys values (trsOf kvs)) (ha : O X a oe) (hf : PE X f (tC vf)) (hdf : ∀ F : Hp, Dp X.K F vf df)
    (hd : Paired (fun (p : Str × V) (q : Str × D) => p.1 = q.1 ∧ ∀ F : Hp, Dp X.K F p.2 q.2) kvs dvs) (hm : mergeK [] (kvs.map fun p => (Sum.inr p.1, p.2)) = kvs.map fun p => (Sum.inr p.1, p.2)) (hall : keys.all (·.isSome) = true) (hl : keys.length = values.length) (h0 : keys ≠ []) (h15 : keys.length ≤ 15) (hk15 : kvs.length ≤ 15)
    (m : M2 X (.Dict keys values dp) "get" apos a f cpos) : E X (.Call (.Attribute (.Dict keys values dp) "get" apos) [a, f] [] cpos) (cUn (fGetD dvs df) oe) :=
  PE.imp (pe_dget2 hu (pe_disp hp hall hl h0 h15) ha hf m) fun σ H Q ⟨C, F, Γ, d, Γ', R, hc, kk⟩ => by
    unfold cUn at hc
    simp only [Option.bind_eq_some_iff, Option.some.injEq, Prod.mk.injEq] at hc
    obtain ⟨⟨da, Γ1⟩, h1, x, h2, z, h3, rfl, rfl⟩ := hc
    unfold fGetD at h3
    split at h3
    · rename_i y
      cases h3
      intro p np
      refine pairs_to ⟨upd_same, kvs.map fun p => (Sum.inr p.1, p.2), by simp [kV], by simpa using hk15, ?_⟩
      rw [hm, upd_upd]
      have g := Grow.new R.sub (o := .dK (kvs.map fun p => (Sum.inr p.1, p.2))) np
      refine ⟨p, rfl, .inl ⟨_, .inl upd_same⟩, C, _, Γ, da, Γ1, R.grow g, h1, fun F1 H1 v l1 R1 q => ?_⟩
      have lk := q F1 H1 Γ1 _ (Le.refl _) R1 h2
      rw [lk.str]
      refine ⟨valV (kvs.map fun p => (Sum.inr p.1, p.2)) (Sum.inr y), DGet.k (k := Sum.inr y) (R1.sub _ _ (l1 _ _ upd_same)), ?_⟩
      refine kk F1 H1 _ (g.f.trans l1) R1 ?_
      have fin : ∀ {kvs : List (Str × V)} {dvs : List (Str × D)}, Paired (fun (p : Str × V) (q : Str × D) => p.1 = q.1 ∧ ∀ F : Hp, Dp X.K F p.2 q.2) kvs dvs → Dp X.K F1 ((valV (kvs.map fun p => ((Sum.inr p.1 : Key), p.2)) (Sum.inr y)).getD vf) ((lookD dvs y).getD df) := fun {kvs dvs} hd => ?_
      · exact fin hd
      induction hd with
      | nil => exact hdf F1
      | @cons p e kvs dvs h t ih =>
        by_cases hz : p.1 = y
        · rw [List.map_cons, valV_pos (by simp [hz])]
          have : lookD (e :: dvs) y = some e.2 := by unfold lookD; rw [List.find?_cons, decide_eq_true (h.1.symm.trans hz)]; rfl
          rw [this]
          exact h.2 F1
        · rw [List.map_cons, valV_neg (by simp [hz])]
          have : lookD (e :: dvs) y = lookD dvs y := by unfold lookD; rw [List.find?_cons, decide_eq_false (fun w => hz (h.1.trans w))]
          rw [this]
          exact ih
    · cases h3
end
end Pu

namespace Pu
open PySem PySem.Spec PyProof.Rows L2

/-! ### calls with keywords -/
def perm {α : Type} (m n : Nat) (pi : List Nat) (us ws : List α) : List α := if us.length = m ∧ ws.length = n then pi.filterMap fun i => (us ++ ws)[i]? else []
theorem perm_vals {m n : Nat} {pi : List Nat} {vs zs : List V} {us ws : List Value} (r : Vals vs us) (q : Vals zs ws) : Vals (perm m n pi vs zs) (perm m n pi us ws) := by
  have h1 := r.length
  have h2 := q.length
  unfold perm
  rw [h1, h2]
  split
  · have e := r.append q
    induction pi with
    | nil => exact .nil
    | cons i pi ih =>
      rw [List.filterMap_cons, List.filterMap_cons]
      cases hx : (vs ++ zs)[i]? with
      | none =>
        rw [e.none_of hx]
        exact ih
      | some x =>
        obtain ⟨u, hu, hr⟩ := e.get hx
        rw [hu]
        exact .cons hr ih
  · exact .nil
theorem perm_dp {K : Fr} {F : Hp} {m n : Nat} {pi : List Nat} {vs zs : List V} {us ws : List D} (r : DpAll K F vs us) (q : DpAll K F zs ws) : DpAll K F (perm m n pi vs zs) (perm m n pi us ws) := by
  have h1 := dpa_len r
  have h2 := dpa_len q
  unfold perm
  rw [h1, h2]
  split
  · have e := dpa_app r q
    have he := dpa_len e
    induction pi with
    | nil => exact .nil
    | cons i pi ih =>
      rw [List.filterMap_cons, List.filterMap_cons]
      cases hx : (us ++ ws)[i]? with
      | none =>
        have : (vs ++ zs)[i]? = none := by
          rw [List.getElem?_eq_none_iff] at hx ⊢; omega
        rw [this]
        exact ih
      | some x =>
        obtain ⟨v, hv, hd⟩ := walkD_ex e hx
        rw [hv]
        exact .cons hd ih
  · exact .nil
where walkD_ex {K : Fr} {F : Hp} {xs : List V} {ds : List D} {j : Nat} {d : D} (h : DpAll K F xs ds) (e : ds[j]? = some d) : ∃ v, xs[j]? = some v ∧ Dp K F v d := dpa_ex h e
theorem kbinds {K : Fr} {x qual : Str} {st : Stmt} {f : Addr} {fd : FuncData} {ps ks : List Str} {m : Nat} {pi : List Nat} (F : Fun K x qual st f fd) (h0 : ps ≠ [])
    (h : ∀ (kV doc pm : Value) (an : Option Addr) (cdv ct : Value) (us ws : List Value), us.length = m → ws.length = ks.length →
      bindArgs (PySem.W.fnOf x qual (defArgs st) (defBody st) (defScope st) .none kV doc pm an cdv ct) ⟨us, ks.zip ws⟩ = pure (ps.zip (perm m ks.length pi us ws))) : KBinds K fd ps ks (perm m ks.length pi) (perm m ks.length pi) := by
  obtain ⟨oc, od, kV, doc, pm, an, cdv, ct, osl, rfl, lk, hcd⟩ := F.ex
  refine ⟨fun s us ws _ hl => ?_, fun r q => perm_vals r q⟩
  by_cases hlen : us.length = m ∧ ws.length = ks.length
  · exact .of_eq (h kV doc pm an cdv ct us ws hlen.1 hlen.2)
  · unfold perm at hl
    rw [if_neg hlen] at hl
    exact absurd (List.eq_nil_of_length_eq_zero hl.symm) h0
def cCallK (cf : CF) (m n : Nat) (pi : List Nat) (ca ck : CA) : CN := fun Γ => (ca Γ).bind fun p => (ck p.2).bind fun q => (cf ((perm m n pi p.1 q.1).map .fr)).bind fun r => some (r.1, q.2)
theorem callK_to {K : Fr} {cf : CF} {m n : Nat} {pi : List Nat} {ca ck : CA} {σ : L2.St} {H : Hp} {Q : VK} {E : XK} (h : tN K (cCallK cf m n pi ca ck) σ H Q) : tCallK (spP K cf) (perm m n pi) E (tA K ca) (tA K ck) σ H Q := by
  obtain ⟨C, F, Γ, r, Γ', R, hc, k⟩ := h
  unfold cCallK at hc
  simp only [Option.bind_eq_some_iff, Option.some.injEq, Prod.mk.injEq] at hc
  obtain ⟨⟨ds, Γ1⟩, h1, ⟨es, Γ2⟩, h2, ⟨r', Γf⟩, h3, rfl, rfl⟩ := hc
  refine ⟨C, F, Γ, ds, Γ1, R, h1, fun F1 H1 vs l1 R1 q1 => ⟨C, F1, Γ1, es, Γ2, R1, h2, fun F2 H2 zs l2 R2 q2 => ?_⟩⟩
  have q := perm_dp (m := m) (n := n) (pi := pi) (dpa_mono l2 q1) q2
  refine ⟨F2, _, r', Γf, h3, R2.sub, ⟨by rw [List.length_map]; exact dpa_len q, fun i v s e1 e2 => ?_, fun i j d e a b hij e1 e2 e3 e4 => ?_⟩, fun F' H' v b hr => ?_⟩
  · rw [List.getElem?_map] at e2
    cases hd : (perm m n pi ds es)[i]? with
    | none => rw [hd] at e2; simp at e2
    | some d => rw [hd] at e2; simp at e2; subst e2; exact dpa_at q e1 hd
  · rw [List.getElem?_map] at e1
    cases hd : (perm m n pi ds es)[i]? with
    | none => rw [hd] at e1; simp at e1
    | some d => rw [hd] at e1; simp at e1
  · have hb : backL Γ2 [] Γf = some Γ2 := by unfold backL; rfl
    have b' : Back K F2 H2 F' H' ([] ++ perm m n pi vs zs) ([] ++ (perm m n pi ds es).map .fr) Γf := b
    obtain ⟨R3, g⟩ := R2.called (ls := []) (las := []) (ws := []) (vs := perm m n pi vs zs) (ds := perm m n pi ds es) List.nodup_nil rfl rfl (fun k i e => by simp at e) q hb b' hr
    exact k F' H' v ((l1.trans l2).trans b.f) R3 g
section
variable {X : Cx} {e : Expr} {es : List Expr} {c ck : CA} {pos p : Pos} {x : Str} {kws : List Keyword} {ks : List Str}
theorem k_nil : PK X [] (tA X.K cNil) := ⟨fun pos pins s σ H Q I ⟨C, F, Γ, ds, Γ', R, hc, k⟩ => by
  cases hc
  exact pk_nil.run pos pins s σ H Q I (k F H [] (Le.refl _) R .nil)⟩
theorem PK.imp {t u : TA} (h : PK X kws t) (i : ∀ σ H Q, u σ H Q → t σ H Q) : PK X kws u := ⟨fun p pins s σ H Q I q => h.run p pins s σ H Q I (i _ _ _ q)⟩
theorem k_cons {c : CE} {r : CA} {nm : Option Str} {kpos : Pos} (ha : E X e c) (hr : PK X kws (tA X.K r)) : PK X (⟨nm, e, kpos⟩ :: kws) (tA X.K (cCons c r)) := PK.imp (pk_cons ha hr) fun _ H _ ⟨C, F, Γ, ds, Γ', R, hc, k⟩ => by
  unfold cCons at hc
  simp only [Option.bind_eq_some_iff, Option.some.injEq, Prod.mk.injEq] at hc
  obtain ⟨⟨d, Γ1⟩, h1, ⟨dr, Γ2⟩, h2, rfl, rfl⟩ := hc
  refine ⟨C, F, Γ, d, Γ1, R, h1, fun F1 H1 v l1 R1 q1 => ?_⟩
  refine ⟨C, F1, Γ1, dr, Γ2, R1, h2, fun F2 H2 vs l2 R2 q2 => ?_⟩
  exact k F2 H2 (v :: vs) (l1.trans l2) R2 (.cons (dp_mono l2 q1) q2)
theorem n_callK {k m n : Nat} {pi : List Nat} {f : Addr} {fd : FuncData} {ps : List Str} {cf : CF} (Fk : FnOk X.prog X.w X.K X.mg X.base CX0 k f fd ps (spP X.K cf)) (hr : Room k X.A) (hg : Gl X x) (hm : X.mg x = some (.ref f)) (hk : PySem.W.keepIn X.K (.ref f) = true) (hb : KBinds X.K fd ps ks (perm m n pi) (perm m n pi))
    (ha : Ar X (e :: es) c) (hkw : PK X kws (tA X.K ck)) (hall : (backToKw pos (keywordEach kws X.env)).all (·.1.isSome) = true := by rfl) (hks : (backToKw pos (keywordEach kws X.env)).filterMap (·.1) = ks := by rfl)
    (hdb : (x == ("__debug__" : Str)) = false := by decide) (he : starEach (e :: es) X.env = (false, eval e X.env) :: starEach es X.env := by rfl)
    (hpl : ((backTo pos (starEach (e :: es) X.env)).any (·.1) || (backToKw pos (keywordEach kws X.env)).any (·.1.isNone)) = false := by rfl) : N X (.Call (.Name x p) (e :: es) kws pos) (cCallK cf m n pi c ck) :=
  PE.imp (pe_callK Fk hr hg hm hk hb pass0 ha hkw hall hks hdb he hpl) fun _ _ _ h => callK_to h
theorem n_callK0 {k n : Nat} {pi : List Nat} {f : Addr} {fd : FuncData} {ps : List Str} {cf : CF} (Fk : FnOk X.prog X.w X.K X.mg X.base CX0 k f fd ps (spP X.K cf)) (hr : Room k X.A) (hg : Gl X x) (hm : X.mg x = some (.ref f)) (hk : PySem.W.keepIn X.K (.ref f) = true) (hb : KBinds X.K fd ps ks (perm 0 n pi) (perm 0 n pi))
    (hkw : PK X kws (tA X.K ck)) (hall : (backToKw pos (keywordEach kws X.env)).all (·.1.isSome) = true := by rfl) (hks : (backToKw pos (keywordEach kws X.env)).filterMap (·.1) = ks := by rfl)
    (hdb : (x == ("__debug__" : Str)) = false := by decide) (hpl : ((backTo pos (starEach [] X.env)).any (·.1) || (backToKw pos (keywordEach kws X.env)).any (·.1.isNone)) = false := by rfl) : N X (.Call (.Name x p) [] kws pos) (cCallK cf 0 n pi cNil ck) :=
  ⟨fun pins s σ H Q I h => by
    obtain ⟨C, F, Γ, ds, Γ', R, hc, kk⟩ := callK_to (E := E0) h
    cases hc
    refine wpAny_Call_Name_kw (ld_glob I hg hm ?_ hdb)
    refine PySem.W.callWith_KW0 (h₀ := X.base) I.ok.mod.kin hk hall ?_ hpl
    refine thn (hkw.run pos pins s σ H _ I (kk F H [] (Le.refl _) R .nil)) fun ws s2 ⟨zs, H2, I2, rz, q2⟩ => ⟨I2.kIn, ?_⟩
    rw [hks]
    exact run_fnk (us := []) (vs := []) Fk hr hb pass0 I2 .nil rz q2⟩
end

/-! ### chains of two comparisons -/
def cChain (f g : D → D → Option D) (a b c : Od) : CE := fun Γ => (a.run Γ).bind fun p => (b.run p.2).bind fun q => (a.fin p.1 q.2).bind fun x => (b.fin q.1 q.2).bind fun y => (f x y).bind fun z => (toB z).bind fun k =>
  if k = true then (c.run q.2).bind fun r => (b.fin q.1 r.2).bind fun y2 => (c.fin r.1 r.2).bind fun w => (g y2 w).bind fun u => some (u, r.2) else some (.bool false, q.2)
theorem chain_to {K : Fr} {f g : D → D → Option D} {oa ob oc : Od} {σ : L2.St} {H : Hp} {Q : VK} (h : tE K (cChain f g oa ob oc) σ H Q) : tChain (rD2 K f) (rD2 K g) (tO K oa) (tO K ob) (tO K oc) σ H Q := by
  obtain ⟨C, F, Γ, d, Γ', R, hc, k⟩ := h
  unfold cChain at hc
  simp only [Option.bind_eq_some_iff] at hc
  obtain ⟨⟨da, Γ1⟩, h1, ⟨db, Γ2⟩, h2, x, hx, y, hy, z, hz, b, hb, hc⟩ := hc
  have eb := toB_some hb
  subst eb
  refine ⟨C, F, Γ, da, Γ1, R, h1, fun F1 H1 v l1 R1 lk1 => ⟨C, F1, Γ1, db, Γ2, R1, h2, fun F2 H2 u l2 R2 lk2 => ?_⟩⟩
  refine ⟨F2, x, y, _, R2.sub, lk1 F2 H2 Γ2 x l2 R2 hx, lk2 F2 H2 Γ2 y (Le.refl _) R2 hy, hz, fun F3 H3 w g3 q => ?_⟩
  have ew := dp_bool q
  refine ⟨b, ew, ?_⟩
  have R3 := R2.grow g3
  cases b with
  | false =>
    rw [if_neg Bool.false_ne_true] at hc
    cases hc
    subst ew
    refine iteF ?_
    exact k F3 H3 _ ((l1.trans l2).trans g3.f) R3 (.bl false)
  | true =>
    rw [if_pos rfl] at hc
    simp only [Option.bind_eq_some_iff, Option.some.injEq, Prod.mk.injEq] at hc
    obtain ⟨⟨dc, Γ3⟩, h3, y2, hy2, w2, hw2, u2, hu2, rfl, rfl⟩ := hc
    refine iteT ?_
    refine ⟨C, F3, Γ2, dc, Γ3, R3, h3, fun F4 H4 t l4 R4 lk4 => ?_⟩
    exact ⟨F4, y2, w2, u2, R4.sub, lk2 F4 H4 Γ3 y2 (g3.f.trans l4) R4 hy2, lk4 F4 H4 Γ3 w2 (Le.refl _) R4 hw2, hu2, fun F5 H5 t2 g5 q5 => k F5 H5 t2 (((l1.trans l2).trans g3.f).trans (l4.trans g5.f)) (R4.grow g5) q5⟩
section
variable {X : Cx} {a b c : Expr} {oa ob oc : Od} {pos : Pos} {op op' : CmpOp} {f g : D → D → Option D}
theorem e_chain (ho : OpR X (compareOp op) (rD2 X.K f)) (ho' : OpR X (compareOp op') (rD2 X.K g)) (ha : O X a oa) (hb : O X b ob) (hc : O X c oc) (hm : lastMarks [op, op'] [b, c] = false := by rfl) : E X (.Compare a [op, op'] [b, c] pos) (cChain f g oa ob oc) :=
  PE.imp (pe_chain ho ho' ha hb hc hm) fun _ _ _ h => chain_to h
theorem t_chain (ho : OpR X (compareOp op) (rD2 X.K f)) (ho' : OpR X (compareOp op') (rD2 X.K g)) (ha : O X a oa) (hb : O X b ob) (hc : O X c oc) (hm : lastMarks [op, op'] [b, c] = false := by rfl) : T X (.Compare a [op, op'] [b, c] pos) (cB (cChain f g oa ob oc)) :=
  PT.imp (pt_chain ho ho' ha hb hc hm) fun _ _ _ h => by
    have q := tB_to h
    exact chain_to q
end
theorem room65 {k : Nat} {A : Around} (r : Room k A) : A.units + 65 < cLine := by have := r.un; omega
theorem room1 {k : Nat} {A : Around} (r : Room k A) : A.units + 1 < cLine := by have := r.un; omega
section
variable {X : Cx} {pos : Pos}
def cPar3 (i j l : Nat) (c : CA) : CS := fun Γ => (c Γ).bind fun p => match p.1 with
  | [a, b, d] => (put p.2 i (.fr a)).bind fun Γ1 => (put Γ1 j (.fr b)).bind fun Γ2 => (put Γ2 l (.fr d)).bind fun Γ3 => some (.nx, Γ3)
  | _ => none
theorem par3_to {K : Fr} {c : CA} {i j l : Nat} {De : Ends} {σ : L2.St} {H : Hp} (h : tS K (cPar3 i j l c) De σ H) : tPar3 i j l (tA K c) De σ H := by
  obtain ⟨C, F, Γ, fl, Γ', R, hc, k⟩ := h
  unfold cPar3 at hc
  simp only [Option.bind_eq_some_iff] at hc
  obtain ⟨⟨ds, Γ1⟩, h1, hc⟩ := hc
  refine ⟨C, F, Γ, ds, Γ1, R, h1, fun F' H' vs le R' q => ?_⟩
  split at hc
  · rename_i a b d e
    simp only at e
    subst e
    simp only [Option.bind_eq_some_iff, Option.some.injEq, Prod.mk.injEq] at hc
    obtain ⟨Γ2, h2, Γ3, h3, Γ4, h4, rfl, rfl⟩ := hc
    cases q with
    | @cons v vs _ _ q1 q2 =>
      cases q2 with
      | @cons w ws _ _ q3 q4 =>
        cases q4 with
        | @cons u us _ _ q5 q6 =>
          cases q6
          exact ⟨v, w, u, rfl, k F' H' _ le (asg_name (asg_name (asg_name R' q1 h2) q3 h3) q5 h4)⟩
  · cases hc
end
section
variable {X : Cx} {pos : Pos}
theorem s_par3 {ca : CA} {i j l : Nat} {x y z : Str} {a b c : Expr} {px py pz pt : Pos} {kt k2 pt2} (hc : X.calm = true) (hN : X.N.Nodup) (hi : X.N[i]? = some x) (hj : X.N[j]? = some y) (hl : X.N[l]? = some z) (hij : i ≠ j) (hil : i ≠ l) (hjl : j ≠ l)
    (hx : X.env.scope.names.lookup x = some .local) (hy : X.env.scope.names.lookup y = some .local) (hz : X.env.scope.names.lookup z = some .local) (ha : Ar X [a, b, c] ca)
    (hw : swappedStores [.Tuple [.Name x px, .Name y py, .Name z pz] kt pt] (.Tuple [a, b, c] k2 pt2) X.env = pure (some [x, y, z]))
    (hs : swapsWithSole [.Tuple [.Name x px, .Name y py, .Name z pz] kt pt] (.Tuple [a, b, c] k2 pt2) pos.line X.env = pure false := by rfl) :
    S X (.Assign [.Tuple [.Name x px, .Name y py, .Name z pz] kt pt] (.Tuple [a, b, c] k2 pt2) pos) (cPar3 i j l ca) :=
  PS.imp (ps_par3 hc hN hi hj hl hij hil hjl hx hy hz ha hw hs) fun _ _ _ h => par3_to h
end
theorem ok_none {P : Program} {w : World} {K : Fr} {mg : Str → Option Value} {base : Heap} {k : Nat} {f : Addr} {fd : FuncData} {ps : List Str} : FnOk P w K mg base CX0 k f fd ps (spP K fun _ => none) :=
  ⟨fun vs H Q E h => (by obtain ⟨_, _, _, _, hc, _⟩ := h; cases hc), fun A outer s H args us vs Q E _ _ _ _ h => (by obtain ⟨_, _, _, _, hc, _⟩ := h; cases hc)⟩
theorem isStr_dec (x z : Str) (t : Tok) : (Value.str x t).isStr z = decide (x = z) := by
  show (x == z) = decide (x = z)
  by_cases h : x = z
  · subst h; simp
  · rw [decide_eq_false h]; simpa using h
theorem ints_dp {K : Fr} {F : Hp} : ∀ ns : List Int, DpAll K F (ns.map V.int) (ns.map fun n => PyData.int n)
  | [] => .nil
  | n :: ns => .cons (.int n) (ints_dp ns)
/-- a law that comes to True keeps the row's promise -/
theorem law_end {K : Fr} {H : Hp} {a : Addr} {ns : List Int} {cf : CF} (hS : SqL K H a (ns.map V.int)) (h : ∃ Γf, cf [.fr (.list (ns.map fun n => PyData.int n))] = some (.fr (.bool true), Γf)) :
    spP K cf [.ref a] H (fun v _ => v = .bl true) fun _ _ _ => False := by
  obtain ⟨Γf, h⟩ := h
  refine ⟨H, _, _, Γf, h, Le.refl _, ⟨rfl, fun i v s e1 e2 => ?_, fun i j d e b c hij e1 e2 e3 e4 => ?_⟩, fun F' H' v b r => dp_bool r⟩
  · cases i with
    | zero => cases e1; cases e2; exact .lst hS (ints_dp ns)
    | succ i => cases e1
  · cases i with
    | zero => cases e1
    | succ i => cases e1
end Pu

namespace Pu
open PySem PySem.Spec PyProof.Rows L2

/-! ### two walked at once, numbered walks, ranges with a step -/
def zipD (a b : List D) : List D := List.zipWith (fun x y => .tuple [x, y]) a b
def enumD (a : List D) : List D := zipD (rngD 0 a.length) a
theorem walk_zipTup {K : Fr} {a b : Addr} {xs ys : List V} {n : Nat} (hn : n = min xs.length ys.length) : Walk (RZ.ItzT K a b) n (fun H => SqT K H a xs ∧ SqT K H b ys) (YPair (fun i => xs[i]?) (fun i => ys[i]?)) := by
  subst hn
  refine ⟨fun i _ hi q => ?_, fun _ q => ⟨xs, ys, q.1, q.2, by omega⟩, fun i H v H' _ q y => ?_⟩
  · exact ⟨xs, ys, xs[i]'(by omega), ys[i]'(by omega), q.1, q.2, List.getElem?_eq_getElem (by omega), List.getElem?_eq_getElem (by omega)⟩
  · obtain ⟨T, x, z, h1, h2, h3, h4, h5⟩ := y
    exact ⟨T, x, z, h1, h2, h3, h4 xs q.1, h5 ys q.2⟩
theorem zipD_get {a b : List D} {i : Nat} {x y : D} (h1 : a[i]? = some x) (h2 : b[i]? = some y) : (zipD a b)[i]? = some (.tuple [x, y]) := by
  unfold zipD
  rw [List.getElem?_zipWith, h1, h2]
theorem zipD_len (a b : List D) : (zipD a b).length = min a.length b.length := by simp [zipD]
theorem walkD_zipL {K : Fr} {F : Hp} {a b : Addr} {xs ys : List V} {ds es : List D} (h : SqL K F a xs) (h' : SqL K F b ys) (q : DpAll K F xs ds) (q' : DpAll K F ys es) : WalkD K F (Itz K a b) (zipD ds es) := by
  have w := (walk_zip (K := K) (a := a) (b := b) (xs := xs) (ys := ys) rfl).mono (G' := fun H => Le F H) (Y' := YD K F (zipD ds es)) (fun H l => ⟨l.sql h, l.sql h'⟩) fun i H v H' hi l y => by
    obtain ⟨T, x, z, h1, h2, h3, h4, h5⟩ := y
    obtain ⟨d, e1, e2⟩ := walkD_list.dpa_get q h4
    obtain ⟨d', e3, e4⟩ := walkD_list.dpa_get q' h5
    exact .inr ⟨T, [x, z], [d, d'], h1, h2, h3, zipD_get e1 e3, .cons e2 (.cons e4 .nil)⟩
  unfold WalkD
  rw [zipD_len, ← dpa_len q, ← dpa_len q']
  exact w
theorem walkD_zipT {K : Fr} {F : Hp} {a b : Addr} {xs ys : List V} {ds es : List D} (h : SqT K F a xs) (h' : SqT K F b ys) (q : DpAll K F xs ds) (q' : DpAll K F ys es) : WalkD K F (RZ.ItzT K a b) (zipD ds es) := by
  have w := (walk_zipTup (K := K) (a := a) (b := b) (xs := xs) (ys := ys) rfl).mono (G' := fun H => Le F H) (Y' := YD K F (zipD ds es)) (fun H l => ⟨l.sqt h, l.sqt h'⟩) fun i H v H' hi l y => by
    obtain ⟨T, x, z, h1, h2, h3, h4, h5⟩ := y
    obtain ⟨d, e1, e2⟩ := walkD_list.dpa_get q h4
    obtain ⟨d', e3, e4⟩ := walkD_list.dpa_get q' h5
    exact .inr ⟨T, [x, z], [d, d'], h1, h2, h3, zipD_get e1 e3, .cons e2 (.cons e4 .nil)⟩
  unfold WalkD
  rw [zipD_len, ← dpa_len q, ← dpa_len q']
  exact w
theorem rngD_get {lo : Int} {n i : Nat} (h : i < n) : (rngD lo n)[i]? = some (.int (lo + (i : Nat))) := by unfold rngD; simp [h]
theorem walkD_enum {K : Fr} {F : Hp} {a : Addr} {xs : List V} {ds : List D} (h : SqL K F a xs) (q : DpAll K F xs ds) : WalkD K F (Ite K a) (enumD ds) := by
  have hl := dpa_len q
  have w := (walk_enum (K := K) (a := a) (xs := xs)).mono (G' := fun H => Le F H) (Y' := YD K F (enumD ds)) (fun H l => l.sql h) fun i H v H' hi l y => by
    obtain ⟨T, x, z, h1, h2, h3, h4, h5⟩ := y
    obtain ⟨d', e3, e4⟩ := walkD_list.dpa_get q h5
    cases h4
    refine .inr ⟨T, [.int (i : Nat), z], [.int (0 + (i : Nat)), d'], h1, h2, h3, zipD_get (rngD_get (by omega)) e3, .cons ?_ (.cons e4 .nil)⟩
    rw [show (0 : Int) + (i : Nat) = (i : Nat) by omega]
    exact .int _
  unfold WalkD
  have : (enumD ds).length = xs.length := by unfold enumD; rw [zipD_len, hl]; simp [rngD]
  rw [this]
  exact w
def rngS (lo c : Int) (n : Nat) : List D := (List.range n).map fun i => .int (lo + (i : Nat) * c)
theorem walkD_rangeC {K : Fr} {F : Hp} {lo c : Int} {n : Nat} : WalkD K F (Itc lo c n) (rngS lo c n) := by
  have w := (walk_rangeC (lo := lo) (c := c) (n := n)).mono (G' := fun H => Le F H) (Y' := YD K F (rngS lo c n)) (fun H l => trivial) fun i H x H' hi l y => .inl ⟨y.1, .int (lo + (i : Nat) * c), by unfold rngS; simp [hi], by rw [y.2]; exact .int _⟩
  have e : (rngS lo c n).length = n := by unfold rngS; simp
  unfold WalkD
  rw [e]
  exact w
def cZip (c : CA) : CI := fun Γ => (c Γ).bind fun p => match p.1 with
  | [.list a, .list b] => some (zipD a b, p.2)
  | [.tuple a, .tuple b] => some (zipD a b, p.2)
  | _ => none
def cEnum (c : CA) : CI := fun Γ => (c Γ).bind fun p => match p.1 with
  | [.list a] => some (enumD a, p.2)
  | _ => none
instance (i j c : Int) (n : Nat) : Decidable (RgC i j c n) := by unfold RgC; exact inferInstance
/-- how many turns: the model's own count -/
def rngN (i j c : Int) : Nat := (Builtin.Range.rangeSize i j c).toNat
def cRng3 (c : CA) : CI := fun Γ => (c Γ).bind fun p => match p.1 with
  | [.int i, .int j, .int k] => if RgC i j k (rngN i j k) then some (rngS i k (rngN i j k), p.2) else none
  | _ => none
section
variable {X : Cx} {tg : Expr}
theorem i_zip {e e2 : Expr} {c : CA} {p pos tpos : Pos} {elts : List Expr} {kk : Nat} (hg : Gl X "zip") (hm : X.mg "zip" = none) (ha : Ar X [e, e2] c)
    (hs : starEach [e, e2] X.env = (false, eval e X.env) :: starEach [e2] X.env := by rfl) (hpl : (backTo pos (starEach [e2] X.env)).any (·.1) = false := by rfl) :
    I X (.Tuple elts kk tpos) (.Call (.Name "zip" p) [e, e2] [] pos) (cZip c) :=
  PI.imp (RZ.pi_zipA hg hm ha hs hpl) fun σ H R ⟨C, F, Γ, ds, Γ', Rl, hc, k⟩ => by
    unfold cZip at hc
    simp only [Option.bind_eq_some_iff] at hc
    obtain ⟨⟨es, Γ1⟩, h1, hc⟩ := hc
    refine ⟨C, F, Γ, es, Γ1, Rl, h1, fun F' H' vs l R' q => ?_⟩
    split at hc
    · rename_i a b e
      simp only at e
      subst e
      cases hc
      cases q with
      | cons q1 q2 =>
        cases q2 with
        | cons q3 q4 =>
          cases q4
          cases q1 with
          | @lst a1 xs _ hs hd =>
            cases q3 with
            | @lst b1 ys _ hs' hd' => exact ⟨a1, b1, xs, ys, rfl, .inl ⟨R'.sub.sql hs, R'.sub.sql hs', k F' H' _ l R' (walkD_zipL hs hs' hd hd')⟩⟩
    · rename_i a b e
      simp only at e
      subst e
      cases hc
      cases q with
      | cons q1 q2 =>
        cases q2 with
        | cons q3 q4 =>
          cases q4
          cases q1 with
          | @tup a1 xs _ hs hd =>
            cases q3 with
            | @tup b1 ys _ hs' hd' => exact ⟨a1, b1, xs, ys, rfl, .inr ⟨R'.sub.sqt hs, R'.sub.sqt hs', k F' H' _ l R' (walkD_zipT hs hs' hd hd')⟩⟩
    · cases hc
theorem i_enum {e : Expr} {c : CA} {p pos tpos : Pos} {elts : List Expr} {kk : Nat} (hg : Gl X "enumerate") (hm : X.mg "enumerate" = none) (ha : Ar X [e] c) (hs : starEach [e] X.env = [(false, eval e X.env)] := by rfl) :
    I X (.Tuple elts kk tpos) (.Call (.Name "enumerate" p) [e] [] pos) (cEnum c) :=
  PI.imp (pi_enum hg hm ha hs) fun σ H R ⟨C, F, Γ, ds, Γ', Rl, hc, k⟩ => by
    unfold cEnum at hc
    simp only [Option.bind_eq_some_iff] at hc
    obtain ⟨⟨es, Γ1⟩, h1, hc⟩ := hc
    refine ⟨C, F, Γ, es, Γ1, Rl, h1, fun F' H' vs l R' q => ?_⟩
    split at hc
    · rename_i a e
      simp only at e
      subst e
      cases hc
      cases q with
      | cons q1 q2 =>
        cases q2
        cases q1 with
        | @lst a1 xs _ hs hd => exact ⟨a1, xs, rfl, R'.sub.sql hs, k F' H' _ l R' (walkD_enum hs hd)⟩
    · cases hc
theorem i_rng3 {a b d : Expr} {c : CA} {p pos : Pos} (hg : Gl X "range") (hm : X.mg "range" = none) (ha : Ar X [a, b, d] c)
    (hs : starEach [a, b, d] X.env = (false, eval a X.env) :: starEach [b, d] X.env := by rfl) (hpl : (backTo pos (starEach [b, d] X.env)).any (·.1) = false := by rfl) : I X tg (.Call (.Name "range" p) [a, b, d] [] pos) (cRng3 c) :=
  PI.imp (pi_range3 hg hm ha hs hpl) fun σ H R ⟨C, F, Γ, ds, Γ', Rl, hc, k⟩ => by
    unfold cRng3 at hc
    simp only [Option.bind_eq_some_iff] at hc
    obtain ⟨⟨es, Γ1⟩, h1, hc⟩ := hc
    refine ⟨C, F, Γ, es, Γ1, Rl, h1, fun F' H' vs l R' q => ?_⟩
    split at hc
    · rename_i i j m e
      simp only at e
      subst e
      split at hc
      · rename_i hr
        cases hc
        cases q with
        | cons q1 q2 =>
          cases q2 with
          | cons q3 q4 =>
            cases q4 with
            | cons q5 q6 =>
              cases q6
              cases q1
              cases q3
              cases q5
              exact ⟨i, j, m, _, rfl, hr, k F' H' _ l R' walkD_rangeC⟩
      · cases hc
    · cases hc
end

/-! ### sums, greatest, least, sorted: lists of ints -/
def intsD : List D → Option (List Int)
  | [] => some []
  | .int i :: ds => (intsD ds).map (i :: ·)
  | _ :: _ => none
theorem intsD_vals {K : Fr} {F : Hp} : ∀ {xs : List V} {ds : List D} {ns : List Int}, DpAll K F xs ds → intsD ds = some ns → xs = ns.map V.int
  | _, _, _, .nil, h => by cases h; rfl
  | _, d :: ds, ns, .cons q t, h => by
    cases d <;> try cases h
    rename_i i
    simp only [intsD, Option.map_eq_some_iff] at h
    obtain ⟨ms, h1, rfl⟩ := h
    cases q
    rw [intsD_vals t h1]
    rfl
theorem intsD_map : ∀ ns : List Int, intsD (ns.map fun n => .int n) = some ns
  | [] => rfl
  | n :: ns => by
    show (intsD (ns.map fun n => .int n)).map (n :: ·) = _
    rw [intsD_map ns]; rfl
theorem vals_dp {K : Fr} {F : Hp} (ns : List Int) : DpAll K F (ns.map V.int) (ns.map fun n => .int n) := ints_dp ns
def maxI : List Int → Option Int
  | [] => none
  | x :: xs => some (xs.foldl (fun a b => if a < b then b else a) x)
def minI : List Int → Option Int
  | [] => none
  | x :: xs => some (xs.foldl (fun a b => if b < a then b else a) x)
theorem foldl_max : ∀ (xs : List Int) (x : Int), (xs.foldl (fun a b => if a < b then b else a) x = x ∨ xs.foldl (fun a b => if a < b then b else a) x ∈ xs) ∧ x ≤ xs.foldl (fun a b => if a < b then b else a) x ∧ ∀ y ∈ xs, y ≤ xs.foldl (fun a b => if a < b then b else a) x
  | [], x => ⟨.inl rfl, Int.le_refl _, by simp⟩
  | y :: ys, x => by
    obtain ⟨h1, h2, h3⟩ := foldl_max ys (if x < y then y else x)
    have hm : x ≤ (if x < y then y else x) ∧ y ≤ (if x < y then y else x) := by split <;> omega
    simp only [List.foldl_cons, List.mem_cons]
    refine ⟨?_, Int.le_trans hm.1 h2, ?_⟩
    · rcases h1 with h1 | h1
      · rw [h1]
        split
        · exact .inr (.inl rfl)
        · exact .inl rfl
      · exact .inr (.inr h1)
    · rintro z (rfl | hz)
      · exact Int.le_trans hm.2 h2
      · exact h3 z hz
theorem foldl_min : ∀ (xs : List Int) (x : Int), (xs.foldl (fun a b => if b < a then b else a) x = x ∨ xs.foldl (fun a b => if b < a then b else a) x ∈ xs) ∧ xs.foldl (fun a b => if b < a then b else a) x ≤ x ∧ ∀ y ∈ xs, xs.foldl (fun a b => if b < a then b else a) x ≤ y
  | [], x => ⟨.inl rfl, Int.le_refl _, by simp⟩
  | y :: ys, x => by
    obtain ⟨h1, h2, h3⟩ := foldl_min ys (if y < x then y else x)
    have hm : (if y < x then y else x) ≤ x ∧ (if y < x then y else x) ≤ y := by split <;> omega
    simp only [List.foldl_cons, List.mem_cons]
    refine ⟨?_, Int.le_trans h2 hm.1, ?_⟩
    · rcases h1 with h1 | h1
      · rw [h1]
        split
        · exact .inr (.inl rfl)
        · exact .inl rfl
      · exact .inr (.inr h1)
    · rintro z (rfl | hz)
      · exact Int.le_trans h2 hm.2
      · exact h3 z hz
theorem maxI_is {ns : List Int} {v : Int} (h : maxI ns = some v) : v ∈ ns ∧ ∀ y ∈ ns, y ≤ v := by
  cases ns with
  | nil => cases h
  | cons x xs =>
    cases h
    obtain ⟨h1, h2, h3⟩ := foldl_max xs x
    refine ⟨?_, ?_⟩
    · rcases h1 with h1 | h1
      · rw [h1]; exact List.mem_cons_self
      · exact List.mem_cons_of_mem _ h1
    · intro y hy
      rcases List.mem_cons.mp hy with rfl | hy
      · exact h2
      · exact h3 y hy
theorem minI_is {ns : List Int} {v : Int} (h : minI ns = some v) : v ∈ ns ∧ ∀ y ∈ ns, v ≤ y := by
  cases ns with
  | nil => cases h
  | cons x xs =>
    cases h
    obtain ⟨h1, h2, h3⟩ := foldl_min xs x
    refine ⟨?_, ?_⟩
    · rcases h1 with h1 | h1
      · rw [h1]; exact List.mem_cons_self
      · exact List.mem_cons_of_mem _ h1
    · intro y hy
      rcases List.mem_cons.mp hy with rfl | hy
      · exact h2
      · exact h3 y hy
def insI (x : Int) : List Int → List Int
  | [] => [x]
  | y :: ys => if x ≤ y then x :: y :: ys else y :: insI x ys
def isort : List Int → List Int
  | [] => []
  | x :: xs => insI x (isort xs)
theorem insI_perm (x : Int) : ∀ ys, (insI x ys).Perm (x :: ys)
  | [] => .refl _
  | y :: ys => by
    unfold insI
    split
    · exact .refl _
    · exact ((insI_perm x ys).cons y).trans (.swap x y ys)
theorem isort_perm : ∀ xs : List Int, (isort xs).Perm xs
  | [] => .nil
  | x :: xs => (insI_perm x (isort xs)).trans ((isort_perm xs).cons x)
theorem insI_sorted (x : Int) : ∀ ys : List Int, ys.Pairwise (· ≤ ·) → (insI x ys).Pairwise (· ≤ ·)
  | [], _ => by simp [insI]
  | y :: ys, h => by
    obtain ⟨h1, h2⟩ := List.pairwise_cons.mp h
    unfold insI
    split
    · rename_i hx
      refine List.pairwise_cons.mpr ⟨fun z hz => ?_, h⟩
      rcases List.mem_cons.mp hz with rfl | hz
      · exact hx
      · exact Int.le_trans hx (h1 z hz)
    · rename_i hx
      refine List.pairwise_cons.mpr ⟨fun z hz => ?_, insI_sorted x ys h2⟩
      rcases List.mem_cons.mp ((insI_perm x ys).mem_iff.mp hz) with rfl | hz
      · omega
      · exact h1 z hz
theorem isort_sorted : ∀ xs : List Int, (isort xs).Pairwise (· ≤ ·)
  | [] => .nil
  | x :: xs => insI_sorted x _ (isort_sorted xs)
theorem sorted_unique : ∀ {xs ys : List Int}, xs.Perm ys → xs.Pairwise (· ≤ ·) → ys.Pairwise (· ≤ ·) → xs = ys
  | [], ys, p, _, _ => by rw [List.nil_perm.mp p]
  | x :: xs, [], p, _, _ => by cases p.length_eq
  | x :: xs, y :: ys, p, h, k => by
    obtain ⟨h1, h2⟩ := List.pairwise_cons.mp h
    obtain ⟨k1, k2⟩ := List.pairwise_cons.mp k
    have e : x = y := by
      have hx : x ∈ y :: ys := p.mem_iff.mp List.mem_cons_self
      have hy : y ∈ x :: xs := p.mem_iff.mpr List.mem_cons_self
      rcases List.mem_cons.mp hx with rfl | hx
      · rfl
      · rcases List.mem_cons.mp hy with rfl | hy
        · rfl
        · have := k1 x hx
          have := h1 y hy
          omega
    subst e
    rw [sorted_unique p.cons_inv h2 k2]
def fSum : List D → Option D
  | [.list ds] => (intsD ds).map fun ns => .int ns.sum
  | _ => none
def fMaxL : List D → Option D
  | [.list ds] => (intsD ds).bind fun ns => (maxI ns).map .int
  | _ => none
def fMinL : List D → Option D
  | [.list ds] => (intsD ds).bind fun ns => (minI ns).map .int
  | _ => none
def fSorted : List D → Option (List D)
  | [.list ds] => (intsD ds).map fun ns => (isort ns).map .int
  | _ => none
section
variable {X : Cx} {e : Expr} {es : List Expr} {o : Od} {os : List Od} {pos p : Pos} {x : Str}
theorem cd_sum (hc : X.calm = true) : CallR X (.builtin "sum") (rDC X.K fSum) := by
  intro pins s σ H vs us Q I r ⟨F, ds, z, sb, l, hf, q⟩
  unfold fSum at hf
  split at hf
  · rw [Option.map_eq_some_iff] at hf
    obtain ⟨ns, h1, rfl⟩ := hf
    obtain ⟨v, rfl, l1⟩ := l.one
    obtain ⟨a, xs, rfl, h2, h3⟩ := l1.list sb
    exact cr_sum hc pins s σ H _ us Q I r ⟨a, ns, rfl, by rw [← intsD_vals h3 h1]; exact h2, q F H _ (Grow.refl sb) (.int _)⟩
  · cases hf
theorem cd_maxL (hc : X.calm = true) : CallR X (.builtin "max") (rDC X.K fMaxL) := by
  intro pins s σ H vs us Q I r ⟨F, ds, z, sb, l, hf, q⟩
  unfold fMaxL at hf
  split at hf
  · simp only [Option.bind_eq_some_iff, Option.map_eq_some_iff] at hf
    obtain ⟨ns, h1, m, hm, rfl⟩ := hf
    obtain ⟨v, rfl, l1⟩ := l.one
    obtain ⟨a, xs, rfl, h2, h3⟩ := l1.list sb
    obtain ⟨m1, m2⟩ := maxI_is hm
    refine cr_max hc pins s σ H _ us Q I r ⟨a, ns, rfl, by rw [← intsD_vals h3 h1]; exact h2, List.length_pos_of_mem m1, fun k k1 k2 => ?_⟩
    have : k = m := Int.le_antisymm (m2 k k1) (k2 m m1)
    rw [this]
    exact q F H _ (Grow.refl sb) (.int _)
  · cases hf
theorem cd_minL (hc : X.calm = true) : CallR X (.builtin "min") (rDC X.K fMinL) := by
  intro pins s σ H vs us Q I r ⟨F, ds, z, sb, l, hf, q⟩
  unfold fMinL at hf
  split at hf
  · simp only [Option.bind_eq_some_iff, Option.map_eq_some_iff] at hf
    obtain ⟨ns, h1, m, hm, rfl⟩ := hf
    obtain ⟨v, rfl, l1⟩ := l.one
    obtain ⟨a, xs, rfl, h2, h3⟩ := l1.list sb
    obtain ⟨m1, m2⟩ := minI_is hm
    refine cr_min hc pins s σ H _ us Q I r ⟨a, ns, rfl, by rw [← intsD_vals h3 h1]; exact h2, List.length_pos_of_mem m1, fun k k1 k2 => ?_⟩
    have : k = m := Int.le_antisymm (k2 m m1) (m2 k k1)
    rw [this]
    exact q F H _ (Grow.refl sb) (.int _)
  · cases hf
theorem cd_sorted : CallR X (.builtin "sorted") (rDN X.K fSorted) := by
  intro pins s σ H vs us Q I r ⟨F, ds, zs, sb, l, hf, q⟩
  unfold fSorted at hf
  split at hf
  · rw [Option.map_eq_some_iff] at hf
    obtain ⟨ns, h1, rfl⟩ := hf
    obtain ⟨v, rfl, l1⟩ := l.one
    obtain ⟨a, xs, rfl, h2, h3⟩ := l1.list sb
    refine cr_sortedI pins s σ H _ us Q I r ⟨a, ns, rfl, by rw [← intsD_vals h3 h1]; exact h2, fun ms p k1 k2 np => ?_⟩
    have : ms = isort ns := sorted_unique (k1.trans (isort_perm ns).symm) k2 (isort_sorted ns)
    rw [this]
    exact q p _ np (vals_dp _)
  · cases hf
theorem n_cb {g : List D → Option (List D)} {id : String} (hc : CallR X (.builtin id) (rDN X.K g)) (hg : Gl X x) (hm : X.mg x = none) (hv : bootBuiltins x = some (.builtin id)) (ha : Os X (e :: es) os) (hn : x ≠ "__name__" := by decide) (hdb : (x == ("__debug__" : Str)) = false := by decide)
    (he : starEach (e :: es) X.env = (false, eval e X.env) :: starEach es X.env := by rfl) (hpl : (backTo pos (starEach es X.env)).any (·.1) = false := by rfl) : N X (.Call (.Name x p) (e :: es) [] pos) (cCbN g os) :=
  PE.imp (pe_callB hc hg hm hv ha hn hdb he hpl) fun _ _ _ h => cbN_to h
end
end Pu

namespace Pu
open PySem PySem.Spec PyProof.Rows L2

/-! ### set comprehensions over ints -/
/-- the reading of a set comprehension over ints -/
def tSi (w : World) (wi : TI) (g : TG) (tt : TT) (te : TE) (vs : List Nat) : TE := fun σ H Q => wi σ H fun J H1 => ∀ D, H1 D = none → ∃ W : Nat → Nat → Hp → Prop, (∃ m, W 0 m (upd H1 D (SetO w D (fun _ => false) 0))) ∧
  ∀ i m H, W i m H → (J.stop i H ∧ Q (.ref D) H) ∨ (J.go i H ∧ ∃ Z : Hp → Prop, (∀ H', Z H' → ∃ m', m' < m ∧ W (i + 1) m' H') ∧
    ∀ x H', J.yld i H x H' → g x (wipe σ vs) H' fun σ2 H2 => wipe σ2 vs = wipe σ vs ∧ tt σ2 H2 fun b H3 =>
      if b = true then te σ2 H3 fun y H4 => ∃ (k : Int) (S : Int → Bool) (n : Nat), y = .int k ∧ H4 D = some (SetO w D S n) ∧ n + 1 < scanBound ∧ Z (upd H4 D (SetO w D (fun j => S j || decide (j = k)) (if S k = true then n else n + 1))) else Z H3)
section
variable {X : Cx}
theorem addI_ok {pins : List (Addr × Obj)} {σ : L2.St} {H : Hp} {s : Shared} {E : Value → Shared → Prop} {D : Addr} {S : Int → Bool} {n : Nat} {k : Int} {tk : Tok} {Q : Value → Shared → Prop} (I : Inv X pins σ H s) (hD : H D = some (SetO X.w D S n)) (room : n + 1 < scanBound)
    (h : ∀ s', Inv X pins σ (upd H D (SetO X.w D (fun j => S j || decide (j = k)) (if S k = true then n else n + 1))) s' → Q .none s') : wpAny (model X.prog X.w) X.A (call (.builtin "set.add") [.ref D, .int k tk]) Q E s :=
  setR_add (setO_get I hD) room fun h' sb new => h _ (I.write (e := D) (t' := s.toks + 1) (by rw [hD]; trivial) (.inl rfl) (fun b u hb hu => (sb.2 b hb).trans hu) (by obtain ⟨o, _, _, _, ho, _⟩ := id new; exact ⟨o, ho⟩) (setO_new new))
/-- the set comprehension, from the entry on: the road of the library's own for truth values, told for ints -/
theorem si_run {pins : List (Addr × Obj)} {s : Shared} {σ : L2.St} {H : Hp} {Q : VK} {el tg it0 : Expr} {ifs : List Expr} {sc : Scope} {own : List (PySem.Str × Nat)} {pos pos' : Pos} {wi : TI} {g : TG} {tt : TT} {te : TE} {use : Option (Value → Sem Unit)} {Qf : Value → Shared → Prop}
    (calm : X.calm = true) (hN : X.N.Nodup) (Iv : Inv X pins σ H s) (hi : PI X tg it0 wi) (bo : BlkOk X.N X.env.scope sc own)
    (hg : ∀ (s : Shared) (H : Hp) (L : Addr) (cl : List (PySem.Str × Addr)) (fp : List Addr), PG (X.blk s H sc (compEnvC sc cl L X.env) fp) tg g) (ht : ∀ (s : Shared) (H : Hp) (L : Addr) (cl : List (PySem.Str × Addr)) (fp : List Addr), PTs (X.blk s H sc (compEnvC sc cl L X.env) fp) ifs tt)
    (he : ∀ (s : Shared) (H : Hp) (L : Addr) (cl : List (PySem.Str × Addr)) (fp : List Addr), PE (X.blk s H sc (compEnvC sc cl L X.env) fp) el te) (hfold : ∀ x, foldedSetIterable it0 X.env x = pure x)
    (h : tSi X.w wi g tt te (own.map (·.2)) σ H Q)
    (done : ∀ D L s' m H', Inv X pins σ H' s' → Q (.ref D) H' → s'.heap.Ns L m → FpOk X pins H' L → compPost (model X.prog X.w) X.A X.xe use Qf (.ref D) L (.ok .next) s') :
    wpAny (model X.prog X.w) X.A (comprehension (.SetComp el [⟨tg, it0, ifs, 0⟩] sc pos) sc X.env pos' (newSet (.type "set")) false (eval it0 X.env) use) Qf X.xe s := by
  refine wpAny_comprehension_free (use := use) rfl hfold (closure_ok fun y hy e => (bo.free y hy e).elim (fun k => Iv.ok.has _ (.inl k)) fun k => Iv.ok.has _ (.inr k)) bo.kind (fun y hy e => by rw [bo.uniq y hy, e])
    (thn (hi.run pins s σ H _ Iv h) fun xv s1 hx => thn hx fun itv s2 h2 => ?_)
  obtain ⟨it, fp, tn, J, H2, rfl, I2, T, st2, f2, q⟩ := h2
  refine PpSet.newSet_ok (newEnv_comp ?_)
  generalize hD : s2.heap.objs.size = D
  obtain ⟨W, ⟨m0, w0⟩, turn⟩ := q D (I2.hok.fresh (Nat.le_of_eq hD))
  generalize hs3 : ({ s2 with heap := s2.heap.push { cls := .type "set", dict := none, data := .set #[] 0 (.fresh 0 0 (!X.w.params.followText "set-order")) } } : Shared) = s3
  have hp3 : s3.heap = s2.heap.push { cls := .type "set", dict := none, data := .set #[] 0 (.fresh 0 0 (!X.w.params.followText "set-order")) } := by rw [← hs3]
  have up3 : ∀ b o, s2.heap.get? b = some o → s3.heap.get? b = some o := fun b o e => by rw [hp3]; exact Heap.get?_push_of_some _ e
  have I3 : Inv X pins σ (upd H2 D (SetO X.w D (fun _ => false) 0)) s3 := by
    subst hs3
    exact I2.laid (t' := s2.toks) up3 (Nat.le_of_eq hD) (by rw [← hD]; exact setO_new (setR_fresh X.w))
  have small : ∀ b ∈ fp, b < s2.heap.objs.size := fun b hb => by obtain ⟨o, e, _⟩ := T.obj _ _ st2 b hb; exact Heap.lt_size e
  have f3 : ∀ b ∈ fp, FpOk X pins (upd H2 D (SetO X.w D (fun _ => false) 0)) b ∧ b < s3.heap.objs.size := fun b hb =>
    ⟨⟨by rw [upd_ne (by rw [← hD]; exact Nat.ne_of_lt (small b hb))]; exact (f2 b hb).1, (f2 b hb).2⟩, by rw [hp3, Heap.size_push]; exact Nat.lt_succ_of_lt (small b hb)⟩
  have st3 : tn 0 s3.heap := T.keep _ _ _ st2 fun b _ => up3 b
  have I4 := block_start I3 bo hN f3
  have jg := hg s3 (upd H2 D (SetO X.w D (fun _ => false) 0)) s3.heap.objs.size (cellsFrom (s3.heap.objs.size + 1) sc.names (cloFrom X.env.cells sc.names [])) fp
  have jt := ht s3 (upd H2 D (SetO X.w D (fun _ => false) 0)) s3.heap.objs.size (cellsFrom (s3.heap.objs.size + 1) sc.names (cloFrom X.env.cells sc.names [])) fp
  have je := he s3 (upd H2 D (SetO X.w D (fun _ => false) 0)) s3.heap.objs.size (cellsFrom (s3.heap.objs.size + 1) sc.names (cloFrom X.env.cells sc.names [])) fp
  show codeAny _ _ (.compStart (.SetComp el [⟨tg, it0, ifs, 0⟩] sc pos) 0 (.ref it) (.ref D) (compEnvC sc (cellsFrom (s3.heap.objs.size + 1) sc.names (cloFrom X.env.cells sc.names [])) s3.heap.objs.size X.env)) (compPost (model X.prog X.w) X.A X.xe use Qf (.ref D) s3.heap.objs.size) { s3 with heap := pushCells (s3.heap.push { cls := .type "dict", data := .dict #[] }) sc.names }
  have out3 : ∀ b ∈ fp, (upd H2 D (SetO X.w D (fun _ => false) 0)) b = none := fun b hb => (f3 b hb).1.1
  generalize hen : compEnvC sc (cellsFrom (s3.heap.objs.size + 1) sc.names (cloFrom X.env.cells sc.names [])) s3.heap.objs.size X.env = en at I4 jg jt je ⊢
  have enL : en.locals = s3.heap.objs.size := by subst hen; rfl
  generalize hG : upd H2 D (SetO X.w D (fun _ => false) 0) = G0 at I3 I4 jg jt je w0 out3 f3
  generalize hs4 : ({ s3 with heap := pushCells (s3.heap.push { cls := .type "dict", data := .dict #[] }) sc.names } : Shared) = s4 at I4 ⊢
  have st4 : tn 0 s4.heap := T.keep _ _ _ st3 fun b _ o e => by rw [← hs4]; exact pushCells_keeps _ _ _ _ (Heap.get?_push_of_some _ e)
  have still : ∀ {τ : L2.St} {G : Hp} {u : Shared}, Inv (X.blk s3 G0 sc en fp) [] τ G u → (∀ b ∈ fp, G b = none) → ∀ b ∈ fp, FpOk (X.blk s3 G0 sc en fp) [] G b := fun {τ G u} J' hn b hb =>
    ⟨hn b hb, (J'.ok.exf b hb).1, J'.ok.exfs b hb, .inl hb, (J'.ok.exf b hb).2, fun p hp => absurd (show p ∈ ([] : List (Addr × Obj)) ++ [] from hp) (by simp)⟩
  have loop : codeAny (model X.prog X.w) X.A (.compLoop (.SetComp el [⟨tg, it0, ifs, 0⟩] sc pos) 0 (.ref it) (.ref D) en) (compPost (model X.prog X.w) X.A X.xe use Qf (.ref D) s3.heap.objs.size) s4 := by
    refine PpSet.compLoopS_any (fun n u => ∃ i G, Inv (X.blk s3 G0 sc en fp) [] (wipe σ (own.map (·.2))) G u ∧ tn i u.heap ∧ (∀ b ∈ fp, G b = none) ∧ W i n G) ?_ m0 ⟨0, G0, I4, st4, out3, w0⟩
    rintro n s5 ⟨i, G5, I5, st5, n5, w5⟩
    rcases turn i n G5 w5 with ⟨stop, qq⟩ | ⟨go, Z, hZ, step⟩
    · refine thnF (T.done (X.blk s3 G0 sc en fp) rfl rfl rfl calm i [] s5 _ G5 (fun _ _ => False) I5 (still I5 n5) st5 stop) fun r s6 ⟨hr, I6⟩ => ?_
      subst hr
      obtain ⟨m, hm, _⟩ := I6.loc
      have hfree : G5 en.locals = none := I6.free
      have hm : s6.heap.Ns en.locals m := hm
      rw [enL] at hm hfree
      exact done D s3.heap.objs.size s6 m G5 (I3.call' (ch := fp) I6.os I6.base I6.hok I6.bare fun b hb => ⟨(f3 b hb).1.2.2.2.1, (f3 b hb).1.2.1, (f3 b hb).1.2.2.2.2.1, (f3 b hb).1.2.2.2.2.2⟩) qq hm (I3.fpOk (Nat.le_refl _) hfree)
    · refine thnF (T.item (X.blk s3 G0 sc en fp) rfl rfl rfl calm i [] s5 _ G5 (fun _ _ => False) I5 (still I5 n5) st5 go) fun r s6 ⟨u, hr, h6⟩ => ?_
      subst hr
      refine thnF h6 fun _ s7 ⟨x, G7, I7, r7, y7, st7, n7⟩ => ?_
      refine thnF (jg.run _ s7 _ G7 x u _ (I7.pinned (still I7 n7) (T.obj _ _ st7)) r7 (step x G7 y7)) fun _ s8 ⟨σ8, G8, I8, hw8, q8⟩ => ?_
      refine thnF (jt.run _ s8 σ8 G8 _ I8 q8) fun b s9 ⟨G9, I9, q9⟩ => ?_
      have close : ∀ {u : Shared} {G : Hp}, Inv (X.blk s3 G0 sc en fp) ([] ++ pinsAt fp s7.heap) σ8 G u → Z G → ∃ m, m < n ∧ ∃ i G, Inv (X.blk s3 G0 sc en fp) [] (wipe σ (own.map (·.2))) G u ∧ tn i u.heap ∧ (∀ b ∈ fp, G b = none) ∧ W i m G := fun {u G} Iu z => by
        obtain ⟨m', hm, w'⟩ := hZ G z
        have pinned : ∀ b ∈ fp, ∀ o, s7.heap.get? b = some o → u.heap.get? b = some o ∧ G b = none := fun b hb o e => by
          have z := Iu.pin (b, o) (List.mem_append_right _ (List.mem_append_right _ (mem_pinsAt hb e)))
          exact ⟨z.1, z.2.1⟩
        refine ⟨m', hm, i + 1, G, (Iu.unpinned (pins := [])).weak (by rw [← hw8, wipe_length]) (fun j v e => by rw [← hw8] at e; exact (wipe_some e).1), T.keep _ _ _ st7 fun b hb o e => (pinned b hb o e).1, fun b hb => ?_, w'⟩
        obtain ⟨o, e, _⟩ := T.obj _ _ st7 b hb
        exact (pinned b hb o e).2
      cases b with
      | false =>
        simp only [Bool.false_eq_true, if_false] at q9 ⊢
        exact close I9 q9
      | true =>
        simp only [if_true] at q9 ⊢
        refine thnF (je.run _ s9 σ8 G9 _ I9 q9) fun z s10 ⟨yv, G10, I10, r10, k, S0, n0, ey, hD10, room, nx⟩ => ?_
        subst ey
        obtain ⟨tk, rfl⟩ := (show ∃ t, z = Value.int k t from r10)
        exact addI_ok (X := X.blk s3 G0 sc en fp) I10 hD10 room fun s11 I11 => close I11 nx
  exact PpSet.codeAny_compStart_set loop (T.self X.A 0 _ _ _ st4 loop)
theorem pe_si {el tg it0 : Expr} {ifs : List Expr} {sc : Scope} {own : List (PySem.Str × Nat)} {pos : Pos} {wi : TI} {g : TG} {tt : TT} {te : TE} (calm : X.calm = true) (hN : X.N.Nodup) (hi : PI X tg it0 wi) (bo : BlkOk X.N X.env.scope sc own)
    (hg : ∀ (s : Shared) (H : Hp) (L : Addr) (cl : List (PySem.Str × Addr)) (fp : List Addr), PG (X.blk s H sc (compEnvC sc cl L X.env) fp) tg g) (ht : ∀ (s : Shared) (H : Hp) (L : Addr) (cl : List (PySem.Str × Addr)) (fp : List Addr), PTs (X.blk s H sc (compEnvC sc cl L X.env) fp) ifs tt)
    (he : ∀ (s : Shared) (H : Hp) (L : Addr) (cl : List (PySem.Str × Addr)) (fp : List Addr), PE (X.blk s H sc (compEnvC sc cl L X.env) fp) el te) (hfold : ∀ x, foldedSetIterable it0 X.env x = pure x := by intro _; rfl) :
    PE X (.SetComp el [⟨tg, it0, ifs, 0⟩] sc pos) (tSi X.w wi g tt te (own.map (·.2))) :=
  ⟨fun pins s σ H Q I h => by
    rw [PpSet.eval_SetComp]
    exact si_run calm hN I hi bo hg ht he hfold h fun D L s' m H' I' q hn f => ⟨m, hn, fun h'' sb => ⟨.ref D, H', I'.turned (t' := s'.toks) (fun b o hb e => (sb.2 b hb).trans e) f.1 f.2.1 f.2.2.2.1 f.2.2.2.2.1 f.2.2.2.2.2, rfl, q⟩⟩⟩
end

/-! ### sorted({.. for ..}) -/
def insU (x : Int) : List Int → List Int
  | [] => [x]
  | y :: ys => if x < y then x :: y :: ys else if x = y then y :: ys else y :: insU x ys
def usort : List Int → List Int
  | [] => []
  | x :: xs => insU x (usort xs)
theorem insU_mem {x z : Int} : ∀ {ys : List Int}, z ∈ insU x ys ↔ z = x ∨ z ∈ ys
  | [] => by simp [insU]
  | y :: ys => by
    unfold insU
    split
    · simp
    · split
      · rename_i h; subst h; simp
      · simp only [List.mem_cons, insU_mem (ys := ys)]
        constructor
        · rintro (h | h | h)
          · exact .inr (.inl h)
          · exact .inl h
          · exact .inr (.inr h)
        · rintro (h | h | h)
          · exact .inr (.inl h)
          · exact .inl h
          · exact .inr (.inr h)
theorem usort_mem {z : Int} : ∀ {xs : List Int}, z ∈ usort xs ↔ z ∈ xs
  | [] => by simp [usort]
  | x :: xs => by unfold usort; rw [insU_mem, usort_mem, List.mem_cons]
theorem insU_lt {x : Int} : ∀ {ys : List Int}, ys.Pairwise (· < ·) → (insU x ys).Pairwise (· < ·)
  | [], _ => by simp [insU]
  | y :: ys, h => by
    obtain ⟨h1, h2⟩ := List.pairwise_cons.mp h
    unfold insU
    split
    · rename_i hx
      refine List.pairwise_cons.mpr ⟨fun z hz => ?_, h⟩
      rcases List.mem_cons.mp hz with rfl | hz
      · exact hx
      · exact Int.lt_trans hx (h1 z hz)
    · split
      · exact h
      · refine List.pairwise_cons.mpr ⟨fun z hz => ?_, insU_lt h2⟩
        rcases insU_mem.mp hz with rfl | hz
        · omega
        · exact h1 z hz
theorem usort_lt : ∀ {xs : List Int}, (usort xs).Pairwise (· < ·)
  | [] => .nil
  | x :: xs => by unfold usort; exact insU_lt usort_lt
theorem lt_unique : ∀ {xs ys : List Int}, xs.Pairwise (· < ·) → ys.Pairwise (· < ·) → (∀ z, z ∈ xs ↔ z ∈ ys) → xs = ys
  | [], [], _, _, _ => rfl
  | [], y :: ys, _, _, h => absurd ((h y).mpr List.mem_cons_self) (by simp)
  | x :: xs, [], _, _, h => absurd ((h x).mp List.mem_cons_self) (by simp)
  | x :: xs, y :: ys, hx, hy, h => by
    obtain ⟨x1, x2⟩ := List.pairwise_cons.mp hx
    obtain ⟨y1, y2⟩ := List.pairwise_cons.mp hy
    have e : x = y := by
      rcases List.mem_cons.mp ((h x).mp List.mem_cons_self) with r | r
      · exact r
      · rcases List.mem_cons.mp ((h y).mpr List.mem_cons_self) with q | q
        · exact q.symm
        · have := x1 y q
          have := y1 x r
          omega
    subst e
    rw [lt_unique x2 y2 fun z => ?_]
    constructor
    · intro hz
      rcases List.mem_cons.mp ((h z).mp (List.mem_cons_of_mem _ hz)) with r | r
      · have := x1 z hz; omega
      · exact r
    · intro hz
      rcases List.mem_cons.mp ((h z).mpr (List.mem_cons_of_mem _ hz)) with r | r
      · have := y1 z hz; omega
      · exact r
theorem lcL_pref {g : CG} {cond : CT} {elt : CE} {vs : List Nat} : ∀ {ds acc out : List D} {Γ Γz : En}, lcL g cond elt vs ds acc Γ = some (out, Γz) → ∃ r, out = acc ++ r
  | [], acc, out, Γ, Γz, h => by cases h; exact ⟨[], by simp⟩
  | d :: ds, acc, out, Γ, Γz, h => by
    unfold lcL at h
    simp only [Option.bind_eq_some_iff] at h
    obtain ⟨Γ1, h1, ⟨b, Γ2⟩, h2, h⟩ := h
    split at h
    · simp only [Option.bind_eq_some_iff] at h
      obtain ⟨⟨z, Γ3⟩, h3, h⟩ := h
      split at h
      · obtain ⟨r, e⟩ := lcL_pref h
        exact ⟨z :: r, by rw [e]; simp⟩
      · cases h
    · exact lcL_pref h
theorem intsD_app {a b : List D} {ns : List Int} (h : intsD (a ++ b) = some ns) : ∃ ks ms, intsD a = some ks ∧ intsD b = some ms ∧ ns = ks ++ ms := by
  induction a generalizing ns with
  | nil => exact ⟨[], ns, rfl, h, rfl⟩
  | cons d a ih =>
    cases d <;> try cases h
    rename_i i
    simp only [List.cons_append, intsD, Option.map_eq_some_iff] at h
    obtain ⟨ms, h1, rfl⟩ := h
    obtain ⟨ks, us, h2, h3, rfl⟩ := ih h1
    exact ⟨i :: ks, us, by simp [intsD, h2], h3, rfl⟩
theorem intsD_len : ∀ {a : List D} {ns : List Int}, intsD a = some ns → ns.length = a.length
  | [], ns, h => by cases h; rfl
  | d :: a, ns, h => by
    cases d <;> try cases h
    simp only [intsD, Option.map_eq_some_iff] at h
    obtain ⟨ms, h1, rfl⟩ := h
    simp [intsD_len h1]
def cSortSc (vs : List Nat) (ci : CI) (g : CG) (cond : CT) (elt : CE) : CN := fun Γ => (ci Γ).bind fun p =>
  if vs.all (notOwn p.2) = true then (lcL g cond elt vs p.1 [] (wipeG p.2 vs)).bind fun q => if q.1.length < 64 then (intsD q.1).bind fun ns => some (.nw (.list ((usort ns).map fun n => .int n)), restore p.2 q.2 vs) else none else none
theorem si_it {K : Fr} {F1 : Hp} {w : World} {J : It} {ds : List D} {g : TG} {tt : TT} {te : TE} {vs : List Nat} {σ : L2.St} {H1 : Hp} {A : Addr} {Qd : Hp → Prop} (wk : WalkD K F1 J ds) (Pv : Nat → Hp → Prop) (h0 : Pv 0 (upd H1 A (SetO w A (fun _ => false) 0))) (hG : ∀ i H, i ≤ ds.length → Pv i H → Le F1 H)
    (hs : ∀ i x H H', i < ds.length → Pv i H → YD K F1 ds i H x H' → g x (wipe σ vs) H' fun σ2 H2 => wipe σ2 vs = wipe σ vs ∧ tt σ2 H2 fun b H3 =>
      if b = true then te σ2 H3 fun y H4 => ∃ (k : Int) (S : Int → Bool) (n : Nat), y = .int k ∧ H4 A = some (SetO w A S n) ∧ n + 1 < scanBound ∧ Pv (i + 1) (upd H4 A (SetO w A (fun j => S j || decide (j = k)) (if S k = true then n else n + 1))) else Pv (i + 1) H3) (hd : ∀ H, Pv ds.length H → Qd H) :
    ∃ W : Nat → Nat → Hp → Prop, (∃ m, W 0 m (upd H1 A (SetO w A (fun _ => false) 0))) ∧ ∀ i m H, W i m H →
      (J.stop i H ∧ Qd H) ∨ (J.go i H ∧ ∃ Z : Hp → Prop, (∀ H', Z H' → ∃ m', m' < m ∧ W (i + 1) m' H') ∧ ∀ x H', J.yld i H x H' → g x (wipe σ vs) H' fun σ2 H2 => wipe σ2 vs = wipe σ vs ∧ tt σ2 H2 fun b H3 =>
        if b = true then te σ2 H3 fun y H4 => ∃ (k : Int) (S : Int → Bool) (n : Nat), y = .int k ∧ H4 A = some (SetO w A S n) ∧ n + 1 < scanBound ∧ Z (upd H4 A (SetO w A (fun j => S j || decide (j = k)) (if S k = true then n else n + 1))) else Z H3) := by
  refine ⟨fun i m H => m = ds.length - i ∧ i ≤ ds.length ∧ Pv i H, ⟨ds.length, rfl, Nat.zero_le _, h0⟩, fun i m H ⟨em, hi, p⟩ => ?_⟩
  by_cases hlt : i < ds.length
  · exact .inr ⟨wk.goes i H hlt (hG i H hi p), Pv (i + 1), fun H' p' => ⟨ds.length - (i + 1), by omega, rfl, hlt, p'⟩, fun x H' y => hs i x H H' hlt p (wk.yields i H x H' hlt (hG i H hi p) y)⟩
  · have e : i = ds.length := by omega
    subst e
    exact .inl ⟨wk.stops H (hG _ H hi p), hd H p⟩
theorem sc_to {K : Fr} {w : World} {ci : CI} {ts vs : List Nat} {g : CG} {cond : CT} {elt : CE} {σ : L2.St} {H : Hp} {Q : VK} (hs : ∀ t ∈ ts, t ∈ vs) (h : tN K (cSortSc vs ci g cond elt) σ H Q) :
    tSi w (tI K ci) (tG K ts g) (tT K cond) (tE K elt) vs σ H fun x H1 => rSortedSet w [x] H1 Q := by
  obtain ⟨C, F, Γ, r, Γ', R, hc, k⟩ := h
  unfold cSortSc at hc
  simp only [Option.bind_eq_some_iff] at hc
  obtain ⟨⟨ds, Γ1⟩, h1, hc⟩ := hc
  split at hc
  · rename_i hv
    simp only [Option.bind_eq_some_iff] at hc
    obtain ⟨⟨out, Γz⟩, hl, hc⟩ := hc
    split at hc
    · rename_i h64
      simp only [Option.bind_eq_some_iff, Option.some.injEq, Prod.mk.injEq] at hc h64
      obtain ⟨ns, hns, rfl, rfl⟩ := hc
      refine ⟨C, F, Γ, ds, Γ1, R, h1, fun F1 H1 J l1 R1 wk A nA => ?_⟩
      have hP : C.Pn A = none := R1.freshP nA
      refine si_it wk (fun i H => ∃ F2 Γ2 acc ks S n, Le F1 F2 ∧ Rel K C F2 H (wipe σ vs) Γ2 ∧ H A = some (SetO w A S n) ∧ F2 A = none ∧ intsD acc = some ks ∧ (∀ j, S j = true ↔ j ∈ ks) ∧ n ≤ acc.length ∧ NoOwn (wipe σ vs) Γ2 A ∧ lcL g cond elt vs (ds.drop i) acc Γ2 = some (out, Γz))
        ⟨F1, wipeG Γ1 vs, [], [], fun _ => false, 0, Le.refl _, (R1.chg (R1.freshF nA) hP (NoOwn.fresh R1 nA)).wiped vs, upd_same, R1.freshF nA, rfl, by simp, Nat.le_refl _, (NoOwn.fresh R1 nA).wiped vs, hl⟩
        (fun i H _ ⟨F2, Γ2, acc, ks, S, n, l2, R2, _⟩ => l2.trans R2.sub) ?_ ?_
      · rintro i x H2 H3 hi ⟨F2, Γ2, acc, ks, S, n, l2, R2, hA, hF, hI, hS, hn, hno, hf⟩ y
        obtain ⟨F3, d, l3, R3, hd, q⟩ := yd_get l2 (R2.held hA hF hno) y
        rw [drop_cons hd] at hf
        unfold lcL at hf
        simp only [Option.bind_eq_some_iff] at hf
        obtain ⟨Γ3, h3, ⟨b, Γ4⟩, h4, hf⟩ := hf
        refine ⟨_, F3, Γ2, d, Γ3, R3, q, h3, fun F4 H4 σ4 l4 R4 sm => ⟨same_wipe sm hs, ?_⟩⟩
        have ew : wipe σ4 vs = wipe σ vs := same_wipe sm hs
        refine ⟨_, F4, Γ3, b, Γ4, R4, h4, fun F5 H5 l5 R5 => ?_⟩
        have l25 : Le F2 F5 := l3.trans (l4.trans l5)
        cases b with
        | false =>
          rw [if_neg Bool.false_ne_true] at hf
          refine iteF ?_
          obtain ⟨R6, hA6, hF6, hn6⟩ := R5.unheld hP
          exact ⟨F5, wipeG Γ4 vs, acc, ks, S, n, l2.trans l25, by rw [← ew]; exact R6.wiped vs, hA6, hF6, hI, hS, hn, by rw [← ew]; exact hn6.wiped vs, hf⟩
        | true =>
          rw [if_pos rfl] at hf
          refine iteT ?_
          simp only [Option.bind_eq_some_iff] at hf
          obtain ⟨⟨z, Γ5⟩, h5, hf⟩ := hf
          refine ⟨_, F5, Γ4, z, Γ5, R5, h5, fun F6 H6 u l6 R6 qz => ?_⟩
          obtain ⟨R7, hA7, hF7, hn7⟩ := R6.unheld hP
          split at hf
          · obtain ⟨rest, er⟩ := lcL_pref hf
            have hlen : acc.length < 64 := by rw [er] at h64; simp at h64; omega
            rw [er] at hns
            obtain ⟨k1, k2, e1, e2, e3⟩ := intsD_app hns
            obtain ⟨k3, k4, e4, e5, e6⟩ := intsD_app e1
            rw [hI] at e4
            cases e4
            cases z <;> try cases e5
            rename_i zi
            cases qz
            have l26 : Le F2 F6 := l25.trans l6
            refine ⟨zi, S, n, rfl, hA7, by unfold scanBound; omega, F6, wipeG Γ5 vs, acc ++ [.int zi], ks ++ [zi], _, _, l2.trans l26, ?_, upd_same, hF7, by rw [e6] at e1; exact e1, fun j => ?_, ?_, by rw [← ew]; exact hn7.wiped vs, hf⟩
            · rw [← ew]; exact (R7.chg hF7 hP hn7).wiped vs
            · simp [← hS]
            · simp only [List.length_append, List.length_cons, List.length_nil]
              split <;> omega
          · cases hf
      · rintro H2 ⟨F2, Γ2, acc, ks, S, n, l2, R2, hA, hF, hI, hS, hn, hno, hf⟩
        rw [List.drop_length] at hf
        unfold lcL at hf
        cases hf
        rw [hI] at hns
        cases hns
        have R3 := R1.restored R2 l2 hv
        refine ⟨A, S, n, rfl, hA, by omega, fun ms p m1 m2 m3 np => ?_⟩
        have : ms = usort ns := lt_unique m1 usort_lt fun z => by rw [m2, hS, usort_mem]
        rw [this]
        exact k F2 _ _ (l1.trans l2) (R3.grow (Grow.raw R3.sub np)) (got_new R3 np (vals_dp _))
    · cases hc
  · cases hc
section
variable {X : Cx}
theorem n_sortSc {x : Str} {el tg it0 : Expr} {ifs : List Expr} {sc : Scope} {own : List (PySem.Str × Nat)} {p pos pos2 : Pos} {ci : CI} {ts : List Nat} {g : CG} {cond : CT} {ce : CE} (hgl : Gl X x) (hm : X.mg x = none) (hv : bootBuiltins x = some (.builtin "sorted")) (calm : X.calm = true) (hN : X.N.Nodup) (hi : I X tg it0 ci) (bo : BlkOk X.N X.env.scope sc own)
    (hg : ∀ (s : Shared) (H : Hp) (L : Addr) (cl : List (PySem.Str × Addr)) (fp : List Addr), G (X.blk s H sc (compEnvC sc cl L X.env) fp) tg ts g) (ht : ∀ (s : Shared) (H : Hp) (L : Addr) (cl : List (PySem.Str × Addr)) (fp : List Addr), PTs (X.blk s H sc (compEnvC sc cl L X.env) fp) ifs (tT X.K cond))
    (he : ∀ (s : Shared) (H : Hp) (L : Addr) (cl : List (PySem.Str × Addr)) (fp : List Addr), E (X.blk s H sc (compEnvC sc cl L X.env) fp) el ce) (hts : ∀ t ∈ ts, t ∈ own.map (·.2) := by decide) (hfold : ∀ x, foldedSetIterable it0 X.env x = pure x := by intro _; rfl) (hn : x ≠ "__name__" := by decide) (hdb : (x == ("__debug__" : Str)) = false := by decide)
    (hst : starEach [.SetComp el [⟨tg, it0, ifs, 0⟩] sc pos] X.env = (false, eval (.SetComp el [⟨tg, it0, ifs, 0⟩] sc pos) X.env) :: starEach [] X.env := by rfl) (hpl : (backTo pos2 (starEach [] X.env)).any (·.1) = false := by rfl) :
    N X (.Call (.Name x p) [.SetComp el [⟨tg, it0, ifs, 0⟩] sc pos] [] pos2) (cSortSc (own.map (·.2)) ci g cond ce) :=
  PE.imp (pe_callB (cr_sortedSet calm) hgl hm hv (pa_cons (pe_si calm hN hi bo hg ht he hfold) pa_nil hst) hn hdb hst hpl) fun σ H Q h => sc_to hts h
end
end Pu

namespace Pu
open PySem PySem.Spec PyProof.Rows L2

/-! ### set(xs) of a list of ints -/
abbrev bareSet (w : World) : Obj := { cls := .type "set", dict := none, data := .set #[] 0 (.fresh 0 0 (!w.params.followText "set-order")) }
section
variable {P : Program} {w : World} {A : Around} {E : Value → Shared → Prop} {s : Shared}
set_option maxHeartbeats 3200000 in
theorem setL_run {l : Addr} {us : Array Value} (ks : List Int) {Q : Value → Shared → Prop} (calm : A.handled = none) (il : s.heap.IsList l us) (iu : IntsAre us.toList ks) (few : ks.length + 1 < scanBound)
    (fin : ∀ (g : Heap) (tk c : Nat), SetR w g s.heap.objs.size (fun j => decide (j ∈ ks)) c → c ≤ ks.length → (∀ b o, s.heap.get? b = some o → g.get? b = some o) → Q (.ref s.heap.objs.size) { s with heap := g, toks := tk }) :
    wpAny (model P w) A (call (.type "set") [.ref l]) Q E s := by
  have len : us.size = ks.length := by rw [← Array.length_toList]; exact iu.length
  obtain ⟨mc, mt, m0⟩ := F.called_set.mro
  have m1 := F.called_set.made; have m2 := F.called_set.sub
  refine wpAny_call (codeAny_of_tree ?_)
  show wpAny _ (A.under _) (callAny (Value.type "set") _) _ _ _
  refine wpAny_pure ⟨Code.quiet_builtin _ (by decide +kernel), codeAny_builtin F.entry_type_call ?_⟩
  rw [Around.under_plain (weight_type_call_type "set" [.ref l] []) rfl]
  have m3 := F.called_set.notType; have m4 := F.called_set.canCreate; have m5 := F.typeCall_set_1 (.ref l)
  repeat (any_goals (first | assumption | wp_step))
  refine codeAny_mono (code_set_led1 (.ref l) (E := E) (Q₁ := fun u t => u = .ref s.heap.objs.size ∧ t = { s with heap := s.heap.push (bareSet w) }) ⟨rfl, rfl⟩) fun r t hr => ?_
  cases r with
  | error e => exact hr
  | ok fl =>
    cases fl with
    | ret u =>
      obtain ⟨rfl, rfl⟩ := hr
      have at0 : (s.heap.push (bareSet w)).get? s.heap.objs.size = some (bareSet w) := Heap.get?_push_size _ rfl
      have ty0 : Shared.TypeIs { s with heap := s.heap.push (bareSet w) } (.ref s.heap.objs.size) "set" := ⟨_, at0, rfl⟩
      have i1 := F.called_set.init.lookup; have i2 := F.called_set.init.bind (.ref s.heap.objs.size)
      repeat (any_goals (first | assumption | wp_step))
      refine codeAny_mono (codeAny_call_builtin (R := wants (fun r t => r = .none ∧ ∃ g tk c, t = { s with heap := g, toks := tk } ∧ SetR w g s.heap.objs.size (fun j => decide (j ∈ ks)) c ∧ c ≤ ks.length ∧ ∀ b o, s.heap.get? b = some o → g.get? b = some o) E)
        F.called_set.init.plain F.entry_set_init (check_set_init_1 ty0 ?_)) fun r t hr => ?_
      · obtain ⟨⟨oc, od, odt, osl⟩, hol, hoc, cap, hod⟩ := il
        simp only at hoc hod
        subst hoc hod
        have hol' := Heap.get?_push_of_some (bareSet w) hol
        have n1 := F.sub_list_set; have n2 := F.sub_list_frozenset
        have n3 : (Value.type "list" == Value.type "dict") = false := by decide
        have il' : (s.heap.push (bareSet w)).IsList l us := ⟨_, hol', rfl, cap, rfl⟩
        unfold Builtin.«set.__init__» noKeywords Builtin.Frozenset.updateFrom
        generalize hpi : pyIter = pi
        wp_walk
        subst hpi
        refine wpAny_pyIter_list il' (wpAny_bind (wpAny_runValue ?_))
        have lt := Heap.lt_size hol
        have sz := Heap.size_push s.heap (bareSet w)
        refine set_update_ints ((Walks.list (by simp [calm]) _ l (by rw [sz]; exact Nat.ne_of_lt (Nat.lt_succ_of_lt lt)) us).toS) s.heap.objs.size (by rw [sz]; intro hm; rcases List.mem_cons.mp hm with z | z; exact Nat.ne_of_lt (Nat.lt_succ_self _) z; exact Nat.ne_of_gt lt (List.mem_singleton.mp z)) ks len few (fun i v hv => ?_) (us.size - 0) 0 _ (by omega) (Nat.zero_le _)
          ⟨⟨_, Heap.get?_push_size _ rfl, rfl, rfl⟩, il'.push _⟩ ⟨0, Nat.le_refl 0, setR_new_at (Heap.get?_push_of_some _ at0)⟩ ?_
        · have hi : i < ks.length := by rw [← len]; exact (Array.getElem?_eq_some_iff.mp hv).1
          obtain ⟨t, e⟩ := IntsAre.int_at iu i v (by rw [Array.getElem?_toList]; exact hv)
          exact ⟨ks[i], t, List.getElem?_eq_getElem hi, by rw [e, List.getD_eq_getElem?_getD, List.getElem?_eq_getElem hi]; rfl⟩
        · rintro ⟨g, gg, dd, tk, oo⟩ c mv hc sr
          have e1 : gg = s.gens := mv.gens
          have e2 : dd = s.drawn := mv.drawn
          have e3 : oo = s.os := mv.os
          subst e1 e2 e3
          refine wpAny_pure ?_
          show wpAny _ _ (ret Value.none) _ _ _
          refine wpAny_pure ⟨rfl, g, tk, c, rfl, sr, by omega, fun b o e => ?_⟩
          have lb := Heap.lt_size e
          exact mv.heap b o (by rw [sz]; intro hm; rcases List.mem_cons.mp hm with z | z; exact Nat.ne_of_lt lb z; exact Nat.ne_of_lt (Nat.lt_succ_of_lt lb) (List.mem_singleton.mp z)) (Heap.get?_push_of_some _ (Heap.get?_push_of_some _ e))
      · cases r with
        | error e => exact hr
        | ok fl =>
          cases fl with
          | ret r =>
            obtain ⟨rfl, g, tk, c, rfl, sr, hc, keep⟩ := hr
            repeat (any_goals (first | assumption | wp_step))
            exact fin _ _ _ sr hc keep
          | _ => exact hr.elim
    | _ => exact hr.elim
end

def rSetL (K : Fr) (w : World) : List V → Hp → VK → Prop := fun vs H Q => ∃ (a : Addr) (ns : List Int), vs = [.ref a] ∧ (SqL K H a (ns.map V.int) ∨ SqT K H a (ns.map V.int)) ∧ ns.length + 1 < scanBound ∧
  ∀ (p : Addr) (c : Nat), c ≤ ns.length → H p = none → Q (.ref p) (upd H p (SetO w p (fun j => decide (j ∈ ns)) c))
section
variable {X : Cx}
theorem cr_setL (calm : X.calm = true) : CallR X (.type "set") (rSetL X.K X.w) := by
  intro pins s σ H vs us Q I r ⟨a, ns, e, hq, few, q⟩
  subst e
  rw [Vals.ref1 r]
  rcases hq with hq | hq
  · obtain ⟨its, rv, il, _⟩ := I.list hq
    refine setL_run ns (I.ok.hd calm) il.isList (by simpa using rv.ints) few fun g tk c sr hc keep => ?_
    exact ⟨.ref _, _, I.laid (t' := tk) keep (Nat.le_refl _) (setO_new sr), rfl, q _ c hc (I.hok.fresh (Nat.le_refl _))⟩
  · obtain ⟨its, rv, il, _⟩ := I.tuple hq
    refine call_set_tupI ns (I.ok.hd calm) (show s.heap.IsTuple a its.toArray from il) (by simpa using rv.ints) few fun g tk c sr hc keep => ?_
    exact ⟨.ref _, _, I.laid (t' := tk) keep (Nat.le_refl _) (setO_new sr), rfl, q _ c hc (I.hok.fresh (Nat.le_refl _))⟩
/-- sorted(set(xs)) -/
def cSortSet (c : CE) : CN := fun Γ => (c Γ).bind fun p => match p.1 with
  | .list ds => if ds.length < 64 then (intsD ds).bind fun ns => some (.nw (.list ((usort ns).map fun n => .int n)), p.2) else none
  | .tuple ds => if ds.length < 64 then (intsD ds).bind fun ns => some (.nw (.list ((usort ns).map fun n => .int n)), p.2) else none
  | _ => none
theorem n_sortSet {x y : Str} {e : Expr} {p p2 pos pos2 : Pos} {c : CE} (calm : X.calm = true) (hg : Gl X x) (hm : X.mg x = none) (hv : bootBuiltins x = some (.builtin "sorted")) (hg2 : Gl X y) (hm2 : X.mg y = none) (hv2 : bootBuiltins y = some (.type "set")) (he : E X e c)
    (hn : x ≠ "__name__" := by decide) (hdb : (x == ("__debug__" : Str)) = false := by decide) (hn2 : y ≠ "__name__" := by decide) (hdb2 : (y == ("__debug__" : Str)) = false := by decide)
    (h1 : starEach [e] X.env = (false, eval e X.env) :: starEach [] X.env := by rfl) (h2 : (backTo pos (starEach [] X.env)).any (·.1) = false := by rfl)
    (h3 : starEach [.Call (.Name y p) [e] [] pos] X.env = (false, eval (.Call (.Name y p) [e] [] pos) X.env) :: starEach [] X.env := by rfl) (h4 : (backTo pos2 (starEach [] X.env)).any (·.1) = false := by rfl) :
    N X (.Call (.Name x p2) [.Call (.Name y p) [e] [] pos] [] pos2) (cSortSet c) :=
  PE.imp (pe_callB (cr_sortedSet calm) hg hm hv (pa_cons (pe_callTy (cr_setL calm) hg2 hm2 hv2 (pa_cons he pa_nil h1) hn2 hdb2 h1 h2) pa_nil h3) hn hdb h3 h4) fun σ H Q ⟨C, F, Γ, r, Γ', R, hc, k⟩ => by
    unfold cSortSet at hc
    simp only [Option.bind_eq_some_iff] at hc
    obtain ⟨⟨d, Γ1⟩, q1, hc⟩ := hc
    refine ⟨C, F, Γ, d, Γ1, R, q1, fun F1 H1 v l1 R1 dv => ?_⟩
    have fin : ∀ (ds : List D) (ns : List Int) (a : Addr) (xs : List V), v = .ref a → DpAll X.K F1 xs ds → (SqL X.K H1 a xs ∨ SqT X.K H1 a xs) → ds.length < 64 → intsD ds = some ns → r = .nw (.list ((usort ns).map fun n => .int n)) → Γ' = Γ1 → rSetL X.K X.w [v] H1 fun z H2 => rSortedSet X.w [z] H2 Q := by
      rintro ds ns a xs rfl hd hs h64 hns rfl rfl
      have ex := intsD_vals hd hns
      subst ex
      have ln := intsD_len hns
      refine ⟨a, ns, rfl, hs, by unfold scanBound; omega, fun p c hcn np => ?_⟩
      refine ⟨p, _, c, rfl, upd_same, by omega, fun ms p' m1 m2 m3 np' => ?_⟩
      have : ms = usort ns := lt_unique m1 usort_lt fun z => by rw [m2, usort_mem, decide_eq_true_eq]
      rw [this]
      have R2 := R1.grow (Grow.raw R1.sub (o := SetO X.w p (fun j => decide (j ∈ ns)) c) np)
      exact k F1 _ _ l1 (R2.grow (Grow.raw R2.sub np')) (got_new R2 np' (vals_dp _))
    cases d with
    | list ds =>
      change (if ds.length < 64 then _ else none) = _ at hc
      split at hc
      · rename_i h64
        simp only [Option.bind_eq_some_iff, Option.some.injEq, Prod.mk.injEq] at hc
        obtain ⟨ns, hns, e1, e2⟩ := hc
        cases dv with
        | @lst a xs _ hs hd => exact fin ds ns a xs rfl hd (.inl (R1.sub.sql hs)) h64 hns e1.symm e2.symm
      · cases hc
    | tuple ds =>
      change (if ds.length < 64 then _ else none) = _ at hc
      split at hc
      · rename_i h64
        simp only [Option.bind_eq_some_iff, Option.some.injEq, Prod.mk.injEq] at hc
        obtain ⟨ns, hns, e1, e2⟩ := hc
        cases dv with
        | @tup a xs _ hs hd => exact fin ds ns a xs rfl hd (.inr (R1.sub.sqt hs)) h64 hns e1.symm e2.symm
      · cases hc
    | _ => cases hc
end
end Pu

namespace Pu
open PySem PySem.Spec PyProof.Rows L2

/-! ### lcm -/
def fLcm : List D → Option D
  | [.int a, .int b] => if a.natAbs < 2 ^ 31 ∧ b.natAbs < 2 ^ 31 then some (.int ((Nat.lcm a.natAbs b.natAbs : Nat) : Int)) else none
  | _ => none
theorem lcm_le (a b : Nat) : Nat.lcm a b ≤ a * b := by
  unfold Nat.lcm
  exact Nat.div_le_self _ _
section
variable {X : Cx}
theorem cd_lcm : CallR X (.builtin "math.lcm") (rDC X.K fLcm) := by
  intro pins s σ H vs us Q I r ⟨F, ds, z, sb, l, hf, q⟩
  unfold fLcm at hf
  split at hf
  · rename_i a b
    split at hf
    · rename_i hab
      cases hf
      obtain ⟨v, w, rfl, l1, l2⟩ := l.two
      rw [l1.int, l2.int] at r
      obtain ⟨t, u, rfl⟩ := Vals.int2 r
      have e : (((Nat.lcm 1 a.natAbs).lcm b.natAbs : Nat) : Int) = ((Nat.lcm a.natAbs b.natAbs : Nat) : Int) := by rw [Nat.lcm_one_left]
      have hle := lcm_le a.natAbs b.natAbs
      have hm : a.natAbs * b.natAbs < 2 ^ 31 * 2 ^ 31 := Nat.mul_lt_mul'' hab.1 hab.2
      refine PySem.W.mg_lcm_v (by omega) (by omega) e ?_ ⟨.int _, H, I.tok _, ⟨_, rfl⟩, q F H _ (Grow.refl sb) (.int _)⟩
      rw [Int.natAbs_natCast]
      have h2 : (Nat.lcm a.natAbs b.natAbs).log2 < 62 + 1 := by
        by_cases h0 : Nat.lcm a.natAbs b.natAbs = 0
        · rw [h0]; decide
        · exact (Nat.log2_lt h0).mpr (by omega)
      exact Nat.lt_of_lt_of_le h2 (by decide)
    · cases hf
  · cases hf
end
end Pu

namespace W82
open PySem PySem.Spec PyProof.Rows L2 Pu
def topS (i : Nat) : Stmt := PySem.Challenge.pw_wholesayings_k82_whole_values_that_are_b.main.body.getD i (.Pass ⟨0, 0, 0, 0⟩)
abbrev s_is_integer : Stmt := topS 2
abbrev N_is_integer : List Str := ["value"]
theorem sc_is_integer : FnScope N_is_integer ["value"] (defScope s_is_integer) := ⟨rfl, rfl, rfl, by decide +kernel, rfl, by decide +kernel, by decide +kernel⟩
abbrev s_is_pair : Stmt := topS 3
abbrev N_is_pair : List Str := ["value"]
theorem sc_is_pair : FnScope N_is_pair ["value"] (defScope s_is_pair) := ⟨rfl, rfl, rfl, by decide +kernel, rfl, by decide +kernel, by decide +kernel⟩
abbrev s_are_integers : Stmt := topS 4
abbrev N_are_integers : List Str := ["value", "a"]
theorem sc_are_integers : FnScope N_are_integers ["value"] (defScope s_are_integers) := ⟨rfl, rfl, rfl, by decide +kernel, rfl, by decide +kernel, by decide +kernel⟩
abbrev s_is_ascending : Stmt := topS 6
abbrev N_is_ascending : List Str := ["told", "low", "high", "at", "a"]
theorem sc_is_ascending : FnScope N_is_ascending ["told", "low", "high"] (defScope s_is_ascending) := ⟨rfl, rfl, rfl, by decide +kernel, rfl, by decide +kernel, by decide +kernel⟩
abbrev s_is_set : Stmt := topS 7
abbrev N_is_set : List Str := ["told", "m", "left", "low", "high", "middle", "right"]
theorem sc_is_set : FnScope N_is_set ["told"] (defScope s_is_set) := ⟨rfl, rfl, rfl, by decide +kernel, rfl, by decide +kernel, by decide +kernel⟩
abbrev s_has_it : Stmt := topS 8
abbrev N_has_it : List Str := ["some", "n", "m", "left", "low", "high", "middle", "right"]
theorem sc_has_it : FnScope N_has_it ["some", "n"] (defScope s_has_it) := ⟨rfl, rfl, rfl, by decide +kernel, rfl, by decide +kernel, by decide +kernel⟩
abbrev s_least_round : Stmt := topS 9
abbrev N_least_round : List Str := ["m", "rest", "kept", "size", "a"]
theorem sc_least_round : FnScope N_least_round ["m", "rest"] (defScope s_least_round) := ⟨rfl, rfl, rfl, by decide +kernel, rfl, by decide +kernel, by decide +kernel⟩
abbrev s_least_of : Stmt := topS 10
abbrev N_least_of : List Str := ["some", "m", "left", "low", "high", "middle", "right", "size", "below", "above", "firsts", "lasts", "first", "last", "cut", "kept", "n", "a"]
theorem sc_least_of : FnScope N_least_of ["some"] (defScope s_least_of) := ⟨rfl, rfl, rfl, by decide +kernel, rfl, by decide +kernel, by decide +kernel⟩
abbrev s_is_least_set : Stmt := topS 11
abbrev N_is_least_set : List Str := ["told"]
theorem sc_is_least_set : FnScope N_is_least_set ["told"] (defScope s_is_least_set) := ⟨rfl, rfl, rfl, by decide +kernel, rfl, by decide +kernel, by decide +kernel⟩
abbrev s_is_stick : Stmt := topS 13
abbrev N_is_stick : List Str := ["d", "told", "a"]
theorem sc_is_stick : FnScope N_is_stick ["d", "told"] (defScope s_is_stick) := ⟨rfl, rfl, rfl, by decide +kernel, rfl, by decide +kernel, by decide +kernel⟩
abbrev s_is_bundle_of : Stmt := topS 14
abbrev N_is_bundle_of : List Str := ["told", "stick"]
theorem sc_is_bundle_of : FnScope N_is_bundle_of ["told"] (defScope s_is_bundle_of) := ⟨rfl, rfl, rfl, by decide +kernel, rfl, by decide +kernel, by decide +kernel⟩
abbrev s_is_bundle : Stmt := topS 15
abbrev N_is_bundle : List Str := ["told"]
theorem sc_is_bundle : FnScope N_is_bundle ["told"] (defScope s_is_bundle) := ⟨rfl, rfl, rfl, by decide +kernel, rfl, by decide +kernel, by decide +kernel⟩
abbrev s_is_grid : Stmt := topS 17
abbrev N_is_grid : List Str := ["told", "row"]
theorem sc_is_grid : FnScope N_is_grid ["told"] (defScope s_is_grid) := ⟨rfl, rfl, rfl, by decide +kernel, rfl, by decide +kernel, by decide +kernel⟩
abbrev s__law_pot : Stmt := topS 19
abbrev N__law_pot : List Str := ["script"]
theorem sc__law_pot : FnScope N__law_pot ["script"] (defScope s__law_pot) := ⟨rfl, rfl, rfl, by decide +kernel, rfl, by decide +kernel, by decide +kernel⟩
abbrev s__law_take : Stmt := topS 20
abbrev N__law_take : List Str := ["pot", "many", "cell", "mixed", "digit"]
theorem sc__law_take : FnScope N__law_take ["pot", "many"] (defScope s__law_take) := ⟨rfl, rfl, rfl, by decide +kernel, rfl, by decide +kernel, by decide +kernel⟩
abbrev s__law_same : Stmt := topS 21
abbrev N__law_same : List Str := ["got", "due", "k"]
theorem sc__law_same : FnScope N__law_same ["got", "due"] (defScope s__law_same) := ⟨rfl, rfl, rfl, by decide +kernel, rfl, by decide +kernel, by decide +kernel⟩
abbrev s__law_has : Stmt := topS 22
abbrev N__law_has : List Str := ["some", "n", "m", "left", "low", "high", "middle", "right"]
theorem sc__law_has : FnScope N__law_has ["some", "n"] (defScope s__law_has) := ⟨rfl, rfl, rfl, by decide +kernel, rfl, by decide +kernel, by decide +kernel⟩
abbrev s__law_goes : Stmt := topS 24
abbrev N__law_goes : List Str := ["part", "m", "by", "a"]
theorem sc__law_goes : FnScope N__law_goes ["part", "m", "by"] (defScope s__law_goes) := ⟨rfl, rfl, rfl, by decide +kernel, rfl, by decide +kernel, by decide +kernel⟩
abbrev s__law_least : Stmt := topS 23
abbrev N__law_least : List Str := ["some", "m", "left", "low", "high", "middle", "right", "divisors", "fits", "by", "first", "last", "other", "late", "far", "near", "cut", "n", "a"]
theorem sc__law_least : FnScope N__law_least ["some"] (defScope s__law_least) := ⟨rfl, rfl, rfl, by decide +kernel, rfl, by decide +kernel, by decide +kernel⟩
abbrev s__law_small_set : Stmt := topS 25
abbrev N__law_small_set : List Str := ["pot", "m", "low", "high", "parts", "first", "last", "own"]
theorem sc__law_small_set : FnScope N__law_small_set ["pot"] (defScope s__law_small_set) := ⟨rfl, rfl, rfl, by decide +kernel, rfl, by decide +kernel, by decide +kernel⟩
abbrev s__law_mutant : Stmt := topS 26
abbrev N__law_mutant : List Str := ["pot", "value", "deep", "odd", "spot", "way"]
theorem sc__law_mutant : FnScope N__law_mutant ["pot", "value", "deep"] (defScope s__law_mutant) := ⟨rfl, rfl, rfl, by decide +kernel, rfl, by decide +kernel, by decide +kernel⟩
abbrev s__law_integer : Stmt := topS 27
abbrev N__law_integer : List Str := ["told"]
theorem sc__law_integer : FnScope N__law_integer ["told"] (defScope s__law_integer) := ⟨rfl, rfl, rfl, by decide +kernel, rfl, by decide +kernel, by decide +kernel⟩
abbrev s__law_row_of_integers : Stmt := topS 28
abbrev N__law_row_of_integers : List Str := ["told", "many", "own"]
theorem sc__law_row_of_integers : FnScope N__law_row_of_integers ["told", "many"] (defScope s__law_row_of_integers) := ⟨rfl, rfl, rfl, by decide +kernel, rfl, by decide +kernel, by decide +kernel⟩
abbrev s__law_headed : Stmt := topS 29
abbrev N__law_headed : List Str := ["told"]
theorem sc__law_headed : FnScope N__law_headed ["told"] (defScope s__law_headed) := ⟨rfl, rfl, rfl, by decide +kernel, rfl, by decide +kernel, by decide +kernel⟩
abbrev s__law_is_grid : Stmt := topS 30
abbrev N__law_is_grid : List Str := ["told", "own"]
theorem sc__law_is_grid : FnScope N__law_is_grid ["told"] (defScope s__law_is_grid) := ⟨rfl, rfl, rfl, by decide +kernel, rfl, by decide +kernel, by decide +kernel⟩
abbrev s__law_is_bundle : Stmt := topS 31
abbrev N__law_is_bundle : List Str := ["told", "own", "side"]
theorem sc__law_is_bundle : FnScope N__law_is_bundle ["told"] (defScope s__law_is_bundle) := ⟨rfl, rfl, rfl, by decide +kernel, rfl, by decide +kernel, by decide +kernel⟩
abbrev s__law_ascends : Stmt := topS 32
abbrev N__law_ascends : List Str := ["told", "low", "high", "k", "own"]
theorem sc__law_ascends : FnScope N__law_ascends ["told", "low", "high"] (defScope s__law_ascends) := ⟨rfl, rfl, rfl, by decide +kernel, rfl, by decide +kernel, by decide +kernel⟩
abbrev s__law_is_set : Stmt := topS 33
abbrev N__law_is_set : List Str := ["told", "m", "left", "low", "high", "middle", "right", "k"]
theorem sc__law_is_set : FnScope N__law_is_set ["told"] (defScope s__law_is_set) := ⟨rfl, rfl, rfl, by decide +kernel, rfl, by decide +kernel, by decide +kernel⟩
abbrev s__law_near : Stmt := topS 34
abbrev N__law_near : List Str := ["pot", "value", "turn"]
theorem sc__law_near : FnScope N__law_near ["pot", "value"] (defScope s__law_near) := ⟨rfl, rfl, rfl, by decide +kernel, rfl, by decide +kernel, by decide +kernel⟩
abbrev s__law_pairs : Stmt := topS 36
abbrev N__law_pairs : List Str := ["part", "by", "found", "k", "own"]
theorem sc__law_pairs : FnScope N__law_pairs ["part", "by"] (defScope s__law_pairs) := ⟨rfl, rfl, rfl, by decide +kernel, rfl, by decide +kernel, by decide +kernel⟩
abbrev s__law_wider : Stmt := topS 35
abbrev N__law_wider : List Str := ["pot", "some", "m", "left", "low", "high", "middle", "right", "by", "far", "near", "parts", "part", "n", "a", "k"]
theorem sc__law_wider : FnScope N__law_wider ["pot", "some"] (defScope s__law_wider) := ⟨rfl, rfl, rfl, by decide +kernel, rfl, by decide +kernel, by decide +kernel⟩
abbrev s_law : Stmt := topS 37
abbrev N_law : List Str := ["script", "pot", "turn", "d", "rows", "bundle", "some", "least", "wide", "value", "due", "again", "row", "column", "own"]
theorem sc_law : FnScope N_law ["script"] (defScope s_law) := ⟨rfl, rfl, rfl, by decide +kernel, rfl, by decide +kernel, by decide +kernel⟩
def c_is_integer : CF := cFun 1 1
    (cRet (asN (cAndV (cIsi (.v 0) "int") (cNotV (cIsi (.v 0) "bool")))))
def c_is_pair : CF := cFun 1 1
    (cRet (asN (cAndV (cIsi (.v 0) "tuple") (cOp (dEq false) (.e (cCb fLen [(.v 0)])) (.e (cC (.int 2)))))))
def c_are_integers : CF := cFun 2 1
    (cRet (asN (cAndV (cIsi (.v 0) "tuple") (cCb fAll [(.e (frz (cLc [1] (cIt (cVar 0)) (gN 1) cYes (frz (cCall c_is_integer [] (cCons (cVar 1) cNil))))))]))))
def c_is_ascending : CF := cFun 5 3
    (cSeq (cIfS (cOr (cNot (cB (frz (cCall c_are_integers [] (cCons (cVar 0) cNil))))) (cNot (cB (cCb fAll [(.e (frz (cLc [4] (cIt (cVar 0)) (gN 4) cYes (cChain dLe dLt (.v 1) (.v 4) (.v 2)))))])))) (cRet (asN (cC (.bool false)))) cNext)
    (cRet (asN (cCb fAll [(.e (frz (cLc [3] (cRng1 (cCons (cOp dSub (.e (cCb fLen [(.v 0)])) (.e (cC (.int 1)))) cNil)) (gN 3) cYes (cOp dLt (.e (cOp dIx (.v 0) (.v 3))) (.e (cOp dIx (.v 0) (.e (cOp dAdd (.v 3) (.e (cC (.int 1)))))))))))]))))
def c_is_set : CF := cFun 7 1
    (cSeq (cIfS (cOr (cNot (cB (cIsi (.v 0) "tuple"))) (cB (cOp (dEq true) (.e (cCb fLen [(.v 0)])) (.e (cC (.int 6)))))) (cRet (asN (cC (.bool false)))) cNext)
    (cSeq (cAsg (cVar 0) (gT (gCons2 (gN 1) (gCons2 (gN 2) (gCons2 (gN 3) (gCons2 (gN 4) (gCons2 (gN 5) (gCons2 (gN 6) gNil2))))))))
    (cSeq (cIfS (cOr (cNot (cB (frz (cCall c_is_integer [] (cCons (cVar 1) cNil))))) (cOr (cB (cOp dLt (.v 1) (.e (cC (.int 1))))) (cOr (cNot (cB (frz (cCall c_is_integer [] (cCons (cVar 3) cNil))))) (cOr (cNot (cB (frz (cCall c_is_integer [] (cCons (cVar 4) cNil))))) (cB (cOp dGt (.v 3) (.v 4))))))) (cRet (asN (cC (.bool false)))) cNext)
    (cRet (asN (cAndV (frz (cCall c_is_ascending [] (cCons (cVar 2) (cCons (cC (.int 0)) (cCons (cVar 1) cNil))))) (cAndV (frz (cCall c_is_ascending [] (cCons (cVar 6) (cCons (cC (.int 0)) (cCons (cVar 1) cNil))))) (frz (cCall c_is_ascending [] (cCons (cVar 5) (cCons (cVar 3) (cCons (cVar 4) cNil))))))))))))
def c_has_it : CF := cFun 8 2
    (cSeq (cAsg (cVar 0) (gT (gCons2 (gN 2) (gCons2 (gN 3) (gCons2 (gN 4) (gCons2 (gN 5) (gCons2 (gN 6) (gCons2 (gN 7) gNil2))))))))
    (cSeq (cIfS (cB (cOp dLt (.v 1) (.v 4))) (cRet (asN (cOp (dIn false) (.e (cOp dMod (.v 1) (.v 2))) (.v 3)))) cNext)
    (cRet (asN (cIf (cB (cOp dLt (.v 1) (.v 5))) (cOp (dIn false) (.v 1) (.v 6)) (cOp (dIn false) (.e (cOp dMod (.v 1) (.v 2))) (.v 7)))))))
def c_least_round : CF := cFun 5 2
    (cSeq (cSet 2 (frz (cLc [4] (cRng1 (cCons (cVar 0) cNil)) (gN 4) cYes (cOp (dIn false) (.v 4) (.v 1)))))
    (cSeq (cFor (cRng2 (cCons (cC (.int 1)) (cCons (cVar 0) cNil))) (gN 3) (cIfS (cAnd (cB (cOp (dEq false) (.e (cOp dMod (.v 0) (.v 3))) (.e (cC (.int 0))))) (cB (cCb fAll [(.e (frz (cLc [4] (cRng1 (cCons (cVar 0) cNil)) (gN 4) cYes (cOp (dEq false) (.e (cOp dIx (.v 2) (.v 4))) (.e (cOp dIx (.v 2) (.e (cOp dMod (.v 4) (.v 3)))))))))]))) (cRet (asN (cVar 3))) cNext))
    (cRet (asN (cVar 0)))))
def c_least_of : CF := cFun 18 1
    (cSeq (cAsg (cVar 0) (gT (gCons2 (gN 1) (gCons2 (gN 2) (gCons2 (gN 3) (gCons2 (gN 4) (gCons2 (gN 5) (gCons2 (gN 6) gNil2))))))))
    (cSeq (cSet 7 (cCb fLcm [(.e (frz (cCall c_least_round [] (cCons (cVar 1) (cCons (cVar 2) cNil))))), (.e (frz (cCall c_least_round [] (cCons (cVar 1) (cCons (cVar 6) cNil)))))]))
    (cSeq (cAsg (cTup (cCons (frz (cSortSc [17] (cIt (cVar 2)) (gN 17) cYes (cOp dMod (.v 17) (.v 7)))) (cCons (frz (cSortSc [17] (cIt (cVar 6)) (gN 17) cYes (cOp dMod (.v 17) (.v 7)))) cNil))) (gT (gCons2 (gN 8) (gCons2 (gN 9) gNil2))))
    (cSeq (cSetN 10 (cLc [16] (cRng2 (cCons (cVar 3) (cCons (cOp dAdd (.v 4) (.v 7)) cNil))) (gN 16) (cB (cOp (dEq true) (.e (frz (cCall c_has_it [] (cCons (cVar 0) (cCons (cVar 16) cNil))))) (.e (cOp (dIn false) (.e (cOp dMod (.v 16) (.v 7))) (.v 8))))) (cVar 16)))
    (cSeq (cSetN 11 (cLc [16] (cRng2 (cCons (cOp dSub (.v 3) (.v 7)) (cCons (cVar 4) cNil))) (gN 16) (cB (cOp (dEq true) (.e (frz (cCall c_has_it [] (cCons (cVar 0) (cCons (cVar 16) cNil))))) (.e (cOp (dIn false) (.e (cOp dMod (.v 16) (.v 7))) (.v 9))))) (cVar 16)))
    (cSeq (cIfS (cB (cOp (dEq false) (.v 10) (.e (frz (cLst cNil))))) (cRet (asN (cTup (cCons (cVar 7) (cCons (cCb fTuple [(.v 8)]) (cCons (cC (.int 0)) (cCons (cC (.int 0)) (cCons (cTup cNil) (cCons (cCb fTuple [(.v 9)]) cNil))))))))) cNext)
    (cSeq (cPar 12 13 (cCons (cOp dIx (.v 10) (.e (cC (.int 0)))) (cCons (cOp dAdd (.e (cOp dIx (.v 11) (.e (cUn dNeg (.e (cC (.int 1))))))) (.e (cC (.int 1)))) cNil)))
    (cSeq (cIfS (cB (cOp dLe (.v 13) (.v 12))) (cSeq (cSet 14 (cCb fMax2 [(.v 13), (.e (cCb fMin2 [(.v 12), (.e (cC (.int 0)))]))]))
    (cRet (asN (cTup (cCons (cVar 7) (cCons (cCb fTuple [(.v 8)]) (cCons (cVar 14) (cCons (cVar 14) (cCons (cTup cNil) (cCons (cCb fTuple [(.v 9)]) cNil)))))))))) cNext)
    (cSeq (cSet 15 (cCb fTuple [(.e (frz (cLc [16] (cRng2 (cCons (cVar 12) (cCons (cVar 13) cNil))) (gN 16) (cB (frz (cCall c_has_it [] (cCons (cVar 0) (cCons (cVar 16) cNil))))) (cVar 16))))]))
    (cRet (asN (cTup (cCons (cVar 7) (cCons (cCb fTuple [(.v 8)]) (cCons (cVar 12) (cCons (cVar 13) (cCons (cVar 15) (cCons (cCb fTuple [(.v 9)]) cNil))))))))))))))))))
def c_is_least_set : CF := cFun 1 1
    (cRet (asN (cAndV (frz (cCall c_is_set [] (cCons (cVar 0) cNil))) (cOp (dEq false) (.e (frz (cCall c_least_of [] (cCons (cVar 0) cNil)))) (.v 0)))))
def c_is_stick : CF := cFun 3 2
    (cRet (asN (cAndV (frz (cCall c_are_integers [] (cCons (cVar 1) cNil))) (cAndV (cOp (dEq false) (.e (cCb fLen [(.v 1)])) (.v 0)) (cCb fAny [(.e (frz (cLc [2] (cIt (cVar 1)) (gN 2) cYes (cOp (dEq true) (.v 2) (.e (cC (.int 0)))))))])))))
def c_is_bundle_of : CF := cFun 2 1
    (cSeq (cIfS (cOr (cNot (cB (frz (cCall c_is_pair [] (cCons (cVar 0) cNil))))) (cOr (cNot (cB (frz (cCall c_is_integer [] (cCons (cOp dIx (.v 0) (.e (cC (.int 0)))) cNil))))) (cOr (cB (cOp dLt (.e (cOp dIx (.v 0) (.e (cC (.int 0))))) (.e (cC (.int 1))))) (cNot (cB (cIsi (.e (cOp dIx (.v 0) (.e (cC (.int 1))))) "tuple")))))) (cRet (asN (cC (.bool false)))) cNext)
    (cRet (asN (cCb fAll [(.e (frz (cLc [1] (cIt (cOp dIx (.v 0) (.e (cC (.int 1))))) (gN 1) cYes (frz (cCall c_is_stick [] (cCons (cOp dIx (.v 0) (.e (cC (.int 0)))) (cCons (cVar 1) cNil)))))))]))))
def c_is_bundle : CF := cFun 1 1
    (cRet (cCall c_is_bundle_of [] (cCons (cVar 0) cNil)))
def c_is_grid : CF := cFun 2 1
    (cSeq (cIfS (cOr (cNot (cB (frz (cCall c_is_pair [] (cCons (cVar 0) cNil))))) (cOr (cNot (cB (frz (cCall c_is_integer [] (cCons (cOp dIx (.v 0) (.e (cC (.int 0)))) cNil))))) (cOr (cB (cOp dLt (.e (cOp dIx (.v 0) (.e (cC (.int 0))))) (.e (cC (.int 1))))) (cNot (cB (cIsi (.e (cOp dIx (.v 0) (.e (cC (.int 1))))) "tuple")))))) (cRet (asN (cC (.bool false)))) cNext)
    (cRet (asN (cCb fAll [(.e (frz (cLc [1] (cIt (cOp dIx (.v 0) (.e (cC (.int 1))))) (gN 1) cYes (cAndV (frz (cCall c_are_integers [] (cCons (cVar 1) cNil))) (cOp (dEq false) (.e (cCb fLen [(.v 1)])) (.e (cOp dIx (.v 0) (.e (cC (.int 0))))))))))]))))
def c__law_pot : CF := cFun 1 1
    (cRet (cCat (.e (frz (cLst (cCons (cC (.int 0)) (cCons (cC (.int 5801)) (cCons (cC (.int 3)) cNil)))))) (.e (frz (cCbN fList [(.v 0)])))))
def c__law_take : CF := cFun 5 2
    (cSeq (cIfS (cAnd (cB (cOp (dEq false) (.e (cOp dIx (.v 0) (.e (cC (.int 0))))) (.e (cC (.int 0))))) (cB (cOp dLt (.e (cOp dIx (.v 0) (.e (cC (.int 2))))) (.e (cCb fLen [(.v 0)]))))) (cSeq (cSet 2 (cOp dIx (.v 0) (.e (cOp dIx (.v 0) (.e (cC (.int 2)))))))
    (cSeq (cAugI 0 (cC (.int 2)) dAddI (cC (.int 1)))
    (cIfS (cB (cOp dGe (.v 2) (.e (cOp dPow (.e (cC (.int 10))) (.e (cC (.int 18))))))) (cPutI 0 (cC (.int 0)) (cOp dSub (.v 2) (.e (cOp dPow (.e (cC (.int 10))) (.e (cC (.int 18))))))) (cSeq (cSet 3 (cOp dMod (.e (cCb fInt [(.v 2)])) (.e (cC (.int 2147483647)))))
    (cSeq (cSet 3 (cOp dMod (.e (cCb fInt [(.e (cOp dAdd (.e (cOp dAdd (.e (cOp dMul (.v 3) (.v 3))) (.e (cOp dMul (.e (cC (.int 48271))) (.v 3))))) (.e (cOp dMul (.e (cC (.int 613))) (.e (cOp dIx (.v 0) (.e (cC (.int 2)))))))))])) (.e (cC (.int 2147483629)))))
    (cPutI 0 (cC (.int 1)) (cOp dMod (.e (cCb fInt [(.e (cOp dAdd (.e (cOp dIx (.v 0) (.e (cC (.int 1))))) (.v 3)))])) (.e (cC (.int 2147483629)))))))))) cNext)
    (cSeq (cIfS (cB (cOp dGt (.e (cOp dIx (.v 0) (.e (cC (.int 0))))) (.e (cC (.int 0))))) (cSeq (cSet 4 (cOp dMod (.e (cCb fInt [(.e (cOp dIx (.v 0) (.e (cC (.int 0)))))])) (.v 1)))
    (cSeq (cPutI 0 (cC (.int 0)) (cOp dFdiv (.e (cOp dIx (.v 0) (.e (cC (.int 0))))) (.v 1)))
    (cRet (asN (cVar 4))))) cNext)
    (cSeq (cPutI 0 (cC (.int 1)) (cOp dMod (.e (cCb fInt [(.e (cOp dAdd (.e (cOp dAdd (.e (cOp dMul (.e (cOp dIx (.v 0) (.e (cC (.int 1))))) (.e (cC (.int 69621))))) (.e (cOp dMul (.e (cC (.int 30323))) (.e (cOp dIx (.v 0) (.e (cC (.int 2))))))))) (.e (cC (.int 19)))))])) (.e (cC (.int 2147483647)))))
    (cSeq (cPutI 0 (cC (.int 1)) (cOp dMod (.e (cCb fInt [(.e (cOp dAdd (.e (cOp dMul (.e (cOp dIx (.v 0) (.e (cC (.int 1))))) (.e (cOp dIx (.v 0) (.e (cC (.int 1))))))) (.e (cC (.int 5)))))])) (.e (cC (.int 2147483629)))))
    (cRet (asN (cOp dMod (.e (cCb fInt [(.e (cOp dFdiv (.e (cOp dIx (.v 0) (.e (cC (.int 1))))) (.e (cC (.int 16)))))])) (.v 1))))))))
def cr__law_same (cr : CF) : CF := cFun 3 2
    (cSeq (cIfS (cB (cOp (dIsNone false) (.v 1) (.e (cC .none)))) (cRet (asN (cOp (dIsNone false) (.v 0) (.e (cC .none))))) cNext)
    (cSeq (cIfS (cB (cIsiT (.v 1) ["bool", "str"])) (cRet (asN (cAndV (cOp (dEq false) (.e (cIsi (.v 0) "bool")) (.e (cIsi (.v 1) "bool"))) (cAndV (cIsiT (.v 0) ["bool", "str"]) (cOp (dEq false) (.v 0) (.v 1)))))) cNext)
    (cSeq (cIfS (cB (cIsi (.v 1) "int")) (cRet (asN (cAndV (cIsi (.v 0) "int") (cAndV (cNotV (cIsi (.v 0) "bool")) (cOp (dEq false) (.v 0) (.v 1)))))) cNext)
    (cSeq (cIfS (cOr (cB (cOp (dEq true) (.e (cIsi (.v 1) "list")) (.e (cIsi (.v 0) "list")))) (cB (cOp (dEq true) (.e (cIsi (.v 1) "tuple")) (.e (cIsi (.v 0) "tuple"))))) (cRet (asN (cC (.bool false)))) cNext)
    (cRet (asN (cAndV (cOp (dEq false) (.e (cCb fLen [(.v 0)])) (.e (cCb fLen [(.v 1)]))) (cCb fAll [(.e (frz (cLc [2] (cRng1 (cCons (cCb fLen [(.v 1)]) cNil)) (gN 2) cYes (frz (cCall cr [] (cCons (cOp dIx (.v 0) (.v 2)) (cCons (cOp dIx (.v 1) (.v 2)) cNil)))))))]))))))))
def ci__law_same : Nat → CF
  | 0 => fun _ => none
  | n + 1 => cr__law_same (ci__law_same n)
def c__law_same : CF := ci__law_same 60
def c__law_has : CF := cFun 8 2
    (cSeq (cAsg (cVar 0) (gT (gCons2 (gN 2) (gCons2 (gN 3) (gCons2 (gN 4) (gCons2 (gN 5) (gCons2 (gN 6) (gCons2 (gN 7) gNil2))))))))
    (cSeq (cIfS (cB (cChain dLe dLt (.v 4) (.v 1) (.v 5))) (cRet (asN (cOp (dIn false) (.v 1) (.v 6)))) cNext)
    (cRet (asN (cOp (dIn false) (.e (cOp dMod (.e (cCb fInt [(.v 1)])) (.v 2))) (.e (cIf (cB (cOp dLt (.v 1) (.v 4))) (cVar 3) (cVar 7))))))))
def c__law_goes : CF := cFun 4 3
    (cRet (asN (cCb fAll [(.e (frz (cLc [3] (cRng1 (cCons (cVar 1) cNil)) (gN 3) cYes (cOp (dEq false) (.e (cOp (dIn false) (.v 3) (.v 0))) (.e (cOp (dIn false) (.e (cOp dMod (.e (cCb fInt [(.e (cOp dAdd (.v 3) (.v 2)))])) (.v 1))) (.v 0)))))))])))
def c__law_least : CF := cFun 19 1
    (cSeq (cAsg (cVar 0) (gT (gCons2 (gN 1) (gCons2 (gN 2) (gCons2 (gN 3) (gCons2 (gN 4) (gCons2 (gN 5) (gCons2 (gN 6) gNil2))))))))
    (cSeq (cSetN 7 (cLc [9] (cRng2 (cCons (cC (.int 1)) (cCons (cOp dAdd (.v 1) (.e (cC (.int 1)))) cNil))) (gN 9) (cB (cOp (dEq false) (.e (cOp dMod (.e (cCb fInt [(.v 1)])) (.v 9))) (.e (cC (.int 0))))) (cVar 9)))
    (cSeq (cSetN 8 (cLc [9] (cIt (cVar 7)) (gN 9) (cAnd (cB (frz (cCall c__law_goes [] (cCons (cVar 2) (cCons (cVar 1) (cCons (cVar 9) cNil)))))) (cB (frz (cCall c__law_goes [] (cCons (cVar 6) (cCons (cVar 1) (cCons (cVar 9) cNil))))))) (cVar 9)))
    (cSeq (cSet 9 (cOp dIx (.v 8) (.e (cC (.int 0)))))
    (cSeq (cAsg (cTup (cCons (cCb fTuple [(.e (frz (cSortSet (frz (cLc [18] (cIt (cVar 2)) (gN 18) cYes (cOp dMod (.e (cCb fInt [(.v 18)])) (.v 9)))))))]) (cCons (cCb fTuple [(.e (frz (cSortSet (frz (cLc [18] (cIt (cVar 6)) (gN 18) cYes (cOp dMod (.e (cCb fInt [(.v 18)])) (.v 9)))))))]) cNil))) (gT (gCons2 (gN 10) (gCons2 (gN 11) gNil2))))
    (cSeq (cSetN 12 (cLc [17] (cRng2 (cCons (cVar 3) (cCons (cOp dAdd (.v 4) (.v 9)) cNil))) (gN 17) (cB (cOp (dEq true) (.e (frz (cCall c__law_has [] (cCons (cVar 0) (cCons (cVar 17) cNil))))) (.e (cOp (dIn false) (.e (cOp dMod (.e (cCb fInt [(.v 17)])) (.v 9))) (.v 10))))) (cVar 17)))
    (cSeq (cIfS (cB (cOp (dEq false) (.v 12) (.e (frz (cLst cNil))))) (cRet (asN (cTup (cCons (cVar 9) (cCons (cVar 10) (cCons (cC (.int 0)) (cCons (cC (.int 0)) (cCons (cTup cNil) (cCons (cVar 10) cNil))))))))) cNext)
    (cSeq (cSetN 13 (cLc [17] (cRng2 (cCons (cOp dSub (.v 3) (.v 9)) (cCons (cVar 4) cNil))) (gN 17) (cB (cOp (dEq true) (.e (frz (cCall c__law_has [] (cCons (cVar 0) (cCons (cVar 17) cNil))))) (.e (cOp (dIn false) (.e (cOp dMod (.e (cCb fInt [(.v 17)])) (.v 9))) (.v 11))))) (cVar 17)))
    (cSeq (cPar 14 15 (cCons (cOp dIx (.v 12) (.e (cC (.int 0)))) (cCons (cOp dAdd (.e (cOp dIx (.v 13) (.e (cUn dNeg (.e (cC (.int 1))))))) (.e (cC (.int 1)))) cNil)))
    (cSeq (cIfS (cB (cOp dGe (.v 14) (.v 15))) (cSeq (cSet 16 (cIf (cB (cChain dLe dLe (.v 15) (.e (cC (.int 0))) (.v 14))) (cC (.int 0)) (cIf (cB (cOp dGt (.v 15) (.e (cC (.int 0))))) (cVar 15) (cVar 14))))
    (cRet (asN (cTup (cCons (cVar 9) (cCons (cVar 10) (cCons (cVar 16) (cCons (cVar 16) (cCons (cTup cNil) (cCons (cVar 11) cNil)))))))))) cNext)
    (cRet (asN (cTup (cCons (cVar 9) (cCons (cVar 10) (cCons (cVar 14) (cCons (cVar 15) (cCons (cCb fTuple [(.e (frz (cLc [17] (cRng2 (cCons (cVar 14) (cCons (cVar 15) cNil))) (gN 17) (cB (frz (cCall c__law_has [] (cCons (cVar 0) (cCons (cVar 17) cNil))))) (cVar 17))))]) (cCons (cVar 11) cNil)))))))))))))))))))
def c__law_small_set : CF := cFun 8 1
    (cSeq (cPar 1 2 (cCons (cOp dIx (.e (frz (cLst (cCons (cC (.int 1)) (cCons (cC (.int 2)) (cCons (cC (.int 3)) (cCons (cC (.int 4)) (cCons (cC (.int 6)) cNil)))))))) (.e (frz (cCall c__law_take [0] (cCons (cC (.int 5)) cNil))))) (cCons (cOp dSub (.e (frz (cCall c__law_take [0] (cCons (cC (.int 13)) cNil)))) (.e (cC (.int 8)))) cNil)))
    (cSeq (cSet 3 (cOp dAdd (.v 2) (.e (frz (cCall c__law_take [0] (cCons (cC (.int 8)) cNil))))))
    (cSeq (cSetN 4 (cLc [5, 6] (cIt (cTup (cCons (cTup (cCons (cC (.int 0)) (cCons (cVar 1) cNil))) (cCons (cTup (cCons (cVar 2) (cCons (cVar 3) cNil))) (cCons (cTup (cCons (cC (.int 0)) (cCons (cVar 1) cNil))) cNil))))) (gT (gCons2 (gN 5) (gCons2 (gN 6) gNil2))) cYes (cCb fTuple [(.e (frz (cLc [7] (cRng2 (cCons (cVar 5) (cCons (cVar 6) cNil))) (gN 7) (cB (cOp (dEq false) (.e (frz (cCall c__law_take [0] (cCons (cC (.int 2)) cNil)))) (.e (cC (.int 0))))) (cVar 7))))])))
    (cRet (asN (cTup (cCons (cVar 1) (cCons (cOp dIx (.v 4) (.e (cC (.int 0)))) (cCons (cVar 2) (cCons (cVar 3) (cCons (cOp dIx (.v 4) (.e (cC (.int 1)))) (cCons (cOp dIx (.v 4) (.e (cC (.int 2)))) cNil))))))))))))
def cr__law_mutant (cr : CF) : CF := cFun 6 3
    (cSeq (cSet 3 (cOp dIx (.e (frz (cLst (cCons (cC .none) (cCons (cC (.bool true)) (cCons (cC (.bool false)) (cCons (cC (.str "1")) (cCons (cUn dNeg (.e (cC (.int 1)))) (cCons (cC (.int 0)) (cCons (cC (.int 1)) (cCons (cC (.int 2)) (cCons (cC (.int 9)) (cCons (cTup cNil) (cCons (cTup (cCons (cC (.int 1)) cNil)) (cCons (frz (cLst (cCons (cC (.int 1)) cNil))) (cCons (cTup (cCons (cC (.int 1)) (cCons (cC (.int 2)) cNil))) (cCons (cTup (cCons (cC (.int 2)) (cCons (cC (.int 4)) cNil))) (cCons (cC (.str "less")) cNil)))))))))))))))))) (.e (frz (cCall c__law_take [0] (cCons (cC (.int 15)) cNil))))))
    (cSeq (cIfS (cOr (cNot (cB (cIsi (.v 1) "tuple"))) (cOr (cB (cOp (dEq false) (.v 1) (.e (cTup cNil)))) (cOr (cB (cOp (dEq false) (.v 2) (.e (cC (.int 0))))) (cB (cOp (dEq false) (.e (frz (cCall c__law_take [0] (cCons (cC (.int 8)) cNil)))) (.e (cC (.int 0)))))))) (cRet (asN (cVar 3))) cNext)
    (cSeq (cPar 4 5 (cCons (frz (cCall c__law_take [0] (cCons (cCb fLen [(.v 1)]) cNil))) (cCons (frz (cCall c__law_take [0] (cCons (cC (.int 12)) cNil))) cNil)))
    (cSeq (cIfS (cB (cOp dLt (.v 5) (.e (cC (.int 7))))) (cRet (asN (cOp dAdd (.e (cOp dAdd (.e (cSlT (.v 1) cNoI (cSomeI (cVar 4)))) (.e (cTup (cCons (frz (cCall cr [0] (cCons (cOp dIx (.v 1) (.v 4)) (cCons (cOp dSub (.v 2) (.e (cC (.int 1)))) cNil)))) cNil))))) (.e (cSlT (.v 1) (cSomeI (cOp dAdd (.v 4) (.e (cC (.int 1))))) cNoI))))) cNext)
    (cSeq (cIfS (cB (cOp (dEq false) (.v 5) (.e (cC (.int 7))))) (cRet (cCbN fList [(.v 1)])) cNext)
    (cSeq (cIfS (cB (cOp (dEq false) (.v 5) (.e (cC (.int 8))))) (cRet (asN (cOp dAdd (.v 1) (.e (cTup (cCons (cVar 3) cNil)))))) cNext)
    (cSeq (cIfS (cB (cOp (dEq false) (.v 5) (.e (cC (.int 9))))) (cRet (asN (cOp dAdd (.e (cSlT (.v 1) cNoI (cSomeI (cVar 4)))) (.e (cSlT (.v 1) (cSomeI (cOp dAdd (.v 4) (.e (cC (.int 1))))) cNoI))))) cNext)
    (cSeq (cIfS (cB (cOp (dEq false) (.v 5) (.e (cC (.int 10))))) (cRet (asN (cRevT (.v 1)))) cNext)
    (cRet (asN (cOp dAdd (.v 1) (.e (cSlT (.v 1) (cSomeI (cVar 4)) (cSomeI (cOp dAdd (.v 4) (.e (cC (.int 1))))))))))))))))))
def ci__law_mutant : Nat → CF
  | 0 => fun _ => none
  | n + 1 => cr__law_mutant (ci__law_mutant n)
def c__law_mutant : CF := ci__law_mutant 60
def c__law_integer : CF := cFun 1 1
    (cRet (asN (cAndV (cIsi (.v 0) "int") (cNotV (cIsi (.v 0) "bool")))))
def c__law_row_of_integers : CF := cFun 3 2
    (cRet (asN (cAndV (cIsi (.v 0) "tuple") (cAndV (cOp (dEq false) (.e (cCb fLen [(.v 0)])) (.v 1)) (cCb fAll [(.e (frz (cLc [2] (cIt (cVar 0)) (gN 2) cYes (frz (cCall c__law_integer [] (cCons (cVar 2) cNil))))))])))))
def c__law_headed : CF := cFun 1 1
    (cRet (asN (cAndV (cIsi (.v 0) "tuple") (cAndV (cOp (dEq false) (.e (cCb fLen [(.v 0)])) (.e (cC (.int 2)))) (cAndV (frz (cCall c__law_integer [] (cCons (cOp dIx (.v 0) (.e (cC (.int 0)))) cNil))) (cAndV (cOp dGt (.e (cOp dIx (.v 0) (.e (cC (.int 0))))) (.e (cC (.int 0)))) (cIsi (.e (cOp dIx (.v 0) (.e (cC (.int 1))))) "tuple")))))))
def c__law_is_grid : CF := cFun 2 1
    (cRet (asN (cAndV (frz (cCall c__law_headed [] (cCons (cVar 0) cNil))) (cNotV (cCb fAny [(.e (frz (cLc [1] (cIt (cOp dIx (.v 0) (.e (cC (.int 1))))) (gN 1) cYes (cNotV (frz (cCall c__law_row_of_integers [] (cCons (cVar 1) (cCons (cOp dIx (.v 0) (.e (cC (.int 0)))) cNil))))))))])))))
def c__law_is_bundle : CF := cFun 3 1
    (cRet (asN (cAndV (frz (cCall c__law_is_grid [] (cCons (cVar 0) cNil))) (cNotV (cCb fAny [(.e (frz (cLc [1] (cIt (cOp dIx (.v 0) (.e (cC (.int 1))))) (gN 1) cYes (cNotV (cCb fAny [(.e (frz (cLc [2] (cIt (cVar 1)) (gN 2) cYes (cOp (dEq true) (.v 2) (.e (cC (.int 0)))))))])))))])))))
def c__law_ascends : CF := cFun 5 3
    (cSeq (cIfS (cOr (cNot (cB (cIsi (.v 0) "tuple"))) (cNot (cB (cCb fAll [(.e (frz (cLc [4] (cIt (cVar 0)) (gN 4) cYes (cAndV (frz (cCall c__law_integer [] (cCons (cVar 4) cNil))) (cChain dLe dLt (.v 1) (.v 4) (.v 2))))))])))) (cRet (asN (cC (.bool false)))) cNext)
    (cRet (asN (cCb fAll [(.e (frz (cLc [3] (cRng1 (cCons (cOp dSub (.e (cCb fLen [(.v 0)])) (.e (cC (.int 1)))) cNil)) (gN 3) cYes (cOp dLt (.e (cOp dIx (.v 0) (.v 3))) (.e (cOp dIx (.v 0) (.e (cOp dAdd (.v 3) (.e (cC (.int 1)))))))))))]))))
def c__law_is_set : CF := cFun 8 1
    (cSeq (cIfS (cOr (cNot (cB (cIsi (.v 0) "tuple"))) (cOr (cB (cOp (dEq true) (.e (cCb fLen [(.v 0)])) (.e (cC (.int 6))))) (cNot (cB (cCb fAll [(.e (frz (cLc [7] (cIt (cTup (cCons (cC (.int 0)) (cCons (cC (.int 2)) (cCons (cC (.int 3)) cNil))))) (gN 7) cYes (frz (cCall c__law_integer [] (cCons (cOp dIx (.v 0) (.v 7)) cNil))))))]))))) (cRet (asN (cC (.bool false)))) cNext)
    (cSeq (cAsg (cVar 0) (gT (gCons2 (gN 1) (gCons2 (gN 2) (gCons2 (gN 3) (gCons2 (gN 4) (gCons2 (gN 5) (gCons2 (gN 6) gNil2))))))))
    (cSeq (cIfS (cOr (cB (cOp dLt (.v 1) (.e (cC (.int 1))))) (cB (cOp dGt (.v 3) (.v 4)))) (cRet (asN (cC (.bool false)))) cNext)
    (cRet (asN (cAndV (frz (cCall c__law_ascends [] (cCons (cVar 2) (cCons (cC (.int 0)) (cCons (cVar 1) cNil))))) (cAndV (frz (cCall c__law_ascends [] (cCons (cVar 6) (cCons (cC (.int 0)) (cCons (cVar 1) cNil))))) (frz (cCall c__law_ascends [] (cCons (cVar 5) (cCons (cVar 3) (cCons (cVar 4) cNil))))))))))))
def c__law_near : CF := cFun 3 2
    (cSeq (cFor (cRng1 (cCons (frz (cCall c__law_take [0] (cCons (cC (.int 4)) cNil))) cNil)) (gN 2) (cSet 1 (frz (cCall c__law_mutant [0] (cCons (cVar 1) (cCons (cC (.int 3)) cNil))))))
    (cRet (asN (cVar 1))))
def c__law_pairs : CF := cFun 5 2
    (cSeq (cSet 2 (frz (cLst cNil)))
    (cSeq (cFor (cRng1 (cCons (cVar 1) cNil)) (gN 3) (cSet 2 (cOp dAdd (.v 2) (.e (frz (cLc [4] (cIt (cVar 0)) (gN 4) cYes (cTup (cCons (cVar 4) (cCons (cVar 3) cNil)))))))))
    (cRet (asN (cVar 2)))))
def c__law_wider : CF := cFun 16 2
    (cSeq (cAsg (cVar 1) (gT (gCons2 (gN 2) (gCons2 (gN 3) (gCons2 (gN 4) (gCons2 (gN 5) (gCons2 (gN 6) (gCons2 (gN 7) gNil2))))))))
    (cSeq (cAsg (cTup (cCons (cOp dAdd (.e (cC (.int 1))) (.e (frz (cCall c__law_take [0] (cCons (cC (.int 2)) cNil))))) (cCons (frz (cCall c__law_take [0] (cCons (cC (.int 3)) cNil))) (cCons (frz (cCall c__law_take [0] (cCons (cC (.int 3)) cNil))) cNil)))) (gT (gCons2 (gN 8) (gCons2 (gN 9) (gCons2 (gN 10) gNil2)))))
    (cSeq (cSetN 11 (cLc [12] (cIt (cTup (cCons (cVar 3) (cCons (cVar 7) cNil)))) (gN 12) cYes (cCb fTuple [(.e (frz (cCbN fSorted [(.e (frz (cLc [14, 15] (cIt (frz (cCall c__law_pairs [] (cCons (cVar 12) (cCons (cVar 8) cNil))))) (gT (gCons2 (gN 14) (gCons2 (gN 15) gNil2))) cYes (cOp dAdd (.v 14) (.e (cOp dMul (.v 2) (.v 15)))))))])))])))
    (cRet (asN (cTup (cCons (cOp dMul (.v 2) (.v 8)) (cCons (cOp dIx (.v 11) (.e (cC (.int 0)))) (cCons (cOp dSub (.v 4) (.v 9)) (cCons (cOp dAdd (.v 5) (.v 10)) (cCons (cCb fTuple [(.e (frz (cLc [13] (cRng2 (cCons (cOp dSub (.v 4) (.v 9)) (cCons (cOp dAdd (.v 5) (.v 10)) cNil))) (gN 13) (cB (frz (cCall c__law_has [] (cCons (cVar 1) (cCons (cVar 13) cNil))))) (cVar 13))))]) (cCons (cOp dIx (.v 11) (.e (cC (.int 1)))) cNil))))))))))))
def c_law : CF := cFun 15 1
    (cSeq (cSetN 1 (cCall c__law_pot [] (cCons (cVar 0) cNil)))
    (cSeq (cFor (cRng1 (cCons (cC (.int 12)) cNil)) (gN 2) (cSeq (cSet 3 (cOp dAdd (.e (cC (.int 1))) (.e (frz (cCall c__law_take [1] (cCons (cC (.int 3)) cNil))))))
    (cSeq (cSet 4 (cCb fTuple [(.e (frz (cLc [12] (cRng1 (cCons (frz (cCall c__law_take [1] (cCons (cC (.int 4)) cNil))) cNil)) (gN 12) cYes (cCb fTuple [(.e (frz (cLc [13] (cRng1 (cCons (cVar 3) cNil)) (gN 13) cYes (cOp dSub (.e (frz (cCall c__law_take [1] (cCons (cC (.int 5)) cNil)))) (.e (cC (.int 2)))))))]))))]))
    (cSeq (cSet 5 (cTup (cCons (cVar 3) (cCons (cCb fTuple [(.e (frz (cLc [12] (cIt (cVar 4)) (gN 12) (cB (cCb fAny [(.e (frz (cLc [14] (cIt (cVar 12)) (gN 14) cYes (cOp (dEq true) (.v 14) (.e (cC (.int 0)))))))])) (cVar 12))))]) cNil))))
    (cSeq (cAsg (cTup (cCons (frz (cCall c__law_small_set [1] cNil)) (cCons (frz (cCall c__law_least [] (cCons (frz (cCall c__law_small_set [1] cNil)) cNil))) cNil))) (gT (gCons2 (gN 6) (gCons2 (gN 7) gNil2))))
    (cSeq (cSet 8 (frz (cCall c__law_wider [1] (cCons (cVar 7) cNil))))
    (cSeq (cIfS (cNot (cB (frz (cCall c__law_same [] (cCons (frz (cLst (cCons (frz (cCall c_is_bundle [] (cCons (cVar 5) cNil))) (cCons (frz (cCall c_is_grid [] (cCons (cTup (cCons (cVar 3) (cCons (cVar 4) cNil))) cNil))) (cCons (frz (cCall c_is_set [] (cCons (cVar 6) cNil))) (cCons (frz (cCallK c_is_least_set 0 1 [0] cNil (cCons (cVar 7) cNil))) (cCons (frz (cCall c_is_set [] (cCons (cVar 8) cNil))) cNil))))))) (cCons (frz (cRep (cCons (cC (.bool true)) cNil) (cC (.int 5)))) cNil)))))) (cRet (asN (cC (.bool false)))) cNext)
    (cSeq (cIfS (cNot (cB (frz (cCall c__law_same [] (cCons (frz (cLst (cCons (frz (cCall c_is_least_set [] (cCons (cVar 6) cNil))) (cCons (frz (cCall c_is_least_set [] (cCons (cVar 8) cNil))) cNil)))) (cCons (frz (cLst (cCons (cOp (dEq false) (.e (frz (cCall c__law_least [] (cCons (cVar 6) cNil)))) (.v 6)) (cCons (cOp (dEq false) (.v 8) (.v 7)) cNil)))) cNil)))))) (cRet (asN (cC (.bool false)))) cNext)
    (cFor (cIt (frz (cLc [11] (cIt (cTup (cCons (cC (.int 0)) (cCons (cC (.int 1)) (cCons (cC (.int 2)) (cCons (cC (.int 2)) (cCons (cC (.int 3)) cNil))))))) (gN 11) cYes (frz (cCall c__law_near [1] (cCons (cOp dIx (.e (frz (cLst (cCons (cVar 5) (cCons (cTup (cCons (cVar 3) (cCons (cVar 4) cNil))) (cCons (cVar 6) (cCons (cVar 7) cNil))))))) (.v 11)) cNil)))))) (gN 9) (cSeq (cSet 10 (frz (cLst (cCons (frz (cCall c__law_is_bundle [] (cCons (cVar 9) cNil))) (cCons (frz (cCall c__law_is_grid [] (cCons (cVar 9) cNil))) (cCons (frz (cCall c__law_is_set [] (cCons (cVar 9) cNil))) cNil))))))
    (cSeq (cIfS (cNot (cB (frz (cCall c__law_same [] (cCons (frz (cLst (cCons (frz (cCall c_is_bundle [] (cCons (cVar 9) cNil))) (cCons (frz (cCallK c_is_grid 0 1 [0] cNil (cCons (cVar 9) cNil))) (cCons (frz (cCall c_is_set [] (cCons (cVar 9) cNil))) cNil))))) (cCons (cVar 10) cNil)))))) (cRet (asN (cC (.bool false)))) cNext)
    (cIfS (cNot (cB (frz (cCall c__law_same [] (cCons (frz (cCallK c_is_least_set 0 1 [0] cNil (cCons (cVar 9) cNil))) (cCons (cAndV (cOp dIx (.v 10) (.e (cC (.int 2)))) (cOp (dEq false) (.e (frz (cCall c__law_least [] (cCons (cVar 9) cNil)))) (.v 9))) cNil)))))) (cRet (asN (cC (.bool false)))) cNext))))))))))))
    (cRet (asN (cC (.bool true))))))
end W82

namespace W82
open PySem PySem.Spec PyProof.Rows L2 Pu
structure Txt (w : World) (K : Fr) (mg : Str → Option Value) where
  z_all : mg "all" = none
  z_any : mg "any" = none
  z_bool : mg "bool" = none
  z_int : mg "int" = none
  z_isinstance : mg "isinstance" = none
  z_len : mg "len" = none
  z_list : mg "list" = none
  z_max : mg "max" = none
  z_min : mg "min" = none
  z_range : mg "range" = none
  z_set : mg "set" = none
  z_sorted : mg "sorted" = none
  z_str : mg "str" = none
  z_tuple : mg "tuple" = none
  i_lcm : mg "lcm" = some (.builtin "math.lcm")
  a_is_integer : Addr
  f_is_integer : FuncData
  t_is_integer : Fun K "is_integer" "is_integer" s_is_integer a_is_integer f_is_integer
  b_is_integer : Binds K f_is_integer ["value"] []
  a_is_pair : Addr
  f_is_pair : FuncData
  t_is_pair : Fun K "is_pair" "is_pair" s_is_pair a_is_pair f_is_pair
  b_is_pair : Binds K f_is_pair ["value"] []
  a_are_integers : Addr
  f_are_integers : FuncData
  t_are_integers : Fun K "are_integers" "are_integers" s_are_integers a_are_integers f_are_integers
  b_are_integers : Binds K f_are_integers ["value"] []
  a_is_ascending : Addr
  f_is_ascending : FuncData
  t_is_ascending : Fun K "is_ascending" "is_ascending" s_is_ascending a_is_ascending f_is_ascending
  b_is_ascending : Binds K f_is_ascending ["told", "low", "high"] []
  a_is_set : Addr
  f_is_set : FuncData
  t_is_set : Fun K "is_set" "is_set" s_is_set a_is_set f_is_set
  b_is_set : Binds K f_is_set ["told"] []
  a_has_it : Addr
  f_has_it : FuncData
  t_has_it : Fun K "has_it" "has_it" s_has_it a_has_it f_has_it
  b_has_it : Binds K f_has_it ["some", "n"] []
  a_least_round : Addr
  f_least_round : FuncData
  t_least_round : Fun K "least_round" "least_round" s_least_round a_least_round f_least_round
  b_least_round : Binds K f_least_round ["m", "rest"] []
  a_least_of : Addr
  f_least_of : FuncData
  t_least_of : Fun K "least_of" "least_of" s_least_of a_least_of f_least_of
  b_least_of : Binds K f_least_of ["some"] []
  a_is_least_set : Addr
  f_is_least_set : FuncData
  t_is_least_set : Fun K "is_least_set" "is_least_set" s_is_least_set a_is_least_set f_is_least_set
  b_is_least_set : Binds K f_is_least_set ["told"] []
  a_is_stick : Addr
  f_is_stick : FuncData
  t_is_stick : Fun K "is_stick" "is_stick" s_is_stick a_is_stick f_is_stick
  b_is_stick : Binds K f_is_stick ["d", "told"] []
  a_is_bundle_of : Addr
  f_is_bundle_of : FuncData
  t_is_bundle_of : Fun K "is_bundle_of" "is_bundle_of" s_is_bundle_of a_is_bundle_of f_is_bundle_of
  b_is_bundle_of : Binds K f_is_bundle_of ["told"] []
  a_is_bundle : Addr
  f_is_bundle : FuncData
  t_is_bundle : Fun K "is_bundle" "is_bundle" s_is_bundle a_is_bundle f_is_bundle
  b_is_bundle : Binds K f_is_bundle ["told"] []
  a_is_grid : Addr
  f_is_grid : FuncData
  t_is_grid : Fun K "is_grid" "is_grid" s_is_grid a_is_grid f_is_grid
  b_is_grid : Binds K f_is_grid ["told"] []
  a__law_pot : Addr
  f__law_pot : FuncData
  t__law_pot : Fun K "_law_pot" "_law_pot" s__law_pot a__law_pot f__law_pot
  b__law_pot : Binds K f__law_pot ["script"] []
  a__law_take : Addr
  f__law_take : FuncData
  t__law_take : Fun K "_law_take" "_law_take" s__law_take a__law_take f__law_take
  b__law_take : Binds K f__law_take ["pot", "many"] []
  a__law_same : Addr
  f__law_same : FuncData
  t__law_same : Fun K "_law_same" "_law_same" s__law_same a__law_same f__law_same
  b__law_same : Binds K f__law_same ["got", "due"] []
  a__law_has : Addr
  f__law_has : FuncData
  t__law_has : Fun K "_law_has" "_law_has" s__law_has a__law_has f__law_has
  b__law_has : Binds K f__law_has ["some", "n"] []
  a__law_goes : Addr
  f__law_goes : FuncData
  t__law_goes : Fun K "_law_goes" "_law_goes" s__law_goes a__law_goes f__law_goes
  b__law_goes : Binds K f__law_goes ["part", "m", "by"] []
  a__law_least : Addr
  f__law_least : FuncData
  t__law_least : Fun K "_law_least" "_law_least" s__law_least a__law_least f__law_least
  b__law_least : Binds K f__law_least ["some"] []
  a__law_small_set : Addr
  f__law_small_set : FuncData
  t__law_small_set : Fun K "_law_small_set" "_law_small_set" s__law_small_set a__law_small_set f__law_small_set
  b__law_small_set : Binds K f__law_small_set ["pot"] []
  a__law_mutant : Addr
  f__law_mutant : FuncData
  t__law_mutant : Fun K "_law_mutant" "_law_mutant" s__law_mutant a__law_mutant f__law_mutant
  b__law_mutant : Binds K f__law_mutant ["pot", "value", "deep"] []
  a__law_integer : Addr
  f__law_integer : FuncData
  t__law_integer : Fun K "_law_integer" "_law_integer" s__law_integer a__law_integer f__law_integer
  b__law_integer : Binds K f__law_integer ["told"] []
  a__law_row_of_integers : Addr
  f__law_row_of_integers : FuncData
  t__law_row_of_integers : Fun K "_law_row_of_integers" "_law_row_of_integers" s__law_row_of_integers a__law_row_of_integers f__law_row_of_integers
  b__law_row_of_integers : Binds K f__law_row_of_integers ["told", "many"] []
  a__law_headed : Addr
  f__law_headed : FuncData
  t__law_headed : Fun K "_law_headed" "_law_headed" s__law_headed a__law_headed f__law_headed
  b__law_headed : Binds K f__law_headed ["told"] []
  a__law_is_grid : Addr
  f__law_is_grid : FuncData
  t__law_is_grid : Fun K "_law_is_grid" "_law_is_grid" s__law_is_grid a__law_is_grid f__law_is_grid
  b__law_is_grid : Binds K f__law_is_grid ["told"] []
  a__law_is_bundle : Addr
  f__law_is_bundle : FuncData
  t__law_is_bundle : Fun K "_law_is_bundle" "_law_is_bundle" s__law_is_bundle a__law_is_bundle f__law_is_bundle
  b__law_is_bundle : Binds K f__law_is_bundle ["told"] []
  a__law_ascends : Addr
  f__law_ascends : FuncData
  t__law_ascends : Fun K "_law_ascends" "_law_ascends" s__law_ascends a__law_ascends f__law_ascends
  b__law_ascends : Binds K f__law_ascends ["told", "low", "high"] []
  a__law_is_set : Addr
  f__law_is_set : FuncData
  t__law_is_set : Fun K "_law_is_set" "_law_is_set" s__law_is_set a__law_is_set f__law_is_set
  b__law_is_set : Binds K f__law_is_set ["told"] []
  a__law_near : Addr
  f__law_near : FuncData
  t__law_near : Fun K "_law_near" "_law_near" s__law_near a__law_near f__law_near
  b__law_near : Binds K f__law_near ["pot", "value"] []
  a__law_pairs : Addr
  f__law_pairs : FuncData
  t__law_pairs : Fun K "_law_pairs" "_law_pairs" s__law_pairs a__law_pairs f__law_pairs
  b__law_pairs : Binds K f__law_pairs ["part", "by"] []
  a__law_wider : Addr
  f__law_wider : FuncData
  t__law_wider : Fun K "_law_wider" "_law_wider" s__law_wider a__law_wider f__law_wider
  b__law_wider : Binds K f__law_wider ["pot", "some"] []
  a_law : Addr
  f_law : FuncData
  t_law : Fun K "law" "law" s_law a_law f_law
  b_law : Binds K f_law ["script"] []
  g__law_ascends : mg "_law_ascends" = some (.ref a__law_ascends)
  g__law_goes : mg "_law_goes" = some (.ref a__law_goes)
  g__law_has : mg "_law_has" = some (.ref a__law_has)
  g__law_headed : mg "_law_headed" = some (.ref a__law_headed)
  g__law_integer : mg "_law_integer" = some (.ref a__law_integer)
  g__law_is_bundle : mg "_law_is_bundle" = some (.ref a__law_is_bundle)
  g__law_is_grid : mg "_law_is_grid" = some (.ref a__law_is_grid)
  g__law_is_set : mg "_law_is_set" = some (.ref a__law_is_set)
  g__law_least : mg "_law_least" = some (.ref a__law_least)
  g__law_mutant : mg "_law_mutant" = some (.ref a__law_mutant)
  g__law_near : mg "_law_near" = some (.ref a__law_near)
  g__law_pairs : mg "_law_pairs" = some (.ref a__law_pairs)
  g__law_pot : mg "_law_pot" = some (.ref a__law_pot)
  g__law_row_of_integers : mg "_law_row_of_integers" = some (.ref a__law_row_of_integers)
  g__law_same : mg "_law_same" = some (.ref a__law_same)
  g__law_small_set : mg "_law_small_set" = some (.ref a__law_small_set)
  g__law_take : mg "_law_take" = some (.ref a__law_take)
  g__law_wider : mg "_law_wider" = some (.ref a__law_wider)
  g_are_integers : mg "are_integers" = some (.ref a_are_integers)
  g_has_it : mg "has_it" = some (.ref a_has_it)
  g_is_ascending : mg "is_ascending" = some (.ref a_is_ascending)
  g_is_bundle : mg "is_bundle" = some (.ref a_is_bundle)
  g_is_bundle_of : mg "is_bundle_of" = some (.ref a_is_bundle_of)
  g_is_grid : mg "is_grid" = some (.ref a_is_grid)
  g_is_integer : mg "is_integer" = some (.ref a_is_integer)
  g_is_least_set : mg "is_least_set" = some (.ref a_is_least_set)
  g_is_pair : mg "is_pair" = some (.ref a_is_pair)
  g_is_set : mg "is_set" = some (.ref a_is_set)
  g_is_stick : mg "is_stick" = some (.ref a_is_stick)
  g_least_of : mg "least_of" = some (.ref a_least_of)
  g_least_round : mg "least_round" = some (.ref a_least_round)
  kb_is_grid_told_0 : KBinds K f_is_grid ["told"] ["told"] (perm 0 1 [0]) (perm 0 1 [0])
  kb_is_least_set_told_0 : KBinds K f_is_least_set ["told"] ["told"] (perm 0 1 [0]) (perm 0 1 [0])
section
variable {P : Program} {w : World} {K : Fr} {mg : Str → Option Value} {base : Heap}
theorem ok_is_integer (T : Txt w K mg) : FnOk P w K mg base CX0 1 T.a_is_integer T.f_is_integer ["value"] (spP K c_is_integer) := ok_fun T.t_is_integer sc_is_integer (by decide) fun cdv A outer s H E hr =>
    (b_one (s_ret (n_e (e_and (e_isi rfl T.z_isinstance (o_v (pv 0)) (pe_ty rfl T.z_int (by decide +kernel))) (e_one (e_not (e_isi rfl T.z_isinstance (o_v (pv 0)) (pe_ty rfl T.z_bool (by decide +kernel)))))))))
theorem ok_is_pair (T : Txt w K mg) : FnOk P w K mg base CX0 1 T.a_is_pair T.f_is_pair ["value"] (spP K c_is_pair) := ok_fun T.t_is_pair sc_is_pair (by decide) fun cdv A outer s H E hr =>
    (b_one (s_ret (n_e (e_and (e_isi rfl T.z_isinstance (o_v (pv 0)) (pe_ty rfl T.z_tuple (by decide +kernel))) (e_one (e_cmp (od_eq hr.units) (o_e (e_cb cd_len rfl T.z_len (by decide +kernel) (os_cons (o_v (pv 0)) os_nil))) (o_e e_int) (nomark _)))))))
theorem ok_are_integers (T : Txt w K mg) : FnOk P w K mg base CX0 2 T.a_are_integers T.f_are_integers ["value"] (spP K c_are_integers) := ok_fun T.t_are_integers sc_are_integers (by decide) fun cdv A outer s H E hr =>
    (b_one (s_ret (n_e (e_and (e_isi rfl T.z_isinstance (o_v (pv 0)) (pe_ty rfl T.z_tuple (by decide +kernel))) (e_one (e_cb (cd_all rfl) rfl T.z_all (by decide +kernel) (os_cons (o_e (e_n (n_lc (own := [("a", 1)]) rfl sc_are_integers.nd (i_seq (e_v (pv 0))) (blkOk_by (own := [("a", 1)]) (N := N_are_integers) (sc := defScope s_are_integers) (by decide +kernel)) (fun _ _ _ _ _ => (g_name (i := 1) sc_are_integers.nd rfl (Or.inl rfl))) (fun _ _ _ _ _ => ts_nil) (fun _ _ _ _ _ => (e_n (n_call (ok_is_integer T) (hr.mono (by decide)) rfl T.g_is_integer T.t_is_integer.kp T.b_is_integer (al_nil (a_cons (e_v (pv 1)) a_nil)))))))) os_nil)))))))
theorem ok_is_ascending (T : Txt w K mg) : FnOk P w K mg base CX0 3 T.a_is_ascending T.f_is_ascending ["told", "low", "high"] (spP K c_is_ascending) := ok_fun T.t_is_ascending sc_is_ascending (by decide) fun cdv A outer s H E hr =>
    (b_cons (s_if (t_w (tw_or (t_not (t_val (e_n (n_call (ok_are_integers T) (hr.mono (by decide)) rfl T.g_are_integers T.t_are_integers.kp T.b_are_integers (al_nil (a_cons (e_v (pv 0)) a_nil)))))) (tw_or1 (t_not (t_val (e_cb (cd_all rfl) rfl T.z_all (by decide +kernel) (os_cons (o_e (e_n (n_lc (own := [("a", 4)]) rfl sc_is_ascending.nd (i_seq (e_v (pv 0))) (blkOk_by (own := [("a", 4)]) (N := N_is_ascending) (sc := defScope s_is_ascending) (by decide +kernel)) (fun _ _ _ _ _ => (g_name (i := 4) sc_is_ascending.nd rfl (Or.inl rfl))) (fun _ _ _ _ _ => ts_nil) (fun _ _ _ _ _ => (e_chain od_le od_lt (o_v (pv 1)) (o_v (pv 4)) (o_v (pv 2))))))) os_nil))))))) (b_one (s_ret (n_e e_bl))) b_nil)
    (b_one (s_ret (n_e (e_cb (cd_all rfl) rfl T.z_all (by decide +kernel) (os_cons (o_e (e_n (n_lc (own := [("at", 3)]) rfl sc_is_ascending.nd (i_rng1 rfl T.z_range (a_cons (e_op od_sub (o_e (e_cb cd_len rfl T.z_len (by decide +kernel) (os_cons (o_v (pv 0)) os_nil))) (o_e e_int)) a_nil)) (blkOk_by (own := [("at", 3)]) (N := N_is_ascending) (sc := defScope s_is_ascending) (by decide +kernel)) (fun _ _ _ _ _ => (g_name (i := 3) sc_is_ascending.nd rfl (Or.inl rfl))) (fun _ _ _ _ _ => ts_nil) (fun _ _ _ _ _ => (e_cmp od_lt (o_e (e_ix id_ix (o_v (pv 0)) (o_v (pv 3)))) (o_e (e_ix id_ix (o_v (pv 0)) (o_e (e_op od_add (o_v (pv 3)) (o_e e_int))))) (nomark _)))))) os_nil))))))
theorem ok_is_set (T : Txt w K mg) : FnOk P w K mg base CX0 4 T.a_is_set T.f_is_set ["told"] (spP K c_is_set) := ok_fun T.t_is_set sc_is_set (by decide) fun cdv A outer s H E hr =>
    (b_cons (s_if (t_w (tw_or (t_not (t_val (e_isi rfl T.z_isinstance (o_v (pv 0)) (pe_ty rfl T.z_tuple (by decide +kernel))))) (tw_or1 (t_cmp (od_ne hr.units) (o_e (e_cb cd_len rfl T.z_len (by decide +kernel) (os_cons (o_v (pv 0)) os_nil))) (o_e e_int) (nomark _))))) (b_one (s_ret (n_e e_bl))) b_nil)
    (b_cons (s_asg (e_v (pv 0)) (g_tup rfl (gs_cons (g_name (i := 1) sc_is_set.nd rfl (Or.inl rfl)) (gs_cons (g_name (i := 2) sc_is_set.nd rfl (Or.inl rfl)) (gs_cons (g_name (i := 3) sc_is_set.nd rfl (Or.inl rfl)) (gs_cons (g_name (i := 4) sc_is_set.nd rfl (Or.inl rfl)) (gs_cons (g_name (i := 5) sc_is_set.nd rfl (Or.inl rfl)) (gs_cons (g_name (i := 6) sc_is_set.nd rfl (Or.inl rfl)) gs_nil)))))) (nG_cons (nG_cons (nG_cons (nG_cons (nG_cons (nG_cons nG_nil))))))))
    (b_cons (s_if (t_w (tw_or (t_not (t_val (e_n (n_call (ok_is_integer T) (hr.mono (by decide)) rfl T.g_is_integer T.t_is_integer.kp T.b_is_integer (al_nil (a_cons (e_v (pv 1)) a_nil)))))) (tw_or (t_cmp od_lt (o_v (pv 1)) (o_e e_int) (nomark _)) (tw_or (t_not (t_val (e_n (n_call (ok_is_integer T) (hr.mono (by decide)) rfl T.g_is_integer T.t_is_integer.kp T.b_is_integer (al_nil (a_cons (e_v (pv 3)) a_nil)))))) (tw_or (t_not (t_val (e_n (n_call (ok_is_integer T) (hr.mono (by decide)) rfl T.g_is_integer T.t_is_integer.kp T.b_is_integer (al_nil (a_cons (e_v (pv 4)) a_nil)))))) (tw_or1 (t_cmp od_gt (o_v (pv 3)) (o_v (pv 4)) (nomark _)))))))) (b_one (s_ret (n_e e_bl))) b_nil)
    (b_one (s_ret (n_e (e_and (e_n (n_call (ok_is_ascending T) (hr.mono (by decide)) rfl T.g_is_ascending T.t_is_ascending.kp T.b_is_ascending (al_nil (a_cons (e_v (pv 2)) (a_cons e_int (a_cons (e_v (pv 1)) a_nil)))))) (e_and (e_n (n_call (ok_is_ascending T) (hr.mono (by decide)) rfl T.g_is_ascending T.t_is_ascending.kp T.b_is_ascending (al_nil (a_cons (e_v (pv 6)) (a_cons e_int (a_cons (e_v (pv 1)) a_nil)))))) (e_one (e_n (n_call (ok_is_ascending T) (hr.mono (by decide)) rfl T.g_is_ascending T.t_is_ascending.kp T.b_is_ascending (al_nil (a_cons (e_v (pv 5)) (a_cons (e_v (pv 3)) (a_cons (e_v (pv 4)) a_nil)))))))))))))))
theorem ok_has_it (T : Txt w K mg) : FnOk P w K mg base CX0 1 T.a_has_it T.f_has_it ["some", "n"] (spP K c_has_it) := ok_fun T.t_has_it sc_has_it (by decide) fun cdv A outer s H E hr =>
    (b_cons (s_asg (e_v (pv 0)) (g_tup rfl (gs_cons (g_name (i := 2) sc_has_it.nd rfl (Or.inl rfl)) (gs_cons (g_name (i := 3) sc_has_it.nd rfl (Or.inl rfl)) (gs_cons (g_name (i := 4) sc_has_it.nd rfl (Or.inl rfl)) (gs_cons (g_name (i := 5) sc_has_it.nd rfl (Or.inl rfl)) (gs_cons (g_name (i := 6) sc_has_it.nd rfl (Or.inl rfl)) (gs_cons (g_name (i := 7) sc_has_it.nd rfl (Or.inl rfl)) gs_nil)))))) (nG_cons (nG_cons (nG_cons (nG_cons (nG_cons (nG_cons nG_nil))))))))
    (b_cons (s_if (t_cmp od_lt (o_v (pv 1)) (o_v (pv 4)) (nomark _)) (b_one (s_ret (n_e (e_cmp (od_in (room65 hr)) (o_e (e_op od_mod (o_v (pv 1)) (o_v (pv 2)))) (o_v (pv 3)) (by rfl))))) b_nil)
    (b_one (s_ret (n_e (e_if (t_cmp od_lt (o_v (pv 1)) (o_v (pv 5)) (nomark _)) (e_cmp (od_in (room65 hr)) (o_v (pv 1)) (o_v (pv 6)) (by rfl)) (e_cmp (od_in (room65 hr)) (o_e (e_op od_mod (o_v (pv 1)) (o_v (pv 2)))) (o_v (pv 7)) (by rfl))))))))
theorem ok_least_round (T : Txt w K mg) : FnOk P w K mg base CX0 1 T.a_least_round T.f_least_round ["m", "rest"] (spP K c_least_round) := ok_fun T.t_least_round sc_least_round (by decide) fun cdv A outer s H E hr =>
    (b_cons (s_set (i := 2) sc_least_round.nd rfl (Or.inr rfl) (e_n (n_lc (own := [("a", 4)]) rfl sc_least_round.nd (i_rng1 rfl T.z_range (a_cons (e_v (pv 0)) a_nil)) (blkOk_by (own := [("a", 4)]) (N := N_least_round) (sc := defScope s_least_round) (by decide +kernel)) (fun _ _ _ _ _ => (g_name (i := 4) sc_least_round.nd rfl (Or.inl rfl))) (fun _ _ _ _ _ => ts_nil) (fun _ _ _ _ _ => (e_cmp (od_in (room65 hr)) (o_v (pv 4)) (o_v (pv 1)) (by rfl))))))
    (b_cons (s_for PassesOwn.never rfl (i_rng2 rfl T.z_range (a_cons e_int (a_cons (e_v (pv 0)) a_nil))) (g_name (i := 3) sc_least_round.nd rfl (Or.inr rfl)) (b_one (s_if (t_w (tw_and (t_cmp (od_eq hr.units) (o_e (e_op od_mod (o_v (pv 0)) (o_v (pv 3)))) (o_e e_int) (nomark _)) (tw_and1 (t_val (e_cb (cd_all rfl) rfl T.z_all (by decide +kernel) (os_cons (o_e (e_n (n_lc (own := [("a", 4)]) rfl sc_least_round.nd (i_rng1 rfl T.z_range (a_cons (e_v (pv 0)) a_nil)) (blkOk_by (own := [("a", 4)]) (N := N_least_round) (sc := defScope s_least_round) (by decide +kernel)) (fun _ _ _ _ _ => (g_name (i := 4) sc_least_round.nd rfl (Or.inl rfl))) (fun _ _ _ _ _ => ts_nil) (fun _ _ _ _ _ => (e_cmp (od_eq hr.units) (o_e (e_ix id_ix (o_v (pv 2)) (o_v (pv 4)))) (o_e (e_ix id_ix (o_v (pv 2)) (o_e (e_op od_mod (o_v (pv 4)) (o_v (pv 3)))))) (nomark _)))))) os_nil)))))) (b_one (s_ret (n_e (e_v (pv 3))))) b_nil)))
    (b_one (s_ret (n_e (e_v (pv 0)))))))
theorem ok_least_of (T : Txt w K mg) : FnOk P w K mg base CX0 2 T.a_least_of T.f_least_of ["some"] (spP K c_least_of) := ok_fun T.t_least_of sc_least_of (by decide) fun cdv A outer s H E hr =>
    (b_cons (s_asg (e_v (pv 0)) (g_tup rfl (gs_cons (g_name (i := 1) sc_least_of.nd rfl (Or.inl rfl)) (gs_cons (g_name (i := 2) sc_least_of.nd rfl (Or.inl rfl)) (gs_cons (g_name (i := 3) sc_least_of.nd rfl (Or.inl rfl)) (gs_cons (g_name (i := 4) sc_least_of.nd rfl (Or.inl rfl)) (gs_cons (g_name (i := 5) sc_least_of.nd rfl (Or.inl rfl)) (gs_cons (g_name (i := 6) sc_least_of.nd rfl (Or.inl rfl)) gs_nil)))))) (nG_cons (nG_cons (nG_cons (nG_cons (nG_cons (nG_cons nG_nil))))))))
    (b_cons (s_set (i := 7) sc_least_of.nd rfl (Or.inr rfl) (e_cfun cd_lcm rfl T.i_lcm (os_cons (o_e (e_n (n_call (ok_least_round T) (hr.mono (by decide)) rfl T.g_least_round T.t_least_round.kp T.b_least_round (al_nil (a_cons (e_v (pv 1)) (a_cons (e_v (pv 2)) a_nil)))))) (os_cons (o_e (e_n (n_call (ok_least_round T) (hr.mono (by decide)) rfl T.g_least_round T.t_least_round.kp T.b_least_round (al_nil (a_cons (e_v (pv 1)) (a_cons (e_v (pv 6)) a_nil)))))) os_nil))))
    (b_cons (s_asg (e_tup (a_cons (e_n (n_sortSc (own := [("a", 17)]) rfl T.z_sorted (by decide +kernel) rfl sc_least_of.nd (i_seq (e_v (pv 2))) (blkOk_by (own := [("a", 17)]) (N := N_least_of) (sc := defScope s_least_of) (by decide +kernel)) (fun _ _ _ _ _ => (g_name (i := 17) sc_least_of.nd rfl (Or.inl rfl))) (fun _ _ _ _ _ => ts_nil) (fun _ _ _ _ _ => (e_op od_mod (o_v (pv 17)) (o_v (pv 7)))))) (a_cons (e_n (n_sortSc (own := [("a", 17)]) rfl T.z_sorted (by decide +kernel) rfl sc_least_of.nd (i_seq (e_v (pv 6))) (blkOk_by (own := [("a", 17)]) (N := N_least_of) (sc := defScope s_least_of) (by decide +kernel)) (fun _ _ _ _ _ => (g_name (i := 17) sc_least_of.nd rfl (Or.inl rfl))) (fun _ _ _ _ _ => ts_nil) (fun _ _ _ _ _ => (e_op od_mod (o_v (pv 17)) (o_v (pv 7)))))) a_nil))) (g_tup rfl (gs_cons (g_name (i := 8) sc_least_of.nd rfl (Or.inr rfl)) (gs_cons (g_name (i := 9) sc_least_of.nd rfl (Or.inr rfl)) gs_nil)) (nG_cons (nG_cons nG_nil))))
    (b_cons (s_setLc (i := 10) (own := [("n", 16)]) rfl sc_least_of.nd rfl rfl (sw_true rfl rfl rfl (by decide +kernel)) (i_rng2 rfl T.z_range (a_cons (e_v (pv 3)) (a_cons (e_op od_add (o_v (pv 4)) (o_v (pv 7))) a_nil))) (blkOk_by (own := [("n", 16)]) (N := N_least_of) (sc := defScope s_least_of) (by decide +kernel)) (fun _ _ _ _ _ => (g_name (i := 16) sc_least_of.nd rfl (Or.inl rfl))) (fun _ _ _ _ _ => (ts_one (t_cmp (od_ne hr.units) (o_e (e_n (n_call (ok_has_it T) (hr.mono (by decide)) rfl T.g_has_it T.t_has_it.kp T.b_has_it (al_nil (a_cons (e_v (pv 0)) (a_cons (e_v (pv 16)) a_nil)))))) (o_e (e_cmp (od_in (room65 hr)) (o_e (e_op od_mod (o_v (pv 16)) (o_v (pv 7)))) (o_v (pv 8)) (by rfl))) (nomark _)))) (fun _ _ _ _ _ => (e_v (pv 16))))
    (b_cons (s_setLc (i := 11) (own := [("n", 16)]) rfl sc_least_of.nd rfl rfl (sw_true rfl rfl rfl (by decide +kernel)) (i_rng2 rfl T.z_range (a_cons (e_op od_sub (o_v (pv 3)) (o_v (pv 7))) (a_cons (e_v (pv 4)) a_nil))) (blkOk_by (own := [("n", 16)]) (N := N_least_of) (sc := defScope s_least_of) (by decide +kernel)) (fun _ _ _ _ _ => (g_name (i := 16) sc_least_of.nd rfl (Or.inl rfl))) (fun _ _ _ _ _ => (ts_one (t_cmp (od_ne hr.units) (o_e (e_n (n_call (ok_has_it T) (hr.mono (by decide)) rfl T.g_has_it T.t_has_it.kp T.b_has_it (al_nil (a_cons (e_v (pv 0)) (a_cons (e_v (pv 16)) a_nil)))))) (o_e (e_cmp (od_in (room65 hr)) (o_e (e_op od_mod (o_v (pv 16)) (o_v (pv 7)))) (o_v (pv 9)) (by rfl))) (nomark _)))) (fun _ _ _ _ _ => (e_v (pv 16))))
    (b_cons (s_if (t_cmp (od_eq hr.units) (o_v (pv 10)) (o_e (e_n (n_lst a_nil))) (nomark _)) (b_one (s_ret (n_e (e_tup (a_cons (e_v (pv 7)) (a_cons (e_cty cd_tuple rfl T.z_tuple (by decide +kernel) (os_cons (o_v (pv 8)) os_nil)) (a_cons e_int (a_cons e_int (a_cons (e_tup a_nil) (a_cons (e_cty cd_tuple rfl T.z_tuple (by decide +kernel) (os_cons (o_v (pv 9)) os_nil)) a_nil)))))))))) b_nil)
    (b_cons (s_par (i := 12) (j := 13) rfl sc_least_of.nd rfl rfl (by decide) rfl rfl (a_cons (e_ix id_ix (o_v (pv 10)) (o_e e_int)) (a_cons (e_op od_add (o_e (e_ix id_ix (o_v (pv 11)) (o_e (e_un ud_neg (o_e e_int))))) (o_e e_int)) a_nil)) (by rfl))
    (b_cons (s_if (t_cmp od_le (o_v (pv 13)) (o_v (pv 12)) (nomark _)) (b_cons (s_set (i := 14) sc_least_of.nd rfl (Or.inl rfl) (e_cb (cd_max2 rfl) rfl T.z_max (by decide +kernel) (os_cons (o_v (pv 13)) (os_cons (o_e (e_cb (cd_min2 rfl) rfl T.z_min (by decide +kernel) (os_cons (o_v (pv 12)) (os_cons (o_e e_int) os_nil)))) os_nil))))
    (b_one (s_ret (n_e (e_tup (a_cons (e_v (pv 7)) (a_cons (e_cty cd_tuple rfl T.z_tuple (by decide +kernel) (os_cons (o_v (pv 8)) os_nil)) (a_cons (e_v (pv 14)) (a_cons (e_v (pv 14)) (a_cons (e_tup a_nil) (a_cons (e_cty cd_tuple rfl T.z_tuple (by decide +kernel) (os_cons (o_v (pv 9)) os_nil)) a_nil))))))))))) b_nil)
    (b_cons (s_set (i := 15) sc_least_of.nd rfl (Or.inl rfl) (e_cty cd_tuple rfl T.z_tuple (by decide +kernel) (os_cons (o_e (e_n (n_lc (own := [("n", 16)]) rfl sc_least_of.nd (i_rng2 rfl T.z_range (a_cons (e_v (pv 12)) (a_cons (e_v (pv 13)) a_nil))) (blkOk_by (own := [("n", 16)]) (N := N_least_of) (sc := defScope s_least_of) (by decide +kernel)) (fun _ _ _ _ _ => (g_name (i := 16) sc_least_of.nd rfl (Or.inl rfl))) (fun _ _ _ _ _ => (ts_one (t_val (e_n (n_call (ok_has_it T) (hr.mono (by decide)) rfl T.g_has_it T.t_has_it.kp T.b_has_it (al_nil (a_cons (e_v (pv 0)) (a_cons (e_v (pv 16)) a_nil)))))))) (fun _ _ _ _ _ => (e_v (pv 16)))))) os_nil)))
    (b_one (s_ret (n_e (e_tup (a_cons (e_v (pv 7)) (a_cons (e_cty cd_tuple rfl T.z_tuple (by decide +kernel) (os_cons (o_v (pv 8)) os_nil)) (a_cons (e_v (pv 12)) (a_cons (e_v (pv 13)) (a_cons (e_v (pv 15)) (a_cons (e_cty cd_tuple rfl T.z_tuple (by decide +kernel) (os_cons (o_v (pv 9)) os_nil)) a_nil)))))))))))))))))))
theorem ok_is_least_set (T : Txt w K mg) : FnOk P w K mg base CX0 5 T.a_is_least_set T.f_is_least_set ["told"] (spP K c_is_least_set) := ok_fun T.t_is_least_set sc_is_least_set (by decide) fun cdv A outer s H E hr =>
    (b_one (s_ret (n_e (e_and (e_n (n_call (ok_is_set T) (hr.mono (by decide)) rfl T.g_is_set T.t_is_set.kp T.b_is_set (al_nil (a_cons (e_v (pv 0)) a_nil)))) (e_one (e_cmp (od_eq hr.units) (o_e (e_n (n_call (ok_least_of T) (hr.mono (by decide)) rfl T.g_least_of T.t_least_of.kp T.b_least_of (al_nil (a_cons (e_v (pv 0)) a_nil))))) (o_v (pv 0)) (nomark _)))))))
theorem ok_is_stick (T : Txt w K mg) : FnOk P w K mg base CX0 3 T.a_is_stick T.f_is_stick ["d", "told"] (spP K c_is_stick) := ok_fun T.t_is_stick sc_is_stick (by decide) fun cdv A outer s H E hr =>
    (b_one (s_ret (n_e (e_and (e_n (n_call (ok_are_integers T) (hr.mono (by decide)) rfl T.g_are_integers T.t_are_integers.kp T.b_are_integers (al_nil (a_cons (e_v (pv 1)) a_nil)))) (e_and (e_cmp (od_eq hr.units) (o_e (e_cb cd_len rfl T.z_len (by decide +kernel) (os_cons (o_v (pv 1)) os_nil))) (o_v (pv 0)) (nomark _)) (e_one (e_cb (cd_any rfl) rfl T.z_any (by decide +kernel) (os_cons (o_e (e_n (n_lc (own := [("a", 2)]) rfl sc_is_stick.nd (i_seq (e_v (pv 1))) (blkOk_by (own := [("a", 2)]) (N := N_is_stick) (sc := defScope s_is_stick) (by decide +kernel)) (fun _ _ _ _ _ => (g_name (i := 2) sc_is_stick.nd rfl (Or.inl rfl))) (fun _ _ _ _ _ => ts_nil) (fun _ _ _ _ _ => (e_cmp (od_ne hr.units) (o_v (pv 2)) (o_e e_int) (nomark _)))))) os_nil))))))))
theorem ok_is_bundle_of (T : Txt w K mg) : FnOk P w K mg base CX0 4 T.a_is_bundle_of T.f_is_bundle_of ["told"] (spP K c_is_bundle_of) := ok_fun T.t_is_bundle_of sc_is_bundle_of (by decide) fun cdv A outer s H E hr =>
    (b_cons (s_if (t_w (tw_or (t_not (t_val (e_n (n_call (ok_is_pair T) (hr.mono (by decide)) rfl T.g_is_pair T.t_is_pair.kp T.b_is_pair (al_nil (a_cons (e_v (pv 0)) a_nil)))))) (tw_or (t_not (t_val (e_n (n_call (ok_is_integer T) (hr.mono (by decide)) rfl T.g_is_integer T.t_is_integer.kp T.b_is_integer (al_nil (a_cons (e_ix id_ix (o_v (pv 0)) (o_e e_int)) a_nil)))))) (tw_or (t_cmp od_lt (o_e (e_ix id_ix (o_v (pv 0)) (o_e e_int))) (o_e e_int) (nomark _)) (tw_or1 (t_not (t_val (e_isi rfl T.z_isinstance (o_e (e_ix id_ix (o_v (pv 0)) (o_e e_int))) (pe_ty rfl T.z_tuple (by decide +kernel)))))))))) (b_one (s_ret (n_e e_bl))) b_nil)
    (b_one (s_ret (n_e (e_cb (cd_all rfl) rfl T.z_all (by decide +kernel) (os_cons (o_e (e_n (n_lc (own := [("stick", 1)]) rfl sc_is_bundle_of.nd (i_seq (e_ix id_ix (o_v (pv 0)) (o_e e_int))) (blkOk_by (own := [("stick", 1)]) (N := N_is_bundle_of) (sc := defScope s_is_bundle_of) (by decide +kernel)) (fun _ _ _ _ _ => (g_name (i := 1) sc_is_bundle_of.nd rfl (Or.inl rfl))) (fun _ _ _ _ _ => ts_nil) (fun _ _ _ _ _ => (e_n (n_call (ok_is_stick T) (hr.mono (by decide)) rfl T.g_is_stick T.t_is_stick.kp T.b_is_stick (al_nil (a_cons (e_ix id_ix (o_v (pv 0)) (o_e e_int)) (a_cons (e_v (pv 1)) a_nil))))))))) os_nil))))))
theorem ok_is_bundle (T : Txt w K mg) : FnOk P w K mg base CX0 5 T.a_is_bundle T.f_is_bundle ["told"] (spP K c_is_bundle) := ok_fun T.t_is_bundle sc_is_bundle (by decide) fun cdv A outer s H E hr =>
    (b_one (s_ret (n_call (ok_is_bundle_of T) (hr.mono (by decide)) rfl T.g_is_bundle_of T.t_is_bundle_of.kp T.b_is_bundle_of (al_nil (a_cons (e_v (pv 0)) a_nil)))))
theorem ok_is_grid (T : Txt w K mg) : FnOk P w K mg base CX0 3 T.a_is_grid T.f_is_grid ["told"] (spP K c_is_grid) := ok_fun T.t_is_grid sc_is_grid (by decide) fun cdv A outer s H E hr =>
    (b_cons (s_if (t_w (tw_or (t_not (t_val (e_n (n_call (ok_is_pair T) (hr.mono (by decide)) rfl T.g_is_pair T.t_is_pair.kp T.b_is_pair (al_nil (a_cons (e_v (pv 0)) a_nil)))))) (tw_or (t_not (t_val (e_n (n_call (ok_is_integer T) (hr.mono (by decide)) rfl T.g_is_integer T.t_is_integer.kp T.b_is_integer (al_nil (a_cons (e_ix id_ix (o_v (pv 0)) (o_e e_int)) a_nil)))))) (tw_or (t_cmp od_lt (o_e (e_ix id_ix (o_v (pv 0)) (o_e e_int))) (o_e e_int) (nomark _)) (tw_or1 (t_not (t_val (e_isi rfl T.z_isinstance (o_e (e_ix id_ix (o_v (pv 0)) (o_e e_int))) (pe_ty rfl T.z_tuple (by decide +kernel)))))))))) (b_one (s_ret (n_e e_bl))) b_nil)
    (b_one (s_ret (n_e (e_cb (cd_all rfl) rfl T.z_all (by decide +kernel) (os_cons (o_e (e_n (n_lc (own := [("row", 1)]) rfl sc_is_grid.nd (i_seq (e_ix id_ix (o_v (pv 0)) (o_e e_int))) (blkOk_by (own := [("row", 1)]) (N := N_is_grid) (sc := defScope s_is_grid) (by decide +kernel)) (fun _ _ _ _ _ => (g_name (i := 1) sc_is_grid.nd rfl (Or.inl rfl))) (fun _ _ _ _ _ => ts_nil) (fun _ _ _ _ _ => (e_and (e_n (n_call (ok_are_integers T) (hr.mono (by decide)) rfl T.g_are_integers T.t_are_integers.kp T.b_are_integers (al_nil (a_cons (e_v (pv 1)) a_nil)))) (e_one (e_cmp (od_eq hr.units) (o_e (e_cb cd_len rfl T.z_len (by decide +kernel) (os_cons (o_v (pv 1)) os_nil))) (o_e (e_ix id_ix (o_v (pv 0)) (o_e e_int))) (nomark _)))))))) os_nil))))))
theorem ok__law_pot (T : Txt w K mg) : FnOk P w K mg base CX0 1 T.a__law_pot T.f__law_pot ["script"] (spP K c__law_pot) := ok_fun T.t__law_pot sc__law_pot (by decide) fun cdv A outer s H E hr =>
    (b_one (s_ret (n_cat (o_e (e_n (n_lst (a_cons e_int (a_cons e_int (a_cons e_int a_nil)))))) (o_e (e_n (n_cty cd_list rfl T.z_list (by decide +kernel) (os_cons (o_v (pv 0)) os_nil)))))))
theorem ok__law_take (T : Txt w K mg) : FnOk P w K mg base CX0 1 T.a__law_take T.f__law_take ["pot", "many"] (spP K c__law_take) := ok_fun T.t__law_take sc__law_take (by decide) fun cdv A outer s H E hr =>
    (b_cons (s_if (t_w (tw_and (t_cmp (od_eq hr.units) (o_e (e_ix id_ix (o_v (pv 0)) (o_e e_int))) (o_e e_int) (nomark _)) (tw_and1 (t_cmp od_lt (o_e (e_ix id_ix (o_v (pv 0)) (o_e e_int))) (o_e (e_cb cd_len rfl T.z_len (by decide +kernel) (os_cons (o_v (pv 0)) os_nil))) (nomark _))))) (b_cons (s_set (i := 2) sc__law_take.nd rfl (Or.inl rfl) (e_ix id_ix (o_v (pv 0)) (o_e (e_ix id_ix (o_v (pv 0)) (o_e e_int)))))
    (b_cons (s_augI (pv 0) e_int e_int ipd_add)
    (b_one (s_if (t_cmp od_ge (o_v (pv 2)) (o_e (e_op od_pow (o_e e_int) (o_e e_int))) (nomark _)) (b_one (s_putI (pv 0) e_int (e_op od_sub (o_v (pv 2)) (o_e (e_op od_pow (o_e e_int) (o_e e_int)))) (fun a b c => pg_sub a b c))) (b_cons (s_set (i := 3) sc__law_take.nd rfl (Or.inl rfl) (e_op od_mod (o_e (e_cty cd_int rfl T.z_int (by decide +kernel) (os_cons (o_v (pv 2)) os_nil))) (o_e e_int)))
    (b_cons (s_set (i := 3) sc__law_take.nd rfl (Or.inl rfl) (e_op od_mod (o_e (e_cty cd_int rfl T.z_int (by decide +kernel) (os_cons (o_e (e_op od_add (o_e (e_op od_add (o_e (e_op od_mul (o_v (pv 3)) (o_v (pv 3)))) (o_e (e_op od_mul (o_e e_int) (o_v (pv 3)))))) (o_e (e_op od_mul (o_e e_int) (o_e (e_ix id_ix (o_v (pv 0)) (o_e e_int))))))) os_nil))) (o_e e_int)))
    (b_one (s_putI (pv 0) e_int (e_op od_mod (o_e (e_cty cd_int rfl T.z_int (by decide +kernel) (os_cons (o_e (e_op od_add (o_e (e_ix id_ix (o_v (pv 0)) (o_e e_int))) (o_v (pv 3)))) os_nil))) (o_e e_int)) (fun a b c => pg_sub a b c))))))))) b_nil)
    (b_cons (s_if (t_cmp od_gt (o_e (e_ix id_ix (o_v (pv 0)) (o_e e_int))) (o_e e_int) (nomark _)) (b_cons (s_set (i := 4) sc__law_take.nd rfl (Or.inl rfl) (e_op od_mod (o_e (e_cty cd_int rfl T.z_int (by decide +kernel) (os_cons (o_e (e_ix id_ix (o_v (pv 0)) (o_e e_int))) os_nil))) (o_v (pv 1))))
    (b_cons (s_putI (pv 0) e_int (e_op od_fdiv (o_e (e_ix id_ix (o_v (pv 0)) (o_e e_int))) (o_v (pv 1))) (fun a b c => pg_sub a b c))
    (b_one (s_ret (n_e (e_v (pv 4))))))) b_nil)
    (b_cons (s_putI (pv 0) e_int (e_op od_mod (o_e (e_cty cd_int rfl T.z_int (by decide +kernel) (os_cons (o_e (e_op od_add (o_e (e_op od_add (o_e (e_op od_mul (o_e (e_ix id_ix (o_v (pv 0)) (o_e e_int))) (o_e e_int))) (o_e (e_op od_mul (o_e e_int) (o_e (e_ix id_ix (o_v (pv 0)) (o_e e_int))))))) (o_e e_int))) os_nil))) (o_e e_int)) (fun a b c => pg_sub a b c))
    (b_cons (s_putI (pv 0) e_int (e_op od_mod (o_e (e_cty cd_int rfl T.z_int (by decide +kernel) (os_cons (o_e (e_op od_add (o_e (e_op od_mul (o_e (e_ix id_ix (o_v (pv 0)) (o_e e_int))) (o_e (e_ix id_ix (o_v (pv 0)) (o_e e_int))))) (o_e e_int))) os_nil))) (o_e e_int)) (fun a b c => pg_sub a b c))
    (b_one (s_ret (n_e (e_op od_mod (o_e (e_cty cd_int rfl T.z_int (by decide +kernel) (os_cons (o_e (e_op od_fdiv (o_e (e_ix id_ix (o_v (pv 0)) (o_e e_int))) (o_e e_int))) os_nil))) (o_v (pv 1))))))))))
theorem ok__law_same (T : Txt w K mg) : FnOk P w K mg base CX0 60 T.a__law_same T.f__law_same ["got", "due"] (spP K c__law_same) := by
  have h : ∀ n, FnOk P w K mg base CX0 (0 + n) T.a__law_same T.f__law_same ["got", "due"] (spP K (ci__law_same n)) := fun n => by
    induction n with
    | zero => exact ok_none
    | succ n ih => exact ok_fun (k := 0 + n) T.t__law_same sc__law_same (by decide) fun cdv A outer s H E hr =>
    (b_cons (s_if (t_cmp od_is (o_v (pv 1)) (o_e e_non) (nomark _)) (b_one (s_ret (n_e (e_cmp od_is (o_v (pv 0)) (o_e e_non) (nomark _))))) b_nil)
    (b_cons (s_if (t_val (e_isiT (ns := ["bool", "str"]) rfl T.z_isinstance (o_v (pv 1)) (pa_cons (pe_ty rfl T.z_bool (by decide +kernel)) (pa_cons (pe_ty rfl T.z_str (by decide +kernel)) pa_nil)) (fun _ _ _ h => h) (by decide))) (b_one (s_ret (n_e (e_and (e_cmp (od_eq hr.units) (o_e (e_isi rfl T.z_isinstance (o_v (pv 0)) (pe_ty rfl T.z_bool (by decide +kernel)))) (o_e (e_isi rfl T.z_isinstance (o_v (pv 1)) (pe_ty rfl T.z_bool (by decide +kernel)))) (nomark _)) (e_and (e_isiT (ns := ["bool", "str"]) rfl T.z_isinstance (o_v (pv 0)) (pa_cons (pe_ty rfl T.z_bool (by decide +kernel)) (pa_cons (pe_ty rfl T.z_str (by decide +kernel)) pa_nil)) (fun _ _ _ h => h) (by decide)) (e_one (e_cmp (od_eq hr.units) (o_v (pv 0)) (o_v (pv 1)) (nomark _)))))))) b_nil)
    (b_cons (s_if (t_val (e_isi rfl T.z_isinstance (o_v (pv 1)) (pe_ty rfl T.z_int (by decide +kernel)))) (b_one (s_ret (n_e (e_and (e_isi rfl T.z_isinstance (o_v (pv 0)) (pe_ty rfl T.z_int (by decide +kernel))) (e_and (e_not (e_isi rfl T.z_isinstance (o_v (pv 0)) (pe_ty rfl T.z_bool (by decide +kernel)))) (e_one (e_cmp (od_eq hr.units) (o_v (pv 0)) (o_v (pv 1)) (nomark _)))))))) b_nil)
    (b_cons (s_if (t_w (tw_or (t_cmp (od_ne hr.units) (o_e (e_isi rfl T.z_isinstance (o_v (pv 1)) (pe_ty rfl T.z_list (by decide +kernel)))) (o_e (e_isi rfl T.z_isinstance (o_v (pv 0)) (pe_ty rfl T.z_list (by decide +kernel)))) (nomark _)) (tw_or1 (t_cmp (od_ne hr.units) (o_e (e_isi rfl T.z_isinstance (o_v (pv 1)) (pe_ty rfl T.z_tuple (by decide +kernel)))) (o_e (e_isi rfl T.z_isinstance (o_v (pv 0)) (pe_ty rfl T.z_tuple (by decide +kernel)))) (nomark _))))) (b_one (s_ret (n_e e_bl))) b_nil)
    (b_one (s_ret (n_e (e_and (e_cmp (od_eq hr.units) (o_e (e_cb cd_len rfl T.z_len (by decide +kernel) (os_cons (o_v (pv 0)) os_nil))) (o_e (e_cb cd_len rfl T.z_len (by decide +kernel) (os_cons (o_v (pv 1)) os_nil))) (nomark _)) (e_one (e_cb (cd_all rfl) rfl T.z_all (by decide +kernel) (os_cons (o_e (e_n (n_lc (own := [("k", 2)]) rfl sc__law_same.nd (i_rng1 rfl T.z_range (a_cons (e_cb cd_len rfl T.z_len (by decide +kernel) (os_cons (o_v (pv 1)) os_nil)) a_nil)) (blkOk_by (own := [("k", 2)]) (N := N__law_same) (sc := defScope s__law_same) (by decide +kernel)) (fun _ _ _ _ _ => (g_name (i := 2) sc__law_same.nd rfl (Or.inl rfl))) (fun _ _ _ _ _ => ts_nil) (fun _ _ _ _ _ => (e_n (n_call ih hr rfl T.g__law_same T.t__law_same.kp T.b__law_same (al_nil (a_cons (e_ix id_ix (o_v (pv 0)) (o_v (pv 2))) (a_cons (e_ix id_ix (o_v (pv 1)) (o_v (pv 2))) a_nil))))))))) os_nil)))))))))))
  exact h 60
theorem ok__law_has (T : Txt w K mg) : FnOk P w K mg base CX0 1 T.a__law_has T.f__law_has ["some", "n"] (spP K c__law_has) := ok_fun T.t__law_has sc__law_has (by decide) fun cdv A outer s H E hr =>
    (b_cons (s_asg (e_v (pv 0)) (g_tup rfl (gs_cons (g_name (i := 2) sc__law_has.nd rfl (Or.inl rfl)) (gs_cons (g_name (i := 3) sc__law_has.nd rfl (Or.inl rfl)) (gs_cons (g_name (i := 4) sc__law_has.nd rfl (Or.inl rfl)) (gs_cons (g_name (i := 5) sc__law_has.nd rfl (Or.inl rfl)) (gs_cons (g_name (i := 6) sc__law_has.nd rfl (Or.inl rfl)) (gs_cons (g_name (i := 7) sc__law_has.nd rfl (Or.inl rfl)) gs_nil)))))) (nG_cons (nG_cons (nG_cons (nG_cons (nG_cons (nG_cons nG_nil))))))))
    (b_cons (s_if (t_chain od_le od_lt (o_v (pv 4)) (o_v (pv 1)) (o_v (pv 5))) (b_one (s_ret (n_e (e_cmp (od_in (room65 hr)) (o_v (pv 1)) (o_v (pv 6)) (by rfl))))) b_nil)
    (b_one (s_ret (n_e (e_cmp (od_in (room65 hr)) (o_e (e_op od_mod (o_e (e_cty cd_int rfl T.z_int (by decide +kernel) (os_cons (o_v (pv 1)) os_nil))) (o_v (pv 2)))) (o_e (e_if (t_cmp od_lt (o_v (pv 1)) (o_v (pv 4)) (nomark _)) (e_v (pv 3)) (e_v (pv 7)))) (by rfl)))))))
theorem ok__law_goes (T : Txt w K mg) : FnOk P w K mg base CX0 1 T.a__law_goes T.f__law_goes ["part", "m", "by"] (spP K c__law_goes) := ok_fun T.t__law_goes sc__law_goes (by decide) fun cdv A outer s H E hr =>
    (b_one (s_ret (n_e (e_cb (cd_all rfl) rfl T.z_all (by decide +kernel) (os_cons (o_e (e_n (n_lc (own := [("a", 3)]) rfl sc__law_goes.nd (i_rng1 rfl T.z_range (a_cons (e_v (pv 1)) a_nil)) (blkOk_by (own := [("a", 3)]) (N := N__law_goes) (sc := defScope s__law_goes) (by decide +kernel)) (fun _ _ _ _ _ => (g_name (i := 3) sc__law_goes.nd rfl (Or.inl rfl))) (fun _ _ _ _ _ => ts_nil) (fun _ _ _ _ _ => (e_cmp (od_eq hr.units) (o_e (e_cmp (od_in (room65 hr)) (o_v (pv 3)) (o_v (pv 0)) (by rfl))) (o_e (e_cmp (od_in (room65 hr)) (o_e (e_op od_mod (o_e (e_cty cd_int rfl T.z_int (by decide +kernel) (os_cons (o_e (e_op od_add (o_v (pv 3)) (o_v (pv 2)))) os_nil))) (o_v (pv 1)))) (o_v (pv 0)) (by rfl))) (nomark _)))))) os_nil)))))
theorem ok__law_least (T : Txt w K mg) : FnOk P w K mg base CX0 2 T.a__law_least T.f__law_least ["some"] (spP K c__law_least) := ok_fun T.t__law_least sc__law_least (by decide) fun cdv A outer s H E hr =>
    (b_cons (s_asg (e_v (pv 0)) (g_tup rfl (gs_cons (g_name (i := 1) sc__law_least.nd rfl (Or.inr rfl)) (gs_cons (g_name (i := 2) sc__law_least.nd rfl (Or.inr rfl)) (gs_cons (g_name (i := 3) sc__law_least.nd rfl (Or.inl rfl)) (gs_cons (g_name (i := 4) sc__law_least.nd rfl (Or.inl rfl)) (gs_cons (g_name (i := 5) sc__law_least.nd rfl (Or.inl rfl)) (gs_cons (g_name (i := 6) sc__law_least.nd rfl (Or.inr rfl)) gs_nil)))))) (nG_cons (nG_cons (nG_cons (nG_cons (nG_cons (nG_cons nG_nil))))))))
    (b_cons (s_setLc (i := 7) (own := [("by", 9)]) rfl sc__law_least.nd rfl rfl (sw_true rfl rfl rfl (by decide +kernel)) (i_rng2 rfl T.z_range (a_cons e_int (a_cons (e_op od_add (o_v (pv 1)) (o_e e_int)) a_nil))) (blkOk_by (own := [("by", 9)]) (N := N__law_least) (sc := defScope s__law_least) (by decide +kernel)) (fun _ _ _ _ _ => (g_name (i := 9) sc__law_least.nd rfl (Or.inl rfl))) (fun _ _ _ _ _ => (ts_one (t_cmp (od_eq hr.units) (o_e (e_op od_mod (o_e (e_cty cd_int rfl T.z_int (by decide +kernel) (os_cons (o_v (pv 1)) os_nil))) (o_v (pv 9)))) (o_e e_int) (nomark _)))) (fun _ _ _ _ _ => (e_v (pv 9))))
    (b_cons (s_setLc (i := 8) (own := [("by", 9)]) rfl sc__law_least.nd rfl rfl (sw_true rfl rfl rfl (by decide +kernel)) (i_seq (e_v (pv 7))) (blkOk_by (own := [("by", 9)]) (N := N__law_least) (sc := defScope s__law_least) (by decide +kernel)) (fun _ _ _ _ _ => (g_name (i := 9) sc__law_least.nd rfl (Or.inl rfl))) (fun _ _ _ _ _ => (ts_one (t_w (tw_and (t_val (e_n (n_call (ok__law_goes T) (hr.mono (by decide)) rfl T.g__law_goes T.t__law_goes.kp T.b__law_goes (al_nil (a_cons (e_v (pv 2)) (a_cons (e_v (pv 1)) (a_cons (e_v (pv 9)) a_nil))))))) (tw_and1 (t_val (e_n (n_call (ok__law_goes T) (hr.mono (by decide)) rfl T.g__law_goes T.t__law_goes.kp T.b__law_goes (al_nil (a_cons (e_v (pv 6)) (a_cons (e_v (pv 1)) (a_cons (e_v (pv 9)) a_nil)))))))))))) (fun _ _ _ _ _ => (e_v (pv 9))))
    (b_cons (s_set (i := 9) sc__law_least.nd rfl (Or.inr rfl) (e_ix id_ix (o_v (pv 8)) (o_e e_int)))
    (b_cons (s_asg (e_tup (a_cons (e_cty cd_tuple rfl T.z_tuple (by decide +kernel) (os_cons (o_e (e_n (n_sortSet rfl rfl T.z_sorted (by decide +kernel) rfl T.z_set (by decide +kernel) (e_n (n_lc (own := [("a", 18)]) rfl sc__law_least.nd (i_seq (e_v (pv 2))) (blkOk_by (own := [("a", 18)]) (N := N__law_least) (sc := defScope s__law_least) (by decide +kernel)) (fun _ _ _ _ _ => (g_name (i := 18) sc__law_least.nd rfl (Or.inl rfl))) (fun _ _ _ _ _ => ts_nil) (fun _ _ _ _ _ => (e_op od_mod (o_e (e_cty cd_int rfl T.z_int (by decide +kernel) (os_cons (o_v (pv 18)) os_nil))) (o_v (pv 9))))))))) os_nil)) (a_cons (e_cty cd_tuple rfl T.z_tuple (by decide +kernel) (os_cons (o_e (e_n (n_sortSet rfl rfl T.z_sorted (by decide +kernel) rfl T.z_set (by decide +kernel) (e_n (n_lc (own := [("a", 18)]) rfl sc__law_least.nd (i_seq (e_v (pv 6))) (blkOk_by (own := [("a", 18)]) (N := N__law_least) (sc := defScope s__law_least) (by decide +kernel)) (fun _ _ _ _ _ => (g_name (i := 18) sc__law_least.nd rfl (Or.inl rfl))) (fun _ _ _ _ _ => ts_nil) (fun _ _ _ _ _ => (e_op od_mod (o_e (e_cty cd_int rfl T.z_int (by decide +kernel) (os_cons (o_v (pv 18)) os_nil))) (o_v (pv 9))))))))) os_nil)) a_nil))) (g_tup rfl (gs_cons (g_name (i := 10) sc__law_least.nd rfl (Or.inr rfl)) (gs_cons (g_name (i := 11) sc__law_least.nd rfl (Or.inr rfl)) gs_nil)) (nG_cons (nG_cons nG_nil))))
    (b_cons (s_setLc (i := 12) (own := [("n", 17)]) rfl sc__law_least.nd rfl rfl (sw_true rfl rfl rfl (by decide +kernel)) (i_rng2 rfl T.z_range (a_cons (e_v (pv 3)) (a_cons (e_op od_add (o_v (pv 4)) (o_v (pv 9))) a_nil))) (blkOk_by (own := [("n", 17)]) (N := N__law_least) (sc := defScope s__law_least) (by decide +kernel)) (fun _ _ _ _ _ => (g_name (i := 17) sc__law_least.nd rfl (Or.inl rfl))) (fun _ _ _ _ _ => (ts_one (t_cmp (od_ne hr.units) (o_e (e_n (n_call (ok__law_has T) (hr.mono (by decide)) rfl T.g__law_has T.t__law_has.kp T.b__law_has (al_nil (a_cons (e_v (pv 0)) (a_cons (e_v (pv 17)) a_nil)))))) (o_e (e_cmp (od_in (room65 hr)) (o_e (e_op od_mod (o_e (e_cty cd_int rfl T.z_int (by decide +kernel) (os_cons (o_v (pv 17)) os_nil))) (o_v (pv 9)))) (o_v (pv 10)) (by rfl))) (nomark _)))) (fun _ _ _ _ _ => (e_v (pv 17))))
    (b_cons (s_if (t_cmp (od_eq hr.units) (o_v (pv 12)) (o_e (e_n (n_lst a_nil))) (nomark _)) (b_one (s_ret (n_e (e_tup (a_cons (e_v (pv 9)) (a_cons (e_v (pv 10)) (a_cons e_int (a_cons e_int (a_cons (e_tup a_nil) (a_cons (e_v (pv 10)) a_nil)))))))))) b_nil)
    (b_cons (s_setLc (i := 13) (own := [("n", 17)]) rfl sc__law_least.nd rfl rfl (sw_true rfl rfl rfl (by decide +kernel)) (i_rng2 rfl T.z_range (a_cons (e_op od_sub (o_v (pv 3)) (o_v (pv 9))) (a_cons (e_v (pv 4)) a_nil))) (blkOk_by (own := [("n", 17)]) (N := N__law_least) (sc := defScope s__law_least) (by decide +kernel)) (fun _ _ _ _ _ => (g_name (i := 17) sc__law_least.nd rfl (Or.inl rfl))) (fun _ _ _ _ _ => (ts_one (t_cmp (od_ne hr.units) (o_e (e_n (n_call (ok__law_has T) (hr.mono (by decide)) rfl T.g__law_has T.t__law_has.kp T.b__law_has (al_nil (a_cons (e_v (pv 0)) (a_cons (e_v (pv 17)) a_nil)))))) (o_e (e_cmp (od_in (room65 hr)) (o_e (e_op od_mod (o_e (e_cty cd_int rfl T.z_int (by decide +kernel) (os_cons (o_v (pv 17)) os_nil))) (o_v (pv 9)))) (o_v (pv 11)) (by rfl))) (nomark _)))) (fun _ _ _ _ _ => (e_v (pv 17))))
    (b_cons (s_par (i := 14) (j := 15) rfl sc__law_least.nd rfl rfl (by decide) rfl rfl (a_cons (e_ix id_ix (o_v (pv 12)) (o_e e_int)) (a_cons (e_op od_add (o_e (e_ix id_ix (o_v (pv 13)) (o_e (e_un ud_neg (o_e e_int))))) (o_e e_int)) a_nil)) (by rfl))
    (b_cons (s_if (t_cmp od_ge (o_v (pv 14)) (o_v (pv 15)) (nomark _)) (b_cons (s_set (i := 16) sc__law_least.nd rfl (Or.inl rfl) (e_if (t_chain od_le od_le (o_v (pv 15)) (o_e e_int) (o_v (pv 14))) e_int (e_if (t_cmp od_gt (o_v (pv 15)) (o_e e_int) (nomark _)) (e_v (pv 15)) (e_v (pv 14)))))
    (b_one (s_ret (n_e (e_tup (a_cons (e_v (pv 9)) (a_cons (e_v (pv 10)) (a_cons (e_v (pv 16)) (a_cons (e_v (pv 16)) (a_cons (e_tup a_nil) (a_cons (e_v (pv 11)) a_nil))))))))))) b_nil)
    (b_one (s_ret (n_e (e_tup (a_cons (e_v (pv 9)) (a_cons (e_v (pv 10)) (a_cons (e_v (pv 14)) (a_cons (e_v (pv 15)) (a_cons (e_cty cd_tuple rfl T.z_tuple (by decide +kernel) (os_cons (o_e (e_n (n_lc (own := [("n", 17)]) rfl sc__law_least.nd (i_rng2 rfl T.z_range (a_cons (e_v (pv 14)) (a_cons (e_v (pv 15)) a_nil))) (blkOk_by (own := [("n", 17)]) (N := N__law_least) (sc := defScope s__law_least) (by decide +kernel)) (fun _ _ _ _ _ => (g_name (i := 17) sc__law_least.nd rfl (Or.inl rfl))) (fun _ _ _ _ _ => (ts_one (t_val (e_n (n_call (ok__law_has T) (hr.mono (by decide)) rfl T.g__law_has T.t__law_has.kp T.b__law_has (al_nil (a_cons (e_v (pv 0)) (a_cons (e_v (pv 17)) a_nil)))))))) (fun _ _ _ _ _ => (e_v (pv 17)))))) os_nil)) (a_cons (e_v (pv 11)) a_nil))))))))))))))))))))
theorem ok__law_small_set (T : Txt w K mg) : FnOk P w K mg base CX0 2 T.a__law_small_set T.f__law_small_set ["pot"] (spP K c__law_small_set) := ok_fun T.t__law_small_set sc__law_small_set (by decide) fun cdv A outer s H E hr =>
    (b_cons (s_par (i := 1) (j := 2) rfl sc__law_small_set.nd rfl rfl (by decide) rfl rfl (a_cons (e_ix id_ix (o_e (e_n (n_lst (a_cons e_int (a_cons e_int (a_cons e_int (a_cons e_int (a_cons e_int a_nil)))))))) (o_e (e_n (n_call (ok__law_take T) (hr.mono (by decide)) rfl T.g__law_take T.t__law_take.kp T.b__law_take (al_cons (pv 0) (al_nil (a_cons e_int a_nil))))))) (a_cons (e_op od_sub (o_e (e_n (n_call (ok__law_take T) (hr.mono (by decide)) rfl T.g__law_take T.t__law_take.kp T.b__law_take (al_cons (pv 0) (al_nil (a_cons e_int a_nil)))))) (o_e e_int)) a_nil)) (by rfl))
    (b_cons (s_set (i := 3) sc__law_small_set.nd rfl (Or.inl rfl) (e_op od_add (o_v (pv 2)) (o_e (e_n (n_call (ok__law_take T) (hr.mono (by decide)) rfl T.g__law_take T.t__law_take.kp T.b__law_take (al_cons (pv 0) (al_nil (a_cons e_int a_nil))))))))
    (b_cons (s_setLc (i := 4) (own := [("first", 5), ("last", 6)]) rfl sc__law_small_set.nd rfl rfl (sw_true rfl rfl rfl (by decide +kernel)) (i_seq (e_tup (a_cons (e_tup (a_cons e_int (a_cons (e_v (pv 1)) a_nil))) (a_cons (e_tup (a_cons (e_v (pv 2)) (a_cons (e_v (pv 3)) a_nil))) (a_cons (e_tup (a_cons e_int (a_cons (e_v (pv 1)) a_nil))) a_nil))))) (blkOk_by (own := [("first", 5), ("last", 6)]) (N := N__law_small_set) (sc := defScope s__law_small_set) (by decide +kernel)) (fun _ _ _ _ _ => (g_tup rfl (gs_cons (g_name (i := 5) sc__law_small_set.nd rfl (Or.inl rfl)) (gs_cons (g_name (i := 6) sc__law_small_set.nd rfl (Or.inl rfl)) gs_nil)) (nG_cons (nG_cons nG_nil)))) (fun _ _ _ _ _ => ts_nil) (fun _ _ _ _ _ => (e_cty cd_tuple rfl T.z_tuple (by decide +kernel) (os_cons (o_e (e_n (n_lc (own := [("own", 7)]) rfl sc__law_small_set.nd (i_rng2 rfl T.z_range (a_cons (e_v (pv 5)) (a_cons (e_v (pv 6)) a_nil))) (blkOk_by (own := [("own", 7)]) (N := N__law_small_set) (sc := { kind := .function, names := [(".0", .local), ("first", .local), ("last", .local), ("tuple", .globalImplicit), ("range", .globalImplicit), ("pot", .cell)], isGenerator := false, isCoroutine := false }) (by decide +kernel)) (fun _ _ _ _ _ => (g_name (i := 7) sc__law_small_set.nd rfl (Or.inl rfl))) (fun _ _ _ _ _ => (ts_one (t_cmp (od_eq hr.units) (o_e (e_n (n_call (ok__law_take T) (hr.mono (by decide)) rfl T.g__law_take T.t__law_take.kp T.b__law_take (al_cons (pv 0) (al_nil (a_cons e_int a_nil)))))) (o_e e_int) (nomark _)))) (fun _ _ _ _ _ => (e_v (pv 7)))))) os_nil))))
    (b_one (s_ret (n_e (e_tup (a_cons (e_v (pv 1)) (a_cons (e_ix id_ix (o_v (pv 4)) (o_e e_int)) (a_cons (e_v (pv 2)) (a_cons (e_v (pv 3)) (a_cons (e_ix id_ix (o_v (pv 4)) (o_e e_int)) (a_cons (e_ix id_ix (o_v (pv 4)) (o_e e_int)) a_nil)))))))))))))
theorem ok__law_mutant (T : Txt w K mg) : FnOk P w K mg base CX0 61 T.a__law_mutant T.f__law_mutant ["pot", "value", "deep"] (spP K c__law_mutant) := by
  have h : ∀ n, FnOk P w K mg base CX0 (1 + n) T.a__law_mutant T.f__law_mutant ["pot", "value", "deep"] (spP K (ci__law_mutant n)) := fun n => by
    induction n with
    | zero => exact ok_none
    | succ n ih => exact ok_fun (k := 1 + n) T.t__law_mutant sc__law_mutant (by decide) fun cdv A outer s H E hr =>
    (b_cons (s_set (i := 3) sc__law_mutant.nd rfl (Or.inl rfl) (e_ix id_ix (o_e (e_n (n_lst (a_cons e_non (a_cons e_bl (a_cons e_bl (a_cons e_str (a_cons (e_un ud_neg (o_e e_int)) (a_cons e_int (a_cons e_int (a_cons e_int (a_cons e_int (a_cons (e_tup a_nil) (a_cons (e_tup (a_cons e_int a_nil)) (a_cons (e_n (n_lst (a_cons e_int a_nil))) (a_cons (e_tup (a_cons e_int (a_cons e_int a_nil))) (a_cons (e_tup (a_cons e_int (a_cons e_int a_nil))) (a_cons e_str a_nil)))))))))))))))))) (o_e (e_n (n_call (ok__law_take T) (hr.mono (by omega)) rfl T.g__law_take T.t__law_take.kp T.b__law_take (al_cons (pv 0) (al_nil (a_cons e_int a_nil))))))))
    (b_cons (s_if (t_w (tw_or (t_not (t_val (e_isi rfl T.z_isinstance (o_v (pv 1)) (pe_ty rfl T.z_tuple (by decide +kernel))))) (tw_or (t_cmp (od_eq hr.units) (o_v (pv 1)) (o_e (e_tup a_nil)) (nomark _)) (tw_or (t_cmp (od_eq hr.units) (o_v (pv 2)) (o_e e_int) (nomark _)) (tw_or1 (t_cmp (od_eq hr.units) (o_e (e_n (n_call (ok__law_take T) (hr.mono (by omega)) rfl T.g__law_take T.t__law_take.kp T.b__law_take (al_cons (pv 0) (al_nil (a_cons e_int a_nil)))))) (o_e e_int) (nomark _))))))) (b_one (s_ret (n_e (e_v (pv 3))))) b_nil)
    (b_cons (s_par (i := 4) (j := 5) rfl sc__law_mutant.nd rfl rfl (by decide) rfl rfl (a_cons (e_n (n_call (ok__law_take T) (hr.mono (by omega)) rfl T.g__law_take T.t__law_take.kp T.b__law_take (al_cons (pv 0) (al_nil (a_cons (e_cb cd_len rfl T.z_len (by decide +kernel) (os_cons (o_v (pv 1)) os_nil)) a_nil))))) (a_cons (e_n (n_call (ok__law_take T) (hr.mono (by omega)) rfl T.g__law_take T.t__law_take.kp T.b__law_take (al_cons (pv 0) (al_nil (a_cons e_int a_nil))))) a_nil)) (by rfl))
    (b_cons (s_if (t_cmp od_lt (o_v (pv 5)) (o_e e_int) (nomark _)) (b_one (s_ret (n_e (e_op od_add (o_e (e_op od_add (o_e (e_slT (o_v (pv 1)) o_none (o_some (e_v (pv 4))))) (o_e (e_tup (a_cons (e_n (n_call ih hr rfl T.g__law_mutant T.t__law_mutant.kp T.b__law_mutant (al_cons (pv 0) (al_nil (a_cons (e_ix id_ix (o_v (pv 1)) (o_v (pv 4))) (a_cons (e_op od_sub (o_v (pv 2)) (o_e e_int)) a_nil)))))) a_nil))))) (o_e (e_slT (o_v (pv 1)) (o_some (e_op od_add (o_v (pv 4)) (o_e e_int))) o_none)))))) b_nil)
    (b_cons (s_if (t_cmp (od_eq hr.units) (o_v (pv 5)) (o_e e_int) (nomark _)) (b_one (s_ret (n_cty cd_list rfl T.z_list (by decide +kernel) (os_cons (o_v (pv 1)) os_nil)))) b_nil)
    (b_cons (s_if (t_cmp (od_eq hr.units) (o_v (pv 5)) (o_e e_int) (nomark _)) (b_one (s_ret (n_e (e_op od_add (o_v (pv 1)) (o_e (e_tup (a_cons (e_v (pv 3)) a_nil))))))) b_nil)
    (b_cons (s_if (t_cmp (od_eq hr.units) (o_v (pv 5)) (o_e e_int) (nomark _)) (b_one (s_ret (n_e (e_op od_add (o_e (e_slT (o_v (pv 1)) o_none (o_some (e_v (pv 4))))) (o_e (e_slT (o_v (pv 1)) (o_some (e_op od_add (o_v (pv 4)) (o_e e_int))) o_none)))))) b_nil)
    (b_cons (s_if (t_cmp (od_eq hr.units) (o_v (pv 5)) (o_e e_int) (nomark _)) (b_one (s_ret (n_e (e_revT (o_v (pv 1)))))) b_nil)
    (b_one (s_ret (n_e (e_op od_add (o_v (pv 1)) (o_e (e_slT (o_v (pv 1)) (o_some (e_v (pv 4))) (o_some (e_op od_add (o_v (pv 4)) (o_e e_int)))))))))))))))))
  exact h 60
theorem ok__law_integer (T : Txt w K mg) : FnOk P w K mg base CX0 1 T.a__law_integer T.f__law_integer ["told"] (spP K c__law_integer) := ok_fun T.t__law_integer sc__law_integer (by decide) fun cdv A outer s H E hr =>
    (b_one (s_ret (n_e (e_and (e_isi rfl T.z_isinstance (o_v (pv 0)) (pe_ty rfl T.z_int (by decide +kernel))) (e_one (e_not (e_isi rfl T.z_isinstance (o_v (pv 0)) (pe_ty rfl T.z_bool (by decide +kernel)))))))))
theorem ok__law_row_of_integers (T : Txt w K mg) : FnOk P w K mg base CX0 2 T.a__law_row_of_integers T.f__law_row_of_integers ["told", "many"] (spP K c__law_row_of_integers) := ok_fun T.t__law_row_of_integers sc__law_row_of_integers (by decide) fun cdv A outer s H E hr =>
    (b_one (s_ret (n_e (e_and (e_isi rfl T.z_isinstance (o_v (pv 0)) (pe_ty rfl T.z_tuple (by decide +kernel))) (e_and (e_cmp (od_eq hr.units) (o_e (e_cb cd_len rfl T.z_len (by decide +kernel) (os_cons (o_v (pv 0)) os_nil))) (o_v (pv 1)) (nomark _)) (e_one (e_cb (cd_all rfl) rfl T.z_all (by decide +kernel) (os_cons (o_e (e_n (n_lc (own := [("own", 2)]) rfl sc__law_row_of_integers.nd (i_seq (e_v (pv 0))) (blkOk_by (own := [("own", 2)]) (N := N__law_row_of_integers) (sc := defScope s__law_row_of_integers) (by decide +kernel)) (fun _ _ _ _ _ => (g_name (i := 2) sc__law_row_of_integers.nd rfl (Or.inl rfl))) (fun _ _ _ _ _ => ts_nil) (fun _ _ _ _ _ => (e_n (n_call (ok__law_integer T) (hr.mono (by decide)) rfl T.g__law_integer T.t__law_integer.kp T.b__law_integer (al_nil (a_cons (e_v (pv 2)) a_nil)))))))) os_nil))))))))
theorem ok__law_headed (T : Txt w K mg) : FnOk P w K mg base CX0 2 T.a__law_headed T.f__law_headed ["told"] (spP K c__law_headed) := ok_fun T.t__law_headed sc__law_headed (by decide) fun cdv A outer s H E hr =>
    (b_one (s_ret (n_e (e_and (e_isi rfl T.z_isinstance (o_v (pv 0)) (pe_ty rfl T.z_tuple (by decide +kernel))) (e_and (e_cmp (od_eq hr.units) (o_e (e_cb cd_len rfl T.z_len (by decide +kernel) (os_cons (o_v (pv 0)) os_nil))) (o_e e_int) (nomark _)) (e_and (e_n (n_call (ok__law_integer T) (hr.mono (by decide)) rfl T.g__law_integer T.t__law_integer.kp T.b__law_integer (al_nil (a_cons (e_ix id_ix (o_v (pv 0)) (o_e e_int)) a_nil)))) (e_and (e_cmp od_gt (o_e (e_ix id_ix (o_v (pv 0)) (o_e e_int))) (o_e e_int) (nomark _)) (e_one (e_isi rfl T.z_isinstance (o_e (e_ix id_ix (o_v (pv 0)) (o_e e_int))) (pe_ty rfl T.z_tuple (by decide +kernel)))))))))))
theorem ok__law_is_grid (T : Txt w K mg) : FnOk P w K mg base CX0 3 T.a__law_is_grid T.f__law_is_grid ["told"] (spP K c__law_is_grid) := ok_fun T.t__law_is_grid sc__law_is_grid (by decide) fun cdv A outer s H E hr =>
    (b_one (s_ret (n_e (e_and (e_n (n_call (ok__law_headed T) (hr.mono (by decide)) rfl T.g__law_headed T.t__law_headed.kp T.b__law_headed (al_nil (a_cons (e_v (pv 0)) a_nil)))) (e_one (e_not (e_cb (cd_any rfl) rfl T.z_any (by decide +kernel) (os_cons (o_e (e_n (n_lc (own := [("own", 1)]) rfl sc__law_is_grid.nd (i_seq (e_ix id_ix (o_v (pv 0)) (o_e e_int))) (blkOk_by (own := [("own", 1)]) (N := N__law_is_grid) (sc := defScope s__law_is_grid) (by decide +kernel)) (fun _ _ _ _ _ => (g_name (i := 1) sc__law_is_grid.nd rfl (Or.inl rfl))) (fun _ _ _ _ _ => ts_nil) (fun _ _ _ _ _ => (e_not (e_n (n_call (ok__law_row_of_integers T) (hr.mono (by decide)) rfl T.g__law_row_of_integers T.t__law_row_of_integers.kp T.b__law_row_of_integers (al_nil (a_cons (e_v (pv 1)) (a_cons (e_ix id_ix (o_v (pv 0)) (o_e e_int)) a_nil)))))))))) os_nil))))))))
theorem ok__law_is_bundle (T : Txt w K mg) : FnOk P w K mg base CX0 4 T.a__law_is_bundle T.f__law_is_bundle ["told"] (spP K c__law_is_bundle) := ok_fun T.t__law_is_bundle sc__law_is_bundle (by decide) fun cdv A outer s H E hr =>
    (b_one (s_ret (n_e (e_and (e_n (n_call (ok__law_is_grid T) (hr.mono (by decide)) rfl T.g__law_is_grid T.t__law_is_grid.kp T.b__law_is_grid (al_nil (a_cons (e_v (pv 0)) a_nil)))) (e_one (e_not (e_cb (cd_any rfl) rfl T.z_any (by decide +kernel) (os_cons (o_e (e_n (n_lc (own := [("own", 1)]) rfl sc__law_is_bundle.nd (i_seq (e_ix id_ix (o_v (pv 0)) (o_e e_int))) (blkOk_by (own := [("own", 1)]) (N := N__law_is_bundle) (sc := defScope s__law_is_bundle) (by decide +kernel)) (fun _ _ _ _ _ => (g_name (i := 1) sc__law_is_bundle.nd rfl (Or.inl rfl))) (fun _ _ _ _ _ => ts_nil) (fun _ _ _ _ _ => (e_not (e_cb (cd_any rfl) rfl T.z_any (by decide +kernel) (os_cons (o_e (e_n (n_lc (own := [("side", 2)]) rfl sc__law_is_bundle.nd (i_seq (e_v (pv 1))) (blkOk_by (own := [("side", 2)]) (N := N__law_is_bundle) (sc := { kind := .function, names := [(".0", .local), ("own", .local), ("any", .globalImplicit)], isGenerator := false, isCoroutine := false }) (by decide +kernel)) (fun _ _ _ _ _ => (g_name (i := 2) sc__law_is_bundle.nd rfl (Or.inl rfl))) (fun _ _ _ _ _ => ts_nil) (fun _ _ _ _ _ => (e_cmp (od_ne hr.units) (o_v (pv 2)) (o_e e_int) (nomark _)))))) os_nil))))))) os_nil))))))))
theorem ok__law_ascends (T : Txt w K mg) : FnOk P w K mg base CX0 2 T.a__law_ascends T.f__law_ascends ["told", "low", "high"] (spP K c__law_ascends) := ok_fun T.t__law_ascends sc__law_ascends (by decide) fun cdv A outer s H E hr =>
    (b_cons (s_if (t_w (tw_or (t_not (t_val (e_isi rfl T.z_isinstance (o_v (pv 0)) (pe_ty rfl T.z_tuple (by decide +kernel))))) (tw_or1 (t_not (t_val (e_cb (cd_all rfl) rfl T.z_all (by decide +kernel) (os_cons (o_e (e_n (n_lc (own := [("own", 4)]) rfl sc__law_ascends.nd (i_seq (e_v (pv 0))) (blkOk_by (own := [("own", 4)]) (N := N__law_ascends) (sc := defScope s__law_ascends) (by decide +kernel)) (fun _ _ _ _ _ => (g_name (i := 4) sc__law_ascends.nd rfl (Or.inl rfl))) (fun _ _ _ _ _ => ts_nil) (fun _ _ _ _ _ => (e_and (e_n (n_call (ok__law_integer T) (hr.mono (by decide)) rfl T.g__law_integer T.t__law_integer.kp T.b__law_integer (al_nil (a_cons (e_v (pv 4)) a_nil)))) (e_one (e_chain od_le od_lt (o_v (pv 1)) (o_v (pv 4)) (o_v (pv 2))))))))) os_nil))))))) (b_one (s_ret (n_e e_bl))) b_nil)
    (b_one (s_ret (n_e (e_cb (cd_all rfl) rfl T.z_all (by decide +kernel) (os_cons (o_e (e_n (n_lc (own := [("k", 3)]) rfl sc__law_ascends.nd (i_rng1 rfl T.z_range (a_cons (e_op od_sub (o_e (e_cb cd_len rfl T.z_len (by decide +kernel) (os_cons (o_v (pv 0)) os_nil))) (o_e e_int)) a_nil)) (blkOk_by (own := [("k", 3)]) (N := N__law_ascends) (sc := defScope s__law_ascends) (by decide +kernel)) (fun _ _ _ _ _ => (g_name (i := 3) sc__law_ascends.nd rfl (Or.inl rfl))) (fun _ _ _ _ _ => ts_nil) (fun _ _ _ _ _ => (e_cmp od_lt (o_e (e_ix id_ix (o_v (pv 0)) (o_v (pv 3)))) (o_e (e_ix id_ix (o_v (pv 0)) (o_e (e_op od_add (o_v (pv 3)) (o_e e_int))))) (nomark _)))))) os_nil))))))
theorem ok__law_is_set (T : Txt w K mg) : FnOk P w K mg base CX0 3 T.a__law_is_set T.f__law_is_set ["told"] (spP K c__law_is_set) := ok_fun T.t__law_is_set sc__law_is_set (by decide) fun cdv A outer s H E hr =>
    (b_cons (s_if (t_w (tw_or (t_not (t_val (e_isi rfl T.z_isinstance (o_v (pv 0)) (pe_ty rfl T.z_tuple (by decide +kernel))))) (tw_or (t_cmp (od_ne hr.units) (o_e (e_cb cd_len rfl T.z_len (by decide +kernel) (os_cons (o_v (pv 0)) os_nil))) (o_e e_int) (nomark _)) (tw_or1 (t_not (t_val (e_cb (cd_all rfl) rfl T.z_all (by decide +kernel) (os_cons (o_e (e_n (n_lc (own := [("k", 7)]) rfl sc__law_is_set.nd (i_seq (e_tup (a_cons e_int (a_cons e_int (a_cons e_int a_nil))))) (blkOk_by (own := [("k", 7)]) (N := N__law_is_set) (sc := defScope s__law_is_set) (by decide +kernel)) (fun _ _ _ _ _ => (g_name (i := 7) sc__law_is_set.nd rfl (Or.inl rfl))) (fun _ _ _ _ _ => ts_nil) (fun _ _ _ _ _ => (e_n (n_call (ok__law_integer T) (hr.mono (by decide)) rfl T.g__law_integer T.t__law_integer.kp T.b__law_integer (al_nil (a_cons (e_ix id_ix (o_v (pv 0)) (o_v (pv 7))) a_nil)))))))) os_nil)))))))) (b_one (s_ret (n_e e_bl))) b_nil)
    (b_cons (s_asg (e_v (pv 0)) (g_tup rfl (gs_cons (g_name (i := 1) sc__law_is_set.nd rfl (Or.inl rfl)) (gs_cons (g_name (i := 2) sc__law_is_set.nd rfl (Or.inl rfl)) (gs_cons (g_name (i := 3) sc__law_is_set.nd rfl (Or.inl rfl)) (gs_cons (g_name (i := 4) sc__law_is_set.nd rfl (Or.inl rfl)) (gs_cons (g_name (i := 5) sc__law_is_set.nd rfl (Or.inl rfl)) (gs_cons (g_name (i := 6) sc__law_is_set.nd rfl (Or.inl rfl)) gs_nil)))))) (nG_cons (nG_cons (nG_cons (nG_cons (nG_cons (nG_cons nG_nil))))))))
    (b_cons (s_if (t_w (tw_or (t_cmp od_lt (o_v (pv 1)) (o_e e_int) (nomark _)) (tw_or1 (t_cmp od_gt (o_v (pv 3)) (o_v (pv 4)) (nomark _))))) (b_one (s_ret (n_e e_bl))) b_nil)
    (b_one (s_ret (n_e (e_and (e_n (n_call (ok__law_ascends T) (hr.mono (by decide)) rfl T.g__law_ascends T.t__law_ascends.kp T.b__law_ascends (al_nil (a_cons (e_v (pv 2)) (a_cons e_int (a_cons (e_v (pv 1)) a_nil)))))) (e_and (e_n (n_call (ok__law_ascends T) (hr.mono (by decide)) rfl T.g__law_ascends T.t__law_ascends.kp T.b__law_ascends (al_nil (a_cons (e_v (pv 6)) (a_cons e_int (a_cons (e_v (pv 1)) a_nil)))))) (e_one (e_n (n_call (ok__law_ascends T) (hr.mono (by decide)) rfl T.g__law_ascends T.t__law_ascends.kp T.b__law_ascends (al_nil (a_cons (e_v (pv 5)) (a_cons (e_v (pv 3)) (a_cons (e_v (pv 4)) a_nil)))))))))))))))
theorem ok__law_near (T : Txt w K mg) : FnOk P w K mg base CX0 62 T.a__law_near T.f__law_near ["pot", "value"] (spP K c__law_near) := ok_fun T.t__law_near sc__law_near (by decide) fun cdv A outer s H E hr =>
    (b_cons (s_for PassesOwn.never rfl (i_rng1 rfl T.z_range (a_cons (e_n (n_call (ok__law_take T) (hr.mono (by decide)) rfl T.g__law_take T.t__law_take.kp T.b__law_take (al_cons (pv 0) (al_nil (a_cons e_int a_nil))))) a_nil)) (g_name (i := 2) sc__law_near.nd rfl (Or.inl rfl)) (b_one (s_set (i := 1) sc__law_near.nd rfl (Or.inl rfl) (e_n (n_call (ok__law_mutant T) (hr.mono (by decide)) rfl T.g__law_mutant T.t__law_mutant.kp T.b__law_mutant (al_cons (pv 0) (al_nil (a_cons (e_v (pv 1)) (a_cons e_int a_nil)))))))))
    (b_one (s_ret (n_e (e_v (pv 1))))))
theorem ok__law_pairs (T : Txt w K mg) : FnOk P w K mg base CX0 1 T.a__law_pairs T.f__law_pairs ["part", "by"] (spP K c__law_pairs) := ok_fun T.t__law_pairs sc__law_pairs (by decide) fun cdv A outer s H E hr =>
    (b_cons (s_set (i := 2) sc__law_pairs.nd rfl (Or.inl rfl) (e_n (n_lst a_nil)))
    (b_cons (s_for PassesOwn.never rfl (i_rng1 rfl T.z_range (a_cons (e_v (pv 1)) a_nil)) (g_name (i := 3) sc__law_pairs.nd rfl (Or.inr rfl)) (b_one (s_set (i := 2) sc__law_pairs.nd rfl (Or.inl rfl) (e_op od_add (o_v (pv 2)) (o_e (e_n (n_lc (own := [("own", 4)]) rfl sc__law_pairs.nd (i_seq (e_v (pv 0))) (blkOk_by (own := [("own", 4)]) (N := N__law_pairs) (sc := defScope s__law_pairs) (by decide +kernel)) (fun _ _ _ _ _ => (g_name (i := 4) sc__law_pairs.nd rfl (Or.inl rfl))) (fun _ _ _ _ _ => ts_nil) (fun _ _ _ _ _ => (e_tup (a_cons (e_v (pv 4)) (a_cons (e_v (pv 3)) a_nil)))))))))))
    (b_one (s_ret (n_e (e_v (pv 2)))))))
theorem ok__law_wider (T : Txt w K mg) : FnOk P w K mg base CX0 2 T.a__law_wider T.f__law_wider ["pot", "some"] (spP K c__law_wider) := ok_fun T.t__law_wider sc__law_wider (by decide) fun cdv A outer s H E hr =>
    (b_cons (s_asg (e_v (pv 1)) (g_tup rfl (gs_cons (g_name (i := 2) sc__law_wider.nd rfl (Or.inr rfl)) (gs_cons (g_name (i := 3) sc__law_wider.nd rfl (Or.inl rfl)) (gs_cons (g_name (i := 4) sc__law_wider.nd rfl (Or.inl rfl)) (gs_cons (g_name (i := 5) sc__law_wider.nd rfl (Or.inl rfl)) (gs_cons (g_name (i := 6) sc__law_wider.nd rfl (Or.inl rfl)) (gs_cons (g_name (i := 7) sc__law_wider.nd rfl (Or.inl rfl)) gs_nil)))))) (nG_cons (nG_cons (nG_cons (nG_cons (nG_cons (nG_cons nG_nil))))))))
    (b_cons (s_asg (e_tup (a_cons (e_op od_add (o_e e_int) (o_e (e_n (n_call (ok__law_take T) (hr.mono (by decide)) rfl T.g__law_take T.t__law_take.kp T.b__law_take (al_cons (pv 0) (al_nil (a_cons e_int a_nil))))))) (a_cons (e_n (n_call (ok__law_take T) (hr.mono (by decide)) rfl T.g__law_take T.t__law_take.kp T.b__law_take (al_cons (pv 0) (al_nil (a_cons e_int a_nil))))) (a_cons (e_n (n_call (ok__law_take T) (hr.mono (by decide)) rfl T.g__law_take T.t__law_take.kp T.b__law_take (al_cons (pv 0) (al_nil (a_cons e_int a_nil))))) a_nil)))) (g_tup rfl (gs_cons (g_name (i := 8) sc__law_wider.nd rfl (Or.inr rfl)) (gs_cons (g_name (i := 9) sc__law_wider.nd rfl (Or.inl rfl)) (gs_cons (g_name (i := 10) sc__law_wider.nd rfl (Or.inl rfl)) gs_nil))) (nG_cons (nG_cons (nG_cons nG_nil)))))
    (b_cons (s_setLc (i := 11) (own := [("part", 12)]) rfl sc__law_wider.nd rfl rfl (sw_true rfl rfl rfl (by decide +kernel)) (i_seq (e_tup (a_cons (e_v (pv 3)) (a_cons (e_v (pv 7)) a_nil)))) (blkOk_by (own := [("part", 12)]) (N := N__law_wider) (sc := defScope s__law_wider) (by decide +kernel)) (fun _ _ _ _ _ => (g_name (i := 12) sc__law_wider.nd rfl (Or.inl rfl))) (fun _ _ _ _ _ => ts_nil) (fun _ _ _ _ _ => (e_cty cd_tuple rfl T.z_tuple (by decide +kernel) (os_cons (o_e (e_n (n_cb cd_sorted rfl T.z_sorted (by decide +kernel) (os_cons (o_e (e_n (n_lc (own := [("a", 14), ("k", 15)]) rfl sc__law_wider.nd (i_seq (e_n (n_call (ok__law_pairs T) (hr.mono (by decide)) rfl T.g__law_pairs T.t__law_pairs.kp T.b__law_pairs (al_nil (a_cons (e_v (pv 12)) (a_cons (e_v (pv 8)) a_nil)))))) (blkOk_by (own := [("a", 14), ("k", 15)]) (N := N__law_wider) (sc := { kind := .function, names := [(".0", .local), ("part", .local), ("tuple", .globalImplicit), ("sorted", .globalImplicit), ("_law_pairs", .globalImplicit), ("by", .cell), ("m", .cell)], isGenerator := false, isCoroutine := false }) (by decide +kernel)) (fun _ _ _ _ _ => (g_tup rfl (gs_cons (g_name (i := 14) sc__law_wider.nd rfl (Or.inl rfl)) (gs_cons (g_name (i := 15) sc__law_wider.nd rfl (Or.inl rfl)) gs_nil)) (nG_cons (nG_cons nG_nil)))) (fun _ _ _ _ _ => ts_nil) (fun _ _ _ _ _ => (e_op od_add (o_v (pv 14)) (o_e (e_op od_mul (o_v (pv 2)) (o_v (pv 15))))))))) os_nil)))) os_nil))))
    (b_one (s_ret (n_e (e_tup (a_cons (e_op od_mul (o_v (pv 2)) (o_v (pv 8))) (a_cons (e_ix id_ix (o_v (pv 11)) (o_e e_int)) (a_cons (e_op od_sub (o_v (pv 4)) (o_v (pv 9))) (a_cons (e_op od_add (o_v (pv 5)) (o_v (pv 10))) (a_cons (e_cty cd_tuple rfl T.z_tuple (by decide +kernel) (os_cons (o_e (e_n (n_lc (own := [("n", 13)]) rfl sc__law_wider.nd (i_rng2 rfl T.z_range (a_cons (e_op od_sub (o_v (pv 4)) (o_v (pv 9))) (a_cons (e_op od_add (o_v (pv 5)) (o_v (pv 10))) a_nil))) (blkOk_by (own := [("n", 13)]) (N := N__law_wider) (sc := defScope s__law_wider) (by decide +kernel)) (fun _ _ _ _ _ => (g_name (i := 13) sc__law_wider.nd rfl (Or.inl rfl))) (fun _ _ _ _ _ => (ts_one (t_val (e_n (n_call (ok__law_has T) (hr.mono (by decide)) rfl T.g__law_has T.t__law_has.kp T.b__law_has (al_nil (a_cons (e_v (pv 1)) (a_cons (e_v (pv 13)) a_nil)))))))) (fun _ _ _ _ _ => (e_v (pv 13)))))) os_nil)) (a_cons (e_ix id_ix (o_v (pv 11)) (o_e e_int)) a_nil)))))))))))))
theorem ok_law (T : Txt w K mg) : FnOk P w K mg base CX0 63 T.a_law T.f_law ["script"] (spP K c_law) := ok_fun T.t_law sc_law (by decide) fun cdv A outer s H E hr =>
    (b_cons (s_setN (i := 1) sc_law.nd rfl (Or.inr rfl) (n_call (ok__law_pot T) (hr.mono (by decide)) rfl T.g__law_pot T.t__law_pot.kp T.b__law_pot (al_nil (a_cons (e_v (pv 0)) a_nil))))
    (b_cons (s_for PassesOwn.never rfl (i_rng1 rfl T.z_range (a_cons e_int a_nil)) (g_name (i := 2) sc_law.nd rfl (Or.inl rfl)) (b_cons (s_set (i := 3) sc_law.nd rfl (Or.inr rfl) (e_op od_add (o_e e_int) (o_e (e_n (n_call (ok__law_take T) (hr.mono (by decide)) rfl T.g__law_take T.t__law_take.kp T.b__law_take (al_cons (pv 1) (al_nil (a_cons e_int a_nil))))))))
    (b_cons (s_set (i := 4) sc_law.nd rfl (Or.inr rfl) (e_cty cd_tuple rfl T.z_tuple (by decide +kernel) (os_cons (o_e (e_n (n_lc (own := [("row", 12)]) rfl sc_law.nd (i_rng1 rfl T.z_range (a_cons (e_n (n_call (ok__law_take T) (hr.mono (by decide)) rfl T.g__law_take T.t__law_take.kp T.b__law_take (al_cons (pv 1) (al_nil (a_cons e_int a_nil))))) a_nil)) (blkOk_by (own := [("row", 12)]) (N := N_law) (sc := defScope s_law) (by decide +kernel)) (fun _ _ _ _ _ => (g_name (i := 12) sc_law.nd rfl (Or.inl rfl))) (fun _ _ _ _ _ => ts_nil) (fun _ _ _ _ _ => (e_cty cd_tuple rfl T.z_tuple (by decide +kernel) (os_cons (o_e (e_n (n_lc (own := [("column", 13)]) rfl sc_law.nd (i_rng1 rfl T.z_range (a_cons (e_v (pv 3)) a_nil)) (blkOk_by (own := [("column", 13)]) (N := N_law) (sc := { kind := .function, names := [(".0", .local), ("row", .local), ("tuple", .globalImplicit), ("range", .globalImplicit), ("d", .cell), ("pot", .cell)], isGenerator := false, isCoroutine := false }) (by decide +kernel)) (fun _ _ _ _ _ => (g_name (i := 13) sc_law.nd rfl (Or.inl rfl))) (fun _ _ _ _ _ => ts_nil) (fun _ _ _ _ _ => (e_op od_sub (o_e (e_n (n_call (ok__law_take T) (hr.mono (by decide)) rfl T.g__law_take T.t__law_take.kp T.b__law_take (al_cons (pv 1) (al_nil (a_cons e_int a_nil)))))) (o_e e_int)))))) os_nil)))))) os_nil)))
    (b_cons (s_set (i := 5) sc_law.nd rfl (Or.inr rfl) (e_tup (a_cons (e_v (pv 3)) (a_cons (e_cty cd_tuple rfl T.z_tuple (by decide +kernel) (os_cons (o_e (e_n (n_lc (own := [("row", 12)]) rfl sc_law.nd (i_seq (e_v (pv 4))) (blkOk_by (own := [("row", 12)]) (N := N_law) (sc := defScope s_law) (by decide +kernel)) (fun _ _ _ _ _ => (g_name (i := 12) sc_law.nd rfl (Or.inl rfl))) (fun _ _ _ _ _ => (ts_one (t_val (e_cb (cd_any rfl) rfl T.z_any (by decide +kernel) (os_cons (o_e (e_n (n_lc (own := [("own", 14)]) rfl sc_law.nd (i_seq (e_v (pv 12))) (blkOk_by (own := [("own", 14)]) (N := N_law) (sc := { kind := .function, names := [(".0", .local), ("row", .local), ("any", .globalImplicit)], isGenerator := false, isCoroutine := false }) (by decide +kernel)) (fun _ _ _ _ _ => (g_name (i := 14) sc_law.nd rfl (Or.inl rfl))) (fun _ _ _ _ _ => ts_nil) (fun _ _ _ _ _ => (e_cmp (od_ne hr.units) (o_v (pv 14)) (o_e e_int) (nomark _)))))) os_nil))))) (fun _ _ _ _ _ => (e_v (pv 12)))))) os_nil)) a_nil))))
    (b_cons (s_asg (e_tup (a_cons (e_n (n_call (ok__law_small_set T) (hr.mono (by decide)) rfl T.g__law_small_set T.t__law_small_set.kp T.b__law_small_set (al_cons (pv 1) (al_nil a_nil)))) (a_cons (e_n (n_call (ok__law_least T) (hr.mono (by decide)) rfl T.g__law_least T.t__law_least.kp T.b__law_least (al_nil (a_cons (e_n (n_call (ok__law_small_set T) (hr.mono (by decide)) rfl T.g__law_small_set T.t__law_small_set.kp T.b__law_small_set (al_cons (pv 1) (al_nil a_nil)))) a_nil)))) a_nil))) (g_tup rfl (gs_cons (g_name (i := 6) sc_law.nd rfl (Or.inr rfl)) (gs_cons (g_name (i := 7) sc_law.nd rfl (Or.inr rfl)) gs_nil)) (nG_cons (nG_cons nG_nil))))
    (b_cons (s_set (i := 8) sc_law.nd rfl (Or.inl rfl) (e_n (n_call (ok__law_wider T) (hr.mono (by decide)) rfl T.g__law_wider T.t__law_wider.kp T.b__law_wider (al_cons (pv 1) (al_nil (a_cons (e_v (pv 7)) a_nil))))))
    (b_cons (s_if (t_not (t_val (e_n (n_call (ok__law_same T) (hr.mono (by decide)) rfl T.g__law_same T.t__law_same.kp T.b__law_same (al_nil (a_cons (e_n (n_lst (a_cons (e_n (n_call (ok_is_bundle T) (hr.mono (by decide)) rfl T.g_is_bundle T.t_is_bundle.kp T.b_is_bundle (al_nil (a_cons (e_v (pv 5)) a_nil)))) (a_cons (e_n (n_call (ok_is_grid T) (hr.mono (by decide)) rfl T.g_is_grid T.t_is_grid.kp T.b_is_grid (al_nil (a_cons (e_tup (a_cons (e_v (pv 3)) (a_cons (e_v (pv 4)) a_nil))) a_nil)))) (a_cons (e_n (n_call (ok_is_set T) (hr.mono (by decide)) rfl T.g_is_set T.t_is_set.kp T.b_is_set (al_nil (a_cons (e_v (pv 6)) a_nil)))) (a_cons (e_n (n_callK0 (ok_is_least_set T) (hr.mono (by decide)) rfl T.g_is_least_set T.t_is_least_set.kp T.kb_is_least_set_told_0 (k_cons (e_v (pv 7)) k_nil))) (a_cons (e_n (n_call (ok_is_set T) (hr.mono (by decide)) rfl T.g_is_set T.t_is_set.kp T.b_is_set (al_nil (a_cons (e_v (pv 8)) a_nil)))) a_nil))))))) (a_cons (e_n (n_rep (a_cons e_bl a_nil) e_int)) a_nil))))))) (b_one (s_ret (n_e e_bl))) b_nil)
    (b_cons (s_if (t_not (t_val (e_n (n_call (ok__law_same T) (hr.mono (by decide)) rfl T.g__law_same T.t__law_same.kp T.b__law_same (al_nil (a_cons (e_n (n_lst (a_cons (e_n (n_call (ok_is_least_set T) (hr.mono (by decide)) rfl T.g_is_least_set T.t_is_least_set.kp T.b_is_least_set (al_nil (a_cons (e_v (pv 6)) a_nil)))) (a_cons (e_n (n_call (ok_is_least_set T) (hr.mono (by decide)) rfl T.g_is_least_set T.t_is_least_set.kp T.b_is_least_set (al_nil (a_cons (e_v (pv 8)) a_nil)))) a_nil)))) (a_cons (e_n (n_lst (a_cons (e_cmp (od_eq hr.units) (o_e (e_n (n_call (ok__law_least T) (hr.mono (by decide)) rfl T.g__law_least T.t__law_least.kp T.b__law_least (al_nil (a_cons (e_v (pv 6)) a_nil))))) (o_v (pv 6)) (nomark _)) (a_cons (e_cmp (od_eq hr.units) (o_v (pv 8)) (o_v (pv 7)) (nomark _)) a_nil)))) a_nil))))))) (b_one (s_ret (n_e e_bl))) b_nil)
    (b_one (s_for PassesOwn.never rfl (i_seq (e_n (n_lc (own := [("again", 11)]) rfl sc_law.nd (i_seq (e_tup (a_cons e_int (a_cons e_int (a_cons e_int (a_cons e_int (a_cons e_int a_nil))))))) (blkOk_by (own := [("again", 11)]) (N := N_law) (sc := defScope s_law) (by decide +kernel)) (fun _ _ _ _ _ => (g_name (i := 11) sc_law.nd rfl (Or.inl rfl))) (fun _ _ _ _ _ => ts_nil) (fun _ _ _ _ _ => (e_n (n_call (ok__law_near T) (hr.mono (by decide)) rfl T.g__law_near T.t__law_near.kp T.b__law_near (al_cons (pv 1) (al_nil (a_cons (e_ix id_ix (o_e (e_n (n_lst (a_cons (e_v (pv 5)) (a_cons (e_tup (a_cons (e_v (pv 3)) (a_cons (e_v (pv 4)) a_nil))) (a_cons (e_v (pv 6)) (a_cons (e_v (pv 7)) a_nil))))))) (o_v (pv 11))) a_nil))))))))) (g_name (i := 9) sc_law.nd rfl (Or.inl rfl)) (b_cons (s_set (i := 10) sc_law.nd rfl (Or.inl rfl) (e_n (n_lst (a_cons (e_n (n_call (ok__law_is_bundle T) (hr.mono (by decide)) rfl T.g__law_is_bundle T.t__law_is_bundle.kp T.b__law_is_bundle (al_nil (a_cons (e_v (pv 9)) a_nil)))) (a_cons (e_n (n_call (ok__law_is_grid T) (hr.mono (by decide)) rfl T.g__law_is_grid T.t__law_is_grid.kp T.b__law_is_grid (al_nil (a_cons (e_v (pv 9)) a_nil)))) (a_cons (e_n (n_call (ok__law_is_set T) (hr.mono (by decide)) rfl T.g__law_is_set T.t__law_is_set.kp T.b__law_is_set (al_nil (a_cons (e_v (pv 9)) a_nil)))) a_nil))))))
    (b_cons (s_if (t_not (t_val (e_n (n_call (ok__law_same T) (hr.mono (by decide)) rfl T.g__law_same T.t__law_same.kp T.b__law_same (al_nil (a_cons (e_n (n_lst (a_cons (e_n (n_call (ok_is_bundle T) (hr.mono (by decide)) rfl T.g_is_bundle T.t_is_bundle.kp T.b_is_bundle (al_nil (a_cons (e_v (pv 9)) a_nil)))) (a_cons (e_n (n_callK0 (ok_is_grid T) (hr.mono (by decide)) rfl T.g_is_grid T.t_is_grid.kp T.kb_is_grid_told_0 (k_cons (e_v (pv 9)) k_nil))) (a_cons (e_n (n_call (ok_is_set T) (hr.mono (by decide)) rfl T.g_is_set T.t_is_set.kp T.b_is_set (al_nil (a_cons (e_v (pv 9)) a_nil)))) a_nil))))) (a_cons (e_v (pv 10)) a_nil))))))) (b_one (s_ret (n_e e_bl))) b_nil)
    (b_one (s_if (t_not (t_val (e_n (n_call (ok__law_same T) (hr.mono (by decide)) rfl T.g__law_same T.t__law_same.kp T.b__law_same (al_nil (a_cons (e_n (n_callK0 (ok_is_least_set T) (hr.mono (by decide)) rfl T.g_is_least_set T.t_is_least_set.kp T.kb_is_least_set_told_0 (k_cons (e_v (pv 9)) k_nil))) (a_cons (e_and (e_ix id_ix (o_v (pv 10)) (o_e e_int)) (e_one (e_cmp (od_eq hr.units) (o_e (e_n (n_call (ok__law_least T) (hr.mono (by decide)) rfl T.g__law_least T.t__law_least.kp T.b__law_least (al_nil (a_cons (e_v (pv 9)) a_nil))))) (o_v (pv 9)) (nomark _)))) a_nil))))))) (b_one (s_ret (n_e e_bl))) b_nil))))))))))))))
    (b_one (s_ret (n_e e_bl)))))
end
theorem all_mk {P : Program} {w : World} {K : Fr} {h : Heap} {mg : Str → Option Value} {fa : Addr} (X : K.In h) (G : h.Ns mainGlobals mg) (hfa : mg "law" = some (.ref fa))
    {a_is_integer : Addr} {od_is_integer an_is_integer : Option Addr} {sl_is_integer : Array (Option Value)} {oc_is_integer kV_is_integer dc_is_integer pm_is_integer cd_is_integer ct_is_integer : Value}
    {a_is_pair : Addr} {od_is_pair an_is_pair : Option Addr} {sl_is_pair : Array (Option Value)} {oc_is_pair kV_is_pair dc_is_pair pm_is_pair cd_is_pair ct_is_pair : Value}
    {a_are_integers : Addr} {od_are_integers an_are_integers : Option Addr} {sl_are_integers : Array (Option Value)} {oc_are_integers kV_are_integers dc_are_integers pm_are_integers cd_are_integers ct_are_integers : Value}
    {a_is_ascending : Addr} {od_is_ascending an_is_ascending : Option Addr} {sl_is_ascending : Array (Option Value)} {oc_is_ascending kV_is_ascending dc_is_ascending pm_is_ascending cd_is_ascending ct_is_ascending : Value}
    {a_is_set : Addr} {od_is_set an_is_set : Option Addr} {sl_is_set : Array (Option Value)} {oc_is_set kV_is_set dc_is_set pm_is_set cd_is_set ct_is_set : Value}
    {a_has_it : Addr} {od_has_it an_has_it : Option Addr} {sl_has_it : Array (Option Value)} {oc_has_it kV_has_it dc_has_it pm_has_it cd_has_it ct_has_it : Value}
    {a_least_round : Addr} {od_least_round an_least_round : Option Addr} {sl_least_round : Array (Option Value)} {oc_least_round kV_least_round dc_least_round pm_least_round cd_least_round ct_least_round : Value}
    {a_least_of : Addr} {od_least_of an_least_of : Option Addr} {sl_least_of : Array (Option Value)} {oc_least_of kV_least_of dc_least_of pm_least_of cd_least_of ct_least_of : Value}
    {a_is_least_set : Addr} {od_is_least_set an_is_least_set : Option Addr} {sl_is_least_set : Array (Option Value)} {oc_is_least_set kV_is_least_set dc_is_least_set pm_is_least_set cd_is_least_set ct_is_least_set : Value}
    {a_is_stick : Addr} {od_is_stick an_is_stick : Option Addr} {sl_is_stick : Array (Option Value)} {oc_is_stick kV_is_stick dc_is_stick pm_is_stick cd_is_stick ct_is_stick : Value}
    {a_is_bundle_of : Addr} {od_is_bundle_of an_is_bundle_of : Option Addr} {sl_is_bundle_of : Array (Option Value)} {oc_is_bundle_of kV_is_bundle_of dc_is_bundle_of pm_is_bundle_of cd_is_bundle_of ct_is_bundle_of : Value}
    {a_is_bundle : Addr} {od_is_bundle an_is_bundle : Option Addr} {sl_is_bundle : Array (Option Value)} {oc_is_bundle kV_is_bundle dc_is_bundle pm_is_bundle cd_is_bundle ct_is_bundle : Value}
    {a_is_grid : Addr} {od_is_grid an_is_grid : Option Addr} {sl_is_grid : Array (Option Value)} {oc_is_grid kV_is_grid dc_is_grid pm_is_grid cd_is_grid ct_is_grid : Value}
    {a__law_pot : Addr} {od__law_pot an__law_pot : Option Addr} {sl__law_pot : Array (Option Value)} {oc__law_pot kV__law_pot dc__law_pot pm__law_pot cd__law_pot ct__law_pot : Value}
    {a__law_take : Addr} {od__law_take an__law_take : Option Addr} {sl__law_take : Array (Option Value)} {oc__law_take kV__law_take dc__law_take pm__law_take cd__law_take ct__law_take : Value}
    {a__law_same : Addr} {od__law_same an__law_same : Option Addr} {sl__law_same : Array (Option Value)} {oc__law_same kV__law_same dc__law_same pm__law_same cd__law_same ct__law_same : Value}
    {a__law_has : Addr} {od__law_has an__law_has : Option Addr} {sl__law_has : Array (Option Value)} {oc__law_has kV__law_has dc__law_has pm__law_has cd__law_has ct__law_has : Value}
    {a__law_goes : Addr} {od__law_goes an__law_goes : Option Addr} {sl__law_goes : Array (Option Value)} {oc__law_goes kV__law_goes dc__law_goes pm__law_goes cd__law_goes ct__law_goes : Value}
    {a__law_least : Addr} {od__law_least an__law_least : Option Addr} {sl__law_least : Array (Option Value)} {oc__law_least kV__law_least dc__law_least pm__law_least cd__law_least ct__law_least : Value}
    {a__law_small_set : Addr} {od__law_small_set an__law_small_set : Option Addr} {sl__law_small_set : Array (Option Value)} {oc__law_small_set kV__law_small_set dc__law_small_set pm__law_small_set cd__law_small_set ct__law_small_set : Value}
    {a__law_mutant : Addr} {od__law_mutant an__law_mutant : Option Addr} {sl__law_mutant : Array (Option Value)} {oc__law_mutant kV__law_mutant dc__law_mutant pm__law_mutant cd__law_mutant ct__law_mutant : Value}
    {a__law_integer : Addr} {od__law_integer an__law_integer : Option Addr} {sl__law_integer : Array (Option Value)} {oc__law_integer kV__law_integer dc__law_integer pm__law_integer cd__law_integer ct__law_integer : Value}
    {a__law_row_of_integers : Addr} {od__law_row_of_integers an__law_row_of_integers : Option Addr} {sl__law_row_of_integers : Array (Option Value)} {oc__law_row_of_integers kV__law_row_of_integers dc__law_row_of_integers pm__law_row_of_integers cd__law_row_of_integers ct__law_row_of_integers : Value}
    {a__law_headed : Addr} {od__law_headed an__law_headed : Option Addr} {sl__law_headed : Array (Option Value)} {oc__law_headed kV__law_headed dc__law_headed pm__law_headed cd__law_headed ct__law_headed : Value}
    {a__law_is_grid : Addr} {od__law_is_grid an__law_is_grid : Option Addr} {sl__law_is_grid : Array (Option Value)} {oc__law_is_grid kV__law_is_grid dc__law_is_grid pm__law_is_grid cd__law_is_grid ct__law_is_grid : Value}
    {a__law_is_bundle : Addr} {od__law_is_bundle an__law_is_bundle : Option Addr} {sl__law_is_bundle : Array (Option Value)} {oc__law_is_bundle kV__law_is_bundle dc__law_is_bundle pm__law_is_bundle cd__law_is_bundle ct__law_is_bundle : Value}
    {a__law_ascends : Addr} {od__law_ascends an__law_ascends : Option Addr} {sl__law_ascends : Array (Option Value)} {oc__law_ascends kV__law_ascends dc__law_ascends pm__law_ascends cd__law_ascends ct__law_ascends : Value}
    {a__law_is_set : Addr} {od__law_is_set an__law_is_set : Option Addr} {sl__law_is_set : Array (Option Value)} {oc__law_is_set kV__law_is_set dc__law_is_set pm__law_is_set cd__law_is_set ct__law_is_set : Value}
    {a__law_near : Addr} {od__law_near an__law_near : Option Addr} {sl__law_near : Array (Option Value)} {oc__law_near kV__law_near dc__law_near pm__law_near cd__law_near ct__law_near : Value}
    {a__law_pairs : Addr} {od__law_pairs an__law_pairs : Option Addr} {sl__law_pairs : Array (Option Value)} {oc__law_pairs kV__law_pairs dc__law_pairs pm__law_pairs cd__law_pairs ct__law_pairs : Value}
    {a__law_wider : Addr} {od__law_wider an__law_wider : Option Addr} {sl__law_wider : Array (Option Value)} {oc__law_wider kV__law_wider dc__law_wider pm__law_wider cd__law_wider ct__law_wider : Value}
    {a_law : Addr} {od_law an_law : Option Addr} {sl_law : Array (Option Value)} {oc_law kV_law dc_law pm_law cd_law ct_law : Value}
    (z_all : PySem.W.nsIn K mainGlobals "all" = some none)
    (z_any : PySem.W.nsIn K mainGlobals "any" = some none)
    (z_bool : PySem.W.nsIn K mainGlobals "bool" = some none)
    (z_int : PySem.W.nsIn K mainGlobals "int" = some none)
    (z_isinstance : PySem.W.nsIn K mainGlobals "isinstance" = some none)
    (z_len : PySem.W.nsIn K mainGlobals "len" = some none)
    (z_list : PySem.W.nsIn K mainGlobals "list" = some none)
    (z_max : PySem.W.nsIn K mainGlobals "max" = some none)
    (z_min : PySem.W.nsIn K mainGlobals "min" = some none)
    (z_range : PySem.W.nsIn K mainGlobals "range" = some none)
    (z_set : PySem.W.nsIn K mainGlobals "set" = some none)
    (z_sorted : PySem.W.nsIn K mainGlobals "sorted" = some none)
    (z_str : PySem.W.nsIn K mainGlobals "str" = some none)
    (z_tuple : PySem.W.nsIn K mainGlobals "tuple" = some none)
    (i_lcm : PySem.W.nsIn K mainGlobals "lcm" = some (some (.builtin "math.lcm")))
    (a_is_integer_ : PySem.W.nsIn K mainGlobals "is_integer" = some (some (.ref a_is_integer)))
    (l_is_integer : K.lookup a_is_integer = some ⟨oc_is_integer, od_is_integer, .func (PySem.W.fnOf "is_integer" "is_integer" (defArgs s_is_integer) (defBody s_is_integer) (defScope s_is_integer) .none kV_is_integer dc_is_integer pm_is_integer an_is_integer cd_is_integer ct_is_integer), sl_is_integer⟩)
    (c_is_integer_ : PySem.W.codeIn K cd_is_integer "is_integer" = true)
    (k_is_integer_ : PySem.W.keepIn K (.ref a_is_integer) = true)
    (a_is_pair_ : PySem.W.nsIn K mainGlobals "is_pair" = some (some (.ref a_is_pair)))
    (l_is_pair : K.lookup a_is_pair = some ⟨oc_is_pair, od_is_pair, .func (PySem.W.fnOf "is_pair" "is_pair" (defArgs s_is_pair) (defBody s_is_pair) (defScope s_is_pair) .none kV_is_pair dc_is_pair pm_is_pair an_is_pair cd_is_pair ct_is_pair), sl_is_pair⟩)
    (c_is_pair_ : PySem.W.codeIn K cd_is_pair "is_pair" = true)
    (k_is_pair_ : PySem.W.keepIn K (.ref a_is_pair) = true)
    (a_are_integers_ : PySem.W.nsIn K mainGlobals "are_integers" = some (some (.ref a_are_integers)))
    (l_are_integers : K.lookup a_are_integers = some ⟨oc_are_integers, od_are_integers, .func (PySem.W.fnOf "are_integers" "are_integers" (defArgs s_are_integers) (defBody s_are_integers) (defScope s_are_integers) .none kV_are_integers dc_are_integers pm_are_integers an_are_integers cd_are_integers ct_are_integers), sl_are_integers⟩)
    (c_are_integers_ : PySem.W.codeIn K cd_are_integers "are_integers" = true)
    (k_are_integers_ : PySem.W.keepIn K (.ref a_are_integers) = true)
    (a_is_ascending_ : PySem.W.nsIn K mainGlobals "is_ascending" = some (some (.ref a_is_ascending)))
    (l_is_ascending : K.lookup a_is_ascending = some ⟨oc_is_ascending, od_is_ascending, .func (PySem.W.fnOf "is_ascending" "is_ascending" (defArgs s_is_ascending) (defBody s_is_ascending) (defScope s_is_ascending) .none kV_is_ascending dc_is_ascending pm_is_ascending an_is_ascending cd_is_ascending ct_is_ascending), sl_is_ascending⟩)
    (c_is_ascending_ : PySem.W.codeIn K cd_is_ascending "is_ascending" = true)
    (k_is_ascending_ : PySem.W.keepIn K (.ref a_is_ascending) = true)
    (a_is_set_ : PySem.W.nsIn K mainGlobals "is_set" = some (some (.ref a_is_set)))
    (l_is_set : K.lookup a_is_set = some ⟨oc_is_set, od_is_set, .func (PySem.W.fnOf "is_set" "is_set" (defArgs s_is_set) (defBody s_is_set) (defScope s_is_set) .none kV_is_set dc_is_set pm_is_set an_is_set cd_is_set ct_is_set), sl_is_set⟩)
    (c_is_set_ : PySem.W.codeIn K cd_is_set "is_set" = true)
    (k_is_set_ : PySem.W.keepIn K (.ref a_is_set) = true)
    (a_has_it_ : PySem.W.nsIn K mainGlobals "has_it" = some (some (.ref a_has_it)))
    (l_has_it : K.lookup a_has_it = some ⟨oc_has_it, od_has_it, .func (PySem.W.fnOf "has_it" "has_it" (defArgs s_has_it) (defBody s_has_it) (defScope s_has_it) .none kV_has_it dc_has_it pm_has_it an_has_it cd_has_it ct_has_it), sl_has_it⟩)
    (c_has_it_ : PySem.W.codeIn K cd_has_it "has_it" = true)
    (k_has_it_ : PySem.W.keepIn K (.ref a_has_it) = true)
    (a_least_round_ : PySem.W.nsIn K mainGlobals "least_round" = some (some (.ref a_least_round)))
    (l_least_round : K.lookup a_least_round = some ⟨oc_least_round, od_least_round, .func (PySem.W.fnOf "least_round" "least_round" (defArgs s_least_round) (defBody s_least_round) (defScope s_least_round) .none kV_least_round dc_least_round pm_least_round an_least_round cd_least_round ct_least_round), sl_least_round⟩)
    (c_least_round_ : PySem.W.codeIn K cd_least_round "least_round" = true)
    (k_least_round_ : PySem.W.keepIn K (.ref a_least_round) = true)
    (a_least_of_ : PySem.W.nsIn K mainGlobals "least_of" = some (some (.ref a_least_of)))
    (l_least_of : K.lookup a_least_of = some ⟨oc_least_of, od_least_of, .func (PySem.W.fnOf "least_of" "least_of" (defArgs s_least_of) (defBody s_least_of) (defScope s_least_of) .none kV_least_of dc_least_of pm_least_of an_least_of cd_least_of ct_least_of), sl_least_of⟩)
    (c_least_of_ : PySem.W.codeIn K cd_least_of "least_of" = true)
    (k_least_of_ : PySem.W.keepIn K (.ref a_least_of) = true)
    (a_is_least_set_ : PySem.W.nsIn K mainGlobals "is_least_set" = some (some (.ref a_is_least_set)))
    (l_is_least_set : K.lookup a_is_least_set = some ⟨oc_is_least_set, od_is_least_set, .func (PySem.W.fnOf "is_least_set" "is_least_set" (defArgs s_is_least_set) (defBody s_is_least_set) (defScope s_is_least_set) .none kV_is_least_set dc_is_least_set pm_is_least_set an_is_least_set cd_is_least_set ct_is_least_set), sl_is_least_set⟩)
    (c_is_least_set_ : PySem.W.codeIn K cd_is_least_set "is_least_set" = true)
    (k_is_least_set_ : PySem.W.keepIn K (.ref a_is_least_set) = true)
    (a_is_stick_ : PySem.W.nsIn K mainGlobals "is_stick" = some (some (.ref a_is_stick)))
    (l_is_stick : K.lookup a_is_stick = some ⟨oc_is_stick, od_is_stick, .func (PySem.W.fnOf "is_stick" "is_stick" (defArgs s_is_stick) (defBody s_is_stick) (defScope s_is_stick) .none kV_is_stick dc_is_stick pm_is_stick an_is_stick cd_is_stick ct_is_stick), sl_is_stick⟩)
    (c_is_stick_ : PySem.W.codeIn K cd_is_stick "is_stick" = true)
    (k_is_stick_ : PySem.W.keepIn K (.ref a_is_stick) = true)
    (a_is_bundle_of_ : PySem.W.nsIn K mainGlobals "is_bundle_of" = some (some (.ref a_is_bundle_of)))
    (l_is_bundle_of : K.lookup a_is_bundle_of = some ⟨oc_is_bundle_of, od_is_bundle_of, .func (PySem.W.fnOf "is_bundle_of" "is_bundle_of" (defArgs s_is_bundle_of) (defBody s_is_bundle_of) (defScope s_is_bundle_of) .none kV_is_bundle_of dc_is_bundle_of pm_is_bundle_of an_is_bundle_of cd_is_bundle_of ct_is_bundle_of), sl_is_bundle_of⟩)
    (c_is_bundle_of_ : PySem.W.codeIn K cd_is_bundle_of "is_bundle_of" = true)
    (k_is_bundle_of_ : PySem.W.keepIn K (.ref a_is_bundle_of) = true)
    (a_is_bundle_ : PySem.W.nsIn K mainGlobals "is_bundle" = some (some (.ref a_is_bundle)))
    (l_is_bundle : K.lookup a_is_bundle = some ⟨oc_is_bundle, od_is_bundle, .func (PySem.W.fnOf "is_bundle" "is_bundle" (defArgs s_is_bundle) (defBody s_is_bundle) (defScope s_is_bundle) .none kV_is_bundle dc_is_bundle pm_is_bundle an_is_bundle cd_is_bundle ct_is_bundle), sl_is_bundle⟩)
    (c_is_bundle_ : PySem.W.codeIn K cd_is_bundle "is_bundle" = true)
    (k_is_bundle_ : PySem.W.keepIn K (.ref a_is_bundle) = true)
    (a_is_grid_ : PySem.W.nsIn K mainGlobals "is_grid" = some (some (.ref a_is_grid)))
    (l_is_grid : K.lookup a_is_grid = some ⟨oc_is_grid, od_is_grid, .func (PySem.W.fnOf "is_grid" "is_grid" (defArgs s_is_grid) (defBody s_is_grid) (defScope s_is_grid) .none kV_is_grid dc_is_grid pm_is_grid an_is_grid cd_is_grid ct_is_grid), sl_is_grid⟩)
    (c_is_grid_ : PySem.W.codeIn K cd_is_grid "is_grid" = true)
    (k_is_grid_ : PySem.W.keepIn K (.ref a_is_grid) = true)
    (a__law_pot_ : PySem.W.nsIn K mainGlobals "_law_pot" = some (some (.ref a__law_pot)))
    (l__law_pot : K.lookup a__law_pot = some ⟨oc__law_pot, od__law_pot, .func (PySem.W.fnOf "_law_pot" "_law_pot" (defArgs s__law_pot) (defBody s__law_pot) (defScope s__law_pot) .none kV__law_pot dc__law_pot pm__law_pot an__law_pot cd__law_pot ct__law_pot), sl__law_pot⟩)
    (c__law_pot_ : PySem.W.codeIn K cd__law_pot "_law_pot" = true)
    (k__law_pot_ : PySem.W.keepIn K (.ref a__law_pot) = true)
    (a__law_take_ : PySem.W.nsIn K mainGlobals "_law_take" = some (some (.ref a__law_take)))
    (l__law_take : K.lookup a__law_take = some ⟨oc__law_take, od__law_take, .func (PySem.W.fnOf "_law_take" "_law_take" (defArgs s__law_take) (defBody s__law_take) (defScope s__law_take) .none kV__law_take dc__law_take pm__law_take an__law_take cd__law_take ct__law_take), sl__law_take⟩)
    (c__law_take_ : PySem.W.codeIn K cd__law_take "_law_take" = true)
    (k__law_take_ : PySem.W.keepIn K (.ref a__law_take) = true)
    (a__law_same_ : PySem.W.nsIn K mainGlobals "_law_same" = some (some (.ref a__law_same)))
    (l__law_same : K.lookup a__law_same = some ⟨oc__law_same, od__law_same, .func (PySem.W.fnOf "_law_same" "_law_same" (defArgs s__law_same) (defBody s__law_same) (defScope s__law_same) .none kV__law_same dc__law_same pm__law_same an__law_same cd__law_same ct__law_same), sl__law_same⟩)
    (c__law_same_ : PySem.W.codeIn K cd__law_same "_law_same" = true)
    (k__law_same_ : PySem.W.keepIn K (.ref a__law_same) = true)
    (a__law_has_ : PySem.W.nsIn K mainGlobals "_law_has" = some (some (.ref a__law_has)))
    (l__law_has : K.lookup a__law_has = some ⟨oc__law_has, od__law_has, .func (PySem.W.fnOf "_law_has" "_law_has" (defArgs s__law_has) (defBody s__law_has) (defScope s__law_has) .none kV__law_has dc__law_has pm__law_has an__law_has cd__law_has ct__law_has), sl__law_has⟩)
    (c__law_has_ : PySem.W.codeIn K cd__law_has "_law_has" = true)
    (k__law_has_ : PySem.W.keepIn K (.ref a__law_has) = true)
    (a__law_goes_ : PySem.W.nsIn K mainGlobals "_law_goes" = some (some (.ref a__law_goes)))
    (l__law_goes : K.lookup a__law_goes = some ⟨oc__law_goes, od__law_goes, .func (PySem.W.fnOf "_law_goes" "_law_goes" (defArgs s__law_goes) (defBody s__law_goes) (defScope s__law_goes) .none kV__law_goes dc__law_goes pm__law_goes an__law_goes cd__law_goes ct__law_goes), sl__law_goes⟩)
    (c__law_goes_ : PySem.W.codeIn K cd__law_goes "_law_goes" = true)
    (k__law_goes_ : PySem.W.keepIn K (.ref a__law_goes) = true)
    (a__law_least_ : PySem.W.nsIn K mainGlobals "_law_least" = some (some (.ref a__law_least)))
    (l__law_least : K.lookup a__law_least = some ⟨oc__law_least, od__law_least, .func (PySem.W.fnOf "_law_least" "_law_least" (defArgs s__law_least) (defBody s__law_least) (defScope s__law_least) .none kV__law_least dc__law_least pm__law_least an__law_least cd__law_least ct__law_least), sl__law_least⟩)
    (c__law_least_ : PySem.W.codeIn K cd__law_least "_law_least" = true)
    (k__law_least_ : PySem.W.keepIn K (.ref a__law_least) = true)
    (a__law_small_set_ : PySem.W.nsIn K mainGlobals "_law_small_set" = some (some (.ref a__law_small_set)))
    (l__law_small_set : K.lookup a__law_small_set = some ⟨oc__law_small_set, od__law_small_set, .func (PySem.W.fnOf "_law_small_set" "_law_small_set" (defArgs s__law_small_set) (defBody s__law_small_set) (defScope s__law_small_set) .none kV__law_small_set dc__law_small_set pm__law_small_set an__law_small_set cd__law_small_set ct__law_small_set), sl__law_small_set⟩)
    (c__law_small_set_ : PySem.W.codeIn K cd__law_small_set "_law_small_set" = true)
    (k__law_small_set_ : PySem.W.keepIn K (.ref a__law_small_set) = true)
    (a__law_mutant_ : PySem.W.nsIn K mainGlobals "_law_mutant" = some (some (.ref a__law_mutant)))
    (l__law_mutant : K.lookup a__law_mutant = some ⟨oc__law_mutant, od__law_mutant, .func (PySem.W.fnOf "_law_mutant" "_law_mutant" (defArgs s__law_mutant) (defBody s__law_mutant) (defScope s__law_mutant) .none kV__law_mutant dc__law_mutant pm__law_mutant an__law_mutant cd__law_mutant ct__law_mutant), sl__law_mutant⟩)
    (c__law_mutant_ : PySem.W.codeIn K cd__law_mutant "_law_mutant" = true)
    (k__law_mutant_ : PySem.W.keepIn K (.ref a__law_mutant) = true)
    (a__law_integer_ : PySem.W.nsIn K mainGlobals "_law_integer" = some (some (.ref a__law_integer)))
    (l__law_integer : K.lookup a__law_integer = some ⟨oc__law_integer, od__law_integer, .func (PySem.W.fnOf "_law_integer" "_law_integer" (defArgs s__law_integer) (defBody s__law_integer) (defScope s__law_integer) .none kV__law_integer dc__law_integer pm__law_integer an__law_integer cd__law_integer ct__law_integer), sl__law_integer⟩)
    (c__law_integer_ : PySem.W.codeIn K cd__law_integer "_law_integer" = true)
    (k__law_integer_ : PySem.W.keepIn K (.ref a__law_integer) = true)
    (a__law_row_of_integers_ : PySem.W.nsIn K mainGlobals "_law_row_of_integers" = some (some (.ref a__law_row_of_integers)))
    (l__law_row_of_integers : K.lookup a__law_row_of_integers = some ⟨oc__law_row_of_integers, od__law_row_of_integers, .func (PySem.W.fnOf "_law_row_of_integers" "_law_row_of_integers" (defArgs s__law_row_of_integers) (defBody s__law_row_of_integers) (defScope s__law_row_of_integers) .none kV__law_row_of_integers dc__law_row_of_integers pm__law_row_of_integers an__law_row_of_integers cd__law_row_of_integers ct__law_row_of_integers), sl__law_row_of_integers⟩)
    (c__law_row_of_integers_ : PySem.W.codeIn K cd__law_row_of_integers "_law_row_of_integers" = true)
    (k__law_row_of_integers_ : PySem.W.keepIn K (.ref a__law_row_of_integers) = true)
    (a__law_headed_ : PySem.W.nsIn K mainGlobals "_law_headed" = some (some (.ref a__law_headed)))
    (l__law_headed : K.lookup a__law_headed = some ⟨oc__law_headed, od__law_headed, .func (PySem.W.fnOf "_law_headed" "_law_headed" (defArgs s__law_headed) (defBody s__law_headed) (defScope s__law_headed) .none kV__law_headed dc__law_headed pm__law_headed an__law_headed cd__law_headed ct__law_headed), sl__law_headed⟩)
    (c__law_headed_ : PySem.W.codeIn K cd__law_headed "_law_headed" = true)
    (k__law_headed_ : PySem.W.keepIn K (.ref a__law_headed) = true)
    (a__law_is_grid_ : PySem.W.nsIn K mainGlobals "_law_is_grid" = some (some (.ref a__law_is_grid)))
    (l__law_is_grid : K.lookup a__law_is_grid = some ⟨oc__law_is_grid, od__law_is_grid, .func (PySem.W.fnOf "_law_is_grid" "_law_is_grid" (defArgs s__law_is_grid) (defBody s__law_is_grid) (defScope s__law_is_grid) .none kV__law_is_grid dc__law_is_grid pm__law_is_grid an__law_is_grid cd__law_is_grid ct__law_is_grid), sl__law_is_grid⟩)
    (c__law_is_grid_ : PySem.W.codeIn K cd__law_is_grid "_law_is_grid" = true)
    (k__law_is_grid_ : PySem.W.keepIn K (.ref a__law_is_grid) = true)
    (a__law_is_bundle_ : PySem.W.nsIn K mainGlobals "_law_is_bundle" = some (some (.ref a__law_is_bundle)))
    (l__law_is_bundle : K.lookup a__law_is_bundle = some ⟨oc__law_is_bundle, od__law_is_bundle, .func (PySem.W.fnOf "_law_is_bundle" "_law_is_bundle" (defArgs s__law_is_bundle) (defBody s__law_is_bundle) (defScope s__law_is_bundle) .none kV__law_is_bundle dc__law_is_bundle pm__law_is_bundle an__law_is_bundle cd__law_is_bundle ct__law_is_bundle), sl__law_is_bundle⟩)
    (c__law_is_bundle_ : PySem.W.codeIn K cd__law_is_bundle "_law_is_bundle" = true)
    (k__law_is_bundle_ : PySem.W.keepIn K (.ref a__law_is_bundle) = true)
    (a__law_ascends_ : PySem.W.nsIn K mainGlobals "_law_ascends" = some (some (.ref a__law_ascends)))
    (l__law_ascends : K.lookup a__law_ascends = some ⟨oc__law_ascends, od__law_ascends, .func (PySem.W.fnOf "_law_ascends" "_law_ascends" (defArgs s__law_ascends) (defBody s__law_ascends) (defScope s__law_ascends) .none kV__law_ascends dc__law_ascends pm__law_ascends an__law_ascends cd__law_ascends ct__law_ascends), sl__law_ascends⟩)
    (c__law_ascends_ : PySem.W.codeIn K cd__law_ascends "_law_ascends" = true)
    (k__law_ascends_ : PySem.W.keepIn K (.ref a__law_ascends) = true)
    (a__law_is_set_ : PySem.W.nsIn K mainGlobals "_law_is_set" = some (some (.ref a__law_is_set)))
    (l__law_is_set : K.lookup a__law_is_set = some ⟨oc__law_is_set, od__law_is_set, .func (PySem.W.fnOf "_law_is_set" "_law_is_set" (defArgs s__law_is_set) (defBody s__law_is_set) (defScope s__law_is_set) .none kV__law_is_set dc__law_is_set pm__law_is_set an__law_is_set cd__law_is_set ct__law_is_set), sl__law_is_set⟩)
    (c__law_is_set_ : PySem.W.codeIn K cd__law_is_set "_law_is_set" = true)
    (k__law_is_set_ : PySem.W.keepIn K (.ref a__law_is_set) = true)
    (a__law_near_ : PySem.W.nsIn K mainGlobals "_law_near" = some (some (.ref a__law_near)))
    (l__law_near : K.lookup a__law_near = some ⟨oc__law_near, od__law_near, .func (PySem.W.fnOf "_law_near" "_law_near" (defArgs s__law_near) (defBody s__law_near) (defScope s__law_near) .none kV__law_near dc__law_near pm__law_near an__law_near cd__law_near ct__law_near), sl__law_near⟩)
    (c__law_near_ : PySem.W.codeIn K cd__law_near "_law_near" = true)
    (k__law_near_ : PySem.W.keepIn K (.ref a__law_near) = true)
    (a__law_pairs_ : PySem.W.nsIn K mainGlobals "_law_pairs" = some (some (.ref a__law_pairs)))
    (l__law_pairs : K.lookup a__law_pairs = some ⟨oc__law_pairs, od__law_pairs, .func (PySem.W.fnOf "_law_pairs" "_law_pairs" (defArgs s__law_pairs) (defBody s__law_pairs) (defScope s__law_pairs) .none kV__law_pairs dc__law_pairs pm__law_pairs an__law_pairs cd__law_pairs ct__law_pairs), sl__law_pairs⟩)
    (c__law_pairs_ : PySem.W.codeIn K cd__law_pairs "_law_pairs" = true)
    (k__law_pairs_ : PySem.W.keepIn K (.ref a__law_pairs) = true)
    (a__law_wider_ : PySem.W.nsIn K mainGlobals "_law_wider" = some (some (.ref a__law_wider)))
    (l__law_wider : K.lookup a__law_wider = some ⟨oc__law_wider, od__law_wider, .func (PySem.W.fnOf "_law_wider" "_law_wider" (defArgs s__law_wider) (defBody s__law_wider) (defScope s__law_wider) .none kV__law_wider dc__law_wider pm__law_wider an__law_wider cd__law_wider ct__law_wider), sl__law_wider⟩)
    (c__law_wider_ : PySem.W.codeIn K cd__law_wider "_law_wider" = true)
    (k__law_wider_ : PySem.W.keepIn K (.ref a__law_wider) = true)
    (a_law_ : PySem.W.nsIn K mainGlobals "law" = some (some (.ref a_law)))
    (l_law : K.lookup a_law = some ⟨oc_law, od_law, .func (PySem.W.fnOf "law" "law" (defArgs s_law) (defBody s_law) (defScope s_law) .none kV_law dc_law pm_law an_law cd_law ct_law), sl_law⟩)
    (c_law_ : PySem.W.codeIn K cd_law "law" = true)
    (k_law_ : PySem.W.keepIn K (.ref a_law) = true)
    : ∃ fd : FuncData, (∀ (s : Shared) (u : Value), BindsTo s fd ⟨[u], []⟩ [("script", u)]) ∧ ∀ base : Heap, K.In base → base.Ns mainGlobals mg → FnOk P w K mg base CX0 63 fa fd ["script"] (spP K c_law) := by
  have e := (PySem.W.mg_of X G a_law_).symm.trans hfa
  cases e
  have F_is_integer := fun_mk (st := s_is_integer) l_is_integer c_is_integer_ k_is_integer_
  have F_is_pair := fun_mk (st := s_is_pair) l_is_pair c_is_pair_ k_is_pair_
  have F_are_integers := fun_mk (st := s_are_integers) l_are_integers c_are_integers_ k_are_integers_
  have F_is_ascending := fun_mk (st := s_is_ascending) l_is_ascending c_is_ascending_ k_is_ascending_
  have F_is_set := fun_mk (st := s_is_set) l_is_set c_is_set_ k_is_set_
  have F_has_it := fun_mk (st := s_has_it) l_has_it c_has_it_ k_has_it_
  have F_least_round := fun_mk (st := s_least_round) l_least_round c_least_round_ k_least_round_
  have F_least_of := fun_mk (st := s_least_of) l_least_of c_least_of_ k_least_of_
  have F_is_least_set := fun_mk (st := s_is_least_set) l_is_least_set c_is_least_set_ k_is_least_set_
  have F_is_stick := fun_mk (st := s_is_stick) l_is_stick c_is_stick_ k_is_stick_
  have F_is_bundle_of := fun_mk (st := s_is_bundle_of) l_is_bundle_of c_is_bundle_of_ k_is_bundle_of_
  have F_is_bundle := fun_mk (st := s_is_bundle) l_is_bundle c_is_bundle_ k_is_bundle_
  have F_is_grid := fun_mk (st := s_is_grid) l_is_grid c_is_grid_ k_is_grid_
  have F__law_pot := fun_mk (st := s__law_pot) l__law_pot c__law_pot_ k__law_pot_
  have F__law_take := fun_mk (st := s__law_take) l__law_take c__law_take_ k__law_take_
  have F__law_same := fun_mk (st := s__law_same) l__law_same c__law_same_ k__law_same_
  have F__law_has := fun_mk (st := s__law_has) l__law_has c__law_has_ k__law_has_
  have F__law_goes := fun_mk (st := s__law_goes) l__law_goes c__law_goes_ k__law_goes_
  have F__law_least := fun_mk (st := s__law_least) l__law_least c__law_least_ k__law_least_
  have F__law_small_set := fun_mk (st := s__law_small_set) l__law_small_set c__law_small_set_ k__law_small_set_
  have F__law_mutant := fun_mk (st := s__law_mutant) l__law_mutant c__law_mutant_ k__law_mutant_
  have F__law_integer := fun_mk (st := s__law_integer) l__law_integer c__law_integer_ k__law_integer_
  have F__law_row_of_integers := fun_mk (st := s__law_row_of_integers) l__law_row_of_integers c__law_row_of_integers_ k__law_row_of_integers_
  have F__law_headed := fun_mk (st := s__law_headed) l__law_headed c__law_headed_ k__law_headed_
  have F__law_is_grid := fun_mk (st := s__law_is_grid) l__law_is_grid c__law_is_grid_ k__law_is_grid_
  have F__law_is_bundle := fun_mk (st := s__law_is_bundle) l__law_is_bundle c__law_is_bundle_ k__law_is_bundle_
  have F__law_ascends := fun_mk (st := s__law_ascends) l__law_ascends c__law_ascends_ k__law_ascends_
  have F__law_is_set := fun_mk (st := s__law_is_set) l__law_is_set c__law_is_set_ k__law_is_set_
  have F__law_near := fun_mk (st := s__law_near) l__law_near c__law_near_ k__law_near_
  have F__law_pairs := fun_mk (st := s__law_pairs) l__law_pairs c__law_pairs_ k__law_pairs_
  have F__law_wider := fun_mk (st := s__law_wider) l__law_wider c__law_wider_ k__law_wider_
  have F_law := fun_mk (st := s_law) l_law c_law_ k_law_
  let T : Txt w K mg := {
    z_all := PySem.W.mg_none_of X G z_all,
    z_any := PySem.W.mg_none_of X G z_any,
    z_bool := PySem.W.mg_none_of X G z_bool,
    z_int := PySem.W.mg_none_of X G z_int,
    z_isinstance := PySem.W.mg_none_of X G z_isinstance,
    z_len := PySem.W.mg_none_of X G z_len,
    z_list := PySem.W.mg_none_of X G z_list,
    z_max := PySem.W.mg_none_of X G z_max,
    z_min := PySem.W.mg_none_of X G z_min,
    z_range := PySem.W.mg_none_of X G z_range,
    z_set := PySem.W.mg_none_of X G z_set,
    z_sorted := PySem.W.mg_none_of X G z_sorted,
    z_str := PySem.W.mg_none_of X G z_str,
    z_tuple := PySem.W.mg_none_of X G z_tuple,
    i_lcm := PySem.W.mg_of X G i_lcm,
    a_is_integer := a_is_integer,
    f_is_integer := _,
    t_is_integer := F_is_integer,
    b_is_integer := F_is_integer.binds fun _ _ _ _ _ _ us hl => match us, hl with | [_], _ => rfl,
    g_is_integer := PySem.W.mg_of X G a_is_integer_,
    a_is_pair := a_is_pair,
    f_is_pair := _,
    t_is_pair := F_is_pair,
    b_is_pair := F_is_pair.binds fun _ _ _ _ _ _ us hl => match us, hl with | [_], _ => rfl,
    g_is_pair := PySem.W.mg_of X G a_is_pair_,
    a_are_integers := a_are_integers,
    f_are_integers := _,
    t_are_integers := F_are_integers,
    b_are_integers := F_are_integers.binds fun _ _ _ _ _ _ us hl => match us, hl with | [_], _ => rfl,
    g_are_integers := PySem.W.mg_of X G a_are_integers_,
    a_is_ascending := a_is_ascending,
    f_is_ascending := _,
    t_is_ascending := F_is_ascending,
    b_is_ascending := F_is_ascending.binds fun _ _ _ _ _ _ us hl => match us, hl with | [_, _, _], _ => rfl,
    g_is_ascending := PySem.W.mg_of X G a_is_ascending_,
    a_is_set := a_is_set,
    f_is_set := _,
    t_is_set := F_is_set,
    b_is_set := F_is_set.binds fun _ _ _ _ _ _ us hl => match us, hl with | [_], _ => rfl,
    g_is_set := PySem.W.mg_of X G a_is_set_,
    a_has_it := a_has_it,
    f_has_it := _,
    t_has_it := F_has_it,
    b_has_it := F_has_it.binds fun _ _ _ _ _ _ us hl => match us, hl with | [_, _], _ => rfl,
    g_has_it := PySem.W.mg_of X G a_has_it_,
    a_least_round := a_least_round,
    f_least_round := _,
    t_least_round := F_least_round,
    b_least_round := F_least_round.binds fun _ _ _ _ _ _ us hl => match us, hl with | [_, _], _ => rfl,
    g_least_round := PySem.W.mg_of X G a_least_round_,
    a_least_of := a_least_of,
    f_least_of := _,
    t_least_of := F_least_of,
    b_least_of := F_least_of.binds fun _ _ _ _ _ _ us hl => match us, hl with | [_], _ => rfl,
    g_least_of := PySem.W.mg_of X G a_least_of_,
    a_is_least_set := a_is_least_set,
    f_is_least_set := _,
    t_is_least_set := F_is_least_set,
    b_is_least_set := F_is_least_set.binds fun _ _ _ _ _ _ us hl => match us, hl with | [_], _ => rfl,
    g_is_least_set := PySem.W.mg_of X G a_is_least_set_,
    a_is_stick := a_is_stick,
    f_is_stick := _,
    t_is_stick := F_is_stick,
    b_is_stick := F_is_stick.binds fun _ _ _ _ _ _ us hl => match us, hl with | [_, _], _ => rfl,
    g_is_stick := PySem.W.mg_of X G a_is_stick_,
    a_is_bundle_of := a_is_bundle_of,
    f_is_bundle_of := _,
    t_is_bundle_of := F_is_bundle_of,
    b_is_bundle_of := F_is_bundle_of.binds fun _ _ _ _ _ _ us hl => match us, hl with | [_], _ => rfl,
    g_is_bundle_of := PySem.W.mg_of X G a_is_bundle_of_,
    a_is_bundle := a_is_bundle,
    f_is_bundle := _,
    t_is_bundle := F_is_bundle,
    b_is_bundle := F_is_bundle.binds fun _ _ _ _ _ _ us hl => match us, hl with | [_], _ => rfl,
    g_is_bundle := PySem.W.mg_of X G a_is_bundle_,
    a_is_grid := a_is_grid,
    f_is_grid := _,
    t_is_grid := F_is_grid,
    b_is_grid := F_is_grid.binds fun _ _ _ _ _ _ us hl => match us, hl with | [_], _ => rfl,
    g_is_grid := PySem.W.mg_of X G a_is_grid_,
    a__law_pot := a__law_pot,
    f__law_pot := _,
    t__law_pot := F__law_pot,
    b__law_pot := F__law_pot.binds fun _ _ _ _ _ _ us hl => match us, hl with | [_], _ => rfl,
    g__law_pot := PySem.W.mg_of X G a__law_pot_,
    a__law_take := a__law_take,
    f__law_take := _,
    t__law_take := F__law_take,
    b__law_take := F__law_take.binds fun _ _ _ _ _ _ us hl => match us, hl with | [_, _], _ => rfl,
    g__law_take := PySem.W.mg_of X G a__law_take_,
    a__law_same := a__law_same,
    f__law_same := _,
    t__law_same := F__law_same,
    b__law_same := F__law_same.binds fun _ _ _ _ _ _ us hl => match us, hl with | [_, _], _ => rfl,
    g__law_same := PySem.W.mg_of X G a__law_same_,
    a__law_has := a__law_has,
    f__law_has := _,
    t__law_has := F__law_has,
    b__law_has := F__law_has.binds fun _ _ _ _ _ _ us hl => match us, hl with | [_, _], _ => rfl,
    g__law_has := PySem.W.mg_of X G a__law_has_,
    a__law_goes := a__law_goes,
    f__law_goes := _,
    t__law_goes := F__law_goes,
    b__law_goes := F__law_goes.binds fun _ _ _ _ _ _ us hl => match us, hl with | [_, _, _], _ => rfl,
    g__law_goes := PySem.W.mg_of X G a__law_goes_,
    a__law_least := a__law_least,
    f__law_least := _,
    t__law_least := F__law_least,
    b__law_least := F__law_least.binds fun _ _ _ _ _ _ us hl => match us, hl with | [_], _ => rfl,
    g__law_least := PySem.W.mg_of X G a__law_least_,
    a__law_small_set := a__law_small_set,
    f__law_small_set := _,
    t__law_small_set := F__law_small_set,
    b__law_small_set := F__law_small_set.binds fun _ _ _ _ _ _ us hl => match us, hl with | [_], _ => rfl,
    g__law_small_set := PySem.W.mg_of X G a__law_small_set_,
    a__law_mutant := a__law_mutant,
    f__law_mutant := _,
    t__law_mutant := F__law_mutant,
    b__law_mutant := F__law_mutant.binds fun _ _ _ _ _ _ us hl => match us, hl with | [_, _, _], _ => rfl,
    g__law_mutant := PySem.W.mg_of X G a__law_mutant_,
    a__law_integer := a__law_integer,
    f__law_integer := _,
    t__law_integer := F__law_integer,
    b__law_integer := F__law_integer.binds fun _ _ _ _ _ _ us hl => match us, hl with | [_], _ => rfl,
    g__law_integer := PySem.W.mg_of X G a__law_integer_,
    a__law_row_of_integers := a__law_row_of_integers,
    f__law_row_of_integers := _,
    t__law_row_of_integers := F__law_row_of_integers,
    b__law_row_of_integers := F__law_row_of_integers.binds fun _ _ _ _ _ _ us hl => match us, hl with | [_, _], _ => rfl,
    g__law_row_of_integers := PySem.W.mg_of X G a__law_row_of_integers_,
    a__law_headed := a__law_headed,
    f__law_headed := _,
    t__law_headed := F__law_headed,
    b__law_headed := F__law_headed.binds fun _ _ _ _ _ _ us hl => match us, hl with | [_], _ => rfl,
    g__law_headed := PySem.W.mg_of X G a__law_headed_,
    a__law_is_grid := a__law_is_grid,
    f__law_is_grid := _,
    t__law_is_grid := F__law_is_grid,
    b__law_is_grid := F__law_is_grid.binds fun _ _ _ _ _ _ us hl => match us, hl with | [_], _ => rfl,
    g__law_is_grid := PySem.W.mg_of X G a__law_is_grid_,
    a__law_is_bundle := a__law_is_bundle,
    f__law_is_bundle := _,
    t__law_is_bundle := F__law_is_bundle,
    b__law_is_bundle := F__law_is_bundle.binds fun _ _ _ _ _ _ us hl => match us, hl with | [_], _ => rfl,
    g__law_is_bundle := PySem.W.mg_of X G a__law_is_bundle_,
    a__law_ascends := a__law_ascends,
    f__law_ascends := _,
    t__law_ascends := F__law_ascends,
    b__law_ascends := F__law_ascends.binds fun _ _ _ _ _ _ us hl => match us, hl with | [_, _, _], _ => rfl,
    g__law_ascends := PySem.W.mg_of X G a__law_ascends_,
    a__law_is_set := a__law_is_set,
    f__law_is_set := _,
    t__law_is_set := F__law_is_set,
    b__law_is_set := F__law_is_set.binds fun _ _ _ _ _ _ us hl => match us, hl with | [_], _ => rfl,
    g__law_is_set := PySem.W.mg_of X G a__law_is_set_,
    a__law_near := a__law_near,
    f__law_near := _,
    t__law_near := F__law_near,
    b__law_near := F__law_near.binds fun _ _ _ _ _ _ us hl => match us, hl with | [_, _], _ => rfl,
    g__law_near := PySem.W.mg_of X G a__law_near_,
    a__law_pairs := a__law_pairs,
    f__law_pairs := _,
    t__law_pairs := F__law_pairs,
    b__law_pairs := F__law_pairs.binds fun _ _ _ _ _ _ us hl => match us, hl with | [_, _], _ => rfl,
    g__law_pairs := PySem.W.mg_of X G a__law_pairs_,
    a__law_wider := a__law_wider,
    f__law_wider := _,
    t__law_wider := F__law_wider,
    b__law_wider := F__law_wider.binds fun _ _ _ _ _ _ us hl => match us, hl with | [_, _], _ => rfl,
    g__law_wider := PySem.W.mg_of X G a__law_wider_,
    a_law := fa,
    f_law := _,
    t_law := F_law,
    b_law := F_law.binds fun _ _ _ _ _ _ us hl => match us, hl with | [_], _ => rfl,
    kb_is_grid_told_0 := kbinds F_is_grid (by decide) fun _ _ _ _ _ _ us ws h1 h2 => match us, ws, h1, h2 with | [], [_], _, _ => rfl,
    kb_is_least_set_told_0 := kbinds F_is_least_set (by decide) fun _ _ _ _ _ _ us ws h1 h2 => match us, ws, h1, h2 with | [], [_], _, _ => rfl }
  exact ⟨_, fun s u => .of_eq rfl, fun base _ _ => ok_law T⟩
end W82

namespace Pu
open PySem PySem.Spec PyProof.Rows L2

/-! ### plain truths about data -/
def tInt : D → Bool
  | .int _ => true
  | .bool _ => true
  | _ => false
def tBool : D → Bool
  | .bool _ => true
  | _ => false
def tTup : D → Bool
  | .tuple _ => true
  | _ => false
def tList : D → Bool
  | .list _ => true
  | _ => false
def tStr : D → Bool
  | .str _ => true
  | _ => false
theorem dTy_mem (d : D) : dTy d ∈ ["NoneType", "bool", "int", "str", "list", "tuple", "dict"] := by cases d <;> simp [dTy]
theorem isD_int (d : D) : isD d ["int"] = some (.bool (tInt d)) := by
  have h : ∀ a ∈ ["NoneType", "bool", "int", "str", "list", "tuple", "dict"], kitBs a ["int"] = some (a == "int" || a == "bool") := by decide +kernel
  unfold isD
  rw [h (dTy d) (dTy_mem d)]
  cases d <;> rfl
theorem isD_bool (d : D) : isD d ["bool"] = some (.bool (tBool d)) := by
  have h : ∀ a ∈ ["NoneType", "bool", "int", "str", "list", "tuple", "dict"], kitBs a ["bool"] = some (a == "bool") := by decide +kernel
  unfold isD
  rw [h (dTy d) (dTy_mem d)]
  cases d <;> rfl
theorem isD_str (d : D) : isD d ["str"] = some (.bool (tStr d)) := by
  have h : ∀ a ∈ ["NoneType", "bool", "int", "str", "list", "tuple", "dict"], kitBs a ["str"] = some (a == "str") := by decide +kernel
  unfold isD
  rw [h (dTy d) (dTy_mem d)]
  cases d <;> rfl
theorem isD_tuple (d : D) : isD d ["tuple"] = some (.bool (tTup d)) := by
  have h : ∀ a ∈ ["NoneType", "bool", "int", "str", "list", "tuple", "dict"], kitBs a ["tuple"] = some (a == "tuple") := by decide +kernel
  unfold isD
  rw [h (dTy d) (dTy_mem d)]
  cases d <;> rfl
theorem isD_list (d : D) : isD d ["list"] = some (.bool (tList d)) := by
  have h : ∀ a ∈ ["NoneType", "bool", "int", "str", "list", "tuple", "dict"], kitBs a ["list"] = some (a == "list") := by decide +kernel
  unfold isD
  rw [h (dTy d) (dTy_mem d)]
  cases d <;> rfl
theorem isD_bs (d : D) : isD d ["bool", "str"] = some (.bool (tBool d || tStr d)) := by
  have h : ∀ a ∈ ["NoneType", "bool", "int", "str", "list", "tuple", "dict"], kitBs a ["bool", "str"] = some (a == "bool" || a == "str") := by decide +kernel
  unfold isD
  rw [h (dTy d) (dTy_mem d)]
  cases d <;> rfl
/-- an integer, never a truth value -/
def isZ : D → Bool
  | .int _ => true
  | _ => false
theorem isZ_eq (d : D) : (tInt d && !tBool d) = isZ d := by cases d <;> rfl

/-! ### one step of a computation -/
@[simp] theorem ev_0 {s t : CS} {Γ : En} : cSeq s t Γ = (s Γ).bind fun p => match p.1 with | .nx => t p.2 | f => some (f, p.2) := rfl
@[simp] theorem ev_1 {c : CT} {s t : CS} {Γ : En} : cIfS c s t Γ = (c Γ).bind fun p => if p.1 = true then s p.2 else t p.2 := rfl
@[simp] theorem ev_2 {c : CN} {Γ : En} : cRet c Γ = (c Γ).bind fun p => some (.rt p.1, p.2) := rfl
@[simp] theorem ev_3 {c : CE} {Γ : En} : asN c Γ = (c Γ).bind fun p => some (.fr p.1, p.2) := rfl
@[simp] theorem ev_4 {c : CN} {Γ : En} : frz c Γ = (c Γ).bind fun p => some (p.1.d, p.2) := rfl
@[simp] theorem ev_5 {d : D} : (Rv.fr d).d = d := rfl
@[simp] theorem ev_6 {d : D} : (Rv.nw d).d = d := rfl
@[simp] theorem ev_7 {f : D → D → Option D} {a b : Od} {Γ : En} : cOp f a b Γ = (a.run Γ).bind fun p => (b.run p.2).bind fun q => (a.fin p.1 q.2).bind fun x => (b.fin q.1 q.2).bind fun y => (f x y).bind fun z => some (z, q.2) := rfl
@[simp] theorem ev_8 {f : D → Option D} {a : Od} {Γ : En} : cUn f a Γ = (a.run Γ).bind fun p => (a.fin p.1 p.2).bind fun x => (f x).bind fun z => some (z, p.2) := rfl
@[simp] theorem ev_9 {o : Od} {n : String} : cIsi o n = cUn (fun d => isD d [n]) o := rfl
@[simp] theorem ev_10 {o : Od} {ns : List String} : cIsiT o ns = cUn (fun d => isD d ns) o := rfl
@[simp] theorem ev_11 {g : List D → Option D} {os : List Od} {Γ : En} : cCb g os Γ = (runL os Γ).bind fun p => (finL os p.1 p.2).bind fun ds => (g ds).bind fun z => some (z, p.2) := rfl
@[simp] theorem ev_12 {g : List D → Option (List D)} {os : List Od} {Γ : En} : cCbN g os Γ = (runL os Γ).bind fun p => (finL os p.1 p.2).bind fun ds => (g ds).bind fun z => some (.nw (.list z), p.2) := rfl
@[simp] theorem ev_13 {Γ : En} : runL [] Γ = some ([], Γ) := rfl
@[simp] theorem ev_14 {o : Od} {os : List Od} {Γ : En} : runL (o :: os) Γ = (o.run Γ).bind fun p => (runL os p.2).bind fun q => some (p.1 :: q.1, q.2) := rfl
@[simp] theorem ev_15 {Γ : En} {ds : List D} : finL [] ds Γ = some [] := by cases ds <;> rfl
@[simp] theorem ev_16 {o : Od} {os : List Od} {d : D} {ds : List D} {Γ : En} : finL (o :: os) (d :: ds) Γ = (o.fin d Γ).bind fun x => (finL os ds Γ).bind fun r => some (x :: r) := rfl
@[simp] theorem ev_17 {c : CE} {Γ : En} : (Od.e c).run Γ = c Γ := rfl
@[simp] theorem ev_18 {i : Nat} {Γ : En} : (Od.v i).run Γ = (datAt Γ i).bind fun d => some (d, Γ) := rfl
@[simp] theorem ev_19 {c : CE} {d : D} {Γ : En} : (Od.e c).fin d Γ = some d := rfl
@[simp] theorem ev_20 {i : Nat} {d : D} {Γ : En} : (Od.v i).fin d Γ = datAt Γ i := rfl
@[simp] theorem ev_21 {i : Nat} {Γ : En} : datAt Γ i = Γ[i]?.bind Sl.dat := rfl
@[simp] theorem ev_22  : Sl.dat .no = none := rfl
@[simp] theorem ev_23 {d : D} : Sl.dat (.fr d) = some d := rfl
@[simp] theorem ev_24 {d : D} : Sl.dat (.ow d) = some d := rfl
@[simp] theorem ev_25 {d : D} : Sl.dat (.ln d) = some d := rfl
@[simp] theorem ev_26 {d : D} {Γ : En} : cC d Γ = some (d, Γ) := rfl
@[simp] theorem ev_27 {i : Nat} {Γ : En} : cVar i Γ = (match Γ[i]? with | some (.fr d) => some (d, Γ) | some (.ow d) => some (d, Γ.set i (.fr d)) | _ => none) := rfl
@[simp] theorem ev_28 {i : Nat} {Γ : En} : nVar i Γ = (match Γ[i]? with | some (.fr d) => some (.fr d, Γ) | some (.ow d) => some (.nw d, Γ.set i .no) | _ => none) := rfl
@[simp] theorem ev_29 {s t : CE} {Γ : En} : cAndV s t Γ = (cB s Γ).bind fun p => if p.1 = true then t p.2 else some (.bool false, p.2) := rfl
@[simp] theorem ev_30 {s t : CE} {Γ : En} : cOrV s t Γ = (cB s Γ).bind fun p => if p.1 = true then some (.bool true, p.2) else t p.2 := rfl
@[simp] theorem ev_31 {s : CE} {Γ : En} : cNotV s Γ = (cB s Γ).bind fun p => some (.bool (!p.1), p.2) := rfl
@[simp] theorem ev_32 {s t : CT} {Γ : En} : cAnd s t Γ = (s Γ).bind fun p => if p.1 = true then t p.2 else some (false, p.2) := rfl
@[simp] theorem ev_33 {s t : CT} {Γ : En} : cOr s t Γ = (s Γ).bind fun p => if p.1 = true then some (true, p.2) else t p.2 := rfl
@[simp] theorem ev_34 {s : CT} {Γ : En} : cNot s Γ = (s Γ).bind fun p => some (!p.1, p.2) := rfl
@[simp] theorem ev_35 {c : CE} {Γ : En} : cB c Γ = (c Γ).bind fun p => (toB p.1).bind fun b => some (b, p.2) := rfl
@[simp] theorem ev_36 {b : Bool} : toB (.bool b) = some b := rfl
@[simp] theorem ev_37 {s : CT} {t u : CE} {Γ : En} : cIf s t u Γ = (s Γ).bind fun p => if p.1 = true then t p.2 else u p.2 := rfl
@[simp] theorem ev_38 {r : CA} {Γ : En} : cTup r Γ = (r Γ).bind fun p => if p.1.length ≤ sizeLine then some (.tuple p.1, p.2) else none := rfl
@[simp] theorem ev_39 {r : CA} {Γ : En} : cLst r Γ = (r Γ).bind fun p => if p.1.length ≤ sizeLine then some (.nw (.list p.1), p.2) else none := rfl
@[simp] theorem ev_40 {c : CE} {r : CA} {Γ : En} : cCons c r Γ = (c Γ).bind fun p => (r p.2).bind fun q => some (p.1 :: q.1, q.2) := rfl
@[simp] theorem ev_41 {Γ : En} : cNil Γ = some ([], Γ) := rfl
@[simp] theorem ev_42 {cf : CF} {ca : CA} {Γ : En} : cCall cf [] ca Γ = (ca Γ).bind fun p => (cf (p.1.map .fr)).bind fun q => some (q.1, p.2) := by
  unfold cCall lnd
  simp [backL]
@[simp] theorem ev_43 {cf : CF} {m n : Nat} {pi : List Nat} {ca ck : CA} {Γ : En} : cCallK cf m n pi ca ck Γ = (ca Γ).bind fun p => (ck p.2).bind fun q => (cf ((perm m n pi p.1 q.1).map .fr)).bind fun r => some (r.1, q.2) := rfl
@[simp] theorem ev_44 {c : CE} {g : CG} {Γ : En} : cAsg c g Γ = (c Γ).bind fun p => (g p.1 p.2).bind fun Γ' => some (.nx, Γ') := rfl
@[simp] theorem ev_45 {i : Nat} {c : CE} : cSet i c = cAsg c (gN i) := rfl
@[simp] theorem ev_46 {i : Nat} {d : D} {Γ : En} : gN i d Γ = put Γ i (.fr d) := rfl
@[simp] theorem ev_47 {i : Nat} {s : Sl} {Γ : En} : put Γ i s = (match Γ[i]? with | some (.ln _) => none | some _ => some (Γ.set i s) | none => none) := rfl
@[simp] theorem ev_48 {i : Nat} {c : CN} {Γ : En} : cSetN i c Γ = (c Γ).bind fun p => (put p.2 i (slOf p.1)).bind fun Γ' => some (.nx, Γ') := rfl
@[simp] theorem ev_49 {d : D} : slOf (.fr d) = .fr d := rfl
@[simp] theorem ev_50 {d : D} : slOf (.nw d) = .ow d := rfl
@[simp] theorem ev_51 {i j : Nat} {c : CA} {Γ : En} : cPar i j c Γ = (c Γ).bind fun p => match p.1 with | [a, b] => (put p.2 i (.fr a)).bind fun Γ1 => (put Γ1 j (.fr b)).bind fun Γ2 => some (.nx, Γ2) | _ => none := rfl
@[simp] theorem ev_52 {i j l : Nat} {c : CA} {Γ : En} : cPar3 i j l c Γ = (c Γ).bind fun p => match p.1 with | [a, b, d] => (put p.2 i (.fr a)).bind fun Γ1 => (put Γ1 j (.fr b)).bind fun Γ2 => (put Γ2 l (.fr d)).bind fun Γ3 => some (.nx, Γ3) | _ => none := rfl
@[simp] theorem ev_53 {c : CE} {Γ : En} : cDrop c Γ = (c Γ).bind fun p => some (.nx, p.2) := rfl
@[simp] theorem ev_54 {Γ : En} : cNext Γ = some (.nx, Γ) := rfl
@[simp] theorem ev_55 {Γ : En} : cBreak Γ = some (.bk, Γ) := rfl
@[simp] theorem ev_56 {Γ : En} : cCont Γ = some (.ct, Γ) := rfl
@[simp] theorem ev_57 {Γ : En} : cNever Γ = none := rfl
@[simp] theorem ev_58 {ci : CI} {g : CG} {body : CS} {Γ : En} : cFor ci g body Γ = (ci Γ).bind fun p => forL g body p.1 p.2 := rfl
@[simp] theorem ev_59 {c : CE} {Γ : En} : cIt c Γ = (c Γ).bind fun p => match p.1 with | .list ds => some (ds, p.2) | .tuple ds => some (ds, p.2) | _ => none := rfl
@[simp] theorem ev_60 {c : CA} {Γ : En} : cRng1 c Γ = (c Γ).bind fun p => match p.1 with | [.int j] => if -(2 ^ 62) ≤ j ∧ j < 2 ^ 62 then some (rngD 0 j.toNat, p.2) else none | _ => none := rfl
@[simp] theorem ev_61 {c : CA} {Γ : En} : cRng2 c Γ = (c Γ).bind fun p => match p.1 with | [.int i, .int j] => if -(2 ^ 62) ≤ i ∧ i < 2 ^ 62 ∧ -(2 ^ 62) ≤ j ∧ j < 2 ^ 62 then some (rngD i (j - i).toNat, p.2) else none | _ => none := rfl
@[simp] theorem ev_62 {vs : List Nat} {ci : CI} {g : CG} {cond : CT} {elt : CE} {Γ : En} : cLc vs ci g cond elt Γ = (ci Γ).bind fun p => if vs.all (notOwn p.2) = true then (lcL g cond elt vs p.1 [] (wipeG p.2 vs)).bind fun q => some (.nw (.list q.1), restore p.2 q.2 vs) else none := rfl
@[simp] theorem ev_63 {f g : D → D → Option D} {a b c : Od} {Γ : En} : cChain f g a b c Γ = (a.run Γ).bind fun p => (b.run p.2).bind fun q => (a.fin p.1 q.2).bind fun x => (b.fin q.1 q.2).bind fun y => (f x y).bind fun z => (toB z).bind fun k => if k = true then (c.run q.2).bind fun r => (b.fin q.1 r.2).bind fun y2 => (c.fin r.1 r.2).bind fun w => (g y2 w).bind fun u => some (u, r.2) else some (.bool false, q.2) := rfl
@[simp] theorem ev_64 {Γ : En} {v : Nat} : notOwn Γ v = (match Γ[v]? with | some s => !s.own | none => false) := rfl
@[simp] theorem ev_65 {d : D} : Sl.own (.fr d) = false := rfl
@[simp] theorem ev_66 {d : D} : Sl.own (.ow d) = true := rfl
@[simp] theorem ev_67 {d : D} : Sl.own (.ln d) = true := rfl
@[simp] theorem ev_68  : Sl.own .no = false := rfl
@[simp] theorem ev_69 {Γ : En} : wipeG Γ [] = Γ := rfl
@[simp] theorem ev_70 {Γ : En} {v : Nat} {vs : List Nat} : wipeG Γ (v :: vs) = (wipeG Γ vs).set v .no := rfl
@[simp] theorem ev_71 {Γ Δ : En} : restore Γ Δ [] = Δ := rfl
@[simp] theorem ev_72 {Γ Δ : En} {v : Nat} {vs : List Nat} : restore Γ Δ (v :: vs) = (match Γ[v]? with | some s => (restore Γ Δ vs).set v s | none => restore Γ Δ vs) := rfl
@[simp] theorem ev_73 {d : D} : kept (.fr d) = .no := rfl
@[simp] theorem ev_74 {d : D} : kept (.ow d) = .no := rfl
@[simp] theorem ev_75 {d : D} : kept (.ln d) = .ln d := rfl
@[simp] theorem ev_76  : kept .no = .no := rfl
@[simp] theorem ev_77 {Γ : En} : cNoI Γ = some (none, Γ) := rfl
@[simp] theorem ev_78 {c : CE} {Γ : En} : cSomeI c Γ = (c Γ).bind fun p => match p.1 with | .int i => some (some i, p.2) | _ => none := rfl
@[simp] theorem ev_79 {oe : Od} {lo hi : CO} {Γ : En} : cSlT oe lo hi Γ = (oe.run Γ).bind fun p => (lo p.2).bind fun l => (hi l.2).bind fun h => (oe.fin p.1 h.2).bind fun d => match d with | .tuple ds => some (.tuple (cutD ds l.1 h.1), h.2) | _ => none := rfl
@[simp] theorem ev_80 {oe : Od} : cRevT oe = cUn (fun d => match d with | .tuple ds => some (.tuple ds.reverse) | _ => none) oe := rfl
@[simp] theorem ev_81 {n m : Nat} {body : CS} {as : En} (h : as.length = m) : cFun n m body as = (body (as ++ List.replicate (n - m) .no)).bind fun p => match p.1 with | .nx => some (.fr .none, (p.2.take m).map kept) | .rt r => some (r, (p.2.take m).map kept) | _ => none := by
  unfold cFun; rw [if_pos h]; try rfl
@[simp] theorem ev_82 {d : D} : isD d ["int"] = some (.bool (tInt d)) := isD_int d
@[simp] theorem ev_83 {d : D} : isD d ["bool"] = some (.bool (tBool d)) := isD_bool d
@[simp] theorem ev_84 {d : D} : isD d ["str"] = some (.bool (tStr d)) := isD_str d
@[simp] theorem ev_85 {d : D} : isD d ["tuple"] = some (.bool (tTup d)) := isD_tuple d
@[simp] theorem ev_86 {d : D} : isD d ["list"] = some (.bool (tList d)) := isD_list d
@[simp] theorem ev_87 {d : D} : isD d ["bool", "str"] = some (.bool (tBool d || tStr d)) := isD_bs d
@[simp] theorem ev_88  : tInt (.none) = false := rfl
@[simp] theorem ev_89 {b : Bool} : tInt (.bool b) = true := rfl
@[simp] theorem ev_90 {i : Int} : tInt (.int i) = true := rfl
@[simp] theorem ev_91 {s : Str} : tInt (.str s) = false := rfl
@[simp] theorem ev_92 {l : List D} : tInt (.list l) = false := rfl
@[simp] theorem ev_93 {l : List D} : tInt (.tuple l) = false := rfl
@[simp] theorem ev_94 {l : List (D × D)} : tInt (.dict l) = false := rfl
@[simp] theorem ev_95  : tBool (.none) = false := rfl
@[simp] theorem ev_96 {b : Bool} : tBool (.bool b) = true := rfl
@[simp] theorem ev_97 {i : Int} : tBool (.int i) = false := rfl
@[simp] theorem ev_98 {s : Str} : tBool (.str s) = false := rfl
@[simp] theorem ev_99 {l : List D} : tBool (.list l) = false := rfl
@[simp] theorem ev_100 {l : List D} : tBool (.tuple l) = false := rfl
@[simp] theorem ev_101 {l : List (D × D)} : tBool (.dict l) = false := rfl
@[simp] theorem ev_102  : tTup (.none) = false := rfl
@[simp] theorem ev_103 {b : Bool} : tTup (.bool b) = false := rfl
@[simp] theorem ev_104 {i : Int} : tTup (.int i) = false := rfl
@[simp] theorem ev_105 {s : Str} : tTup (.str s) = false := rfl
@[simp] theorem ev_106 {l : List D} : tTup (.list l) = false := rfl
@[simp] theorem ev_107 {l : List D} : tTup (.tuple l) = true := rfl
@[simp] theorem ev_108 {l : List (D × D)} : tTup (.dict l) = false := rfl
@[simp] theorem ev_109  : tList (.none) = false := rfl
@[simp] theorem ev_110 {b : Bool} : tList (.bool b) = false := rfl
@[simp] theorem ev_111 {i : Int} : tList (.int i) = false := rfl
@[simp] theorem ev_112 {s : Str} : tList (.str s) = false := rfl
@[simp] theorem ev_113 {l : List D} : tList (.list l) = true := rfl
@[simp] theorem ev_114 {l : List D} : tList (.tuple l) = false := rfl
@[simp] theorem ev_115 {l : List (D × D)} : tList (.dict l) = false := rfl
@[simp] theorem ev_116  : tStr (.none) = false := rfl
@[simp] theorem ev_117 {b : Bool} : tStr (.bool b) = false := rfl
@[simp] theorem ev_118 {i : Int} : tStr (.int i) = false := rfl
@[simp] theorem ev_119 {s : Str} : tStr (.str s) = true := rfl
@[simp] theorem ev_120 {l : List D} : tStr (.list l) = false := rfl
@[simp] theorem ev_121 {l : List D} : tStr (.tuple l) = false := rfl
@[simp] theorem ev_122 {l : List (D × D)} : tStr (.dict l) = false := rfl
@[simp] theorem ev_123  : isZ (.none) = false := rfl
@[simp] theorem ev_124 {b : Bool} : isZ (.bool b) = false := rfl
@[simp] theorem ev_125 {i : Int} : isZ (.int i) = true := rfl
@[simp] theorem ev_126 {s : Str} : isZ (.str s) = false := rfl
@[simp] theorem ev_127 {l : List D} : isZ (.list l) = false := rfl
@[simp] theorem ev_128 {l : List D} : isZ (.tuple l) = false := rfl
@[simp] theorem ev_129 {l : List (D × D)} : isZ (.dict l) = false := rfl
@[simp] theorem ev_130 {l : List D} : fLen [.list l] = some (.int l.length) := rfl
@[simp] theorem ev_131 {l : List D} : fLen [.tuple l] = some (.int l.length) := rfl
@[simp] theorem ev_132 {i : Int} : fInt [.int i] = some (.int i) := rfl
@[simp] theorem ev_133 {b : Bool} : fInt [.bool b] = some (.int (if b then 1 else 0)) := rfl
@[simp] theorem ev_134 {l : List D} : fTuple [.list l] = some (.tuple l) := rfl
@[simp] theorem ev_135 {l : List D} : fTuple [.tuple l] = some (.tuple l) := rfl
@[simp] theorem ev_136 {l : List D} : fList [.list l] = some l := rfl
@[simp] theorem ev_137 {l : List D} : fList [.tuple l] = some l := rfl
@[simp] theorem ev_138 {l : List D} {i : Int} : dIx (.list l) (.int i) = atI l i := rfl
@[simp] theorem ev_139 {l : List D} {i : Int} : dIx (.tuple l) (.int i) = atI l i := rfl
@[simp] theorem ev_140 {i j : Int} : dLt (.int i) (.int j) = some (.bool (decide (i < j))) := rfl
@[simp] theorem ev_141 {i j : Int} : dLe (.int i) (.int j) = some (.bool (decide (i ≤ j))) := rfl
@[simp] theorem ev_142 {i j : Int} : dGt (.int i) (.int j) = some (.bool (decide (j < i))) := rfl
@[simp] theorem ev_143 {i j : Int} : dGe (.int i) (.int j) = some (.bool (decide (j ≤ i))) := rfl
@[simp] theorem ev_144 {i j : Int} : dAdd (.int i) (.int j) = some (.int (i + j)) := rfl
@[simp] theorem ev_145 {i j : Int} : dSub (.int i) (.int j) = some (.int (i - j)) := rfl
@[simp] theorem ev_146 {i : Int} : dNeg (.int i) = some (.int (-i)) := rfl
@[simp] theorem ev_147 {i j : Int} : dAddI (.int i) (.int j) = some (.int (i + j)) := rfl
@[simp] theorem ev_148 {a : D} : dIsNone false a .none = some (.bool (match a with | .none => true | _ => false)) := rfl
@[simp] theorem ev_149 {a : D} : dIsNone true a .none = some (.bool (match a with | .none => false | _ => true)) := rfl
@[simp] theorem ev_150 {k : List (Str × D)} {z : Str} : fHasK k false (.str z) = some (.bool (lookD k z).isSome) := rfl
@[simp] theorem ev_151 {k : List (Str × D)} {z : Str} : fHasK k true (.str z) = some (.bool (!(lookD k z).isSome)) := rfl
@[simp] theorem ev_152 {k : List (Str × D)} {z : Str} : fGetK k (.str z) = lookD k z := rfl
@[simp] theorem ev_153 {k : List (Str × D)} {df : D} {z : Str} : fGetD k df (.str z) = some ((lookD k z).getD df) := rfl

/-! ### runs -/
theorem lcL_map {g : CG} {elt : CE} {vs : List Nat} {Γ : En} {f : D → D} : ∀ (ds acc : List D), (∀ d ∈ ds, ∃ Γ1, g d Γ = some Γ1 ∧ ∃ Γ2, elt Γ1 = some (f d, Γ2) ∧ wipeG Γ2 vs = Γ) → acc.length + ds.length ≤ sizeLine →
    lcL g cYes elt vs ds acc Γ = some (acc ++ ds.map f, Γ)
  | [], acc, _, _ => by simp [lcL]
  | d :: ds, acc, h, hz => by
    obtain ⟨Γ1, h1, Γ2, h2, h3⟩ := h d (by simp)
    simp only [List.length_cons] at hz
    unfold lcL
    simp only [h1, Option.bind_some, cYes, if_true, h2]
    rw [if_pos (by omega), h3, lcL_map ds (acc ++ [f d]) (fun x hx => h x (by simp [hx])) (by simp; omega)]
    simp
theorem bools_map {α : Type} (f : α → Bool) : ∀ xs : List α, bools (xs.map fun x => PyData.bool (f x)) = some (xs.map f)
  | [] => rfl
  | x :: xs => by
    show ((toB (.bool (f x))).bind fun b => (bools (xs.map fun x => PyData.bool (f x))).bind fun r => some (b :: r)) = _
    rw [bools_map f xs]
    rfl
theorem fAll_map {α : Type} (f : α → Bool) (xs : List α) : fAll [.list (xs.map fun x => PyData.bool (f x))] = some (.bool (xs.all f)) := by
  show ((bools (xs.map fun x => PyData.bool (f x))).bind fun bs => some (PyData.bool (bs.all id))) = _
  rw [bools_map f xs]
  simp [List.all_map, Function.comp_def]
theorem fAny_map {α : Type} (f : α → Bool) (xs : List α) : fAny [.list (xs.map fun x => PyData.bool (f x))] = some (.bool (xs.any f)) := by
  show ((bools (xs.map fun x => PyData.bool (f x))).bind fun bs => some (PyData.bool (bs.any id))) = _
  rw [bools_map f xs]
  simp [List.any_map, Function.comp_def]
end Pu

namespace Pu
open PySem PySem.Spec PyProof.Rows L2

/-! ### equality and search of plain data -/
def okStr (s : Str) : Bool := (PyData.str s).canLay0
theorem beqD {α : Type} [BEq α] [LawfulBEq α] [DecidableEq α] (i j : α) : (i == j) = decide (i = j) := by
  by_cases h : i = j
  · simp [h]
  · simp [h]
@[simp] theorem shaped_int (i : Int) : SeqAt.shaped (.int i) = true := by simp [SeqAt.shaped, PyData.canLay0, PyData.depth]
@[simp] theorem shaped_bool (i : Bool) : SeqAt.shaped (.bool i) = true := by simp [SeqAt.shaped, PyData.canLay0, PyData.depth]
@[simp] theorem shaped_none : SeqAt.shaped .none = true := by simp [SeqAt.shaped, PyData.canLay0, PyData.depth]
@[simp] theorem shaped_str (s : Str) : SeqAt.shaped (.str s) = okStr s := by simp [SeqAt.shaped, okStr, PyData.depth]
@[simp] theorem shaped_nil : SeqAt.shaped (.tuple []) = true := by simp [SeqAt.shaped, PyData.canLay0, PyData.canLayAll0, PyData.depth, PyData.depthAll]
@[simp] theorem dEq_int (i j : Int) : dEq false (.int i) (.int j) = some (.bool (decide (i = j))) := by
  simp [dEq, PyData.eqv, beqD]
@[simp] theorem dNe_int (i j : Int) : dEq true (.int i) (.int j) = some (.bool (!decide (i = j))) := by
  simp [dEq, PyData.eqv, beqD]
@[simp] theorem dEq_bool (i j : Bool) : dEq false (.bool i) (.bool j) = some (.bool (i == j)) := by
  simp [dEq, PyData.eqv]
@[simp] theorem dNe_bool (i j : Bool) : dEq true (.bool i) (.bool j) = some (.bool (!(i == j))) := by
  simp [dEq, PyData.eqv]
theorem dEq_str (i j : Str) (h : okStr i = true) (k : okStr j = true) : dEq false (.str i) (.str j) = some (.bool (decide (i = j))) := by
  simp [dEq, PyData.eqv, h, k, beqD]
def isNil : D → Bool
  | .tuple [] => true
  | _ => false
theorem dEq_nil (d : D) (h : SeqAt.shaped d = true) : dEq false d (.tuple []) = some (.bool (isNil d)) := by
  unfold dEq
  rw [if_pos ⟨h, shaped_nil⟩]
  cases d <;> simp [PyData.eqv, isNil]
  rename_i l
  cases l <;> simp [PyData.eqvAll, isNil]
@[simp] theorem dIn_tup (neg : Bool) (a : D) (ds : List D) : dIn neg a (.tuple ds) = if flatD a = true ∧ ds.all flatD = true then some (.bool (if neg then !ds.any fun z => PyData.eqv z a else ds.any fun z => PyData.eqv z a)) else none := rfl
@[simp] theorem flat_int (i : Int) : flatD (.int i) = true := rfl
@[simp] theorem flat_bool (i : Bool) : flatD (.bool i) = true := rfl
@[simp] theorem flat_str (i : Str) : flatD (.str i) = true := rfl
@[simp] theorem eqv_str (i j : Str) : PyData.eqv (.str i) (.str j) = decide (j = i) := by simp [PyData.eqv, beqD, eq_comm]
@[simp] theorem eqv_int (i j : Int) : PyData.eqv (.int i) (.int j) = decide (j = i) := by simp [PyData.eqv, beqD, eq_comm]

/-! ### parts of lists -/
@[simp] theorem at0 {α : Type} (x : α) (xs : List α) : atI (x :: xs) 0 = some x := by simp [atI, ixN]
theorem ixN_pos {n : Nat} {i : Int} (h : 0 ≤ i) (k : i < n) : ixN n i = some i.toNat := by simp [ixN, h, k]
theorem atI_pos {α : Type} {xs : List α} {i : Int} (h : 0 ≤ i) (k : i < xs.length) : atI xs i = xs[i.toNat]? := by simp [atI, ixN_pos h k]
@[simp] theorem at1 {α : Type} (x y : α) (xs : List α) : atI (x :: y :: xs) 1 = some y := by
  rw [atI_pos (by omega) (by simp only [List.length_cons]; omega)]; rfl
@[simp] theorem at2 {α : Type} (x y z : α) (xs : List α) : atI (x :: y :: z :: xs) 2 = some z := by
  rw [atI_pos (by omega) (by simp only [List.length_cons]; omega)]; rfl
@[simp] theorem at3 {α : Type} (x y z u : α) (xs : List α) : atI (x :: y :: z :: u :: xs) 3 = some u := by
  rw [atI_pos (by omega) (by simp only [List.length_cons]; omega)]; rfl
theorem atI_mem {α : Type} {xs : List α} {i : Int} {z : α} (h : atI xs i = some z) : z ∈ xs := by
  unfold atI at h
  rw [Option.bind_eq_some_iff] at h
  obtain ⟨j, _, h⟩ := h
  exact List.mem_of_getElem? h
theorem atI_in {α : Type} {xs : List α} {i : Int} (h : 0 ≤ i) (k : i < xs.length) : ∃ z, atI xs i = some z ∧ z ∈ xs := by
  have e : atI xs i = some (xs[i.toNat]'(by omega)) := by rw [atI_pos h k]; exact List.getElem?_eq_getElem _
  exact ⟨_, e, atI_mem e⟩
def putI {α : Type} (ds : List α) (k : Int) (z : α) : Option (List α) := (ixN ds.length k).map fun j => ds.set j z
@[simp] theorem put0 {α : Type} (x z : α) (xs : List α) : putI (x :: xs) 0 z = some (z :: xs) := by simp [putI, ixN]
@[simp] theorem put1 {α : Type} (x y z : α) (xs : List α) : putI (x :: y :: xs) 1 z = some (x :: z :: xs) := by
  unfold putI; rw [ixN_pos (by omega) (by simp only [List.length_cons]; omega)]; rfl
@[simp] theorem put2 {α : Type} (x y u z : α) (xs : List α) : putI (x :: y :: u :: xs) 2 z = some (x :: y :: z :: xs) := by
  unfold putI; rw [ixN_pos (by omega) (by simp only [List.length_cons]; omega)]; rfl
@[simp] theorem own_ow (d : List D) (Γ : En) (i : Nat) (h : Γ[i]? = some (.ow (.list d))) : ownAt Γ i = some d := by simp [ownAt, h]
@[simp] theorem ev_own {Γ : En} {i : Nat} : ownAt Γ i = (match Γ[i]? with | some (.ow (.list ds)) => some ds | some (.ln (.list ds)) => some ds | _ => none) := rfl
@[simp] theorem ev_back {Γ : En} {i : Nat} {d : D} : backS Γ i d = Γ.set i (match Γ[i]? with | some (.ln _) => .ln d | _ => .ow d) := rfl
@[simp] theorem ev_putI {i : Nat} {ix c : CE} {Γ : En} : cPutI i ix c Γ = (c Γ).bind fun p => (ownAt p.2 i).bind fun _ => (ix p.2).bind fun q => match q.1 with
  | .int k => (ownAt q.2 i).bind fun ds => (putI ds k p.1).bind fun es => some (.nx, backS q.2 i (.list es))
  | _ => none := by
  unfold cPutI
  congr 1; funext p; congr 1; funext _; congr 1; funext q
  obtain ⟨qd, qe⟩ := q
  cases qd <;> simp [putI, Option.map_eq_bind, Option.bind_assoc, Function.comp_def]
@[simp] theorem ev_augI {i : Nat} {ix c : CE} {f : D → D → Option D} {Γ : En} : cAugI i ix f c Γ = (ownAt Γ i).bind fun _ => (ix Γ).bind fun p => match p.1 with
  | .int k => (ownAt p.2 i).bind fun ds => (atI ds k).bind fun d => (c p.2).bind fun q => (f d q.1).bind fun z => (ownAt q.2 i).bind fun es => (putI es k z).bind fun xs => some (.nx, backS q.2 i (.list xs))
  | _ => none := by
  unfold cAugI
  congr 1; funext _; congr 1; funext p
  obtain ⟨pd, pe⟩ := p
  cases pd <;> simp [putI, Option.map_eq_bind, Option.bind_assoc, Function.comp_def]
@[simp] theorem ev_cat {a b : Od} {Γ : En} : cCat a b Γ = (a.run Γ).bind fun p => (b.run p.2).bind fun q => (a.fin p.1 q.2).bind fun x => (b.fin q.1 q.2).bind fun y => match x, y with
  | .list ds, .list es => if ds.length + es.length ≤ sizeLine then some (.nw (.list (ds ++ es)), q.2) else none
  | _, _ => none := rfl
@[simp] theorem ev_call1 {cf : CF} {i : Nat} {ca : CA} {Γ : En} : cCall cf [i] ca Γ = (lnd Γ [i]).bind fun _ => (ca Γ).bind fun p => (lnd p.2 [i]).bind fun as => (cf (as ++ p.1.map .fr)).bind fun q => (backL p.2 [i] q.2).bind fun Γ2 => some (q.1, Γ2) := by
  unfold cCall
  simp
@[simp] theorem ev_lnd0 {Γ : En} : lnd Γ [] = some [] := rfl
@[simp] theorem ev_lnd {Γ : En} {i : Nat} {is : List Nat} : lnd Γ (i :: is) = (match Γ[i]? with | some (.ow d) => (lnd Γ is).bind fun r => some (.ln d :: r) | some (.ln d) => (lnd Γ is).bind fun r => some (.ln d :: r) | _ => none) := rfl
@[simp] theorem ev_backL {Γ : En} {i : Nat} {is : List Nat} {d : D} {r : En} : backL Γ (i :: is) (.ln d :: r) = backL (backS Γ i d) is r := rfl
@[simp] theorem ev_backL0 {Γ r : En} : backL Γ [] r = some Γ := by cases r <;> rfl
@[simp] theorem mod_int {i j : Int} (h : j ≠ 0) : dMod (.int i) (.int j) = some (.int (i.fmod j)) := by simp [dMod, h]
theorem mul_int {i j : Int} (h : CMul i j) : dMul (.int i) (.int j) = some (.int (i * j)) := by simp [dMul, h]
theorem fdiv_int {i j : Int} (h : CDivN i j) : dFdiv (.int i) (.int j) = some (.int (i.fdiv j)) := by simp [dFdiv, h]
theorem fmod_range (a b : Int) (h : 0 < b) : 0 ≤ a.fmod b ∧ a.fmod b < b := ⟨Int.fmod_nonneg_of_pos a h, Int.fmod_lt_of_pos a h⟩

/-! ### the pot -/
def cPot : CF := cFun 1 1
    (cRet (cCat (.e (frz (cLst (cCons (cC (.int 0)) (cCons (cC (.int 5801)) (cCons (cC (.int 3)) cNil)))))) (.e (frz (cCbN fList [(.v 0)])))))
def cTakeEnd : CS :=
    (cSeq (cIfS (cB (cOp dGt (.e (cOp dIx (.v 0) (.e (cC (.int 0))))) (.e (cC (.int 0))))) (cSeq (cSet 4 (cOp dMod (.e (cCb fInt [(.e (cOp dIx (.v 0) (.e (cC (.int 0)))))])) (.v 1)))
    (cSeq (cPutI 0 (cC (.int 0)) (cOp dFdiv (.e (cOp dIx (.v 0) (.e (cC (.int 0))))) (.v 1)))
    (cRet (asN (cVar 4))))) cNext)
    (cSeq (cPutI 0 (cC (.int 1)) (cOp dMod (.e (cCb fInt [(.e (cOp dAdd (.e (cOp dAdd (.e (cOp dMul (.e (cOp dIx (.v 0) (.e (cC (.int 1))))) (.e (cC (.int 69621))))) (.e (cOp dMul (.e (cC (.int 30323))) (.e (cOp dIx (.v 0) (.e (cC (.int 2))))))))) (.e (cC (.int 19)))))])) (.e (cC (.int 2147483647)))))
    (cSeq (cPutI 0 (cC (.int 1)) (cOp dMod (.e (cCb fInt [(.e (cOp dAdd (.e (cOp dMul (.e (cOp dIx (.v 0) (.e (cC (.int 1))))) (.e (cOp dIx (.v 0) (.e (cC (.int 1))))))) (.e (cC (.int 5)))))])) (.e (cC (.int 2147483629)))))
    (cRet (asN (cOp dMod (.e (cCb fInt [(.e (cOp dFdiv (.e (cOp dIx (.v 0) (.e (cC (.int 1))))) (.e (cC (.int 16)))))])) (.v 1)))))))
def cTake : CF := cFun 5 2
    (cSeq (cIfS (cAnd (cB (cOp (dEq false) (.e (cOp dIx (.v 0) (.e (cC (.int 0))))) (.e (cC (.int 0))))) (cB (cOp dLt (.e (cOp dIx (.v 0) (.e (cC (.int 2))))) (.e (cCb fLen [(.v 0)]))))) (cSeq (cSet 2 (cOp dIx (.v 0) (.e (cOp dIx (.v 0) (.e (cC (.int 2)))))))
    (cSeq (cAugI 0 (cC (.int 2)) dAddI (cC (.int 1)))
    (cIfS (cB (cOp dGe (.v 2) (.e (cOp dPow (.e (cC (.int 10))) (.e (cC (.int 18))))))) (cPutI 0 (cC (.int 0)) (cOp dSub (.v 2) (.e (cOp dPow (.e (cC (.int 10))) (.e (cC (.int 18))))))) (cSeq (cSet 3 (cOp dMod (.e (cCb fInt [(.v 2)])) (.e (cC (.int 2147483647)))))
    (cSeq (cSet 3 (cOp dMod (.e (cCb fInt [(.e (cOp dAdd (.e (cOp dAdd (.e (cOp dMul (.v 3) (.v 3))) (.e (cOp dMul (.e (cC (.int 48271))) (.v 3))))) (.e (cOp dMul (.e (cC (.int 613))) (.e (cOp dIx (.v 0) (.e (cC (.int 2)))))))))])) (.e (cC (.int 2147483629)))))
    (cPutI 0 (cC (.int 1)) (cOp dMod (.e (cCb fInt [(.e (cOp dAdd (.e (cOp dIx (.v 0) (.e (cC (.int 1))))) (.v 3)))])) (.e (cC (.int 2147483629)))))))))) cNext)
    cTakeEnd)
def Pot (ds : List D) : Prop := ∃ (a b c : Int) (r : List Int), ds = .int a :: .int b :: .int c :: r.map .int ∧ 0 ≤ b ∧ b < 2 ^ 31 ∧ 3 ≤ c ∧ c ≤ 100 ∧ r.length ≤ 90
theorem pot0 {ns : List Int} (h : ns.length ≤ 90) : cPot [.fr (.list (ns.map .int))] = some (.nw (.list (.int 0 :: .int 5801 :: .int 3 :: ns.map .int)), [.no]) := by
  have h1 : ns.length + 1 + 1 + 1 ≤ sizeLine := Nat.le_trans (show _ ≤ 93 by omega) (by decide)
  have h2 : 3 + ns.length ≤ sizeLine := by omega
  have h3 : 3 ≤ sizeLine := by decide
  simp [cPot, h2, h3]
theorem take_end {a b c m : Int} {r : List Int} (hb : 0 ≤ b ∧ b < 2 ^ 31) (hc : 3 ≤ c ∧ c ≤ 100) (hr : r.length ≤ 90) (hm : 1 ≤ m ∧ m < 2 ^ 30) (s2 s3 : Sl) :
    ∃ (q : Int) (ds : List D) (s4 : Sl), cTakeEnd
      [.ln (.list (.int a :: .int b :: .int c :: r.map .int)), .fr (.int m), s2, s3, .no] = some (.rt (.fr (.int q)), [.ln (.list ds), .fr (.int m), s2, s3, s4]) ∧ 0 ≤ q ∧ q < m ∧ Pot ds := by
  have m0 : m ≠ 0 := by omega
  have md : ∀ i, dMod (.int i) (.int m) = some (.int (i.fmod m)) := fun i => by simp [dMod, m0]
  have md1 : ∀ i, dMod (.int i) (.int 2147483647) = some (.int (i.fmod 2147483647)) := fun i => by simp [dMod]
  have md2 : ∀ i, dMod (.int i) (.int 2147483629) = some (.int (i.fmod 2147483629)) := fun i => by simp [dMod]
  have fd : ∀ i, dFdiv (.int i) (.int m) = some (.int (i.fdiv m)) := fun i => fdiv_int ⟨m0, by omega⟩
  have fd16 : ∀ i, dFdiv (.int i) (.int 16) = some (.int (i.fdiv 16)) := fun i => fdiv_int ⟨by omega, by omega⟩
  have u1 : ∀ i, dMul (.int i) (.int 69621) = some (.int (i * 69621)) := fun i => mul_int (.inr ⟨by omega, by omega⟩)
  have u2 : ∀ i, dMul (.int 30323) (.int i) = some (.int (30323 * i)) := fun i => mul_int (.inl ⟨by omega, by omega⟩)
  have fm := fmod_range
  by_cases ha : 0 < a
  · refine ⟨a.fmod m, _, .fr (.int (a.fmod m)), ?_, (fm a m (by omega)).1, (fm a m (by omega)).2, a.fdiv m, b, c, r, rfl, hb.1, hb.2, hc.1, hc.2, hr⟩
    unfold cTakeEnd
    simp [ha, md, fd]
  · have b1 := fm (b * 69621 + 30323 * c + 19) 2147483647 (by omega)
    have u3 : dMul (.int ((b * 69621 + 30323 * c + 19).fmod 2147483647)) (.int ((b * 69621 + 30323 * c + 19).fmod 2147483647)) = some (.int ((b * 69621 + 30323 * c + 19).fmod 2147483647 * (b * 69621 + 30323 * c + 19).fmod 2147483647)) := mul_int (.inl ⟨by omega, by omega⟩)
    have b2 := fm ((b * 69621 + 30323 * c + 19).fmod 2147483647 * (b * 69621 + 30323 * c + 19).fmod 2147483647 + 5) 2147483629 (by omega)
    refine ⟨((((b * 69621 + 30323 * c + 19).fmod 2147483647 * (b * 69621 + 30323 * c + 19).fmod 2147483647 + 5).fmod 2147483629).fdiv 16).fmod m, _, .no, ?_, (fm _ m (by omega)).1, (fm _ m (by omega)).2, a, ((b * 69621 + 30323 * c + 19).fmod 2147483647 * (b * 69621 + 30323 * c + 19).fmod 2147483647 + 5).fmod 2147483629, c, r, rfl, b2.1, by omega, hc.1, hc.2, hr⟩
    unfold cTakeEnd
    simp [ha, md, md1, md2, fd16, u1, u2, u3]
theorem take_ok {ds : List D} {m : Int} (h : Pot ds) (hm : 1 ≤ m ∧ m < 2 ^ 30) : ∃ (q : Int) (es : List D), cTake [.ln (.list ds), .fr (.int m)] = some (.fr (.int q), [.ln (.list es), .no]) ∧ 0 ≤ q ∧ q < m ∧ Pot es := by
  obtain ⟨a, b, c, r, rfl, hb0, hb1, hc0, hc1, hr⟩ := h
  have md1 : ∀ i, dMod (.int i) (.int 2147483647) = some (.int (i.fmod 2147483647)) := fun i => by simp [dMod]
  have md2 : ∀ i, dMod (.int i) (.int 2147483629) = some (.int (i.fmod 2147483629)) := fun i => by simp [dMod]
  have pw : dPow (.int 10) (.int 18) = some (.int (10 ^ 18)) := by
    show (if CPow 10 18 then some (PyData.int ((10 : Int) ^ (18 : Int).toNat)) else none) = _
    rw [if_pos (show CPow 10 18 from ⟨by omega, by omega, by omega⟩)]
    rfl
  have u1 : ∀ i, dMul (.int 48271) (.int i) = some (.int (48271 * i)) := fun i => mul_int (.inl ⟨by omega, by omega⟩)
  have u2 : ∀ i, dMul (.int 613) (.int i) = some (.int (613 * i)) := fun i => mul_int (.inl ⟨by omega, by omega⟩)
  have fm := fmod_range
  by_cases h0 : a = 0 ∧ c < (r.length : Int) + 3
  · obtain ⟨rfl, hcl⟩ := h0
    obtain ⟨j, hj⟩ : ∃ j : Int, atI (PyData.int 0 :: .int b :: .int c :: r.map .int) c = some (.int j) := by
      rw [atI_pos (by omega) (by simp; omega)]
      obtain ⟨k, hk⟩ : ∃ k, c.toNat = k + 3 := ⟨c.toNat - 3, by omega⟩
      rw [hk]
      simp only [List.getElem?_cons_succ, List.getElem?_map]
      rw [List.getElem?_eq_getElem (by omega)]
      exact ⟨_, rfl⟩
    by_cases hj0 : (10 : Int) ^ 18 ≤ j
    · obtain ⟨q, es, s4, e, q1, q2, q3⟩ := take_end (a := j - 10 ^ 18) (b := b) (c := c + 1) (r := r) ⟨hb0, hb1⟩ ⟨by omega, by omega⟩ hr hm (.fr (.int j)) .no
      refine ⟨q, es, ?_, q1, q2, q3⟩
      unfold cTake
      have e1 : ((1000000000000000000 : Int) ≤ j) := by simpa using hj0
      have w1 : (c < (r.length : Int) + 1 + 1 + 1) := by omega
      simp [hj, pw, e1, w1, hcl] at e ⊢ <;> simp [e]
    · have j1 := fm j 2147483647 (by omega)
      have u3 : dMul (.int (j.fmod 2147483647)) (.int (j.fmod 2147483647)) = some (.int (j.fmod 2147483647 * j.fmod 2147483647)) := mul_int (.inl ⟨by omega, by omega⟩)
      have b2 := fm (b + (j.fmod 2147483647 * j.fmod 2147483647 + 48271 * j.fmod 2147483647 + 613 * (c + 1)).fmod 2147483629) 2147483629 (by omega)
      obtain ⟨q, es, s4, e, q1, q2, q3⟩ := take_end (a := 0) (b := (b + (j.fmod 2147483647 * j.fmod 2147483647 + 48271 * j.fmod 2147483647 + 613 * (c + 1)).fmod 2147483629).fmod 2147483629) (c := c + 1) (r := r) ⟨b2.1, by omega⟩ ⟨by omega, by omega⟩ hr hm (.fr (.int j)) (.fr (.int ((j.fmod 2147483647 * j.fmod 2147483647 + 48271 * j.fmod 2147483647 + 613 * (c + 1)).fmod 2147483629)))
      refine ⟨q, es, ?_, q1, q2, q3⟩
      unfold cTake
      have e1 : ¬ ((1000000000000000000 : Int) ≤ j) := by simpa using hj0
      have w1 : (c < (r.length : Int) + 1 + 1 + 1) := by omega
      simp [hj, pw, e1, w1, hcl, md1, md2, u1, u2, u3] at e ⊢ <;> simp [e]
  · obtain ⟨q, es, s4, e, q1, q2, q3⟩ := take_end (a := a) (b := b) (c := c) (r := r) ⟨hb0, hb1⟩ ⟨by omega, by omega⟩ hr hm .no .no
    refine ⟨q, es, ?_, q1, q2, q3⟩
    unfold cTake
    by_cases ha : a = 0
    · have w1 : ¬ (c < (r.length : Int) + 1 + 1 + 1) := fun w => h0 ⟨ha, by omega⟩
      have w2 : ¬ (c < (r.length : Int) + 3) := fun w => h0 ⟨ha, by omega⟩
      simp [ha, w1, w2] at e ⊢ <;> simp [e]
    · simp [ha] at e ⊢ <;> simp [e]
end Pu

namespace Pu
open PySem PySem.Spec PyProof.Rows L2

/-! ### data of bounded width and depth -/
def atomD : D → Prop
  | .none => True
  | .bool _ => True
  | .int _ => True
  | .str s => okStr s = true
  | _ => False
def fit (w : Nat) : Nat → D → Prop
  | 0, d => atomD d
  | k + 1, d => atomD d ∨ ∃ xs, (d = .list xs ∨ d = .tuple xs) ∧ xs.length ≤ w ∧ ∀ x ∈ xs, fit w k x
theorem fit_atom {w k : Nat} {d : D} (h : atomD d) : fit w k d := by
  cases k
  · exact h
  · exact .inl h
@[simp] theorem fit_int {w k : Nat} {i : Int} : fit w k (.int i) := fit_atom trivial
@[simp] theorem fit_bool {w k : Nat} {i : Bool} : fit w k (.bool i) := fit_atom trivial
@[simp] theorem fit_none {w k : Nat} : fit w k .none := fit_atom trivial
@[simp] theorem fit_str {w k : Nat} {s : Str} : fit w k (.str s) ↔ okStr s = true := by
  cases k
  · exact .rfl
  · constructor
    · rintro (h | ⟨xs, h | h, _⟩)
      · exact h
      · cases h
      · cases h
    · exact .inl
theorem fit_tup {w k : Nat} {xs : List D} : fit w (k + 1) (.tuple xs) ↔ xs.length ≤ w ∧ ∀ x ∈ xs, fit w k x := by
  constructor
  · rintro (h | ⟨ys, h | h, h1, h2⟩)
    · exact h.elim
    · cases h
    · cases h; exact ⟨h1, h2⟩
  · exact fun h => .inr ⟨xs, .inr rfl, h⟩
theorem fit_list {w k : Nat} {xs : List D} : fit w (k + 1) (.list xs) ↔ xs.length ≤ w ∧ ∀ x ∈ xs, fit w k x := by
  constructor
  · rintro (h | ⟨ys, h | h, h1, h2⟩)
    · exact h.elim
    · cases h; exact ⟨h1, h2⟩
    · cases h
  · exact fun h => .inr ⟨xs, .inl rfl, h⟩
@[simp] theorem fit_tup0 {w : Nat} {xs : List D} : ¬ fit w 0 (.tuple xs) := id
@[simp] theorem fit_list0 {w : Nat} {xs : List D} : ¬ fit w 0 (.list xs) := id
@[simp] theorem fit_dict {w k : Nat} {xs : List (D × D)} : ¬ fit w k (.dict xs) := by
  cases k
  · exact id
  · rintro (h | ⟨ys, h | h, h1, h2⟩)
    · exact h.elim
    · cases h
    · cases h
theorem fit_mono {w v : Nat} (hw : w ≤ v) : ∀ {k j : Nat} {d : D}, k ≤ j → fit w k d → fit v j d
  | 0, j, d, _, h => fit_atom h
  | k + 1, 0, d, hk, h => by omega
  | k + 1, j + 1, d, hk, h => by
    rcases h with h | ⟨xs, h, h1, h2⟩
    · exact .inl h
    · exact .inr ⟨xs, h, Nat.le_trans h1 hw, fun x hx => fit_mono hw (by omega) (h2 x hx)⟩
theorem lay_all : ∀ {xs : List D}, (∀ x ∈ xs, x.canLay0 = true) → PyData.canLayAll0 xs = true
  | [], _ => by simp [PyData.canLayAll0]
  | x :: xs, h => by
    have h2 := lay_all fun y hy => h y (List.mem_cons_of_mem x hy)
    simp [PyData.canLayAll0, h x (by simp), h2]
theorem deep_all {n : Nat} : ∀ {xs : List D}, (∀ x ∈ xs, x.depth ≤ n) → PyData.depthAll xs ≤ n
  | [], _ => by simp [PyData.depthAll]
  | x :: xs, h => by
    have h1 := h x (by simp)
    have h2 := deep_all fun y hy => h y (List.mem_cons_of_mem x hy)
    simp only [PyData.depthAll]
    omega
theorem fit_shape {w : Nat} : ∀ {k : Nat} {d : D}, fit w k d → d.canLay0 = true ∧ d.depth ≤ k
  | 0, d, h => by cases d <;> first | exact h.elim | (simp [PyData.canLay0, PyData.depth]; try exact h)
  | k + 1, d, h => by
    rcases h with h | ⟨xs, rfl | rfl, h1, h2⟩
    · cases d <;> first | exact h.elim | (simp [PyData.canLay0, PyData.depth]; try exact h)
    · refine ⟨by simp only [PyData.canLay0]; exact lay_all fun x hx => (fit_shape (h2 x hx)).1, ?_⟩
      have := deep_all fun x hx => (fit_shape (h2 x hx)).2
      simp only [PyData.depth]; omega
    · refine ⟨by simp only [PyData.canLay0]; exact lay_all fun x hx => (fit_shape (h2 x hx)).1, ?_⟩
      have := deep_all fun x hx => (fit_shape (h2 x hx)).2
      simp only [PyData.depth]; omega
theorem fit_shaped {w k : Nat} {d : D} (h : fit w k d) (hk : k ≤ 64) : SeqAt.shaped d = true := by
  have := fit_shape h
  simp only [SeqAt.shaped, Bool.and_eq_true, decide_eq_true_eq]
  exact ⟨this.1, by omega⟩

/-! ### tables, cuts -/
@[simp] theorem look_nil {z : Str} : lookD [] z = none := rfl
@[simp] theorem look_cons {a z : Str} {d : D} {t : List (Str × D)} : lookD ((a, d) :: t) z = if z = a then some d else lookD t z := by
  unfold lookD
  rw [List.find?_cons]
  by_cases h : z = a
  · simp [h]
  · have : ¬ a = z := fun e => h e.symm
    simp [h, this]
@[simp] theorem cut1 {x : D} {ds : List D} : cutD (x :: ds) (some 1) none = ds := by
  unfold cutD
  have e : HT.sIx (x :: ds).length 0 (some 1) = 1 := by
    rw [show (some (1 : Int)) = some ((1 : Nat) : Int) from rfl, HT.sIx_nat]; simp
  rw [e, HT.sIx_none]
  simp
@[simp] theorem cut2 {x y : D} {ds : List D} : cutD (x :: y :: ds) (some 2) none = ds := by
  unfold cutD
  have e : HT.sIx (x :: y :: ds).length 0 (some 2) = 2 := by
    rw [show (some (2 : Int)) = some ((2 : Nat) : Int) from rfl, HT.sIx_nat]; simp
  rw [e, HT.sIx_none]
  simp
theorem cut_le {ds : List D} {lo hi : Option Int} : (cutD ds lo hi).length ≤ ds.length := by
  unfold cutD; simp; omega
theorem cut_mem {ds : List D} {lo hi : Option Int} {x : D} (h : x ∈ cutD ds lo hi) : x ∈ ds := List.mem_of_mem_drop (List.mem_of_mem_take h)

/-! ### lengths -/
@[simp] theorem ln_1_0 (k : Nat) : (((k : Int) + 1) = 0) = False := by simp only [eq_iff_iff, iff_false]; omega
@[simp] theorem ln_2_0 (k : Nat) : (((k : Int) + 1 + 1) = 0) = False := by simp only [eq_iff_iff, iff_false]; omega
@[simp] theorem ln_2_1 (k : Nat) : (((k : Int) + 1 + 1) = 1) = False := by simp only [eq_iff_iff, iff_false]; omega
@[simp] theorem ln_3_0 (k : Nat) : (((k : Int) + 1 + 1 + 1) = 0) = False := by simp only [eq_iff_iff, iff_false]; omega
@[simp] theorem ln_3_1 (k : Nat) : (((k : Int) + 1 + 1 + 1) = 1) = False := by simp only [eq_iff_iff, iff_false]; omega
@[simp] theorem ln_3_2 (k : Nat) : (((k : Int) + 1 + 1 + 1) = 2) = False := by simp only [eq_iff_iff, iff_false]; omega
@[simp] theorem ln_4_0 (k : Nat) : (((k : Int) + 1 + 1 + 1 + 1) = 0) = False := by simp only [eq_iff_iff, iff_false]; omega
@[simp] theorem ln_4_1 (k : Nat) : (((k : Int) + 1 + 1 + 1 + 1) = 1) = False := by simp only [eq_iff_iff, iff_false]; omega
@[simp] theorem ln_4_2 (k : Nat) : (((k : Int) + 1 + 1 + 1 + 1) = 2) = False := by simp only [eq_iff_iff, iff_false]; omega
@[simp] theorem ln_4_3 (k : Nat) : (((k : Int) + 1 + 1 + 1 + 1) = 3) = False := by simp only [eq_iff_iff, iff_false]; omega
@[simp] theorem ln_5_0 (k : Nat) : (((k : Int) + 1 + 1 + 1 + 1 + 1) = 0) = False := by simp only [eq_iff_iff, iff_false]; omega
@[simp] theorem ln_5_1 (k : Nat) : (((k : Int) + 1 + 1 + 1 + 1 + 1) = 1) = False := by simp only [eq_iff_iff, iff_false]; omega
@[simp] theorem ln_5_2 (k : Nat) : (((k : Int) + 1 + 1 + 1 + 1 + 1) = 2) = False := by simp only [eq_iff_iff, iff_false]; omega
@[simp] theorem ln_5_3 (k : Nat) : (((k : Int) + 1 + 1 + 1 + 1 + 1) = 3) = False := by simp only [eq_iff_iff, iff_false]; omega
@[simp] theorem ln_5_4 (k : Nat) : (((k : Int) + 1 + 1 + 1 + 1 + 1) = 4) = False := by simp only [eq_iff_iff, iff_false]; omega
@[simp] theorem ln_6_0 (k : Nat) : (((k : Int) + 1 + 1 + 1 + 1 + 1 + 1) = 0) = False := by simp only [eq_iff_iff, iff_false]; omega
@[simp] theorem ln_6_1 (k : Nat) : (((k : Int) + 1 + 1 + 1 + 1 + 1 + 1) = 1) = False := by simp only [eq_iff_iff, iff_false]; omega
@[simp] theorem ln_6_2 (k : Nat) : (((k : Int) + 1 + 1 + 1 + 1 + 1 + 1) = 2) = False := by simp only [eq_iff_iff, iff_false]; omega
@[simp] theorem ln_6_3 (k : Nat) : (((k : Int) + 1 + 1 + 1 + 1 + 1 + 1) = 3) = False := by simp only [eq_iff_iff, iff_false]; omega
@[simp] theorem ln_6_4 (k : Nat) : (((k : Int) + 1 + 1 + 1 + 1 + 1 + 1) = 4) = False := by simp only [eq_iff_iff, iff_false]; omega
@[simp] theorem ln_6_5 (k : Nat) : (((k : Int) + 1 + 1 + 1 + 1 + 1 + 1) = 5) = False := by simp only [eq_iff_iff, iff_false]; omega
@[simp] theorem sz_0 : (0 ≤ sizeLine) = True := by simp only [eq_iff_iff, iff_true]; decide
@[simp] theorem sz_1 : (1 ≤ sizeLine) = True := by simp only [eq_iff_iff, iff_true]; decide
@[simp] theorem sz_2 : (2 ≤ sizeLine) = True := by simp only [eq_iff_iff, iff_true]; decide
@[simp] theorem sz_3 : (3 ≤ sizeLine) = True := by simp only [eq_iff_iff, iff_true]; decide
@[simp] theorem sz_4 : (4 ≤ sizeLine) = True := by simp only [eq_iff_iff, iff_true]; decide
@[simp] theorem sz_5 : (5 ≤ sizeLine) = True := by simp only [eq_iff_iff, iff_true]; decide
@[simp] theorem sz_6 : (6 ≤ sizeLine) = True := by simp only [eq_iff_iff, iff_true]; decide
@[simp] theorem sz_7 : (7 ≤ sizeLine) = True := by simp only [eq_iff_iff, iff_true]; decide
@[simp] theorem sz_8 : (8 ≤ sizeLine) = True := by simp only [eq_iff_iff, iff_true]; decide
@[simp] theorem sz_9 : (9 ≤ sizeLine) = True := by simp only [eq_iff_iff, iff_true]; decide
@[simp] theorem sz_10 : (10 ≤ sizeLine) = True := by simp only [eq_iff_iff, iff_true]; decide
@[simp] theorem sz_11 : (11 ≤ sizeLine) = True := by simp only [eq_iff_iff, iff_true]; decide
@[simp] theorem sz_12 : (12 ≤ sizeLine) = True := by simp only [eq_iff_iff, iff_true]; decide
@[simp] theorem sz_13 : (13 ≤ sizeLine) = True := by simp only [eq_iff_iff, iff_true]; decide
@[simp] theorem sz_14 : (14 ≤ sizeLine) = True := by simp only [eq_iff_iff, iff_true]; decide
@[simp] theorem sz_15 : (15 ≤ sizeLine) = True := by simp only [eq_iff_iff, iff_true]; decide
@[simp] theorem sz_16 : (16 ≤ sizeLine) = True := by simp only [eq_iff_iff, iff_true]; decide
@[simp] theorem sz_17 : (17 ≤ sizeLine) = True := by simp only [eq_iff_iff, iff_true]; decide
@[simp] theorem sz_18 : (18 ≤ sizeLine) = True := by simp only [eq_iff_iff, iff_true]; decide
@[simp] theorem sz_19 : (19 ≤ sizeLine) = True := by simp only [eq_iff_iff, iff_true]; decide
@[simp] theorem sl_0 : (0 < sizeLine) = True := by simp only [eq_iff_iff, iff_true]; decide
@[simp] theorem sl_1 : (1 < sizeLine) = True := by simp only [eq_iff_iff, iff_true]; decide
@[simp] theorem sl_2 : (2 < sizeLine) = True := by simp only [eq_iff_iff, iff_true]; decide
@[simp] theorem sl_3 : (3 < sizeLine) = True := by simp only [eq_iff_iff, iff_true]; decide
@[simp] theorem sl_4 : (4 < sizeLine) = True := by simp only [eq_iff_iff, iff_true]; decide
@[simp] theorem sl_5 : (5 < sizeLine) = True := by simp only [eq_iff_iff, iff_true]; decide
@[simp] theorem sl_6 : (6 < sizeLine) = True := by simp only [eq_iff_iff, iff_true]; decide
@[simp] theorem sl_7 : (7 < sizeLine) = True := by simp only [eq_iff_iff, iff_true]; decide
@[simp] theorem sl_8 : (8 < sizeLine) = True := by simp only [eq_iff_iff, iff_true]; decide
@[simp] theorem sl_9 : (9 < sizeLine) = True := by simp only [eq_iff_iff, iff_true]; decide
@[simp] theorem sl_10 : (10 < sizeLine) = True := by simp only [eq_iff_iff, iff_true]; decide
@[simp] theorem sl_11 : (11 < sizeLine) = True := by simp only [eq_iff_iff, iff_true]; decide
@[simp] theorem sl_12 : (12 < sizeLine) = True := by simp only [eq_iff_iff, iff_true]; decide
@[simp] theorem sl_13 : (13 < sizeLine) = True := by simp only [eq_iff_iff, iff_true]; decide
@[simp] theorem sl_14 : (14 < sizeLine) = True := by simp only [eq_iff_iff, iff_true]; decide
@[simp] theorem sl_15 : (15 < sizeLine) = True := by simp only [eq_iff_iff, iff_true]; decide
@[simp] theorem sl_16 : (16 < sizeLine) = True := by simp only [eq_iff_iff, iff_true]; decide
@[simp] theorem sl_17 : (17 < sizeLine) = True := by simp only [eq_iff_iff, iff_true]; decide
@[simp] theorem sl_18 : (18 < sizeLine) = True := by simp only [eq_iff_iff, iff_true]; decide
@[simp] theorem sl_19 : (19 < sizeLine) = True := by simp only [eq_iff_iff, iff_true]; decide
@[simp] theorem at4 {α : Type} (a0 a1 a2 a3 a4 : α) (xs : List α) : atI (a0 :: a1 :: a2 :: a3 :: a4 :: xs) 4 = some a4 := by
  rw [atI_pos (by omega) (by simp only [List.length_cons]; omega)]; rfl
@[simp] theorem at5 {α : Type} (a0 a1 a2 a3 a4 a5 : α) (xs : List α) : atI (a0 :: a1 :: a2 :: a3 :: a4 :: a5 :: xs) 5 = some a5 := by
  rw [atI_pos (by omega) (by simp only [List.length_cons]; omega)]; rfl
@[simp] theorem at6 {α : Type} (a0 a1 a2 a3 a4 a5 a6 : α) (xs : List α) : atI (a0 :: a1 :: a2 :: a3 :: a4 :: a5 :: a6 :: xs) 6 = some a6 := by
  rw [atI_pos (by omega) (by simp only [List.length_cons]; omega)]; rfl
@[simp] theorem at7 {α : Type} (a0 a1 a2 a3 a4 a5 a6 a7 : α) (xs : List α) : atI (a0 :: a1 :: a2 :: a3 :: a4 :: a5 :: a6 :: a7 :: xs) 7 = some a7 := by
  rw [atI_pos (by omega) (by simp only [List.length_cons]; omega)]; rfl
@[simp] theorem at8 {α : Type} (a0 a1 a2 a3 a4 a5 a6 a7 a8 : α) (xs : List α) : atI (a0 :: a1 :: a2 :: a3 :: a4 :: a5 :: a6 :: a7 :: a8 :: xs) 8 = some a8 := by
  rw [atI_pos (by omega) (by simp only [List.length_cons]; omega)]; rfl
@[simp] theorem at9 {α : Type} (a0 a1 a2 a3 a4 a5 a6 a7 a8 a9 : α) (xs : List α) : atI (a0 :: a1 :: a2 :: a3 :: a4 :: a5 :: a6 :: a7 :: a8 :: a9 :: xs) 9 = some a9 := by
  rw [atI_pos (by omega) (by simp only [List.length_cons]; omega)]; rfl
@[simp] theorem at10 {α : Type} (a0 a1 a2 a3 a4 a5 a6 a7 a8 a9 a10 : α) (xs : List α) : atI (a0 :: a1 :: a2 :: a3 :: a4 :: a5 :: a6 :: a7 :: a8 :: a9 :: a10 :: xs) 10 = some a10 := by
  rw [atI_pos (by omega) (by simp only [List.length_cons]; omega)]; rfl
@[simp] theorem at11 {α : Type} (a0 a1 a2 a3 a4 a5 a6 a7 a8 a9 a10 a11 : α) (xs : List α) : atI (a0 :: a1 :: a2 :: a3 :: a4 :: a5 :: a6 :: a7 :: a8 :: a9 :: a10 :: a11 :: xs) 11 = some a11 := by
  rw [atI_pos (by omega) (by simp only [List.length_cons]; omega)]; rfl
@[simp] theorem at12 {α : Type} (a0 a1 a2 a3 a4 a5 a6 a7 a8 a9 a10 a11 a12 : α) (xs : List α) : atI (a0 :: a1 :: a2 :: a3 :: a4 :: a5 :: a6 :: a7 :: a8 :: a9 :: a10 :: a11 :: a12 :: xs) 12 = some a12 := by
  rw [atI_pos (by omega) (by simp only [List.length_cons]; omega)]; rfl
@[simp] theorem at13 {α : Type} (a0 a1 a2 a3 a4 a5 a6 a7 a8 a9 a10 a11 a12 a13 : α) (xs : List α) : atI (a0 :: a1 :: a2 :: a3 :: a4 :: a5 :: a6 :: a7 :: a8 :: a9 :: a10 :: a11 :: a12 :: a13 :: xs) 13 = some a13 := by
  rw [atI_pos (by omega) (by simp only [List.length_cons]; omega)]; rfl
@[simp] theorem at14 {α : Type} (a0 a1 a2 a3 a4 a5 a6 a7 a8 a9 a10 a11 a12 a13 a14 : α) (xs : List α) : atI (a0 :: a1 :: a2 :: a3 :: a4 :: a5 :: a6 :: a7 :: a8 :: a9 :: a10 :: a11 :: a12 :: a13 :: a14 :: xs) 14 = some a14 := by
  rw [atI_pos (by omega) (by simp only [List.length_cons]; omega)]; rfl
@[simp] theorem at15 {α : Type} (a0 a1 a2 a3 a4 a5 a6 a7 a8 a9 a10 a11 a12 a13 a14 a15 : α) (xs : List α) : atI (a0 :: a1 :: a2 :: a3 :: a4 :: a5 :: a6 :: a7 :: a8 :: a9 :: a10 :: a11 :: a12 :: a13 :: a14 :: a15 :: xs) 15 = some a15 := by
  rw [atI_pos (by omega) (by simp only [List.length_cons]; omega)]; rfl
/-! ### runs that draw -/
@[simp] theorem ite_bind {α β : Type} {c : Prop} [Decidable c] {x y : Option α} {f : α → Option β} : (if c then x else y).bind f = if c then x.bind f else y.bind f := by split <;> rfl

theorem lcL_ex {g : CG} {elt : CE} {vs : List Nat} {I : En → Prop} {Q : D → Prop} : ∀ (ds acc : List D) (Γ : En), I Γ → (∀ d ∈ ds, ∀ Γ, I Γ → ∃ Γ1, g d Γ = some Γ1 ∧ ∃ z Γ2, elt Γ1 = some (z, Γ2) ∧ Q z ∧ I (wipeG Γ2 vs)) → acc.length + ds.length ≤ sizeLine →
    ∃ zs Γ', lcL g cYes elt vs ds acc Γ = some (acc ++ zs, Γ') ∧ I Γ' ∧ zs.length = ds.length ∧ ∀ z ∈ zs, Q z
  | [], acc, Γ, hI, _, _ => ⟨[], Γ, by simp [lcL], hI, rfl, by simp⟩
  | d :: ds, acc, Γ, hI, h, hz => by
    obtain ⟨Γ1, h1, z, Γ2, h2, h3, h4⟩ := h d (by simp) Γ hI
    simp only [List.length_cons] at hz
    obtain ⟨zs, Γ', k1, k2, k3, k4⟩ := lcL_ex ds (acc ++ [z]) _ h4 (fun x hx => h x (by simp [hx])) (by simp; omega)
    refine ⟨z :: zs, Γ', ?_, k2, by simp [k3], by simpa using ⟨h3, k4⟩⟩
    unfold lcL
    simp only [h1, Option.bind_some, cYes, if_true, h2]
    rw [if_pos (by omega), k1]
    simp
theorem forL_inv {g : CG} {body : CS} {I : En → Prop} : ∀ (ds : List D) (Γ : En), I Γ → (∀ d ∈ ds, ∀ Γ, I Γ → ∃ Γ1, g d Γ = some Γ1 ∧ ∃ Γ2, body Γ1 = some (.nx, Γ2) ∧ I Γ2) → ∃ Γ', forL g body ds Γ = some (.nx, Γ') ∧ I Γ'
  | [], Γ, hI, _ => ⟨Γ, by simp [forL], hI⟩
  | d :: ds, Γ, hI, h => by
    obtain ⟨Γ1, h1, Γ2, h2, h3⟩ := h d (by simp) Γ hI
    obtain ⟨Γ', k1, k2⟩ := forL_inv ds Γ2 h3 fun x hx => h x (by simp [hx])
    refine ⟨Γ', ?_, k2⟩
    unfold forL
    simp [h1, h2, k1]
theorem rng_len (i : Int) (n : Nat) : (rngD i n).length = n := by simp [rngD]
end Pu

namespace Pu
open PySem PySem.Spec PyProof.Rows L2

/-! ### one step of the later computations -/
@[simp] theorem ev2_0 {c : CA} {Γ : En} : cZip c Γ = (c Γ).bind fun p => match p.1 with | [.list a, .list b] => some (zipD a b, p.2) | [.tuple a, .tuple b] => some (zipD a b, p.2) | _ => none := rfl
@[simp] theorem ev2_1 {c : CA} {Γ : En} : cEnum c Γ = (c Γ).bind fun p => match p.1 with | [.list a] => some (enumD a, p.2) | _ => none := rfl
@[simp] theorem ev2_2 {c : CE} {Γ : En} : cSortSet c Γ = (c Γ).bind fun p => match p.1 with
  | .list ds => if ds.length < 64 then (intsD ds).bind fun ns => some (.nw (.list ((usort ns).map fun n => .int n)), p.2) else none
  | .tuple ds => if ds.length < 64 then (intsD ds).bind fun ns => some (.nw (.list ((usort ns).map fun n => .int n)), p.2) else none
  | _ => none := rfl
@[simp] theorem ev2_3 {vs : List Nat} {ci : CI} {g : CG} {cond : CT} {elt : CE} {Γ : En} : cSortSc vs ci g cond elt Γ = (ci Γ).bind fun p => if vs.all (notOwn p.2) = true then (lcL g cond elt vs p.1 [] (wipeG p.2 vs)).bind fun q => if q.1.length < 64 then (intsD q.1).bind fun ns => some (.nw (.list ((usort ns).map fun n => .int n)), restore p.2 q.2 vs) else none else none := rfl
@[simp] theorem ev2_4 {g : CGs} {ds : List D} {Γ : En} : gT g (.tuple ds) Γ = g ds Γ := rfl
@[simp] theorem ev2_5 {Γ : En} : gNil2 [] Γ = some Γ := rfl
@[simp] theorem ev2_6 {g : CG} {r : CGs} {d : D} {ds : List D} {Γ : En} : gCons2 g r (d :: ds) Γ = (g d Γ).bind (r ds) := rfl
theorem fAll_l (ds : List D) : fAll [.list ds] = (bools ds).bind fun bs => some (PyData.bool (bs.all id)) := rfl
theorem fAny_l (ds : List D) : fAny [.list ds] = (bools ds).bind fun bs => some (PyData.bool (bs.any id)) := rfl
@[simp] theorem bools_nil : bools [] = some [] := rfl
@[simp] theorem bools_cons (d : D) (ds : List D) : bools (d :: ds) = (toB d).bind fun b => (bools ds).bind fun r => some (b :: r) := rfl
theorem intsD_ints (ns : List Int) : intsD (ns.map fun n => .int n) = some ns := intsD_map ns
@[simp] theorem fMax2_i {i j : Int} : fMax2 [.int i, .int j] = some (.int (if j > i then j else i)) := rfl
@[simp] theorem fMin2_i {i j : Int} : fMin2 [.int i, .int j] = some (.int (if j < i then j else i)) := rfl
theorem fLcm_i {a b : Int} (ha : a.natAbs < 2 ^ 31) (hb : b.natAbs < 2 ^ 31) : fLcm [.int a, .int b] = some (.int ((Nat.lcm a.natAbs b.natAbs : Nat) : Int)) := by
  show (if a.natAbs < 2 ^ 31 ∧ b.natAbs < 2 ^ 31 then _ else none) = _
  rw [if_pos ⟨ha, hb⟩]
theorem fmod_pos {i j : Int} (h : 0 < j) : i.fmod j = i % j := Int.fmod_eq_emod_of_nonneg i (by omega)
theorem mod_pos {i j : Int} (h : 0 < j) : dMod (.int i) (.int j) = some (.int (i % j)) := by
  have : j ≠ 0 := by omega
  simp [dMod, this, fmod_pos h]
theorem lcL_filter {g : CG} {cond : CT} {elt : CE} {vs : List Nat} {Γ : En} {f : D → D} {c : D → Bool} : ∀ (ds acc : List D),
    (∀ d ∈ ds, ∃ Γ1, g d Γ = some Γ1 ∧ ∃ Γ2, cond Γ1 = some (c d, Γ2) ∧ (c d = false → wipeG Γ2 vs = Γ) ∧ (c d = true → ∃ Γ3, elt Γ2 = some (f d, Γ3) ∧ wipeG Γ3 vs = Γ)) → acc.length + ds.length ≤ sizeLine →
    lcL g cond elt vs ds acc Γ = some (acc ++ (ds.filter c).map f, Γ)
  | [], acc, _, _ => by simp [lcL]
  | d :: ds, acc, h, hz => by
    obtain ⟨Γ1, h1, Γ2, h2, h3, h4⟩ := h d (by simp)
    simp only [List.length_cons] at hz
    unfold lcL
    simp only [h1, Option.bind_some, h2]
    cases hc : c d with
    | false =>
      simp only [Bool.false_eq_true, if_false]
      rw [h3 hc, lcL_filter ds acc (fun x hx => h x (by simp [hx])) (by omega)]
      simp [hc]
    | true =>
      obtain ⟨Γ3, h5, h6⟩ := h4 hc
      simp only [if_true, h5, Option.bind_some]
      rw [if_pos (by omega), h6, lcL_filter ds (acc ++ [f d]) (fun x hx => h x (by simp [hx])) (by simp; omega)]
      simp [hc]
theorem forL_find {g : CG} {body : CS} {I : En → Prop} {q : D → Bool} {r : D → Rv} : ∀ (ds : List D) (Γ : En), I Γ → (∀ d ∈ ds, ∀ Γ, I Γ → ∃ Γ1, g d Γ = some Γ1 ∧ ∃ Γ2, body Γ1 = some (if q d = true then .rt (r d) else .nx, Γ2) ∧ I Γ2) →
    ∃ Γ', I Γ' ∧ forL g body ds Γ = some (match ds.find? q with | some d => .rt (r d) | none => .nx, Γ')
  | [], Γ, hI, _ => ⟨Γ, hI, by simp [forL]⟩
  | d :: ds, Γ, hI, h => by
    obtain ⟨Γ1, h1, Γ2, h2, h3⟩ := h d (by simp) Γ hI
    cases hq : q d with
    | true =>
      refine ⟨Γ2, h3, ?_⟩
      unfold forL
      rw [hq] at h2
      simp [h1, h2, hq]
    | false =>
      obtain ⟨Γ', k1, k2⟩ := forL_find ds Γ2 h3 fun x hx => h x (by simp [hx])
      refine ⟨Γ', k1, ?_⟩
      unfold forL
      rw [hq] at h2
      simp [h1, h2, hq, k2]
end Pu

namespace Can
open Pu

/-! ### sets of integers that go in rounds far below and far above: one form for each -/
def perL (A : Int → Bool) (p : Int) : Prop := 1 ≤ p ∧ ∃ N : Int, ∀ n, n < N → A n = A (n - p)
def perR (A : Int → Bool) (p : Int) : Prop := 1 ≤ p ∧ ∃ N : Int, ∀ n, N ≤ n → A n = A (n + p)
def pat (size : Int) (rest : List Int) (n : Int) : Bool := decide (n % size ∈ rest)
def cutAt (l f : Int) : Int := max l (min f 0)
structure Canon (A : Int → Bool) (size : Int) (below : List Int) (first last : Int) (kept above : List Int) : Prop where
  pl : perL A size
  pr : perR A size
  least : ∀ p, perL A p → perR A p → size ≤ p
  bs : below.Pairwise (· < ·)
  br : ∀ a ∈ below, 0 ≤ a ∧ a < size
  bp : ∃ N : Int, ∀ n, n < N → A n = pat size below n
  as : above.Pairwise (· < ·)
  ar : ∀ a ∈ above, 0 ≤ a ∧ a < size
  ap : ∃ N : Int, ∀ n, N ≤ n → A n = pat size above n
  core : ((∀ n, A n = pat size below n) ∧ first = 0 ∧ last = 0 ∧ kept = []) ∨
    ∃ f l : Int, (A f ≠ pat size below f ∧ ∀ n, n < f → A n = pat size below n) ∧ (A (l - 1) ≠ pat size above (l - 1) ∧ ∀ n, l ≤ n → A n = pat size above n) ∧
      ((l ≤ f ∧ first = cutAt l f ∧ last = cutAt l f ∧ kept = []) ∨ (f < l ∧ first = f ∧ last = l ∧ kept.Pairwise (· < ·) ∧ ∀ n, n ∈ kept ↔ f ≤ n ∧ n < l ∧ A n = true))
/-- far below there is a place of each remainder -/
theorem low_place {size a : Int} (hs : 1 ≤ size) (h0 : 0 ≤ a) (h1 : a < size) (N : Int) : ∃ n, n < N ∧ n % size = a := by
  refine ⟨a - size * (a.natAbs + N.natAbs + 1), ?_, ?_⟩
  · have : (a.natAbs + N.natAbs + 1 : Int) ≤ size * (a.natAbs + N.natAbs + 1) := by
      have h : (1 : Int) * (a.natAbs + N.natAbs + 1) ≤ size * (a.natAbs + N.natAbs + 1) := Int.mul_le_mul_of_nonneg_right hs (by omega)
      omega
    omega
  · rw [Int.sub_mul_emod_self_left]
    exact Int.emod_eq_of_lt h0 h1
theorem high_place {size a : Int} (hs : 1 ≤ size) (h0 : 0 ≤ a) (h1 : a < size) (N : Int) : ∃ n, N ≤ n ∧ n % size = a := by
  refine ⟨a + size * (a.natAbs + N.natAbs + 1), ?_, ?_⟩
  · have : (a.natAbs + N.natAbs + 1 : Int) ≤ size * (a.natAbs + N.natAbs + 1) := by
      have h : (1 : Int) * (a.natAbs + N.natAbs + 1) ≤ size * (a.natAbs + N.natAbs + 1) := Int.mul_le_mul_of_nonneg_right hs (by omega)
      omega
    omega
  · rw [Int.add_mul_emod_self_left]
    exact Int.emod_eq_of_lt h0 h1
theorem rest_low {A : Int → Bool} {size : Int} {b c : List Int} (hs : 1 ≤ size) (hb : b.Pairwise (· < ·)) (hc : c.Pairwise (· < ·)) (rb : ∀ a ∈ b, 0 ≤ a ∧ a < size) (rc : ∀ a ∈ c, 0 ≤ a ∧ a < size)
    (pb : ∃ N : Int, ∀ n, n < N → A n = pat size b n) (pc : ∃ N : Int, ∀ n, n < N → A n = pat size c n) : b = c := by
  obtain ⟨N, hN⟩ := pb
  obtain ⟨M, hM⟩ := pc
  have key : ∀ a, 0 ≤ a → a < size → (a ∈ b ↔ a ∈ c) := fun a h0 h1 => by
    obtain ⟨n, hn, e⟩ := low_place hs h0 h1 (min N M)
    have q : pat size b n = pat size c n := by rw [← hN n (by omega), ← hM n (by omega)]
    unfold pat at q
    rw [e] at q
    simpa using q
  exact lt_unique hb hc fun z => ⟨fun hz => (key z (rb z hz).1 (rb z hz).2).mp hz, fun hz => (key z (rc z hz).1 (rc z hz).2).mpr hz⟩
theorem rest_high {A : Int → Bool} {size : Int} {b c : List Int} (hs : 1 ≤ size) (hb : b.Pairwise (· < ·)) (hc : c.Pairwise (· < ·)) (rb : ∀ a ∈ b, 0 ≤ a ∧ a < size) (rc : ∀ a ∈ c, 0 ≤ a ∧ a < size)
    (pb : ∃ N : Int, ∀ n, N ≤ n → A n = pat size b n) (pc : ∃ N : Int, ∀ n, N ≤ n → A n = pat size c n) : b = c := by
  obtain ⟨N, hN⟩ := pb
  obtain ⟨M, hM⟩ := pc
  have key : ∀ a, 0 ≤ a → a < size → (a ∈ b ↔ a ∈ c) := fun a h0 h1 => by
    obtain ⟨n, hn, e⟩ := high_place hs h0 h1 (max N M)
    have q : pat size b n = pat size c n := by rw [← hN n (by omega), ← hM n (by omega)]
    unfold pat at q
    rw [e] at q
    simpa using q
  exact lt_unique hb hc fun z => ⟨fun hz => (key z (rb z hz).1 (rb z hz).2).mp hz, fun hz => (key z (rc z hz).1 (rc z hz).2).mpr hz⟩
/-- one form alone -/
theorem Canon.unique {A : Int → Bool} {s s' : Int} {b b' : List Int} {f f' l l' : Int} {k k' a a' : List Int} (C : Canon A s b f l k a) (C' : Canon A s' b' f' l' k' a') : s = s' ∧ b = b' ∧ f = f' ∧ l = l' ∧ k = k' ∧ a = a' := by
  have es : s = s' := Int.le_antisymm (C.least s' C'.pl C'.pr) (C'.least s C.pl C.pr)
  subst es
  have eb : b = b' := rest_low C.pl.1 C.bs C'.bs C.br C'.br C.bp C'.bp
  subst eb
  have ea : a = a' := rest_high C.pl.1 C.as C'.as C.ar C'.ar C.ap C'.ap
  subst ea
  refine ⟨rfl, rfl, ?_⟩
  rcases C.core with ⟨h, rfl, rfl, rfl⟩ | ⟨x, y, ⟨x1, x2⟩, ⟨y1, y2⟩, h⟩
  · rcases C'.core with ⟨h', rfl, rfl, rfl⟩ | ⟨x', y', ⟨x1', x2'⟩, _, _⟩
    · exact ⟨rfl, rfl, rfl, rfl⟩
    · exact absurd (h x') x1'
  · rcases C'.core with ⟨h', rfl, rfl, rfl⟩ | ⟨x', y', ⟨x1', x2'⟩, ⟨y1', y2'⟩, h'⟩
    · exact absurd (h' x) x1
    · have ex : x = x' := by
        rcases Int.lt_trichotomy x x' with q | q | q
        · exact absurd (x2' x q) x1
        · exact q
        · exact absurd (x2 x' q) x1'
      have ey : y = y' := by
        rcases Int.lt_trichotomy y y' with q | q | q
        · exact absurd (y2 (y' - 1) (by omega)) y1'
        · exact q
        · exact absurd (y2' (y - 1) (by omega)) y1
      subst ex ey
      rcases h with ⟨q, rfl, rfl, rfl⟩ | ⟨q, rfl, rfl, k1, k2⟩
      · rcases h' with ⟨_, rfl, rfl, rfl⟩ | ⟨q', _⟩
        · exact ⟨rfl, rfl, rfl, rfl⟩
        · omega
      · rcases h' with ⟨q', _⟩ | ⟨_, rfl, rfl, k1', k2'⟩
        · omega
        · exact ⟨rfl, rfl, lt_unique k1 k1' fun z => by rw [k2, k2'], rfl⟩
end Can

namespace Can
open Pu

/-! ### periods -/
def Per {α : Type} (P : Int → α) (p : Int) : Prop := ∀ n, P n = P (n + p)
theorem Per.neg {α : Type} {P : Int → α} {p : Int} (h : Per P p) : Per P (-p) := fun n => by
  have := h (n + -p)
  rw [show n + -p + p = n by omega] at this
  exact this.symm
theorem Per.add {α : Type} {P : Int → α} {p q : Int} (h : Per P p) (k : Per P q) : Per P (p + q) := fun n => by
  rw [h n, k (n + p)]
  congr 1
  omega
theorem Per.zero {α : Type} (P : Int → α) : Per P 0 := fun n => by simp
theorem Per.mulN {α : Type} {P : Int → α} {p : Int} (h : Per P p) : ∀ k : Nat, Per P (p * k)
  | 0 => by simpa using Per.zero P
  | k + 1 => by
    have := (Per.mulN h k).add h
    rw [show p * (k : Int) + p = p * ((k + 1 : Nat) : Int) by rw [Int.natCast_add, Int.mul_add]; simp] at this
    exact this
theorem Per.mul {α : Type} {P : Int → α} {p : Int} (h : Per P p) (k : Int) : Per P (p * k) := by
  rcases Int.le_total 0 k with hk | hk
  · have := h.mulN k.toNat
    rwa [Int.toNat_of_nonneg hk] at this
  · have := (h.mulN (-k).toNat).neg
    rw [Int.toNat_of_nonneg (by omega)] at this
    rwa [show -(p * -k) = p * k by rw [Int.mul_neg]; omega] at this
theorem Per.rem {α : Type} {P : Int → α} {p q : Int} (h : Per P p) (k : Per P q) : Per P (p % q) := by
  have := h.add (k.mul (-(p / q)))
  rwa [show p + q * -(p / q) = p % q by rw [Int.emod_def, Int.mul_neg]; omega] at this
/-- a least positive one, where there is one -/
theorem least_pos {Q : Int → Prop} {m : Int} (h1 : 1 ≤ m) (hm : Q m) : ∃ p, 1 ≤ p ∧ Q p ∧ ∀ q, 1 ≤ q → Q q → p ≤ q := by
  have go : ∀ (k : Nat) (m : Int), m.toNat ≤ k → 1 ≤ m → Q m → ∃ p, 1 ≤ p ∧ Q p ∧ ∀ q, 1 ≤ q → Q q → p ≤ q := by
    intro k
    induction k with
    | zero => intro m a b; omega
    | succ k ih =>
      intro m a b c
      by_cases hq : ∃ q, 1 ≤ q ∧ Q q ∧ q < m
      · obtain ⟨q, q1, q2, q3⟩ := hq
        exact ih q (by omega) q1 q2
      · refine ⟨m, b, c, fun q q1 q2 => ?_⟩
        by_cases hl : m ≤ q
        · exact hl
        · exact absurd ⟨q, q1, q2, by omega⟩ hq
  exact go m.toNat m (Nat.le_refl _) h1 hm
/-- the least period among the divisors of a period divides every period -/
theorem least_div {α : Type} {P : Int → α} {m d p : Int} (hm : 1 ≤ m) (pm : Per P m) (hd : 1 ≤ d) (dd : d ∣ m) (pd : Per P d) (ld : ∀ e, 1 ≤ e → e ∣ m → Per P e → d ≤ e) (hp : Per P p) : d ∣ p := by
  obtain ⟨z, z1, z2, z3⟩ := least_pos (Q := Per P) hm pm
  have dv : ∀ q, Per P q → z ∣ q := fun q hq => by
    apply Int.dvd_of_emod_eq_zero
    have r0 : 0 ≤ q % z := Int.emod_nonneg q (by omega)
    have r1 : q % z < z := Int.emod_lt_of_pos q (by omega)
    by_cases h : q % z = 0
    · exact h
    · have := z3 (q % z) (by omega) (hq.rem z2)
      omega
  have e : d = z := Int.le_antisymm (ld z z1 (dv m pm) z2) (z3 d hd pd)
  rw [e]
  exact dv p hp
theorem pat_mod {m : Int} {rest : List Int} {n k : Int} : pat m rest (n + m * k) = pat m rest n := by
  unfold pat
  rw [Int.add_mul_emod_self_left]
theorem pat_per {m : Int} {rest : List Int} : Per (pat m rest) m := fun n => by
  have := pat_mod (m := m) (rest := rest) (n := n) (k := 1)
  rw [Int.mul_one] at this
  exact this.symm
/-- what goes far below with a period goes so everywhere, for a pattern -/
theorem perL_pat {A : Int → Bool} {m p : Int} {rest : List Int} (hm : 1 ≤ m) (hp : 1 ≤ p) (h : ∃ N : Int, ∀ n, n < N → A n = pat m rest n) : perL A p ↔ Per (pat m rest) p := by
  obtain ⟨N, hN⟩ := h
  constructor
  · rintro ⟨_, M, hM⟩ n
    -- far below n + p
    have key : ∃ k : Int, n + p + m * k < min N M := by
      refine ⟨-(n.natAbs + p.natAbs + N.natAbs + M.natAbs + 1 : Int), ?_⟩
      have : (n.natAbs + p.natAbs + N.natAbs + M.natAbs + 1 : Int) ≤ m * (n.natAbs + p.natAbs + N.natAbs + M.natAbs + 1) := by
        have q : (1 : Int) * (n.natAbs + p.natAbs + N.natAbs + M.natAbs + 1) ≤ m * (n.natAbs + p.natAbs + N.natAbs + M.natAbs + 1) := Int.mul_le_mul_of_nonneg_right hm (by omega)
        omega
      rw [Int.mul_neg]
      omega
    obtain ⟨k, hk⟩ := key
    have e := hM (n + p + m * k) (by omega)
    rw [hN _ (by omega), hN _ (by omega), pat_mod, show n + p + m * k - p = n + m * k by omega, pat_mod] at e
    exact e.symm
  · intro h
    refine ⟨hp, N, fun n hn => ?_⟩
    rw [hN n hn, hN (n - p) (by omega), h (n - p)]
    congr 1
    omega
theorem perR_pat {A : Int → Bool} {m p : Int} {rest : List Int} (hm : 1 ≤ m) (hp : 1 ≤ p) (h : ∃ N : Int, ∀ n, N ≤ n → A n = pat m rest n) : perR A p ↔ Per (pat m rest) p := by
  obtain ⟨N, hN⟩ := h
  constructor
  · rintro ⟨_, M, hM⟩ n
    have key : ∃ k : Int, max N M ≤ n + m * k := by
      refine ⟨(n.natAbs + p.natAbs + N.natAbs + M.natAbs + 1 : Int), ?_⟩
      have : (n.natAbs + p.natAbs + N.natAbs + M.natAbs + 1 : Int) ≤ m * (n.natAbs + p.natAbs + N.natAbs + M.natAbs + 1) := by
        have q : (1 : Int) * (n.natAbs + p.natAbs + N.natAbs + M.natAbs + 1) ≤ m * (n.natAbs + p.natAbs + N.natAbs + M.natAbs + 1) := Int.mul_le_mul_of_nonneg_right hm (by omega)
        omega
      omega
    obtain ⟨k, hk⟩ := key
    have e := hM (n + m * k) (by omega)
    rw [hN _ (by omega), hN _ (by omega), pat_mod, show n + m * k + p = n + p + m * k by omega, pat_mod] at e
    exact e
  · intro h
    refine ⟨hp, N, fun n hn => ?_⟩
    rw [hN n hn, hN (n + p) (by omega), h n]
/-- the two ways in which a round is asked -/
theorem round_pat {m p : Int} {rest : List Int} (hm : 1 ≤ m) (hp : 1 ≤ p) (hd : p ∣ m) : (∀ a, 0 ≤ a → a < m → (a ∈ rest ↔ a % p ∈ rest)) ↔ Per (pat m rest) p := by
  have pm : p ≤ m := Int.le_of_dvd (by omega) hd
  constructor
  · intro h n
    have e : ∀ x : Int, pat m rest x = decide (x % p ∈ rest) := fun x => by
      unfold pat
      have q := h (x % m) (Int.emod_nonneg x (by omega)) (Int.emod_lt_of_pos x (by omega))
      rw [Int.emod_emod_of_dvd x hd] at q
      exact decide_eq_decide.mpr q
    rw [e, e, Int.add_emod_right]
  · intro h a h0 h1
    have q := (h.mul (-(a / p))) a
    rw [show a + p * -(a / p) = a % p by rw [Int.emod_def, Int.mul_neg]; omega] at q
    unfold pat at q
    have r0 : 0 ≤ a % p := Int.emod_nonneg a (by omega)
    have r1 : a % p < p := Int.emod_lt_of_pos a (by omega)
    rw [Int.emod_eq_of_lt h0 h1, Int.emod_eq_of_lt r0 (by omega)] at q
    exact decide_eq_decide.mp q
theorem goes_pat {m p : Int} {rest : List Int} (hm : 1 ≤ m) : (∀ a, 0 ≤ a → a < m → (a ∈ rest ↔ (a + p) % m ∈ rest)) ↔ Per (pat m rest) p := by
  constructor
  · intro h n
    unfold pat
    have q := h (n % m) (Int.emod_nonneg n (by omega)) (Int.emod_lt_of_pos n (by omega))
    rw [Int.emod_add_emod] at q
    exact decide_eq_decide.mpr q
  · intro h a h0 h1
    have q := h a
    unfold pat at q
    rw [Int.emod_eq_of_lt h0 h1] at q
    exact decide_eq_decide.mp q
end Can

namespace Can
open Pu

structure St where
  m : Int
  L : List Int
  lo : Int
  hi : Int
  M : List Int
  R : List Int
def has (S : St) (n : Int) : Bool := if n < S.lo then pat S.m S.L n else if n < S.hi then decide (n ∈ S.M) else pat S.m S.R n
structure Ok (S : St) : Prop where
  m1 : 1 ≤ S.m
  lh : S.lo ≤ S.hi
  Ls : S.L.Pairwise (· < ·)
  Lr : ∀ a ∈ S.L, 0 ≤ a ∧ a < S.m
  Ms : S.M.Pairwise (· < ·)
  Mr : ∀ n ∈ S.M, S.lo ≤ n ∧ n < S.hi
  Rs : S.R.Pairwise (· < ·)
  Rr : ∀ a ∈ S.R, 0 ≤ a ∧ a < S.m
theorem has_low {S : St} {n : Int} (h : n < S.lo) : has S n = pat S.m S.L n := by unfold has; rw [if_pos h]
theorem has_high {S : St} (k : Ok S) {n : Int} (h : S.hi ≤ n) : has S n = pat S.m S.R n := by
  have := k.lh
  unfold has; rw [if_neg (by omega), if_neg (by omega)]
def rem (size : Int) (rest : List Int) : List Int := usort (rest.map fun a => a % size)
theorem rem_pat {m size : Int} {rest : List Int} (hm : 1 ≤ m) (hs : 1 ≤ size) (hd : size ∣ m) (hr : ∀ a ∈ rest, 0 ≤ a ∧ a < m) (hp : Per (pat m rest) size) (n : Int) : pat size (rem size rest) n = pat m rest n := by
  unfold pat
  refine decide_eq_decide.mpr ?_
  unfold rem
  rw [usort_mem, List.mem_map]
  constructor
  · rintro ⟨a, ha, e⟩
    have q := hp.mul ((n - a) / size) a
    have z : (n - a) % size = 0 := by rw [Int.sub_emod, e]; simp
    have z2 : size * ((n - a) / size) = n - a := by
      have := Int.emod_def (n - a) size
      omega
    rw [z2, show a + (n - a) = n by omega] at q
    unfold pat at q
    rw [Int.emod_eq_of_lt (hr a ha).1 (hr a ha).2] at q
    exact (decide_eq_decide.mp q).mp ha
  · intro h
    exact ⟨n % m, h, Int.emod_emod_of_dvd n hd⟩
theorem rem_range {size : Int} {rest : List Int} (hs : 1 ≤ size) : ∀ a ∈ rem size rest, 0 ≤ a ∧ a < size := by
  intro a ha
  unfold rem at ha
  rw [usort_mem, List.mem_map] at ha
  obtain ⟨b, _, rfl⟩ := ha
  exact ⟨Int.emod_nonneg b (by omega), Int.emod_lt_of_pos b (by omega)⟩
def rngI (lo : Int) (n : Nat) : List Int := (List.range n).map fun i => lo + (i : Nat)
theorem rngI_mem {lo : Int} {n : Nat} {x : Int} : x ∈ rngI lo n ↔ lo ≤ x ∧ x < lo + n := by
  unfold rngI
  rw [List.mem_map]
  constructor
  · rintro ⟨i, hi, rfl⟩
    have := List.mem_range.mp hi
    omega
  · rintro ⟨h1, h2⟩
    exact ⟨(x - lo).toNat, List.mem_range.mpr (by omega), by omega⟩
theorem rngI_lt {lo : Int} {n : Nat} : (rngI lo n).Pairwise (· < ·) := by
  unfold rngI
  rw [List.pairwise_map]
  exact List.pairwise_lt_range.imp fun h => by omega
def firsts (A : Int → Bool) (lo hi size : Int) (below : List Int) : List Int := (rngI lo (hi + size - lo).toNat).filter fun n => A n != pat size below n
def lasts (A : Int → Bool) (lo hi size : Int) (above : List Int) : List Int := (rngI (lo - size) (hi - (lo - size)).toNat).filter fun n => A n != pat size above n
theorem firsts_nil {S : St} (k : Ok S) {size : Int} (hs : 1 ≤ size) {below : List Int} (hb : ∀ n, pat size below n = pat S.m S.L n) (hr : Per (pat S.m S.R) size) (h : firsts (has S) S.lo S.hi size below = []) (n : Int) : has S n = pat size below n := by
  have mid : ∀ n, S.lo ≤ n → n < S.hi + size → has S n = pat size below n := fun n h1 h2 => by
    have q := List.filter_eq_nil_iff.mp h n (rngI_mem.mpr ⟨h1, by omega⟩)
    simpa using q
  have lh := k.lh
  by_cases h1 : n < S.lo
  · rw [has_low h1, hb]
  · by_cases h2 : n < S.hi
    · exact mid n (by omega) (by omega)
    · -- brought into the round above
      have r0 : 0 ≤ (n - S.hi) % size := Int.emod_nonneg _ (by omega)
      have r1 : (n - S.hi) % size < size := Int.emod_lt_of_pos _ (by omega)
      have e : n = (S.hi + (n - S.hi) % size) + size * ((n - S.hi) / size) := by
        have := Int.emod_def (n - S.hi) size
        omega
      have q := mid (S.hi + (n - S.hi) % size) (by omega) (by omega)
      rw [has_high k (by omega), hb] at q
      have g1 := hr.mul ((n - S.hi) / size) (S.hi + (n - S.hi) % size)
      rw [← e] at g1
      have g2 : pat size below n = pat size below (S.hi + (n - S.hi) % size) := by
        conv => lhs; rw [e]
        exact pat_mod
      rw [has_high k (by omega), ← g1, q, g2, hb]
theorem lasts_nil {S : St} (k : Ok S) {size : Int} (hs : 1 ≤ size) {above : List Int} (ha : ∀ n, pat size above n = pat S.m S.R n) (hl : Per (pat S.m S.L) size) (h : lasts (has S) S.lo S.hi size above = []) (n : Int) : has S n = pat size above n := by
  have lh := k.lh
  have mid : ∀ n, S.lo - size ≤ n → n < S.hi → has S n = pat size above n := fun n h1 h2 => by
    have q := List.filter_eq_nil_iff.mp h n (rngI_mem.mpr ⟨h1, by omega⟩)
    simpa using q
  by_cases h1 : S.hi ≤ n
  · rw [has_high k h1, ha]
  · by_cases h2 : S.lo ≤ n
    · exact mid n (by omega) (by omega)
    · have r0 : 0 ≤ (n - (S.lo - size)) % size := Int.emod_nonneg _ (by omega)
      have r1 : (n - (S.lo - size)) % size < size := Int.emod_lt_of_pos _ (by omega)
      have e : n = (S.lo - size + (n - (S.lo - size)) % size) + size * ((n - (S.lo - size)) / size) := by
        have := Int.emod_def (n - (S.lo - size)) size
        omega
      have q := mid (S.lo - size + (n - (S.lo - size)) % size) (by omega) (by omega)
      rw [has_low (by omega), ha] at q
      have g1 := hl.mul ((n - (S.lo - size)) / size) (S.lo - size + (n - (S.lo - size)) % size)
      rw [← e] at g1
      have g2 : pat size above n = pat size above (S.lo - size + (n - (S.lo - size)) % size) := by
        conv => lhs; rw [e]
        exact pat_mod
      rw [has_low (by omega), ← g1, q, g2, ha]
end Can

namespace Can
open Pu

theorem first_is {A : Int → Bool} {lo hi size : Int} {below t : List Int} {f : Int} (h : firsts A lo hi size below = f :: t) : lo ≤ f ∧ f < hi + size ∧ A f ≠ pat size below f ∧ ∀ n, lo ≤ n → n < f → A n = pat size below n := by
  have hp : (firsts A lo hi size below).Pairwise (· < ·) := rngI_lt.filter _
  have hm : ∀ n, n ∈ f :: t ↔ (lo ≤ n ∧ n < lo + ((hi + size - lo).toNat : Int)) ∧ (A n != pat size below n) = true := fun n => by
    rw [← h]; unfold firsts; rw [List.mem_filter, rngI_mem]
  rw [h] at hp
  have hf := (hm f).mp List.mem_cons_self
  have hne : A f ≠ pat size below f := by simpa using hf.2
  refine ⟨hf.1.1, by omega, hne, fun n h1 h2 => ?_⟩
  by_cases q : A n = pat size below n
  · exact q
  · have : n ∈ f :: t := (hm n).mpr ⟨⟨h1, by omega⟩, by simpa using q⟩
    rcases List.mem_cons.mp this with e | e
    · omega
    · have := (List.pairwise_cons.mp hp).1 n e
      omega
theorem last_is {A : Int → Bool} {lo hi size : Int} {above t : List Int} {l : Int} (h : lasts A lo hi size above = t ++ [l]) : lo - size ≤ l ∧ l < hi ∧ A l ≠ pat size above l ∧ ∀ n, l < n → n < hi → A n = pat size above n := by
  have hp : (lasts A lo hi size above).Pairwise (· < ·) := rngI_lt.filter _
  have hm : ∀ n, n ∈ t ++ [l] ↔ (lo - size ≤ n ∧ n < lo - size + ((hi - (lo - size)).toNat : Int)) ∧ (A n != pat size above n) = true := fun n => by
    rw [← h]; unfold lasts; rw [List.mem_filter, rngI_mem]
  rw [h] at hp
  have hf := (hm l).mp (by simp)
  have hne : A l ≠ pat size above l := by simpa using hf.2
  refine ⟨hf.1.1, by omega, hne, fun n h1 h2 => ?_⟩
  by_cases q : A n = pat size above n
  · exact q
  · have : n ∈ t ++ [l] := (hm n).mpr ⟨⟨by omega, by omega⟩, by simpa using q⟩
    rcases List.mem_append.mp this with e | e
    · have := (List.pairwise_append.mp hp).2.2 n e l (by simp)
      omega
    · have := List.mem_singleton.mp e
      omega
/-- what is asked of the round of a set's one form -/
structure Size (S : St) (size : Int) : Prop where
  s1 : 1 ≤ size
  dv : size ∣ S.m
  pl : Per (pat S.m S.L) size
  pr : Per (pat S.m S.R) size
  least : ∀ p, 1 ≤ p → Per (pat S.m S.L) p → Per (pat S.m S.R) p → size ≤ p
theorem canon_base {S : St} {size : Int} (k : Ok S) (z : Size S size) {first last : Int} {kept : List Int}
    (core : ((∀ n, has S n = pat size (rem size S.L) n) ∧ first = 0 ∧ last = 0 ∧ kept = []) ∨
      ∃ f l : Int, (has S f ≠ pat size (rem size S.L) f ∧ ∀ n, n < f → has S n = pat size (rem size S.L) n) ∧ (has S (l - 1) ≠ pat size (rem size S.R) (l - 1) ∧ ∀ n, l ≤ n → has S n = pat size (rem size S.R) n) ∧
        ((l ≤ f ∧ first = cutAt l f ∧ last = cutAt l f ∧ kept = []) ∨ (f < l ∧ first = f ∧ last = l ∧ kept.Pairwise (· < ·) ∧ ∀ n, n ∈ kept ↔ f ≤ n ∧ n < l ∧ has S n = true))) :
    Canon (has S) size (rem size S.L) first last kept (rem size S.R) where
  pl := (perL_pat k.m1 z.s1 ⟨S.lo, fun n h => has_low h⟩).mpr z.pl
  pr := (perR_pat k.m1 z.s1 ⟨S.hi, fun n h => has_high k h⟩).mpr z.pr
  least := fun p hl hr => z.least p hl.1 ((perL_pat k.m1 hl.1 ⟨S.lo, fun n h => has_low h⟩).mp hl) ((perR_pat k.m1 hl.1 ⟨S.hi, fun n h => has_high k h⟩).mp hr)
  bs := usort_lt
  br := rem_range z.s1
  bp := ⟨S.lo, fun n h => by rw [has_low h, rem_pat k.m1 z.s1 z.dv k.Lr z.pl]⟩
  as := usort_lt
  ar := rem_range z.s1
  ap := ⟨S.hi, fun n h => by rw [has_high k h, rem_pat k.m1 z.s1 z.dv k.Rr z.pr]⟩
  core := core
theorem canon_all {S : St} {size : Int} (k : Ok S) (z : Size S size) (h : firsts (has S) S.lo S.hi size (rem size S.L) = []) : Canon (has S) size (rem size S.L) 0 0 [] (rem size S.R) :=
  canon_base k z (.inl ⟨firsts_nil k z.s1 (rem_pat k.m1 z.s1 z.dv k.Lr z.pl) z.pr h, rfl, rfl, rfl⟩)
theorem low_first {S : St} {size : Int} (k : Ok S) (z : Size S size) {f : Int} {t : List Int} (h : firsts (has S) S.lo S.hi size (rem size S.L) = f :: t) : has S f ≠ pat size (rem size S.L) f ∧ ∀ n, n < f → has S n = pat size (rem size S.L) n := by
  obtain ⟨h1, h2, h3, h4⟩ := first_is h
  refine ⟨h3, fun n hn => ?_⟩
  by_cases q : n < S.lo
  · rw [has_low q, rem_pat k.m1 z.s1 z.dv k.Lr z.pl]
  · exact h4 n (by omega) hn
theorem high_last {S : St} {size : Int} (k : Ok S) (z : Size S size) {l : Int} {t : List Int} (h : lasts (has S) S.lo S.hi size (rem size S.R) = t ++ [l]) : has S (l + 1 - 1) ≠ pat size (rem size S.R) (l + 1 - 1) ∧ ∀ n, l + 1 ≤ n → has S n = pat size (rem size S.R) n := by
  obtain ⟨h1, h2, h3, h4⟩ := last_is h
  rw [show l + 1 - 1 = l by omega]
  refine ⟨h3, fun n hn => ?_⟩
  by_cases q : n < S.hi
  · exact h4 n (by omega) q
  · rw [has_high k (by omega), rem_pat k.m1 z.s1 z.dv k.Rr z.pr]
/-- where the lower pattern is left, the upper one is left too -/
theorem lasts_some {S : St} {size : Int} (k : Ok S) (z : Size S size) {f : Int} {t : List Int} (h : firsts (has S) S.lo S.hi size (rem size S.L) = f :: t) : ∃ u l, lasts (has S) S.lo S.hi size (rem size S.R) = u ++ [l] := by
  rcases List.eq_nil_or_concat (lasts (has S) S.lo S.hi size (rem size S.R)) with q | ⟨u, l, q⟩
  · have all := lasts_nil k z.s1 (rem_pat k.m1 z.s1 z.dv k.Rr z.pr) z.pl q
    obtain ⟨h1, h2⟩ := low_first k z h
    have e : rem size S.L = rem size S.R := rest_low (A := has S) z.s1 usort_lt usort_lt (rem_range z.s1) (rem_range z.s1) ⟨f, h2⟩ ⟨0, fun n _ => all n⟩
    exact absurd (all f) (by rw [← e]; exact h1)
  · exact ⟨u, l, by simpa using q⟩
theorem canon_cut {S : St} {size : Int} (k : Ok S) (z : Size S size) {f l : Int} {t u : List Int} (h : firsts (has S) S.lo S.hi size (rem size S.L) = f :: t) (h' : lasts (has S) S.lo S.hi size (rem size S.R) = u ++ [l]) (c : l + 1 ≤ f) :
    Canon (has S) size (rem size S.L) (cutAt (l + 1) f) (cutAt (l + 1) f) [] (rem size S.R) :=
  canon_base k z (.inr ⟨f, l + 1, low_first k z h, high_last k z h', .inl ⟨c, rfl, rfl, rfl⟩⟩)
theorem canon_kept {S : St} {size : Int} (k : Ok S) (z : Size S size) {f l : Int} {t u : List Int} (h : firsts (has S) S.lo S.hi size (rem size S.L) = f :: t) (h' : lasts (has S) S.lo S.hi size (rem size S.R) = u ++ [l]) (c : f < l + 1) :
    Canon (has S) size (rem size S.L) f (l + 1) ((rngI f (l + 1 - f).toNat).filter fun n => has S n) (rem size S.R) :=
  canon_base k z (.inr ⟨f, l + 1, low_first k z h, high_last k z h', .inr ⟨c, rfl, rfl, rngI_lt.filter _, fun n => by
    rw [List.mem_filter, rngI_mem]
    constructor
    · rintro ⟨⟨a, b⟩, e⟩; exact ⟨a, by omega, e⟩
    · rintro ⟨a, b, e⟩; exact ⟨⟨a, by omega⟩, e⟩⟩⟩)
/-- the one form is a set, of the same integers -/
theorem Canon.ok {A : Int → Bool} {s : Int} {b : List Int} {f l : Int} {kp a : List Int} (C : Canon A s b f l kp a) : Ok ⟨s, b, f, l, kp, a⟩ ∧ ∀ n, has ⟨s, b, f, l, kp, a⟩ n = A n := by
  rcases C.core with ⟨h, rfl, rfl, rfl⟩ | ⟨x, y, ⟨x1, x2⟩, ⟨y1, y2⟩, ⟨q, rfl, rfl, rfl⟩ | ⟨q, rfl, rfl, k1, k2⟩⟩
  · have e : a = b := (rest_high C.pl.1 C.as C.bs C.ar C.br C.ap ⟨0, fun n _ => h n⟩)
    subst e
    refine ⟨⟨C.pl.1, Int.le_refl _, C.bs, C.br, .nil, by simp, C.as, C.ar⟩, fun n => ?_⟩
    unfold has
    simp only
    split
    · exact (h n).symm
    · exact (h n).symm
  · have c1 : y ≤ cutAt y x := by unfold cutAt; omega
    have c2 : cutAt y x ≤ x := by unfold cutAt; omega
    refine ⟨⟨C.pl.1, Int.le_refl _, C.bs, C.br, .nil, by simp, C.as, C.ar⟩, fun n => ?_⟩
    unfold has
    simp only
    split
    · exact (x2 n (by omega)).symm
    · exact (y2 n (by omega)).symm
  · refine ⟨⟨C.pl.1, by show f ≤ l; omega, C.bs, C.br, k1, fun n hn => ⟨((k2 n).mp hn).1, ((k2 n).mp hn).2.1⟩, C.as, C.ar⟩, fun n => ?_⟩
    unfold has
    simp only
    split
    · exact (x2 n (by assumption)).symm
    · split
      · by_cases hA : A n = true
        · rw [hA]; exact decide_eq_true ((k2 n).mpr ⟨by omega, by omega, hA⟩)
        · have : n ∉ kp := fun hn => hA ((k2 n).mp hn).2.2
          rw [decide_eq_false this]
          simpa using hA
      · exact (y2 n (by omega)).symm
end Can

namespace Can
open Pu

/-! ### the rounds, as the program and as the law find them -/
def isRound (m : Int) (rest : List Int) (p : Int) : Bool := (rngI 0 m.toNat).all fun a => decide (a ∈ rest) == decide (a % p ∈ rest)
def goes (m : Int) (rest : List Int) (p : Int) : Bool := (rngI 0 m.toNat).all fun a => decide (a ∈ rest) == decide ((a + p) % m ∈ rest)
theorem isRound_per {m p : Int} {rest : List Int} (hm : 1 ≤ m) (hp : 1 ≤ p) (hd : p ∣ m) : isRound m rest p = true ↔ Per (pat m rest) p := by
  rw [← round_pat hm hp hd]
  unfold isRound
  rw [List.all_eq_true]
  constructor
  · intro h a h0 h1
    have q := h a (rngI_mem.mpr ⟨h0, by omega⟩)
    rw [beq_iff_eq, decide_eq_decide] at q
    exact q
  · intro h a ha
    obtain ⟨h0, h1⟩ := rngI_mem.mp ha
    rw [beq_iff_eq, decide_eq_decide]
    exact h a h0 (by omega)
theorem goes_per {m p : Int} {rest : List Int} (hm : 1 ≤ m) : goes m rest p = true ↔ Per (pat m rest) p := by
  rw [← goes_pat hm]
  unfold goes
  rw [List.all_eq_true]
  constructor
  · intro h a h0 h1
    have q := h a (rngI_mem.mpr ⟨h0, by omega⟩)
    rw [beq_iff_eq, decide_eq_decide] at q
    exact q
  · intro h a ha
    obtain ⟨h0, h1⟩ := rngI_mem.mp ha
    rw [beq_iff_eq, decide_eq_decide]
    exact h a h0 (by omega)
/-- the first of an ascending list with a property -/
theorem find_least {Q : Int → Bool} : ∀ {xs : List Int} {x : Int}, xs.Pairwise (· < ·) → xs.find? Q = some x → x ∈ xs ∧ Q x = true ∧ ∀ y ∈ xs, Q y = true → x ≤ y
  | [], _, _, h => by cases h
  | z :: zs, x, hp, h => by
    obtain ⟨h1, h2⟩ := List.pairwise_cons.mp hp
    rw [List.find?_cons] at h
    split at h
    · rename_i hq
      cases h
      refine ⟨List.mem_cons_self, hq, fun y hy _ => ?_⟩
      rcases List.mem_cons.mp hy with rfl | hy
      · exact Int.le_refl _
      · exact Int.le_of_lt (h1 y hy)
    · rename_i hq
      obtain ⟨a, b, c⟩ := find_least h2 h
      refine ⟨List.mem_cons_of_mem _ a, b, fun y hy hy2 => ?_⟩
      rcases List.mem_cons.mp hy with rfl | hy
      · rw [hy2] at hq; cases hq
      · exact c y hy hy2
def leastRound (m : Int) (rest : List Int) : Int := ((rngI 1 (m - 1).toNat).find? fun p => decide (m % p = 0) && isRound m rest p).getD m
structure Least (m : Int) (rest : List Int) (p : Int) : Prop where
  p1 : 1 ≤ p
  dv : p ∣ m
  per : Per (pat m rest) p
  least : ∀ e, 1 ≤ e → e ∣ m → Per (pat m rest) e → p ≤ e
theorem leastRound_is {m : Int} {rest : List Int} (hm : 1 ≤ m) : Least m rest (leastRound m rest) := by
  unfold leastRound
  cases h : (rngI 1 (m - 1).toNat).find? fun p => decide (m % p = 0) && isRound m rest p with
  | none =>
    refine ⟨hm, Int.dvd_refl _, pat_per, fun e h1 hd hp => ?_⟩
    show m ≤ e
    by_cases hl : m ≤ e
    · exact hl
    · have q := List.find?_eq_none.mp h e (rngI_mem.mpr ⟨h1, by omega⟩)
      rw [(isRound_per hm h1 hd).mpr hp, Int.emod_eq_zero_of_dvd hd] at q
      simp at q
  | some p =>
    obtain ⟨h1, h2, h3⟩ := find_least rngI_lt h
    rw [Bool.and_eq_true, decide_eq_true_eq] at h2
    obtain ⟨r1, r2⟩ := rngI_mem.mp h1
    have hd : p ∣ m := Int.dvd_of_emod_eq_zero h2.1
    refine ⟨r1, hd, (isRound_per hm r1 hd).mp h2.2, fun e e1 ed ep => ?_⟩
    show p ≤ e
    by_cases hl : e < m
    · refine h3 e (rngI_mem.mpr ⟨e1, by omega⟩) ?_
      rw [(isRound_per hm e1 ed).mpr ep, Int.emod_eq_zero_of_dvd ed]
      rfl
    · omega
theorem Least.divides {m p q : Int} {rest : List Int} (hm : 1 ≤ m) (l : Least m rest p) (hq : Per (pat m rest) q) : p ∣ q :=
  least_div hm pat_per l.p1 l.dv l.per l.least hq
def lcmI (a b : Int) : Int := ((Nat.lcm a.natAbs b.natAbs : Nat) : Int)
theorem lcmI_dvd {a b c : Int} (h1 : a ∣ c) (h2 : b ∣ c) : lcmI a b ∣ c := by
  unfold lcmI
  exact Int.natAbs_dvd_natAbs.mp (by rw [Int.natAbs_natCast]; exact Nat.lcm_dvd (Int.natAbs_dvd_natAbs.mpr h1) (Int.natAbs_dvd_natAbs.mpr h2))
theorem dvd_lcmI_left (a b : Int) : a ∣ lcmI a b := by
  unfold lcmI
  exact Int.natAbs_dvd_natAbs.mp (by rw [Int.natAbs_natCast]; exact Nat.dvd_lcm_left _ _)
theorem dvd_lcmI_right (a b : Int) : b ∣ lcmI a b := by
  unfold lcmI
  exact Int.natAbs_dvd_natAbs.mp (by rw [Int.natAbs_natCast]; exact Nat.dvd_lcm_right _ _)
theorem Per.of_dvd {α : Type} {P : Int → α} {p q : Int} (h : Per P p) (d : p ∣ q) : Per P q := by
  obtain ⟨k, rfl⟩ := d
  exact h.mul k
theorem size_prog {S : St} (k : Ok S) : Size S (lcmI (leastRound S.m S.L) (leastRound S.m S.R)) := by
  have a := leastRound_is (rest := S.L) k.m1
  have b := leastRound_is (rest := S.R) k.m1
  have hd : lcmI (leastRound S.m S.L) (leastRound S.m S.R) ∣ S.m := lcmI_dvd a.dv b.dv
  have m1 := k.m1
  have h1 : 1 ≤ lcmI (leastRound S.m S.L) (leastRound S.m S.R) := by
    have h0 : 0 ≤ lcmI (leastRound S.m S.L) (leastRound S.m S.R) := by unfold lcmI; omega
    have hn : lcmI (leastRound S.m S.L) (leastRound S.m S.R) ≠ 0 := fun e => by
      rw [e] at hd
      have := Int.zero_dvd.mp hd
      omega
    omega
  refine ⟨h1, hd, a.per.of_dvd (dvd_lcmI_left _ _), b.per.of_dvd (dvd_lcmI_right _ _), fun p p1 hl hr => ?_⟩
  exact Int.le_of_dvd (by omega) (lcmI_dvd (a.divides k.m1 hl) (b.divides k.m1 hr))
/-- the law's: the first of the divisors by which both go -/
theorem size_law {S : St} (k : Ok S) {p : Int} {t : List Int} (h : ((rngI 1 S.m.toNat).filter fun p => decide (S.m % p = 0)).filter (fun p => goes S.m S.L p && goes S.m S.R p) = p :: t) : Size S p := by
  have m1 := k.m1
  have hp : (p :: t).Pairwise (· < ·) := by rw [← h]; exact (rngI_lt.filter _).filter _
  have mem : ∀ q, q ∈ p :: t ↔ ((1 ≤ q ∧ q ≤ S.m) ∧ q ∣ S.m) ∧ Per (pat S.m S.L) q ∧ Per (pat S.m S.R) q := fun q => by
    rw [← h, List.mem_filter, List.mem_filter, rngI_mem, Bool.and_eq_true, goes_per k.m1, goes_per k.m1, decide_eq_true_eq]
    constructor
    · rintro ⟨⟨⟨a, b⟩, c⟩, d⟩; exact ⟨⟨⟨a, by omega⟩, Int.dvd_of_emod_eq_zero c⟩, d⟩
    · rintro ⟨⟨⟨a, b⟩, c⟩, d⟩; exact ⟨⟨⟨a, by omega⟩, Int.emod_eq_zero_of_dvd c⟩, d⟩
  obtain ⟨⟨⟨p1, p2⟩, pd⟩, pl, pr⟩ := (mem p).mp List.mem_cons_self
  refine ⟨p1, pd, pl, pr, fun q q1 ql qr => ?_⟩
  have both : ∀ e, Per (fun n => (pat S.m S.L n, pat S.m S.R n)) e ↔ Per (pat S.m S.L) e ∧ Per (pat S.m S.R) e := fun e => by
    constructor
    · intro h; exact ⟨fun n => (Prod.mk.inj (h n)).1, fun n => (Prod.mk.inj (h n)).2⟩
    · rintro ⟨h1, h2⟩ n
      show (_, _) = (_, _)
      rw [h1 n, h2 n]
  have dv := least_div (P := fun n => (pat S.m S.L n, pat S.m S.R n)) k.m1 ((both _).mpr ⟨pat_per, pat_per⟩) p1 pd ((both _).mpr ⟨pl, pr⟩) (fun e e1 ed ep => by
    obtain ⟨a, b⟩ := (both e).mp ep
    have he : e ∈ p :: t := (mem e).mpr ⟨⟨⟨e1, Int.le_of_dvd (by omega) ed⟩, ed⟩, a, b⟩
    rcases List.mem_cons.mp he with rfl | he
    · exact Int.le_refl _
    · exact Int.le_of_lt ((List.pairwise_cons.mp hp).1 e he)) ((both q).mpr ⟨ql, qr⟩)
  exact Int.le_of_dvd (by omega) dv
theorem law_some {S : St} (k : Ok S) : ∃ p t, ((rngI 1 S.m.toNat).filter fun p => decide (S.m % p = 0)).filter (fun p => goes S.m S.L p && goes S.m S.R p) = p :: t := by
  have m1 := k.m1
  have : S.m ∈ ((rngI 1 S.m.toNat).filter fun p => decide (S.m % p = 0)).filter (fun p => goes S.m S.L p && goes S.m S.R p) := by
    rw [List.mem_filter, List.mem_filter, rngI_mem, Bool.and_eq_true, goes_per k.m1, goes_per k.m1]
    exact ⟨⟨⟨by omega, by omega⟩, by simp⟩, pat_per, pat_per⟩
  cases h : ((rngI 1 S.m.toNat).filter fun p => decide (S.m % p = 0)).filter (fun p => goes S.m S.L p && goes S.m S.R p) with
  | nil => rw [h] at this; cases this
  | cons p t => exact ⟨p, t, rfl⟩
end Can

namespace W82
open PySem PySem.Spec PyProof.Rows L2 Pu Can
def intL (ns : List Int) : List D := ns.map fun n => .int n
def toI : D → Int
  | .int i => i
  | _ => 0
@[simp] theorem toI_int (i : Int) : toI (.int i) = i := rfl
theorem rngD_ints (lo : Int) (n : Nat) : rngD lo n = intL (rngI lo n) := by simp [rngD, rngI, intL]
theorem flat_ints (ns : List Int) : (intL ns).all flatD = true := by simp [intL, List.all_map, Function.comp_def, flatD]
theorem any_ints (i : Int) (ns : List Int) : ((intL ns).any fun z => PyData.eqv z (.int i)) = decide (i ∈ ns) := by
  induction ns with
  | nil => rfl
  | cons n ns ih =>
    show (PyData.eqv (.int n) (.int i) || (intL ns).any fun z => PyData.eqv z (.int i)) = _
    rw [ih, eqv_int]
    by_cases h : i = n <;> simp [h]
theorem dIn_ints (i : Int) (ns : List Int) : dIn false (.int i) (.tuple (intL ns)) = some (.bool (decide (i ∈ ns))) := by
  show (if flatD (.int i) = true ∧ (intL ns).all flatD = true then _ else none) = _
  rw [if_pos ⟨rfl, flat_ints ns⟩, any_ints]
  rfl
theorem shaped_ints (ns : List Int) : SeqAt.shaped (.list (intL ns)) = true ∧ SeqAt.shaped (.tuple (intL ns)) = true := by
  have h : ∀ x ∈ intL ns, fit 0 0 x := fun x hx => by
    obtain ⟨n, _, rfl⟩ := List.mem_map.mp hx
    exact fit_int
  constructor
  · exact fit_shaped (w := ns.length) (k := 1) (fit_list.mpr ⟨by simp [intL], fun x hx => fit_mono (Nat.zero_le _) (Nat.le_refl _) (h x hx)⟩) (by omega)
  · exact fit_shaped (w := ns.length) (k := 1) (fit_tup.mpr ⟨by simp [intL], fun x hx => fit_mono (Nat.zero_le _) (Nat.le_refl _) (h x hx)⟩) (by omega)
theorem dIn_intsL (i : Int) (ns : List Int) : dIn false (.int i) (.list (intL ns)) = some (.bool (decide (i ∈ ns))) := by
  show (if SeqAt.shaped (.int i) = true ∧ SeqAt.shaped (.list (intL ns)) = true then _ else none) = _
  rw [if_pos ⟨shaped_int i, (shaped_ints ns).1⟩, any_ints]
  rfl
def stD (S : Can.St) : D := .tuple [.int S.m, .tuple (intL S.L), .int S.lo, .int S.hi, .tuple (intL S.M), .tuple (intL S.R)]
theorem r_has_it {S : Can.St} (k : Ok S) (n : Int) : c_has_it [.fr (stD S), .fr (.int n)] = some (.fr (.bool (has S n)), [.no, .no]) := by
  have m1 := k.m1
  have mp : ∀ i, dMod (.int i) (.int S.m) = some (.int (i % S.m)) := fun i => mod_pos (by omega)
  unfold has pat
  by_cases h1 : n < S.lo
  · simp [c_has_it, stD, h1, mp, -dIn_tup, dIn_ints]
  · by_cases h2 : n < S.hi
    · simp [c_has_it, stD, h1, h2, mp, -dIn_tup, dIn_ints]
    · simp [c_has_it, stD, h1, h2, mp, -dIn_tup, dIn_ints]
theorem r__law_has {S : Can.St} (k : Ok S) (n : Int) : c__law_has [.fr (stD S), .fr (.int n)] = some (.fr (.bool (has S n)), [.no, .no]) := by
  have m1 := k.m1
  have lh := k.lh
  have mp : ∀ i, dMod (.int i) (.int S.m) = some (.int (i % S.m)) := fun i => mod_pos (by omega)
  unfold has pat
  by_cases h1 : n < S.lo
  · have h0 : ¬ S.lo ≤ n := by omega
    simp [c__law_has, stD, h1, h0, mp, -dIn_tup, dIn_ints]
  · have h0 : S.lo ≤ n := by omega
    by_cases h2 : n < S.hi
    · simp [c__law_has, stD, h1, h0, h2, mp, -dIn_tup, dIn_ints]
    · simp [c__law_has, stD, h1, h0, h2, mp, -dIn_tup, dIn_ints]
theorem atI_map {α β : Type} (f : α → β) (xs : List α) (i : Int) : atI (xs.map f) i = (atI xs i).map f := by
  unfold atI
  rw [List.length_map]
  cases ixN xs.length i <;> simp
theorem atI_rng {lo : Int} {n : Nat} {i : Int} (h0 : 0 ≤ i) (h1 : i < n) : atI (rngI lo n) i = some (lo + i) := by
  rw [atI_pos h0 (by simpa [rngI] using h1)]
  unfold rngI
  have : i.toNat < n := by omega
  simp [this]
  omega
end W82

namespace W82
open PySem PySem.Spec PyProof.Rows L2 Pu Can
theorem mem_rngD {lo : Int} {n : Nat} {d : D} (h : d ∈ rngD lo n) : ∃ i : Int, d = .int i ∧ lo ≤ i ∧ i < lo + n := by
  rw [rngD_ints] at h
  obtain ⟨i, hi, rfl⟩ := List.mem_map.mp h
  exact ⟨i, rfl, rngI_mem.mp hi⟩
theorem all_ints (f : D → Bool) (ns : List Int) : (intL ns).all f = ns.all fun n => f (.int n) := by
  simp [intL, List.all_map, Function.comp_def]
theorem small_sz {n : Nat} (h : n ≤ 100000) : n ≤ sizeLine := Nat.le_trans h (by decide)
/-- the truths of what is kept -/
def keptB (m : Int) (rest : List Int) : List D := (rngD 0 m.toNat).map fun d => .bool (decide (toI d ∈ rest))
theorem keptB_at {m a : Int} {rest : List Int} (h0 : 0 ≤ a) (h1 : a < m) : atI (keptB m rest) a = some (.bool (decide (a ∈ rest))) := by
  unfold keptB
  rw [atI_map, rngD_ints]
  unfold intL
  rw [atI_map, atI_rng h0 (by omega)]
  simp
  congr
theorem r_least_round {m : Int} {rest : List Int} (hm : 1 ≤ m) (hb : m ≤ 10000) : c_least_round [.fr (.int m), .fr (.tuple (intL rest))] = some (.fr (.int (leastRound m rest)), [.no, .no]) := by
  have hr1 : (-4611686018427387904 ≤ m) := by omega
  have hr2 : (m < 4611686018427387904) := by omega
  have e1 := lcL_map (g := gN 4) (elt := cOp (dIn false) (.v 4) (.v 1)) (vs := [4]) (Γ := [.fr (.int m), .fr (.tuple (intL rest)), .no, .no, .no]) (f := fun d => .bool (decide (toI d ∈ rest))) (rngD 0 m.toNat) []
    (fun d hd => by
      obtain ⟨i, rfl, _, _⟩ := mem_rngD hd
      refine ⟨_, by simp; rfl, [.fr (.int m), .fr (.tuple (intL rest)), .no, .no, .fr (.int i)], ?_, by simp⟩
      simp [-dIn_tup, dIn_ints]
      congr)
    (by rw [rng_len]; exact small_sz (by simp; omega))
  have e2 := forL_find (g := gN 3) (body := (cIfS (cAnd (cB (cOp (dEq false) (.e (cOp dMod (.v 0) (.v 3))) (.e (cC (.int 0))))) (cB (cCb fAll [(.e (frz (cLc [4] (cRng1 (cCons (cVar 0) cNil)) (gN 4) cYes (cOp (dEq false) (.e (cOp dIx (.v 2) (.v 4))) (.e (cOp dIx (.v 2) (.e (cOp dMod (.v 4) (.v 3)))))))))]))) (cRet (asN (cVar 3))) cNext))
    (I := fun Γ => ∃ s, (s = .no ∨ ∃ d, s = .fr d) ∧ Γ = [.fr (.int m), .fr (.tuple (intL rest)), .fr (.list (keptB m rest)), s, .no]) (q := fun d => decide (m % toI d = 0) && isRound m rest (toI d)) (r := fun d => .fr d) (rngD 1 (m - 1).toNat) [.fr (.int m), .fr (.tuple (intL rest)), .fr (.list (keptB m rest)), .no, .no] ⟨.no, .inl rfl, rfl⟩
    (by
      rintro d hd Γ ⟨s, hs, rfl⟩
      obtain ⟨p, rfl, p1, p2⟩ := mem_rngD hd
      have mp : ∀ i, dMod (.int i) (.int p) = some (.int (i % p)) := fun i => mod_pos (by omega)
      refine ⟨[.fr (.int m), .fr (.tuple (intL rest)), .fr (.list (keptB m rest)), .fr (.int p), .no], by rcases hs with rfl | ⟨d, rfl⟩ <;> simp, [.fr (.int m), .fr (.tuple (intL rest)), .fr (.list (keptB m rest)), .fr (.int p), .no], ?_, _, .inr ⟨_, rfl⟩, rfl⟩
      have e3 := lcL_map (g := gN 4) (elt := (cOp (dEq false) (.e (cOp dIx (.v 2) (.v 4))) (.e (cOp dIx (.v 2) (.e (cOp dMod (.v 4) (.v 3))))))) (vs := [4]) (Γ := [.fr (.int m), .fr (.tuple (intL rest)), .fr (.list (keptB m rest)), .fr (.int p), .no]) (f := fun d => .bool (decide (toI d ∈ rest) == decide (toI d % p ∈ rest))) (rngD 0 m.toNat) []
        (fun d hd => by
          obtain ⟨i, rfl, i0, i1⟩ := mem_rngD hd
          have a1 := keptB_at (rest := rest) (m := m) (a := i) i0 (by omega)
          have r0 : 0 ≤ i % p := Int.emod_nonneg i (by omega)
          have r1 : i % p < p := Int.emod_lt_of_pos i (by omega)
          have a2 := keptB_at (rest := rest) (m := m) (a := i % p) r0 (by omega)
          refine ⟨_, by simp; rfl, [.fr (.int m), .fr (.tuple (intL rest)), .fr (.list (keptB m rest)), .fr (.int p), .fr (.int i)], ?_, by simp⟩
          simp [mp, a1, a2]
          congr)
        (by rw [rng_len]; exact small_sz (by simp; omega))
      have e4 : ((rngD 0 m.toNat).all fun d => decide (toI d ∈ rest) == decide (toI d % p ∈ rest)) = isRound m rest p := by
        rw [rngD_ints, all_ints]; rfl
      have e5 := fAll_map (fun d => decide (toI d ∈ rest) == decide (toI d % p ∈ rest)) (rngD 0 m.toNat)
      rw [e4] at e5
      by_cases h1 : m % p = 0
      · by_cases h2 : isRound m rest p = true
        · simp [mp, h1, hr1, hr2, e3, e5, h2]
        · simp [mp, h1, hr1, hr2, e3, e5, h2]
      · simp [mp, h1])
  obtain ⟨Γ', ⟨s, hs, rfl⟩, e2⟩ := e2
  have fi : (rngD 1 (m - 1).toNat).find? (fun d => decide (m % toI d = 0) && isRound m rest (toI d)) = ((rngI 1 (m - 1).toNat).find? fun p => decide (m % p = 0) && isRound m rest p).map .int := by
    rw [rngD_ints]; unfold intL; rw [List.find?_map]; rfl
  rw [fi] at e2
  unfold leastRound
  have e1' : lcL (gN 4) cYes (cOp (dIn false) (.v 4) (.v 1)) [4] (rngD 0 m.toNat) [] [.fr (.int m), .fr (.tuple (intL rest)), .no, .no, .no] = some (keptB m rest, [.fr (.int m), .fr (.tuple (intL rest)), .no, .no, .no]) := by rw [e1]; rfl
  cases hf : (rngI 1 (m - 1).toNat).find? fun p => decide (m % p = 0) && isRound m rest p with
  | none =>
    rw [hf] at e2
    simp only [Option.map_none] at e2
    rw [show (m - 1).toNat = m.toNat - 1 by omega] at e2
    rcases hs with rfl | ⟨d, rfl⟩ <;> simp [c_least_round, hr1, hr2, e1', e2]
  | some p =>
    rw [hf] at e2
    simp only [Option.map_some] at e2
    rw [show (m - 1).toNat = m.toNat - 1 by omega] at e2
    rcases hs with rfl | ⟨d, rfl⟩ <;> simp [c_least_round, hr1, hr2, e1', e2]
end W82

namespace W82
open PySem PySem.Spec PyProof.Rows L2 Pu Can
theorem intsD_intL (ns : List Int) : intsD (intL ns) = some ns := intsD_map ns
theorem map_intL (f : Int → Int) (ns : List Int) : (intL ns).map (fun d => PyData.int (f (toI d))) = intL (ns.map f) := by
  simp [intL, List.map_map, Function.comp_def]
theorem filter_intL (f : D → Bool) (ns : List Int) : (intL ns).filter f = intL (ns.filter fun n => f (.int n)) := by
  unfold intL
  rw [List.filter_map]
  rfl
theorem len_intL (ns : List Int) : (intL ns).length = ns.length := by simp [intL]
theorem dEq_listnil (ns : List Int) : dEq false (.list (intL ns)) (.list []) = some (.bool ns.isEmpty) := by
  unfold dEq
  rw [if_pos ⟨(shaped_ints ns).1, (shaped_ints []).1⟩]
  cases ns <;> simp [intL, PyData.eqv, PyData.eqvAll]
theorem atI_last {α : Type} (u : List α) (l : α) : atI (u ++ [l]) (-1) = some l := by
  have : ixN (u ++ [l]).length (-1) = some u.length := by
    unfold ixN
    simp
    omega
  unfold atI
  rw [this]
  simp
def leastC (S : Can.St) (size : Int) : Can.St :=
  match firsts (has S) S.lo S.hi size (rem size S.L), (lasts (has S) S.lo S.hi size (rem size S.R)).getLast? with
  | f :: _, some l => if l + 1 ≤ f then ⟨size, rem size S.L, cutAt (l + 1) f, cutAt (l + 1) f, [], rem size S.R⟩
    else ⟨size, rem size S.L, f, l + 1, (rngI f (l + 1 - f).toNat).filter fun n => has S n, rem size S.R⟩
  | _, _ => ⟨size, rem size S.L, 0, 0, [], rem size S.R⟩
def St.canon (A : Int → Bool) (C : Can.St) : Prop := Canon A C.m C.L C.lo C.hi C.M C.R
theorem leastC_canon {S : Can.St} {size : Int} (k : Ok S) (z : Size S size) : St.canon (has S) (leastC S size) := by
  unfold leastC St.canon
  cases h : firsts (has S) S.lo S.hi size (rem size S.L) with
  | nil => exact canon_all k z h
  | cons f t =>
    obtain ⟨u, l, h'⟩ := lasts_some k z h
    rw [h', List.getLast?_concat]
    simp only
    split
    · exact canon_cut k z h h' (by assumption)
    · rename_i hc
      exact canon_kept k z h h' (Int.not_le.mp hc)
/-- what fits the turns here -/
structure Few (S : Can.St) : Prop where
  m : S.m ≤ 60
  lo : -10000 ≤ S.lo
  hi : S.hi ≤ 10000
  L : S.L.length < 64
  R : S.R.length < 64
theorem r_below {vs : Nat} {size : Int} (hs : 1 ≤ size) {rest : List Int} (hl : rest.length < 64) {elt : CE} {Γ : En} {n : Nat} (h : ∀ i : Int, ∃ Γ1, gN n (.int i) Γ = some Γ1 ∧ ∃ Γ2, elt Γ1 = some (.int (i % size), Γ2) ∧ wipeG Γ2 [n] = Γ) :
    lcL (gN n) cYes elt [n] (intL rest) [] Γ = some (intL (rest.map fun a => a % size), Γ) := by
  have e := lcL_map (g := gN n) (elt := elt) (vs := [n]) (Γ := Γ) (f := fun d => .int (toI d % size)) (intL rest) [] (fun d hd => by
    obtain ⟨i, _, rfl⟩ := List.mem_map.mp hd
    exact h i) (by rw [len_intL]; exact small_sz (by simp; omega))
  rw [e, map_intL (fun a => a % size)]
  rfl
theorem r_filter {cond : CT} {elt : CE} {Γ : En} {n : Nat} {c : Int → Bool} {lo : Int} {k : Nat} (hk : k ≤ 100000) (h : ∀ i : Int, ∃ Γ1, gN n (.int i) Γ = some Γ1 ∧ ∃ Γ2, cond Γ1 = some (c i, Γ2) ∧ wipeG Γ2 [n] = Γ ∧ ∃ Γ3, elt Γ2 = some (.int i, Γ3) ∧ wipeG Γ3 [n] = Γ) :
    lcL (gN n) cond elt [n] (rngD lo k) [] Γ = some (intL ((rngI lo k).filter c), Γ) := by
  have e := lcL_filter (g := gN n) (cond := cond) (elt := elt) (vs := [n]) (Γ := Γ) (f := fun d => d) (c := fun d => c (toI d)) (rngD lo k) [] (fun d hd => by
    obtain ⟨i, rfl, _, _⟩ := mem_rngD hd
    obtain ⟨Γ1, h1, Γ2, h2, h3, Γ3, h4, h5⟩ := h i
    exact ⟨Γ1, h1, Γ2, h2, fun _ => h3, fun _ => ⟨Γ3, h4, h5⟩⟩) (by rw [rng_len]; exact small_sz (by simpa using hk))
  rw [e, rngD_ints, filter_intL]
  simp
end W82

namespace W82
open PySem PySem.Spec PyProof.Rows L2 Pu Can
set_option maxHeartbeats 0 in
theorem r_least_of {S : Can.St} (k : Ok S) (w : Few S) : c_least_of [.fr (stD S)] = some (.fr (stD (leastC S (lcmI (leastRound S.m S.L) (leastRound S.m S.R)))), [.no]) := by
  have m1 := k.m1
  have m2 := w.m
  have lh := k.lh
  have b1 := w.lo
  have b2 := w.hi
  have z := size_prog k
  have a1 := leastRound_is (rest := S.L) k.m1
  have a2 := leastRound_is (rest := S.R) k.m1
  have c1 : leastRound S.m S.L ≤ S.m := Int.le_of_dvd (by omega) a1.dv
  have c2 : leastRound S.m S.R ≤ S.m := Int.le_of_dvd (by omega) a2.dv
  have d1 := a1.p1
  have d2 := a2.p1
  have e0 := r_least_round (m := S.m) (rest := S.L) m1 (by omega)
  have e1 := r_least_round (m := S.m) (rest := S.R) m1 (by omega)
  have e2 := fLcm_i (a := leastRound S.m S.L) (b := leastRound S.m S.R) (by omega) (by omega)
  have e2' : fLcm [.int (leastRound S.m S.L), .int (leastRound S.m S.R)] = some (.int (lcmI (leastRound S.m S.L) (leastRound S.m S.R))) := e2
  generalize hsz : lcmI (leastRound S.m S.L) (leastRound S.m S.R) = size at z e2'
  have s1 := z.s1
  have s2 : size ≤ S.m := Int.le_of_dvd (by omega) z.dv
  have mp : ∀ i, dMod (.int i) (.int size) = some (.int (i % size)) := fun i => mod_pos (by omega)
  have hh := fun n => r_has_it k n
  have f1 := r_below (vs := 0) (size := size) s1 (rest := S.L) w.L (elt := cOp dMod (.v 17) (.v 7)) (n := 17) (Γ := [.fr (stD S), .fr (.int S.m), .fr (.tuple (intL S.L)), .fr (.int S.lo), .fr (.int S.hi), .fr (.tuple (intL S.M)), .fr (.tuple (intL S.R)), .fr (.int size), .no, .no, .no, .no, .no, .no, .no, .no, .no, .no])
    (fun i => ⟨_, by simp; rfl, _, by simp [mp]; rfl, by simp⟩)
  have f2 := r_below (vs := 0) (size := size) s1 (rest := S.R) w.R (elt := cOp dMod (.v 17) (.v 7)) (n := 17) (Γ := [.fr (stD S), .fr (.int S.m), .fr (.tuple (intL S.L)), .fr (.int S.lo), .fr (.int S.hi), .fr (.tuple (intL S.M)), .fr (.tuple (intL S.R)), .fr (.int size), .no, .no, .no, .no, .no, .no, .no, .no, .no, .no])
    (fun i => ⟨_, by simp; rfl, _, by simp [mp]; rfl, by simp⟩)
  have f3 := r_filter (n := 16) (cond := (cB (cOp (dEq true) (.e (frz (cCall c_has_it [] (cCons (cVar 0) (cCons (cVar 16) cNil))))) (.e (cOp (dIn false) (.e (cOp dMod (.v 16) (.v 7))) (.v 8)))))) (elt := cVar 16) (lo := S.lo) (k := (S.hi + size - S.lo).toNat) (c := fun n => has S n != pat size (rem size S.L) n)
    (Γ := [.fr (stD S), .fr (.int S.m), .fr (.tuple (intL S.L)), .fr (.int S.lo), .fr (.int S.hi), .fr (.tuple (intL S.M)), .fr (.tuple (intL S.R)), .fr (.int size), .fr (.list (intL (rem size S.L))), .fr (.list (intL (rem size S.R))), .no, .no, .no, .no, .no, .no, .no, .no]) (by omega)
    (fun i => ⟨[.fr (stD S), .fr (.int S.m), .fr (.tuple (intL S.L)), .fr (.int S.lo), .fr (.int S.hi), .fr (.tuple (intL S.M)), .fr (.tuple (intL S.R)), .fr (.int size), .fr (.list (intL (rem size S.L))), .fr (.list (intL (rem size S.R))), .no, .no, .no, .no, .no, .no, .fr (.int i), .no], by simp, [.fr (stD S), .fr (.int S.m), .fr (.tuple (intL S.L)), .fr (.int S.lo), .fr (.int S.hi), .fr (.tuple (intL S.M)), .fr (.tuple (intL S.R)), .fr (.int size), .fr (.list (intL (rem size S.L))), .fr (.list (intL (rem size S.R))), .no, .no, .no, .no, .no, .no, .fr (.int i), .no], by simp [mp, hh, dIn_intsL, pat, bne] <;> congr, by simp, _, by simp; rfl, by simp⟩)
  have f4 := r_filter (n := 16) (cond := (cB (cOp (dEq true) (.e (frz (cCall c_has_it [] (cCons (cVar 0) (cCons (cVar 16) cNil))))) (.e (cOp (dIn false) (.e (cOp dMod (.v 16) (.v 7))) (.v 9)))))) (elt := cVar 16) (lo := S.lo - size) (k := (S.hi - (S.lo - size)).toNat) (c := fun n => has S n != pat size (rem size S.R) n)
    (Γ := [.fr (stD S), .fr (.int S.m), .fr (.tuple (intL S.L)), .fr (.int S.lo), .fr (.int S.hi), .fr (.tuple (intL S.M)), .fr (.tuple (intL S.R)), .fr (.int size), .fr (.list (intL (rem size S.L))), .fr (.list (intL (rem size S.R))), .ow (.list (intL (firsts (has S) S.lo S.hi size (rem size S.L)))), .no, .no, .no, .no, .no, .no, .no]) (by omega)
    (fun i => ⟨[.fr (stD S), .fr (.int S.m), .fr (.tuple (intL S.L)), .fr (.int S.lo), .fr (.int S.hi), .fr (.tuple (intL S.M)), .fr (.tuple (intL S.R)), .fr (.int size), .fr (.list (intL (rem size S.L))), .fr (.list (intL (rem size S.R))), .ow (.list (intL (firsts (has S) S.lo S.hi size (rem size S.L)))), .no, .no, .no, .no, .no, .fr (.int i), .no], by simp, [.fr (stD S), .fr (.int S.m), .fr (.tuple (intL S.L)), .fr (.int S.lo), .fr (.int S.hi), .fr (.tuple (intL S.M)), .fr (.tuple (intL S.R)), .fr (.int size), .fr (.list (intL (rem size S.L))), .fr (.list (intL (rem size S.R))), .ow (.list (intL (firsts (has S) S.lo S.hi size (rem size S.L)))), .no, .no, .no, .no, .no, .fr (.int i), .no], by simp [mp, hh, dIn_intsL, pat, bne] <;> congr, by simp, _, by simp; rfl, by simp⟩)
  have u1 : ∀ rest : List Int, intsD (intL (rest.map fun a => a % size)) = some (rest.map fun a => a % size) := fun rest => intsD_intL _
  have l1 : (intL (S.L.map fun a => a % size)).length < 64 := by rw [len_intL, List.length_map]; exact w.L
  have l2 : (intL (S.R.map fun a => a % size)).length < 64 := by rw [len_intL, List.length_map]; exact w.R
  change _ = some (intL (firsts (has S) S.lo S.hi size (rem size S.L)), _) at f3
  change _ = some (intL (lasts (has S) S.lo S.hi size (rem size S.R)), _) at f4
  have r1 : (-4611686018427387904 ≤ S.lo) := by omega
  have r2 : (S.lo < 4611686018427387904) := by omega
  have r3 : (-4611686018427387904 ≤ S.hi) := by omega
  have r4 : (S.hi < 4611686018427387904) := by omega
  have r5 : (-4611686018427387904 ≤ S.hi + size) := by omega
  have r6 : (S.hi + size < 4611686018427387904) := by omega
  have r7 : (-4611686018427387904 ≤ S.lo - size) := by omega
  have r8 : (S.lo - size < 4611686018427387904) := by omega
  have hbe : (usort (S.L.map fun a => a % size)) = rem size S.L := rfl
  have hab : (usort (S.R.map fun a => a % size)) = rem size S.R := rfl
  have hv : stD S = .tuple [.int S.m, .tuple (intL S.L), .int S.lo, .int S.hi, .tuple (intL S.M), .tuple (intL S.R)] := rfl
  have mi : ∀ ns : List Int, (ns.map fun n => PyData.int n) = intL ns := fun ns => rfl
  cases hf : firsts (has S) S.lo S.hi size (rem size S.L) with
  | nil =>
    have hc : leastC S size = ⟨size, rem size S.L, 0, 0, [], rem size S.R⟩ := by unfold leastC; rw [hf]
    rw [hc]
    rw [hf] at f3 f4
    unfold stD at f1 f2 f3 f4
    simp [c_least_of, stD, e0, e1, e2', f1, f2, f3, f4, u1, l1, l2, hbe, hab, mi, r1, r2, r3, r4, r5, r6, r7, r8, dEq_listnil, -dIn_tup]
    rfl
  | cons f t =>
    obtain ⟨u, l, hl⟩ := lasts_some k z hf
    have hc : leastC S size = if l + 1 ≤ f then ⟨size, rem size S.L, cutAt (l + 1) f, cutAt (l + 1) f, [], rem size S.R⟩ else ⟨size, rem size S.L, f, l + 1, (rngI f (l + 1 - f).toNat).filter fun n => has S n, rem size S.R⟩ := by unfold leastC; rw [hf, hl, List.getLast?_concat]
    rw [hc]
    rw [hf] at f3 f4
    rw [hl] at f4
    have p1 : atI (intL (f :: t)) 0 = some (.int f) := by unfold intL; simp
    have p2 : atI (intL (u ++ [l])) (-1) = some (.int l) := by unfold intL; rw [atI_map, atI_last]; rfl
    obtain ⟨g1, g2, _, _⟩ := first_is hf
    obtain ⟨g3, g4, _, _⟩ := last_is hl
    by_cases hq : l + 1 ≤ f
    · rw [if_pos hq]
      have hcut : (if (if 0 < f then 0 else f) > l + 1 then (if 0 < f then 0 else f) else l + 1) = cutAt (l + 1) f := by unfold cutAt; split <;> split <;> omega
      have hcut2 : (if l + 1 < (if 0 < f then 0 else f) then (if 0 < f then 0 else f) else l + 1) = cutAt (l + 1) f := hcut
      unfold stD at f1 f2 f3 f4
      simp [c_least_of, stD, e0, e1, e2', f1, f2, f3, f4, u1, l1, l2, hbe, hab, mi, r1, r2, r3, r4, r5, r6, r7, r8, dEq_listnil, -dIn_tup, p1, p2, hq, hcut2]
      rfl
    · rw [if_neg hq]
      have f5 := r_filter (n := 16) (cond := (cB (frz (cCall c_has_it [] (cCons (cVar 0) (cCons (cVar 16) cNil)))))) (elt := cVar 16) (lo := f) (k := (l + 1 - f).toNat) (c := fun n => has S n)
        (Γ := [.fr (stD S), .fr (.int S.m), .fr (.tuple (intL S.L)), .fr (.int S.lo), .fr (.int S.hi), .fr (.tuple (intL S.M)), .fr (.tuple (intL S.R)), .fr (.int size), .fr (.list (intL (rem size S.L))), .fr (.list (intL (rem size S.R))), .ow (.list (intL (f :: t))), .ow (.list (intL (u ++ [l]))), .fr (.int f), .fr (.int (l + 1)), .no, .no, .no, .no]) (by omega)
        (fun i => ⟨[.fr (stD S), .fr (.int S.m), .fr (.tuple (intL S.L)), .fr (.int S.lo), .fr (.int S.hi), .fr (.tuple (intL S.M)), .fr (.tuple (intL S.R)), .fr (.int size), .fr (.list (intL (rem size S.L))), .fr (.list (intL (rem size S.R))), .ow (.list (intL (f :: t))), .ow (.list (intL (u ++ [l]))), .fr (.int f), .fr (.int (l + 1)), .no, .no, .fr (.int i), .no], by simp, [.fr (stD S), .fr (.int S.m), .fr (.tuple (intL S.L)), .fr (.int S.lo), .fr (.int S.hi), .fr (.tuple (intL S.M)), .fr (.tuple (intL S.R)), .fr (.int size), .fr (.list (intL (rem size S.L))), .fr (.list (intL (rem size S.R))), .ow (.list (intL (f :: t))), .ow (.list (intL (u ++ [l]))), .fr (.int f), .fr (.int (l + 1)), .no, .no, .fr (.int i), .no], by simp [hh], by simp, _, by simp; rfl, by simp⟩)
      have r9 : (-4611686018427387904 ≤ f) := by omega
      have r10 : (f < 4611686018427387904) := by omega
      have r11 : (-4611686018427387904 ≤ l + 1) := by omega
      have r12 : (l + 1 < 4611686018427387904) := by omega
      unfold stD at f1 f2 f3 f4 f5
      simp [c_least_of, stD, e0, e1, e2', f1, f2, f3, f4, f5, u1, l1, l2, hbe, hab, mi, r1, r2, r3, r4, r5, r6, r7, r8, r9, r10, r11, r12, dEq_listnil, -dIn_tup, p1, p2, hq]
end W82

namespace W82
open PySem PySem.Spec PyProof.Rows L2 Pu Can
theorem r__law_goes {m p : Int} {rest : List Int} (hm : 1 ≤ m) (hb : m ≤ 10000) : c__law_goes [.fr (.tuple (intL rest)), .fr (.int m), .fr (.int p)] = some (.fr (.bool (goes m rest p)), [.no, .no, .no]) := by
  have r1 : (-4611686018427387904 ≤ m) := by omega
  have r2 : (m < 4611686018427387904) := by omega
  have mp : ∀ i, dMod (.int i) (.int m) = some (.int (i % m)) := fun i => mod_pos (by omega)
  have e := lcL_map (g := gN 3) (elt := (cOp (dEq false) (.e (cOp (dIn false) (.v 3) (.v 0))) (.e (cOp (dIn false) (.e (cOp dMod (.e (cCb fInt [(.e (cOp dAdd (.v 3) (.v 2)))])) (.v 1))) (.v 0))))) (vs := [3]) (Γ := [.fr (.tuple (intL rest)), .fr (.int m), .fr (.int p), .no])
    (f := fun d => .bool (decide (toI d ∈ rest) == decide ((toI d + p) % m ∈ rest))) (rngD 0 m.toNat) [] (fun d hd => by
      obtain ⟨i, rfl, _, _⟩ := mem_rngD hd
      refine ⟨_, by simp; rfl, [.fr (.tuple (intL rest)), .fr (.int m), .fr (.int p), .fr (.int i)], ?_, by simp⟩
      simp [mp, -dIn_tup, dIn_ints]
      congr) (by rw [rng_len]; exact small_sz (by simp; omega))
  have e4 : ((rngD 0 m.toNat).all fun d => decide (toI d ∈ rest) == decide ((toI d + p) % m ∈ rest)) = goes m rest p := by
    rw [rngD_ints, all_ints]; rfl
  have e5 := fAll_map (fun d => decide (toI d ∈ rest) == decide ((toI d + p) % m ∈ rest)) (rngD 0 m.toNat)
  rw [e4] at e5
  simp [c__law_goes, r1, r2, e, e5]
theorem r_filterL {cond : CT} {elt : CE} {Γ : En} {n : Nat} {c : Int → Bool} {xs : List Int} (hk : xs.length ≤ 100000) (h : ∀ i : Int, ∃ Γ1, gN n (.int i) Γ = some Γ1 ∧ ∃ Γ2, cond Γ1 = some (c i, Γ2) ∧ wipeG Γ2 [n] = Γ ∧ ∃ Γ3, elt Γ2 = some (.int i, Γ3) ∧ wipeG Γ3 [n] = Γ) :
    lcL (gN n) cond elt [n] (intL xs) [] Γ = some (intL (xs.filter c), Γ) := by
  have e := lcL_filter (g := gN n) (cond := cond) (elt := elt) (vs := [n]) (Γ := Γ) (f := fun d => d) (c := fun d => c (toI d)) (intL xs) [] (fun d hd => by
    obtain ⟨i, _, rfl⟩ := List.mem_map.mp hd
    obtain ⟨Γ1, h1, Γ2, h2, h3, Γ3, h4, h5⟩ := h i
    exact ⟨Γ1, h1, Γ2, h2, fun _ => h3, fun _ => ⟨Γ3, h4, h5⟩⟩) (by rw [len_intL]; exact small_sz (by simpa using hk))
  rw [e, filter_intL]
  simp
/-- where nothing leaves the lower pattern, both ends are one -/
theorem ends_one {S : Can.St} {size : Int} (k : Ok S) (z : Size S size) (h : firsts (has S) S.lo S.hi size (rem size S.L) = []) : rem size S.R = rem size S.L := by
  have C := canon_all k z h
  rcases C.core with ⟨h, _⟩ | ⟨f, l, ⟨h1, _⟩, _⟩
  · exact rest_high C.pl.1 C.as C.bs C.ar C.br C.ap ⟨0, fun n _ => h n⟩
  · exact absurd (firsts_nil k z.s1 (rem_pat k.m1 z.s1 z.dv k.Lr z.pl) z.pr h f) h1
end W82

namespace W82
open PySem PySem.Spec PyProof.Rows L2 Pu Can
set_option maxHeartbeats 0 in
theorem r__law_least {S : Can.St} (k : Ok S) (w : Few S) : ∃ size, Size S size ∧ c__law_least [.fr (stD S)] = some (.fr (stD (leastC S size)), [.no]) := by
  have m1 := k.m1
  have m2 := w.m
  have lh := k.lh
  have b1 := w.lo
  have b2 := w.hi
  obtain ⟨size, ft, hft⟩ := law_some k
  have z := size_law k hft
  refine ⟨size, z, ?_⟩
  have s1 := z.s1
  have s2 : size ≤ S.m := Int.le_of_dvd (by omega) z.dv
  generalize hdv : ((rngI 1 S.m.toNat).filter fun p => decide (S.m % p = 0)) = dv at hft
  have dl : dv.length ≤ 100000 := by
    rw [← hdv]
    refine Nat.le_trans (List.length_filter_le _ _) ?_
    simp [rngI]
    omega
  have mp : ∀ i, dMod (.int i) (.int size) = some (.int (i % size)) := fun i => mod_pos (by omega)
  have hh := fun n => r__law_has k n
  have gL := fun p => r__law_goes (m := S.m) (p := p) (rest := S.L) m1 (by omega)
  have gR := fun p => r__law_goes (m := S.m) (p := p) (rest := S.R) m1 (by omega)
  have q1 := lcL_filter (g := gN 9) (cond := (cB (cOp (dEq false) (.e (cOp dMod (.e (cCb fInt [(.v 1)])) (.v 9))) (.e (cC (.int 0)))))) (elt := cVar 9) (vs := [9]) (Γ := [.fr (stD S), .fr (.int S.m), .fr (.tuple (intL S.L)), .fr (.int S.lo), .fr (.int S.hi), .fr (.tuple (intL S.M)), .fr (.tuple (intL S.R)), .no, .no, .no, .no, .no, .no, .no, .no, .no, .no, .no, .no]) (f := fun d => d) (c := fun d => decide (S.m % toI d = 0)) (rngD 1 S.m.toNat) [] (fun d hd => by
    obtain ⟨i, rfl, i1, _⟩ := mem_rngD hd
    have mi : ∀ j, dMod (.int j) (.int i) = some (.int (j % i)) := fun j => mod_pos (by omega)
    exact ⟨[.fr (stD S), .fr (.int S.m), .fr (.tuple (intL S.L)), .fr (.int S.lo), .fr (.int S.hi), .fr (.tuple (intL S.M)), .fr (.tuple (intL S.R)), .no, .no, .fr (.int i), .no, .no, .no, .no, .no, .no, .no, .no, .no], by simp, [.fr (stD S), .fr (.int S.m), .fr (.tuple (intL S.L)), .fr (.int S.lo), .fr (.int S.hi), .fr (.tuple (intL S.M)), .fr (.tuple (intL S.R)), .no, .no, .fr (.int i), .no, .no, .no, .no, .no, .no, .no, .no, .no], by simp [mi] <;> congr, fun _ => by simp, fun _ => ⟨_, by simp; rfl, by simp⟩⟩) (by rw [rng_len]; exact small_sz (by simp; omega))
  have q1' : lcL (gN 9) (cB (cOp (dEq false) (.e (cOp dMod (.e (cCb fInt [(.v 1)])) (.v 9))) (.e (cC (.int 0))))) (cVar 9) [9] (rngD 1 S.m.toNat) [] [.fr (stD S), .fr (.int S.m), .fr (.tuple (intL S.L)), .fr (.int S.lo), .fr (.int S.hi), .fr (.tuple (intL S.M)), .fr (.tuple (intL S.R)), .no, .no, .no, .no, .no, .no, .no, .no, .no, .no, .no, .no] = some (intL dv, [.fr (stD S), .fr (.int S.m), .fr (.tuple (intL S.L)), .fr (.int S.lo), .fr (.int S.hi), .fr (.tuple (intL S.M)), .fr (.tuple (intL S.R)), .no, .no, .no, .no, .no, .no, .no, .no, .no, .no, .no, .no]) := by
    rw [q1, rngD_ints, filter_intL, ← hdv]
    simp
    congr
  have q2 := r_filterL (n := 9) (cond := (cAnd (cB (frz (cCall c__law_goes [] (cCons (cVar 2) (cCons (cVar 1) (cCons (cVar 9) cNil)))))) (cB (frz (cCall c__law_goes [] (cCons (cVar 6) (cCons (cVar 1) (cCons (cVar 9) cNil)))))))) (elt := cVar 9) (xs := dv) (c := fun p => goes S.m S.L p && goes S.m S.R p)
    (Γ := [.fr (stD S), .fr (.int S.m), .fr (.tuple (intL S.L)), .fr (.int S.lo), .fr (.int S.hi), .fr (.tuple (intL S.M)), .fr (.tuple (intL S.R)), .fr (.list (intL dv)), .no, .no, .no, .no, .no, .no, .no, .no, .no, .no, .no]) dl
    (fun i => ⟨[.fr (stD S), .fr (.int S.m), .fr (.tuple (intL S.L)), .fr (.int S.lo), .fr (.int S.hi), .fr (.tuple (intL S.M)), .fr (.tuple (intL S.R)), .fr (.list (intL dv)), .no, .fr (.int i), .no, .no, .no, .no, .no, .no, .no, .no, .no], by simp, [.fr (stD S), .fr (.int S.m), .fr (.tuple (intL S.L)), .fr (.int S.lo), .fr (.int S.hi), .fr (.tuple (intL S.M)), .fr (.tuple (intL S.R)), .fr (.list (intL dv)), .no, .fr (.int i), .no, .no, .no, .no, .no, .no, .no, .no, .no], by by_cases h1 : goes S.m S.L i = true <;> simp [gL, gR, h1], by simp, _, by simp; rfl, by simp⟩)
  rw [hft] at q2
  have f1 := r_below (vs := 0) (size := size) s1 (rest := S.L) w.L (elt := (cOp dMod (.e (cCb fInt [(.v 18)])) (.v 9))) (n := 18) (Γ := [.fr (stD S), .fr (.int S.m), .fr (.tuple (intL S.L)), .fr (.int S.lo), .fr (.int S.hi), .fr (.tuple (intL S.M)), .fr (.tuple (intL S.R)), .fr (.list (intL dv)), .ow (.list (intL (size :: ft))), .fr (.int size), .no, .no, .no, .no, .no, .no, .no, .no, .no])
    (fun i => ⟨_, by simp; rfl, _, by simp [mp]; rfl, by simp⟩)
  have f2 := r_below (vs := 0) (size := size) s1 (rest := S.R) w.R (elt := (cOp dMod (.e (cCb fInt [(.v 18)])) (.v 9))) (n := 18) (Γ := [.fr (stD S), .fr (.int S.m), .fr (.tuple (intL S.L)), .fr (.int S.lo), .fr (.int S.hi), .fr (.tuple (intL S.M)), .fr (.tuple (intL S.R)), .fr (.list (intL dv)), .ow (.list (intL (size :: ft))), .fr (.int size), .no, .no, .no, .no, .no, .no, .no, .no, .no])
    (fun i => ⟨_, by simp; rfl, _, by simp [mp]; rfl, by simp⟩)
  have f3 := r_filter (n := 17) (cond := (cB (cOp (dEq true) (.e (frz (cCall c__law_has [] (cCons (cVar 0) (cCons (cVar 17) cNil))))) (.e (cOp (dIn false) (.e (cOp dMod (.e (cCb fInt [(.v 17)])) (.v 9))) (.v 10)))))) (elt := cVar 17) (lo := S.lo) (k := (S.hi + size - S.lo).toNat) (c := fun n => has S n != pat size (rem size S.L) n)
    (Γ := [.fr (stD S), .fr (.int S.m), .fr (.tuple (intL S.L)), .fr (.int S.lo), .fr (.int S.hi), .fr (.tuple (intL S.M)), .fr (.tuple (intL S.R)), .fr (.list (intL dv)), .ow (.list (intL (size :: ft))), .fr (.int size), .fr (.tuple (intL (rem size S.L))), .fr (.tuple (intL (rem size S.R))), .no, .no, .no, .no, .no, .no, .no]) (by omega)
    (fun i => ⟨[.fr (stD S), .fr (.int S.m), .fr (.tuple (intL S.L)), .fr (.int S.lo), .fr (.int S.hi), .fr (.tuple (intL S.M)), .fr (.tuple (intL S.R)), .fr (.list (intL dv)), .ow (.list (intL (size :: ft))), .fr (.int size), .fr (.tuple (intL (rem size S.L))), .fr (.tuple (intL (rem size S.R))), .no, .no, .no, .no, .no, .fr (.int i), .no], by simp, [.fr (stD S), .fr (.int S.m), .fr (.tuple (intL S.L)), .fr (.int S.lo), .fr (.int S.hi), .fr (.tuple (intL S.M)), .fr (.tuple (intL S.R)), .fr (.list (intL dv)), .ow (.list (intL (size :: ft))), .fr (.int size), .fr (.tuple (intL (rem size S.L))), .fr (.tuple (intL (rem size S.R))), .no, .no, .no, .no, .no, .fr (.int i), .no], by simp [mp, hh, -dIn_tup, dIn_ints, pat, bne] <;> congr, by simp, _, by simp; rfl, by simp⟩)
  have f4 := r_filter (n := 17) (cond := (cB (cOp (dEq true) (.e (frz (cCall c__law_has [] (cCons (cVar 0) (cCons (cVar 17) cNil))))) (.e (cOp (dIn false) (.e (cOp dMod (.e (cCb fInt [(.v 17)])) (.v 9))) (.v 11)))))) (elt := cVar 17) (lo := S.lo - size) (k := (S.hi - (S.lo - size)).toNat) (c := fun n => has S n != pat size (rem size S.R) n)
    (Γ := [.fr (stD S), .fr (.int S.m), .fr (.tuple (intL S.L)), .fr (.int S.lo), .fr (.int S.hi), .fr (.tuple (intL S.M)), .fr (.tuple (intL S.R)), .fr (.list (intL dv)), .ow (.list (intL (size :: ft))), .fr (.int size), .fr (.tuple (intL (rem size S.L))), .fr (.tuple (intL (rem size S.R))), .ow (.list (intL (firsts (has S) S.lo S.hi size (rem size S.L)))), .no, .no, .no, .no, .no, .no]) (by omega)
    (fun i => ⟨[.fr (stD S), .fr (.int S.m), .fr (.tuple (intL S.L)), .fr (.int S.lo), .fr (.int S.hi), .fr (.tuple (intL S.M)), .fr (.tuple (intL S.R)), .fr (.list (intL dv)), .ow (.list (intL (size :: ft))), .fr (.int size), .fr (.tuple (intL (rem size S.L))), .fr (.tuple (intL (rem size S.R))), .ow (.list (intL (firsts (has S) S.lo S.hi size (rem size S.L)))), .no, .no, .no, .no, .fr (.int i), .no], by simp, [.fr (stD S), .fr (.int S.m), .fr (.tuple (intL S.L)), .fr (.int S.lo), .fr (.int S.hi), .fr (.tuple (intL S.M)), .fr (.tuple (intL S.R)), .fr (.list (intL dv)), .ow (.list (intL (size :: ft))), .fr (.int size), .fr (.tuple (intL (rem size S.L))), .fr (.tuple (intL (rem size S.R))), .ow (.list (intL (firsts (has S) S.lo S.hi size (rem size S.L)))), .no, .no, .no, .no, .fr (.int i), .no], by simp [mp, hh, -dIn_tup, dIn_ints, pat, bne] <;> congr, by simp, _, by simp; rfl, by simp⟩)
  have u1 : ∀ rest : List Int, intsD (intL (rest.map fun a => a % size)) = some (rest.map fun a => a % size) := fun rest => intsD_intL _
  have l1 : (intL (S.L.map fun a => a % size)).length < 64 := by rw [len_intL, List.length_map]; exact w.L
  have l2 : (intL (S.R.map fun a => a % size)).length < 64 := by rw [len_intL, List.length_map]; exact w.R
  change _ = some (intL (firsts (has S) S.lo S.hi size (rem size S.L)), _) at f3
  change _ = some (intL (lasts (has S) S.lo S.hi size (rem size S.R)), _) at f4
  have r1 : (-4611686018427387904 ≤ S.lo) := by omega
  have r2 : (S.lo < 4611686018427387904) := by omega
  have r3 : (-4611686018427387904 ≤ S.hi) := by omega
  have r4 : (S.hi < 4611686018427387904) := by omega
  have r5 : (-4611686018427387904 ≤ S.hi + size) := by omega
  have r6 : (S.hi + size < 4611686018427387904) := by omega
  have r7 : (-4611686018427387904 ≤ S.lo - size) := by omega
  have r8 : (S.lo - size < 4611686018427387904) := by omega
  have n1 : (-4611686018427387904 ≤ S.m + 1) := by omega
  have n2 : (S.m + 1 < 4611686018427387904) := by omega
  have hbe : (usort (S.L.map fun a => a % size)) = rem size S.L := rfl
  have hab : (usort (S.R.map fun a => a % size)) = rem size S.R := rfl
  have mi : ∀ ns : List Int, (ns.map fun n => PyData.int n) = intL ns := fun ns => rfl
  have p0 : atI (intL (size :: ft)) 0 = some (.int size) := by unfold intL; simp
  cases hf : firsts (has S) S.lo S.hi size (rem size S.L) with
  | nil =>
    have hc : leastC S size = ⟨size, rem size S.L, 0, 0, [], rem size S.R⟩ := by unfold leastC; rw [hf]
    rw [hc, ends_one k z hf]
    rw [hf] at f3 f4
    unfold stD at q1' q2 f1 f2 f3 f4
    simp [c__law_least, stD, n1, n2, q1', q2, p0, f1, f2, f3, f4, u1, l1, l2, hbe, hab, mi, r1, r2, r3, r4, r5, r6, r7, r8, dEq_listnil, -dIn_tup]
    rfl
  | cons f t =>
    obtain ⟨u, l, hl⟩ := lasts_some k z hf
    have hc : leastC S size = if l + 1 ≤ f then ⟨size, rem size S.L, cutAt (l + 1) f, cutAt (l + 1) f, [], rem size S.R⟩ else ⟨size, rem size S.L, f, l + 1, (rngI f (l + 1 - f).toNat).filter fun n => has S n, rem size S.R⟩ := by unfold leastC; rw [hf, hl, List.getLast?_concat]
    rw [hc]
    rw [hf] at f3 f4
    rw [hl] at f4
    have p1 : atI (intL (f :: t)) 0 = some (.int f) := by unfold intL; simp
    have p2 : atI (intL (u ++ [l])) (-1) = some (.int l) := by unfold intL; rw [atI_map, atI_last]; rfl
    obtain ⟨g1, g2, _, _⟩ := first_is hf
    obtain ⟨g3, g4, _, _⟩ := last_is hl
    by_cases hq : l + 1 ≤ f
    · rw [if_pos hq]
      unfold stD at q1' q2 f1 f2 f3 f4
      by_cases c1 : l + 1 ≤ 0
      · by_cases c2 : 0 ≤ f
        · have hcut : cutAt (l + 1) f = 0 := by unfold cutAt; omega
          simp [c__law_least, stD, n1, n2, q1', q2, p0, f1, f2, f3, f4, u1, l1, l2, hbe, hab, mi, r1, r2, r3, r4, r5, r6, r7, r8, dEq_listnil, -dIn_tup, p1, p2, hq, c1, c2, hcut]
          try rfl
        · have hcut : cutAt (l + 1) f = f := by unfold cutAt; omega
          have c3 : ¬ 0 < l + 1 := by omega
          simp [c__law_least, stD, n1, n2, q1', q2, p0, f1, f2, f3, f4, u1, l1, l2, hbe, hab, mi, r1, r2, r3, r4, r5, r6, r7, r8, dEq_listnil, -dIn_tup, p1, p2, hq, c1, c2, c3, hcut]
          try rfl
      · have hcut : cutAt (l + 1) f = l + 1 := by unfold cutAt; omega
        have c3 : 0 < l + 1 := by omega
        simp [c__law_least, stD, n1, n2, q1', q2, p0, f1, f2, f3, f4, u1, l1, l2, hbe, hab, mi, r1, r2, r3, r4, r5, r6, r7, r8, dEq_listnil, -dIn_tup, p1, p2, hq, c1, c3, hcut]
        try rfl
    · rw [if_neg hq]
      have f5 := r_filter (n := 17) (cond := (cB (frz (cCall c__law_has [] (cCons (cVar 0) (cCons (cVar 17) cNil)))))) (elt := cVar 17) (lo := f) (k := (l + 1 - f).toNat) (c := fun n => has S n)
        (Γ := [.fr (stD S), .fr (.int S.m), .fr (.tuple (intL S.L)), .fr (.int S.lo), .fr (.int S.hi), .fr (.tuple (intL S.M)), .fr (.tuple (intL S.R)), .fr (.list (intL dv)), .ow (.list (intL (size :: ft))), .fr (.int size), .fr (.tuple (intL (rem size S.L))), .fr (.tuple (intL (rem size S.R))), .ow (.list (intL (f :: t))), .ow (.list (intL (u ++ [l]))), .fr (.int f), .fr (.int (l + 1)), .no, .no, .no]) (by omega)
        (fun i => ⟨[.fr (stD S), .fr (.int S.m), .fr (.tuple (intL S.L)), .fr (.int S.lo), .fr (.int S.hi), .fr (.tuple (intL S.M)), .fr (.tuple (intL S.R)), .fr (.list (intL dv)), .ow (.list (intL (size :: ft))), .fr (.int size), .fr (.tuple (intL (rem size S.L))), .fr (.tuple (intL (rem size S.R))), .ow (.list (intL (f :: t))), .ow (.list (intL (u ++ [l]))), .fr (.int f), .fr (.int (l + 1)), .no, .fr (.int i), .no], by simp, [.fr (stD S), .fr (.int S.m), .fr (.tuple (intL S.L)), .fr (.int S.lo), .fr (.int S.hi), .fr (.tuple (intL S.M)), .fr (.tuple (intL S.R)), .fr (.list (intL dv)), .ow (.list (intL (size :: ft))), .fr (.int size), .fr (.tuple (intL (rem size S.L))), .fr (.tuple (intL (rem size S.R))), .ow (.list (intL (f :: t))), .ow (.list (intL (u ++ [l]))), .fr (.int f), .fr (.int (l + 1)), .no, .fr (.int i), .no], by simp [hh], by simp, _, by simp; rfl, by simp⟩)
      have r9 : (-4611686018427387904 ≤ f) := by omega
      have r10 : (f < 4611686018427387904) := by omega
      have r11 : (-4611686018427387904 ≤ l + 1) := by omega
      have r12 : (l + 1 < 4611686018427387904) := by omega
      unfold stD at q1' q2 f1 f2 f3 f4 f5
      simp [c__law_least, stD, n1, n2, q1', q2, p0, f1, f2, f3, f4, f5, u1, l1, l2, hbe, hab, mi, r1, r2, r3, r4, r5, r6, r7, r8, r9, r10, r11, r12, dEq_listnil, -dIn_tup, p1, p2, hq]
      try rfl
end W82

namespace W82
open PySem PySem.Spec PyProof.Rows L2 Pu Can
/-- the least set -/
def lst (S : Can.St) : Can.St := leastC S (lcmI (leastRound S.m S.L) (leastRound S.m S.R))
theorem canon_one {A : Int → Bool} {C C' : Can.St} (h : St.canon A C) (h' : St.canon A C') : C = C' := by
  obtain ⟨e1, e2, e3, e4, e5, e6⟩ := Canon.unique h h'
  cases C; cases C'
  simp only at e1 e2 e3 e4 e5 e6
  subst e1 e2 e3 e4 e5 e6
  rfl
theorem lst_canon {S : Can.St} (k : Ok S) : St.canon (has S) (lst S) := leastC_canon k (size_prog k)
theorem lst_ok {S : Can.St} (k : Ok S) : Ok (lst S) ∧ ∀ n, has (lst S) n = has S n := Canon.ok (lst_canon k)
theorem lst_same {S T : Can.St} (k : Ok S) (l : Ok T) (h : ∀ n, has S n = has T n) : lst S = lst T := by
  have e : has S = has T := funext h
  exact canon_one (lst_canon k) (by rw [e]; exact lst_canon l)
theorem lst_lst {S : Can.St} (k : Ok S) : lst (lst S) = lst S := lst_same (lst_ok k).1 k (lst_ok k).2
theorem r_least {S : Can.St} (k : Ok S) (w : Few S) : c_least_of [.fr (stD S)] = some (.fr (stD (lst S)), [.no]) ∧ c__law_least [.fr (stD S)] = some (.fr (stD (lst S)), [.no]) := by
  refine ⟨r_least_of k w, ?_⟩
  obtain ⟨size, z, e⟩ := r__law_least k w
  rw [e, canon_one (leastC_canon k z) (lst_canon k)]
end W82

namespace W82
open PySem PySem.Spec PyProof.Rows L2 Pu Can
@[simp] theorem r_is_integer (d : D) : c_is_integer [.fr d] = some (.fr (.bool (isZ d)), [.no]) := by
  cases d <;> simp [c_is_integer]
@[simp] theorem r__law_integer (d : D) : c__law_integer [.fr d] = some (.fr (.bool (isZ d)), [.no]) := by
  cases d <;> simp [c__law_integer]
def rowZ : D → Bool
  | .tuple xs => xs.all isZ
  | _ => false
def short : D → Prop
  | .tuple xs => xs.length ≤ 1000
  | _ => True
theorem fit_short {w k : Nat} {d : D} (hw : w ≤ 1000) (h : fit w k d) : short d := by
  cases d <;> try exact trivial
  cases k
  · exact (fit_tup0 h).elim
  · exact Nat.le_trans (fit_tup.mp h).1 hw
theorem r_are_integers (d : D) (h : short d) : c_are_integers [.fr d] = some (.fr (.bool (rowZ d)), [.no]) := by
  cases d with
  | tuple xs =>
    have hz : xs.length ≤ 1000 := h
    have e := lcL_map (g := gN 1) (elt := frz (cCall c_is_integer [] (cCons (cVar 1) cNil))) (vs := [1]) (Γ := [.fr (.tuple xs), .no]) (f := fun d => .bool (isZ d)) xs [] (fun d _ => by simp) (Nat.le_trans (by simpa using hz) (by decide))
    simp [c_are_integers, e, fAll_map, rowZ]
  | _ => simp [c_are_integers, rowZ]
theorem rowZ_ints {xs : List D} (h : xs.all isZ = true) : ∃ ns, xs = intL ns := by
  refine ⟨xs.map toI, ?_⟩
  unfold intL
  rw [List.map_map]
  conv => lhs; rw [← List.map_id xs]
  refine List.map_congr_left fun d hd => ?_
  have := List.all_eq_true.mp h d hd
  cases d <;> first | rfl | cases this
def inR (lo hi : Int) (n : Int) : Bool := decide (lo ≤ n) && decide (n < hi)
def ascR (ns : List Int) : Bool := (rngI 0 (ns.length - 1)).all fun j => decide (ns.getD j.toNat 0 < ns.getD (j + 1).toNat 0)
def asc (lo hi : Int) : D → Bool
  | .tuple xs => xs.all isZ && ((xs.map toI).all (inR lo hi) && ascR (xs.map toI))
  | _ => false
theorem atI_intL {ns : List Int} {j : Int} (h0 : 0 ≤ j) (h1 : j < ns.length) : atI (intL ns) j = some (.int (ns.getD j.toNat 0)) := by
  unfold intL
  rw [atI_map, atI_pos h0 h1, List.getD_eq_getElem?_getD, List.getElem?_eq_getElem (by omega)]
  rfl
theorem toI_intL (ns : List Int) : (intL ns).map toI = ns := by simp [intL, List.map_map, Function.comp_def]
theorem isZ_intL (ns : List Int) : (intL ns).all isZ = true := by simp [intL, List.all_map, Function.comp_def]
/-- the truths of the steps -/
theorem steps_of {ns : List Int} {Γ : En} {n : Nat} {elt : CE} (hl : ns.length ≤ 1000) (h : ∀ j : Int, 0 ≤ j → j + 1 < ns.length → ∃ Γ1, gN n (.int j) Γ = some Γ1 ∧ ∃ Γ2, elt Γ1 = some (.bool (decide (ns.getD j.toNat 0 < ns.getD (j + 1).toNat 0)), Γ2) ∧ wipeG Γ2 [n] = Γ) :
    ∃ zs, lcL (gN n) cYes elt [n] (rngD 0 (ns.length - 1)) [] Γ = some (zs, Γ) ∧ fAll [.list zs] = some (.bool (ascR ns)) := by
  have e := lcL_map (g := gN n) (elt := elt) (vs := [n]) (Γ := Γ) (f := fun d => .bool (decide (ns.getD (toI d).toNat 0 < ns.getD (toI d + 1).toNat 0))) (rngD 0 (ns.length - 1)) [] (fun d hd => by
    obtain ⟨j, rfl, j0, j1⟩ := mem_rngD hd
    exact h j j0 (by omega)) (by rw [rng_len]; exact small_sz (by simp; omega))
  refine ⟨_, by rw [e], ?_⟩
  have e5 := fAll_map (fun d => decide (ns.getD (toI d).toNat 0 < ns.getD (toI d + 1).toNat 0)) (rngD 0 (ns.length - 1))
  rw [List.nil_append, e5, rngD_ints, all_ints]
  rfl
theorem r_is_asc (d : D) (lo hi : Int) (hs : short d) : c_is_ascending [.fr d, .fr (.int lo), .fr (.int hi)] = some (.fr (.bool (asc lo hi d)), [.no, .no, .no]) := by
  have e0 := r_are_integers d hs
  by_cases hz : rowZ d = true
  · obtain ⟨xs, rfl⟩ : ∃ xs, d = .tuple xs := by cases d <;> first | exact ⟨_, rfl⟩ | cases hz
    obtain ⟨ns, rfl⟩ := rowZ_ints hz
    have hl : ns.length ≤ 1000 := by have : (intL ns).length ≤ 1000 := hs; rwa [len_intL] at this
    have e1 := lcL_map (g := gN 4) (elt := (cChain dLe dLt (.v 1) (.v 4) (.v 2))) (vs := [4]) (Γ := [.fr (.tuple (intL ns)), .fr (.int lo), .fr (.int hi), .no, .no]) (f := fun d => .bool (inR lo hi (toI d))) (intL ns) [] (fun d hd => by
      obtain ⟨i, _, rfl⟩ := List.mem_map.mp hd
      refine ⟨_, by simp; rfl, [.fr (.tuple (intL ns)), .fr (.int lo), .fr (.int hi), .no, .fr (.int i)], ?_, by simp⟩
      by_cases h1 : lo ≤ i <;> simp [inR, h1] <;> congr) (by rw [len_intL]; exact small_sz (by simp; omega))
    have e2 := fAll_map (fun d => inR lo hi (toI d)) (intL ns)
    rw [all_ints] at e2
    simp only [toI_int] at e2
    obtain ⟨zs, e3, e4⟩ := steps_of (ns := ns) (n := 3) (elt := (cOp dLt (.e (cOp dIx (.v 0) (.v 3))) (.e (cOp dIx (.v 0) (.e (cOp dAdd (.v 3) (.e (cC (.int 1))))))))) (Γ := [.fr (.tuple (intL ns)), .fr (.int lo), .fr (.int hi), .no, .no]) hl (fun j j0 j1 => by
      have a1 := atI_intL (ns := ns) (j := j) j0 (by omega)
      have a2 := atI_intL (ns := ns) (j := j + 1) (by omega) j1
      exact ⟨_, by simp; rfl, [.fr (.tuple (intL ns)), .fr (.int lo), .fr (.int hi), .fr (.int j), .no], by simp [a1, a2], by simp⟩)
    have r1 : (-4611686018427387904 ≤ (ns.length : Int) - 1) := by omega
    have r2 : ((ns.length : Int) - 1 < 4611686018427387904) := by omega
    have r3 : ((ns.length : Int) - 1).toNat = ns.length - 1 := by omega
    have e1' : lcL (gN 4) cYes (cChain dLe dLt (.v 1) (.v 4) (.v 2)) [4] (intL ns) [] [.fr (.tuple (intL ns)), .fr (.int lo), .fr (.int hi), .no, .no] = some ((intL ns).map fun d => .bool (inR lo hi (toI d)), [.fr (.tuple (intL ns)), .fr (.int lo), .fr (.int hi), .no, .no]) := by rw [e1]; rfl
    have hasc : asc lo hi (.tuple (intL ns)) = (ns.all (inR lo hi) && ascR ns) := by
      show ((intL ns).all isZ && (((intL ns).map toI).all (inR lo hi) && ascR ((intL ns).map toI))) = _
      rw [isZ_intL, toI_intL, Bool.true_and]
    rw [hasc]
    by_cases h1 : ns.all (inR lo hi) = true
    · simp [c_is_ascending, e0, hz, e1', e2, h1, e3, e4, len_intL, r1, r2, r3]
    · simp [c_is_ascending, e0, hz, e1', e2, h1]
  · have : asc lo hi d = false := by
      cases d <;> first | rfl | skip
      rename_i xs
      have hz' : xs.all isZ = false := by simpa [rowZ] using hz
      simp only [asc, hz', Bool.false_and]
    simp [c_is_ascending, e0, hz, this]
end W82

namespace W82
open PySem PySem.Spec PyProof.Rows L2 Pu Can
theorem asc_ints (lo hi : Int) (ns : List Int) : asc lo hi (.tuple (intL ns)) = (ns.all (inR lo hi) && ascR ns) := by
  show ((intL ns).all isZ && (((intL ns).map toI).all (inR lo hi) && ascR ((intL ns).map toI))) = _
  rw [isZ_intL, toI_intL, Bool.true_and]
theorem r__law_asc (d : D) (lo hi : Int) (hs : short d) : c__law_ascends [.fr d, .fr (.int lo), .fr (.int hi)] = some (.fr (.bool (asc lo hi d)), [.no, .no, .no]) := by
  by_cases ht : tTup d = true
  · obtain ⟨xs, rfl⟩ : ∃ xs, d = .tuple xs := by cases d <;> first | exact ⟨_, rfl⟩ | cases ht
    have hx : xs.length ≤ 1000 := hs
    have e1 := lcL_map (g := gN 4) (elt := (cAndV (frz (cCall c__law_integer [] (cCons (cVar 4) cNil))) (cChain dLe dLt (.v 1) (.v 4) (.v 2)))) (vs := [4]) (Γ := [.fr (.tuple xs), .fr (.int lo), .fr (.int hi), .no, .no]) (f := fun d => .bool (isZ d && inR lo hi (toI d))) xs [] (fun d hd => by
      refine ⟨_, by simp; rfl, [.fr (.tuple xs), .fr (.int lo), .fr (.int hi), .no, .fr d], ?_, by simp⟩
      cases d <;> simp
      rename_i i
      by_cases h1 : lo ≤ i <;> simp [inR, h1] <;> congr) (small_sz (by simp; omega))
    have e1' : lcL (gN 4) cYes (cAndV (frz (cCall c__law_integer [] (cCons (cVar 4) cNil))) (cChain dLe dLt (.v 1) (.v 4) (.v 2))) [4] xs [] [.fr (.tuple xs), .fr (.int lo), .fr (.int hi), .no, .no] = some (xs.map fun d => .bool (isZ d && inR lo hi (toI d)), [.fr (.tuple xs), .fr (.int lo), .fr (.int hi), .no, .no]) := by rw [e1]; rfl
    have e2 := fAll_map (fun d => isZ d && inR lo hi (toI d)) xs
    by_cases hz : xs.all isZ = true
    · obtain ⟨ns, rfl⟩ := rowZ_ints hz
      have hl : ns.length ≤ 1000 := by rwa [len_intL] at hx
      obtain ⟨zs, e3, e4⟩ := steps_of (ns := ns) (n := 3) (elt := (cOp dLt (.e (cOp dIx (.v 0) (.v 3))) (.e (cOp dIx (.v 0) (.e (cOp dAdd (.v 3) (.e (cC (.int 1))))))))) (Γ := [.fr (.tuple (intL ns)), .fr (.int lo), .fr (.int hi), .no, .no]) hl (fun j j0 j1 => by
        have a1 := atI_intL (ns := ns) (j := j) j0 (by omega)
        have a2 := atI_intL (ns := ns) (j := j + 1) (by omega) j1
        exact ⟨_, by simp; rfl, [.fr (.tuple (intL ns)), .fr (.int lo), .fr (.int hi), .fr (.int j), .no], by simp [a1, a2], by simp⟩)
      have r1 : (-4611686018427387904 ≤ (ns.length : Int) - 1) := by omega
      have r2 : ((ns.length : Int) - 1 < 4611686018427387904) := by omega
      have r3 : ((ns.length : Int) - 1).toNat = ns.length - 1 := by omega
      have e6 : (intL ns).all (fun d => isZ d && inR lo hi (toI d)) = ns.all (inR lo hi) := by rw [all_ints]; simp
      rw [e6] at e2
      rw [asc_ints]
      by_cases h1 : ns.all (inR lo hi) = true
      · simp [c__law_ascends, e1', e2, h1, e3, e4, len_intL, r1, r2, r3]
      · simp [c__law_ascends, e1', e2, h1]
    · have e6 : xs.all (fun d => isZ d && inR lo hi (toI d)) = false := by
        cases h : xs.all (fun d => isZ d && inR lo hi (toI d)) with
        | false => rfl
        | true =>
          refine absurd (List.all_eq_true.mpr fun d hd => ?_) hz
          have := List.all_eq_true.mp h d hd
          rw [Bool.and_eq_true] at this
          exact this.1
      rw [e6] at e2
      have : asc lo hi (.tuple xs) = false := by
        have hz' : xs.all isZ = false := by simpa using hz
        simp only [asc, hz', Bool.false_and]
      simp [c__law_ascends, e1', e2, this]
  · have : asc lo hi d = false := by cases d <;> first | rfl | exact absurd rfl ht
    have ht' : tTup d = false := by simpa using ht
    simp [c__law_ascends, ht', this]
/-- the plain meaning -/
theorem ascR_lt {ns : List Int} : ascR ns = true ↔ ns.Pairwise (· < ·) := by
  unfold ascR
  rw [List.all_eq_true]
  constructor
  · intro h
    rw [List.pairwise_iff_getElem]
    intro i j hi hj hij
    have step : ∀ k (h : k + 1 < ns.length), ns[k]'(by omega) < ns[k + 1] := fun k hk => by
      have q := h (k : Int) (rngI_mem.mpr ⟨by omega, by omega⟩)
      rw [decide_eq_true_eq, List.getD_eq_getElem?_getD, List.getD_eq_getElem?_getD] at q
      rw [show ((k : Int)).toNat = k by omega, show ((k : Int) + 1).toNat = k + 1 by omega, List.getElem?_eq_getElem (by omega), List.getElem?_eq_getElem hk] at q
      exact q
    have far : ∀ d, ∀ (h : i + d + 1 < ns.length), ns[i] < ns[i + d + 1] := fun d => by
      induction d with
      | zero => intro hd; exact step i hd
      | succ d ih => intro hd; exact Int.lt_trans (ih (by omega)) (step (i + d + 1) hd)
    obtain ⟨d, rfl⟩ : ∃ d, j = i + d + 1 := ⟨j - i - 1, by omega⟩
    exact far d hj
  · intro h j hj
    obtain ⟨j0, j1⟩ := rngI_mem.mp hj
    rw [List.pairwise_iff_getElem] at h
    have q := h j.toNat (j.toNat + 1) (by omega) (by omega) (by omega)
    rw [decide_eq_true_eq, List.getD_eq_getElem?_getD, List.getD_eq_getElem?_getD, show (j + 1).toNat = j.toNat + 1 by omega, List.getElem?_eq_getElem (by omega), List.getElem?_eq_getElem (by omega)]
    exact q
end W82

namespace W82
open PySem PySem.Spec PyProof.Rows L2 Pu Can
@[simp] theorem ln_7_6 (k : Nat) : (((k : Int) + 1 + 1 + 1 + 1 + 1 + 1 + 1) = 6) = False := by simp only [eq_iff_iff, iff_false]; omega
def isSet : D → Bool
  | .tuple [m, l, lo, hi, mi, r] => isZ m && (isZ lo && (isZ hi && (decide (1 ≤ toI m) && (decide (toI lo ≤ toI hi) && (asc 0 (toI m) l && (asc 0 (toI m) r && asc (toI lo) (toI hi) mi))))))
  | _ => false
def parts : D → Prop
  | .tuple xs => ∀ x ∈ xs, short x
  | _ => True
theorem isZ_int {d : D} (h : isZ d = true) : ∃ i, d = .int i := by cases d <;> first | exact ⟨_, rfl⟩ | cases h
theorem r_is_set (d : D) (hp : parts d) : c_is_set [.fr d] = some (.fr (.bool (isSet d)), [.no]) ∧ c__law_is_set [.fr d] = some (.fr (.bool (isSet d)), [.no]) := by
  cases d with
  | tuple xs =>
    rcases xs with _ | ⟨m, _ | ⟨l, _ | ⟨lo, _ | ⟨hi, _ | ⟨mi, _ | ⟨r, _ | ⟨t, u⟩⟩⟩⟩⟩⟩⟩
    all_goals try (constructor <;> (first | (simp [c_is_set, isSet]; done) | (simp [c__law_is_set, isSet]; done)))
    have q2 : short l := hp l (by simp)
    have q5 : short mi := hp mi (by simp)
    have q6 : short r := hp r (by simp)
    by_cases z1 : isZ m = true
    · obtain ⟨m, rfl⟩ := isZ_int z1
      by_cases z2 : isZ lo = true
      · obtain ⟨lo, rfl⟩ := isZ_int z2
        by_cases z3 : isZ hi = true
        · obtain ⟨hi, rfl⟩ := isZ_int z3
          have a1 := r_is_asc l 0 m q2
          have a2 := r_is_asc r 0 m q6
          have a3 := r_is_asc mi lo hi q5
          have b1 := r__law_asc l 0 m q2
          have b2 := r__law_asc r 0 m q6
          have b3 := r__law_asc mi lo hi q5
          by_cases h1 : 1 ≤ m
          · have h1' : ¬ m < 1 := by omega
            have h1'' : ¬ m ≤ 0 := by omega
            by_cases h2 : lo ≤ hi
            · have h2' : ¬ hi < lo := by omega
              cases c1 : asc 0 m l <;> cases c2 : asc 0 m r <;> simp [c_is_set, c__law_is_set, isSet, h1, h1', h1'', h2, h2', a1, a2, a3, b1, b2, b3, c1, c2, lcL, cYes, fAll_l]
            · have h2' : hi < lo := by omega
              simp [c_is_set, c__law_is_set, isSet, h1, h1', h1'', h2, h2', lcL, cYes, fAll_l]
          · have h1' : m < 1 := by omega
            have h1'' : m ≤ 0 := by omega
            simp [c_is_set, c__law_is_set, isSet, h1, h1', h1'', lcL, cYes, fAll_l]
        · simp [c_is_set, c__law_is_set, isSet, z3, lcL, cYes, fAll_l]
          try (by_cases h1 : m < 1 <;> simp [h1])
      · simp [c_is_set, c__law_is_set, isSet, z2, lcL, cYes, fAll_l]
        try (by_cases h1 : m < 1 <;> simp [h1])
    · simp [c_is_set, c__law_is_set, isSet, z1, lcL, cYes, fAll_l]
  | _ => constructor <;> first | (simp [c_is_set, isSet]; done) | (simp [c__law_is_set, isSet]; done)
end W82

namespace W82
open PySem PySem.Spec PyProof.Rows L2 Pu Can
/-! bundles, grids -/
def pairN : D → Bool
  | .tuple [a, .tuple _] => isZ a && decide (1 ≤ toI a)
  | _ => false
def rowsOf : D → List D
  | .tuple [_, .tuple xs] => xs
  | _ => []
def headN : D → Int
  | .tuple [a, _] => toI a
  | _ => 0
def rowN (n : Int) : D → Bool
  | .tuple xs => xs.all isZ && decide ((xs.length : Int) = n)
  | _ => false
def gridB (d : D) : Bool := pairN d && (rowsOf d).all (rowN (headN d))
def notO : D → Bool
  | .tuple xs => xs.any fun x => !decide (toI x = 0)
  | _ => false
def bundleB (d : D) : Bool := gridB d && (rowsOf d).all notO
def parts2 (d : D) : Prop := ∀ x ∈ rowsOf d, short x
def few2 (d : D) : Prop := (rowsOf d).length ≤ 1000
theorem r_is_pair (d : D) : c_is_pair [.fr d] = some (.fr (.bool (match d with | .tuple [_, _] => true | _ => false)), [.no]) := by
  cases d with
  | tuple xs => rcases xs with _ | ⟨a, _ | ⟨b, _ | ⟨c, t⟩⟩⟩ <;> simp [c_is_pair]
  | _ => simp [c_is_pair]
theorem r__law_row (n : Int) (d : D) (h : short d) : c__law_row_of_integers [.fr d, .fr (.int n)] = some (.fr (.bool (rowN n d)), [.no, .no]) := by
  cases d with
  | tuple xs =>
    have hz : xs.length ≤ 1000 := h
    have e := lcL_map (g := gN 2) (elt := frz (cCall c__law_integer [] (cCons (cVar 2) cNil))) (vs := [2]) (Γ := [.fr (.tuple xs), .fr (.int n), .no]) (f := fun d => .bool (isZ d)) xs [] (fun d _ => by simp) (small_sz (by simpa using (by omega : xs.length ≤ 100000)))
    by_cases hx : (xs.length : Int) = n
    · simp [c__law_row_of_integers, e, fAll_map, rowN, hx]
    · simp [c__law_row_of_integers, e, rowN, hx]
  | _ => simp [c__law_row_of_integers, rowN]
theorem pair_shape {d : D} (h : pairN d = true) : ∃ i xs, d = .tuple [.int i, .tuple xs] ∧ 1 ≤ i := by
  unfold pairN at h
  split at h
  · rename_i a xs
    rw [Bool.and_eq_true] at h
    obtain ⟨i, rfl⟩ := isZ_int h.1
    exact ⟨i, xs, rfl, of_decide_eq_true h.2⟩
  · cases h
/-- a pair of another kind: each check says no -/
theorem no_pair {d : D} (h : pairN d = false) : c_is_grid [.fr d] = some (.fr (.bool false), [.no]) ∧ c_is_bundle_of [.fr d] = some (.fr (.bool false), [.no]) ∧ c__law_headed [.fr d] = some (.fr (.bool false), [.no]) := by
  cases d with
  | tuple xs =>
    rcases xs with _ | ⟨a, _ | ⟨b, _ | ⟨c, t⟩⟩⟩
    · simp [c_is_grid, c_is_bundle_of, c__law_headed, r_is_pair]
    · simp [c_is_grid, c_is_bundle_of, c__law_headed, r_is_pair]
    · by_cases z : isZ a = true
      · obtain ⟨i, rfl⟩ := isZ_int z
        by_cases h1 : 1 ≤ i
        · have h2 : ¬ i < 1 := by omega
          have h3 : 0 < i := by omega
          have h4 : tTup b = false := by
            cases b <;> first | rfl | skip
            simp [pairN, h1] at h
          simp [c_is_grid, c_is_bundle_of, c__law_headed, r_is_pair, h2, h3, h4]
        · have h2 : i < 1 := by omega
          have h3 : ¬ 0 < i := by omega
          simp [c_is_grid, c_is_bundle_of, c__law_headed, r_is_pair, h2, h3]
      · simp [c_is_grid, c_is_bundle_of, c__law_headed, r_is_pair, z]
    · simp [c_is_grid, c_is_bundle_of, c__law_headed, r_is_pair]
  | _ => simp [c_is_grid, c_is_bundle_of, c__law_headed, r_is_pair]
theorem r_is_grid (d : D) (hp : parts2 d) (hf : few2 d) : c_is_grid [.fr d] = some (.fr (.bool (gridB d)), [.no]) ∧ c__law_is_grid [.fr d] = some (.fr (.bool (gridB d)), [.no]) := by
  by_cases h : pairN d = true
  · obtain ⟨i, xs, rfl, i1⟩ := pair_shape h
    have hx : ∀ x ∈ xs, short x := hp
    have hl : xs.length ≤ 1000 := hf
    have e := lcL_map (g := gN 1) (elt := cAndV (frz (cCall c_are_integers [] (cCons (cVar 1) cNil))) (cOp (dEq false) (.e (cCb fLen [(.v 1)])) (.e (cOp dIx (.v 0) (.e (cC (.int 0))))))) (vs := [1]) (Γ := [.fr (.tuple [.int i, .tuple xs]), .no]) (f := fun d => .bool (rowN i d)) xs [] (fun d hd => by
      refine ⟨_, by simp; rfl, [.fr (.tuple [.int i, .tuple xs]), .fr d], ?_, by simp⟩
      have q := r_are_integers d (hx d hd)
      cases d with
      | tuple ys =>
        by_cases hy : ys.all isZ = true
        · simp [q, rowZ, rowN, hy]
        · simp [q, rowZ, rowN, hy]
      | _ => simp [q, rowZ, rowN]) (small_sz (by simpa using (by omega : xs.length ≤ 100000)))
    have e' := lcL_map (g := gN 1) (elt := (cNotV (frz (cCall c__law_row_of_integers [] (cCons (cVar 1) (cCons (cOp dIx (.v 0) (.e (cC (.int 0)))) cNil)))))) (vs := [1]) (Γ := [.fr (.tuple [.int i, .tuple xs]), .no]) (f := fun d => .bool (!rowN i d)) xs [] (fun d hd => by
      refine ⟨_, by simp; rfl, [.fr (.tuple [.int i, .tuple xs]), .fr d], ?_, by simp⟩
      simp [r__law_row i d (hx d hd)]) (small_sz (by simpa using (by omega : xs.length ≤ 100000)))
    have h2 : ¬ i < 1 := by omega
    have h3 : 0 < i := by omega
    have hh : c__law_headed [.fr (.tuple [.int i, .tuple xs])] = some (.fr (.bool true), [.no]) := by simp [c__law_headed, h3]
    have na : (xs.any fun d => !rowN i d) = !xs.all (rowN i) := by rw [List.not_all_eq_any_not]
    have h4 : decide (1 ≤ i) = true := by simpa using i1
    constructor
    · simp [c_is_grid, r_is_pair, h2, e, fAll_map, gridB, pairN, rowsOf, headN, i1]
    · simp [c__law_is_grid, hh, e', fAny_map, na, gridB, pairN, rowsOf, headN, i1]
  · have hf : pairN d = false := by simpa using h
    obtain ⟨n1, n2, n3⟩ := no_pair hf
    have : gridB d = false := by simp [gridB, hf]
    exact ⟨by rw [this]; exact n1, by simp [c__law_is_grid, n3, this]⟩
end W82

namespace W82
open PySem PySem.Spec PyProof.Rows L2 Pu Can
theorem notO_ints (ns : List Int) : notO (.tuple (intL ns)) = ns.any fun n => !decide (n = 0) := by
  show (intL ns).any _ = _
  simp [intL, List.any_map, Function.comp_def]
  congr
theorem all_both {α : Type} (p q : α → Bool) : ∀ xs : List α, (xs.all fun d => p d && q d) = (xs.all p && xs.all q)
  | [] => rfl
  | x :: xs => by
    simp only [List.all_cons, all_both p q xs]
    cases p x <;> cases q x <;> simp
theorem any_run {ns : List Int} {n : Nat} {elt : CE} {Γ : En} (hl : ns.length ≤ 1000) (h : ∀ i : Int, ∃ Γ1, gN n (.int i) Γ = some Γ1 ∧ ∃ Γ2, elt Γ1 = some (.bool (!decide (i = 0)), Γ2) ∧ wipeG Γ2 [n] = Γ) :
    ∃ zs, lcL (gN n) cYes elt [n] (intL ns) [] Γ = some (zs, Γ) ∧ fAny [.list zs] = some (.bool (notO (.tuple (intL ns)))) := by
  have e := lcL_map (g := gN n) (elt := elt) (vs := [n]) (Γ := Γ) (f := fun d => .bool (!decide (toI d = 0))) (intL ns) [] (fun d hd => by
    obtain ⟨i, _, rfl⟩ := List.mem_map.mp hd
    exact h i) (by rw [len_intL]; exact small_sz (by simp; omega))
  refine ⟨_, by rw [e], ?_⟩
  rw [List.nil_append, fAny_map (fun d => !decide (toI d = 0)) (intL ns)]
  rfl
theorem r_is_stick (n : Int) (d : D) (h : short d) : c_is_stick [.fr (.int n), .fr d] = some (.fr (.bool (rowN n d && notO d)), [.no, .no]) := by
  have q := r_are_integers d h
  by_cases hz : rowZ d = true
  · obtain ⟨xs, rfl⟩ : ∃ xs, d = .tuple xs := by cases d <;> first | exact ⟨_, rfl⟩ | cases hz
    obtain ⟨ns, rfl⟩ := rowZ_ints hz
    have hl : ns.length ≤ 1000 := by have : (intL ns).length ≤ 1000 := h; rwa [len_intL] at this
    obtain ⟨zs, e1, e2⟩ := any_run (n := 2) (elt := (cOp (dEq true) (.v 2) (.e (cC (.int 0))))) (Γ := [.fr (.int n), .fr (.tuple (intL ns)), .no]) hl (fun i => ⟨_, by simp; rfl, [.fr (.int n), .fr (.tuple (intL ns)), .fr (.int i)], by simp, by simp⟩)
    have hr : rowN n (.tuple (intL ns)) = decide ((ns.length : Int) = n) := by
      show ((intL ns).all isZ && decide (((intL ns).length : Int) = n)) = _
      rw [isZ_intL, len_intL, Bool.true_and]
    rw [hr]
    by_cases hn : (ns.length : Int) = n
    · simp [c_is_stick, q, hz, e1, e2, hn, len_intL]
    · simp [c_is_stick, q, hz, hn, len_intL]
  · have hr : rowN n d = false := by
      cases d <;> first | rfl | skip
      rename_i xs
      have : xs.all isZ = false := by simpa [rowZ] using hz
      simp only [rowN, this, Bool.false_and]
    simp [c_is_stick, q, hz, hr]
theorem r_is_bundle (d : D) (hp : parts2 d) (hf : few2 d) : c_is_bundle [.fr d] = some (.fr (.bool (bundleB d)), [.no]) ∧ c__law_is_bundle [.fr d] = some (.fr (.bool (bundleB d)), [.no]) := by
  have hg := r_is_grid d hp hf
  by_cases h : pairN d = true
  · obtain ⟨i, xs, rfl, i1⟩ := pair_shape h
    have hx : ∀ x ∈ xs, short x := hp
    have hl : xs.length ≤ 1000 := hf
    have h2 : ¬ i < 1 := by omega
    have e := lcL_map (g := gN 1) (elt := frz (cCall c_is_stick [] (cCons (cOp dIx (.v 0) (.e (cC (.int 0)))) (cCons (cVar 1) cNil)))) (vs := [1]) (Γ := [.fr (.tuple [.int i, .tuple xs]), .no]) (f := fun d => .bool (rowN i d && notO d)) xs [] (fun d hd => by
      refine ⟨_, by simp; rfl, [.fr (.tuple [.int i, .tuple xs]), .fr d], ?_, by simp⟩
      simp [r_is_stick i d (hx d hd)]) (small_sz (by simpa using (by omega : xs.length ≤ 100000)))
    have hsp := all_both (rowN i) notO xs
    have e5 := fAll_map (fun d => rowN i d && notO d) xs
    rw [hsp] at e5
    have hb : bundleB (.tuple [.int i, .tuple xs]) = (xs.all (rowN i) && xs.all notO) := by
      show ((pairN (.tuple [.int i, .tuple xs]) && xs.all (rowN i)) && xs.all notO) = _
      rw [h, Bool.true_and]
    have hgb : gridB (.tuple [.int i, .tuple xs]) = xs.all (rowN i) := by
      show (pairN (.tuple [.int i, .tuple xs]) && xs.all (rowN i)) = _
      rw [h, Bool.true_and]
    rw [hgb] at hg
    rw [hb]
    refine ⟨by simp [c_is_bundle, c_is_bundle_of, r_is_pair, h2, e, e5], ?_⟩
    by_cases hall : xs.all (rowN i) = true
    · rw [hall] at hg
      have e' := lcL_map (g := gN 1) (elt := (cNotV (cCb fAny [(.e (frz (cLc [2] (cIt (cVar 1)) (gN 2) cYes (cOp (dEq true) (.v 2) (.e (cC (.int 0)))))))]))) (vs := [1]) (Γ := [.fr (.tuple [.int i, .tuple xs]), .no, .no]) (f := fun d => .bool (!notO d)) xs [] (fun d hd => by
        refine ⟨_, by simp; rfl, [.fr (.tuple [.int i, .tuple xs]), .fr d, .no], ?_, by simp⟩
        have hr := List.all_eq_true.mp hall d hd
        obtain ⟨ys, rfl⟩ : ∃ ys, d = .tuple ys := by cases d <;> first | exact ⟨_, rfl⟩ | cases hr
        have hy : ys.all isZ = true := by
          have : (ys.all isZ && decide ((ys.length : Int) = i)) = true := hr
          rw [Bool.and_eq_true] at this
          exact this.1
        obtain ⟨ns, rfl⟩ := rowZ_ints hy
        have hl2 : ns.length ≤ 1000 := by have : (intL ns).length ≤ 1000 := hx _ hd; rwa [len_intL] at this
        obtain ⟨zs, e1, e2⟩ := any_run (n := 2) (elt := (cOp (dEq true) (.v 2) (.e (cC (.int 0))))) (Γ := [.fr (.tuple [.int i, .tuple xs]), .fr (.tuple (intL ns)), .no]) hl2 (fun j => ⟨_, by simp; rfl, [.fr (.tuple [.int i, .tuple xs]), .fr (.tuple (intL ns)), .fr (.int j)], by simp, by simp⟩)
        simp [e1, e2]) (small_sz (by simpa using (by omega : xs.length ≤ 100000)))
      have na : (xs.any fun d => !notO d) = !xs.all notO := by rw [List.not_all_eq_any_not]
      simp [c__law_is_bundle, hg.2, e', fAny_map, na, hall]
    · have hall' : xs.all (rowN i) = false := by simpa using hall
      rw [hall'] at hg
      simp [c__law_is_bundle, hg.2, hall']
  · have hf' : pairN d = false := by simpa using h
    obtain ⟨n1, n2, n3⟩ := no_pair hf'
    have h1 : gridB d = false := by simp [gridB, hf']
    have h2 : bundleB d = false := by simp [bundleB, h1]
    exact ⟨by simp [c_is_bundle, n2, h2], by simp [c__law_is_bundle, hg.2, h1, h2]⟩
end W82

namespace Pu
open PySem PySem.Spec PyProof.Rows L2

/-! ### data of bounded width and depth, with small ints -/
def atomB : D → Prop
  | .none => True
  | .bool _ => True
  | .int i => -40 ≤ i ∧ i ≤ 40
  | .str s => okStr s = true
  | _ => False
def fitB (w : Nat) : Nat → D → Prop
  | 0, d => atomB d
  | k + 1, d => atomB d ∨ ∃ xs, (d = .list xs ∨ d = .tuple xs) ∧ xs.length ≤ w ∧ ∀ x ∈ xs, fitB w k x
theorem fitB_atom {w k : Nat} {d : D} (h : atomB d) : fitB w k d := by
  cases k
  · exact h
  · exact .inl h
@[simp] theorem fitB_int {w k : Nat} {i : Int} : fitB w k (.int i) ↔ -40 ≤ i ∧ i ≤ 40 := by
  cases k
  · exact .rfl
  · constructor
    · rintro (h | ⟨xs, h | h, _⟩)
      · exact h
      · cases h
      · cases h
    · exact .inl
@[simp] theorem fitB_bool {w k : Nat} {i : Bool} : fitB w k (.bool i) := fitB_atom trivial
@[simp] theorem fitB_none {w k : Nat} : fitB w k .none := fitB_atom trivial
@[simp] theorem fitB_str {w k : Nat} {s : Str} : fitB w k (.str s) ↔ okStr s = true := by
  cases k
  · exact .rfl
  · constructor
    · rintro (h | ⟨xs, h | h, _⟩)
      · exact h
      · cases h
      · cases h
    · exact .inl
theorem fitB_tup {w k : Nat} {xs : List D} : fitB w (k + 1) (.tuple xs) ↔ xs.length ≤ w ∧ ∀ x ∈ xs, fitB w k x := by
  constructor
  · rintro (h | ⟨ys, h | h, h1, h2⟩)
    · exact h.elim
    · cases h
    · cases h; exact ⟨h1, h2⟩
  · exact fun h => .inr ⟨xs, .inr rfl, h⟩
theorem fitB_list {w k : Nat} {xs : List D} : fitB w (k + 1) (.list xs) ↔ xs.length ≤ w ∧ ∀ x ∈ xs, fitB w k x := by
  constructor
  · rintro (h | ⟨ys, h | h, h1, h2⟩)
    · exact h.elim
    · cases h; exact ⟨h1, h2⟩
    · cases h
  · exact fun h => .inr ⟨xs, .inl rfl, h⟩
@[simp] theorem fitB_tup0 {w : Nat} {xs : List D} : ¬ fitB w 0 (.tuple xs) := id
@[simp] theorem fitB_list0 {w : Nat} {xs : List D} : ¬ fitB w 0 (.list xs) := id
@[simp] theorem fitB_dict {w k : Nat} {xs : List (D × D)} : ¬ fitB w k (.dict xs) := by
  cases k
  · exact id
  · rintro (h | ⟨ys, h | h, h1, h2⟩)
    · exact h.elim
    · cases h
    · cases h
theorem fitB_mono {w v : Nat} (hw : w ≤ v) : ∀ {k j : Nat} {d : D}, k ≤ j → fitB w k d → fitB v j d
  | 0, j, d, _, h => fitB_atom h
  | k + 1, 0, d, hk, h => by omega
  | k + 1, j + 1, d, hk, h => by
    rcases h with h | ⟨xs, h, h1, h2⟩
    · exact .inl h
    · exact .inr ⟨xs, h, Nat.le_trans h1 hw, fun x hx => fitB_mono hw (by omega) (h2 x hx)⟩
theorem fitB_fit {w : Nat} : ∀ {k : Nat} {d : D}, fitB w k d → fit w k d
  | 0, d, h => by cases d <;> first | exact h.elim | exact trivial | exact h
  | k + 1, d, h => by
    rcases h with h | ⟨xs, h, h1, h2⟩
    · refine .inl ?_
      cases d <;> first | exact h.elim | exact trivial | exact h
    · exact .inr ⟨xs, h, h1, fun x hx => fitB_fit (h2 x hx)⟩
theorem fitB_shaped {w k : Nat} {d : D} (h : fitB w k d) (hk : k ≤ 64) : SeqAt.shaped d = true := fit_shaped (fitB_fit h) hk
end Pu

namespace W82
open PySem PySem.Spec PyProof.Rows L2 Pu Can
@[simp] theorem ok_less : okStr "less" = true := by decide +kernel
@[simp] theorem ok_1 : okStr "1" = true := by decide +kernel
theorem tk {ds : List D} {m : Int} (h : Pot ds) (h1 : 1 ≤ m) (h2 : m < 1000) : ∃ (q : Int) (es : List D), c__law_take [.ln (.list ds), .fr (.int m)] = some (.fr (.int q), [.ln (.list es), .no]) ∧ 0 ≤ q ∧ q < m ∧ Pot es := take_ok h ⟨h1, by omega⟩
theorem dAdd_tup {a b : List D} (h : a.length + b.length ≤ 1000) : dAdd (.tuple a) (.tuple b) = some (.tuple (a ++ b)) := by
  show (if a.length + b.length ≤ sizeLine then some (PyData.tuple (a ++ b)) else none) = _
  rw [if_pos (Nat.le_trans h (by decide))]
def odds : List D := [.none, .bool true, .bool false, .str "1", .int (-1), .int 0, .int 1, .int 2, .int 9, .tuple [], .tuple [.int 1], .list [.int 1], .tuple [.int 1, .int 2], .tuple [.int 2, .int 4], .str "less"]
theorem odds_fit : ∀ z ∈ odds, fitB 2 1 z := by
  intro z hz
  simp only [odds, List.mem_cons, List.not_mem_nil, or_false] at hz
  rcases hz with rfl | rfl | rfl | rfl | rfl | rfl | rfl | rfl | rfl | rfl | rfl | rfl | rfl | rfl | rfl <;> simp [fitB_tup, fitB_list]
set_option maxHeartbeats 0 in
theorem mutant_ok : ∀ (m : Nat) (e : Int) (w k : Nat) (v : D) (ds : List D), 0 ≤ e → e < m → 2 ≤ w → w ≤ 300 → k ≤ 64 → fitB w k v → Pot ds →
    ∃ r es, ci__law_mutant m [.ln (.list ds), .fr v, .fr (.int e)] = some (r, [.ln (.list es), .no, .no]) ∧ Pot es ∧ fitB (2 * w + 1) (k + 1) r.d
  | 0, e, w, k, v, ds, h1, h2, _, _, _, _, _ => by omega
  | m + 1, e, w, k, v, ds, h1, h2, hw, hw3, hk, hv, hp => by
    obtain ⟨q1, d1, e1, a1, b1, p1⟩ := tk hp (m := 15) (by omega) (by omega)
    obtain ⟨z, hz, hzm⟩ := atI_in (xs := odds) a1 (by simpa [odds] using b1)
    have fz : fitB (2 * w + 1) (k + 1) z := fitB_mono (by omega) (by omega) (odds_fit z hzm)
    unfold odds at hz
    have hnil : dEq false v (.tuple []) = some (.bool (isNil v)) := dEq_nil v (fitB_shaped hv hk)
    by_cases ht : tTup v = true
    · obtain ⟨xs, rfl⟩ : ∃ xs, v = .tuple xs := by cases v <;> simp at ht; exact ⟨_, rfl⟩
      obtain _ | k := k
      · exact (fitB_tup0 hv).elim
      obtain ⟨hl, hx⟩ := fitB_tup.mp hv
      cases xs with
      | nil => exact ⟨.fr z, d1, by simp [ci__law_mutant, cr__law_mutant, e1, hz, hnil, isNil], p1, fz⟩
      | cons x r =>
        by_cases he : e = 0
        · exact ⟨.fr z, d1, by simp [ci__law_mutant, cr__law_mutant, e1, hz, hnil, isNil, he], p1, fz⟩
        · obtain ⟨q2, d2, e2, a2, b2, p2⟩ := tk p1 (m := 8) (by omega) (by omega)
          by_cases hq2 : q2 = 0
          · exact ⟨.fr z, d2, by simp [ci__law_mutant, cr__law_mutant, e1, e2, hq2, hz, hnil, isNil, he], p2, fz⟩
          · simp only [List.length_cons] at hl
            obtain ⟨q3, d3, e3, a3, b3, p3⟩ := tk p2 (m := ((x :: r).length : Int)) (by simp only [List.length_cons]; omega) (by simp only [List.length_cons]; omega)
            obtain ⟨q4, d4, e4, a4, b4, p4⟩ := tk p3 (m := 12) (by omega) (by omega)
            obtain ⟨y, hy, hym⟩ := atI_in (xs := x :: r) a3 b3
            have lc : ∀ lo hi, (cutD (x :: r) lo hi).length ≤ w := fun lo hi => Nat.le_trans cut_le (by simpa using hl)
            have fc : ∀ lo hi, ∀ y ∈ cutD (x :: r) lo hi, fitB (2 * w + 1) (k + 1) y := fun lo hi y hy => fitB_mono (by omega) (by omega) (hx y (cut_mem hy))
            have fx : ∀ y ∈ x :: r, fitB (2 * w + 1) (k + 1) y := fun y hy => fitB_mono (by omega) (by omega) (hx y hy)
            have fz1 : fitB (2 * w + 1) (k + 1) z := fitB_mono (by omega) (by omega) (odds_fit z hzm)
            simp only [List.length_cons, Int.natCast_add, Int.cast_ofNat_Int] at e3
            by_cases hq7 : q4 < 7
            · obtain ⟨t, d5, e5, p5, f5⟩ := mutant_ok m (e - 1) w k y d4 (by omega) (by omega) hw hw3 (by omega) (hx y hym) p4
              refine ⟨.fr (.tuple (cutD (x :: r) none (some q3) ++ [t.d] ++ cutD (x :: r) (some (q3 + 1)) none)), d5, ?_, p5, fitB_tup.mpr ⟨?_, ?_⟩⟩
              · have l1 := lc none (some q3)
                have l2 := lc (some (q3 + 1)) none
                have s1 : dAdd (.tuple (cutD (x :: r) none (some q3))) (.tuple [t.d]) = some (.tuple (cutD (x :: r) none (some q3) ++ [t.d])) := dAdd_tup (by simp; omega)
                have s2 : dAdd (.tuple (cutD (x :: r) none (some q3) ++ [t.d])) (.tuple (cutD (x :: r) (some (q3 + 1)) none)) = some (.tuple (cutD (x :: r) none (some q3) ++ [t.d] ++ cutD (x :: r) (some (q3 + 1)) none)) := dAdd_tup (by simp; omega)
                simp only [List.append_assoc] at s2
                simp [ci__law_mutant, cr__law_mutant, e1, e2, e3, e4, e5, hq2, hz, hnil, isNil, he, hy, hq7, s1, s2]
              · have l1 := lc none (some q3)
                have l2 := lc (some (q3 + 1)) none
                simp; omega
              · intro u hu
                simp only [List.mem_append, List.mem_singleton] at hu
                rcases hu with (hu | rfl) | hu
                · exact fc _ _ u hu
                · exact f5
                · exact fc _ _ u hu
            · have l0 : (x :: r).length ≤ w := by simpa using hl
              by_cases h7 : q4 = 7
              · exact ⟨.nw (.list (x :: r)), d4, by simp [ci__law_mutant, cr__law_mutant, e1, e2, e3, e4, hq2, hz, hnil, isNil, he, h7], p4, fitB_list.mpr ⟨by omega, fx⟩⟩
              by_cases h8 : q4 = 8
              · have s1 : dAdd (.tuple (x :: r)) (.tuple [z]) = some (.tuple (x :: r ++ [z])) := dAdd_tup (by simp at l0 ⊢; omega)
                refine ⟨.fr (.tuple (x :: r ++ [z])), d4, ?_, p4, fitB_tup.mpr ⟨by simp at l0 ⊢; omega, ?_⟩⟩
                · simp only [List.cons_append] at s1
                  simp [ci__law_mutant, cr__law_mutant, e1, e2, e3, e4, hq2, hz, hnil, isNil, he, h8, s1]
                · intro u hu
                  simp only [List.mem_append, List.mem_singleton] at hu
                  rcases hu with hu | rfl
                  · exact fx u hu
                  · exact fz1
              by_cases h9 : q4 = 9
              · have l1 := lc none (some q3)
                have l2 := lc (some (q3 + 1)) none
                have s1 : dAdd (.tuple (cutD (x :: r) none (some q3))) (.tuple (cutD (x :: r) (some (q3 + 1)) none)) = some (.tuple (cutD (x :: r) none (some q3) ++ cutD (x :: r) (some (q3 + 1)) none)) := dAdd_tup (by omega)
                refine ⟨.fr (.tuple (cutD (x :: r) none (some q3) ++ cutD (x :: r) (some (q3 + 1)) none)), d4, ?_, p4, fitB_tup.mpr ⟨by simp; omega, ?_⟩⟩
                · simp [ci__law_mutant, cr__law_mutant, e1, e2, e3, e4, hq2, hz, hnil, isNil, he, h9, s1]
                · intro u hu
                  simp only [List.mem_append] at hu
                  rcases hu with hu | hu
                  · exact fc _ _ u hu
                  · exact fc _ _ u hu
              by_cases h10 : q4 = 10
              · refine ⟨.fr (.tuple (x :: r).reverse), d4, ?_, p4, fitB_tup.mpr ⟨by rw [List.length_reverse]; omega, fun u hu => fx u (List.mem_reverse.mp hu)⟩⟩
                simp [ci__law_mutant, cr__law_mutant, e1, e2, e3, e4, hq2, hz, hnil, isNil, he, h10]
              · have l1 := lc (some q3) (some (q3 + 1))
                have s1 : dAdd (.tuple (x :: r)) (.tuple (cutD (x :: r) (some q3) (some (q3 + 1)))) = some (.tuple (x :: r ++ cutD (x :: r) (some q3) (some (q3 + 1)))) := dAdd_tup (by omega)
                refine ⟨.fr (.tuple (x :: r ++ cutD (x :: r) (some q3) (some (q3 + 1)))), d4, ?_, p4, fitB_tup.mpr ⟨by rw [List.length_append]; omega, ?_⟩⟩
                · simp only [List.cons_append] at s1
                  simp [ci__law_mutant, cr__law_mutant, e1, e2, e3, e4, hq2, hz, hnil, isNil, he, hq7, h7, h8, h9, h10, s1]
                · intro u hu
                  simp only [List.mem_append] at hu
                  rcases hu with hu | hu
                  · exact fx u hu
                  · exact fc _ _ u hu
    · have ht' : tTup v = false := by simpa using ht
      exact ⟨.fr z, d1, by simp [ci__law_mutant, cr__law_mutant, e1, hz, hnil, ht'], p1, fz⟩
def gw : Nat → Nat → Nat
  | w, 0 => w
  | w, j + 1 => gw (2 * w + 1) j
theorem gw_le : ∀ (j w : Nat), w ≤ gw w j
  | 0, w => Nat.le_refl _
  | j + 1, w => Nat.le_trans (by omega) (gw_le j (2 * w + 1))
theorem near_run : ∀ (qs : List D) (w k : Nat) (v : D) (ds : List D) (s : Sl), 2 ≤ w → gw w qs.length ≤ 300 → k + qs.length ≤ 64 → fitB w k v → Pot ds → (s = .no ∨ ∃ d, s = .fr d) →
    ∃ u es t, forL (gN 2) (cSet 1 (frz (cCall c__law_mutant [0] (cCons (cVar 1) (cCons (cC (.int 3)) cNil))))) qs [.ln (.list ds), .fr v, s] = some (.nx, [.ln (.list es), .fr u, t]) ∧ Pot es ∧ fitB (gw w qs.length) (k + qs.length) u
  | [], w, k, v, ds, s, _, _, _, hv, hp, _ => ⟨v, ds, s, by simp [forL], hp, hv⟩
  | q :: qs, w, k, v, ds, s, hw, hg, hk, hv, hp, hs => by
    simp only [List.length_cons] at hk hg
    have hgw : 2 * w + 1 ≤ gw (2 * w + 1) qs.length := gw_le _ _
    have hg' : gw (2 * w + 1) qs.length ≤ 300 := hg
    obtain ⟨r, d1, e1, p1, f1⟩ := mutant_ok 60 3 w k v ds (by omega) (by omega) hw (by omega) (by omega) hv hp
    have e2 : c__law_mutant [.ln (.list ds), .fr v, .fr (.int 3)] = some (r, [.ln (.list d1), .no, .no]) := e1
    obtain ⟨u, es, t, k1, k2, k3⟩ := near_run qs (2 * w + 1) (k + 1) r.d d1 (.fr q) (by omega) hg' (by omega) f1 p1 (.inr ⟨q, rfl⟩)
    refine ⟨u, es, t, ?_, k2, ?_⟩
    · simp only [ev_45] at k1
      unfold forL
      rcases hs with rfl | ⟨d, rfl⟩ <;> simp [e2, k1]
    · have : k + 1 + qs.length = k + (qs.length + 1) := by omega
      rw [this] at k3
      exact k3
theorem near_ok (k : Nat) (v : D) (ds : List D) (hk : k ≤ 40) (hv : fitB 12 k v) (hp : Pot ds) : ∃ u es, c__law_near [.ln (.list ds), .fr v] = some (.fr u, [.ln (.list es), .no]) ∧ Pot es ∧ fitB 200 (k + 3) u := by
  obtain ⟨q, d1, e1, a1, b1, p1⟩ := tk hp (m := 4) (by omega) (by omega)
  have hl : (rngD 0 q.toNat).length ≤ 3 := by rw [rng_len]; omega
  have hg : gw 12 (rngD 0 q.toNat).length ≤ gw 12 3 := by
    have : ∀ j, j ≤ 3 → gw 12 j ≤ gw 12 3 := by decide
    exact this _ hl
  have h3 : gw 12 3 = 103 := by decide
  obtain ⟨u, es, t, e2, p2, f2⟩ := near_run (rngD 0 q.toNat) 12 k v d1 .no (by omega) (by omega) (by omega) hv p1 (.inl rfl)
  refine ⟨u, es, ?_, p2, fitB_mono (by omega) (by omega) f2⟩
  have hr : (-4611686018427387904 ≤ q) := by omega
  have hr2 : (q < 4611686018427387904) := by omega
  simp only [ev_45] at e2
  simp [c__law_near, e1, hr, hr2, e2]
end W82

namespace W82
open PySem PySem.Spec PyProof.Rows L2 Pu Can
/-- a comprehension whose test draws: some of what is walked -/
theorem lcL_sub {g : CG} {cond : CT} {elt : CE} {vs : List Nat} {I : En → Prop} : ∀ (ds acc : List D) (Γ : En), I Γ → (∀ d ∈ ds, ∀ Γ, I Γ → ∃ Γ1, g d Γ = some Γ1 ∧ ∃ b Γ2, cond Γ1 = some (b, Γ2) ∧ (b = false → I (wipeG Γ2 vs)) ∧ (b = true → ∃ Γ3, elt Γ2 = some (d, Γ3) ∧ I (wipeG Γ3 vs))) → acc.length + ds.length ≤ sizeLine →
    ∃ zs Γ', lcL g cond elt vs ds acc Γ = some (acc ++ zs, Γ') ∧ I Γ' ∧ zs.Sublist ds
  | [], acc, Γ, hI, _, _ => ⟨[], Γ, by simp [lcL], hI, .slnil⟩
  | d :: ds, acc, Γ, hI, h, hz => by
    obtain ⟨Γ1, h1, b, Γ2, h2, h3, h4⟩ := h d (by simp) Γ hI
    simp only [List.length_cons] at hz
    unfold lcL
    simp only [h1, Option.bind_some, h2]
    cases b with
    | false =>
      obtain ⟨zs, Γ', k1, k2, k3⟩ := lcL_sub ds acc _ (h3 rfl) (fun x hx => h x (by simp [hx])) (by omega)
      exact ⟨zs, Γ', by simp only [Bool.false_eq_true, if_false]; exact k1, k2, k3.cons d⟩
    | true =>
      obtain ⟨Γ3, h5, h6⟩ := h4 rfl
      obtain ⟨zs, Γ', k1, k2, k3⟩ := lcL_sub ds (acc ++ [d]) _ h6 (fun x hx => h x (by simp [hx])) (by simp; omega)
      refine ⟨d :: zs, Γ', ?_, k2, k3.cons₂ d⟩
      simp only [if_true, h5, Option.bind_some]
      rw [if_pos (by omega), k1]
      simp
theorem sub_ints {lo : Int} {n : Nat} {zs : List D} (h : zs.Sublist (rngD lo n)) : ∃ ns, zs = intL ns ∧ ns.Pairwise (· < ·) ∧ ∀ x ∈ ns, lo ≤ x ∧ x < lo + n := by
  rw [rngD_ints] at h
  unfold intL at h
  obtain ⟨ns, h1, h2⟩ := List.sublist_map_iff.mp h
  exact ⟨ns, h2, rngI_lt.sublist h1, fun x hx => rngI_mem.mp (h1.subset hx)⟩
theorem drawn_part {lo hi : Int} (hlo : -100 ≤ lo) (hlh : lo ≤ hi) (hhi : hi ≤ 100) (m low high : D) (s4 : Sl) {ds : List D} (hp : Pot ds) :
    ∃ ns es, cCb fTuple [(.e (frz (cLc [7] (cRng2 (cCons (cVar 5) (cCons (cVar 6) cNil))) (gN 7) (cB (cOp (dEq false) (.e (frz (cCall c__law_take [0] (cCons (cC (.int 2)) cNil)))) (.e (cC (.int 0))))) (cVar 7))))]
      [.ln (.list ds), .fr m, .fr low, .fr high, .no, .fr (.int lo), .fr (.int hi), .no] = some (.tuple (intL ns), [.ln (.list es), .fr m, .fr low, .fr high, .no, .fr (.int lo), .fr (.int hi), .no]) ∧ Pot es ∧ ns.Pairwise (· < ·) ∧ ∀ x ∈ ns, lo ≤ x ∧ x < hi := by
  obtain ⟨zs, Γ', k1, ⟨es, h1, rfl⟩, k3⟩ := lcL_sub (g := gN 7) (cond := (cB (cOp (dEq false) (.e (frz (cCall c__law_take [0] (cCons (cC (.int 2)) cNil)))) (.e (cC (.int 0)))))) (elt := cVar 7) (vs := [7])
    (I := fun Γ => ∃ es, Pot es ∧ Γ = [.ln (.list es), .fr m, .fr low, .fr high, .no, .fr (.int lo), .fr (.int hi), .no]) (rngD lo (hi - lo).toNat) [] _ ⟨ds, hp, rfl⟩ (by
      rintro d hd Γ ⟨es, hes, rfl⟩
      obtain ⟨q, d1, e1, a1, b1, p1⟩ := tk hes (m := 2) (by omega) (by omega)
      refine ⟨_, by simp; rfl, decide (q = 0), [.ln (.list d1), .fr m, .fr low, .fr high, .no, .fr (.int lo), .fr (.int hi), .fr d], by simp [e1], fun _ => ⟨d1, p1, by simp⟩, fun _ => ⟨_, by simp; rfl, d1, p1, by simp⟩⟩) (by rw [rng_len]; exact small_sz (by simp; omega))
  obtain ⟨ns, rfl, n1, n2⟩ := sub_ints k3
  have r1 : (-4611686018427387904 ≤ lo) := by omega
  have r2 : (lo < 4611686018427387904) := by omega
  have r3 : (-4611686018427387904 ≤ hi) := by omega
  have r4 : (hi < 4611686018427387904) := by omega
  refine ⟨ns, es, ?_, h1, n1, fun x hx => ⟨(n2 x hx).1, by have := n2 x hx; omega⟩⟩
  simp [r1, r2, r3, r4, k1]
theorem lcL_one {g : CG} {elt : CE} {vs : List Nat} {d z : D} {ds acc : List D} {Γ Γ1 Γ2 : En} (h1 : g d Γ = some Γ1) (h2 : elt Γ1 = some (z, Γ2)) (h : acc.length < sizeLine) : lcL g cYes elt vs (d :: ds) acc Γ = lcL g cYes elt vs ds (acc ++ [z]) (wipeG Γ2 vs) := by
  conv => lhs; unfold lcL
  simp only [h1, Option.bind_some, cYes, if_true, h2]
  rw [if_pos h]
theorem small_set {ds : List D} (hp : Pot ds) : ∃ (S : Can.St) (es : List D), c__law_small_set [.ln (.list ds)] = some (.fr (stD S), [.ln (.list es)]) ∧ Pot es ∧ Ok S ∧ S.m ≤ 6 ∧ -8 ≤ S.lo ∧ S.hi ≤ 11 ∧ S.hi - S.lo ≤ 7 := by
  obtain ⟨q1, d1, e1, a1, b1, p1⟩ := tk hp (m := 5) (by omega) (by omega)
  obtain ⟨zm, hz, hzm⟩ := atI_in (xs := [PyData.int 1, .int 2, .int 3, .int 4, .int 6]) a1 (by simpa using b1)
  obtain ⟨m, rfl, m1, m2⟩ : ∃ m : Int, zm = .int m ∧ 1 ≤ m ∧ m ≤ 6 := by
    simp at hzm
    rcases hzm with rfl | rfl | rfl | rfl | rfl <;> exact ⟨_, rfl, by omega, by omega⟩
  obtain ⟨q2, d2, e2, a2, b2, p2⟩ := tk p1 (m := 13) (by omega) (by omega)
  obtain ⟨q3, d3, e3, a3, b3, p3⟩ := tk p2 (m := 8) (by omega) (by omega)
  obtain ⟨L, d4, e4, p4, L1, L2⟩ := drawn_part (lo := 0) (hi := m) (by omega) (by omega) (by omega) (.int m) (.int (q2 - 8)) (.int (q2 - 8 + q3)) .no p3
  obtain ⟨M, d5, e5, p5, M1, M2⟩ := drawn_part (lo := q2 - 8) (hi := q2 - 8 + q3) (by omega) (by omega) (by omega) (.int m) (.int (q2 - 8)) (.int (q2 - 8 + q3)) .no p4
  obtain ⟨R, d6, e6, p6, R1, R2⟩ := drawn_part (lo := 0) (hi := m) (by omega) (by omega) (by omega) (.int m) (.int (q2 - 8)) (.int (q2 - 8 + q3)) .no p5
  refine ⟨⟨m, L, q2 - 8, q2 - 8 + q3, M, R⟩, d6, ?_, p6, ⟨m1, by show q2 - 8 ≤ q2 - 8 + q3; omega, L1, L2, M1, M2, R1, R2⟩, m2, by show -8 ≤ q2 - 8; omega, by show q2 - 8 + q3 ≤ 11; omega, by show q2 - 8 + q3 - (q2 - 8) ≤ 7; omega⟩
  have run : lcL (gT (gCons2 (gN 5) (gCons2 (gN 6) gNil2))) cYes (cCb fTuple [(.e (frz (cLc [7] (cRng2 (cCons (cVar 5) (cCons (cVar 6) cNil))) (gN 7) (cB (cOp (dEq false) (.e (frz (cCall c__law_take [0] (cCons (cC (.int 2)) cNil)))) (.e (cC (.int 0))))) (cVar 7))))]) [5, 6]
      [.tuple [.int 0, .int m], .tuple [.int (q2 - 8), .int (q2 - 8 + q3)], .tuple [.int 0, .int m]] [] [.ln (.list d3), .fr (.int m), .fr (.int (q2 - 8)), .fr (.int (q2 - 8 + q3)), .no, .no, .no, .no] =
      some ([.tuple (intL L), .tuple (intL M), .tuple (intL R)], [.ln (.list d6), .fr (.int m), .fr (.int (q2 - 8)), .fr (.int (q2 - 8 + q3)), .no, .no, .no, .no]) := by
    rw [lcL_one (Γ1 := [.ln (.list d3), .fr (.int m), .fr (.int (q2 - 8)), .fr (.int (q2 - 8 + q3)), .no, .fr (.int 0), .fr (.int m), .no]) (by simp) e4 (by simp)]
    rw [show wipeG [.ln (.list d4), .fr (.int m), .fr (.int (q2 - 8)), .fr (.int (q2 - 8 + q3)), .no, .fr (.int 0), .fr (.int m), .no] [5, 6] = [.ln (.list d4), .fr (.int m), .fr (.int (q2 - 8)), .fr (.int (q2 - 8 + q3)), .no, .no, .no, .no] by simp]
    rw [lcL_one (Γ1 := [.ln (.list d4), .fr (.int m), .fr (.int (q2 - 8)), .fr (.int (q2 - 8 + q3)), .no, .fr (.int (q2 - 8)), .fr (.int (q2 - 8 + q3)), .no]) (by simp) e5 (by simp)]
    rw [show wipeG [.ln (.list d5), .fr (.int m), .fr (.int (q2 - 8)), .fr (.int (q2 - 8 + q3)), .no, .fr (.int (q2 - 8)), .fr (.int (q2 - 8 + q3)), .no] [5, 6] = [.ln (.list d5), .fr (.int m), .fr (.int (q2 - 8)), .fr (.int (q2 - 8 + q3)), .no, .no, .no, .no] by simp]
    rw [lcL_one (Γ1 := [.ln (.list d5), .fr (.int m), .fr (.int (q2 - 8)), .fr (.int (q2 - 8 + q3)), .no, .fr (.int 0), .fr (.int m), .no]) (by simp) e6 (by simp)]
    simp [lcL]
  simp [c__law_small_set, e1, hz, e2, e3, run, stD]
end W82

namespace W82
open PySem PySem.Spec PyProof.Rows L2 Pu Can
theorem inR_all {lo hi : Int} {ns : List Int} : ns.all (inR lo hi) = true ↔ ∀ n ∈ ns, lo ≤ n ∧ n < hi := by
  rw [List.all_eq_true]
  constructor
  · intro h n hn
    have := h n hn
    unfold inR at this
    rw [Bool.and_eq_true, decide_eq_true_eq, decide_eq_true_eq] at this
    exact this
  · intro h n hn
    unfold inR
    rw [Bool.and_eq_true, decide_eq_true_eq, decide_eq_true_eq]
    exact h n hn
theorem asc_is {lo hi : Int} {d : D} : asc lo hi d = true ↔ ∃ ns, d = .tuple (intL ns) ∧ ns.Pairwise (· < ·) ∧ ∀ n ∈ ns, lo ≤ n ∧ n < hi := by
  constructor
  · intro h
    obtain ⟨xs, rfl⟩ : ∃ xs, d = .tuple xs := by cases d <;> first | exact ⟨_, rfl⟩ | cases h
    have hz : xs.all isZ = true := by
      cases hz : xs.all isZ with
      | true => rfl
      | false => simp only [asc, hz, Bool.false_and] at h; cases h
    obtain ⟨ns, rfl⟩ := rowZ_ints hz
    rw [asc_ints, Bool.and_eq_true, inR_all, ascR_lt] at h
    exact ⟨ns, rfl, h.2, h.1⟩
  · rintro ⟨ns, rfl, h1, h2⟩
    rw [asc_ints, Bool.and_eq_true, inR_all, ascR_lt]
    exact ⟨h2, h1⟩
theorem isSet_stD {S : Can.St} (k : Ok S) : isSet (stD S) = true := by
  have a1 : asc 0 S.m (.tuple (intL S.L)) = true := asc_is.mpr ⟨_, rfl, k.Ls, k.Lr⟩
  have a2 : asc 0 S.m (.tuple (intL S.R)) = true := asc_is.mpr ⟨_, rfl, k.Rs, k.Rr⟩
  have a3 : asc S.lo S.hi (.tuple (intL S.M)) = true := asc_is.mpr ⟨_, rfl, k.Ms, k.Mr⟩
  have m1 := k.m1
  have lh := k.lh
  show (isZ (.int S.m) && (isZ (.int S.lo) && (isZ (.int S.hi) && (decide (1 ≤ S.m) && (decide (S.lo ≤ S.hi) && (asc 0 S.m (.tuple (intL S.L)) && (asc 0 S.m (.tuple (intL S.R)) && asc S.lo S.hi (.tuple (intL S.M))))))))) = true
  rw [a1, a2, a3, decide_eq_true m1, decide_eq_true lh]
  rfl
theorem isSet_is {d : D} (h : isSet d = true) : ∃ S, d = stD S ∧ Ok S := by
  unfold isSet at h
  split at h
  · rename_i m l lo hi mi r
    simp only [Bool.and_eq_true, decide_eq_true_eq] at h
    obtain ⟨z1, z2, z3, h1, h2, a1, a2, a3⟩ := h
    obtain ⟨m, rfl⟩ := isZ_int z1
    obtain ⟨lo, rfl⟩ := isZ_int z2
    obtain ⟨hi, rfl⟩ := isZ_int z3
    obtain ⟨L, rfl, L1, L2⟩ := asc_is.mp a1
    obtain ⟨R, rfl, R1, R2⟩ := asc_is.mp a2
    obtain ⟨M, rfl, M1, M2⟩ := asc_is.mp a3
    exact ⟨⟨m, L, lo, hi, M, R⟩, rfl, ⟨h1, h2, L1, L2, M1, M2, R1, R2⟩⟩
  · cases h
/-- an ascending list within a stretch is no longer than it -/
theorem len_in : ∀ {ns : List Int} {lo hi : Int}, ns.Pairwise (· < ·) → (∀ n ∈ ns, lo ≤ n ∧ n < hi) → lo ≤ hi → (ns.length : Int) ≤ hi - lo
  | [], lo, hi, _, _, h => by simp; omega
  | n :: ns, lo, hi, h1, h2, h => by
    obtain ⟨p1, p2⟩ := List.pairwise_cons.mp h1
    obtain ⟨q1, q2⟩ := h2 n List.mem_cons_self
    have := len_in (ns := ns) (lo := n + 1) (hi := hi) p2 (fun x hx => ⟨by have := p1 x hx; omega, (h2 x (List.mem_cons_of_mem _ hx)).2⟩) (by omega)
    simp only [List.length_cons]
    omega
theorem few_of {S : Can.St} (k : Ok S) (hm : S.m ≤ 60) (h1 : -10000 ≤ S.lo) (h2 : S.hi ≤ 10000) : Few S where
  m := hm
  lo := h1
  hi := h2
  L := by have := len_in k.Ls k.Lr (by have := k.m1; omega); omega
  R := by have := len_in k.Rs k.Rr (by have := k.m1; omega); omega
theorem fitB_few {w j : Nat} {S : Can.St} (k : Ok S) (h : fitB w j (stD S)) : Few S := by
  obtain _ | j := j
  · exact (fitB_tup0 h).elim
  obtain ⟨_, hx⟩ := fitB_tup.mp h
  have a1 := fitB_int.mp (hx (.int S.m) (by simp))
  have a2 := fitB_int.mp (hx (.int S.lo) (by simp))
  have a3 := fitB_int.mp (hx (.int S.hi) (by simp))
  exact few_of k (by omega) (by omega) (by omega)
theorem stD_fitB {w : Nat} {S : Can.St} (k : Ok S) (hm : S.m ≤ 40) (h1 : -40 ≤ S.lo) (h2 : S.hi ≤ 40) (w1 : S.m ≤ w) (w2 : S.hi - S.lo ≤ w) (w3 : 6 ≤ w) : fitB w 2 (stD S) := by
  have m1 := k.m1
  have lh := k.lh
  have row : ∀ ns : List Int, (ns.length : Int) ≤ w → (∀ n ∈ ns, -40 ≤ n ∧ n ≤ 40) → fitB w 1 (.tuple (intL ns)) := fun ns h1 h2 => fitB_tup.mpr ⟨by rw [len_intL]; omega, fun x hx => by
    obtain ⟨n, hn, rfl⟩ := List.mem_map.mp hx
    exact fitB_int.mpr (h2 n hn)⟩
  have l1 := len_in k.Ls k.Lr (by omega)
  have l2 := len_in k.Rs k.Rr (by omega)
  have l3 := len_in k.Ms k.Mr (by omega)
  have b1 := row S.L (by omega) (fun n hn => by have := k.Lr n hn; omega)
  have b2 := row S.R (by omega) (fun n hn => by have := k.Rr n hn; omega)
  have b3 := row S.M (by omega) (fun n hn => by have := k.Mr n hn; omega)
  refine fitB_tup.mpr ⟨by simp; omega, fun x hx => ?_⟩
  simp only [List.mem_cons, List.not_mem_nil, or_false] at hx
  rcases hx with rfl | rfl | rfl | rfl | rfl | rfl
  · exact fitB_int.mpr ⟨by omega, by omega⟩
  · exact b1
  · exact fitB_int.mpr ⟨by omega, by omega⟩
  · exact fitB_int.mpr ⟨by omega, by omega⟩
  · exact b3
  · exact b2
theorem lst_bounds {S : Can.St} (k : Ok S) : (lst S).m ≤ S.m ∧ min 0 (S.lo - S.m) ≤ (lst S).lo ∧ (lst S).hi ≤ max 0 (S.hi + S.m) ∧ (lst S).hi - (lst S).lo ≤ S.hi - S.lo := by
  have z := size_prog k
  have s1 := z.s1
  have m1 := k.m1
  have lh := k.lh
  have s2 : lcmI (leastRound S.m S.L) (leastRound S.m S.R) ≤ S.m := Int.le_of_dvd (by omega) z.dv
  unfold lst
  generalize hsz : lcmI (leastRound S.m S.L) (leastRound S.m S.R) = size at z s1 s2
  cases hf : firsts (has S) S.lo S.hi size (rem size S.L) with
  | nil =>
    have hc : leastC S size = ⟨size, rem size S.L, 0, 0, [], rem size S.R⟩ := by unfold leastC; rw [hf]
    rw [hc]
    exact ⟨s2, by show _ ≤ (0 : Int); omega, by show (0 : Int) ≤ _; omega, by show (0 : Int) - 0 ≤ _; omega⟩
  | cons f t =>
    obtain ⟨u, l, hl⟩ := lasts_some k z hf
    obtain ⟨g1, g2, _, _⟩ := first_is hf
    obtain ⟨g3, g4, _, _⟩ := last_is hl
    have hc : leastC S size = if l + 1 ≤ f then ⟨size, rem size S.L, cutAt (l + 1) f, cutAt (l + 1) f, [], rem size S.R⟩ else ⟨size, rem size S.L, f, l + 1, (rngI f (l + 1 - f).toNat).filter fun n => has S n, rem size S.R⟩ := by unfold leastC; rw [hf, hl, List.getLast?_concat]
    rw [hc]
    split
    · have c1 : l + 1 ≤ cutAt (l + 1) f := by unfold cutAt; omega
      have c2 : cutAt (l + 1) f ≤ f := by unfold cutAt; omega
      exact ⟨s2, by show _ ≤ cutAt (l + 1) f; omega, by show cutAt (l + 1) f ≤ _; omega, by show cutAt (l + 1) f - cutAt (l + 1) f ≤ _; omega⟩
    · exact ⟨s2, by show _ ≤ f; omega, by show l + 1 ≤ _; omega, by show l + 1 - f ≤ _; omega⟩
end W82

namespace W82
open PySem PySem.Spec PyProof.Rows L2 Pu Can
def pairs (xs : List Int) (k : Int) : List D := xs.map fun a => .tuple [.int a, .int k]
theorem pairs_len (xs : List Int) (k : Int) : (pairs xs k).length = xs.length := by simp [pairs]
theorem pairs_run {xs : List Int} {k : Int} {s2 : D} (hl : xs.length ≤ 1000) (y : D) : lcL (gN 4) cYes (cTup (cCons (cVar 4) (cCons (cVar 3) cNil))) [4] (intL xs) [] [.fr (.tuple (intL xs)), .fr y, .fr s2, .fr (.int k), .no] = some (pairs xs k, [.fr (.tuple (intL xs)), .fr y, .fr s2, .fr (.int k), .no]) := by
  have e := lcL_map (g := gN 4) (elt := (cTup (cCons (cVar 4) (cCons (cVar 3) cNil)))) (vs := [4]) (Γ := [.fr (.tuple (intL xs)), .fr y, .fr s2, .fr (.int k), .no]) (f := fun d => .tuple [d, .int k]) (intL xs) [] (fun d hd => ⟨_, by simp; rfl, [.fr (.tuple (intL xs)), .fr y, .fr s2, .fr (.int k), .fr d], by simp, by simp⟩) (by rw [len_intL]; exact small_sz (by simp; omega))
  rw [e]
  simp [pairs, intL, List.map_map, Function.comp_def]
theorem dAdd_lst {a b : List D} (h : a.length + b.length ≤ 100000) : dAdd (.list a) (.list b) = some (.list (a ++ b)) := by
  show (if a.length + b.length ≤ sizeLine then some (PyData.list (a ++ b)) else none) = _
  rw [if_pos (small_sz h)]
theorem r_pairs {xs : List Int} (hl : xs.length ≤ 1000) : c__law_pairs [.fr (.tuple (intL xs)), .fr (.int 1)] = some (.fr (.list (pairs xs 0)), [.no, .no]) ∧ c__law_pairs [.fr (.tuple (intL xs)), .fr (.int 2)] = some (.fr (.list (pairs xs 0 ++ pairs xs 1)), [.no, .no]) := by
  have p1 := fun y s2 => pairs_run (k := 0) (s2 := s2) hl y
  have p2 := fun y s2 => pairs_run (k := 1) (s2 := s2) hl y
  have a1 := dAdd_lst (a := []) (b := pairs xs 0) (by rw [pairs_len]; simp; omega)
  have a2 := dAdd_lst (a := pairs xs 0) (b := pairs xs 1) (by rw [pairs_len, pairs_len]; omega)
  have r1 : rngD 0 1 = [.int 0] := rfl
  have r2 : rngD 0 2 = [.int 0, .int 1] := rfl
  simp only [List.nil_append] at a1
  constructor
  · simp [c__law_pairs, r1, forL, p1, a1]
  · simp [c__law_pairs, r2, forL, p1, p2, a1, a2]
/-- a part with so many rounds -/
def manyR (by' m : Int) (L : List Int) : List Int := if by' = 1 then L else L ++ L.map fun a => a + m
theorem manyR_lt {b m : Int} {L : List Int} (h : L.Pairwise (· < ·)) (hr : ∀ a ∈ L, 0 ≤ a ∧ a < m) : (manyR b m L).Pairwise (· < ·) := by
  unfold manyR
  split
  · exact h
  · refine List.pairwise_append.mpr ⟨h, ?_, fun x hx y hy => ?_⟩
    · rw [List.pairwise_map]; exact h.imp fun q => by omega
    · obtain ⟨z, hz, rfl⟩ := List.mem_map.mp hy
      have := hr x hx
      have := hr z hz
      omega
theorem manyR_range {b m : Int} {L : List Int} (hb : b = 1 ∨ b = 2) (hm : 1 ≤ m) (hr : ∀ a ∈ L, 0 ≤ a ∧ a < m) : ∀ a ∈ manyR b m L, 0 ≤ a ∧ a < m * b := by
  intro a ha
  unfold manyR at ha
  rcases hb with rfl | rfl
  · rw [if_pos rfl] at ha
    have := hr a ha
    omega
  · rw [if_neg (by omega), List.mem_append] at ha
    rcases ha with ha | ha
    · have := hr a ha
      omega
    · obtain ⟨z, hz, rfl⟩ := List.mem_map.mp ha
      have := hr z hz
      omega
theorem manyR_pat {b m : Int} {L : List Int} (hb : b = 1 ∨ b = 2) (hm : 1 ≤ m) (hr : ∀ a ∈ L, 0 ≤ a ∧ a < m) (n : Int) : pat (m * b) (manyR b m L) n = pat m L n := by
  unfold pat manyR
  rcases hb with rfl | rfl
  · rw [if_pos rfl, Int.mul_one]
  · rw [if_neg (by omega)]
    refine decide_eq_decide.mpr ?_
    have r0 : 0 ≤ n % (m * 2) := Int.emod_nonneg n (by omega)
    have r1 : n % (m * 2) < m * 2 := Int.emod_lt_of_pos n (by omega)
    have e : n % m = n % (m * 2) % m := (Int.emod_emod_of_dvd n (Int.dvd_mul_right m 2)).symm
    generalize n % (m * 2) = r at r0 r1 e
    rw [e, List.mem_append, List.mem_map]
    by_cases h : r < m
    · rw [Int.emod_eq_of_lt r0 h]
      constructor
      · rintro (q | ⟨a, ha, q⟩)
        · exact q
        · have := hr a ha; omega
      · exact .inl
    · have e2 : r % m = r - m := by
        rw [show r = (r - m) + m by omega, Int.add_emod_right, Int.emod_eq_of_lt (by omega) (by omega)]
        omega
      rw [e2]
      constructor
      · rintro (q | ⟨a, ha, q⟩)
        · have := hr r q; omega
        · rw [show r - m = a by omega]; exact ha
      · intro q; exact .inr ⟨r - m, q, by omega⟩
def wideS (S : Can.St) (b far near : Int) : Can.St := ⟨S.m * b, manyR b S.m S.L, S.lo - far, S.hi + near, (rngI (S.lo - far) (S.hi + near - (S.lo - far)).toNat).filter fun n => has S n, manyR b S.m S.R⟩
theorem wide_ok {S : Can.St} (k : Ok S) {b far near : Int} (hb : b = 1 ∨ b = 2) (hf : 0 ≤ far) (hn : 0 ≤ near) : Ok (wideS S b far near) ∧ ∀ n, has (wideS S b far near) n = has S n := by
  have m1 := k.m1
  have lh := k.lh
  refine ⟨⟨?_, ?_, manyR_lt k.Ls k.Lr, manyR_range hb m1 k.Lr, rngI_lt.filter _, fun n hn => ?_, manyR_lt k.Rs k.Rr, manyR_range hb m1 k.Rr⟩, fun n => ?_⟩
  · show 1 ≤ S.m * b
    rcases hb with rfl | rfl <;> omega
  · show S.lo - far ≤ S.hi + near
    omega
  · obtain ⟨q, _⟩ := List.mem_filter.mp hn
    have := rngI_mem.mp q
    show S.lo - far ≤ n ∧ n < S.hi + near
    omega
  · have e : has (wideS S b far near) n = if n < S.lo - far then pat (S.m * b) (manyR b S.m S.L) n else if n < S.hi + near then decide (n ∈ (rngI (S.lo - far) (S.hi + near - (S.lo - far)).toNat).filter fun n => has S n) else pat (S.m * b) (manyR b S.m S.R) n := rfl
    rw [e]
    split
    · rw [manyR_pat hb m1 k.Lr, has_low (by omega)]
    · split
      · by_cases h : has S n = true
        · rw [h]
          exact decide_eq_true (List.mem_filter.mpr ⟨rngI_mem.mpr ⟨by omega, by omega⟩, h⟩)
        · have : ¬ n ∈ (rngI (S.lo - far) (S.hi + near - (S.lo - far)).toNat).filter fun n => has S n := fun q => h (List.mem_filter.mp q).2
          rw [decide_eq_false this]
          simpa using h
      · rw [manyR_pat hb m1 k.Rr, has_high k (by omega)]
end W82

namespace W82
open PySem PySem.Spec PyProof.Rows L2 Pu Can
def pairB (b : Int) (xs : List Int) : List D := if b = 1 then pairs xs 0 else pairs xs 0 ++ pairs xs 1
theorem r_pairB {b : Int} (hb : b = 1 ∨ b = 2) {xs : List Int} (hl : xs.length ≤ 1000) : c__law_pairs [.fr (.tuple (intL xs)), .fr (.int b)] = some (.fr (.list (pairB b xs)), [.no, .no]) := by
  obtain ⟨h1, h2⟩ := r_pairs hl
  rcases hb with rfl | rfl
  · exact h1
  · exact h2
theorem pairB_len {b : Int} {xs : List Int} (hl : xs.length ≤ 1000) : (pairB b xs).length ≤ 2000 := by
  unfold pairB
  split
  · rw [pairs_len]; omega
  · rw [List.length_append, pairs_len, pairs_len]; omega
def sumP (m : Int) : D → Int
  | .tuple [.int a, .int k] => a + m * k
  | _ => 0
theorem pairB_sum {b m : Int} {xs : List Int} : (pairB b xs).map (sumP m) = manyR b m xs := by
  have e : ∀ k, (pairs xs k).map (sumP m) = xs.map fun a => a + m * k := fun k => by simp [pairs, List.map_map, Function.comp_def, sumP]
  unfold pairB manyR
  split
  · rw [e]; simp
  · rw [List.map_append, e, e]; simp
theorem pairB_mem {b : Int} {xs : List Int} {d : D} (h : d ∈ pairB b xs) : ∃ a k : Int, d = .tuple [.int a, .int k] ∧ (k = 0 ∨ k = 1) := by
  have one : ∀ k, d ∈ pairs xs k → ∃ a : Int, d = .tuple [.int a, .int k] := fun k h => by
    obtain ⟨a, _, rfl⟩ := List.mem_map.mp h
    exact ⟨a, rfl⟩
  unfold pairB at h
  split at h
  · obtain ⟨a, rfl⟩ := one 0 h; exact ⟨a, 0, rfl, .inl rfl⟩
  · rcases List.mem_append.mp h with h | h
    · obtain ⟨a, rfl⟩ := one 0 h; exact ⟨a, 0, rfl, .inl rfl⟩
    · obtain ⟨a, rfl⟩ := one 1 h; exact ⟨a, 1, rfl, .inr rfl⟩
theorem isort_asc {ns : List Int} (h : ns.Pairwise (· < ·)) : isort ns = ns := sorted_unique (isort_perm ns) (isort_sorted ns) (h.imp fun q => Int.le_of_lt q)
theorem part_run {b m : Int} (hb : b = 1 ∨ b = 2) (m1 : 1 ≤ m) (m2 : m ≤ 1000) {xs : List Int} (hx : xs.Pairwise (· < ·)) (hr : ∀ a ∈ xs, 0 ≤ a ∧ a < m) (hl : xs.length ≤ 1000) (s0 : Sl) (a1 a3 a4 a5 a6 a7 a9 a10 : D) :
    cCb fTuple [(.e (frz (cCbN fSorted [(.e (frz (cLc [14, 15] (cIt (frz (cCall c__law_pairs [] (cCons (cVar 12) (cCons (cVar 8) cNil))))) (gT (gCons2 (gN 14) (gCons2 (gN 15) gNil2))) cYes (cOp dAdd (.v 14) (.e (cOp dMul (.v 2) (.v 15)))))))])))]
      [s0, .fr a1, .fr (.int m), .fr a3, .fr a4, .fr a5, .fr a6, .fr a7, .fr (.int b), .fr a9, .fr a10, .no, .fr (.tuple (intL xs)), .no, .no, .no] =
      some (.tuple (intL (manyR b m xs)), [s0, .fr a1, .fr (.int m), .fr a3, .fr a4, .fr a5, .fr a6, .fr a7, .fr (.int b), .fr a9, .fr a10, .no, .fr (.tuple (intL xs)), .no, .no, .no]) := by
  have e := lcL_map (g := gT (gCons2 (gN 14) (gCons2 (gN 15) gNil2))) (elt := (cOp dAdd (.v 14) (.e (cOp dMul (.v 2) (.v 15))))) (vs := [14, 15]) (Γ := [s0, .fr a1, .fr (.int m), .fr a3, .fr a4, .fr a5, .fr a6, .fr a7, .fr (.int b), .fr a9, .fr a10, .no, .fr (.tuple (intL xs)), .no, .no, .no]) (f := fun d => .int (sumP m d)) (pairB b xs) [] (fun d hd => by
    obtain ⟨a, k, rfl, hk⟩ := pairB_mem hd
    have mu : dMul (.int m) (.int k) = some (.int (m * k)) := mul_int (.inl ⟨by omega, by omega⟩)
    refine ⟨[s0, .fr a1, .fr (.int m), .fr a3, .fr a4, .fr a5, .fr a6, .fr a7, .fr (.int b), .fr a9, .fr a10, .no, .fr (.tuple (intL xs)), .no, .fr (.int a), .fr (.int k)], by simp, [s0, .fr a1, .fr (.int m), .fr a3, .fr a4, .fr a5, .fr a6, .fr a7, .fr (.int b), .fr a9, .fr a10, .no, .fr (.tuple (intL xs)), .no, .fr (.int a), .fr (.int k)], by simp [mu, sumP], by simp⟩) (small_sz (by have := pairB_len (b := b) hl; simp; omega))
  have e2 : (pairB b xs).map (fun d => PyData.int (sumP m d)) = intL (manyR b m xs) := by
    rw [← pairB_sum (b := b) (m := m) (xs := xs)]
    simp [intL, List.map_map, Function.comp_def]
  rw [List.nil_append, e2] at e
  have e3 : fSorted [.list (intL (manyR b m xs))] = some (intL (manyR b m xs)) := by
    show (intsD (intL (manyR b m xs))).map (fun ns => (isort ns).map fun n => PyData.int n) = _
    rw [intsD_intL, Option.map_some, isort_asc (manyR_lt hx hr)]
    rfl
  simp [r_pairB hb hl, e, e3]
theorem wider_ok {S : Can.St} (k : Ok S) (w : Few S) {ds : List D} (hp : Pot ds) : ∃ (b far near : Int) (es : List D), (b = 1 ∨ b = 2) ∧ 0 ≤ far ∧ far ≤ 2 ∧ 0 ≤ near ∧ near ≤ 2 ∧
    c__law_wider [.ln (.list ds), .fr (stD S)] = some (.fr (stD (wideS S b far near)), [.ln (.list es), .no]) ∧ Pot es := by
  have m1 := k.m1
  have m2 := w.m
  have lh := k.lh
  have b1 := w.lo
  have b2 := w.hi
  have wl := w.L
  have wr := w.R
  obtain ⟨q1, d1, e1, a1, c1, p1⟩ := tk hp (m := 2) (by omega) (by omega)
  obtain ⟨far, d2, e2, a2, c2, p2⟩ := tk p1 (m := 3) (by omega) (by omega)
  obtain ⟨near, d3, e3, a3, c3, p3⟩ := tk p2 (m := 3) (by omega) (by omega)
  have hb : 1 + q1 = 1 ∨ 1 + q1 = 2 := by omega
  refine ⟨1 + q1, far, near, d3, hb, a2, by omega, a3, by omega, ?_, p3⟩
  have mu : dMul (.int S.m) (.int (1 + q1)) = some (.int (S.m * (1 + q1))) := mul_int (.inl ⟨by omega, by omega⟩)
  have pl := part_run hb m1 (by omega) k.Ls k.Lr (by omega) (.ln (.list d3)) (stD S) (.tuple (intL S.L)) (.int S.lo) (.int S.hi) (.tuple (intL S.M)) (.tuple (intL S.R)) (.int far) (.int near)
  have pr := part_run hb m1 (by omega) k.Rs k.Rr (by omega) (.ln (.list d3)) (stD S) (.tuple (intL S.L)) (.int S.lo) (.int S.hi) (.tuple (intL S.M)) (.tuple (intL S.R)) (.int far) (.int near)
  have run : lcL (gN 12) cYes (cCb fTuple [(.e (frz (cCbN fSorted [(.e (frz (cLc [14, 15] (cIt (frz (cCall c__law_pairs [] (cCons (cVar 12) (cCons (cVar 8) cNil))))) (gT (gCons2 (gN 14) (gCons2 (gN 15) gNil2))) cYes (cOp dAdd (.v 14) (.e (cOp dMul (.v 2) (.v 15)))))))])))]) [12] [.tuple (intL S.L), .tuple (intL S.R)] [] [.ln (.list d3), .fr (stD S), .fr (.int S.m), .fr (.tuple (intL S.L)), .fr (.int S.lo), .fr (.int S.hi), .fr (.tuple (intL S.M)), .fr (.tuple (intL S.R)), .fr (.int (1 + q1)), .fr (.int far), .fr (.int near), .no, .no, .no, .no, .no] =
      some ([.tuple (intL (manyR (1 + q1) S.m S.L)), .tuple (intL (manyR (1 + q1) S.m S.R))], [.ln (.list d3), .fr (stD S), .fr (.int S.m), .fr (.tuple (intL S.L)), .fr (.int S.lo), .fr (.int S.hi), .fr (.tuple (intL S.M)), .fr (.tuple (intL S.R)), .fr (.int (1 + q1)), .fr (.int far), .fr (.int near), .no, .no, .no, .no, .no]) := by
    rw [lcL_one (Γ1 := [.ln (.list d3), .fr (stD S), .fr (.int S.m), .fr (.tuple (intL S.L)), .fr (.int S.lo), .fr (.int S.hi), .fr (.tuple (intL S.M)), .fr (.tuple (intL S.R)), .fr (.int (1 + q1)), .fr (.int far), .fr (.int near), .no, .fr (.tuple (intL S.L)), .no, .no, .no]) (by simp) pl (by simp)]
    rw [show wipeG [.ln (.list d3), .fr (stD S), .fr (.int S.m), .fr (.tuple (intL S.L)), .fr (.int S.lo), .fr (.int S.hi), .fr (.tuple (intL S.M)), .fr (.tuple (intL S.R)), .fr (.int (1 + q1)), .fr (.int far), .fr (.int near), .no, .fr (.tuple (intL S.L)), .no, .no, .no] [12] = [.ln (.list d3), .fr (stD S), .fr (.int S.m), .fr (.tuple (intL S.L)), .fr (.int S.lo), .fr (.int S.hi), .fr (.tuple (intL S.M)), .fr (.tuple (intL S.R)), .fr (.int (1 + q1)), .fr (.int far), .fr (.int near), .no, .no, .no, .no, .no] by simp]
    rw [lcL_one (Γ1 := [.ln (.list d3), .fr (stD S), .fr (.int S.m), .fr (.tuple (intL S.L)), .fr (.int S.lo), .fr (.int S.hi), .fr (.tuple (intL S.M)), .fr (.tuple (intL S.R)), .fr (.int (1 + q1)), .fr (.int far), .fr (.int near), .no, .fr (.tuple (intL S.R)), .no, .no, .no]) (by simp) pr (by simp)]
    simp [lcL]
  have hh := fun n => r__law_has k n
  have f5 := r_filter (n := 13) (cond := (cB (frz (cCall c__law_has [] (cCons (cVar 1) (cCons (cVar 13) cNil)))))) (elt := cVar 13) (lo := S.lo - far) (k := (S.hi + near - (S.lo - far)).toNat) (c := fun n => has S n)
    (Γ := [.ln (.list d3), .fr (stD S), .fr (.int S.m), .fr (.tuple (intL S.L)), .fr (.int S.lo), .fr (.int S.hi), .fr (.tuple (intL S.M)), .fr (.tuple (intL S.R)), .fr (.int (1 + q1)), .fr (.int far), .fr (.int near), .ow (.list [.tuple (intL (manyR (1 + q1) S.m S.L)), .tuple (intL (manyR (1 + q1) S.m S.R))]), .no, .no, .no, .no]) (by omega)
    (fun i => ⟨[.ln (.list d3), .fr (stD S), .fr (.int S.m), .fr (.tuple (intL S.L)), .fr (.int S.lo), .fr (.int S.hi), .fr (.tuple (intL S.M)), .fr (.tuple (intL S.R)), .fr (.int (1 + q1)), .fr (.int far), .fr (.int near), .ow (.list [.tuple (intL (manyR (1 + q1) S.m S.L)), .tuple (intL (manyR (1 + q1) S.m S.R))]), .no, .fr (.int i), .no, .no], by simp, [.ln (.list d3), .fr (stD S), .fr (.int S.m), .fr (.tuple (intL S.L)), .fr (.int S.lo), .fr (.int S.hi), .fr (.tuple (intL S.M)), .fr (.tuple (intL S.R)), .fr (.int (1 + q1)), .fr (.int far), .fr (.int near), .ow (.list [.tuple (intL (manyR (1 + q1) S.m S.L)), .tuple (intL (manyR (1 + q1) S.m S.R))]), .no, .fr (.int i), .no, .no], by simp [hh], by simp, _, by simp; rfl, by simp⟩)
  have r1 : (-4611686018427387904 ≤ S.lo - far) := by omega
  have r2 : (S.lo - far < 4611686018427387904) := by omega
  have r3 : (-4611686018427387904 ≤ S.hi + near) := by omega
  have r4 : (S.hi + near < 4611686018427387904) := by omega
  unfold stD at run f5
  simp [c__law_wider, stD, wideS, e1, e2, e3, mu, run, f5, r1, r2, r3, r4]
end W82

namespace W82
open PySem PySem.Spec PyProof.Rows L2 Pu Can
theorem eqvAll_ints : ∀ a b : List Int, PyData.eqvAll (intL a) (intL b) = decide (a = b)
  | [], [] => by simp [intL, PyData.eqvAll]
  | [], y :: ys => by simp [intL, PyData.eqvAll]
  | x :: xs, [] => by simp [intL, PyData.eqvAll]
  | x :: xs, y :: ys => by
    have ih := eqvAll_ints xs ys
    show (PyData.eqv (.int x) (.int y) && PyData.eqvAll (intL xs) (intL ys)) = _
    rw [ih]
    by_cases h : x = y <;> by_cases k : xs = ys <;> simp [PyData.eqv, h, k]
theorem eqv_tup (a b : List Int) : PyData.eqv (.tuple (intL a)) (.tuple (intL b)) = decide (a = b) := by
  simp only [PyData.eqv]; exact eqvAll_ints a b
noncomputable instance : DecidableEq Can.St := fun a b => Classical.propDecidable (a = b)
theorem eqv_stD (S T : Can.St) : PyData.eqv (stD S) (stD T) = decide (S = T) := by
  have e : PyData.eqv (stD S) (stD T) = (PyData.eqv (.int S.m) (.int T.m) && (PyData.eqv (.tuple (intL S.L)) (.tuple (intL T.L)) && (PyData.eqv (.int S.lo) (.int T.lo) && (PyData.eqv (.int S.hi) (.int T.hi) && (PyData.eqv (.tuple (intL S.M)) (.tuple (intL T.M)) && (PyData.eqv (.tuple (intL S.R)) (.tuple (intL T.R)) && true)))))) := by
    simp only [stD, PyData.eqv, PyData.eqvAll]
  have ei : ∀ i j : Int, PyData.eqv (.int i) (.int j) = decide (i = j) := fun i j => by simp [PyData.eqv, beqD]
  rw [e, ei, ei, ei, eqv_tup, eqv_tup, eqv_tup]
  obtain ⟨a1, a2, a3, a4, a5, a6⟩ := S
  obtain ⟨b1, b2, b3, b4, b5, b6⟩ := T
  by_cases h1 : a1 = b1 <;> by_cases h2 : a2 = b2 <;> by_cases h3 : a3 = b3 <;> by_cases h4 : a4 = b4 <;> by_cases h5 : a5 = b5 <;> by_cases h6 : a6 = b6 <;> simp [h1, h2, h3, h4, h5, h6]
theorem stD_shaped (S : Can.St) : SeqAt.shaped (stD S) = true := by
  have h0 : ∀ ns : List Int, ∀ x ∈ intL ns, fit 0 0 x := fun ns x hx => by
    obtain ⟨n, _, rfl⟩ := List.mem_map.mp hx
    exact fit_int
  have row : ∀ ns : List Int, fit (6 + S.L.length + S.M.length + S.R.length + ns.length) 1 (.tuple (intL ns)) := fun ns => fit_tup.mpr ⟨by rw [len_intL]; omega, fun x hx => fit_mono (Nat.zero_le _) (Nat.le_refl _) (h0 ns x hx)⟩
  have h : fit (6 + S.L.length + S.M.length + S.R.length + (S.L.length + S.M.length + S.R.length)) 2 (stD S) := fit_tup.mpr ⟨by simp; omega, fun x hx => by
    simp only [List.mem_cons, List.not_mem_nil, or_false] at hx
    rcases hx with rfl | rfl | rfl | rfl | rfl | rfl
    · exact fit_int
    · exact fit_mono (by omega) (by omega) (row S.L)
    · exact fit_int
    · exact fit_int
    · exact fit_mono (by omega) (by omega) (row S.M)
    · exact fit_mono (by omega) (by omega) (row S.R)⟩
  exact fit_shaped h (by omega)
theorem dEq_stD (S T : Can.St) : dEq false (stD S) (stD T) = some (.bool (decide (S = T))) := by
  unfold dEq
  rw [if_pos ⟨stD_shaped S, stD_shaped T⟩, eqv_stD]
  rfl
/-- parts of a datum that is not too wide -/
theorem fitB_parts {w k : Nat} {d : D} (hw : w ≤ 1000) (h : fitB w k d) : parts d ∧ parts2 d ∧ few2 d ∧ short d := by
  have f := fitB_fit h
  refine ⟨?_, ?_, ?_, fit_short hw f⟩
  · cases d <;> try exact trivial
    cases k
    · exact (fit_tup0 f).elim
    · exact fun x hx => fit_short hw ((fit_tup.mp f).2 x hx)
  · unfold parts2
    intro x hx
    unfold rowsOf at hx
    split at hx
    · cases k
      · exact (fit_tup0 f).elim
      · have f2 := (fit_tup.mp f).2 _ (List.mem_cons_of_mem _ List.mem_cons_self)
        rename_i k
        cases k
        · exact (fit_tup0 f2).elim
        · exact fit_short hw ((fit_tup.mp f2).2 x hx)
    · cases hx
  · unfold few2 rowsOf
    split
    · cases k
      · exact (fit_tup0 f).elim
      · have f2 := (fit_tup.mp f).2 _ (List.mem_cons_of_mem _ List.mem_cons_self)
        rename_i k
        cases k
        · exact (fit_tup0 f2).elim
        · exact Nat.le_trans (fit_tup.mp f2).1 hw
    · exact Nat.zero_le _
/-- is_least_set, and the law's word for it -/
noncomputable def leastB (d : D) : Bool := match d with
  | .tuple [.int m, .tuple L, .int lo, .int hi, .tuple M, .tuple R] => isSet d && decide (lst ⟨m, L.map toI, lo, hi, M.map toI, R.map toI⟩ = ⟨m, L.map toI, lo, hi, M.map toI, R.map toI⟩)
  | _ => false
theorem leastB_stD {S : Can.St} (k : Ok S) : leastB (stD S) = decide (lst S = S) := by
  show (isSet (stD S) && decide (lst ⟨S.m, (intL S.L).map toI, S.lo, S.hi, (intL S.M).map toI, (intL S.R).map toI⟩ = ⟨S.m, (intL S.L).map toI, S.lo, S.hi, (intL S.M).map toI, (intL S.R).map toI⟩)) = _
  rw [isSet_stD k, toI_intL, toI_intL, toI_intL, Bool.true_and]
theorem leastB_no {d : D} (h : isSet d = false) : leastB d = false := by
  unfold leastB
  split
  · rw [h]; rfl
  · rfl
theorem r_is_least {S : Can.St} (k : Ok S) (w : Few S) (hM : S.hi - S.lo ≤ 1000) : c_is_least_set [.fr (stD S)] = some (.fr (.bool (decide (lst S = S))), [.no]) := by
  have hp : parts (stD S) := fun x hx => by
    have l3 := len_in k.Ms k.Mr k.lh
    have b1 := w.lo
    have b2 := w.hi
    have b3 := w.L
    have b4 := w.R
    simp only [List.mem_cons, List.not_mem_nil, or_false] at hx
    rcases hx with rfl | rfl | rfl | rfl | rfl | rfl
    · exact trivial
    · show (intL S.L).length ≤ 1000; rw [len_intL]; omega
    · exact trivial
    · exact trivial
    · show (intL S.M).length ≤ 1000; rw [len_intL]; omega
    · show (intL S.R).length ≤ 1000; rw [len_intL]; omega
  have e1 := (r_is_set (stD S) hp).1
  rw [isSet_stD k] at e1
  simp [c_is_least_set, e1, (r_least k w).1, dEq_stD]
end W82

namespace W82
open PySem PySem.Spec PyProof.Rows L2 Pu Can
def cInner : CS := (cSeq (cSet 10 (frz (cLst (cCons (frz (cCall c__law_is_bundle [] (cCons (cVar 9) cNil))) (cCons (frz (cCall c__law_is_grid [] (cCons (cVar 9) cNil))) (cCons (frz (cCall c__law_is_set [] (cCons (cVar 9) cNil))) cNil))))))
    (cSeq (cIfS (cNot (cB (frz (cCall c__law_same [] (cCons (frz (cLst (cCons (frz (cCall c_is_bundle [] (cCons (cVar 9) cNil))) (cCons (frz (cCallK c_is_grid 0 1 [0] cNil (cCons (cVar 9) cNil))) (cCons (frz (cCall c_is_set [] (cCons (cVar 9) cNil))) cNil))))) (cCons (cVar 10) cNil)))))) (cRet (asN (cC (.bool false)))) cNext)
    (cIfS (cNot (cB (frz (cCall c__law_same [] (cCons (frz (cCallK c_is_least_set 0 1 [0] cNil (cCons (cVar 9) cNil))) (cCons (cAndV (cOp dIx (.v 10) (.e (cC (.int 2)))) (cOp (dEq false) (.e (frz (cCall c__law_least [] (cCons (cVar 9) cNil)))) (.v 9))) cNil)))))) (cRet (asN (cC (.bool false)))) cNext)))
def cEnd : CS := (cFor (cIt (frz (cLc [11] (cIt (cTup (cCons (cC (.int 0)) (cCons (cC (.int 1)) (cCons (cC (.int 2)) (cCons (cC (.int 2)) (cCons (cC (.int 3)) cNil))))))) (gN 11) cYes (frz (cCall c__law_near [1] (cCons (cOp dIx (.e (frz (cLst (cCons (cVar 5) (cCons (cTup (cCons (cVar 3) (cCons (cVar 4) cNil))) (cCons (cVar 6) (cCons (cVar 7) cNil))))))) (.v 11)) cNil)))))) (gN 9) cInner)
def cBody : CS := (cSeq (cSet 3 (cOp dAdd (.e (cC (.int 1))) (.e (frz (cCall c__law_take [1] (cCons (cC (.int 3)) cNil))))))
    (cSeq (cSet 4 (cCb fTuple [(.e (frz (cLc [12] (cRng1 (cCons (frz (cCall c__law_take [1] (cCons (cC (.int 4)) cNil))) cNil)) (gN 12) cYes (cCb fTuple [(.e (frz (cLc [13] (cRng1 (cCons (cVar 3) cNil)) (gN 13) cYes (cOp dSub (.e (frz (cCall c__law_take [1] (cCons (cC (.int 5)) cNil)))) (.e (cC (.int 2)))))))]))))]))
    (cSeq (cSet 5 (cTup (cCons (cVar 3) (cCons (cCb fTuple [(.e (frz (cLc [12] (cIt (cVar 4)) (gN 12) (cB (cCb fAny [(.e (frz (cLc [14] (cIt (cVar 12)) (gN 14) cYes (cOp (dEq true) (.v 14) (.e (cC (.int 0)))))))])) (cVar 12))))]) cNil))))
    (cSeq (cAsg (cTup (cCons (frz (cCall c__law_small_set [1] cNil)) (cCons (frz (cCall c__law_least [] (cCons (frz (cCall c__law_small_set [1] cNil)) cNil))) cNil))) (gT (gCons2 (gN 6) (gCons2 (gN 7) gNil2))))
    (cSeq (cSet 8 (frz (cCall c__law_wider [1] (cCons (cVar 7) cNil))))
    (cSeq (cIfS (cNot (cB (frz (cCall c__law_same [] (cCons (frz (cLst (cCons (frz (cCall c_is_bundle [] (cCons (cVar 5) cNil))) (cCons (frz (cCall c_is_grid [] (cCons (cTup (cCons (cVar 3) (cCons (cVar 4) cNil))) cNil))) (cCons (frz (cCall c_is_set [] (cCons (cVar 6) cNil))) (cCons (frz (cCallK c_is_least_set 0 1 [0] cNil (cCons (cVar 7) cNil))) (cCons (frz (cCall c_is_set [] (cCons (cVar 8) cNil))) cNil))))))) (cCons (frz (cRep (cCons (cC (.bool true)) cNil) (cC (.int 5)))) cNil)))))) (cRet (asN (cC (.bool false)))) cNext)
    (cSeq (cIfS (cNot (cB (frz (cCall c__law_same [] (cCons (frz (cLst (cCons (frz (cCall c_is_least_set [] (cCons (cVar 6) cNil))) (cCons (frz (cCall c_is_least_set [] (cCons (cVar 8) cNil))) cNil)))) (cCons (frz (cLst (cCons (cOp (dEq false) (.e (frz (cCall c__law_least [] (cCons (cVar 6) cNil)))) (.v 6)) (cCons (cOp (dEq false) (.v 8) (.v 7)) cNil)))) cNil)))))) (cRet (asN (cC (.bool false)))) cNext)
    cEnd)))))))
theorem law_eq : c_law = cFun 15 1
    (cSeq (cSetN 1 (cCall c__law_pot [] (cCons (cVar 0) cNil)))
    (cSeq (cFor (cRng1 (cCons (cC (.int 12)) cNil)) (gN 2) cBody)
    (cRet (asN (cC (.bool true)))))) := rfl
def notLn : Sl → Bool
  | .ln _ => false
  | _ => true
@[simp] theorem notLn_fr (d : D) : notLn (.fr d) = true := rfl
@[simp] theorem notLn_no : notLn .no = true := rfl
def okPut (Γ : En) (i : Nat) : Bool := match Γ[i]? with
  | some s => notLn s
  | none => false
@[simp] theorem ev_okPut {Γ : En} {i : Nat} : okPut Γ i = (match Γ[i]? with | some s => notLn s | none => false) := rfl
theorem putF {Γ : En} {i : Nat} {s : Sl} (h : okPut Γ i = true) : put Γ i s = some (Γ.set i s) := by
  unfold okPut at h
  unfold put
  split at h
  · rename_i x e
    rw [e]
    cases x <;> first | rfl | cases h
  · cases h
theorem same_bool (m : Nat) (b : Bool) : ci__law_same (m + 1) [.fr (.bool b), .fr (.bool b)] = some (.fr (.bool true), [.no, .no]) := by
  simp [ci__law_same, cr__law_same]
theorem same1 (a : Bool) : c__law_same [.fr (.bool a), .fr (.bool a)] = some (.fr (.bool true), [.no, .no]) := same_bool 59 a
theorem same2 (a b : Bool) : c__law_same [.fr (.list [.bool a, .bool b]), .fr (.list [.bool a, .bool b])] = some (.fr (.bool true), [.no, .no]) := by
  simp [c__law_same, ci__law_same, cr__law_same, rngD, List.range_succ, lcL, cYes, fAll_l]
theorem same3 (a b c : Bool) : c__law_same [.fr (.list [.bool a, .bool b, .bool c]), .fr (.list [.bool a, .bool b, .bool c])] = some (.fr (.bool true), [.no, .no]) := by
  simp [c__law_same, ci__law_same, cr__law_same, rngD, List.range_succ, lcL, cYes, fAll_l]
theorem same5 (a b c d e : Bool) : c__law_same [.fr (.list [.bool a, .bool b, .bool c, .bool d, .bool e]), .fr (.list [.bool a, .bool b, .bool c, .bool d, .bool e])] = some (.fr (.bool true), [.no, .no]) := by
  simp [c__law_same, ci__law_same, cr__law_same, rngD, List.range_succ, lcL, cYes, fAll_l]
def dues (v : D) : D := .list [.bool (bundleB v), .bool (gridB v), .bool (isSet v)]
theorem inner_ok {s0 s1 s2 s3 s4 s5 s6 s7 s8 s10 : Sl} {v : D} {k : Nat} (hv : fitB 200 k v) (h10 : notLn s10 = true) :
    cInner [s0, s1, s2, s3, s4, s5, s6, s7, s8, .fr v, s10, .no, .no, .no, .no] = some (.nx, [s0, s1, s2, s3, s4, s5, s6, s7, s8, .fr v, .fr (dues v), .no, .no, .no, .no]) := by
  obtain ⟨q1, q2, q3, q4⟩ := fitB_parts (by omega) hv
  obtain ⟨g1, g2⟩ := r_is_grid v q2 q3
  obtain ⟨b1, b2⟩ := r_is_bundle v q2 q3
  obtain ⟨t1, t2⟩ := r_is_set v q1
  by_cases hs : isSet v = true
  · obtain ⟨S, rfl, ok⟩ := isSet_is hs
    have fw := fitB_few ok hv
    obtain _ | k := k
    · exact (fitB_tup0 hv).elim
    obtain ⟨_, hx⟩ := fitB_tup.mp hv
    have a2 := fitB_int.mp (hx (.int S.lo) (by simp))
    have a3 := fitB_int.mp (hx (.int S.hi) (by simp))
    have l1 := r_is_least ok fw (by omega)
    have l2 := (r_least ok fw).2
    rw [hs] at t1 t2
    simp [cInner, dues, -ev_47, putF, h10, g1, g2, b1, b2, t1, t2, perm, same3, l1, l2, dEq_stD, same1, hs]
  · have hs' : isSet v = false := by simpa using hs
    rw [hs'] at t1 t2
    have l1 : c_is_least_set [.fr v] = some (.fr (.bool false), [.no]) := by simp [c_is_least_set, t1]
    simp [cInner, dues, -ev_47, putF, h10, g1, g2, b1, b2, t1, t2, perm, same3, l1, same1, hs']
end W82

namespace W82
open PySem PySem.Spec PyProof.Rows L2 Pu Can
set_option maxHeartbeats 0 in
theorem end_ok (sc t d rows bd so le wi : D) (es : List D) (s9 s10 : Sl) (h9 : notLn s9 = true) (h10 : notLn s10 = true) (f5 : fitB 12 3 bd) (fg : fitB 12 3 (.tuple [d, rows])) (f6 : fitB 12 3 so) (f7 : fitB 12 3 le) (hp : Pot es) :
    ∃ es' s9' s10', cEnd [.fr sc, .ow (.list es), .fr t, .fr d, .fr rows, .fr bd, .fr so, .fr le, .fr wi, s9, s10, .no, .no, .no, .no] = some (.nx, [.fr sc, .ow (.list es'), .fr t, .fr d, .fr rows, .fr bd, .fr so, .fr le, .fr wi, s9', s10', .no, .no, .no, .no]) ∧ Pot es' ∧ notLn s9' = true ∧ notLn s10' = true := by
  obtain ⟨zs, Γ', k1, ⟨d1, p1, rfl⟩, k3, k4⟩ := lcL_ex (g := gN 11) (elt := (frz (cCall c__law_near [1] (cCons (cOp dIx (.e (frz (cLst (cCons (cVar 5) (cCons (cTup (cCons (cVar 3) (cCons (cVar 4) cNil))) (cCons (cVar 6) (cCons (cVar 7) cNil))))))) (.v 11)) cNil)))) (vs := [11])
        (I := fun Γ => ∃ es, Pot es ∧ Γ = [.fr sc, .ow (.list es), .fr t, .fr d, .fr rows, .fr bd, .fr so, .fr le, .fr wi, s9, s10, .no, .no, .no, .no]) (Q := fun z => fitB 200 6 z) [.int 0, .int 1, .int 2, .int 2, .int 3] [] _ ⟨es, hp, rfl⟩
        (by
          rintro j hj Γ ⟨es, hes, rfl⟩
          obtain ⟨i, rfl, y, hy, fy⟩ : ∃ i, j = .int i ∧ ∃ y, atI [bd, .tuple [d, rows], so, le] i = some y ∧ fitB 12 3 y := by
            simp only [List.mem_cons, List.not_mem_nil, or_false] at hj
            rcases hj with rfl | rfl | rfl | rfl | rfl
            · exact ⟨0, rfl, bd, by simp, f5⟩
            · exact ⟨1, rfl, _, by simp, fg⟩
            · exact ⟨2, rfl, so, by simp, f6⟩
            · exact ⟨2, rfl, so, by simp, f6⟩
            · exact ⟨3, rfl, le, by simp, f7⟩
          obtain ⟨u, d2, e2, p2, f2⟩ := near_ok 3 y es (by omega) fy hes
          refine ⟨_, by simp; rfl, u, [.fr sc, .ow (.list d2), .fr t, .fr d, .fr rows, .fr bd, .fr so, .fr le, .fr wi, s9, s10, .fr (.int i), .no, .no, .no], ?_, f2, d2, p2, by simp⟩
          simp [hy, e2])
        (by simp)
  obtain ⟨Γ2, k5, s, s', hs, hs', rfl⟩ := forL_inv (g := gN 9) (body := cInner) (I := fun Γ => ∃ s s', notLn s = true ∧ notLn s' = true ∧ Γ = [.fr sc, .ow (.list d1), .fr t, .fr d, .fr rows, .fr bd, .fr so, .fr le, .fr wi, s, s', .no, .no, .no, .no]) zs _ ⟨s9, s10, h9, h10, rfl⟩
    (by
      rintro v hv Γ ⟨s, s', hs, hs', rfl⟩
      exact ⟨[.fr sc, .ow (.list d1), .fr t, .fr d, .fr rows, .fr bd, .fr so, .fr le, .fr wi, .fr v, s', .no, .no, .no, .no], by rw [ev_46, putF (by simpa using hs)]; rfl, _, inner_ok (k4 v hv) hs', .fr v, .fr (dues v), rfl, rfl, rfl⟩)
  refine ⟨d1, s, s', ?_, p1, hs, hs'⟩
  simp [cEnd, k1, k5]
theorem row_ok {d : Int} (h1 : 1 ≤ d) (h3 : d ≤ 3) (sc t r : D) (s4 s5 s6 s7 s8 s9 s10 : Sl) (es : List D) (hp : Pot es) :
    ∃ ns es', cCb fTuple [(.e (frz (cLc [13] (cRng1 (cCons (cVar 3) cNil)) (gN 13) cYes (cOp dSub (.e (frz (cCall c__law_take [1] (cCons (cC (.int 5)) cNil)))) (.e (cC (.int 2)))))))] [.fr sc, .ow (.list es), .fr t, .fr (.int d), s4, s5, s6, s7, s8, s9, s10, .no, .fr r, .no, .no] =
      some (.tuple (intL ns), [.fr sc, .ow (.list es'), .fr t, .fr (.int d), s4, s5, s6, s7, s8, s9, s10, .no, .fr r, .no, .no]) ∧ Pot es' ∧ (ns.length : Int) = d ∧ ∀ n ∈ ns, -2 ≤ n ∧ n ≤ 2 := by
  obtain ⟨zs, Γ', k1, ⟨d1, p1, rfl⟩, k3, k4⟩ := lcL_ex (g := gN 13) (elt := (cOp dSub (.e (frz (cCall c__law_take [1] (cCons (cC (.int 5)) cNil)))) (.e (cC (.int 2))))) (vs := [13])
    (I := fun Γ => ∃ es, Pot es ∧ Γ = [.fr sc, .ow (.list es), .fr t, .fr (.int d), s4, s5, s6, s7, s8, s9, s10, .no, .fr r, .no, .no]) (Q := fun z => ∃ i : Int, z = .int i ∧ -2 ≤ i ∧ i ≤ 2) (rngD 0 d.toNat) [] _ ⟨es, hp, rfl⟩
    (by
      rintro j hj Γ ⟨es, hes, rfl⟩
      obtain ⟨q, d2, e2, a2, b2, p2⟩ := tk hes (m := 5) (by omega) (by omega)
      exact ⟨_, by simp; rfl, .int (q - 2), [.fr sc, .ow (.list d2), .fr t, .fr (.int d), s4, s5, s6, s7, s8, s9, s10, .no, .fr r, .fr j, .no], by simp [e2], ⟨q - 2, rfl, by omega, by omega⟩, d2, p2, by simp⟩)
    (by rw [rng_len]; exact small_sz (by simp <;> omega))
  obtain ⟨ns, rfl, hns⟩ : ∃ ns, zs = intL ns ∧ ∀ n ∈ ns, -2 ≤ n ∧ n ≤ 2 := by
    refine ⟨zs.map toI, ?_, ?_⟩
    · unfold intL
      rw [List.map_map]
      conv => lhs; rw [← List.map_id zs]
      exact List.map_congr_left fun z hz => by obtain ⟨i, rfl, _⟩ := k4 z hz; rfl
    · intro n hn
      obtain ⟨z, hz, rfl⟩ := List.mem_map.mp hn
      obtain ⟨i, rfl, h⟩ := k4 z hz
      exact h
  rw [rng_len, len_intL] at k3
  have r1 : (-4611686018427387904 ≤ d) := by omega
  have r2 : (d < 4611686018427387904) := by omega
  exact ⟨ns, d1, by simp [k1, r1, r2], p1, by omega, hns⟩
def rowP (d : Int) (z : D) : Prop := ∃ ns, z = .tuple (intL ns) ∧ (ns.length : Int) = d ∧ ∀ n ∈ ns, -2 ≤ n ∧ n ≤ 2
theorem rows_ok {d : Int} (h1 : 1 ≤ d) (h3 : d ≤ 3) (sc t : D) (s4 s5 s6 s7 s8 s9 s10 : Sl) (es : List D) (hp : Pot es) :
    ∃ (q : Int) (zs d0 es' : List D), c__law_take [.ln (.list es), .fr (.int 4)] = some (.fr (.int q), [.ln (.list d0), .no]) ∧ 0 ≤ q ∧ q < 4 ∧
      lcL (gN 12) cYes (cCb fTuple [(.e (frz (cLc [13] (cRng1 (cCons (cVar 3) cNil)) (gN 13) cYes (cOp dSub (.e (frz (cCall c__law_take [1] (cCons (cC (.int 5)) cNil)))) (.e (cC (.int 2)))))))]) [12] (rngD 0 q.toNat) [] [.fr sc, .ow (.list d0), .fr t, .fr (.int d), s4, s5, s6, s7, s8, s9, s10, .no, .no, .no, .no] =
      some (zs, [.fr sc, .ow (.list es'), .fr t, .fr (.int d), s4, s5, s6, s7, s8, s9, s10, .no, .no, .no, .no]) ∧ Pot es' ∧ zs.length ≤ 3 ∧ ∀ z ∈ zs, rowP d z := by
  obtain ⟨q, d0, e0, a0, b0, p0⟩ := tk hp (m := 4) (by omega) (by omega)
  obtain ⟨zs, Γ', k1, ⟨d1, p1, rfl⟩, k3, k4⟩ := lcL_ex (g := gN 12) (elt := (cCb fTuple [(.e (frz (cLc [13] (cRng1 (cCons (cVar 3) cNil)) (gN 13) cYes (cOp dSub (.e (frz (cCall c__law_take [1] (cCons (cC (.int 5)) cNil)))) (.e (cC (.int 2)))))))])) (vs := [12])
    (I := fun Γ => ∃ es, Pot es ∧ Γ = [.fr sc, .ow (.list es), .fr t, .fr (.int d), s4, s5, s6, s7, s8, s9, s10, .no, .no, .no, .no]) (Q := rowP d) (rngD 0 q.toNat) [] _ ⟨d0, p0, rfl⟩
    (by
      rintro j hj Γ ⟨es, hes, rfl⟩
      obtain ⟨ns, d2, e2, p2, l2, r2⟩ := row_ok h1 h3 sc t j s4 s5 s6 s7 s8 s9 s10 es hes
      exact ⟨_, by simp, .tuple (intL ns), _, e2, ⟨ns, rfl, l2, r2⟩, d2, p2, by simp⟩)
    (by rw [rng_len]; exact small_sz (by simp <;> omega))
  have r3 : zs.length ≤ 3 := by rw [rng_len] at k3; omega
  exact ⟨q, zs, d0, d1, e0, a0, b0, by simpa using k1, p1, r3, k4⟩
end W82

namespace W82
open PySem PySem.Spec PyProof.Rows L2 Pu Can
theorem filt_ok {d : Int} {zs : List D} (hz : ∀ z ∈ zs, rowP d z) (hl : zs.length ≤ 3) (h3 : d ≤ 3) (s0 s1 s2 s3 s4 s5 s6 s7 s8 s9 s10 : Sl) :
    lcL (gN 12) (cB (cCb fAny [(.e (frz (cLc [14] (cIt (cVar 12)) (gN 14) cYes (cOp (dEq true) (.v 14) (.e (cC (.int 0)))))))])) (cVar 12) [12] zs [] [s0, s1, s2, s3, s4, s5, s6, s7, s8, s9, s10, .no, .no, .no, .no] =
      some (zs.filter notO, [s0, s1, s2, s3, s4, s5, s6, s7, s8, s9, s10, .no, .no, .no, .no]) := by
  have e := lcL_filter (g := gN 12) (cond := (cB (cCb fAny [(.e (frz (cLc [14] (cIt (cVar 12)) (gN 14) cYes (cOp (dEq true) (.v 14) (.e (cC (.int 0)))))))]))) (elt := cVar 12) (vs := [12]) (Γ := [s0, s1, s2, s3, s4, s5, s6, s7, s8, s9, s10, .no, .no, .no, .no]) (f := id) (c := notO) zs [] (by
    intro z hz'
    obtain ⟨ns, rfl, l1, l2⟩ := hz z hz'
    obtain ⟨us, k1, k2⟩ := any_run (n := 14) (ns := ns) (elt := (cOp (dEq true) (.v 14) (.e (cC (.int 0))))) (Γ := [s0, s1, s2, s3, s4, s5, s6, s7, s8, s9, s10, .no, .fr (.tuple (intL ns)), .no, .no]) (by omega) (fun i => ⟨[s0, s1, s2, s3, s4, s5, s6, s7, s8, s9, s10, .no, .fr (.tuple (intL ns)), .no, .fr (.int i)], by simp, [s0, s1, s2, s3, s4, s5, s6, s7, s8, s9, s10, .no, .fr (.tuple (intL ns)), .no, .fr (.int i)], by simp, by simp⟩)
    exact ⟨[s0, s1, s2, s3, s4, s5, s6, s7, s8, s9, s10, .no, .fr (.tuple (intL ns)), .no, .no], by simp, [s0, s1, s2, s3, s4, s5, s6, s7, s8, s9, s10, .no, .fr (.tuple (intL ns)), .no, .no], by simp [k1, k2], fun _ => by simp, fun _ => ⟨[s0, s1, s2, s3, s4, s5, s6, s7, s8, s9, s10, .no, .fr (.tuple (intL ns)), .no, .no], by simp, by simp⟩⟩) (small_sz (by simp; omega))
  rw [e]
  simp
theorem row_fit {d : Int} {z : D} (h : rowP d z) (h3 : d ≤ 3) : fitB 12 1 z := by
  obtain ⟨ns, rfl, h1, h2⟩ := h
  refine fitB_tup.mpr ⟨by rw [len_intL]; omega, fun x hx => ?_⟩
  obtain ⟨n, hn, rfl⟩ := List.mem_map.mp hx
  have := h2 n hn
  exact fitB_int.mpr ⟨by omega, by omega⟩
theorem grid_fit {d : Int} {zs : List D} (h1 : 1 ≤ d) (h3 : d ≤ 3) (hl : zs.length ≤ 3) (hz : ∀ z ∈ zs, rowP d z) : fitB 12 3 (.tuple [.int d, .tuple zs]) := by
  refine fitB_tup.mpr ⟨by simp, fun x hx => ?_⟩
  simp only [List.mem_cons, List.not_mem_nil, or_false] at hx
  rcases hx with rfl | rfl
  · exact fitB_int.mpr ⟨by omega, by omega⟩
  · exact fitB_tup.mpr ⟨by omega, fun x hx => row_fit (hz x hx) h3⟩
theorem grid_is {d : Int} {zs : List D} (h1 : 1 ≤ d) (hz : ∀ z ∈ zs, rowP d z) : gridB (.tuple [.int d, .tuple zs]) = true := by
  have e1 : pairN (.tuple [.int d, .tuple zs]) = true := by simp [pairN, h1]
  have e2 : (rowsOf (.tuple [.int d, .tuple zs])).all (rowN (headN (.tuple [.int d, .tuple zs]))) = true := by
    rw [List.all_eq_true]
    intro z hz'
    obtain ⟨ns, rfl, l1, l2⟩ := hz z hz'
    show ((intL ns).all isZ && decide (((intL ns).length : Int) = toI (.int d))) = true
    rw [isZ_intL, len_intL, l1]
    simp
  unfold gridB
  rw [e1, e2]
  rfl
theorem bundle_is {d : Int} {zs : List D} (h1 : 1 ≤ d) (hz : ∀ z ∈ zs, rowP d z) : bundleB (.tuple [.int d, .tuple (zs.filter notO)]) = true := by
  have e1 := grid_is (zs := zs.filter notO) h1 fun z h => hz z (List.mem_filter.mp h).1
  have e2 : (rowsOf (.tuple [.int d, .tuple (zs.filter notO)])).all notO = true := by
    rw [List.all_eq_true]
    exact fun z h => (List.mem_filter.mp h).2
  unfold bundleB
  rw [e1, e2]
  rfl
theorem rep5 {Γ : En} : cRep (cCons (cC (.bool true)) cNil) (cC (.int 5)) Γ = some (.nw (.list [.bool true, .bool true, .bool true, .bool true, .bool true]), Γ) := by
  have h : (1 : Nat) ≤ sizeLine := by decide
  have h2 : (5 : Nat) ≤ sizeLine := by decide
  simp [cRep, h, h2, List.replicate]
set_option maxHeartbeats 0 in
theorem body_ok (sc t : D) (es : List D) (s3 s4 s5 s6 s7 s8 s9 s10 : Sl) (hp : Pot es) (h3 : notLn s3 = true) (h4 : notLn s4 = true) (h5 : notLn s5 = true) (h6 : notLn s6 = true) (h7 : notLn s7 = true) (h8 : notLn s8 = true) (h9 : notLn s9 = true) (h10 : notLn s10 = true) :
    ∃ es' d rows bd so le wi s9' s10', cBody [.fr sc, .ow (.list es), .fr t, s3, s4, s5, s6, s7, s8, s9, s10, .no, .no, .no, .no] = some (.nx, [.fr sc, .ow (.list es'), .fr t, .fr d, .fr rows, .fr bd, .fr so, .fr le, .fr wi, s9', s10', .no, .no, .no, .no]) ∧ Pot es' ∧ notLn s9' = true ∧ notLn s10' = true := by
  obtain ⟨q1, d1, e1, a1, b1, p1⟩ := tk hp (m := 3) (by omega) (by omega)
  obtain ⟨q6, zs, d0, d2, e0, a6, b6, e2, p2, l2, hz⟩ := rows_ok (d := 1 + q1) (by omega) (by omega) sc t s4 s5 s6 s7 s8 s9 s10 d1 p1
  have e3 := filt_ok (d := 1 + q1) hz l2 (by omega) (.fr sc) (.ow (.list d2)) (.fr t) (.fr (.int (1 + q1))) (.fr (.tuple zs)) s5 s6 s7 s8 s9 s10
  obtain ⟨S1, d3, e4, p3, k1, m1, lo1, hi1, w1⟩ := small_set p2
  obtain ⟨S2, d4, e5, p4, k2, m2, lo2, hi2, w2⟩ := small_set p3
  have f1 : Few S1 := few_of k1 (by omega) (by omega) (by omega)
  have f2 : Few S2 := few_of k2 (by omega) (by omega) (by omega)
  obtain ⟨kT, hT⟩ := lst_ok k2
  obtain ⟨t1, t2, t3, t4⟩ := lst_bounds k2
  have fT : Few (lst S2) := few_of kT (by omega) (by omega) (by omega)
  have e6 := (r_least k2 f2).2
  obtain ⟨b, far, near, d5, hb, q2, q3, q4, q5, e7, p5⟩ := wider_ok kT fT p4
  obtain ⟨kW, hW⟩ := wide_ok kT hb q2 q4
  have mW : (wideS (lst S2) b far near).m ≤ 12 := by
    show (lst S2).m * b ≤ 12
    rcases hb with rfl | rfl <;> omega
  have loW : (wideS (lst S2) b far near).lo = (lst S2).lo - far := rfl
  have hiW : (wideS (lst S2) b far near).hi = (lst S2).hi + near := rfl
  have lW : lst (wideS (lst S2) b far near) = lst S2 := lst_same kW k2 fun n => (hW n).trans (hT n)
  generalize hWd : wideS (lst S2) b far near = W at e7 kW hW mW loW hiW lW
  have lT : lst (lst S2) = lst S2 := lst_lst k2
  generalize hTd : lst S2 = T at *
  have fW : Few W := few_of kW (by omega) (by omega) (by omega)
  have g1 := grid_fit (by omega) (by omega) l2 hz
  have hz2 : ∀ z ∈ zs.filter notO, rowP (1 + q1) z := fun z h => hz z (List.mem_filter.mp h).1
  have g2 := grid_fit (zs := zs.filter notO) (by omega) (by omega) (Nat.le_trans (List.length_filter_le _ _) l2) hz2
  have z1 : fitB 12 2 (stD S1) := stD_fitB k1 (by omega) (by omega) (by omega) (by omega) (by omega) (by omega)
  have zT : fitB 12 2 (stD T) := stD_fitB kT (by omega) (by omega) (by omega) (by omega) (by omega) (by omega)
  have zW : fitB 12 2 (stD W) := stD_fitB kW (by omega) (by omega) (by omega) (by omega) (by omega) (by omega)
  obtain ⟨_, v1, v2, _⟩ := fitB_parts (by omega) g1
  obtain ⟨_, v3, v4, _⟩ := fitB_parts (by omega) g2
  obtain ⟨v5, _, _, _⟩ := fitB_parts (by omega) z1
  obtain ⟨v6, _, _, _⟩ := fitB_parts (by omega) zT
  obtain ⟨v7, _, _, _⟩ := fitB_parts (by omega) zW
  have c1 := (r_is_grid _ v1 v2).1
  rw [grid_is (by omega) hz] at c1
  have c2 := (r_is_bundle _ v3 v4).1
  rw [bundle_is (by omega) hz] at c2
  have c3 := (r_is_set _ v5).1
  rw [isSet_stD k1] at c3
  have c4 := (r_is_set _ v7).1
  rw [isSet_stD kW] at c4
  have c5 := r_is_least k1 f1 (by omega)
  have c6 := r_is_least kT fT (by omega)
  rw [lT] at c6
  have c7 := r_is_least kW fW (by omega)
  rw [lW] at c7
  have c8 := (r_least k1 f1).2
  have c9 := dEq_stD W T
  rw [show decide (W = T) = decide (T = W) from decide_eq_decide.mpr eq_comm] at c9
  have c10 := dEq_stD (lst S1) S1
  obtain ⟨es', s9', s10', k3, k4, k5, k6⟩ := end_ok sc t (.int (1 + q1)) (.tuple zs) (.tuple [.int (1 + q1), .tuple (zs.filter notO)]) (stD S1) (stD T) (stD W) d5 s9 s10 h9 h10 g2 g1 (fitB_mono (by omega) (by omega) z1) (fitB_mono (by omega) (by omega) zT) p5
  refine ⟨es', .int (1 + q1), .tuple zs, .tuple [.int (1 + q1), .tuple (zs.filter notO)], stD S1, stD T, stD W, s9', s10', ?_, k4, k5, k6⟩
  have r1 : (-4611686018427387904 ≤ q6) := by omega
  have r2 : (q6 < 4611686018427387904) := by omega
  unfold cBody
  simp [-ev_47, putF, h3, h4, h5, h6, h7, h8, e1, e0, r1, r2, e2, e3, e4, e5, e6, e7, c1, c2, c3, c4, c5, c6, c7, c8, c9, c10, same5, same2, perm, rep5, k3]
def Turn (sc : D) (Γ : En) : Prop := ∃ es s2 s3 s4 s5 s6 s7 s8 s9 s10, Pot es ∧ (notLn s2 = true ∧ notLn s3 = true ∧ notLn s4 = true ∧ notLn s5 = true ∧ notLn s6 = true ∧ notLn s7 = true ∧ notLn s8 = true ∧ notLn s9 = true ∧ notLn s10 = true) ∧ Γ = [.fr sc, .ow (.list es), s2, s3, s4, s5, s6, s7, s8, s9, s10, .no, .no, .no, .no]
theorem turn_ok (sc : D) (d : D) (Γ : En) (h : Turn sc Γ) : ∃ Γ1, gN 2 d Γ = some Γ1 ∧ ∃ Γ2, cBody Γ1 = some (.nx, Γ2) ∧ Turn sc Γ2 := by
  obtain ⟨es, s2, s3, s4, s5, s6, s7, s8, s9, s10, hp, ⟨h2, h3, h4, h5, h6, h7, h8, h9, h10⟩, rfl⟩ := h
  obtain ⟨es', a3, a4, a5, a6, a7, a8, s9', s10', k1, k2, k3, k4⟩ := body_ok sc d es s3 s4 s5 s6 s7 s8 s9 s10 hp h3 h4 h5 h6 h7 h8 h9 h10
  exact ⟨_, by rw [ev_46, putF (by simpa using h2)]; rfl, _, k1, es', _, _, _, _, _, _, _, s9', s10', k2, ⟨rfl, rfl, rfl, rfl, rfl, rfl, rfl, k3, k4⟩, rfl⟩
theorem law_true (ns : List Int) (h : ns.length ≤ 63) : ∃ Γf, c_law [.fr (.list (ns.map fun n => PySem.PyData.int n))] = some (.fr (.bool true), Γf) := by
  have e0 : c__law_pot [.fr (.list (ns.map .int))] = some (.nw (.list (.int 0 :: .int 5801 :: .int 3 :: ns.map .int)), [.no]) := pot0 (by omega)
  have hp : Pot (.int 0 :: .int 5801 :: .int 3 :: ns.map .int) := ⟨0, 5801, 3, ns, rfl, by omega, by omega, by omega, by omega, by omega⟩
  obtain ⟨Γ', k1, es, s2, s3, s4, s5, s6, s7, s8, s9, s10, _, _, rfl⟩ := forL_inv (g := gN 2) (body := cBody) (I := Turn (.list (ns.map .int))) (rngD 0 12) [.fr (.list (ns.map .int)), .ow (.list (.int 0 :: .int 5801 :: .int 3 :: ns.map .int)), .no, .no, .no, .no, .no, .no, .no, .no, .no, .no, .no, .no, .no]
    ⟨_, _, _, _, _, _, _, _, _, _, hp, ⟨rfl, rfl, rfl, rfl, rfl, rfl, rfl, rfl, rfl⟩, rfl⟩ (fun d _ Γ hΓ => turn_ok _ d Γ hΓ)
  refine ⟨[.no], ?_⟩
  rw [law_eq]
  have e0' : c__law_pot [.fr (.list (ns.map fun n => PySem.PyData.int n))] = some (.nw (.list (.int 0 :: .int 5801 :: .int 3 :: ns.map fun n => PySem.PyData.int n)), [.no]) := e0
  simp [e0', k1]
end W82

open PySem PySem.W PyProof.Rows
set_option maxRecDepth 100000 in
set_option maxHeartbeats 0 in
theorem PySem.Challenge.cw_wholesayings_k82_whole_values_that_are_b_holds : PySem.Challenge.rw_wholesayings_k82_whole_values_that_are_b.Holds := by
  w_on; o_law; k_head; (case hw => w_witness2)
  k_fill
  refine L2.walk_of (l := PySem.Challenge.rw_wholesayings_k82_whole_values_that_are_b) (n := 63) (k := 63) (x := "script") (CX := fun _ => L2.CX0) (sp := fun w => Pu.spP _ W82.c_law) rfl (by decide) rfl ⟨rfl, by decide, by decide⟩ (fun w h Y => PySem.W.kIn_of Y) ?F
    (fun _ H a ns hl _ hS => Pu.law_end hS (W82.law_true ns hl)) (fun _ _ _ _ _ h => h)
  case F =>
    intro w mg fa h KX G hmg
    refine' W82.all_mk KX G hmg ?z_all ?z_any ?z_bool ?z_int ?z_isinstance ?z_len ?z_list ?z_max ?z_min ?z_range ?z_set ?z_sorted ?z_str ?z_tuple ?i_lcm ?a_is_integer_ ?l_is_integer ?c_is_integer_ ?k_is_integer_ ?a_is_pair_ ?l_is_pair ?c_is_pair_ ?k_is_pair_ ?a_are_integers_ ?l_are_integers ?c_are_integers_ ?k_are_integers_ ?a_is_ascending_ ?l_is_ascending ?c_is_ascending_ ?k_is_ascending_ ?a_is_set_ ?l_is_set ?c_is_set_ ?k_is_set_ ?a_has_it_ ?l_has_it ?c_has_it_ ?k_has_it_ ?a_least_round_ ?l_least_round ?c_least_round_ ?k_least_round_ ?a_least_of_ ?l_least_of ?c_least_of_ ?k_least_of_ ?a_is_least_set_ ?l_is_least_set ?c_is_least_set_ ?k_is_least_set_ ?a_is_stick_ ?l_is_stick ?c_is_stick_ ?k_is_stick_ ?a_is_bundle_of_ ?l_is_bundle_of ?c_is_bundle_of_ ?k_is_bundle_of_ ?a_is_bundle_ ?l_is_bundle ?c_is_bundle_ ?k_is_bundle_ ?a_is_grid_ ?l_is_grid ?c_is_grid_ ?k_is_grid_ ?a__law_pot_ ?l__law_pot ?c__law_pot_ ?k__law_pot_ ?a__law_take_ ?l__law_take ?c__law_take_ ?k__law_take_ ?a__law_same_ ?l__law_same ?c__law_same_ ?k__law_same_ ?a__law_has_ ?l__law_has ?c__law_has_ ?k__law_has_ ?a__law_goes_ ?l__law_goes ?c__law_goes_ ?k__law_goes_ ?a__law_least_ ?l__law_least ?c__law_least_ ?k__law_least_ ?a__law_small_set_ ?l__law_small_set ?c__law_small_set_ ?k__law_small_set_ ?a__law_mutant_ ?l__law_mutant ?c__law_mutant_ ?k__law_mutant_ ?a__law_integer_ ?l__law_integer ?c__law_integer_ ?k__law_integer_ ?a__law_row_of_integers_ ?l__law_row_of_integers ?c__law_row_of_integers_ ?k__law_row_of_integers_ ?a__law_headed_ ?l__law_headed ?c__law_headed_ ?k__law_headed_ ?a__law_is_grid_ ?l__law_is_grid ?c__law_is_grid_ ?k__law_is_grid_ ?a__law_is_bundle_ ?l__law_is_bundle ?c__law_is_bundle_ ?k__law_is_bundle_ ?a__law_ascends_ ?l__law_ascends ?c__law_ascends_ ?k__law_ascends_ ?a__law_is_set_ ?l__law_is_set ?c__law_is_set_ ?k__law_is_set_ ?a__law_near_ ?l__law_near ?c__law_near_ ?k__law_near_ ?a__law_pairs_ ?l__law_pairs ?c__law_pairs_ ?k__law_pairs_ ?a__law_wider_ ?l__law_wider ?c__law_wider_ ?k__law_wider_ ?a_law_ ?l_law ?c_law_ ?k_law_
    (case z_all => k_is)
    (case z_any => k_is)
    (case z_bool => k_is)
    (case z_int => k_is)
    (case z_isinstance => k_is)
    (case z_len => k_is)
    (case z_list => k_is)
    (case z_max => k_is)
    (case z_min => k_is)
    (case z_range => k_is)
    (case z_set => k_is)
    (case z_sorted => k_is)
    (case z_str => k_is)
    (case z_tuple => k_is)
    (case i_lcm => k_is)
    (case a_is_integer_ => k_is)
    (case l_is_integer => k_is)
    (case c_is_integer_ => k_is)
    (case k_is_integer_ => k_is)
    (case a_is_pair_ => k_is)
    (case l_is_pair => k_is)
    (case c_is_pair_ => k_is)
    (case k_is_pair_ => k_is)
    (case a_are_integers_ => k_is)
    (case l_are_integers => k_is)
    (case c_are_integers_ => k_is)
    (case k_are_integers_ => k_is)
    (case a_is_ascending_ => k_is)
    (case l_is_ascending => k_is)
    (case c_is_ascending_ => k_is)
    (case k_is_ascending_ => k_is)
    (case a_is_set_ => k_is)
    (case l_is_set => k_is)
    (case c_is_set_ => k_is)
    (case k_is_set_ => k_is)
    (case a_has_it_ => k_is)
    (case l_has_it => k_is)
    (case c_has_it_ => k_is)
    (case k_has_it_ => k_is)
    (case a_least_round_ => k_is)
    (case l_least_round => k_is)
    (case c_least_round_ => k_is)
    (case k_least_round_ => k_is)
    (case a_least_of_ => k_is)
    (case l_least_of => k_is)
    (case c_least_of_ => k_is)
    (case k_least_of_ => k_is)
    (case a_is_least_set_ => k_is)
    (case l_is_least_set => k_is)
    (case c_is_least_set_ => k_is)
    (case k_is_least_set_ => k_is)
    (case a_is_stick_ => k_is)
    (case l_is_stick => k_is)
    (case c_is_stick_ => k_is)
    (case k_is_stick_ => k_is)
    (case a_is_bundle_of_ => k_is)
    (case l_is_bundle_of => k_is)
    (case c_is_bundle_of_ => k_is)
    (case k_is_bundle_of_ => k_is)
    (case a_is_bundle_ => k_is)
    (case l_is_bundle => k_is)
    (case c_is_bundle_ => k_is)
    (case k_is_bundle_ => k_is)
    (case a_is_grid_ => k_is)
    (case l_is_grid => k_is)
    (case c_is_grid_ => k_is)
    (case k_is_grid_ => k_is)
    (case a__law_pot_ => k_is)
    (case l__law_pot => k_is)
    (case c__law_pot_ => k_is)
    (case k__law_pot_ => k_is)
    (case a__law_take_ => k_is)
    (case l__law_take => k_is)
    (case c__law_take_ => k_is)
    (case k__law_take_ => k_is)
    (case a__law_same_ => k_is)
    (case l__law_same => k_is)
    (case c__law_same_ => k_is)
    (case k__law_same_ => k_is)
    (case a__law_has_ => k_is)
    (case l__law_has => k_is)
    (case c__law_has_ => k_is)
    (case k__law_has_ => k_is)
    (case a__law_goes_ => k_is)
    (case l__law_goes => k_is)
    (case c__law_goes_ => k_is)
    (case k__law_goes_ => k_is)
    (case a__law_least_ => k_is)
    (case l__law_least => k_is)
    (case c__law_least_ => k_is)
    (case k__law_least_ => k_is)
    (case a__law_small_set_ => k_is)
    (case l__law_small_set => k_is)
    (case c__law_small_set_ => k_is)
    (case k__law_small_set_ => k_is)
    (case a__law_mutant_ => k_is)
    (case l__law_mutant => k_is)
    (case c__law_mutant_ => k_is)
    (case k__law_mutant_ => k_is)
    (case a__law_integer_ => k_is)
    (case l__law_integer => k_is)
    (case c__law_integer_ => k_is)
    (case k__law_integer_ => k_is)
    (case a__law_row_of_integers_ => k_is)
    (case l__law_row_of_integers => k_is)
    (case c__law_row_of_integers_ => k_is)
    (case k__law_row_of_integers_ => k_is)
    (case a__law_headed_ => k_is)
    (case l__law_headed => k_is)
    (case c__law_headed_ => k_is)
    (case k__law_headed_ => k_is)
    (case a__law_is_grid_ => k_is)
    (case l__law_is_grid => k_is)
    (case c__law_is_grid_ => k_is)
    (case k__law_is_grid_ => k_is)
    (case a__law_is_bundle_ => k_is)
    (case l__law_is_bundle => k_is)
    (case c__law_is_bundle_ => k_is)
    (case k__law_is_bundle_ => k_is)
    (case a__law_ascends_ => k_is)
    (case l__law_ascends => k_is)
    (case c__law_ascends_ => k_is)
    (case k__law_ascends_ => k_is)
    (case a__law_is_set_ => k_is)
    (case l__law_is_set => k_is)
    (case c__law_is_set_ => k_is)
    (case k__law_is_set_ => k_is)
    (case a__law_near_ => k_is)
    (case l__law_near => k_is)
    (case c__law_near_ => k_is)
    (case k__law_near_ => k_is)
    (case a__law_pairs_ => k_is)
    (case l__law_pairs => k_is)
    (case c__law_pairs_ => k_is)
    (case k__law_pairs_ => k_is)
    (case a__law_wider_ => k_is)
    (case l__law_wider => k_is)
    (case c__law_wider_ => k_is)
    (case k__law_wider_ => k_is)
    (case a_law_ => k_is)
    (case l_law => k_is)
    (case c_law_ => k_is)
    (case k_law_ => k_is)
